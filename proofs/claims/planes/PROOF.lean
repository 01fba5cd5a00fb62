import PyProof.Rows.All
import Wide.All
import OpenK.AllK
import Wide.FinOn
import PyProof.EqAt
import PyProof.EqKinds
import PyProof.TupleCall
import KE.GoesMore
import KE.GoesZip
import HandS.ForMost
import HandS.Walk
import HandS.Zip0
import KE.KLam
import KE.KFromBytes
import HandS.Exc
import HandS.TryOnly
import HandS.ExcOwn
import HandS.ExcInit
import HandS.WordsExc
import HandS.Codes
import HandS.Conv
import HandS.IsInst
import HandS.Wide
import HandS.TupAny
import HandS.TupMul
import HandS.Lambda
import HandS.Defaults
import HandS.HeadHook1
import HandS.HeadHook2
import PySem.Challenge.RW_planebetween_k28_whole_planes_go_along
import HandS.Style
import KE.KStateDown
import Lean
import HandS.Head0
import HandS.Head1
import HandS.Head2
import HandS.HeadHook4
import HandS.NoneIn
import HandS.More
import HandS.WordsDict
import PyProof.ReprRoads
import PyProof.FitsInt
import PyProof.ReprLen
import HandS.EndTab
import HandS.HeadWalk
/-! ## ZP -/
set_option Elab.async false
set_option linter.all false
set_option maxRecDepth 100000
set_option maxHeartbeats 4000000
/-! rows of either kind (a list or a tuple): walked, zipped, counted -/
namespace PB
open PySem PySem.Spec PyProof.Rows L2
/-- a tuple (t) or a list of xs stands at a -/
def SqF (t : Bool) (K : PySem.W.Frag) (H : Hp) (a : Addr) (xs : List V) : Prop := match t with
  | true => SqT K H a xs
  | false => SqL K H a xs
def RowF (t : Bool) (xs : List V) : HO := match t with
  | true => .tup xs
  | false => .lst xs
theorem SqF.of {t : Bool} {K : PySem.W.Frag} {H : Hp} {a : Addr} {xs : List V} (h : H a = some (RowF t xs)) : SqF t K H a xs := by
  cases t with
  | true => exact .inl (.inl h)
  | false => exact .inl (.inl h)
/-- the same at the library's level -/
def SeqAt (t : Bool) (h : Heap) (l : Addr) (its : Array Value) : Prop := match t with
  | true => h.IsTuple l its
  | false => h.IsList l its
def IterAt (t : Bool) (h : Heap) (it l : Addr) (i : Nat) : Prop := match t with
  | true => h.IsTupleIter it l i
  | false => h.IsListIter it l i
theorem same_rd {H H' : Hp} {a : Addr} {u : HO} (e : Same H H') (h : Rd H a u) : Rd H' a u := by
  rcases h with h | ⟨o, h⟩
  · exact .inl (e _ _ h)
  · exact .inr ⟨o, e _ _ h⟩
theorem sqF_same {t : Bool} {K : PySem.W.Frag} {H H' : Hp} {a : Addr} {xs : List V} (e : Same H H') (h : SqF t K H a xs) : SqF t K H' a xs := by
  cases t with
  | true =>
    rcases h with h | h
    · exact .inl (same_rd e h)
    · exact .inr h
  | false =>
    rcases h with h | h
    · exact .inl (same_rd e h)
    · exact .inr h
theorem IterAt.move {t : Bool} {h h' : Heap} {it l : Addr} {i : Nat} (x : IterAt t h it l i) (k : ∀ o, h.get? it = some o → h'.get? it = some o) : IterAt t h' it l i := by
  cases t with
  | true => exact Heap.IsTupleIter.at x k
  | false => exact Heap.IsListIter.at x k
theorem IterAt.obj {t : Bool} {h : Heap} {it l : Addr} {i : Nat} (x : IterAt t h it l i) : ∃ o, h.get? it = some o ∧ ∀ v, o.data ≠ .cell v := by
  cases t with
  | true =>
    obtain ⟨o, e, _, d⟩ := x
    exact ⟨o, e, fun v q => by rw [d] at q; cases q⟩
  | false =>
    obtain ⟨o, e, _, d⟩ := x
    exact ⟨o, e, fun v q => by rw [d] at q; cases q⟩
theorem drawsAt {prog : Program} {w : World} {A : Around} (hh : A.handled = none) (t : Bool) (it l : Addr) (hne : l ≠ it) (its : Array Value) :
    Draws prog w A it [it, l] its.size (fun i v => its[i]? = some v) (fun i h => IterAt t h it l i ∧ SeqAt t h l its) := by
  cases t with
  | true => exact Draws.tuple hh it l hne its
  | false => exact Draws.list hh it l hne its
theorem SqF.at_ {t : Bool} {X : Cx} {pins : List (Addr × Obj)} {σ : L2.St} {H : Hp} {s : Shared} {a : Addr} {xs : List V} (I : Inv X pins σ H s) (h : SqF t X.K H a xs) :
    ∃ its : List Value, Vals xs its ∧ SeqAt t s.heap a its.toArray ∧ a < s.heap.objs.size := by
  cases t with
  | true =>
    obtain ⟨its, r, p, _⟩ := I.tuple h
    exact ⟨its, r, (show s.heap.IsTuple a its.toArray from p), IsTup.lt p⟩
  | false =>
    obtain ⟨its, r, p, _⟩ := I.list h
    exact ⟨its, r, p.isList, p.lt⟩
theorem SqF.inj {t : Bool} {X : Cx} {pins : List (Addr × Obj)} {σ : L2.St} {H : Hp} {s : Shared} {a : Addr} {xs ys : List V} (I : Inv X pins σ H s) (h : SqF t X.K H a xs) (h' : SqF t X.K H a ys) : xs = ys := by
  cases t with
  | true => exact I.tuple_inj h h'
  | false => exact I.list_inj h h'

/-! ### zip of two rows of either kind -/
theorem sepAt {z TI TO i1 i2 a b : Addr} (D : ZipApart z TI TO i1 i2 a b) : ZipSep2 z TI TO i1 i2 [i1, a] [i2, b] where
  TIz := D.TIz
  TOz := D.TOz
  TITO := D.TITO
  TIi1 := D.TIi1
  mem1 := by simp
  zf1 := by simp [D.i1z.symm, D.l1z.symm]
  Tf1 := by simp [D.TOi1, D.l1TO.symm]
  TIi2 := D.TIi2
  mem2 := by simp
  zf2 := by simp [D.i2z.symm, D.l2z.symm]
  Tf2 := by simp [D.TOi2, D.l2TO.symm]
  sep1_2 := by simp [D.i12, D.l2i1.symm]
  sep2_1 := by simp [D.i12.symm, D.l1i2.symm]
/-- both rows, of one length, as they stand at each turn; the items in new pairs -/
def ItzF (t1 t2 : Bool) (K : PySem.W.Frag) (a b : Addr) : It where
  go := fun i H => ∃ (xs ys : List V) (x y : V), SqF t1 K H a xs ∧ SqF t2 K H b ys ∧ xs[i]? = some x ∧ ys[i]? = some y
  yld := fun i H v H' => ∃ T x y, v = .ref T ∧ H T = none ∧ H' = upd H T (.tup [x, y]) ∧ (∀ xs, SqF t1 K H a xs → xs[i]? = some x) ∧ ∀ ys, SqF t2 K H b ys → ys[i]? = some y
  stop := fun i H => ∃ xs ys : List V, SqF t1 K H a xs ∧ SqF t2 K H b ys ∧ xs.length = i ∧ ys.length = i
def zipSt (t1 t2 : Bool) (a b z TI TO i1 i2 : Addr) (i : Nat) (h : Heap) : Prop :=
  IsZip h z TI TO .none ∧ IsPair h TI (.ref i1) (.ref i2) ∧ (∃ x y, IsPair h TO x y) ∧ IterAt t1 h i1 a i ∧ IterAt t2 h i2 b i
theorem five {c z TI TO i1 i2 : Addr} (h : c ∈ [z, TI, TO, i1, i2]) : c = z ∨ c = TI ∨ c = TO ∨ c = i1 ∨ c = i2 := by simpa using h
theorem zipSt.obj {t1 t2 : Bool} {a b z TI TO i1 i2 : Addr} {i : Nat} {h : Heap} (st : zipSt t1 t2 a b z TI TO i1 i2 i h) : ∀ c ∈ [z, TI, TO, i1, i2], ∃ o, h.get? c = some o ∧ ∀ v, o.data ≠ .cell v := fun c hc => by
  obtain ⟨hz, hTI, ⟨x, y, hTO⟩, h1, h2⟩ := st
  rcases five hc with q | q | q | q | q
  · subst q
    exact ⟨_, hz, fun v q => nomatch q⟩
  · subst q
    exact ⟨_, hTI, fun v q => nomatch q⟩
  · subst q
    exact ⟨_, hTO, fun v q => nomatch q⟩
  · subst q
    exact h1.obj
  · subst q
    exact h2.obj
theorem turn_zipF {P : Program} {w : World} {K : PySem.W.Frag} {elts : List Expr} {kk : Nat} {tpos : Pos} {t1 t2 : Bool} {a b z TI TO i1 i2 : Addr} (D : ZipApart z TI TO i1 i2 a b) :
    Turn P w K (.Tuple elts kk tpos) (ItzF t1 t2 K a b) [z, TI, TO, i1, i2] z (zipSt t1 t2 a b z TI TO i1 i2) where
  mem := by simp
  obj := fun i h st => st.obj
  keep := fun i h h' st k => by
    obtain ⟨hz, hTI, ⟨x, y, hTO⟩, h1, h2⟩ := st
    exact ⟨k z (by simp) _ hz, k TI (by simp) _ hTI, ⟨x, y, k TO (by simp) _ hTO⟩, h1.move fun o q => k i1 (by simp) o q, h2.move fun o q => k i2 (by simp) o q⟩
  item := by
    intro X hP hw hK hc i pins s σ H E I hf st hg
    subst hP hw hK
    obtain ⟨xs, ys, x, y, hqx, hqy, hx, hy⟩ := hg
    obtain ⟨us, r1, p1, _⟩ := hqx.at_ I
    obtain ⟨ws, r2, p2, _⟩ := hqy.at_ I
    obtain ⟨u1, e1, ru1⟩ := r1.get hx
    obtain ⟨u2, e2, ru2⟩ := r2.get hy
    have st0 := st
    obtain ⟨hz, hTI, ⟨x0, y0, hTO⟩, h1, h2⟩ := st
    have f1 : us.toArray[i]? = some u1 := by simpa using e1
    have f2 : ws.toArray[i]? = some u2 := by simpa using e2
    have l1 : i < us.toArray.size := (Array.getElem?_eq_some_iff.mp f1).1
    have l2 : i < ws.toArray.size := (Array.getElem?_eq_some_iff.mp f2).1
    have hh : X.A.in1.handled = none := I.ok.hd hc
    refine wpAny_pyNext_zipD2_item (sepAt D) (drawsAt hh t1 i1 a D.l1i1 us.toArray) (drawsAt hh t2 i2 b D.l2i2 ws.toArray) hz hTI hTO ⟨h1, p1⟩ ⟨h2, p2⟩ l1 l2 fun v1 v2 h' tk q1 q2 z' TO' s1' s2' hT hsz hk => ?_
    rw [f1] at q1
    rw [f2] at q2
    cases q1
    cases q2
    refine ⟨_, rfl, wpAny_letOwnedTupleGo_zip (s := { s with heap := h', toks := tk }) z' fun h'' z'' sb => ?_⟩
    have hlz : s.heap.objs.size ≠ z := Nat.ne_of_gt (Heap.lt_size hz)
    have hT2 : h''.get? s.heap.objs.size = some { cls := .type "tuple", data := .seq #[u1, u2] } := (sb.2 _ hlz).trans hT
    have new : ObjOk X.prog X.w (upd H s.heap.objs.size (.tup [x, y])) h'' s.heap.objs.size (.tup [x, y]) :=
      ⟨by show 2 ≤ sizeLine; decide, [u1, u2], .cons ru1 (.cons ru2 .nil), ⟨_, hT2, rfl, _, rfl⟩⟩
    have J : Inv X pins σ (upd H s.heap.objs.size (.tup [x, y])) { s with heap := h'', toks := tk } := by
      refine I.turnedNew (ch := [z, TI, TO, i1, i2]) (fun c o hb q => ?_) hf (Nat.le_refl _) new
      have n1 : c ≠ z := fun e => hb (by simp [e])
      have n2 : c ≠ TO := fun e => hb (by simp [e])
      have n3 : c ≠ i1 := fun e => hb (by simp [e])
      have n4 : c ≠ i2 := fun e => hb (by simp [e])
      exact (sb.2 c n1).trans (hk c o n1 n2 n3 n4 q)
    refine ⟨.ref s.heap.objs.size, _, J, rfl, ⟨_, x, y, rfl, I.hok.fresh (Nat.le_refl _), rfl, fun l hl => by rw [hl.inj I hqx]; exact hx, fun l hl => by rw [hl.inj I hqy]; exact hy⟩, ⟨z'', ?_, ⟨u1, u2, ?_⟩, ?_, ?_⟩, fun c hcm => ?_⟩
    · exact (sb.2 _ D.TIz).trans (hk _ _ D.TIz D.TITO D.TIi1 D.TIi2 hTI)
    · exact (sb.2 _ D.TOz).trans TO'
    · exact s1'.1.move fun o q => (sb.2 _ D.i1z).trans q
    · exact s2'.1.move fun o q => (sb.2 _ D.i2z).trans q
    · obtain ⟨o, ho, _⟩ := st0.obj c hcm
      rw [upd_ne (Nat.ne_of_lt (Heap.lt_size ho))]
      exact (hf c hcm).1
  done := by
    intro X hP hw hK hc i pins s σ H E I hf st hg
    subst hP hw hK
    obtain ⟨xs, ys, hqx, hqy, n1, n2⟩ := hg
    obtain ⟨us, r1, p1, _⟩ := hqx.at_ I
    obtain ⟨ws, r2, p2, _⟩ := hqy.at_ I
    obtain ⟨hz, hTI, ⟨x0, y0, hTO⟩, h1, h2⟩ := st
    have e1 : i = us.toArray.size := by rw [List.size_toArray, ← r1.length, n1]
    have e2 : i = ws.toArray.size := by rw [List.size_toArray, ← r2.length, n2]
    have hh : X.A.in1.handled = none := I.ok.hd hc
    refine wpAny_pyNext_zipD2_end (sepAt D) (drawsAt hh t1 i1 a D.l1i1 us.toArray) (drawsAt hh t2 i2 b D.l2i2 ws.toArray) hz hTI hTO ⟨h1, p1⟩ ⟨h2, p2⟩ (Nat.le_of_eq e1) (Nat.le_of_eq e2) (.inl e1) fun h' tk hk => ⟨rfl, ?_⟩
    exact I.turnedL (ch := [z, TI, TO, i1, i2]) (fun c o hb q => hk c o (fun e => hb (by simp [e])) (fun e => hb (by simp [e])) (fun e => hb (by simp [e])) (fun e => hb (by simp [e])) q) hf
  self := fun A i s Q E st h => wpAny_pyIter_zip st.1 h

/-! ### zip(x, y) is made -/
def itObj (t : Bool) (l : Addr) : Obj := match t with
  | true => { cls := .type "tuple_iterator", data := .fields #[.ref l, .int 0 0] }
  | false => { cls := .type "list_iterator", data := .fields #[.ref l, .int 0 0] }
theorem itObj_it {t : Bool} {h : Heap} {it l : Addr} (e : h.get? it = some (itObj t l)) : IterAt t h it l 0 := by
  cases t with
  | true => exact ⟨_, e, rfl, rfl⟩
  | false => exact ⟨_, e, rfl, rfl⟩
abbrev zh1 (t1 : Bool) (h : Heap) (l1 : Addr) : Heap := h.push (itObj t1 l1)
abbrev zh2 (t1 t2 : Bool) (h : Heap) (l1 l2 : Addr) : Heap := (zh1 t1 h l1).push (itObj t2 l2)
abbrev zh3 (t1 t2 : Bool) (h : Heap) (l1 l2 : Addr) : Heap := (zh2 t1 t2 h l1 l2).push { cls := .type "tuple", data := .seq #[.ref h.objs.size, .ref (zh1 t1 h l1).objs.size] }
abbrev zh4 (t1 t2 : Bool) (h : Heap) (l1 l2 : Addr) : Heap := (zh3 t1 t2 h l1 l2).push { cls := .type "tuple", data := .seq #[.none, .none] }
abbrev zh5 (t1 t2 : Bool) (h : Heap) (l1 l2 : Addr) : Heap := (zh4 t1 t2 h l1 l2).push { cls := .type "zip", data := .fields #[.none, .bool false, .bool false, .ref (zh2 t1 t2 h l1 l2).objs.size, .ref (zh3 t1 t2 h l1 l2).objs.size] }
theorem meets_zipF (t1 t2 : Bool) (l1 l2 : Addr) (xs ys : Array Value) :
    Meets (Builtin.«zip.__new__» ⟨[.type "zip", .ref l1, .ref l2], []⟩) (fun _ R s => SeqAt t1 s.heap l1 xs ∧ SeqAt t2 s.heap l2 ys ∧
      R (.ok (.ret (.ref (zh4 t1 t2 s.heap l1 l2).objs.size))) { s with heap := zh5 t1 t2 s.heap l1 l2 }) := by
  cases t1 <;> cases t2
  · exact meets_zip_new l1 l2 xs ys
  · refine .of_wp fun prog w A R s h => ?_
    obtain ⟨hp, g, d, tk, os⟩ := s
    obtain ⟨k1, k2, h⟩ := h
    have hsub := sub_zip
    have a1 : Heap.IsList (Shared.heap ⟨hp, g, d, tk, os⟩) l1 xs := k1
    have a2 : Heap.IsTuple (Shared.heap ⟨hp.push { cls := .type "list_iterator", data := .fields #[.ref l1, .int 0 0] }, g, d, tk, os⟩) l2 ys := Heap.IsTuple.push k2 _
    wp_walk using wpAny_pyIter_list a1, wpAny_pyIter_tuple a2
    exact ⟨_, rfl, h⟩
  · refine .of_wp fun prog w A R s h => ?_
    obtain ⟨hp, g, d, tk, os⟩ := s
    obtain ⟨k1, k2, h⟩ := h
    have hsub := sub_zip
    have a1 : Heap.IsTuple (Shared.heap ⟨hp, g, d, tk, os⟩) l1 xs := k1
    have a2 : Heap.IsList (Shared.heap ⟨hp.push { cls := .type "tuple_iterator", data := .fields #[.ref l1, .int 0 0] }, g, d, tk, os⟩) l2 ys := Heap.IsList.push k2 _
    wp_walk using wpAny_pyIter_tuple a1, wpAny_pyIter_list a2
    exact ⟨_, rfl, h⟩
  · exact RZ.meets_zipT_new l1 l2 xs ys
theorem call_zipF {prog : Program} {w : World} {A : Around} {E : Value → Shared → Prop} {s : Shared} {t1 t2 : Bool} {l1 l2 : Addr} {xs ys : Array Value} {Q : Value → Shared → Prop} (k1 : SeqAt t1 s.heap l1 xs) (k2 : SeqAt t2 s.heap l2 ys)
    (h : ∀ h', zipSt t1 t2 l1 l2 (s.heap.objs.size + 4) (s.heap.objs.size + 2) (s.heap.objs.size + 3) s.heap.objs.size (s.heap.objs.size + 1) 0 h' → (∀ c o, s.heap.get? c = some o → h'.get? c = some o) →
      Q (.ref (s.heap.objs.size + 4)) { s with heap := h' }) :
    wpAny (model prog w) A (call (.type "zip") [.ref l1, .ref l2]) Q E s := by
  refine callType_new F.called_zip (by decide) (F.typeCall_zip_2 _ _) (F.newCall_zip_2 _ _) (fun obj => F.args_object_init_3 obj _ _) F.entry_zip_new (meets_zipF t1 t2 l1 l2 xs ys) ⟨k1, k2, ?_⟩
  have n1 : (zh1 t1 s.heap l1).objs.size = s.heap.objs.size + 1 := Heap.size_push ..
  have n2 : (zh2 t1 t2 s.heap l1 l2).objs.size = s.heap.objs.size + 2 := by rw [Heap.size_push, n1]
  have n3 : (zh3 t1 t2 s.heap l1 l2).objs.size = s.heap.objs.size + 3 := by rw [Heap.size_push, n2]
  have n4 : (zh4 t1 t2 s.heap l1 l2).objs.size = s.heap.objs.size + 4 := by rw [Heap.size_push, n3]
  have up : ∀ {c : Addr} {o : Obj} {b : Obj} {k : Heap}, k.get? c = some o → (k.push b).get? c = some o := fun e => Heap.get?_push_of_some _ e
  have q5 : (zh5 t1 t2 s.heap l1 l2).get? (zh4 t1 t2 s.heap l1 l2).objs.size = some _ := Heap.get?_push_size _ rfl
  have q4 : (zh5 t1 t2 s.heap l1 l2).get? (zh3 t1 t2 s.heap l1 l2).objs.size = some _ := up (Heap.get?_push_size _ rfl)
  have q3 : (zh5 t1 t2 s.heap l1 l2).get? (zh2 t1 t2 s.heap l1 l2).objs.size = some _ := up (up (Heap.get?_push_size _ rfl))
  have q2 : (zh5 t1 t2 s.heap l1 l2).get? (zh1 t1 s.heap l1).objs.size = some (itObj t2 l2) := up (up (up (Heap.get?_push_size _ (by cases t2 <;> rfl))))
  have q1 : (zh5 t1 t2 s.heap l1 l2).get? s.heap.objs.size = some (itObj t1 l1) := up (up (up (up (Heap.get?_push_size _ (by cases t1 <;> rfl)))))
  show _ ∧ _
  rw [n2, n3, n4] at q5
  rw [n1, n2] at q3
  rw [n3] at q4
  rw [n1] at q2
  rw [n4]
  exact ⟨⟨_, q5, rfl⟩, h _ ⟨q5, q3, ⟨_, _, q4⟩, itObj_it q1, itObj_it q2⟩ fun c o x => up (up (up (up (up x))))⟩
theorem walk_zipF {K : PySem.W.Frag} {a b : Addr} {xs ys : List V} (t1 t2 : Bool) (hn : xs.length = ys.length) : Walk (ItzF t1 t2 K a b) xs.length (fun H => SqF t1 K H a xs ∧ SqF t2 K H b ys) (YPair (fun i => xs[i]?) (fun i => ys[i]?)) := by
  refine ⟨fun i _ hi q => ?_, fun _ q => ⟨xs, ys, q.1, q.2, rfl, hn.symm⟩, fun i H v H' _ q y => ?_⟩
  · have l2 : i < ys.length := by omega
    exact ⟨xs, ys, xs[i], ys[i], q.1, q.2, by simp [hi], by simp [l2]⟩
  · obtain ⟨T, x, z, h1, h2, h3, h4, h5⟩ := y
    exact ⟨T, x, z, h1, h2, h3, h4 xs q.1, h5 ys q.2⟩
def iZip2 (ta : TA) : TI := fun σ H R => ta σ H fun vs H1 => ∃ a b t1 t2 xs ys, vs = [.ref a, .ref b] ∧ H1 a = some (RowF t1 xs) ∧ H1 b = some (RowF t2 ys) ∧ xs.length = ys.length ∧
  ∀ J, Walk J xs.length (fun H => H a = some (RowF t1 xs) ∧ H b = some (RowF t2 ys)) (YPair (fun i => xs[i]?) (fun i => ys[i]?)) → R J H1
theorem k_zip {X : Cx} {e e2 : Expr} {ta : TA} {p pos tpos : Pos} {elts : List Expr} {kk : Nat} (hg : Gl X "zip") (hm : X.mg "zip" = none) (ha : PA X [e, e2] ta)
    (hs : starEach [e, e2] X.env = (false, eval e X.env) :: starEach [e2] X.env := by rfl) (hpl : (backTo pos (starEach [e2] X.env)).any (·.1) = false := by rfl) :
    PI X (.Tuple elts kk tpos) (.Call (.Name "zip" p) [e, e2] [] pos) (iZip2 ta) := by
  refine ⟨fun pins s σ H R I h => ?_⟩
  refine Call_ (ld_blt I hg hm PyProof.Rows.boot_zip (PyProof.Rows.callWith_type1 (thn (ha.run pos pins s σ H _ I h) fun us s1 ⟨vs, H1, I1, r1, a, b, t1, t2, xs, ys, ex, h1, h2, hl, q⟩ => ?_) hs hpl))
  subst ex
  cases r1 with
  | cons r rr =>
    cases rr with
    | cons r' rr =>
      cases rr
      cases r
      cases r'
      obtain ⟨us, _, p1, lt1⟩ := (SqF.of (K := X.K) h1).at_ I1
      obtain ⟨ws, _, p2, lt2⟩ := (SqF.of (K := X.K) h2).at_ I1
      have w := q (ItzF t1 t2 X.K a b) ((walk_zipF t1 t2 hl).mono (fun H hH => ⟨SqF.of hH.1, SqF.of hH.2⟩) fun _ _ _ _ _ _ y => y)
      refine call_zipF p1 p2 fun h' st k => wpAny_pyIter_zip st.1 ?_
      refine ⟨_, _, _, _, H1, rfl, I1.kept (t' := s1.toks) k, turn_zipF (t1 := t1) (t2 := t2) (PySem.W.ktu_apart s1.heap.objs.size a b lt1 lt2), st, fun c hc => ?_, w⟩
      have le : s1.heap.objs.size ≤ c := by
        rcases five hc with z | z | z | z | z <;> (subst z; first | exact Nat.le_refl _ | exact Nat.le_add_right _ _)
      exact I1.fpOk le (I1.hok.fresh le)
end PB

/-! ## EN -/
set_option Elab.async false
set_option linter.all false
set_option maxRecDepth 100000
set_option maxHeartbeats 4000000
/-! enumerate of a list or a tuple -/
namespace PB
open PySem PySem.Spec PyProof.Rows L2
theorem meets_enumT (l : Addr) (items : Array Value) (n : Nat) (dct : Option Addr) (sl : Array (Option Value)) :
    Meets (Builtin.«enumerate.__new__» ⟨[.type "enumerate", .ref l], []⟩) (fun _ R s => s.heap.get? l = some { cls := .type "tuple", dict := dct, data := .seq items n, slots := sl } ∧
      R (.ok (.ret (.ref (s.heap.push (itObj true l)).objs.size)))
        { s with heap := (s.heap.push (itObj true l)).push { cls := .type "enumerate", data := .fields #[.none, .bool false, .ref s.heap.objs.size, rawInt 0, .none, .none] } }) := by
  refine .of_wp fun prog w A R s h => ?_
  obtain ⟨hp, g, d, tk, os⟩ := s
  obtain ⟨hl, h⟩ := h
  have hsub := sub_enumerate
  have isT : Heap.IsTuple (Shared.heap ⟨hp, g, d, tk, os⟩) l items := ⟨_, hl, rfl, n, rfl⟩
  wp_walk using wpAny_loadPart' hl
  refine wpAny_stack_any fun st => wpAny_pure ?_
  split
  · rename_i c _ _ _ _ _
    cases (c == Value.type "enumerate") <;> (wp_walk using wpAny_loadPart' hl, wpAny_pyIter_tuple isT; exact ⟨_, rfl, h⟩)
  · wp_walk using wpAny_loadPart' hl, wpAny_pyIter_tuple isT
    exact ⟨_, rfl, h⟩
/-- the row at a as it stands at each turn, each item in a new pair behind its number -/
def IteF (t : Bool) (K : PySem.W.Frag) (a : Addr) : It where
  go := fun i H => ∃ (xs : List V) (x : V), SqF t K H a xs ∧ xs[i]? = some x
  yld := fun i H v H' => ∃ T x, v = .ref T ∧ H T = none ∧ H' = upd H T (.tup [.int (i : Nat), x]) ∧ ∀ xs, SqF t K H a xs → xs[i]? = some x
  stop := fun i H => ∃ xs : List V, SqF t K H a xs ∧ xs.length = i
def enumSt (t : Bool) (a e it : Addr) (i : Nat) (h : Heap) : Prop := (∃ old, IsEnum h e it ((i : Nat) : Int) old) ∧ IterAt t h it a i ∧ e ≠ it ∧ a ≠ it ∧ a ≠ e
theorem two {c e it : Addr} (h : c ∈ [e, it]) : c = e ∨ c = it := by simpa using h
theorem enumSt.obj {t : Bool} {a e it : Addr} {i : Nat} {h : Heap} (st : enumSt t a e it i h) : ∀ c ∈ [e, it], ∃ o, h.get? c = some o ∧ ∀ v, o.data ≠ .cell v := fun c hc => by
  obtain ⟨⟨old, he⟩, hi, _⟩ := st
  rcases two hc with q | q
  · subst q
    exact ⟨_, he, fun v q => nomatch q⟩
  · subst q
    exact hi.obj
theorem turn_enumF {P : Program} {w : World} {K : PySem.W.Frag} {elts : List Expr} {kk : Nat} {tpos : Pos} {t : Bool} (a e it : Addr) :
    Turn P w K (.Tuple elts kk tpos) (IteF t K a) [e, it] e (enumSt t a e it) where
  mem := by simp
  obj := fun i h st => st.obj
  keep := fun i h h' st k => by
    obtain ⟨⟨old, he⟩, hi, n1, n2, n3⟩ := st
    exact ⟨⟨old, k e (by simp) _ he⟩, hi.move fun o q => k it (by simp) o q, n1, n2, n3⟩
  item := by
    intro X hP hw hK hc i pins s σ H E I hf st hg
    subst hP hw hK
    obtain ⟨xs, x, hq, hx⟩ := hg
    obtain ⟨us, r, p, _⟩ := hq.at_ I
    obtain ⟨u, eu, ru⟩ := r.get hx
    have st0 := st
    obtain ⟨⟨old, he⟩, hi, n1, n2, n3⟩ := st
    have f1 : us.toArray[i]? = some u := by simpa using eu
    have l1 : i < us.toArray.size := (Array.getElem?_eq_some_iff.mp f1).1
    have hh : X.A.in1.handled = none := I.ok.hd hc
    refine wpAny_pyNext_enum_itemD (drawsAt hh t it a n2 us.toArray) he ⟨hi, p⟩ l1 n1 (by simp [n1, n3.symm]) fun v h' tk q1 ho s1' hT hsz hk => ?_
    rw [f1] at q1
    cases q1
    refine ⟨_, rfl, wpAny_letOwnedTupleGo_enum (s := { s with heap := h', toks := tk + 1 }) ho fun h'' he' sb => ?_⟩
    have hle : s.heap.objs.size ≠ e := Nat.ne_of_gt (Heap.lt_size he)
    have hT2 : h''.get? s.heap.objs.size = some { cls := .type "tuple", data := .seq #[.int i tk, u] } := (sb.2 _ hle).trans hT
    have new : ObjOk X.prog X.w (upd H s.heap.objs.size (.tup [.int (i : Nat), x])) h'' s.heap.objs.size (.tup [.int (i : Nat), x]) :=
      ⟨by show 2 ≤ sizeLine; decide, [.int i tk, u], .cons ⟨_, rfl⟩ (.cons ru .nil), ⟨_, hT2, rfl, _, rfl⟩⟩
    have J : Inv X pins σ (upd H s.heap.objs.size (.tup [.int (i : Nat), x])) { s with heap := h'', toks := tk + 1 } := by
      refine I.turnedNew (ch := [e, it]) (fun c o hb q => ?_) hf (Nat.le_refl _) new
      have m1 : c ≠ e := fun z => hb (by simp [z])
      have m2 : c ≠ it := fun z => hb (by simp [z])
      exact (sb.2 c m1).trans (hk c o m1 m2 q)
    refine ⟨.ref s.heap.objs.size, _, J, rfl, ⟨_, x, rfl, I.hok.fresh (Nat.le_refl _), rfl, fun l hl => by rw [hl.inj I hq]; exact hx⟩, ⟨⟨u, ?_⟩, s1'.1.move fun o q => (sb.2 it n1.symm).trans q, n1, n2, n3⟩, fun c hcm => ?_⟩
    · have e1 : ((i + 1 : Nat) : Int) = (i : Int) + 1 := by omega
      rw [e1]
      exact he'
    · obtain ⟨o, ho2, _⟩ := st0.obj c hcm
      rw [upd_ne (Nat.ne_of_lt (Heap.lt_size ho2))]
      exact (hf c hcm).1
  done := by
    intro X hP hw hK hc i pins s σ H E I hf st hg
    subst hP hw hK
    obtain ⟨xs, hq, n0⟩ := hg
    obtain ⟨us, r, p, _⟩ := hq.at_ I
    obtain ⟨⟨old, he⟩, hi, n1, n2, n3⟩ := st
    have e1 : i = us.toArray.size := by rw [List.size_toArray, ← r.length, n0]
    have hh : X.A.in1.handled = none := I.ok.hd hc
    obtain ⟨f0, f1, f2, f3, f4, f5⟩ := hf it (by simp)
    refine wpAny_pyNext_enum_endD (drawsAt hh t it a n2 us.toArray) he (by rw [← e1]; exact ⟨hi, p⟩) fun h' eb => ⟨rfl, ?_⟩
    exact I.turned (t' := s.toks) (fun c o hb q => eb c o hb q) f0 f1 f3 f4 f5
  self := fun A i s Q E st h => by
    obtain ⟨⟨_, he⟩, _⟩ := st
    exact wpAny_pyIter_enum he h
theorem call_enumF {prog : Program} {w : World} {A : Around} {E : Value → Shared → Prop} {s : Shared} {t : Bool} {l : Addr} {xs : Array Value} {Q : Value → Shared → Prop} (k : SeqAt t s.heap l xs) (hlt : l < s.heap.objs.size)
    (h : ∀ h', enumSt t l (s.heap.objs.size + 1) s.heap.objs.size 0 h' → (∀ c o, s.heap.get? c = some o → h'.get? c = some o) → Q (.ref (s.heap.objs.size + 1)) { s with heap := h' }) :
    wpAny (model prog w) A (call (.type "enumerate") [.ref l]) Q E s := by
  have n1 : s.heap.objs.size + 1 ≠ s.heap.objs.size := Nat.succ_ne_self _
  have n2 : l ≠ s.heap.objs.size := Nat.ne_of_lt hlt
  have n3 : l ≠ s.heap.objs.size + 1 := Nat.ne_of_lt (Nat.lt_succ_of_lt hlt)
  cases t with
  | false => exact call_enumerate_list k fun h' he hi _ kp => h h' ⟨⟨_, he⟩, hi, n1, n2, n3⟩ kp
  | true =>
    obtain ⟨⟨c, dct, dt, sl⟩, hl, hc, n, hd⟩ := k
    replace hc : c = .type "tuple" := hc
    replace hd : dt = .seq xs n := hd
    subst hc hd
    refine callType_new F.called_enumerate (by decide) (F.typeCall_enumerate_1 _) (F.newCall_enumerate_1 _) (fun obj => F.args_object_init_2 obj _) F.entry_enumerate_new (meets_enumT l xs n dct sl) ⟨hl, ?_⟩
    have z1 : (s.heap.push (itObj true l)).objs.size = s.heap.objs.size + 1 := Heap.size_push ..
    have up : ∀ {c : Addr} {o : Obj} {b : Obj} {k : Heap}, k.get? c = some o → (k.push b).get? c = some o := fun e => Heap.get?_push_of_some _ e
    have q2 : ((s.heap.push (itObj true l)).push { cls := .type "enumerate", data := .fields #[.none, .bool false, .ref s.heap.objs.size, rawInt 0, .none, .none] }).get? (s.heap.push (itObj true l)).objs.size = some _ := Heap.get?_push_size _ rfl
    have q1 : ((s.heap.push (itObj true l)).push { cls := .type "enumerate", data := .fields #[.none, .bool false, .ref s.heap.objs.size, rawInt 0, .none, .none] }).get? s.heap.objs.size = some (itObj true l) := up (Heap.get?_push_size _ rfl)
    show _ ∧ _
    rw [z1] at q2
    rw [z1]
    exact ⟨⟨_, q2, rfl⟩, h _ ⟨⟨_, q2⟩, itObj_it q1, n1, n2, n3⟩ fun c o x => up (up x)⟩
theorem walk_enumF {K : PySem.W.Frag} {a : Addr} {xs : List V} (t : Bool) : Walk (IteF t K a) xs.length (fun H => SqF t K H a xs) (YPair (fun i => some (.int (i : Nat))) (fun i => xs[i]?)) := by
  refine ⟨fun i _ hi q => ⟨xs, xs[i], q, by simp [hi]⟩, fun _ q => ⟨xs, q, rfl⟩, fun i H v H' _ q y => ?_⟩
  obtain ⟨T, x, h1, h2, h3, h4⟩ := y
  exact ⟨T, .int (i : Nat), x, h1, h2, h3, rfl, h4 xs q⟩
def iEnum2 (ta : TA) : TI := fun σ H R => ta σ H fun vs H1 => ∃ a t xs, vs = [.ref a] ∧ H1 a = some (RowF t xs) ∧ ∀ J, Walk J xs.length (fun H => H a = some (RowF t xs)) (YPair (fun i => some (.int (i : Nat))) (fun i => xs[i]?)) → R J H1
theorem k_enum {X : Cx} {e : Expr} {ta : TA} {p pos tpos : Pos} {elts : List Expr} {kk : Nat} (hg : Gl X "enumerate") (hm : X.mg "enumerate" = none) (ha : PA X [e] ta) (hs : starEach [e] X.env = [(false, eval e X.env)] := by rfl) :
    PI X (.Tuple elts kk tpos) (.Call (.Name "enumerate" p) [e] [] pos) (iEnum2 ta) := by
  refine ⟨fun pins s σ H R I h => ?_⟩
  refine Call_ (ld_blt I hg hm boot_enumerate (PyProof.Rows.callWith_type1 (thn (ha.run pos pins s σ H _ I h) fun us s1 ⟨vs, H1, I1, r1, a, t, xs, ex, h1, q⟩ => ?_) hs rfl))
  subst ex
  cases r1 with
  | cons r rr =>
    cases rr
    cases r
    obtain ⟨us, _, p1, lt1⟩ := (SqF.of (K := X.K) h1).at_ I1
    have w := q (IteF t X.K a) ((walk_enumF t).mono (fun H hH => SqF.of hH) fun _ _ _ _ _ _ y => y)
    refine call_enumF p1 lt1 fun h' st k => ?_
    obtain ⟨⟨old, he⟩, _⟩ := id st
    refine wpAny_pyIter_enum he ?_
    refine ⟨_, _, _, _, H1, rfl, I1.kept (t' := s1.toks) k, turn_enumF (t := t) a _ _, st, fun c hc => ?_, w⟩
    have le : s1.heap.objs.size ≤ c := by
      rcases two hc with z | z <;> (subst z; first | exact Nat.le_refl _ | exact Nat.le_add_right _ _)
    exact I1.fpOk le (I1.hok.fresh le)
end PB

/-! ## CM -/
set_option Elab.async false
set_option linter.all false
set_option maxRecDepth 100000
set_option maxHeartbeats 4000000
namespace PB
open PySem PySem.Spec PyProof.Rows L2
/-! ### the text -/
def top (i : Nat) : Stmt := PySem.Challenge.pw_planebetween_k28_whole_planes_go_along.main.body.getD i (.Pass ⟨0, 0, 0, 0⟩)
/-- a def that stands under a name of the module -/
structure At (K : PySem.W.Frag) (mg : Str → Option Value) (x : Str) (d : He.DefD) : Prop where
  ex : ∃ f fd, mg x = some (.ref f) ∧ FunD K d.name d.qual d.params d.body d.scope [] [] f fd
/-- a def by its name, with its promise -/
structure Cl (P : Program) (w : World) (K : PySem.W.Frag) (mg : Str → Option Value) (base : Heap) (CX : CXT) (k : Nat) (x : Str) (sp : Sp) : Prop where
  ex : ∃ (f : Addr) (fd : FuncData) (ps : List Str), FnOk P w K mg base CX k f fd ps sp ∧ mg x = some (.ref f) ∧ PySem.W.keepIn K (.ref f) = true ∧ Binds K fd ps []
/-- a method -/
structure Mt (P : Program) (w : World) (K : PySem.W.Frag) (mg : Str → Option Value) (base : Heap) (CX : CXT) (k : Nat) (C : Addr) (m : Str) (sp : Sp) : Prop where
  ex : ∃ (f : Addr) (fd : FuncData) (ps : List Str), Cls K C ∧ Meth K C m f ∧ FnOk P w K mg base CX k f fd ps sp ∧ Binds K fd ps []
section
variable {P : Program} {w : World} {K : PySem.W.Frag} {mg : Str → Option Value} {base : Heap} {CX : CXT}
theorem cl_of {x : Str} {d : He.DefD} {N ps : List Str} {k : Nat} {sp : Sp} (a : At K mg x d) (S : FnScope N ps d.scope)
    (hb : ∀ (kV doc pm : Value) (an : Option Addr) (cdv ct : Value) (us : List Value), us.length = ps.length → bindArgs (PySem.W.fnOf d.name d.qual d.params d.body d.scope .none kV doc pm an cdv ct) ⟨us, []⟩ = pure (ps.zip us))
    (len : ∀ vs H Q E, sp vs H Q E → vs.length = ps.length)
    (hbody : ∀ (f : Addr) (cdv : Value) (A : Around) (outer : List Env) (s : Shared) (H : Hp) (vs : List V) (Q : VK) (E : XK), Room k (A.deeper (envOfC d.qual d.scope s.heap.objs.size f cdv)) → sp vs H Q E →
      ∃ t, PSs (cxOf CX P w K mg base N d.qual d.scope f cdv A outer s H E) d.body t ∧ t { nx := fun _ H' => Q .non H', rt := Q } (L2.start N vs) H) : Cl P w K mg base CX (k + 1) x sp := by
  obtain ⟨f, fd, hm, F⟩ := a.ex
  exact ⟨f, fd, ps, F.ok S len fun cdv A outer s H vs Q E hr h => hbody f cdv A outer s H vs Q E hr h, hm, F.kp, F.bindsN hb⟩
/-- a method's text -/
structure AtM (K : PySem.W.Frag) (C : Addr) (m : Str) (d : He.DefD) : Prop where
  ex : ∃ f fd, Meth K C m f ∧ FunD K d.name d.qual d.params d.body d.scope [] [] f fd
theorem mt_of {C : Addr} {m : Str} {d : He.DefD} {N ps : List Str} {k : Nat} {sp : Sp} (c : Cls K C) (a : AtM K C m d) (S : FnScope N ps d.scope)
    (hb : ∀ (kV doc pm : Value) (an : Option Addr) (cdv ct : Value) (us : List Value), us.length = ps.length → bindArgs (PySem.W.fnOf d.name d.qual d.params d.body d.scope .none kV doc pm an cdv ct) ⟨us, []⟩ = pure (ps.zip us))
    (len : ∀ vs H Q E, sp vs H Q E → vs.length = ps.length)
    (hbody : ∀ (f : Addr) (cdv : Value) (A : Around) (outer : List Env) (s : Shared) (H : Hp) (vs : List V) (Q : VK) (E : XK), Room k (A.deeper (envOfC d.qual d.scope s.heap.objs.size f cdv)) → sp vs H Q E →
      ∃ t, PSs (cxOf CX P w K mg base N d.qual d.scope f cdv A outer s H E) d.body t ∧ t { nx := fun _ H' => Q .non H', rt := Q } (L2.start N vs) H) : Mt P w K mg base CX (k + 1) C m sp := by
  obtain ⟨f, fd, hm, F⟩ := a.ex
  exact ⟨f, fd, ps, c, hm, F.ok S len fun cdv A outer s H vs Q E hr h => hbody f cdv A outer s H vs Q E hr h, F.bindsN hb⟩
end
section
variable {X : Cx} {k j : Nat} {C : Addr} {x m : Str} {sp : Sp} {p pos apos : Pos} {e o : Expr} {es : List Expr} {ta : TE} {t : TA}
theorem pe_cl (c : Cl X.prog X.w X.K X.mg X.base C8.CX0 k x sp) (hr : Room j X.A) (hk : k ≤ j) (hg : Gl X x) (ha : PA X (e :: es) t)
    (hdb : (x == ("__debug__" : Str)) = false := by decide) (he : starEach (e :: es) X.env = (false, eval e X.env) :: starEach es X.env := by rfl) (hpl : (backTo pos (starEach es X.env)).any (·.1) = false := by rfl) :
    PE X (.Call (.Name x p) (e :: es) [] pos) (tCall sp [] C8.E0 t) := by
  obtain ⟨f, fd, ps, F, hm, kp, b⟩ := c.ex
  exact pe_call F (hr.mono hk) hg hm kp b .nil C8.pass0 ha hdb he hpl
/-- .. that may raise -/
theorem pe_clX {E : L2.St → XK} (c : Cl X.prog X.w X.K X.mg X.base (L2.CX X.prog X.w) k x sp) (hr : Room j X.A) (hk : k ≤ j) (hg : Gl X x) (hx : ∀ σ, PassesAt (L2.CX X.prog X.w) X σ (E σ)) (ha : PA X (e :: es) t)
    (hdb : (x == ("__debug__" : Str)) = false := by decide) (he : starEach (e :: es) X.env = (false, eval e X.env) :: starEach es X.env := by rfl) (hpl : (backTo pos (starEach es X.env)).any (·.1) = false := by rfl) :
    PE X (.Call (.Name x p) (e :: es) [] pos) (tCallS sp E t) := by
  obtain ⟨f, fd, ps, F, hm, kp, b⟩ := c.ex
  exact pe_callS F (hr.mono hk) hg hm kp b hx ha hdb he hpl
theorem pe_mth {pl : Sem Bool} (c : Mt X.prog X.w X.K X.mg X.base C8.CX0 k C m sp) (hr : Room j X.A) (hk : k ≤ j) (he : PE X o ta) (ha : PA X (e :: es) t)
    (hst : starEach (e :: es) X.env = (false, eval e X.env) :: starEach es X.env := by rfl) (hpl : (backTo pos (starEach es X.env)).any (·.1) = false := by rfl)
    (ht : eval (.Call (.Attribute o m apos) (e :: es) [] pos) X.env = (do
      let ov ← eval o X.env
      standAt apos.atName
      let (f, first) ← holding [ov] (getMethod ov m pl)
      callWith pos f first (backTo pos (starEach (e :: es) X.env)) (backToKw pos (keywordEach [] X.env))) := by rfl) :
    PE X (.Call (.Attribute o m apos) (e :: es) [] pos) (tMeth C m sp [] C8.E0 ta t) := by
  obtain ⟨f, fd, ps, hc, hm, F, b⟩ := c.ex
  exact pe_meth (pl := pl) he hc hm F (hr.mono hk) b .nil C8.pass0 ha hst hpl ht
theorem pe_mth0 {pl : Sem Bool} (c : Mt X.prog X.w X.K X.mg X.base C8.CX0 k C m sp) (hr : Room j X.A) (hk : k ≤ j) (he : PE X o ta)
    (ht : eval (.Call (.Attribute o m apos) [] [] pos) X.env = (do
      let ov ← eval o X.env
      standAt apos.atName
      let (f, first) ← holding [ov] (getMethod ov m pl)
      callWith pos f first (backTo pos (starEach [] X.env)) (backToKw pos (keywordEach [] X.env))) := by rfl) :
    PE X (.Call (.Attribute o m apos) [] [] pos) (tMeth C m sp [] C8.E0 ta tNil) := by
  obtain ⟨f, fd, ps, hc, hm, F, b⟩ := c.ex
  exact pe_meth0 (pl := pl) he hc hm F (hr.mono hk) b .nil C8.pass0 ht
end
/-! ### names of the module and of Python -/
theorem bt_len : bootBuiltins "len" = some (.builtin "len") := by decide +kernel
theorem bt_isinstance : bootBuiltins "isinstance" = some (.builtin "isinstance") := by decide +kernel
theorem bt_abs : bootBuiltins "abs" = some (.builtin "abs") := by decide +kernel
theorem bt_all : bootBuiltins "all" = some (.builtin "all") := by decide +kernel
theorem bt_any : bootBuiltins "any" = some (.builtin "any") := by decide +kernel
theorem bt_sum : bootBuiltins "sum" = some (.builtin "sum") := by decide +kernel
theorem bt_min : bootBuiltins "min" = some (.builtin "min") := by decide +kernel
theorem bt_max : bootBuiltins "max" = some (.builtin "max") := by decide +kernel
theorem bt_repr : bootBuiltins "repr" = some (.builtin "repr") := by decide +kernel
theorem bt_int : bootBuiltins "int" = some (.type "int") := by decide +kernel
theorem bt_bool : bootBuiltins "bool" = some (.type "bool") := by decide +kernel
theorem bt_str : bootBuiltins "str" = some (.type "str") := by decide +kernel
theorem bt_list : bootBuiltins "list" = some (.type "list") := by decide +kernel
theorem bt_tuple : bootBuiltins "tuple" = some (.type "tuple") := by decide +kernel
theorem bt_dict : bootBuiltins "dict" = some (.type "dict") := by decide +kernel
theorem bt_zip : bootBuiltins "zip" = some (.type "zip") := by decide +kernel
theorem bt_enumerate : bootBuiltins "enumerate" = some (.type "enumerate") := by decide +kernel
theorem bt_range : bootBuiltins "range" = some (.type "range") := by decide +kernel
structure TX (K : PySem.W.Frag) (mg : Str → Option Value) : Prop where
  b_len : mg "len" = none
  b_isinstance : mg "isinstance" = none
  b_abs : mg "abs" = none
  b_all : mg "all" = none
  b_any : mg "any" = none
  b_sum : mg "sum" = none
  b_min : mg "min" = none
  b_max : mg "max" = none
  b_repr : mg "repr" = none
  b_int : mg "int" = none
  b_bool : mg "bool" = none
  b_str : mg "str" = none
  b_list : mg "list" = none
  b_tuple : mg "tuple" = none
  b_dict : mg "dict" = none
  b_zip : mg "zip" = none
  b_enumerate : mg "enumerate" = none
  b_range : mg "range" = none
  g_LONGEST_NAME : ∃ u, mg "LONGEST_NAME" = some u ∧ RelV (.int 8) u
  g_LEAST_DIMS_planes : ∃ u, mg "LEAST_DIMS_planes" = some u ∧ RelV (.int 2) u
  g_MOST_DIMS_planes : ∃ u, mg "MOST_DIMS_planes" = some u ∧ RelV (.int 5) u
  g_LEAST_DIMS_points : ∃ u, mg "LEAST_DIMS_points" = some u ∧ RelV (.int 2) u
  g_MOST_DIMS_points : ∃ u, mg "MOST_DIMS_points" = some u ∧ RelV (.int 5) u
  g_FARTHEST : ∃ u, mg "FARTHEST" = some u ∧ RelV (.int 999) u
  g_MOST_POINTS : ∃ u, mg "MOST_POINTS" = some u ∧ RelV (.int 24) u
  g_MOST_HEAPS : ∃ u, mg "MOST_HEAPS" = some u ∧ RelV (.int 4) u
  g_FAR : ∃ u, mg "FAR" = some u ∧ RelV (.int 1998) u
  g_MOST_TIMES : ∃ u, mg "MOST_TIMES" = some u ∧ RelV (.int 9) u
  g_MOST_OF_SQUARE : ∃ u, mg "MOST_OF_SQUARE" = some u ∧ RelV (.int 9) u
  g_LETTERS : ∃ u, mg "LETTERS" = some u ∧ RelV (.str "abcdefghijklmnopqrstuvwxyz") u
/-! ### rows, kinds -/
theorem sqLT {t : Bool} {K : PySem.W.Frag} {H : Hp} {a : Addr} {xs : List V} (h : H a = some (RowF t xs)) : SqL K H a xs ∨ SqT K H a xs := by
  cases t with
  | true => exact .inr (.inl (.inl h))
  | false => exact .inl (.inl (.inl h))
theorem sqT {K : PySem.W.Frag} {H : Hp} {a : Addr} {xs : List V} (h : H a = some (.tup xs)) : SqT K H a xs := .inl (.inl h)
theorem sqL {K : PySem.W.Frag} {H : Hp} {a : Addr} {xs : List V} (h : H a = some (.lst xs)) : SqL K H a xs := .inl (.inl h)
abbrev vi (ns : List Int) : List V := ns.map V.int
/-- what isinstance says -/
inductive IsB (H : Hp) : V → String → Bool → Prop where
  | int (i : Int) : IsB H (.int i) "int" true
  | intBool (i : Int) : IsB H (.int i) "bool" false
  | str (z : Str) : IsB H (.str z) "str" true
  | tup {a : Addr} {xs : List V} (h : H a = some (.tup xs)) : IsB H (.ref a) "tuple" true
section
variable {X : Cx}
theorem cr_isB : CallR X (.builtin "isinstance") (fun xs H Q => ∃ x T b, xs = [x, .ty T] ∧ IsB H x T b ∧ Q (.bl b) H) := by
  intro pins s σ H xs us Q I r h
  obtain ⟨x, T, b, rfl, k, q⟩ := h
  refine call_isi pins s σ H _ us Q I r ?_
  cases k with
  | int i => exact ⟨_, _, .type "int", .type "int", true, rfl, .ty _, .base (.int i), if_pos (beq_self_eq_true _), q⟩
  | intBool i => exact ⟨_, _, .type "int", .type "bool", false, rfl, .ty _, .base (.int i), kit_ty (by decide +kernel), q⟩
  | str z => exact ⟨_, _, .type "str", .type "str", true, rfl, .ty _, .base (.str z), if_pos (beq_self_eq_true _), q⟩
  | tup h => exact ⟨_, _, .type "tuple", .type "tuple", true, rfl, .ty _, .base (.tup h), if_pos (beq_self_eq_true _), q⟩
/-- isinstance(x, (list, tuple)) of a row -/
theorem cr_isLT : CallR X (.builtin "isinstance") (fun xs H Q => ∃ (a tp : Addr) (t : Bool) (ys : List V), xs = [.ref a, .ref tp] ∧ H tp = some (.tup [.ty "list", .ty "tuple"]) ∧ H a = some (RowF t ys) ∧ Q (.bl true) H) := by
  intro pins s σ H xs us Q I r h
  obtain ⟨a, tp, t, ys, rfl, h1, h2, q⟩ := h
  refine call_isiT pins s σ H _ us Q I r ?_
  have k : Paired ClsV [.ty "list", .ty "tuple"] [.type "list", .type "tuple"] := .cons (.ty _) (.cons (.ty _) .nil)
  cases t with
  | true => exact ⟨_, _, _, .type "tuple", _, true, rfl, h1, k, .base (.tup h2), kitAny_cons (kit_ty (b := "list") (r := false) (by decide +kernel)) (fun _ => kitAny_cons (kit_ty (b := "tuple") (r := true) (by decide +kernel)) (fun z => nomatch z) fun _ => rfl) (fun z => nomatch z), q⟩
  | false => exact ⟨_, _, _, .type "list", _, true, rfl, h1, k, .base (.lst h2), kitAny_cons (kit_ty (b := "list") (r := true) (by decide +kernel)) (fun z => nomatch z) (fun _ => rfl), q⟩
end
/-! ### two rules' readings as one -/
theorem same_upd {H : Hp} {p : Addr} {o : HO} (h : H p = none) : Same H (upd H p o) := fun a u e => by
  rw [upd_ne (ne_of_none e h)]
  exact e
theorem Same.get {H H' : Hp} (e : Same H H') {a : Addr} {o : HO} (h : H a = some o) : H' a = some o := e a o h
/-- all but what stands at b stays -/
def But (b : Addr) (H H' : Hp) : Prop := ∀ a o, a ≠ b → H a = some o → H' a = some o
theorem Same.but {b : Addr} {H H' : Hp} (e : Same H H') : But b H H' := fun a o _ h => e a o h
theorem But.refl {b : Addr} (H : Hp) : But b H H := fun _ _ _ h => h
theorem But.trans {b : Addr} {H H1 H2 : Hp} (e : But b H H1) (f : But b H1 H2) : But b H H2 := fun a o n h => f a o n (e a o n h)
theorem But.free {b l : Addr} {H H' : Hp} (e : But b H H') (n : l ≠ b) (h : H' l = none) : H l = none := by
  cases q : H l with
  | none => rfl
  | some o =>
    rw [e l o n q] at h
    cases h
end PB

/-! ## CM2 -/
set_option Elab.async false
set_option linter.all false
set_option maxRecDepth 100000
set_option maxHeartbeats 4000000
namespace PB
open PySem PySem.Spec PyProof.Rows L2
/-! ### rules whose readings speak of the tracked heap alone -/
section
variable {X : Cx}
theorem k_ix : IxR X (fun x y H Q => ∃ p t xs i v, x = .ref p ∧ y = .int i ∧ H p = some (RowF t xs) ∧ atI xs i = some v ∧ Q v H) := by
  intro value slice pins s σ H x y v u Q I rx ry h
  obtain ⟨p, t, xs, i, z, rfl, rfl, hp, hi, q⟩ := h
  cases t with
  | true => exact ix_tup value slice pins s σ H _ _ v u Q I rx ry ⟨p, xs, i, z, rfl, rfl, sqT hp, hi, q⟩
  | false => exact ix_list value slice pins s σ H _ _ v u Q I rx ry ⟨p, xs, i, z, rfl, rfl, sqL hp, hi, q⟩
def rInK (neg : Bool) : R2 := fun x y H Q => ∃ p t xs, y = .ref p ∧ H p = some (RowF t xs) ∧ flatV x = true ∧ xs.all flatV = true ∧ Q (.bl (if neg then !inV x xs else inV x xs)) H
theorem k_in : OpR X (compareOp .In) (rInK false) := by
  intro pins s σ H x y v u Q I rx ry h
  obtain ⟨p, t, xs, rfl, hp, a, b, q⟩ := h
  exact op_in_seq pins s σ H x _ v u Q I rx ry ⟨p, xs, rfl, sqLT hp, a, b, q⟩
theorem k_notIn : OpR X (compareOp .NotIn) (rInK true) := by
  intro pins s σ H x y v u Q I rx ry h
  obtain ⟨p, t, xs, rfl, hp, a, b, q⟩ := h
  exact op_notIn_seq pins s σ H x _ v u Q I rx ry ⟨p, xs, rfl, sqLT hp, a, b, q⟩
theorem k_len : CallR X (.builtin "len") (fun xs H Q => ∃ p t ys, xs = [.ref p] ∧ H p = some (RowF t ys) ∧ Q (.int ys.length) H) := by
  intro pins s σ H xs us Q I r h
  obtain ⟨p, t, ys, rfl, hp, q⟩ := h
  exact call_len_seq pins s σ H _ us Q I r ⟨p, ys, rfl, sqLT hp, q⟩
theorem k_list : CallR X (.type "list") (fun xs H Q => ∃ p t ys, xs = [.ref p] ∧ H p = some (RowF t ys) ∧ ∀ l, H l = none → Q (.ref l) (upd H l (.lst ys))) := by
  intro pins s σ H xs us Q I r h
  obtain ⟨p, t, ys, rfl, hp, q⟩ := h
  exact call_list_of pins s σ H _ us Q I r ⟨p, ys, rfl, sqLT hp, q⟩
/-- tuple(x): a new one, or x itself -/
theorem k_tuple : CallR X (.type "tuple") (fun xs H Q => ∃ p t ys, xs = [.ref p] ∧ H p = some (RowF t ys) ∧ ∀ l H', Same H H' → H' l = some (.tup ys) → Q (.ref l) H') := by
  intro pins s σ H xs us Q I r h
  obtain ⟨p, t, ys, rfl, hp, q⟩ := h
  cases t with
  | true => exact call_tuple_of pins s σ H _ us Q I r ⟨p, ys, rfl, .inr ⟨sqT hp, q p H (Same.refl H) hp⟩⟩
  | false => exact call_tuple_of pins s σ H _ us Q I r ⟨p, ys, rfl, .inl ⟨sqL hp, fun l hl => q l _ (same_upd hl) upd_same⟩⟩
/-- x[a:b] -/
theorem k_sl : SlR X (fun x lo hi H Q => ∃ p t xs, x = .ref p ∧ H p = some (RowF t xs) ∧ ∀ l H', Same H H' → H' l = some (RowF t (cutV xs lo hi)) → Q (.ref l) H') := by
  intro pins s σ H x v vl vu lo hi sl Q I rx hs pl pu h
  obtain ⟨p, t, xs, rfl, hp, q⟩ := h
  cases t with
  | true =>
    refine sl_tupA pins s σ H _ v vl vu lo hi sl Q I rx hs pl pu ⟨p, xs, rfl, sqT hp, fun c => ?_, fun _ l hl => q l _ (same_upd hl) upd_same⟩
    have e : cutV xs lo hi = xs := by
      unfold cutV
      rw [c.1, c.2]
      simp
    exact q p H (Same.refl H) (by rw [e]; exact hp)
  | false => exact sl_list pins s σ H _ v vl vu lo hi sl Q I rx hs pl pu ⟨p, xs, rfl, sqL hp, fun l hl => q l _ (same_upd hl) upd_same⟩
theorem k_sum (hc : X.calm = true) : CallR X (.builtin "sum") (fun vs H Q => ∃ (a : Addr) (ns : List Int), vs = [.ref a] ∧ H a = some (.lst (vi ns)) ∧ Q (.int ns.sum) H) := by
  intro pins s σ H vs us Q I r h
  obtain ⟨a, ns, rfl, hp, q⟩ := h
  exact cr_sum hc pins s σ H _ us Q I r ⟨a, ns, rfl, sqL hp, q⟩
theorem k_all (hc : X.calm = true) : CallR X (.builtin "all") (fun vs H Q => ∃ (a : Addr) (bs : List Bool), vs = [.ref a] ∧ H a = some (.lst (bs.map V.bl)) ∧ Q (.bl (bs.all id)) H) := by
  intro pins s σ H vs us Q I r h
  obtain ⟨a, bs, rfl, hp, q⟩ := h
  exact cr_all hc pins s σ H _ us Q I r ⟨a, bs, rfl, sqL hp, q⟩
theorem k_any (hc : X.calm = true) : CallR X (.builtin "any") (fun vs H Q => ∃ (a : Addr) (bs : List Bool), vs = [.ref a] ∧ H a = some (.lst (bs.map V.bl)) ∧ Q (.bl (bs.any id)) H) := by
  intro pins s σ H vs us Q I r h
  obtain ⟨a, bs, rfl, hp, q⟩ := h
  exact cr_any hc pins s σ H _ us Q I r ⟨a, bs, rfl, sqL hp, q⟩
theorem k_max (hc : X.calm = true) : CallR X (.builtin "max") (fun vs H Q => ∃ (a : Addr) (ns : List Int), vs = [.ref a] ∧ H a = some (.lst (vi ns)) ∧ 0 < ns.length ∧ ∀ m, m ∈ ns → (∀ y, y ∈ ns → y ≤ m) → Q (.int m) H) := by
  intro pins s σ H vs us Q I r h
  obtain ⟨a, ns, rfl, hp, hn, q⟩ := h
  exact cr_max hc pins s σ H _ us Q I r ⟨a, ns, rfl, sqL hp, hn, q⟩
theorem k_min (hc : X.calm = true) : CallR X (.builtin "min") (fun vs H Q => ∃ (a : Addr) (ns : List Int), vs = [.ref a] ∧ H a = some (.lst (vi ns)) ∧ 0 < ns.length ∧ ∀ m, m ∈ ns → (∀ y, y ∈ ns → m ≤ y) → Q (.int m) H) := by
  intro pins s σ H vs us Q I r h
  obtain ⟨a, ns, rfl, hp, hn, q⟩ := h
  exact cr_min hc pins s σ H _ us Q I r ⟨a, ns, rfl, sqL hp, hn, q⟩
theorem k_dictP (hc : X.calm = true) : CallR X (.type "dict") (fun xs H Q => ∃ (a : Addr) (ps : List Addr) (kvs : List (Key × V)), xs = [.ref a] ∧ H a = some (.lst (ps.map V.ref)) ∧ Paired (fun p kv => H p = some (.tup [kV kv.1, kv.2])) ps kvs ∧
    ∀ p, H p = none → Q (.ref p) (upd H p (.dK (mergeK [] kvs)))) := by
  intro pins s σ H xs us Q I r h
  obtain ⟨a, ps, kvs, rfl, hp, hk, q⟩ := h
  exact call_dictP hc pins s σ H _ us Q I r ⟨a, ps, kvs, rfl, sqL hp, Paired.mapP hk fun p kv z => sqT z, q⟩
/-- x is True, x is False -/
theorem k_isBl : OpR X (compareOp .Is) (fun x y H Q => ∃ b : Bool, y = .bl b ∧ ((∃ a, x = .bl a ∧ Q (.bl (decide (a = b))) H) ∨ (x = .non ∧ Q (.bl false) H) ∨ (∃ p, x = .ref p ∧ Q (.bl false) H))) := by
  intro pins s σ H x y v u Q I rx ry h
  obtain ⟨b, rfl, h⟩ := h
  rcases h with ⟨a, rfl, q⟩ | ⟨rfl, q⟩ | ⟨p, rfl, q⟩
  · exact op_isBl pins s σ H _ _ v u Q I rx ry ⟨a, b, rfl, rfl, q⟩
  · cases (show u = Value.bool b from ry)
    cases (show v = Value.none from rx)
    exact wpAny_is_other rfl (fun z => nomatch z) ⟨.bl false, H, I, rfl, q⟩
  · cases (show u = Value.bool b from ry)
    cases (show v = Value.ref p from rx)
    exact wpAny_is_other rfl (fun z => nomatch z) ⟨.bl false, H, I, rfl, q⟩
end
/-- what the walk asks of the class Points -/
structure PX (K : PySem.W.Frag) (C : Addr) : Prop where
  cl : Cls K C
  n_wide : NoAttr K C "wide"
  n_kept : NoAttr K C "kept"
/-! ### targets, fields -/
section
variable {X : Cx} {pos pos' : Pos} {o e value : Expr} {f : Str} {C : Addr} {ta tv : TE}
def gT (n : Nat) (t : TGs) : TG := fun v σ H Q => ∃ a xs, v = .ref a ∧ H a = some (.tup xs) ∧ xs.length = n ∧ t xs σ H Q
theorem k_tup {es : List Expr} {k : Nat} {t : TGs} {n : Nat} (hc : X.calm = true) (h : PGs X es t) (hn : (assignEach es X.env).length = n := by rfl) (hst : (assignEach es X.env).findIdx? (·.1) = none := by rfl) : PG X (.Tuple es k pos) (gT n t) := by
  refine ⟨fun pins s σ H v u Q I r hw => ?_⟩
  obtain ⟨a, xs, e1, hq, hl, hw⟩ := hw
  exact (pg_tup hc h hn hst).run pins s σ H v u Q I r ⟨a, xs, e1, sqT hq, hl, hw⟩
def tF (ta : TE) (f : Str) : TE := fun σ H Q => ta σ H fun x H1 => ∃ a C dx fs v, x = .ref a ∧ H1 a = some (.ins C dx fs) ∧ fs.lookup f = some v ∧ Q v H1
def tFC (C : Addr) (ta : TE) (f : Str) : TE := fun σ H Q => ta σ H fun x H1 => ∃ a dx fs v, x = .ref a ∧ H1 a = some (.ins C dx fs) ∧ fs.lookup f = some v ∧ Q v H1
theorem pe_imp {t u : TE} (h : PE X e t) (w : ∀ σ H Q, u σ H Q → t σ H Q) : PE X e u := ⟨fun pins s σ H Q I q => h.run pins s σ H Q I (w σ H Q q)⟩
theorem ps_imp {st : Stmt} {t u : TS} (h : PS X st t) (w : ∀ D σ H, u D σ H → t D σ H) : PS X st u := ⟨fun pins s σ H D I q => h.run pins s σ H D I (w D σ H q)⟩
theorem k_fld (c : Cls X.K C) (n : NoAttr X.K C f) (he : PE X e ta) (hb : attributeBase e f X.env (eval e X.env) = eval e X.env := by rfl) : PE X (.Attribute e f pos) (tFC C ta f) := by
  refine ⟨fun pins s σ H Q I h => ?_⟩
  refine attr_of hb (thn (he.run pins s σ H _ I h) fun u s1 ⟨x, H1, I1, rx, a, dx, fs, v, ex, ea, l, q⟩ => ?_)
  subst ex
  obtain rfl : u = Value.ref a := rx
  exact getattr_ok I1 ea c n l fun u2 s2 I2 ru => ⟨v, H1, I2, ru, q⟩
def sFC (C : Addr) (ta tv : TE) (f : Str) : TS := fun D σ H => tv σ H fun y H1 => ta σ H1 fun x H2 => ∃ a dx fs, x = .ref a ∧ H2 a = some (.ins C dx fs) ∧ fs.length < 1000 ∧ D.nx σ (upd H2 a (.ins C dx (putF f y fs)))
theorem k_sfld (c : Cls X.K C) (n : NoAttr X.K C f) (ha : PE X o ta) (hv : PE X value tv) (hs : swapsWith value (some (.Attribute o f pos')) pos.line X.env = pure false := by rfl) : PS X (.Assign [.Attribute o f pos'] value pos) (sFC C ta tv f) := by
  refine ⟨fun pins s σ H D I h => ?_⟩
  refine plainObj_wpAny_Assign_Attribute (thn (hv.run pins s σ H _ I h) fun u s1 ⟨y, H1, I1, ry, q⟩ => thn (ha.run pins s1 σ H1 _ I1 q) fun ov s2 ⟨x, H2, I2, rx, a, dx, fs, ex, ea, l, q2⟩ => ?_) hs
  subst ex
  obtain rfl : ov = Value.ref a := rx
  exact setattr_ok I2 ea c n l ry fun s3 I3 => ⟨σ, _, I3, q2⟩
end
/-! ### what is walked -/
section
variable {X : Cx} {tg : Expr}
def iRow (tl : TE) : TI := fun σ H R => tl σ H fun x H1 => ∃ a t xs, x = .ref a ∧ H1 a = some (RowF t xs) ∧ ∀ J, Walk J xs.length (fun H => H a = some (RowF t xs)) (YAt xs) → R J H1
theorem k_row {l : Expr} {tl : TE} (hl : PE X l tl) : PI X tg l (iRow tl) := by
  refine ⟨fun pins s σ H R I h => ?_⟩
  refine thn (hl.run pins s σ H _ I h) fun v s1 ⟨x, H1, I1, r1, a, t, xs, e, hp, q⟩ => ?_
  subst e
  cases r1
  have fresh : ∀ c, c ∈ [s1.heap.objs.size] → FpOk X pins H1 c := fun c hc => by
    obtain rfl : c = s1.heap.objs.size := by simpa using hc
    exact I1.fpOk (Nat.le_refl _) (I1.hok.fresh (Nat.le_refl _))
  cases t with
  | true =>
    have w := q (Itt X.K a) (walk_tup.mono (fun H hH => sqT hH) fun _ _ _ _ _ _ y => y)
    obtain ⟨its, _, p, _⟩ := I1.tuple (sqT hp)
    refine wpAny_pyIter_tuple (show s1.heap.IsTuple a its.toArray from p) ?_
    exact ⟨_, _, _, _, H1, rfl, I1.kept (t' := s1.toks) fun c o e => Heap.get?_push_of_some _ e, turn_tuple a _, ⟨_, Heap.get?_push_size _ rfl, rfl, rfl⟩, fresh, w⟩
  | false =>
    have w := q (Itl X.K a) (walk_list.mono (fun H hH => sqL hH) fun _ _ _ _ _ _ y => y)
    obtain ⟨its, _, p, _⟩ := I1.list (sqL hp)
    refine wpAny_pyIter_list p.isList ?_
    exact ⟨_, _, _, _, H1, rfl, I1.kept (t' := s1.toks) fun c o e => Heap.get?_push_of_some _ e, turn_list a _, ⟨_, Heap.get?_push_size _ rfl, rfl, rfl⟩, fresh, w⟩
theorem pi_imp {it : Expr} {t u : TI} (h : PI X tg it t) (w : ∀ σ H R, u σ H R → t σ H R) : PI X tg it u := ⟨fun pins s σ H R I q => h.run pins s σ H R I (w σ H R q)⟩
end
end PB

/-! ## CM3 -/
set_option Elab.async false
set_option linter.all false
set_option maxRecDepth 100000
set_option maxHeartbeats 4000000
namespace PB
open PySem PySem.Spec PyProof.Rows L2
/-! ### comprehensions over anything that is walked -/
theorem take_snoc {α : Type} {l : List α} {i : Nat} {x : α} (h : l[i]? = some x) : l.take (i + 1) = l.take i ++ [x] := by
  rw [List.take_add_one, h]
  rfl
theorem sz_small {n : Nat} (h : n < 100000) : n < sizeLine := Nat.lt_of_lt_of_le h (by decide)
theorem yat_same {xs : List V} (i : Nat) (H : Hp) (x : V) (H' : Hp) (y : YAt xs i H x H') : Same H H' := by
  rw [y.1]
  exact Same.refl H
theorem yfn_same {f : Nat → V} (i : Nat) (H : Hp) (x : V) (H' : Hp) (y : YFn f i H x H') : Same H H' := by
  rw [y.1]
  exact Same.refl H
theorem ypair_same {xs ys : Nat → Option V} (i : Nat) (H : Hp) (x : V) (H' : Hp) (y : YPair xs ys i H x H') : Same H H' := by
  obtain ⟨T, a, b, _, hT, e, _⟩ := y
  rw [e]
  exact same_upd hT
/-- what is kept and made of the items, all else as it was -/
theorem lc_fm {α : Type} {J : It} {G : Hp → Prop} {Y : Nat → Hp → V → Hp → Prop} (as : List α) (p : α → Bool) (q : α → V) (w : Walk J as.length G Y) {g : TG} {tt : TT} {te : TE} {vs : List Nat} {σ : L2.St} {H1 : Hp} {D : Addr} {Qd : Hp → Prop} (hD : H1 D = none)
    (hY : ∀ i H x H', Y i H x H' → Same H H') (hG : ∀ H', Same H1 H' → G H') (hsz : as.length < 100000)
    (turn : ∀ i a x H H', as[i]? = some a → Same H1 H → Y i H x H' → ∀ (R : VK) (R' : Hp → Prop), (p a = true → ∀ H4, Same H' H4 → R (q a) H4) → (p a = false → ∀ H4, Same H' H4 → R' H4) →
      g x (wipe σ vs) H' fun σ2 H2 => wipe σ2 vs = wipe σ vs ∧ tt σ2 H2 fun b H3 => if b = true then te σ2 H3 R else R' H3)
    (hd : ∀ H', Same H1 H' → H' D = some (.lst ((as.filter p).map q)) → Qd H') :
    ∃ W : Nat → Nat → Hp → Prop, (∃ m, W 0 m (upd H1 D (.lst []))) ∧ ∀ i m H, W i m H →
      (J.stop i H ∧ Qd H) ∨ (J.go i H ∧ ∃ Nx : Hp → Prop, (∀ H', Nx H' → ∃ m', m' < m ∧ W (i + 1) m' H') ∧ ∀ x H', J.yld i H x H' → g x (wipe σ vs) H' fun σ2 H2 => wipe σ2 vs = wipe σ vs ∧ tt σ2 H2 fun b H3 =>
        if b = true then te σ2 H3 fun y H4 => ∃ acc, H4 D = some (.lst acc) ∧ acc.length < sizeLine ∧ Nx (upd H4 D (.lst (acc ++ [y]))) else Nx H3) := by
  refine lc_it w (fun i H => Same H1 H ∧ H D = some (.lst (((as.take i).filter p).map q))) ⟨same_upd hD, by rw [upd_same]; rfl⟩ (fun i H _ h => hG H h.1) (fun i x H H' hi h y => ?_) (fun H h => hd H h.1 (by rw [h.2, List.take_length]))
  have ha : as[i]? = some as[i] := List.getElem?_eq_getElem hi
  have s1 := hY i H x H' y
  refine turn i as[i] x H H' ha h.1 y _ _ (fun hp H4 s2 => ⟨_, s2 _ _ (s1 _ _ h.2), ?_, ?_, ?_⟩) (fun hp H4 s2 => ⟨(h.1.trans s1).trans s2, ?_⟩)
  · refine sz_small (Nat.lt_of_le_of_lt ?_ hsz)
    rw [List.length_map]
    exact Nat.le_trans (List.length_filter_le _ _) (by rw [List.length_take]; exact Nat.min_le_right _ _)
  · intro a o e
    rw [upd_ne (ne_of_none e hD)]
    exact s2 _ _ (s1 _ _ (h.1 _ _ e))
  · rw [upd_same, take_snoc ha, List.filter_append, List.map_append, List.filter_cons, if_pos hp]
    rfl
  · rw [s2 _ _ (s1 _ _ h.2), take_snoc ha, List.filter_append, List.map_append, List.filter_cons, if_neg (by rw [hp]; decide)]
    simp
theorem filter_all {α : Type} (as : List α) : as.filter (fun _ => true) = as := by simp
/-- .. without a test -/
theorem lc_m {α : Type} {J : It} {G : Hp → Prop} {Y : Nat → Hp → V → Hp → Prop} (as : List α) (q : α → V) (w : Walk J as.length G Y) {g : TG} {te : TE} {vs : List Nat} {σ : L2.St} {H1 : Hp} {D : Addr} {Qd : Hp → Prop} (hD : H1 D = none)
    (hY : ∀ i H x H', Y i H x H' → Same H H') (hG : ∀ H', Same H1 H' → G H') (hsz : as.length < 100000)
    (turn : ∀ i a x H H', as[i]? = some a → Same H1 H → Y i H x H' → ∀ (R : VK), (∀ H4, Same H' H4 → R (q a) H4) → g x (wipe σ vs) H' fun σ2 H2 => wipe σ2 vs = wipe σ vs ∧ te σ2 H2 R)
    (hm : ∀ i a x H H', as[i]? = some a → Same H1 H → Y i H x H' → ∀ (A B : L2.St → Hp → Prop), (∀ σ2 H2, A σ2 H2 → B σ2 H2) → g x (wipe σ vs) H' A → g x (wipe σ vs) H' B)
    (hd : ∀ H', Same H1 H' → H' D = some (.lst (as.map q)) → Qd H') :
    ∃ W : Nat → Nat → Hp → Prop, (∃ m, W 0 m (upd H1 D (.lst []))) ∧ ∀ i m H, W i m H →
      (J.stop i H ∧ Qd H) ∨ (J.go i H ∧ ∃ Nx : Hp → Prop, (∀ H', Nx H' → ∃ m', m' < m ∧ W (i + 1) m' H') ∧ ∀ x H', J.yld i H x H' → g x (wipe σ vs) H' fun σ2 H2 => wipe σ2 vs = wipe σ vs ∧ tYes σ2 H2 fun b H3 =>
        if b = true then te σ2 H3 fun y H4 => ∃ acc, H4 D = some (.lst acc) ∧ acc.length < sizeLine ∧ Nx (upd H4 D (.lst (acc ++ [y]))) else Nx H3) := by
  refine lc_fm as (fun _ => true) q w hD hY hG hsz (fun i a x H H' ha hs y R R' k _ => ?_) (fun H' hs h => hd H' hs (by rw [h, filter_all]))
  exact hm i a x H H' ha hs y _ _ (fun σ2 H2 z => ⟨z.1, (by show if true = true then te σ2 H2 R else R' H2; rw [if_pos rfl]; exact z.2)⟩) (turn i a x H H' ha hs y R (k rfl))
/-- items of unknown making: what is true of the i-th -/
theorem lc_rel {J : It} {n : Nat} {G : Hp → Prop} {Y : Nat → Hp → V → Hp → Prop} (E : Nat → V → Hp → Prop) (w : Walk J n G Y) {g : TG} {te : TE} {vs : List Nat} {σ : L2.St} {H1 : Hp} {D : Addr} {Qd : Hp → Prop} (hD : H1 D = none)
    (hY : ∀ i H x H', Y i H x H' → Same H H') (hG : ∀ H', Same H1 H' → G H') (hsz : n < 100000) (hE : ∀ i v H H', E i v H → Same H H' → E i v H') (hED : ∀ i v H l l', E i v H → H D = some (.lst l) → E i v (upd H D (.lst l')))
    (turn : ∀ i x H H', i < n → Same H1 H → Y i H x H' → ∀ (R : VK), (∀ z H4, Same H' H4 → E i z H4 → R z H4) →
      g x (wipe σ vs) H' fun σ2 H2 => wipe σ2 vs = wipe σ vs ∧ te σ2 H2 R)
    (hm : ∀ i x H H', i < n → Same H1 H → Y i H x H' → ∀ (A B : L2.St → Hp → Prop), (∀ σ2 H2, A σ2 H2 → B σ2 H2) → g x (wipe σ vs) H' A → g x (wipe σ vs) H' B)
    (hd : ∀ ys H', Same H1 H' → ys.length = n → (∀ i y, ys[i]? = some y → E i y H') → H' D = some (.lst ys) → Qd H') :
    ∃ W : Nat → Nat → Hp → Prop, (∃ m, W 0 m (upd H1 D (.lst []))) ∧ ∀ i m H, W i m H →
      (J.stop i H ∧ Qd H) ∨ (J.go i H ∧ ∃ Nx : Hp → Prop, (∀ H', Nx H' → ∃ m', m' < m ∧ W (i + 1) m' H') ∧ ∀ x H', J.yld i H x H' → g x (wipe σ vs) H' fun σ2 H2 => wipe σ2 vs = wipe σ vs ∧ tYes σ2 H2 fun b H3 =>
        if b = true then te σ2 H3 fun y H4 => ∃ acc, H4 D = some (.lst acc) ∧ acc.length < sizeLine ∧ Nx (upd H4 D (.lst (acc ++ [y]))) else Nx H3) := by
  refine lc_it w (fun i H => Same H1 H ∧ ∃ acc : List V, H D = some (.lst acc) ∧ acc.length = i ∧ ∀ j y, acc[j]? = some y → E j y H) ⟨same_upd hD, [], upd_same, rfl, fun j y h => by simp at h⟩ (fun i H _ h => hG H h.1)
    (fun i x H H' hi h y => ?_) (fun H h => ?_)
  · obtain ⟨s0, acc, e1, e2, e3⟩ := h
    have s1 := hY i H x H' y
    have T := turn i x H H' hi s0 y (fun y H4 => ∃ acc : List V, H4 D = some (.lst acc) ∧ acc.length < sizeLine ∧ (Same H1 (upd H4 D (.lst (acc ++ [y]))) ∧ ∃ acc2 : List V, (upd H4 D (.lst (acc ++ [y]))) D = some (.lst acc2) ∧ acc2.length = i + 1 ∧ ∀ j v, acc2[j]? = some v → E j v (upd H4 D (.lst (acc ++ [y]))))) (fun z H4 s2 ez => by
      refine ⟨acc, s2 _ _ (s1 _ _ e1), sz_small (by omega), fun a o e => ?_, acc ++ [z], upd_same, by rw [List.length_append, List.length_singleton, e2], fun j v hv => ?_⟩
      · rw [upd_ne (ne_of_none e hD)]
        exact s2 _ _ (s1 _ _ (s0 _ _ e))
      · by_cases hj : j < acc.length
        · rw [List.getElem?_append_left hj] at hv
          exact hED _ _ _ acc _ (hE _ _ _ _ (e3 j v hv) (s1.trans s2)) (s2 _ _ (s1 _ _ e1))
        · rw [List.getElem?_append_right (Nat.le_of_not_lt hj)] at hv
          by_cases hj2 : j - acc.length = 0
          · rw [hj2] at hv
            cases hv
            have : j = i := by omega
            subst this
            exact hED _ _ _ acc _ ez (s2 _ _ (s1 _ _ e1))
          · rw [List.getElem?_eq_none (by simp; omega)] at hv
            cases hv)
    refine hm i x H H' hi s0 y _ _ (fun σ2 H2 z => ⟨z.1, ?_⟩) T
    exact z.2
  · obtain ⟨s0, acc, e1, e2, e3⟩ := h
    exact hd acc H s0 e2 e3 e1
/-! ### the box -/
def BoxAt (H : Hp) (b : Addr) : Prop := ∃ x y z : Int, H b = some (.lst [.int x, .int y, .int z])
theorem BoxAt.ne {H : Hp} {b l : Addr} (h : BoxAt H b) (e : H l = none) : l ≠ b := fun q => by
  obtain ⟨x, y, z, h⟩ := h
  rw [← q, e] at h
  cases h
theorem BoxAt.same {H H' : Hp} {b : Addr} (h : BoxAt H b) (s : Same H H') : BoxAt H' b := by
  obtain ⟨x, y, z, h⟩ := h
  exact ⟨x, y, z, s _ _ h⟩
theorem BoxAt.upd {H : Hp} {b l : Addr} {o : HO} (h : BoxAt H b) (n : l ≠ b) : BoxAt (upd H l o) b := by
  obtain ⟨x, y, z, h⟩ := h
  exact ⟨x, y, z, by rw [upd_ne (fun q => n q.symm)]; exact h⟩
/-- items drawn from the box: what is true of the i-th -/
theorem lc_bx {J : It} {n : Nat} {G : Hp → Prop} {Y : Nat → Hp → V → Hp → Prop} (b : Addr) (E : Nat → V → Prop) (w : Walk J n G Y) {g : TG} {te : TE} {vs : List Nat} {σ : L2.St} {H1 : Hp} {D : Addr} {Qd : Hp → Prop} (hD : H1 D = none) (hB : BoxAt H1 b)
    (hY : ∀ i H x H', Y i H x H' → Same H H') (hG : ∀ H', But b H1 H' → BoxAt H' b → G H') (hsz : n < 100000)
    (turn : ∀ i x H H', i < n → But b H1 H → BoxAt H b → Y i H x H' → ∀ (R : VK), (∀ z H4, But b H' H4 → BoxAt H4 b → E i z → R z H4) → g x (wipe σ vs) H' fun σ2 H2 => wipe σ2 vs = wipe σ vs ∧ te σ2 H2 R)
    (hm : ∀ i x H H', i < n → But b H1 H → Y i H x H' → ∀ (A B : L2.St → Hp → Prop), (∀ σ2 H2, A σ2 H2 → B σ2 H2) → g x (wipe σ vs) H' A → g x (wipe σ vs) H' B)
    (hd : ∀ ys H', But b H1 H' → BoxAt H' b → ys.length = n → (∀ i y, ys[i]? = some y → E i y) → H' D = some (.lst ys) → Qd H') :
    ∃ W : Nat → Nat → Hp → Prop, (∃ m, W 0 m (upd H1 D (.lst []))) ∧ ∀ i m H, W i m H →
      (J.stop i H ∧ Qd H) ∨ (J.go i H ∧ ∃ Nx : Hp → Prop, (∀ H', Nx H' → ∃ m', m' < m ∧ W (i + 1) m' H') ∧ ∀ x H', J.yld i H x H' → g x (wipe σ vs) H' fun σ2 H2 => wipe σ2 vs = wipe σ vs ∧ tYes σ2 H2 fun b H3 =>
        if b = true then te σ2 H3 fun y H4 => ∃ acc, H4 D = some (.lst acc) ∧ acc.length < sizeLine ∧ Nx (upd H4 D (.lst (acc ++ [y]))) else Nx H3) := by
  have nD : D ≠ b := hB.ne hD
  refine lc_it w (fun i H => But b H1 H ∧ BoxAt H b ∧ ∃ acc : List V, H D = some (.lst acc) ∧ acc.length = i ∧ ∀ j y, acc[j]? = some y → E j y) ⟨Same.but (same_upd hD), hB.upd nD, [], upd_same, rfl, fun j y h => by simp at h⟩ (fun i H _ h => hG H h.1 h.2.1)
    (fun i x H H' hi h y => ?_) (fun H h => ?_)
  · obtain ⟨s0, hb, acc, e1, e2, e3⟩ := h
    have s1 := hY i H x H' y
    have T := turn i x H H' hi s0 hb y (fun y H4 => ∃ acc : List V, H4 D = some (.lst acc) ∧ acc.length < sizeLine ∧ (But b H1 (upd H4 D (.lst (acc ++ [y]))) ∧ BoxAt (upd H4 D (.lst (acc ++ [y]))) b ∧ ∃ acc2 : List V, (upd H4 D (.lst (acc ++ [y]))) D = some (.lst acc2) ∧ acc2.length = i + 1 ∧ ∀ j v, acc2[j]? = some v → E j v)) (fun z H4 s2 hb4 ez => by
      refine ⟨acc, s2 _ _ nD (s1 _ _ e1), sz_small (by omega), fun a o na e => ?_, hb4.upd nD, acc ++ [z], upd_same, by rw [List.length_append, List.length_singleton, e2], fun j v hv => ?_⟩
      · rw [upd_ne (ne_of_none e hD)]
        exact s2 _ _ na (s1 _ _ (s0 _ _ na e))
      · by_cases hj : j < acc.length
        · rw [List.getElem?_append_left hj] at hv
          exact e3 j v hv
        · rw [List.getElem?_append_right (Nat.le_of_not_lt hj)] at hv
          by_cases hj2 : j - acc.length = 0
          · rw [hj2] at hv
            cases hv
            have : j = i := by omega
            subst this
            exact ez
          · rw [List.getElem?_eq_none (by simp; omega)] at hv
            cases hv)
    refine hm i x H H' hi s0 y _ _ (fun σ2 H2 z => ⟨z.1, ?_⟩) T
    exact z.2
  · obtain ⟨s0, hb, acc, e1, e2, e3⟩ := h
    exact hd acc H s0 hb e2 e3 e1
end PB

/-! ## CD -/
set_option Elab.async false
set_option linter.all false
set_option maxRecDepth 100000
set_option maxHeartbeats 4000000
namespace PB
open PySem PySem.Spec PyProof.Rows L2
variable {P : Program} {w : World} {K : PySem.W.Frag} {mg : Str → Option Value} {base : Heap}
def d_NoPlace___init__ : He.DefD := ⟨("NoPlace", some "__init__"), "__init__", "NoPlace.__init__", defArgs (inClass (top 5) 0), defBody (inClass (top 5) 0), defScope (inClass (top 5) 0), [], []⟩
theorem sc_NoPlace___init__ : FnScope ["self", "found"] ["self", "found"] d_NoPlace___init__.scope := ⟨rfl, rfl, rfl, by decide +kernel, rfl, by decide +kernel, by decide +kernel⟩
def d_is_whole : He.DefD := ⟨("is_whole", none), "is_whole", "is_whole", defArgs (top 20), defBody (top 20), defScope (top 20), [], []⟩
theorem sc_is_whole : FnScope ["thing", "low", "high"] ["thing", "low", "high"] d_is_whole.scope := ⟨rfl, rfl, rfl, by decide +kernel, rfl, by decide +kernel, by decide +kernel⟩
def d_are_signs : He.DefD := ⟨("are_signs", none), "are_signs", "are_signs", defArgs (top 21), defBody (top 21), defScope (top 21), [], []⟩
theorem sc_are_signs : FnScope ["text", "signs", "most", "sign"] ["text", "signs", "most"] d_are_signs.scope := ⟨rfl, rfl, rfl, by decide +kernel, rfl, by decide +kernel, by decide +kernel⟩
def d_is_name : He.DefD := ⟨("is_name", none), "is_name", "is_name", defArgs (top 22), defBody (top 22), defScope (top 22), [], []⟩
theorem sc_is_name : FnScope ["thing"] ["thing"] d_is_name.scope := ⟨rfl, rfl, rfl, by decide +kernel, rfl, by decide +kernel, by decide +kernel⟩
def d_need_heaps : He.DefD := ⟨("need_heaps", none), "need_heaps", "need_heaps", defArgs (top 24), defBody (top 24), defScope (top 24), [], []⟩
theorem sc_need_heaps : FnScope ["one", "other", "heap"] ["one", "other"] d_need_heaps.scope := ⟨rfl, rfl, rfl, by decide +kernel, rfl, by decide +kernel, by decide +kernel⟩
def d_need_unlike : He.DefD := ⟨("need_unlike", none), "need_unlike", "need_unlike", defArgs (top 25), defBody (top 25), defScope (top 25), [], []⟩
theorem sc_need_unlike : FnScope ["one", "other"] ["one", "other"] d_need_unlike.scope := ⟨rfl, rfl, rfl, by decide +kernel, rfl, by decide +kernel, by decide +kernel⟩
def d_need_points : He.DefD := ⟨("need_points", none), "need_points", "need_points", defArgs (top 26), defBody (top 26), defScope (top 26), [], []⟩
theorem sc_need_points : FnScope ["points", "one", "other", "heap"] ["points", "one", "other"] d_need_points.scope := ⟨rfl, rfl, rfl, by decide +kernel, rfl, by decide +kernel, by decide +kernel⟩
def d_both_members : He.DefD := ⟨("both_members", none), "both_members", "both_members", defArgs (top 27), defBody (top 27), defScope (top 27), [], []⟩
theorem sc_both_members : FnScope ["points", "one", "other", "name"] ["points", "one", "other"] d_both_members.scope := ⟨rfl, rfl, rfl, by decide +kernel, rfl, by decide +kernel, by decide +kernel⟩
def d_dot_of : He.DefD := ⟨("dot_of", none), "dot_of", "dot_of", defArgs (top 28), defBody (top 28), defScope (top 28), [], []⟩
theorem sc_dot_of : FnScope ["one", "other", "number", "times"] ["one", "other"] d_dot_of.scope := ⟨rfl, rfl, rfl, by decide +kernel, rfl, by decide +kernel, by decide +kernel⟩
def d_common_of_ratios : He.DefD := ⟨("common_of_ratios", none), "common_of", "common_of", defArgs (top 30), defBody (top 30), defScope (top 30), [], []⟩
theorem sc_common_of_ratios : FnScope ["one", "other"] ["one", "other"] d_common_of_ratios.scope := ⟨rfl, rfl, rfl, by decide +kernel, rfl, by decide +kernel, by decide +kernel⟩
def d_is_number_ratios : He.DefD := ⟨("is_number_ratios", none), "is_number", "is_number", defArgs (top 32), defBody (top 32), defScope (top 32), [], []⟩
theorem sc_is_number_ratios : FnScope ["thing"] ["thing"] d_is_number_ratios.scope := ⟨rfl, rfl, rfl, by decide +kernel, rfl, by decide +kernel, by decide +kernel⟩
def d_lowest_of : He.DefD := ⟨("lowest_of", none), "lowest_of", "lowest_of", defArgs (top 34), defBody (top 34), defScope (top 34), [], []⟩
theorem sc_lowest_of : FnScope ["top", "bottom", "by"] ["top", "bottom"] d_lowest_of.scope := ⟨rfl, rfl, rfl, by decide +kernel, rfl, by decide +kernel, by decide +kernel⟩
def d_ratio_of : He.DefD := ⟨("ratio_of", none), "ratio_of", "ratio_of", defArgs (top 35), defBody (top 35), defScope (top 35), [], []⟩
theorem sc_ratio_of : FnScope ["top", "bottom"] ["top", "bottom"] d_ratio_of.scope := ⟨rfl, rfl, rfl, by decide +kernel, rfl, by decide +kernel, by decide +kernel⟩
def d_is_number_planes : He.DefD := ⟨("is_number_planes", none), "is_number", "is_number", defArgs (top 39), defBody (top 39), defScope (top 39), [], []⟩
theorem sc_is_number_planes : FnScope ["thing"] ["thing"] d_is_number_planes.scope := ⟨rfl, rfl, rfl, by decide +kernel, rfl, by decide +kernel, by decide +kernel⟩
def d_common_of_planes : He.DefD := ⟨("common_of_planes", none), "common_of", "common_of", defArgs (top 41), defBody (top 41), defScope (top 41), [], []⟩
theorem sc_common_of_planes : FnScope ["one", "other"] ["one", "other"] d_common_of_planes.scope := ⟨rfl, rfl, rfl, by decide +kernel, rfl, by decide +kernel, by decide +kernel⟩
def d_are_numbers : He.DefD := ⟨("are_numbers", none), "are_numbers", "are_numbers", defArgs (top 43), defBody (top 43), defScope (top 43), [], []⟩
theorem sc_are_numbers : FnScope ["thing", "dims", "one"] ["thing", "dims"] d_are_numbers.scope := ⟨rfl, rfl, rfl, by decide +kernel, rfl, by decide +kernel, by decide +kernel⟩
def d_is_plane : He.DefD := ⟨("is_plane", none), "is_plane", "is_plane", defArgs (top 44), defBody (top 44), defScope (top 44), [], []⟩
theorem sc_is_plane : FnScope ["dims", "thing", "normal", "offset", "one"] ["dims", "thing"] d_is_plane.scope := ⟨rfl, rfl, rfl, by decide +kernel, rfl, by decide +kernel, by decide +kernel⟩
def d_dims_of : He.DefD := ⟨("dims_of", none), "dims_of", "dims_of", defArgs (top 45), defBody (top 45), defScope (top 45), [], []⟩
theorem sc_dims_of : FnScope ["plane", "dims"] ["plane"] d_dims_of.scope := ⟨rfl, rfl, rfl, by decide +kernel, rfl, by decide +kernel, by decide +kernel⟩
def d_value_by : He.DefD := ⟨("value_by", none), "value_by", "value_by", defArgs (top 46), defBody (top 46), defScope (top 46), [], []⟩
theorem sc_value_by : FnScope ["plane", "place", "normal", "offset"] ["plane", "place"] d_value_by.scope := ⟨rfl, rfl, rfl, by decide +kernel, rfl, by decide +kernel, by decide +kernel⟩
def d_tidy_plane : He.DefD := ⟨("tidy_plane", none), "tidy_plane", "tidy_plane", defArgs (top 47), defBody (top 47), defScope (top 47), [], []⟩
theorem sc_tidy_plane : FnScope ["plane", "normal", "offset", "by", "one"] ["plane"] d_tidy_plane.scope := ⟨rfl, rfl, rfl, by decide +kernel, rfl, by decide +kernel, by decide +kernel⟩
def d_value_at : He.DefD := ⟨("value_at", none), "value_at", "value_at", defArgs (top 48), defBody (top 48), defScope (top 48), [], []⟩
theorem sc_value_at : FnScope ["plane", "place"] ["plane", "place"] d_value_at.scope := ⟨rfl, rfl, rfl, by decide +kernel, rfl, by decide +kernel, by decide +kernel⟩
def d_side_at : He.DefD := ⟨("side_at", none), "side_at", "side_at", defArgs (top 49), defBody (top 49), defScope (top 49), [], []⟩
theorem sc_side_at : FnScope ["plane", "place", "value"] ["plane", "place"] d_side_at.scope := ⟨rfl, rfl, rfl, by decide +kernel, rfl, by decide +kernel, by decide +kernel⟩
def d_walked_values : He.DefD := ⟨("walked_values", none), "walked_values", "walked_values", defArgs (top 50), defBody (top 50), defScope (top 50), [], []⟩
theorem sc_walked_values : FnScope ["points", "one", "other", "plane", "name"] ["points", "one", "other", "plane"] d_walked_values.scope := ⟨rfl, rfl, rfl, by decide +kernel, rfl, by decide +kernel, by decide +kernel⟩
def d_does_part : He.DefD := ⟨("does_part", none), "does_part", "does_part", defArgs (top 51), defBody (top 51), defScope (top 51), [], []⟩
theorem sc_does_part : FnScope ["points", "one", "other", "plane", "name", "value"] ["points", "one", "other", "plane"] d_does_part.scope := ⟨rfl, rfl, rfl, by decide +kernel, rfl, by decide +kernel, by decide +kernel⟩
def d_gap_by : He.DefD := ⟨("gap_by", none), "gap_by", "gap_by", defArgs (top 52), defBody (top 52), defScope (top 52), [], []⟩
theorem sc_gap_by : FnScope ["points", "one", "other", "plane", "values", "least", "greatest", "apart", "name", "value"] ["points", "one", "other", "plane"] d_gap_by.scope := ⟨rfl, rfl, rfl, by decide +kernel, rfl, by decide +kernel, by decide +kernel⟩
def d_is_row_points : He.DefD := ⟨("is_row_points", none), "is_row", "is_row", defArgs (top 59), defBody (top 59), defScope (top 59), [], []⟩
theorem sc_is_row_points : FnScope ["thing", "many", "far", "number"] ["thing", "many", "far"] d_is_row_points.scope := ⟨rfl, rfl, rfl, by decide +kernel, rfl, by decide +kernel, by decide +kernel⟩
def d_unlike_ones : He.DefD := ⟨("unlike_ones", none), "unlike_ones", "unlike_ones", defArgs (top 61), defBody (top 61), defScope (top 61), [], []⟩
theorem sc_unlike_ones : FnScope ["things", "thing"] ["things"] d_unlike_ones.scope := ⟨rfl, rfl, rfl, by decide +kernel, rfl, by decide +kernel, by decide +kernel⟩
def d_Points___init__ : He.DefD := ⟨("Points", some "__init__"), "__init__", "Points.__init__", defArgs (inClass (top 62) 0), defBody (inClass (top 62) 0), defScope (inClass (top 62) 0), [], []⟩
theorem sc_Points___init__ : FnScope ["self", "dims"] ["self", "dims"] d_Points___init__.scope := ⟨rfl, rfl, rfl, by decide +kernel, rfl, by decide +kernel, by decide +kernel⟩
def d_Points_need_point : He.DefD := ⟨("Points", some "need_point"), "need_point", "Points.need_point", defArgs (inClass (top 62) 1), defBody (inClass (top 62) 1), defScope (inClass (top 62) 1), [], []⟩
theorem sc_Points_need_point : FnScope ["self", "name"] ["self", "name"] d_Points_need_point.scope := ⟨rfl, rfl, rfl, by decide +kernel, rfl, by decide +kernel, by decide +kernel⟩
def d_Points_need_few : He.DefD := ⟨("Points", some "need_few"), "need_few", "Points.need_few", defArgs (inClass (top 62) 2), defBody (inClass (top 62) 2), defScope (inClass (top 62) 2), [], []⟩
theorem sc_Points_need_few : FnScope ["self", "heaps", "many"] ["self", "heaps"] d_Points_need_few.scope := ⟨rfl, rfl, rfl, by decide +kernel, rfl, by decide +kernel, by decide +kernel⟩
def d_Points_put : He.DefD := ⟨("Points", some "put"), "put", "Points.put", defArgs (inClass (top 62) 3), defBody (inClass (top 62) 3), defScope (inClass (top 62) 3), [], []⟩
theorem sc_Points_put : FnScope ["self", "name", "heap", "place"] ["self", "name", "heap", "place"] d_Points_put.scope := ⟨rfl, rfl, rfl, by decide +kernel, rfl, by decide +kernel, by decide +kernel⟩
def d_Points_dims : He.DefD := ⟨("Points", some "dims"), "dims", "Points.dims", defArgs (inClass (top 62) 6), defBody (inClass (top 62) 6), defScope (inClass (top 62) 6), [], []⟩
theorem sc_Points_dims : FnScope ["self"] ["self"] d_Points_dims.scope := ⟨rfl, rfl, rfl, by decide +kernel, rfl, by decide +kernel, by decide +kernel⟩
def d_Points_names : He.DefD := ⟨("Points", some "names"), "names", "Points.names", defArgs (inClass (top 62) 7), defBody (inClass (top 62) 7), defScope (inClass (top 62) 7), [], []⟩
theorem sc_Points_names : FnScope ["self"] ["self"] d_Points_names.scope := ⟨rfl, rfl, rfl, by decide +kernel, rfl, by decide +kernel, by decide +kernel⟩
def d_Points_heaps : He.DefD := ⟨("Points", some "heaps"), "heaps", "Points.heaps", defArgs (inClass (top 62) 8), defBody (inClass (top 62) 8), defScope (inClass (top 62) 8), [], []⟩
theorem sc_Points_heaps : FnScope ["self", "heap", "place"] ["self"] d_Points_heaps.scope := ⟨rfl, rfl, rfl, by decide +kernel, rfl, by decide +kernel, by decide +kernel⟩
def d_Points_members : He.DefD := ⟨("Points", some "members"), "members", "Points.members", defArgs (inClass (top 62) 9), defBody (inClass (top 62) 9), defScope (inClass (top 62) 9), [], []⟩
theorem sc_Points_members : FnScope ["self", "heap", "name", "row"] ["self", "heap"] d_Points_members.scope := ⟨rfl, rfl, rfl, by decide +kernel, rfl, by decide +kernel, by decide +kernel⟩
def d_Points_place : He.DefD := ⟨("Points", some "place"), "place", "Points.place", defArgs (inClass (top 62) 10), defBody (inClass (top 62) 10), defScope (inClass (top 62) 10), [], []⟩
theorem sc_Points_place : FnScope ["self", "name"] ["self", "name"] d_Points_place.scope := ⟨rfl, rfl, rfl, by decide +kernel, rfl, by decide +kernel, by decide +kernel⟩
def d_Points_heap : He.DefD := ⟨("Points", some "heap"), "heap", "Points.heap", defArgs (inClass (top 62) 11), defBody (inClass (top 62) 11), defScope (inClass (top 62) 11), [], []⟩
theorem sc_Points_heap : FnScope ["self", "name"] ["self", "name"] d_Points_heap.scope := ⟨rfl, rfl, rfl, by decide +kernel, rfl, by decide +kernel, by decide +kernel⟩
def d_is_row_placings : He.DefD := ⟨("is_row_placings", none), "is_row", "is_row", defArgs (top 67), defBody (top 67), defScope (top 67), [], []⟩
theorem sc_is_row_placings : FnScope ["thing", "dims", "most", "one"] ["thing", "dims", "most"] d_is_row_placings.scope := ⟨rfl, rfl, rfl, by decide +kernel, rfl, by decide +kernel, by decide +kernel⟩
def d_need_shift : He.DefD := ⟨("need_shift", none), "need_shift", "need_shift", defArgs (top 69), defBody (top 69), defScope (top 69), [], []⟩
theorem sc_need_shift : FnScope ["dims", "shift"] ["dims", "shift"] d_need_shift.scope := ⟨rfl, rfl, rfl, by decide +kernel, rfl, by decide +kernel, by decide +kernel⟩
def d_need_times : He.DefD := ⟨("need_times", none), "need_times", "need_times", defArgs (top 70), defBody (top 70), defScope (top 70), [], []⟩
theorem sc_need_times : FnScope ["many"] ["many"] d_need_times.scope := ⟨rfl, rfl, rfl, by decide +kernel, rfl, by decide +kernel, by decide +kernel⟩
def d_is_square : He.DefD := ⟨("is_square", none), "is_square", "is_square", defArgs (top 71), defBody (top 71), defScope (top 71), [], []⟩
theorem sc_is_square : FnScope ["dims", "thing", "at", "row", "other"] ["dims", "thing"] d_is_square.scope := ⟨rfl, rfl, rfl, by decide +kernel, rfl, by decide +kernel, by decide +kernel⟩
def d_length_of : He.DefD := ⟨("length_of", none), "length_of", "length_of", defArgs (top 72), defBody (top 72), defScope (top 72), [], []⟩
theorem sc_length_of : FnScope ["square"] ["square"] d_length_of.scope := ⟨rfl, rfl, rfl, by decide +kernel, rfl, by decide +kernel, by decide +kernel⟩
def d_need_square : He.DefD := ⟨("need_square", none), "need_square", "need_square", defArgs (top 73), defBody (top 73), defScope (top 73), [], []⟩
theorem sc_need_square : FnScope ["dims", "square"] ["dims", "square"] d_need_square.scope := ⟨rfl, rfl, rfl, by decide +kernel, rfl, by decide +kernel, by decide +kernel⟩
def d_added : He.DefD := ⟨("added", none), "added", "added", defArgs (top 74), defBody (top 74), defScope (top 74), [], []⟩
theorem sc_added : FnScope ["row", "shift", "one", "more"] ["row", "shift"] d_added.scope := ⟨rfl, rfl, rfl, by decide +kernel, rfl, by decide +kernel, by decide +kernel⟩
def d_times_row : He.DefD := ⟨("times_row", none), "times_row", "times_row", defArgs (top 75), defBody (top 75), defScope (top 75), [], []⟩
theorem sc_times_row : FnScope ["row", "many", "one"] ["row", "many"] d_times_row.scope := ⟨rfl, rfl, rfl, by decide +kernel, rfl, by decide +kernel, by decide +kernel⟩
def d_by_rows : He.DefD := ⟨("by_rows", none), "by_rows", "by_rows", defArgs (top 76), defBody (top 76), defScope (top 76), [], []⟩
theorem sc_by_rows : FnScope ["square", "row", "one"] ["square", "row"] d_by_rows.scope := ⟨rfl, rfl, rfl, by decide +kernel, rfl, by decide +kernel, by decide +kernel⟩
def d_placed : He.DefD := ⟨("placed", none), "placed", "placed", defArgs (top 77), defBody (top 77), defScope (top 77), [], []⟩
theorem sc_placed : FnScope ["points", "change", "found", "name"] ["points", "change"] d_placed.scope := ⟨rfl, rfl, rfl, by decide +kernel, rfl, by decide +kernel, by decide +kernel⟩
def d_moved_points : He.DefD := ⟨("moved_points", none), "moved_points", "moved_points", defArgs (top 78), defBody (top 78), defScope (top 78), [], []⟩
theorem sc_moved_points : FnScope ["points", "shift", "place"] ["points", "shift"] d_moved_points.scope := ⟨rfl, rfl, rfl, by decide +kernel, rfl, by decide +kernel, by decide +kernel⟩
def d_longer_points : He.DefD := ⟨("longer_points", none), "longer_points", "longer_points", defArgs (top 79), defBody (top 79), defScope (top 79), [], []⟩
theorem sc_longer_points : FnScope ["points", "many", "place"] ["points", "many"] d_longer_points.scope := ⟨rfl, rfl, rfl, by decide +kernel, rfl, by decide +kernel, by decide +kernel⟩
def d_turned_points : He.DefD := ⟨("turned_points", none), "turned_points", "turned_points", defArgs (top 80), defBody (top 80), defScope (top 80), [], []⟩
theorem sc_turned_points : FnScope ["points", "square", "place"] ["points", "square"] d_turned_points.scope := ⟨rfl, rfl, rfl, by decide +kernel, rfl, by decide +kernel, by decide +kernel⟩
def d_moved_plane : He.DefD := ⟨("moved_plane", none), "moved_plane", "moved_plane", defArgs (top 81), defBody (top 81), defScope (top 81), [], []⟩
theorem sc_moved_plane : FnScope ["plane", "shift", "normal", "offset"] ["plane", "shift"] d_moved_plane.scope := ⟨rfl, rfl, rfl, by decide +kernel, rfl, by decide +kernel, by decide +kernel⟩
def d_longer_plane : He.DefD := ⟨("longer_plane", none), "longer_plane", "longer_plane", defArgs (top 82), defBody (top 82), defScope (top 82), [], []⟩
theorem sc_longer_plane : FnScope ["plane", "many", "normal", "offset"] ["plane", "many"] d_longer_plane.scope := ⟨rfl, rfl, rfl, by decide +kernel, rfl, by decide +kernel, by decide +kernel⟩
def d_turned_plane : He.DefD := ⟨("turned_plane", none), "turned_plane", "turned_plane", defArgs (top 83), defBody (top 83), defScope (top 83), [], []⟩
theorem sc_turned_plane : FnScope ["plane", "square", "normal", "offset"] ["plane", "square"] d_turned_plane.scope := ⟨rfl, rfl, rfl, by decide +kernel, rfl, by decide +kernel, by decide +kernel⟩
def d_law_cell : He.DefD := ⟨("_law_cell", none), "_law_cell", "_law_cell", defArgs (top 85), defBody (top 85), defScope (top 85), [], []⟩
theorem sc_law_cell : FnScope ["_law_script", "_law_k"] ["_law_script", "_law_k"] d_law_cell.scope := ⟨rfl, rfl, rfl, by decide +kernel, rfl, by decide +kernel, by decide +kernel⟩
def d_law_box : He.DefD := ⟨("_law_box", none), "_law_box", "_law_box", defArgs (top 86), defBody (top 86), defScope (top 86), [], []⟩
theorem sc_law_box : FnScope ["_law_cell_here"] ["_law_cell_here"] d_law_box.scope := ⟨rfl, rfl, rfl, by decide +kernel, rfl, by decide +kernel, by decide +kernel⟩
def d_law_take : He.DefD := ⟨("_law_take", none), "_law_take", "_law_take", defArgs (top 87), defBody (top 87), defScope (top 87), [], []⟩
theorem sc_law_take : FnScope ["_law_box_here", "_law_many", "_law_digit", "_law_number"] ["_law_box_here", "_law_many"] d_law_take.scope := ⟨rfl, rfl, rfl, by decide +kernel, rfl, by decide +kernel, by decide +kernel⟩
def d_law_names : He.DefD := ⟨("_law_names", none), "_law_names", "_law_names", defArgs (top 88), defBody (top 88), defScope (top 88), [], []⟩
theorem sc_law_names : FnScope ["_law_box_here", "_law_many", "_law_letters", "_law_first", "_law_way", "_law_base_here", "_law_words", "_law_found", "_law_short", "_law_k", "_law_sign", "_law_tail", "_law_j"] ["_law_box_here", "_law_many"] d_law_names.scope := ⟨rfl, rfl, rfl, by decide +kernel, rfl, by decide +kernel, by decide +kernel⟩
def d_law_world : He.DefD := ⟨("_law_world", none), "_law_world", "_law_world", defArgs (top 89), defBody (top 89), defScope (top 89), [], []⟩
theorem sc_law_world : FnScope ["_law_box_here", "_law_great", "_law_dims", "_law_many", "_law_heaps", "_law_few", "_law_far", "_law_names_here", "_law_marks", "_law_places", "_law_name", "_law_k"] ["_law_box_here", "_law_great"] d_law_world.scope := ⟨rfl, rfl, rfl, by decide +kernel, rfl, by decide +kernel, by decide +kernel⟩
def d_law_points : He.DefD := ⟨("_law_points", none), "_law_points", "_law_points", defArgs (top 90), defBody (top 90), defScope (top 90), [], []⟩
theorem sc_law_points : FnScope ["_law_world_here", "_law_found", "_law_k", "_law_name", "_law_place"] ["_law_world_here"] d_law_points.scope := ⟨rfl, rfl, rfl, by decide +kernel, rfl, by decide +kernel, by decide +kernel⟩
def d_law_base : He.DefD := ⟨("_law_base", none), "_law_base", "_law_base", defArgs (top 91), defBody (top 91), defScope (top 91), [], []⟩
theorem sc_law_base : FnScope ["_law_box_here", "_law_dims", "_law_found", "_law_k", "_law_one", "_law_other", "_law_a", "_law_b", "_law_c", "_law_d"] ["_law_box_here", "_law_dims"] d_law_base.scope := ⟨rfl, rfl, rfl, by decide +kernel, rfl, by decide +kernel, by decide +kernel⟩
def d_law_turned : He.DefD := ⟨("_law_turned", none), "_law_turned", "_law_turned", defArgs (top 92), defBody (top 92), defScope (top 92), [], []⟩
theorem sc_law_turned : FnScope ["_law_box_here", "_law_things", "_law_left", "_law_found"] ["_law_box_here", "_law_things"] d_law_turned.scope := ⟨rfl, rfl, rfl, by decide +kernel, rfl, by decide +kernel, by decide +kernel⟩
def d_law_square : He.DefD := ⟨("_law_square", none), "_law_square", "_law_square", defArgs (top 93), defBody (top 93), defScope (top 93), [], []⟩
theorem sc_law_square : FnScope ["_law_box_here", "_law_dims", "_law_rows", "_law_most", "_law_times_here", "_law_order", "_law_signs", "_law_found", "_law_row", "_law_sign", "_law_one", "_law_k"] ["_law_box_here", "_law_dims"] d_law_square.scope := ⟨rfl, rfl, rfl, by decide +kernel, rfl, by decide +kernel, by decide +kernel⟩
def d_law_dot : He.DefD := ⟨("_law_dot", none), "_law_dot", "_law_dot", defArgs (top 94), defBody (top 94), defScope (top 94), [], []⟩
theorem sc_law_dot : FnScope ["_law_one", "_law_other", "_law_number", "_law_times_here"] ["_law_one", "_law_other"] d_law_dot.scope := ⟨rfl, rfl, rfl, by decide +kernel, rfl, by decide +kernel, by decide +kernel⟩
def d_law_deed : He.DefD := ⟨("_law_deed", none), "_law_deed", "_law_deed", defArgs (top 95), defBody (top 95), defScope (top 95), [], []⟩
theorem sc_law_deed : FnScope ["_law_box_here", "_law_dims", "_law_way", "_law_far", "_law_shift", "_law_k"] ["_law_box_here", "_law_dims"] d_law_deed.scope := ⟨rfl, rfl, rfl, by decide +kernel, rfl, by decide +kernel, by decide +kernel⟩
def d_law_placed : He.DefD := ⟨("_law_placed", none), "_law_placed", "_law_placed", defArgs (top 96), defBody (top 96), defScope (top 96), [], []⟩
theorem sc_law_placed : FnScope ["_law_deed_here", "_law_place", "_law_word", "_law_thing", "_law_one", "_law_more", "_law_row"] ["_law_deed_here", "_law_place"] d_law_placed.scope := ⟨rfl, rfl, rfl, by decide +kernel, rfl, by decide +kernel, by decide +kernel⟩
def d_law_value : He.DefD := ⟨("_law_value", none), "_law_value", "_law_value", defArgs (top 97), defBody (top 97), defScope (top 97), [], []⟩
theorem sc_law_value : FnScope ["_law_plane_here", "_law_place", "_law_one", "_law_other"] ["_law_plane_here", "_law_place"] d_law_value.scope := ⟨rfl, rfl, rfl, by decide +kernel, rfl, by decide +kernel, by decide +kernel⟩
def d_law_signed : He.DefD := ⟨("_law_signed", none), "_law_signed", "_law_signed", defArgs (top 98), defBody (top 98), defScope (top 98), [], []⟩
theorem sc_law_signed : FnScope ["_law_box_here", "_law_far", "_law_number"] ["_law_box_here", "_law_far"] d_law_signed.scope := ⟨rfl, rfl, rfl, by decide +kernel, rfl, by decide +kernel, by decide +kernel⟩
def d_law_plane : He.DefD := ⟨("_law_plane", none), "_law_plane", "_law_plane", defArgs (top 99), defBody (top 99), defScope (top 99), [], []⟩
theorem sc_law_plane : FnScope ["_law_box_here", "_law_world_here", "_law_far", "_law_normal", "_law_near", "_law_k"] ["_law_box_here", "_law_world_here"] d_law_plane.scope := ⟨rfl, rfl, rfl, by decide +kernel, rfl, by decide +kernel, by decide +kernel⟩
def d_law_sided : He.DefD := ⟨("_law_sided", none), "_law_sided", "_law_sided", defArgs (top 100), defBody (top 100), defScope (top 100), [], []⟩
theorem sc_law_sided : FnScope ["_law_box_here", "_law_world_here", "_law_plane_here", "_law_two", "_law_third", "_law_marks", "_law_k", "_law_mark", "_law_value_here", "_law_found", "_law_heap"] ["_law_box_here", "_law_world_here", "_law_plane_here", "_law_two"] d_law_sided.scope := ⟨rfl, rfl, rfl, by decide +kernel, rfl, by decide +kernel, by decide +kernel⟩
def d_law_common : He.DefD := ⟨("_law_common", none), "_law_common", "_law_common", defArgs (top 101), defBody (top 101), defScope (top 101), [], []⟩
theorem sc_law_common : FnScope ["_law_one", "_law_other"] ["_law_one", "_law_other"] d_law_common.scope := ⟨rfl, rfl, rfl, by decide +kernel, rfl, by decide +kernel, by decide +kernel⟩
def d_law_tidy : He.DefD := ⟨("_law_tidy", none), "_law_tidy", "_law_tidy", defArgs (top 102), defBody (top 102), defScope (top 102), [], []⟩
theorem sc_law_tidy : FnScope ["_law_normal", "_law_offset", "_law_by", "_law_one"] ["_law_normal", "_law_offset"] d_law_tidy.scope := ⟨rfl, rfl, rfl, by decide +kernel, rfl, by decide +kernel, by decide +kernel⟩
def d_law_gone : He.DefD := ⟨("_law_gone", none), "_law_gone", "_law_gone", defArgs (top 103), defBody (top 103), defScope (top 103), [], []⟩
theorem sc_law_gone : FnScope ["_law_deed_here", "_law_plane_here", "_law_word", "_law_thing", "_law_normal", "_law_offset", "_law_length", "_law_row"] ["_law_deed_here", "_law_plane_here"] d_law_gone.scope := ⟨rfl, rfl, rfl, by decide +kernel, rfl, by decide +kernel, by decide +kernel⟩
def d_law_plane_told : He.DefD := ⟨("_law_plane_told", none), "_law_plane_told", "_law_plane_told", defArgs (top 104), defBody (top 104), defScope (top 104), [], []⟩
theorem sc_law_plane_told : FnScope ["_law_deed_here", "_law_plane_here"] ["_law_deed_here", "_law_plane_here"] d_law_plane_told.scope := ⟨rfl, rfl, rfl, by decide +kernel, rfl, by decide +kernel, by decide +kernel⟩
def d_law_points_told : He.DefD := ⟨("_law_points_told", none), "_law_points_told", "_law_points_told", defArgs (top 105), defBody (top 105), defScope (top 105), [], []⟩
theorem sc_law_points_told : FnScope ["_law_deed_here", "_law_points_here"] ["_law_deed_here", "_law_points_here"] d_law_points_told.scope := ⟨rfl, rfl, rfl, by decide +kernel, rfl, by decide +kernel, by decide +kernel⟩
def d_law_width : He.DefD := ⟨("_law_width", none), "_law_width", "_law_width", defArgs (top 106), defBody (top 106), defScope (top 106), [], []⟩
theorem sc_law_width : FnScope ["_law_points_here", "_law_two", "_law_plane_here", "_law_found"] ["_law_points_here", "_law_two", "_law_plane_here"] d_law_width.scope := ⟨rfl, rfl, rfl, by decide +kernel, rfl, by decide +kernel, by decide +kernel⟩
def d_law_times : He.DefD := ⟨("_law_times", none), "_law_times", "_law_times", defArgs (top 107), defBody (top 107), defScope (top 107), [], []⟩
theorem sc_law_times : FnScope ["_law_width_here", "_law_many", "_law_by"] ["_law_width_here", "_law_many"] d_law_times.scope := ⟨rfl, rfl, rfl, by decide +kernel, rfl, by decide +kernel, by decide +kernel⟩
def d_law_right : He.DefD := ⟨("_law_right", none), "_law_right", "_law_right", defArgs (top 108), defBody (top 108), defScope (top 108), [], []⟩
theorem sc_law_right : FnScope ["_law_points_here", "_law_two", "_law_plane_here", "_law_deed_here", "_law_due", "_law_many", "_law_turn", "_law_name", "_law_place", "_law_found"] ["_law_points_here", "_law_two", "_law_plane_here", "_law_deed_here"] d_law_right.scope := ⟨rfl, rfl, rfl, by decide +kernel, rfl, by decide +kernel, by decide +kernel⟩
def d_law : He.DefD := ⟨("law", none), "law", "law", defArgs (top 109), defBody (top 109), defScope (top 109), [], []⟩
theorem sc_law : FnScope ["_law_script", "_law_k", "_law_box_here", "_law_world_here", "_law_at", "_law_two", "_law_plane_here", "_law_points_here", "_law_times_here", "_law_turn", "_law_told", "_law_one"] ["_law_script"] d_law.scope := ⟨rfl, rfl, rfl, by decide +kernel, rfl, by decide +kernel, by decide +kernel⟩
end PB

/-! ## HA -/
set_option Elab.async false
set_option linter.all false
set_option maxRecDepth 100000
set_option maxHeartbeats 0
namespace PB
open PySem PySem.Spec PyProof.Rows L2 LamX
/-! ### the head's facts -/
def fns : List He.DefD := [d_is_whole, d_are_signs, d_is_name, d_need_heaps, d_need_unlike, d_need_points, d_both_members, d_dot_of, d_common_of_ratios, d_is_number_ratios, d_lowest_of, d_ratio_of, d_is_number_planes, d_common_of_planes, d_are_numbers, d_is_plane, d_dims_of, d_value_by, d_tidy_plane, d_value_at, d_side_at, d_walked_values, d_does_part, d_gap_by, d_is_row_points, d_unlike_ones, d_is_row_placings, d_need_shift, d_need_times, d_is_square, d_length_of, d_need_square, d_added, d_times_row, d_by_rows, d_placed, d_moved_points, d_longer_points, d_turned_points, d_moved_plane, d_longer_plane, d_turned_plane, d_law_cell, d_law_box, d_law_take, d_law_names, d_law_world, d_law_points, d_law_base, d_law_turned, d_law_square, d_law_dot, d_law_deed, d_law_placed, d_law_value, d_law_signed, d_law_plane, d_law_sided, d_law_common, d_law_tidy, d_law_gone, d_law_plane_told, d_law_points_told, d_law_width, d_law_times, d_law_right, d_law, d_Points_need_point, d_Points_need_few, d_Points_put, d_Points_dims, d_Points_names, d_Points_heaps, d_Points_members, d_Points_place, d_Points_heap, d_Points___init__, d_NoPlace___init__]
def fas : List He.Fa := [.free "len", .free "isinstance", .free "abs", .free "all", .free "any", .free "sum", .free "min", .free "max", .free "repr", .free "int", .free "bool", .free "str", .free "list", .free "tuple", .free "dict", .free "zip", .free "enumerate", .free "range", .int "LONGEST_NAME" 8, .int "LEAST_DIMS_planes" 2, .int "MOST_DIMS_planes" 5, .int "LEAST_DIMS_points" 2, .int "MOST_DIMS_points" 5, .int "FARTHEST" 999, .int "MOST_POINTS" 24, .int "MOST_HEAPS" 4, .int "FAR" 1998, .int "MOST_TIMES" 9, .int "MOST_OF_SQUARE" 9, .str "LETTERS" "abcdefghijklmnopqrstuvwxyz", .glo "is_whole", .glo "are_signs", .glo "is_name", .glo "need_heaps", .glo "need_unlike", .glo "need_points", .glo "both_members", .glo "dot_of", .glo "common_of_ratios", .glo "is_number_ratios", .glo "lowest_of", .glo "ratio_of", .glo "is_number_planes", .glo "common_of_planes", .glo "are_numbers", .glo "is_plane", .glo "dims_of", .glo "value_by", .glo "tidy_plane", .glo "value_at", .glo "side_at", .glo "walked_values", .glo "does_part", .glo "gap_by", .glo "is_row_points", .glo "unlike_ones", .glo "is_row_placings", .glo "need_shift", .glo "need_times", .glo "is_square", .glo "length_of", .glo "need_square", .glo "added", .glo "times_row", .glo "by_rows", .glo "placed", .glo "moved_points", .glo "longer_points", .glo "turned_points", .glo "moved_plane", .glo "longer_plane", .glo "turned_plane", .glo "_law_cell", .glo "_law_box", .glo "_law_take", .glo "_law_names", .glo "_law_world", .glo "_law_points", .glo "_law_base", .glo "_law_turned", .glo "_law_square", .glo "_law_dot", .glo "_law_deed", .glo "_law_placed", .glo "_law_value", .glo "_law_signed", .glo "_law_plane", .glo "_law_sided", .glo "_law_common", .glo "_law_tidy", .glo "_law_gone", .glo "_law_plane_told", .glo "_law_points_told", .glo "_law_width", .glo "_law_times", .glo "_law_right", .glo "law", .glo "Points", .glo "PlaneError", .glo "NoPlace", .cls "Points", .noat "Points" "wide", .noat "Points" "kept", .meth "Points" "need_point", .meth "Points" "need_few", .meth "Points" "put", .meth "Points" "dims", .meth "Points" "names", .meth "Points" "heaps", .meth "Points" "members", .meth "Points" "place", .meth "Points" "heap", .mkr "Points", .exm "NoPlace" "NoPlace" true]
def tfs : List He.Defn := [("moved_points", none), ("longer_points", none), ("turned_points", none)]
/-- a class of exceptions over ValueError, by others of the module -/
def oexB (K : PySem.W.Frag) (C : Addr) : Bool := match K.lookup C with
  | some ⟨.type "type", _, .cls cd, sl⟩ => (match cd.mro, sl.toList with
    | .ref c :: bm, [_, _, _, _, some (.builtin n), _] => decide (c = C) && (decide (n = "ValueError.__new__") && (!cd.hasDel && (cd.hasDict && PySem.HandSPX.refsVE bm)))
    | _, _ => false)
  | _ => false
theorem oexB_ok {K : PySem.W.Frag} {C : Addr} (h : oexB K C = true) : ∃ nm q N bs bm sn sub ab col dd k0 k1 k2 k3 k5, K.lookup C = some (excClassObj nm q C N bs bm true sn sub ab col dd k0 k1 k2 k3 k5 "ValueError.__new__") ∧ PySem.HandSPX.refsVE bm = true := by
  unfold oexB at h
  split at h
  · rename_i dd cd sl hk
    split at h
    · rename_i c bm k0 k1 k2 k3 n k5 hm hs
      simp only [Bool.and_eq_true, decide_eq_true_eq, Bool.not_eq_true'] at h
      obtain ⟨h1, h2, h3, h4, h5⟩ := h
      obtain ⟨nm, bs, mro, ns, qn, hd, sn, sub, ab, col, del⟩ := cd
      obtain ⟨l⟩ := sl
      dsimp only at hm h3 h4 hs
      subst hm h3 h4 hs h1 h2
      exact ⟨_, _, _, _, bm, _, _, _, _, _, _, _, _, _, _, hk, h5⟩
    · cases h
  · cases h
def excB (K : PySem.W.Frag) : Bool :=
  let PE := He.ga K "PlaneError"
  let NP := He.ga K "NoPlace"
  decide (PySem.W.specialIn K (.ref PE) "__getattribute__" = some (some (.builtin "type.__getattribute__"))) && (decide (PySem.W.typeIn K (.ref PE) = some (.type "type")) && (PySem.W.readsIn K PE (.type "type") &&
  ((match PySem.W.findCls K (.ref PE) (.type "type") "__init__" with
    | some (.val (.builtin n)) => decide (n = "ValueError.__init__")
    | _ => false) && (oexB K NP && (decide (PySem.W.findIn K (.ref NP) "__setattr__" = some (some (.builtin "object.__setattr__"))) && (decide (PySem.W.subIn K (.ref NP) (.type "BaseException") = some true) && (decide (PySem.W.typeIn K (.ref NP) = some (.type "type")) &&
  (PySem.W.keepIn K (.ref NP) && (decide (PySem.W.findIn K (.ref NP) "found" = some none) && (decide (PySem.W.findIn K (.ref NP) "__init__" = some (some (.ref (He.ma K NP "__init__")))) && decide (PySem.W.typeIn K (.ref (He.ma K NP "__init__")) = some (.type "function"))))))))))))
/-- the three tables are three -/
def tabD (K : PySem.W.Frag) : Bool :=
  let a := (He.cT K ("moved_points", none)).2
  let b := (He.cT K ("longer_points", none)).2
  let c := (He.cT K ("turned_points", none)).2
  decide (a ≠ b) && (decide (a ≠ c) && decide (b ≠ c))
/-! ### what the facts are read in, forced -/
def frAs {α : Type} : List Addr → (List Addr → α) → α
  | [], k => k []
  | a :: r, k => HandSHeadRun.frNat a fun a => frAs r fun r => k (a :: r)
theorem frAs_eq {α : Type} : ∀ (l : List Addr) (k : List Addr → α), frAs l k = k l
  | [], _ => rfl
  | a :: r, k => by
    show (HandSHeadRun.frNat a fun a => frAs r fun r => k (a :: r)) = _
    rw [HandSHeadRun.frNat_eq, frAs_eq r]
def frFr {α : Type} : PySem.W.Frag → (PySem.W.Frag → α) → α
  | [], k => k []
  | (a, ⟨c, d, t, l⟩) :: r, k => HandSHeadRun.frNat a fun a => frFr r fun r => k ((a, ⟨c, d, t, l⟩) :: r)
theorem frFr_eq {α : Type} : ∀ (l : PySem.W.Frag) (k : PySem.W.Frag → α), frFr l k = k l
  | [], _ => rfl
  | (a, ⟨c, d, t, l⟩) :: r, k => by
    show (HandSHeadRun.frNat a fun a => frFr r fun r => k ((a, ⟨c, d, t, l⟩) :: r)) = _
    rw [HandSHeadRun.frNat_eq, frFr_eq r]
def refsA (g : Addr → Option Obj) (a : Addr) : List Addr := match g a with
  | some o => He.refsO o
  | none => []
def nsA (K : PySem.W.Frag) (C : Addr) : List Addr := match K.lookup C with
  | some ⟨_, _, .cls cd, _⟩ => [cd.ns]
  | _ => []
/-- a function's code -/
def coA (g : Addr → Option Obj) (f : Addr) : Addr := match g f with
  | some ⟨_, _, .func fd, _⟩ => (match fd.code with
    | .ref c => c
    | _ => 0)
  | _ => 0
/-- the globals that are functions -/
def gl0 : List PySem.Str := ["is_whole", "are_signs", "is_name", "need_heaps", "need_unlike", "need_points", "both_members", "dot_of", "common_of_ratios", "is_number_ratios", "lowest_of", "ratio_of", "is_number_planes", "common_of_planes", "are_numbers", "is_plane", "dims_of", "value_by", "tidy_plane", "value_at", "side_at", "walked_values", "does_part", "gap_by", "is_row_points", "unlike_ones", "is_row_placings", "need_shift", "need_times", "is_square"]
def gl1 : List PySem.Str := ["length_of", "need_square", "added", "times_row", "by_rows", "placed", "moved_points", "longer_points", "turned_points", "moved_plane", "longer_plane", "turned_plane", "_law_cell", "_law_box", "_law_take", "_law_names", "_law_world", "_law_points", "_law_base", "_law_turned", "_law_square", "_law_dot", "_law_deed", "_law_placed", "_law_value", "_law_signed", "_law_plane", "_law_sided", "_law_common", "_law_tidy"]
def gl2 : List PySem.Str := ["_law_gone", "_law_plane_told", "_law_points_told", "_law_width", "_law_times", "_law_right", "law"]
def glP : List PySem.Str := gl0 ++ gl1 ++ gl2
def meP : List PySem.Str := ["__init__", "need_point", "need_few", "put", "dims", "names", "heaps", "members", "place", "heap"]
def kE (g : Addr → Option Obj) : PySem.W.Frag :=
  frFr (He.frT g [mainGlobals, cStatics]) fun K0 =>
  frAs (([("Points" : PySem.Str), "PlaneError", "NoPlace"] : List PySem.Str).map fun x => He.ga K0 x) fun c0 =>
  frFr (He.frT g c0) fun Kc =>
  frFr (He.frT g (c0.flatMap (nsA Kc))) fun Kn =>
  frAs (He.ma (Kc ++ Kn) (He.ga K0 "NoPlace") "__init__" :: (meP.map fun m => He.ma (Kc ++ Kn) (He.ga K0 "Points") m) ++ glP.map fun x => He.ga K0 x) fun fs =>
  frFr (He.frT g fs) fun Kf =>
  frAs (fs.map (coA g)) fun cs =>
  frFr (He.frT g cs) fun Ko => K0 ++ (Kc ++ (Kn ++ (Kf ++ Ko)))
/-- a part of the heap, empty tables left out -/
def SubG (g : Addr → Option Obj) (K : PySem.W.Frag) : Prop := ∀ a o, (a, o) ∈ K → g a = some o ∧ He.emptyTab o = false
theorem SubG.t {g : Addr → Option Obj} (as : List Addr) : SubG g (He.frT g as) := fun a o m => by
  obtain ⟨m1, m2⟩ := List.mem_filter.mp m
  exact ⟨He.frG_mem m1, by simpa using m2⟩
theorem SubG.app {g : Addr → Option Obj} {K L : PySem.W.Frag} (x : SubG g K) (y : SubG g L) : SubG g (K ++ L) := fun a o m => (List.mem_append.mp m).elim (x a o) (y a o)
theorem kE_sub (g : Addr → Option Obj) : SubG g (kE g) := by
  unfold kE
  simp only [frFr_eq, frAs_eq]
  exact (SubG.t _).app ((SubG.t _).app ((SubG.t _).app ((SubG.t _).app (SubG.t _))))
theorem kE_in {h : Heap} : PySem.W.Frag.In (kE h.get?) h := fun a o e => (kE_sub _ a o (He.lookup_mem e)).1
theorem kE_none {g : Addr → Option Obj} {a : Addr} {o : Obj} (h : g a = some o) (ht : He.emptyTab o = true) : (kE g).lookup a = none := by
  cases e : (kE g).lookup a with
  | none => rfl
  | some u =>
    obtain ⟨h1, h2⟩ := kE_sub _ a u (He.lookup_mem e)
    rw [h] at h1
    cases h1
    rw [ht] at h2
    cases h2
abbrev AlP : Type := He.AlD × Bool
def obsP (g : Addr → Option Obj) : AlP := frFr (kE g) fun K => (He.obsD fas fns K, (excB K && tabD K) && He.tabsB g tfs K)
def valP : AlP := (He.valD fns, true)
/-- an empty table of code -/
abbrev tabObj0 : Obj := { cls := .none, data := .fields #[] }
structure SaysP (h : Heap) (K : PySem.W.Frag) : Prop where
  d : He.SaysD fas fns K
  x : excB K = true
  u : tabD K = true
  hd : ∀ p ∈ tfs, PySem.W.codeHdIn K (He.cT K p).1 (He.cT K p).2 = true
  out : ∀ p ∈ tfs, K.lookup (He.cT K p).2 = none
  empty : ∀ p ∈ tfs, h.get? (He.cT K p).2 = some tabObj0
theorem saysP_of {h : Heap} (e : obsP h.get? = valP) : SaysP h (kE h.get?) := by
  unfold obsP at e
  rw [frFr_eq] at e
  obtain ⟨e1, e2⟩ := Prod.mk.inj e
  obtain ⟨h12, h2⟩ := He.ba e2
  obtain ⟨h1, h1u⟩ := He.ba h12
  have key : ∀ p ∈ tfs, PySem.W.codeHdIn (kE h.get?) (He.cT (kE h.get?) p).1 (He.cT (kE h.get?) p).2 = true ∧ ∃ o, h.get? (He.cT (kE h.get?) p).2 = some o ∧ He.emptyTab o = true := fun p hp => by
    obtain ⟨h3, h4⟩ := He.ba (List.all_eq_true.mp h2 p hp)
    refine ⟨h3, ?_⟩
    cases q : h.get? (He.cT (kE h.get?) p).2 with
    | none => rw [q] at h4; cases h4
    | some o => rw [q] at h4; exact ⟨o, rfl, h4⟩
  refine ⟨e1, h1, h1u, fun p hp => (key p hp).1, fun p hp => ?_, fun p hp => ?_⟩
  · obtain ⟨_, o, q, z⟩ := key p hp
    exact kE_none q z
  · obtain ⟨_, o, q, z⟩ := key p hp
    rw [q, He.emptyTab_eq z]
def hookP : PySem.W.Hook where
  α := AlP
  obs := fun s => obsP s.heap.get?
  val := fun _ => valP
  says := fun _ h => ∃ K : PySem.W.Frag, K.In h ∧ SaysP h K
  of := fun _ _ e => ⟨_, kE_in, saysP_of e⟩
  keeps := fun _ _ _ ⟨K, hK, c⟩ k => ⟨K, PySem.W.Frag.In.keeps hK k, ⟨c.d, c.x, c.u, c.hd, c.out, fun p hp => k _ _ (c.empty p hp)⟩⟩
theorem obsP_eq {g : Addr → Option Obj} {s : Shared} (h : ∀ a, g a = s.heap.get? a) : obsP g = hookP.obs s := by
  have e : g = s.heap.get? := funext h
  rw [e] <;> rfl
end PB

/-! ## RUN -/
set_option Elab.async false
set_option linter.all false
set_option maxRecDepth 100000
set_option maxHeartbeats 0
namespace PB
open PySem PySem.W PySem.Calls PyProof.Rows
abbrev R : OpenRow := OpenLaw.row PySem.Challenge.rw_planebetween_k28_whole_planes_go_along
abbrev qv : Program := view R.prog [109]
def nm0 : List PySem.Str := ["_wall", "PlaneError", "NoName", "NoDims", "NoPlace", "Taken", "TooMany", "NoPoint", "NoHeap", "Same", "Empty", "NoNumber", "NoRatio", "NoShift", "NoSquare", "NoPlane", "LETTERS", "LONGEST_NAME", "is_whole", "are_signs", "is_name", "need_heaps", "need_unlike", "need_points", "both_members", "dot_of", "common_of", "common_of_ratios", "is_number", "is_number_ratios"]
def nm1 : List PySem.Str := ["lowest_of", "ratio_of", "LEAST_DIMS_planes", "MOST_DIMS_planes", "is_number_planes", "common_of_planes", "are_numbers", "is_plane", "dims_of", "value_by", "tidy_plane", "value_at", "side_at", "walked_values", "does_part", "gap_by", "LEAST_DIMS_points", "MOST_DIMS_points", "FARTHEST", "MOST_POINTS", "MOST_HEAPS", "is_row", "is_row_points", "unlike_ones", "Points", "FAR", "MOST_TIMES", "MOST_OF_SQUARE", "is_row_placings", "need_shift"]
def nm2 : List PySem.Str := ["need_times", "is_square", "length_of", "need_square", "added", "times_row", "by_rows", "placed", "moved_points", "longer_points", "turned_points", "moved_plane", "longer_plane", "turned_plane", "_law_cell", "_law_box", "_law_take", "_law_names", "_law_world", "_law_points", "_law_base", "_law_turned", "_law_square", "_law_dot", "_law_deed", "_law_placed", "_law_value", "_law_signed", "_law_plane", "_law_sided"]
def nm3 : List PySem.Str := ["_law_common", "_law_tidy", "_law_gone", "_law_plane_told", "_law_points_told", "_law_width", "_law_times", "_law_right"]
def names : List PySem.Str := nm0 ++ nm1 ++ nm2 ++ nm3
def ob (s : PySem.W.SharedT) : AlP := obsP (HandSHeadRun.getT s)
theorem ob_eq (s : PySem.W.SharedT) : ob s = hookP.obs s.abs := obsP_eq (HandSHeadRun.getT_eq s)
/-! ### the facts in parts, the run for each -/
def obA (g : Addr → Option Obj) : Bool × Bool := frFr (kE g) fun K => (fas.all fun f => f.ok K, (excB K && tabD K) && He.tabsB g tfs K)
def obB (g : Addr → Option Obj) : He.AlD := frFr (kE g) fun K => He.obsD [] (fns.take 39) K
def obC (g : Addr → Option Obj) : He.AlD := frFr (kE g) fun K => He.obsD [] (fns.drop 39) K
theorem obsP_of {g : Addr → Option Obj} (h1 : obA g = (true, true)) (h2 : obB g = He.valD (fns.take 39)) (h3 : obC g = He.valD (fns.drop 39)) : obsP g = valP := by
  unfold obA at h1
  unfold obB at h2
  unfold obC at h3
  unfold obsP
  rw [frFr_eq] at h1 h2 h3 ⊢
  obtain ⟨a1, a2⟩ := Prod.mk.inj h1
  obtain ⟨b1, b2⟩ := Prod.mk.inj h2
  obtain ⟨c1, c2⟩ := Prod.mk.inj h3
  have e : fns.take 39 ++ fns.drop 39 = fns := List.take_append_drop 39 fns
  have b1 : ((fns.take 39).all fun d => d.ok (kE g)) = true := b1
  have c1 : ((fns.drop 39).all fun d => d.ok (kE g)) = true := c1
  have q1 : (fns.all fun d => d.ok (kE g)) = true := by
    rw [← e, List.all_append, b1, c1]; rfl
  have q2 : fns.map (fun d => He.fnW (kE g) d.at_) = fns.map He.DefD.val := by
    rw [← e, List.map_append, List.map_append, b2, c2]
  show (((fas.all fun f => f.ok (kE g)) && fns.all fun d => d.ok (kE g), fns.map fun d => He.fnW (kE g) d.at_), _) = ((true, fns.map He.DefD.val), true)
  rw [a1, a2, q1, q2]; rfl
noncomputable abbrev runE (w : World) (os : OsState) : Option PySem.W.SharedT := HandSHeadRun.endF (HandSHeadRun.stepQ (HandSHeadRun.denQ HandSHeadRun.tabQ) R.prog w) 20000 R.prog w os
theorem runA (w : World) (os : OsState) : (runE w os).map (fun s => (HandSHeadRun.looksF R.prog (boot_heap w.params) s.abs, HandSHeadRun.seenQ qv names (importedModules R.prog.main.body) (fun s => xlAt qv [] s && recOk R.toRowW.records s) s.abs, obA (HandSHeadRun.getT s))) = some (true, openGood qv names, (true, true)) := by
  kernel_rfl
theorem runB (w : World) (os : OsState) : (runE w os).map (fun s => obB (HandSHeadRun.getT s)) = some (He.valD (fns.take 39)) := by
  kernel_rfl
theorem runC (w : World) (os : OsState) : (runE w os).map (fun s => obC (HandSHeadRun.getT s)) = some (He.valD (fns.drop 39)) := by
  kernel_rfl
theorem run_of {E : Option PySem.W.SharedT} {α β : Type} {f : PySem.W.SharedT → α} {g : PySem.W.SharedT → β} {x : α} {y : β} (h1 : E.map (fun s => (f s, g s, obA (HandSHeadRun.getT s))) = some (x, y, (true, true)))
    (h2 : E.map (fun s => obB (HandSHeadRun.getT s)) = some (He.valD (fns.take 39))) (h3 : E.map (fun s => obC (HandSHeadRun.getT s)) = some (He.valD (fns.drop 39))) : E.map (fun s => (f s, g s, ob s)) = some (x, y, valP) := by
  cases E with
  | none => cases h1
  | some s =>
    have h1 := Option.some.inj h1
    obtain ⟨e1, e2⟩ := Prod.mk.inj h1
    obtain ⟨e2, e3⟩ := Prod.mk.inj e2
    have e : ob s = valP := obsP_of e3 (Option.some.inj h2) (Option.some.inj h3)
    show some (f s, g s, ob s) = _
    rw [e1, e2, e]
theorem run (w : World) : HandSHeadRun.RunEq R qv hookP ob 20000 names w := fun os => run_of (runA w os) (runB w os) (runC w os)
end PB

/-! ## M1 -/
set_option Elab.async false
set_option linter.all false
namespace PB
theorem ifT {c : Bool} {A B : Prop} (h : c = true) (a : A) : if c = true then A else B := by rw [if_pos h]; exact a
theorem ifF {c : Bool} {A B : Prop} (h : c = false) (a : B) : if c = true then A else B := by rw [if_neg (by rw [h]; decide)]; exact a
/-! ### numbers -/
theorem gcd_mod (a b : Int) : Int.gcd b (a % b) = Int.gcd a b := by
  rw [Int.emod_def, Int.mul_comm, Int.gcd_sub_mul_right_right, Int.gcd_comm]
theorem gcd_fmod (a b : Int) : Int.gcd b (a.fmod b) = Int.gcd a b := by
  rw [Int.fmod_def, Int.mul_comm, Int.gcd_sub_mul_right_right, Int.gcd_comm]
theorem fmod_abs (a b : Int) (h : b ≠ 0) : (a.fmod b).natAbs < b.natAbs := by
  have h1 := Int.emod_nonneg a h
  have h2 := Int.emod_lt a h
  rw [Int.fmod_eq_emod]
  split
  · omega
  · rename_i hn
    have h3 : ¬ (b ∣ a) := fun z => hn (.inr z)
    have h4 : a % b ≠ 0 := fun z => h3 (Int.dvd_of_emod_eq_zero z)
    omega
theorem mod_abs (a b : Int) (h : 0 < b) : (a % b).natAbs < b.natAbs := by
  have h1 := Int.emod_nonneg a (b := b) (by omega)
  have h2 := Int.emod_lt_of_pos a h
  omega
/-- wide, but not too wide -/
def W (x : Int) : Prop := x.natAbs.log2 < 1000
theorem W.of {x : Int} {k : Nat} (h : x.natAbs < 2 ^ k) (h0 : 0 < k) (h1 : k ≤ 1000) : W x := by
  have := PySem.Flt.log2_lt_of h0 h
  unfold W
  omega
theorem W.mul {x y : Int} (h : W x) (k : W y) : L2.CMulW x y := by
  unfold W at h k
  unfold L2.CMulW
  omega
theorem log2_mono {a b : Nat} (h : a ≤ b) (hb : b ≠ 0) : a.log2 ≤ b.log2 := by
  by_cases h0 : a = 0
  · rw [h0]
    simp
  · rw [Nat.le_log2 hb]
    exact Nat.le_trans (Nat.log2_self_le h0) h
theorem W.mono {x y : Int} (h : W y) (k : x.natAbs ≤ y.natAbs) : W x := by
  unfold W at *
  by_cases h0 : y.natAbs = 0
  · have : x.natAbs = 0 := by omega
    rw [this]
    simp
  · exact Nat.lt_of_le_of_lt (log2_mono k h0) h
theorem W.divOk {x y : Int} (h : W y) (p : 0 < y) : L2.CDivW x y := ⟨p, by unfold W at h; omega⟩
theorem abs_if (i : Int) : (if i < 0 then -i else i) = ((i.natAbs : Nat) : Int) := by split <;> omega
def dot (xs ys : List Int) : Int := (List.zipWith (· * ·) xs ys).sum
/-- the greatest common divisor of a plane's numbers -/
def byOf (ns : List Int) (o : Int) : Int := ns.foldl (fun a b => ((Int.gcd a b : Nat) : Int)) (o.natAbs : Nat)
end PB

/-! ## CM4 -/
set_option Elab.async false
set_option linter.all false
set_option maxRecDepth 100000
set_option maxHeartbeats 4000000
namespace PB
open PySem PySem.Spec PyProof.Rows L2
/-- the heap behind [te for a, b in zip(xs, ys)] -/
theorem lc_zip {α β : Type} {J : It} {G : Hp → Prop} (xs : List α) (ys : List β) (hx : α → V) (hy : β → V) (q : α × β → V) (w : Walk J (xs.map hx).length G (YPair (fun i => (xs.map hx)[i]?) (fun i => (ys.map hy)[i]?))) {te : TE} {a b : Nat} {σ : L2.St} {H1 : Hp} {D : Addr} {Qd : Hp → Prop}
    (hl : xs.length = ys.length) (hD : H1 D = none) (hG : ∀ H', Same H1 H' → G H') (hsz : xs.length < 100000) (hw : ∀ x y, wipe (((wipe σ [a, b]).set a (some x)).set b (some y)) [a, b] = wipe σ [a, b])
    (turn : ∀ x y H (R : VK), x ∈ xs → y ∈ ys → Same H1 H → (∀ H4, Same H H4 → R (q (x, y)) H4) → te (((wipe σ [a, b]).set a (some (hx x))).set b (some (hy y))) H R)
    (hd : ∀ H', Same H1 H' → H' D = some (.lst ((xs.zip ys).map q)) → Qd H') :
    ∃ W : Nat → Nat → Hp → Prop, (∃ m, W 0 m (upd H1 D (.lst []))) ∧ ∀ i m H, W i m H →
      (J.stop i H ∧ Qd H) ∨ (J.go i H ∧ ∃ Nx : Hp → Prop, (∀ H', Nx H' → ∃ m', m' < m ∧ W (i + 1) m' H') ∧ ∀ x H', J.yld i H x H' → gT 2 (gCons (gName a) (gCons (gName b) gNil)) x (wipe σ [a, b]) H' fun σ2 H2 => wipe σ2 [a, b] = wipe σ [a, b] ∧ tYes σ2 H2 fun b H3 =>
        if b = true then te σ2 H3 fun y H4 => ∃ acc, H4 D = some (.lst acc) ∧ acc.length < sizeLine ∧ Nx (upd H4 D (.lst (acc ++ [y]))) else Nx H3) := by
  have hlen : (xs.zip ys).length = (xs.map hx).length := by rw [List.length_zip, List.length_map, hl, Nat.min_self]
  rw [← hlen] at w
  refine lc_m (xs.zip ys) q w hD (fun i H x H' y => ypair_same i H x H' y) hG (by rw [hlen, List.length_map]; exact hsz) (fun i p x H H' hp hs y R k => ?_) (fun i p x H H' hp hs y A B k h => ?_) hd
  · obtain ⟨T, u, v, rfl, hT, rfl, e1, e2⟩ := y
    obtain ⟨p1, p2⟩ := p
    obtain ⟨g1, g2⟩ := List.getElem?_zip_eq_some.mp hp
    simp only [List.getElem?_map, g1, Option.map_some, Option.some.injEq] at e1
    simp only [List.getElem?_map, g2, Option.map_some, Option.some.injEq] at e2
    subst e1
    subst e2
    exact ⟨T, _, rfl, upd_same, rfl, _, _, rfl, _, _, rfl, rfl, hw _ _, turn p1 p2 _ R (List.mem_of_getElem? g1) (List.mem_of_getElem? g2) (hs.trans (same_upd hT)) k⟩
  · obtain ⟨c, zs, e1, e2, e3, z, r, e4, z2, r2, e5, e6, h⟩ := h
    exact ⟨c, zs, e1, e2, e3, z, r, e4, z2, r2, e5, e6, k _ _ h⟩
/-- [te for a in xs] -/
theorem lc_row {α : Type} {J : It} {G : Hp → Prop} (xs : List α) (hx : α → V) (q : α → V) (w : Walk J (xs.map hx).length G (YAt (xs.map hx))) {te : TE} {a : Nat} {σ : L2.St} {H1 : Hp} {D : Addr} {Qd : Hp → Prop}
    (hD : H1 D = none) (hG : ∀ H', Same H1 H' → G H') (hsz : xs.length < 100000) (hw : ∀ x, wipe ((wipe σ [a]).set a (some x)) [a] = wipe σ [a])
    (turn : ∀ x H (R : VK), x ∈ xs → Same H1 H → (∀ H4, Same H H4 → R (q x) H4) → te ((wipe σ [a]).set a (some (hx x))) H R)
    (hd : ∀ H', Same H1 H' → H' D = some (.lst (xs.map q)) → Qd H') :
    ∃ W : Nat → Nat → Hp → Prop, (∃ m, W 0 m (upd H1 D (.lst []))) ∧ ∀ i m H, W i m H →
      (J.stop i H ∧ Qd H) ∨ (J.go i H ∧ ∃ Nx : Hp → Prop, (∀ H', Nx H' → ∃ m', m' < m ∧ W (i + 1) m' H') ∧ ∀ x H', J.yld i H x H' → gName a x (wipe σ [a]) H' fun σ2 H2 => wipe σ2 [a] = wipe σ [a] ∧ tYes σ2 H2 fun b H3 =>
        if b = true then te σ2 H3 fun y H4 => ∃ acc, H4 D = some (.lst acc) ∧ acc.length < sizeLine ∧ Nx (upd H4 D (.lst (acc ++ [y]))) else Nx H3) := by
  have hlen : xs.length = (xs.map hx).length := by rw [List.length_map]
  rw [← hlen] at w
  refine lc_m xs q w hD (fun i H x H' y => yat_same i H x H' y) hG hsz (fun i p x H H' hp hs y R k => ?_) (fun i p x H H' hp hs y A B k h => ?_) hd
  · obtain ⟨rfl, e1⟩ := y
    simp only [List.getElem?_map, hp, Option.map_some, Option.some.injEq] at e1
    subst e1
    exact ⟨hw _, turn p _ R (List.mem_of_getElem? hp) hs k⟩
  · exact k _ _ h
/-- .. with a test -/
theorem lc_rowT {α : Type} {J : It} {G : Hp → Prop} (xs : List α) (hx : α → V) (p : α → Bool) (q : α → V) (w : Walk J (xs.map hx).length G (YAt (xs.map hx))) {tt : TT} {te : TE} {a : Nat} {σ : L2.St} {H1 : Hp} {D : Addr} {Qd : Hp → Prop}
    (hD : H1 D = none) (hG : ∀ H', Same H1 H' → G H') (hsz : xs.length < 100000) (hw : ∀ x, wipe ((wipe σ [a]).set a (some x)) [a] = wipe σ [a])
    (turn : ∀ x H (R : VK) (R' : Hp → Prop), x ∈ xs → Same H1 H → (p x = true → ∀ H4, Same H H4 → R (q x) H4) → (p x = false → ∀ H4, Same H H4 → R' H4) → tt ((wipe σ [a]).set a (some (hx x))) H fun b H3 => if b = true then te ((wipe σ [a]).set a (some (hx x))) H3 R else R' H3)
    (hd : ∀ H', Same H1 H' → H' D = some (.lst ((xs.filter p).map q)) → Qd H') :
    ∃ W : Nat → Nat → Hp → Prop, (∃ m, W 0 m (upd H1 D (.lst []))) ∧ ∀ i m H, W i m H →
      (J.stop i H ∧ Qd H) ∨ (J.go i H ∧ ∃ Nx : Hp → Prop, (∀ H', Nx H' → ∃ m', m' < m ∧ W (i + 1) m' H') ∧ ∀ x H', J.yld i H x H' → gName a x (wipe σ [a]) H' fun σ2 H2 => wipe σ2 [a] = wipe σ [a] ∧ tt σ2 H2 fun b H3 =>
        if b = true then te σ2 H3 fun y H4 => ∃ acc, H4 D = some (.lst acc) ∧ acc.length < sizeLine ∧ Nx (upd H4 D (.lst (acc ++ [y]))) else Nx H3) := by
  have hlen : xs.length = (xs.map hx).length := by rw [List.length_map]
  rw [← hlen] at w
  refine lc_fm xs p q w hD (fun i H x H' y => yat_same i H x H' y) hG hsz (fun i z x H H' hp hs y R R' k k' => ?_) hd
  obtain ⟨rfl, e1⟩ := y
  simp only [List.getElem?_map, hp, Option.map_some, Option.some.injEq] at e1
  subst e1
  exact ⟨hw _, turn z _ R R' (List.mem_of_getElem? hp) hs k k'⟩
theorem zip_map {α β γ : Type} (f : α → β → γ) : ∀ (xs : List α) (ys : List β), (xs.zip ys).map (fun p => f p.1 p.2) = List.zipWith f xs ys := fun xs ys => by rw [← List.zipWith_map_right] <;> simp [List.zip, List.map_zipWith]
theorem vi_map {α : Type} (f : α → Int) (l : List α) : vi (l.map f) = l.map (fun x => V.int (f x)) := by simp [vi]
theorem szl {n : Nat} (h : n < 100000) : n ≤ sizeLine := Nat.le_of_lt (sz_small h)
theorem vi_len (ns : List Int) : (vi ns).length = ns.length := List.length_map ..
end PB

/-! ## S1 -/
set_option Elab.async false
set_option linter.all false
set_option maxRecDepth 100000
set_option maxHeartbeats 4000000
namespace PB
open PySem PySem.Spec PyProof.Rows L2
variable {P : Program} {w : World} {K : PySem.W.Frag} {mg : Str → Option Value} {base : Heap}
def sp_is_whole : Sp := fun vs H Q E => ∃ t lo hi : Int, vs = [.int t, .int lo, .int hi] ∧ Q (.bl (decide (lo ≤ t ∧ t ≤ hi))) H
theorem g_is_whole (T : TX K mg) (D : At K mg "is_whole" d_is_whole) : Cl P w K mg base C8.CX0 1 "is_whole" sp_is_whole := by
  refine cl_of (k := 0) D sc_is_whole (fun _ _ _ _ _ _ us hl => match us, hl with | [_, _, _], _ => rfl) (fun vs H Q E h => by
    obtain ⟨t, lo, hi, rfl, q⟩ := h
    rfl) ?_
  intro f cdv A outer s H vs Q E hr h
  obtain ⟨t, lo, hi, rfl, q⟩ := h
  refine ⟨_, (PSs.nox (pss_one (ps_ret (pe_and (pe_callB cr_isB (by rfl) T.b_isinstance bt_isinstance (pa_cons (pv 0) (pa_cons (pe_bltn (v := .ty "int") (by rfl) T.b_int bt_int rfl) pa_nil))) (pe_and (pe_not (pe_callB cr_isB (by rfl) T.b_isinstance bt_isinstance (pa_cons (pv 0) (pa_cons (pe_bltn (v := .ty "bool") (by rfl) T.b_bool bt_bool rfl) pa_nil)))) (pe_one (pe_chain op_le op_le (pv 1) (pv 0) (pv 2)))))))), ?_⟩
  refine ⟨_, rfl, _, _, _, rfl, .int t, _, rfl, _, rfl, _, _, _, rfl, .intBool t, _, rfl, _, rfl, _, rfl, _, rfl, _, _, rfl, rfl, _, rfl, ?_⟩
  by_cases c : lo ≤ t
  · refine ifT (decide_eq_true c) ?_
    refine ⟨_, rfl, _, _, rfl, rfl, ?_⟩
    rw [show decide (lo ≤ t ∧ t ≤ hi) = decide (t ≤ hi) from by simp [c]] at q
    exact q
  · refine ifF (by simpa using c) ?_
    rw [show decide (lo ≤ t ∧ t ≤ hi) = false from by simp [c]] at q
    exact q
def sp_is_number : Sp := fun vs H Q E => ∃ t : Int, vs = [.int t] ∧ Q (.bl true) H
abbrev sp_is_number_ratios := sp_is_number
abbrev sp_is_number_planes := sp_is_number
theorem g_is_number_ratios (T : TX K mg) (D : At K mg "is_number_ratios" d_is_number_ratios) : Cl P w K mg base C8.CX0 1 "is_number_ratios" sp_is_number_ratios := by
  refine cl_of (k := 0) D sc_is_number_ratios (fun _ _ _ _ _ _ us hl => match us, hl with | [_], _ => rfl) (fun vs H Q E h => by
    obtain ⟨t, rfl, q⟩ := h
    rfl) ?_
  intro f cdv A outer s H vs Q E hr h
  obtain ⟨t, rfl, q⟩ := h
  refine ⟨_, (PSs.nox (pss_one (ps_ret (pe_and (pe_callB cr_isB (by rfl) T.b_isinstance bt_isinstance (pa_cons (pv 0) (pa_cons (pe_bltn (v := .ty "int") (by rfl) T.b_int bt_int rfl) pa_nil))) (pe_one (pe_not (pe_callB cr_isB (by rfl) T.b_isinstance bt_isinstance (pa_cons (pv 0) (pa_cons (pe_bltn (v := .ty "bool") (by rfl) T.b_bool bt_bool rfl) pa_nil))))))))), ?_⟩
  exact ⟨_, rfl, _, _, _, rfl, .int t, _, rfl, _, rfl, _, _, _, rfl, .intBool t, _, rfl, q⟩
theorem g_is_number_planes (T : TX K mg) (D : At K mg "is_number_planes" d_is_number_planes) : Cl P w K mg base C8.CX0 1 "is_number_planes" sp_is_number_planes := by
  refine cl_of (k := 0) D sc_is_number_planes (fun _ _ _ _ _ _ us hl => match us, hl with | [_], _ => rfl) (fun vs H Q E h => by
    obtain ⟨t, rfl, q⟩ := h
    rfl) ?_
  intro f cdv A outer s H vs Q E hr h
  obtain ⟨t, rfl, q⟩ := h
  refine ⟨_, (PSs.nox (pss_one (ps_ret (pe_and (pe_callB cr_isB (by rfl) T.b_isinstance bt_isinstance (pa_cons (pv 0) (pa_cons (pe_bltn (v := .ty "int") (by rfl) T.b_int bt_int rfl) pa_nil))) (pe_one (pe_not (pe_callB cr_isB (by rfl) T.b_isinstance bt_isinstance (pa_cons (pv 0) (pa_cons (pe_bltn (v := .ty "bool") (by rfl) T.b_bool bt_bool rfl) pa_nil))))))))), ?_⟩
  exact ⟨_, rfl, _, _, _, rfl, .int t, _, rfl, _, rfl, _, _, _, rfl, .intBool t, _, rfl, q⟩
def sp_common : Sp := fun vs H Q E => ∃ a b : Int, vs = [.int a, .int b] ∧ Q (.int ((Int.gcd a b : Nat) : Int)) H
abbrev sp_common_of_ratios := sp_common
abbrev sp_common_of_planes := sp_common
abbrev sp_law_common := sp_common
theorem g_common_of_planes (T : TX K mg) (D : At K mg "common_of_planes" d_common_of_planes) : Cl P w K mg base C8.CX0 1 "common_of_planes" sp_common_of_planes := by
  refine cl_of (k := 0) D sc_common_of_planes (fun _ _ _ _ _ _ us hl => match us, hl with | [_, _], _ => rfl) (fun vs H Q E h => by
    obtain ⟨a, b, rfl, q⟩ := h
    rfl) ?_
  intro f cdv A outer s H vs Q E hr h
  obtain ⟨a, b, rfl, q⟩ := h
  refine ⟨_, (PSs.nox (pss_cons (ps_while PassesOwn.never (pt_cmpR op_ne (pv 1) pe_int (nomark _))
 (pss_one (ps_par (i := 0) (j := 1) rfl sc_common_of_planes.nd rfl rfl (by decide) rfl rfl (pa_cons (pv 1) (pa_cons (pe_op op_modN (pv 0) (pv 1)) pa_nil)) rfl)))
 (pss_one (ps_ret (pe_callB call_abs (by rfl) T.b_abs bt_abs (pa_cons (pv 0) pa_nil)))))), ?_⟩
  refine ⟨fun m σ' H' => H' = H ∧ ∃ x y : Int, σ' = [some (.int x), some (.int y)] ∧ m = y.natAbs ∧ Int.gcd x y = Int.gcd a b, ⟨_, rfl, a, b, rfl, rfl, rfl⟩, ?_⟩
  rintro _ _ _ ⟨rfl, x, y, rfl, rfl, e⟩
  refine ⟨_, rfl, rfl, _, rfl, ?_⟩
  by_cases c : y = 0
  · subst c
    refine ⟨_, rfl, _, rfl, ?_⟩
    rw [abs_if, show ((x.natAbs : Nat) : Int) = ((Int.gcd a b : Nat) : Int) from by rw [← e, Int.gcd_zero_right]]
    exact q
  · refine ifT (by simp [c]) ?_
    refine ⟨fun σ' H' => H' = _ ∧ ∃ u : Int, σ' = [some (.int y), some (.int u)] ∧ u.natAbs < y.natAbs ∧ Int.gcd y u = Int.gcd a b, fun σ' H' ⟨z1, u, z2, z3, z4⟩ => ⟨_, z3, z1, _, _, z2, rfl, z4⟩, ?_⟩
    exact ⟨_, rfl, _, rfl, _, rfl, _, _, rfl, rfl, c, _, _, rfl, rfl, _, rfl, fmod_abs x y c, by rw [gcd_fmod, e]⟩
theorem g_common_of_ratios (T : TX K mg) (D : At K mg "common_of_ratios" d_common_of_ratios) : Cl P w K mg base C8.CX0 1 "common_of_ratios" sp_common_of_ratios := by
  refine cl_of (k := 0) D sc_common_of_ratios (fun _ _ _ _ _ _ us hl => match us, hl with | [_, _], _ => rfl) (fun vs H Q E h => by
    obtain ⟨a, b, rfl, q⟩ := h
    rfl) ?_
  intro f cdv A outer s H vs Q E hr h
  obtain ⟨a, b, rfl, q⟩ := h
  refine ⟨_, (PSs.nox (pss_cons (ps_set (i := 0) sc_common_of_ratios.nd rfl (Or.inl rfl) (pe_callB call_abs (by rfl) T.b_abs bt_abs (pa_cons (pv 0) pa_nil)))
 (pss_cons (ps_set (i := 1) sc_common_of_ratios.nd rfl (Or.inl rfl) (pe_callB call_abs (by rfl) T.b_abs bt_abs (pa_cons (pv 1) pa_nil)))
 (pss_cons (ps_while PassesOwn.never (pt_cmpR op_gt (pv 1) pe_int (nomark _))
 (pss_one (ps_par (i := 0) (j := 1) rfl sc_common_of_ratios.nd rfl rfl (by decide) rfl rfl (pa_cons (pv 1) (pa_cons (pe_op op_mod (pv 0) (pv 1)) pa_nil)) rfl)))
 (pss_one (ps_ret (pv 0))))))), ?_⟩
  refine ⟨_, rfl, _, rfl, _, rfl, _, rfl, ?_⟩
  refine ⟨fun m σ' H' => H' = H ∧ ∃ x y : Int, σ' = [some (.int x), some (.int y)] ∧ m = y.natAbs ∧ 0 ≤ x ∧ 0 ≤ y ∧ Int.gcd x y = Int.gcd a b, ⟨_, rfl, _, _, rfl, rfl, by split <;> omega, by split <;> omega, by rw [abs_if, abs_if]; simp [Int.gcd]⟩, ?_⟩
  rintro _ _ _ ⟨rfl, x, y, rfl, rfl, hx, hy, e⟩
  refine ⟨_, rfl, _, _, rfl, rfl, _, rfl, ?_⟩
  by_cases c : 0 < y
  · refine ifT (decide_eq_true c) ?_
    refine ⟨fun σ' H' => H' = _ ∧ ∃ u : Int, σ' = [some (.int y), some (.int u)] ∧ u.natAbs < y.natAbs ∧ 0 ≤ u ∧ Int.gcd y u = Int.gcd a b, fun σ' H' ⟨z1, u, z2, z3, z4, z5⟩ => ⟨_, z3, z1, _, _, z2, rfl, hy, z4, z5⟩, ?_⟩
    exact ⟨_, rfl, _, rfl, _, rfl, _, _, rfl, rfl, c, _, _, rfl, rfl, _, rfl, mod_abs x y c, Int.emod_nonneg x (by omega), by rw [gcd_mod, e]⟩
  · refine ifF (by simpa using c) ?_
    refine ⟨_, rfl, ?_⟩
    rw [show x = ((Int.gcd a b : Nat) : Int) from by rw [← e, show y = 0 from by omega, Int.gcd_zero_right]; omega]
    exact q
theorem g_law_common (T : TX K mg) (D : At K mg "_law_common" d_law_common) : Cl P w K mg base C8.CX0 1 "_law_common" sp_law_common := by
  refine cl_of (k := 0) D sc_law_common (fun _ _ _ _ _ _ us hl => match us, hl with | [_, _], _ => rfl) (fun vs H Q E h => by
    obtain ⟨a, b, rfl, q⟩ := h
    rfl) ?_
  intro f cdv A outer s H vs Q E hr h
  obtain ⟨a, b, rfl, q⟩ := h
  refine ⟨_, (PSs.nox (pss_cons (ps_par (i := 0) (j := 1) rfl sc_law_common.nd rfl rfl (by decide) rfl rfl (pa_cons (pe_callB call_abs (by rfl) T.b_abs bt_abs (pa_cons (pv 0) pa_nil)) (pa_cons (pe_callB call_abs (by rfl) T.b_abs bt_abs (pa_cons (pv 1) pa_nil)) pa_nil)) rfl)
 (pss_cons (ps_while PassesOwn.never (pt_cmpR op_gt (pv 1) pe_int (nomark _))
 (pss_one (ps_par (i := 0) (j := 1) rfl sc_law_common.nd rfl rfl (by decide) rfl rfl (pa_cons (pv 1) (pa_cons (pe_op op_mod (pv 0) (pv 1)) pa_nil)) rfl)))
 (pss_one (ps_ret (pv 0)))))), ?_⟩
  refine ⟨_, rfl, _, rfl, _, rfl, _, rfl, _, _, rfl, ?_⟩
  refine ⟨fun m σ' H' => H' = H ∧ ∃ x y : Int, σ' = [some (.int x), some (.int y)] ∧ m = y.natAbs ∧ 0 ≤ x ∧ 0 ≤ y ∧ Int.gcd x y = Int.gcd a b, ⟨_, rfl, _, _, rfl, rfl, by split <;> omega, by split <;> omega, by rw [abs_if, abs_if]; simp [Int.gcd]⟩, ?_⟩
  rintro _ _ _ ⟨rfl, x, y, rfl, rfl, hx, hy, e⟩
  refine ⟨_, rfl, _, _, rfl, rfl, _, rfl, ?_⟩
  by_cases c : 0 < y
  · refine ifT (decide_eq_true c) ?_
    refine ⟨fun σ' H' => H' = _ ∧ ∃ u : Int, σ' = [some (.int y), some (.int u)] ∧ u.natAbs < y.natAbs ∧ 0 ≤ u ∧ Int.gcd y u = Int.gcd a b, fun σ' H' ⟨z1, u, z2, z3, z4, z5⟩ => ⟨_, z3, z1, _, _, z2, rfl, hy, z4, z5⟩, ?_⟩
    exact ⟨_, rfl, _, rfl, _, rfl, _, _, rfl, rfl, c, _, _, rfl, rfl, _, rfl, mod_abs x y c, Int.emod_nonneg x (by omega), by rw [gcd_mod, e]⟩
  · refine ifF (by simpa using c) ?_
    refine ⟨_, rfl, ?_⟩
    rw [show x = ((Int.gcd a b : Nat) : Int) from by rw [← e, show y = 0 from by omega, Int.gcd_zero_right]; omega]
    exact q

end PB

/-! ## S2 -/
set_option Elab.async false
set_option linter.all false
set_option maxRecDepth 100000
set_option maxHeartbeats 4000000
namespace PB
open PySem PySem.Spec PyProof.Rows L2
variable {P : Program} {w : World} {K : PySem.W.Frag} {mg : Str → Option Value} {base : Heap}
def sp_dot_of : Sp := fun vs H Q E => ∃ (a b : Addr) (t1 t2 : Bool) (xs ys : List Int), vs = [.ref a, .ref b] ∧ H a = some (RowF t1 (vi xs)) ∧ H b = some (RowF t2 (vi ys)) ∧ xs.length = ys.length ∧ xs.length < 1000 ∧ (∀ x ∈ xs, W x) ∧ (∀ y ∈ ys, W y) ∧ (∀ H', L2.Same H H' → Q (.int (dot xs ys)) H')
theorem g_dot_of (T : TX K mg) (D : At K mg "dot_of" d_dot_of) : Cl P w K mg base C8.CX0 1 "dot_of" sp_dot_of := by
  refine cl_of (k := 0) D sc_dot_of (fun _ _ _ _ _ _ us hl => match us, hl with | [_, _], _ => rfl) (fun vs H Q E h => by
    obtain ⟨a, b, t1, t2, xs, ys, rfl, h1, h2, hl, hs, w1, w2, q⟩ := h
    rfl) ?_
  intro f cdv A outer s H vs Q E hr h
  obtain ⟨a, b, t1, t2, xs, ys, rfl, h1, h2, hl, hs, w1, w2, q⟩ := h
  refine ⟨_, (PSs.nox (pss_one (ps_ret (pe_callB (k_sum rfl) (by rfl) T.b_sum bt_sum (pa_cons (pe_lc (own := [("number", 2), ("times", 3)]) rfl sc_dot_of.nd (k_zip (by rfl) T.b_zip (pa_cons (pv 0) (pa_cons (pv 1) pa_nil))) (blkOk_by (N := ["one", "other", "number", "times"]) (sc := d_dot_of.scope) (own := [("number", 2), ("times", 3)]) (by decide +kernel)) (fun _ _ _ _ _ => (k_tup (n := 2) rfl (pgs_cons (pg_name (i := 2) sc_dot_of.nd rfl (Or.inl rfl)) (pgs_cons (pg_name (i := 3) sc_dot_of.nd rfl (Or.inl rfl)) pgs_nil)))) (fun _ _ _ _ _ => pts_nil) (fun _ _ _ _ _ => (pe_op op_mulW (pv 2) (pv 3)))) pa_nil))))), ?_⟩
  refine ⟨_, rfl, _, rfl, _, _, _, _, _, _, rfl, h1, h2, by simp [hl], fun J w D hD => lc_zip xs ys V.int V.int (fun p => .int (p.1 * p.2)) w hl hD (fun H' s => ⟨s _ _ h1, s _ _ h2⟩) (by omega) (fun _ _ => rfl) ?_ ?_⟩
  · intro x y H R hx hy s k
    exact ⟨_, rfl, _, rfl, _, _, rfl, rfl, (w1 x hx).mul (w2 y hy), k _ (L2.Same.refl _)⟩
  · intro H' s e
    refine ⟨_, (xs.zip ys).map (fun p => p.1 * p.2), rfl, by rw [e, vi_map], ?_⟩
    rw [zip_map]
    exact q H' s
def sp_law_dot : Sp := fun vs H Q E => ∃ (a b : Addr) (t1 t2 : Bool) (xs ys : List Int), vs = [.ref a, .ref b] ∧ H a = some (RowF t1 (vi xs)) ∧ H b = some (RowF t2 (vi ys)) ∧ xs.length = ys.length ∧ xs.length < 1000 ∧ (∀ x ∈ xs, ∀ y ∈ ys, CMul x y) ∧ (∀ H', L2.Same H H' → Q (.int (dot xs ys)) H')
theorem g_law_dot (T : TX K mg) (D : At K mg "_law_dot" d_law_dot) : Cl P w K mg base C8.CX0 1 "_law_dot" sp_law_dot := by
  refine cl_of (k := 0) D sc_law_dot (fun _ _ _ _ _ _ us hl => match us, hl with | [_, _], _ => rfl) (fun vs H Q E h => by
    obtain ⟨a, b, t1, t2, xs, ys, rfl, h1, h2, hl, hs, w1, q⟩ := h
    rfl) ?_
  intro f cdv A outer s H vs Q E hr h
  obtain ⟨a, b, t1, t2, xs, ys, rfl, h1, h2, hl, hs, w1, q⟩ := h
  refine ⟨_, (PSs.nox (pss_one (ps_ret (pe_callB (k_sum rfl) (by rfl) T.b_sum bt_sum (pa_cons (pe_lc (own := [("_law_number", 2), ("_law_times_here", 3)]) rfl sc_law_dot.nd (k_zip (by rfl) T.b_zip (pa_cons (pv 0) (pa_cons (pv 1) pa_nil))) (blkOk_by (N := ["_law_one", "_law_other", "_law_number", "_law_times_here"]) (sc := d_law_dot.scope) (own := [("_law_number", 2), ("_law_times_here", 3)]) (by decide +kernel)) (fun _ _ _ _ _ => (k_tup (n := 2) rfl (pgs_cons (pg_name (i := 2) sc_law_dot.nd rfl (Or.inl rfl)) (pgs_cons (pg_name (i := 3) sc_law_dot.nd rfl (Or.inl rfl)) pgs_nil)))) (fun _ _ _ _ _ => pts_nil) (fun _ _ _ _ _ => (pe_op op_mul (pv 2) (pv 3)))) pa_nil))))), ?_⟩
  refine ⟨_, rfl, _, rfl, _, _, _, _, _, _, rfl, h1, h2, by simp [hl], fun J w D hD => lc_zip xs ys V.int V.int (fun p => .int (p.1 * p.2)) w hl hD (fun H' s => ⟨s _ _ h1, s _ _ h2⟩) (by omega) (fun _ _ => rfl) ?_ ?_⟩
  · intro x y H R hx hy s k
    exact ⟨_, rfl, _, rfl, _, _, rfl, rfl, w1 x hx y hy, k _ (L2.Same.refl _)⟩
  · intro H' s e
    refine ⟨_, (xs.zip ys).map (fun p => p.1 * p.2), rfl, by rw [e, vi_map], ?_⟩
    rw [zip_map]
    exact q H' s
/-- a plane in the heap; its first may be a list -/
def PlT (t : Bool) (H : Hp) (p : Addr) (ns : List Int) (o : Int) : Prop := ∃ nr, H p = some (.tup [.ref nr, .int o]) ∧ H nr = some (RowF t (vi ns))
abbrev PlAt := PlT true
theorem PlT.same {t : Bool} {H H' : Hp} {p : Addr} {ns : List Int} {o : Int} (h : PlT t H p ns o) (s : L2.Same H H') : PlT t H' p ns o := by
  obtain ⟨nr, h1, h2⟩ := h
  exact ⟨nr, s _ _ h1, s _ _ h2⟩
def sp_law_value : Sp := fun vs H Q E => ∃ (a b : Addr) (t1 t2 : Bool) (xs ys : List Int) (o : Int), vs = [.ref a, .ref b] ∧ PlT t1 H a xs o ∧ H b = some (RowF t2 (vi ys)) ∧ xs.length = ys.length ∧ xs.length < 1000 ∧ (∀ x ∈ xs, ∀ y ∈ ys, CMul x y) ∧ (∀ H', L2.Same H H' → Q (.int (dot xs ys - o)) H')
theorem g_law_value (T : TX K mg) (D : At K mg "_law_value" d_law_value) : Cl P w K mg base C8.CX0 1 "_law_value" sp_law_value := by
  refine cl_of (k := 0) D sc_law_value (fun _ _ _ _ _ _ us hl => match us, hl with | [_, _], _ => rfl) (fun vs H Q E h => by
    obtain ⟨a, b, t1, t2, xs, ys, o, rfl, ⟨nr, h0, h1⟩, h2, hl, hs, w1, q⟩ := h
    rfl) ?_
  intro f cdv A outer s H vs Q E hr h
  obtain ⟨a, b, t1, t2, xs, ys, o, rfl, ⟨nr, h0, h1⟩, h2, hl, hs, w1, q⟩ := h
  refine ⟨_, (PSs.nox (pss_one (ps_ret (pe_op op_sub (pe_callB (k_sum rfl) (by rfl) T.b_sum bt_sum (pa_cons (pe_lc (own := [("_law_one", 2), ("_law_other", 3)]) rfl sc_law_value.nd (k_zip (by rfl) T.b_zip (pa_cons (pe_ix k_ix (pv 0) pe_int (fun _ _ => rfl)) (pa_cons (pv 1) pa_nil))) (blkOk_by (N := ["_law_plane_here", "_law_place", "_law_one", "_law_other"]) (sc := d_law_value.scope) (own := [("_law_one", 2), ("_law_other", 3)]) (by decide +kernel)) (fun _ _ _ _ _ => (k_tup (n := 2) rfl (pgs_cons (pg_name (i := 2) sc_law_value.nd rfl (Or.inl rfl)) (pgs_cons (pg_name (i := 3) sc_law_value.nd rfl (Or.inl rfl)) pgs_nil)))) (fun _ _ _ _ _ => pts_nil) (fun _ _ _ _ _ => (pe_op op_mul (pv 2) (pv 3)))) pa_nil)) (pe_ix k_ix (pv 0) pe_int (fun _ _ => rfl)))))), ?_⟩
  refine ⟨_, rfl, _, true, _, _, _, rfl, rfl, h0, rfl, _, rfl, _, _, _, _, _, _, rfl, h1, h2, by simp [hl], fun J w D hD => lc_zip xs ys V.int V.int (fun p => .int (p.1 * p.2)) w hl hD (fun H' s => ⟨s _ _ h1, s _ _ h2⟩) (by omega) (fun _ _ => rfl) ?_ ?_⟩
  · intro x y H R hx hy s k
    exact ⟨_, rfl, _, rfl, _, _, rfl, rfl, w1 x hx y hy, k _ (L2.Same.refl _)⟩
  · intro H' s e
    refine ⟨_, (xs.zip ys).map (fun p => p.1 * p.2), rfl, by rw [e, vi_map], _, rfl, _, true, _, _, _, rfl, rfl, s _ _ h0, rfl, _, _, rfl, rfl, ?_⟩
    rw [zip_map]
    exact q H' s
def sp_value_by : Sp := fun vs H Q E => ∃ (a b : Addr) (t2 : Bool) (xs ys : List Int) (o : Int), vs = [.ref a, .ref b] ∧ PlAt H a xs o ∧ H b = some (RowF t2 (vi ys)) ∧ xs.length = ys.length ∧ xs.length < 1000 ∧ (∀ x ∈ xs, W x) ∧ (∀ y ∈ ys, W y) ∧ (∀ H', L2.Same H H' → Q (.int (dot xs ys - o)) H')
theorem g_value_by (T : TX K mg) (D : At K mg "value_by" d_value_by) (c_dot_of : Cl P w K mg base C8.CX0 1 "dot_of" sp_dot_of) : Cl P w K mg base C8.CX0 2 "value_by" sp_value_by := by
  refine cl_of (k := 1) D sc_value_by (fun _ _ _ _ _ _ us hl => match us, hl with | [_, _], _ => rfl) (fun vs H Q E h => by
    obtain ⟨a, b, t2, xs, ys, o, rfl, ⟨nr, h0, h1⟩, h2, hl, hs, w1, w2, q⟩ := h
    rfl) ?_
  intro f cdv A outer s H vs Q E hr h
  obtain ⟨a, b, t2, xs, ys, o, rfl, ⟨nr, h0, h1⟩, h2, hl, hs, w1, w2, q⟩ := h
  refine ⟨_, (PSs.nox (pss_cons (ps_asg (pv 0) (k_tup (n := 2) rfl (pgs_cons (pg_name (i := 2) sc_value_by.nd rfl (Or.inl rfl)) (pgs_cons (pg_name (i := 3) sc_value_by.nd rfl (Or.inl rfl)) pgs_nil))))
 (pss_one (ps_ret (pe_op op_sub (pe_cl c_dot_of hr (by decide) (by rfl) (pa_cons (pv 2) (pa_cons (pv 1) pa_nil))) (pv 3)))))), ?_⟩
  exact ⟨_, rfl, _, _, rfl, h0, rfl, _, _, rfl, _, _, rfl, rfl, _, rfl, _, rfl, nr, b, true, t2, xs, ys, rfl, h1, h2, hl, hs, w1, w2, fun H' s => ⟨_, rfl, _, _, rfl, rfl, q H' s⟩⟩
def sp_length_of : Sp := fun vs H Q E => ∃ (a r : Addr) (t1 t2 : Bool) (rest : List V) (xs : List Int), vs = [.ref a] ∧ H a = some (RowF t1 (.ref r :: rest)) ∧ H r = some (RowF t2 (vi xs)) ∧ xs.length < 1000 ∧ (∀ x ∈ xs, W x) ∧ (∀ H', L2.Same H H' → Q (.int (dot xs xs)) H')
theorem at0 {x : V} {rest : List V} : atI (x :: rest) 0 = some x := by
  unfold atI ixN
  simp
theorem g_length_of (T : TX K mg) (D : At K mg "length_of" d_length_of) (c_dot_of : Cl P w K mg base C8.CX0 1 "dot_of" sp_dot_of) : Cl P w K mg base C8.CX0 2 "length_of" sp_length_of := by
  refine cl_of (k := 1) D sc_length_of (fun _ _ _ _ _ _ us hl => match us, hl with | [_], _ => rfl) (fun vs H Q E h => by
    obtain ⟨a, r, t1, t2, rest, xs, rfl, h1, h2, hs, w1, q⟩ := h
    rfl) ?_
  intro f cdv A outer s H vs Q E hr h
  obtain ⟨a, r, t1, t2, rest, xs, rfl, h1, h2, hs, w1, q⟩ := h
  refine ⟨_, (PSs.nox (pss_one (ps_ret (pe_cl c_dot_of hr (by decide) (by rfl) (pa_cons (pe_ix k_ix (pv 0) pe_int (fun _ _ => rfl)) (pa_cons (pe_ix k_ix (pv 0) pe_int (fun _ _ => rfl)) pa_nil)))))), ?_⟩
  exact ⟨_, rfl, _, _, _, _, _, rfl, rfl, h1, at0, _, rfl, _, _, _, _, _, rfl, rfl, h1, at0, r, r, t2, t2, xs, xs, rfl, h2, h2, rfl, hs, w1, w1, q⟩
def sp_lowest_of : Sp := fun vs H Q E => ∃ x y : Int, vs = [.int x, .int y] ∧ 0 < y ∧ W y ∧ (∀ t H', L2.Same H H' → H' t = some (.tup [.int (x / ((Int.gcd x y : Nat) : Int)), .int (y / ((Int.gcd x y : Nat) : Int))]) → Q (.ref t) H')
theorem g_lowest_of (T : TX K mg) (D : At K mg "lowest_of" d_lowest_of) (c_common_of_ratios : Cl P w K mg base C8.CX0 1 "common_of_ratios" sp_common_of_ratios) : Cl P w K mg base C8.CX0 2 "lowest_of" sp_lowest_of := by
  refine cl_of (k := 1) D sc_lowest_of (fun _ _ _ _ _ _ us hl => match us, hl with | [_, _], _ => rfl) (fun vs H Q E h => by
    obtain ⟨x, y, rfl, hy, wy, q⟩ := h
    rfl) ?_
  intro f cdv A outer s H vs Q E hr h
  obtain ⟨x, y, rfl, hy, wy, q⟩ := h
  refine ⟨_, (PSs.nox (pss_cons (ps_set (i := 2) sc_lowest_of.nd rfl (Or.inl rfl) (pe_cl c_common_of_ratios hr (by decide) (by rfl) (pa_cons (pv 0) (pa_cons (pv 1) pa_nil))))
 (pss_cons (ps_if (pt_cmpR op_lt (pv 1) pe_int (nomark _))
 (pss_one (ps_set (i := 2) sc_lowest_of.nd rfl (Or.inl rfl) (pe_un un_neg (pv 2))))
 pss_nil)
 (pss_one (ps_ret (pe_tup (pa_cons (pe_op op_fdivW (pv 0) (pv 2)) (pa_cons (pe_op op_fdivW (pv 1) (pv 2)) pa_nil)))))))), ?_⟩
  have g0 : (0 : Int) < ((Int.gcd x y : Nat) : Int) := by
    have := Int.gcd_pos_of_ne_zero_right x (show y ≠ 0 by omega)
    omega
  have wg : W ((Int.gcd x y : Nat) : Int) := wy.mono (by
    have := Int.gcd_le_natAbs_right x (show y ≠ 0 by omega)
    simpa using this)
  refine ⟨_, rfl, _, rfl, x, y, rfl, _, rfl, _, _, rfl, rfl, _, rfl, ifF (by simp; omega) ?_⟩
  refine ⟨_, rfl, _, rfl, _, _, rfl, rfl, wg.divOk g0, _, rfl, _, rfl, _, _, rfl, rfl, wg.divOk g0, szl (show 2 < 100000 by decide), fun p hp => q p _ (same_upd hp) upd_same⟩
def sp_ratio_of : Sp := sp_lowest_of
theorem g_ratio_of (T : TX K mg) (D : At K mg "ratio_of" d_ratio_of) (c_is_number_ratios : Cl P w K mg base C8.CX0 1 "is_number_ratios" sp_is_number_ratios) (c_lowest_of : Cl P w K mg base C8.CX0 2 "lowest_of" sp_lowest_of) : Cl P w K mg base C8.CX0 3 "ratio_of" sp_ratio_of := by
  refine cl_of (k := 2) D sc_ratio_of (fun _ _ _ _ _ _ us hl => match us, hl with | [_, _], _ => rfl) (fun vs H Q E h => by
    obtain ⟨x, y, rfl, hy, wy, q⟩ := h
    rfl) ?_
  intro f cdv A outer s H vs Q E hr h
  obtain ⟨x, y, rfl, hy, wy, q⟩ := h
  refine ⟨_, (PSs.nox (pss_cons (ps_if (PW.pt (pw_or (pt_not (pt_val (pe_cl c_is_number_ratios hr (by decide) (by rfl) (pa_cons (pv 0) pa_nil)))) (pw_or (pt_not (pt_val (pe_cl c_is_number_ratios hr (by decide) (by rfl) (pa_cons (pv 1) pa_nil)))) (pw_or1 (pt_cmpR op_eq (pv 1) pe_int (nomark _))))))
 (pss_one ps_never)
 pss_nil)
 (pss_one (ps_ret (pe_cl c_lowest_of hr (by decide) (by rfl) (pa_cons (pv 0) (pa_cons (pv 1) pa_nil))))))), ?_⟩
  refine ⟨_, rfl, x, rfl, _, rfl, ifF rfl ?_⟩
  refine ⟨_, rfl, y, rfl, _, rfl, ifF rfl ?_⟩
  refine ⟨_, rfl, rfl, _, rfl, ifF (by simp; omega) ?_⟩
  exact ⟨_, rfl, _, rfl, x, y, rfl, hy, wy, q⟩
def sp_added : Sp := fun vs H Q E => ∃ (a b : Addr) (t1 t2 : Bool) (xs ys : List Int), vs = [.ref a, .ref b] ∧ H a = some (RowF t1 (vi xs)) ∧ H b = some (RowF t2 (vi ys)) ∧ xs.length = ys.length ∧ xs.length < 1000 ∧ (∀ p H', L2.Same H H' → H' p = some (.tup (vi (List.zipWith (· + ·) xs ys))) → Q (.ref p) H')
theorem g_added (T : TX K mg) (D : At K mg "added" d_added) : Cl P w K mg base C8.CX0 1 "added" sp_added := by
  refine cl_of (k := 0) D sc_added (fun _ _ _ _ _ _ us hl => match us, hl with | [_, _], _ => rfl) (fun vs H Q E h => by
    obtain ⟨a, b, t1, t2, xs, ys, rfl, h1, h2, hl, hs, q⟩ := h
    rfl) ?_
  intro f cdv A outer s H vs Q E hr h
  obtain ⟨a, b, t1, t2, xs, ys, rfl, h1, h2, hl, hs, q⟩ := h
  refine ⟨_, (PSs.nox (pss_one (ps_ret (pe_callTy k_tuple (by rfl) T.b_tuple bt_tuple (pa_cons (pe_lc (own := [("one", 2), ("more", 3)]) rfl sc_added.nd (k_zip (by rfl) T.b_zip (pa_cons (pv 0) (pa_cons (pv 1) pa_nil))) (blkOk_by (N := ["row", "shift", "one", "more"]) (sc := d_added.scope) (own := [("one", 2), ("more", 3)]) (by decide +kernel)) (fun _ _ _ _ _ => (k_tup (n := 2) rfl (pgs_cons (pg_name (i := 2) sc_added.nd rfl (Or.inl rfl)) (pgs_cons (pg_name (i := 3) sc_added.nd rfl (Or.inl rfl)) pgs_nil)))) (fun _ _ _ _ _ => pts_nil) (fun _ _ _ _ _ => (pe_op op_add (pv 2) (pv 3)))) pa_nil))))), ?_⟩
  refine ⟨_, rfl, _, rfl, _, _, _, _, _, _, rfl, h1, h2, by simp [hl], fun J w D hD => lc_zip xs ys V.int V.int (fun p => .int (p.1 + p.2)) w hl hD (fun H' s => ⟨s _ _ h1, s _ _ h2⟩) (by omega) (fun _ _ => rfl) ?_ ?_⟩
  · intro x y H R hx hy s k
    exact ⟨_, rfl, _, rfl, _, _, rfl, rfl, k _ (L2.Same.refl _)⟩
  · intro H' s e
    refine ⟨_, false, _, rfl, e, fun l H2 s2 e2 => q l H2 (s.trans s2) ?_⟩
    rw [e2, ← zip_map, vi_map]
def sp_times_row : Sp := fun vs H Q E => ∃ (a : Addr) (k : Int) (t : Bool) (xs : List Int), vs = [.ref a, .int k] ∧ H a = some (RowF t (vi xs)) ∧ 0 ≤ k ∧ k < 1000000 ∧ xs.length < 1000 ∧ (∀ p H', L2.Same H H' → H' p = some (.tup (vi (xs.map (· * k)))) → Q (.ref p) H')
theorem g_times_row (T : TX K mg) (D : At K mg "times_row" d_times_row) : Cl P w K mg base C8.CX0 1 "times_row" sp_times_row := by
  refine cl_of (k := 0) D sc_times_row (fun _ _ _ _ _ _ us hl => match us, hl with | [_, _], _ => rfl) (fun vs H Q E h => by
    obtain ⟨a, k, t, xs, rfl, h1, k0, k1, hs, q⟩ := h
    rfl) ?_
  intro f cdv A outer s H vs Q E hr h
  obtain ⟨a, k, t, xs, rfl, h1, k0, k1, hs, q⟩ := h
  refine ⟨_, (PSs.nox (pss_one (ps_ret (pe_callTy k_tuple (by rfl) T.b_tuple bt_tuple (pa_cons (pe_lc (own := [("one", 2)]) rfl sc_times_row.nd (k_row (pv 0)) (blkOk_by (N := ["row", "many", "one"]) (sc := d_times_row.scope) (own := [("one", 2)]) (by decide +kernel)) (fun _ _ _ _ _ => (pg_name (i := 2) sc_times_row.nd rfl (Or.inl rfl))) (fun _ _ _ _ _ => pts_nil) (fun _ _ _ _ _ => (pe_op op_mul (pv 2) (pv 1)))) pa_nil))))), ?_⟩
  refine ⟨_, rfl, _, _, _, rfl, h1, fun J w D hD => lc_row xs V.int (fun x => .int (x * k)) w hD (fun H' s => s _ _ h1) (by omega) (fun _ => rfl) ?_ ?_⟩
  · intro x H R hx s r
    exact ⟨_, rfl, _, rfl, _, _, rfl, rfl, .inr ⟨by omega, by omega⟩, r _ (L2.Same.refl _)⟩
  · intro H' s e
    refine ⟨_, false, _, rfl, e, fun l H2 s2 e2 => q l H2 (s.trans s2) ?_⟩
    rw [e2, vi_map]
/-- rows of numbers under a row of either kind -/
def Sq1 (H : Hp) (r : Addr) (xs : List Int) : Prop := ∃ t, H r = some (RowF t (vi xs))
theorem Sq1.same {H H' : Hp} {r : Addr} {xs : List Int} (h : Sq1 H r xs) (s : L2.Same H H') : Sq1 H' r xs := by
  obtain ⟨t, h⟩ := h
  exact ⟨t, s _ _ h⟩
/-- a square in the heap -/
def SqAt (H : Hp) (q : Addr) (rows : List (List Int)) : Prop := ∃ (t : Bool) (rs : List (Addr × List Int)), H q = some (RowF t (rs.map fun r => V.ref r.1)) ∧ (∀ r ∈ rs, Sq1 H r.1 r.2) ∧ rs.map (·.2) = rows
theorem SqAt.same {H H' : Hp} {q : Addr} {rows : List (List Int)} (h : SqAt H q rows) (s : L2.Same H H') : SqAt H' q rows := by
  obtain ⟨t, rs, h1, h2, h3⟩ := h
  exact ⟨t, rs, s _ _ h1, fun r hr => (h2 r hr).same s, h3⟩
def sp_by_rows : Sp := fun vs H Q E => ∃ (a b : Addr) (t : Bool) (rows : List (List Int)) (ys : List Int), vs = [.ref a, .ref b] ∧ SqAt H a rows ∧ H b = some (RowF t (vi ys)) ∧ rows.length < 1000 ∧ ys.length < 1000 ∧ (∀ r ∈ rows, r.length = ys.length ∧ ∀ x ∈ r, W x) ∧ (∀ y ∈ ys, W y) ∧
  (∀ p H', L2.Same H H' → H' p = some (.tup (vi (rows.map (dot · ys)))) → Q (.ref p) H')
theorem g_by_rows (T : TX K mg) (D : At K mg "by_rows" d_by_rows) (c_dot_of : Cl P w K mg base C8.CX0 1 "dot_of" sp_dot_of) : Cl P w K mg base C8.CX0 2 "by_rows" sp_by_rows := by
  refine cl_of (k := 1) D sc_by_rows (fun _ _ _ _ _ _ us hl => match us, hl with | [_, _], _ => rfl) (fun vs H Q E h => by
    obtain ⟨a, b, t, rows, ys, rfl, ⟨t1, rs, h1, h2, h3⟩, hb, hs, hy, hr1, hy1, q⟩ := h
    rfl) ?_
  intro f cdv A outer s H vs Q E hr h
  obtain ⟨a, b, t, rows, ys, rfl, ⟨t1, rs, h1, h2, h3⟩, hb, hs, hy, hr1, hy1, q⟩ := h
  refine ⟨_, (PSs.nox (pss_one (ps_ret (pe_callTy k_tuple (by rfl) T.b_tuple bt_tuple (pa_cons (pe_lc (own := [("one", 2)]) rfl sc_by_rows.nd (k_row (pv 0)) (blkOk_by (N := ["square", "row", "one"]) (sc := d_by_rows.scope) (own := [("one", 2)]) (by decide +kernel)) (fun _ _ _ _ _ => (pg_name (i := 2) sc_by_rows.nd rfl (Or.inl rfl))) (fun _ _ _ _ _ => pts_nil) (fun _ _ _ _ _ => (pe_cl c_dot_of hr (by decide) (by rfl) (pa_cons (pv 2) (pa_cons (pv 1) pa_nil))))) pa_nil))))), ?_⟩
  subst h3
  refine ⟨_, rfl, _, _, _, rfl, h1, fun J w D hD => lc_row rs (fun r => V.ref r.1) (fun r => .int (dot r.2 ys)) w hD (fun H' s => s _ _ h1) (by simp at hs; omega) (fun _ => rfl) ?_ ?_⟩
  · intro x H1 R hx s k
    obtain ⟨t2, h2⟩ := h2 x hx
    have hm := hr1 x.2 (List.mem_map.mpr ⟨x, hx, rfl⟩)
    exact ⟨_, rfl, _, rfl, _, _, _, _, _, _, rfl, s _ _ h2, s _ _ hb, hm.1, by omega, hm.2, hy1, k⟩
  · intro H' s e
    refine ⟨_, false, _, rfl, e, fun l H2 s2 e2 => q l H2 (s.trans s2) ?_⟩
    rw [e2, vi_map, List.map_map]
    rfl
end PB

/-! ## S3 -/
set_option Elab.async false
set_option linter.all false
set_option maxRecDepth 100000
set_option maxHeartbeats 4000000
namespace PB
open PySem PySem.Spec PyProof.Rows L2
variable {P : Program} {w : World} {K : PySem.W.Frag} {mg : Str → Option Value} {base : Heap}
theorem ne_dec (x y : Int) : (!decide (V.int x = V.int y)) = !decide (x = y) := by simp
def sp_are_numbers : Sp := fun vs H Q E => ∃ (a : Addr) (t : Bool) (xs : List Int) (d : Int), vs = [.ref a, .int d] ∧ H a = some (RowF t (vi xs)) ∧ xs.length < 1000 ∧ (∀ H', L2.Same H H' → Q (.bl (decide ((xs.length : Int) = d))) H')
theorem g_are_numbers (T : TX K mg) (D : At K mg "are_numbers" d_are_numbers) (c_is_number_planes : Cl P w K mg base C8.CX0 1 "is_number_planes" sp_is_number_planes) : Cl P w K mg base C8.CX0 2 "are_numbers" sp_are_numbers := by
  refine cl_of (k := 1) D sc_are_numbers (fun _ _ _ _ _ _ us hl => match us, hl with | [_, _], _ => rfl) (fun vs H Q E h => by
    obtain ⟨a, t, xs, d, rfl, h1, hs, q⟩ := h
    rfl) ?_
  intro f cdv A outer s H vs Q E hr h
  obtain ⟨a, t, xs, d, rfl, h1, hs, q⟩ := h
  refine ⟨_, (PSs.nox (pss_cons (ps_if (PW.pt (pw_or (pt_not (pt_val (pe_callB cr_isLT (by rfl) T.b_isinstance bt_isinstance (pa_cons (pv 0) (pa_cons (pe_tup (pa_cons (pe_bltn (v := .ty "list") (by rfl) T.b_list bt_list rfl) (pa_cons (pe_bltn (v := .ty "tuple") (by rfl) T.b_tuple bt_tuple rfl) pa_nil))) pa_nil))))) (pw_or1 (pt_cmpR op_ne (pe_callB k_len (by rfl) T.b_len bt_len (pa_cons (pv 0) pa_nil)) (pv 1) (nomark _)))))
 (pss_one (ps_ret pe_bl))
 pss_nil)
 (pss_one (ps_ret (pe_callB (k_all rfl) (by rfl) T.b_all bt_all (pa_cons (pe_lc (own := [("one", 2)]) rfl sc_are_numbers.nd (k_row (pv 0)) (blkOk_by (N := ["thing", "dims", "one"]) (sc := d_are_numbers.scope) (own := [("one", 2)]) (by decide +kernel)) (fun _ _ _ _ _ => (pg_name (i := 2) sc_are_numbers.nd rfl (Or.inl rfl))) (fun _ _ _ _ _ => pts_nil) (fun _ _ _ _ _ => (pe_cl c_is_number_planes hr (by decide) (by rfl) (pa_cons (pv 2) pa_nil)))) pa_nil)))))), ?_⟩
  refine ⟨_, rfl, szl (show 2 < 100000 by decide), fun p hp => ⟨a, p, t, vi xs, rfl, upd_same, same_upd hp _ _ h1, _, rfl, ifF rfl ?_⟩⟩
  have h2 := same_upd (o := .tup [.ty "list", .ty "tuple"]) hp _ _ h1
  refine ⟨_, rfl, _, t, vi xs, rfl, h2, _, rfl, rfl, _, rfl, ?_⟩
  by_cases c : (xs.length : Int) = d
  · refine ifF (by simp [c]) ⟨_, rfl, _, _, _, rfl, h2, fun J w D hD => lc_row xs V.int (fun _ => .bl true) w hD (fun H' s => s _ _ h2) (by omega) (fun _ => rfl) ?_ ?_⟩
    · intro x H1 R hx s k
      exact ⟨_, rfl, x, rfl, k _ (L2.Same.refl _)⟩
    · intro H' s e
      refine ⟨_, xs.map fun _ => true, rfl, by rw [e, List.map_map]; rfl, ?_⟩
      rw [show ((xs.map fun _ => true).all id) = decide ((xs.length : Int) = d) from by rw [decide_eq_true c, List.all_eq_true]; simp]
      exact q H' ((same_upd hp).trans s)
  · refine ifT (by simp [c]) ?_
    show Q (.bl false) _
    rw [show false = decide ((xs.length : Int) = d) from by simp [c]]
    exact q _ (same_upd hp)
def sp_is_plane : Sp := fun vs H Q E => ∃ (p : Addr) (xs : List Int) (o d : Int), vs = [.int d, .ref p] ∧ PlAt H p xs o ∧ xs.length < 1000 ∧ (∀ H', L2.Same H H' → Q (.bl (decide ((xs.length : Int) = d) && xs.any (fun x => !decide (x = 0)))) H')
theorem g_is_plane (T : TX K mg) (D : At K mg "is_plane" d_is_plane) (c_are_numbers : Cl P w K mg base C8.CX0 2 "are_numbers" sp_are_numbers) (c_is_number_planes : Cl P w K mg base C8.CX0 1 "is_number_planes" sp_is_number_planes) : Cl P w K mg base C8.CX0 3 "is_plane" sp_is_plane := by
  refine cl_of (k := 2) D sc_is_plane (fun _ _ _ _ _ _ us hl => match us, hl with | [_, _], _ => rfl) (fun vs H Q E h => by
    obtain ⟨p, xs, o, d, rfl, ⟨nr, h0, h1⟩, hs, q⟩ := h
    rfl) ?_
  intro f cdv A outer s H vs Q E hr h
  obtain ⟨p, xs, o, d, rfl, ⟨nr, h0, h1⟩, hs, q⟩ := h
  refine ⟨_, (PSs.nox (pss_cons (ps_if (PW.pt (pw_or (pt_not (pt_val (pe_callB cr_isB (by rfl) T.b_isinstance bt_isinstance (pa_cons (pv 1) (pa_cons (pe_bltn (v := .ty "tuple") (by rfl) T.b_tuple bt_tuple rfl) pa_nil))))) (pw_or (pt_cmpR op_ne (pe_callB k_len (by rfl) T.b_len bt_len (pa_cons (pv 1) pa_nil)) pe_int (nomark _)) (pw_or1 (pt_not (pt_val (pe_callB cr_isB (by rfl) T.b_isinstance bt_isinstance (pa_cons (pe_ix k_ix (pv 1) pe_int (fun _ _ => rfl)) (pa_cons (pe_bltn (v := .ty "tuple") (by rfl) T.b_tuple bt_tuple rfl) pa_nil)))))))))
 (pss_one (ps_ret pe_bl))
 pss_nil)
 (pss_cons (ps_asg (pv 1) (k_tup (n := 2) rfl (pgs_cons (pg_name (i := 2) sc_is_plane.nd rfl (Or.inl rfl)) (pgs_cons (pg_name (i := 3) sc_is_plane.nd rfl (Or.inl rfl)) pgs_nil))))
 (pss_one (ps_ret (pe_and (pe_cl c_are_numbers hr (by decide) (by rfl) (pa_cons (pv 2) (pa_cons (pv 0) pa_nil))) (pe_and (pe_cl c_is_number_planes hr (by decide) (by rfl) (pa_cons (pv 3) pa_nil)) (pe_one (pe_callB (k_any rfl) (by rfl) T.b_any bt_any (pa_cons (pe_lc (own := [("one", 4)]) rfl sc_is_plane.nd (k_row (pv 2)) (blkOk_by (N := ["dims", "thing", "normal", "offset", "one"]) (sc := d_is_plane.scope) (own := [("one", 4)]) (by decide +kernel)) (fun _ _ _ _ _ => (pg_name (i := 4) sc_is_plane.nd rfl (Or.inl rfl))) (fun _ _ _ _ _ => pts_nil) (fun _ _ _ _ _ => (pe_cmpR op_ne (pv 4) pe_int (nomark _)))) pa_nil)))))))))), ?_⟩
  refine ⟨_, rfl, _, _, _, rfl, .tup h0, _, rfl, ifF rfl ?_⟩
  refine ⟨_, rfl, _, true, _, rfl, h0, rfl, _, rfl, ifF rfl ?_⟩
  refine ⟨_, rfl, _, true, _, _, _, rfl, rfl, h0, rfl, _, _, _, rfl, .tup h1, _, rfl, ifF rfl ?_⟩
  refine ⟨_, rfl, _, _, rfl, h0, rfl, _, _, rfl, _, _, rfl, rfl, _, rfl, _, rfl, nr, true, xs, d, rfl, h1, hs, fun H1 s1 => ⟨_, rfl, ?_⟩⟩
  by_cases c : (xs.length : Int) = d
  · refine ifT (by simp [c]) ⟨_, rfl, o, rfl, _, rfl, ifT rfl ?_⟩
    refine ⟨_, rfl, _, true, _, rfl, s1 _ _ h1, fun J w D hD => lc_row xs V.int (fun x => .bl (!decide (x = 0))) w hD (fun H' s => (s1.trans s) _ _ h1) (by omega) (fun _ => rfl) ?_ ?_⟩
    · intro x H1 R hx s k
      refine ⟨_, rfl, rfl, ?_⟩
      rw [ne_dec]
      exact k _ (L2.Same.refl _)
    · intro H' s e
      refine ⟨_, xs.map (fun x => !decide (x = 0)), rfl, by rw [e, List.map_map]; rfl, ?_⟩
      have q := q H' (s1.trans s)
      rw [decide_eq_true c, Bool.true_and] at q
      rw [List.any_map]
      exact q
  · refine ifF (by simp [c]) ?_
    have q := q H1 s1
    rw [decide_eq_false c, Bool.false_and] at q
    exact q
/-- a plane that is one -/
structure PlOk (xs : List Int) : Prop where
  nz : ∃ x ∈ xs, x ≠ 0
  lo : 2 ≤ xs.length
  hi : xs.length ≤ 5
  wn : ∀ x ∈ xs, W x
theorem PlOk.any {xs : List Int} (h : PlOk xs) : xs.any (fun x => !decide (x = 0)) = true := by
  obtain ⟨x, hx, n⟩ := h.nz
  exact List.any_eq_true.mpr ⟨x, hx, by simp [n]⟩
def sp_dims_of : Sp := fun vs H Q E => ∃ (p : Addr) (xs : List Int) (o : Int), vs = [.ref p] ∧ PlAt H p xs o ∧ PlOk xs ∧ (∀ H', L2.Same H H' → Q (.int xs.length) H')
theorem g_dims_of (T : TX K mg) (D : At K mg "dims_of" d_dims_of) (c_is_plane : Cl P w K mg base C8.CX0 3 "is_plane" sp_is_plane) : Cl P w K mg base C8.CX0 4 "dims_of" sp_dims_of := by
  refine cl_of (k := 3) D sc_dims_of (fun _ _ _ _ _ _ us hl => match us, hl with | [_], _ => rfl) (fun vs H Q E h => by
    obtain ⟨p, xs, o, rfl, h, ok, q⟩ := h
    rfl) ?_
  intro f cdv A outer s H vs Q E hr h
  obtain ⟨p, xs, o, rfl, h, ok, q⟩ := h
  refine ⟨_, (PSs.nox (pss_cons (ps_for PassesOwn.never rfl (pi_range2 rfl T.b_range (pa_cons (C8.pe_gc (by rfl) T.g_LEAST_DIMS_planes) (pa_cons (pe_op op_add (C8.pe_gc (by rfl) T.g_MOST_DIMS_planes) pe_int) pa_nil))) (pg_name (i := 1) sc_dims_of.nd rfl (Or.inl rfl))
 (pss_one (ps_if (pt_val (pe_cl c_is_plane hr (by decide) (by rfl) (pa_cons (pv 1) (pa_cons (pv 0) pa_nil))))
 (pss_one (ps_ret (pv 1)))
 pss_nil)))
 (pss_one ps_never))), ?_⟩
  refine ⟨_, _, rfl, rfl, _, _, rfl, by decide, for_range (fun i σ' H' => L2.Same H H' ∧ (∃ x, σ' = [some (.ref p), x]) ∧ (2 : Int) + i ≤ xs.length) ⟨L2.Same.refl _, ⟨_, rfl⟩, by have := ok.lo; omega⟩ ?_ ?_⟩
  · rintro i _ H1 hi ⟨s, ⟨x, rfl⟩, hn⟩
    refine ⟨_, rfl, _, rfl, p, xs, o, _, rfl, h.same s, by have := ok.hi; omega, fun H2 s2 => ⟨_, rfl, ?_⟩⟩
    by_cases c : (xs.length : Int) = 2 + i
    · refine ifT (by rw [decide_eq_true c, ok.any]; rfl) ⟨_, rfl, ?_⟩
      show Q (.int (2 + (i : Int))) H2
      rw [← c]
      exact q H2 (s.trans s2)
    · exact ifF (by rw [decide_eq_false c]; rfl) ⟨s.trans s2, ⟨_, rfl⟩, by omega⟩
  · rintro _ H1 ⟨s, ⟨x, rfl⟩, hn⟩
    have := ok.hi
    have : ((5 + 1 - 2 : Int).toNat : Int) = 4 := by decide
    omega
/-! ### tidy -/
theorem byOf_snoc (ns : List Int) (o x : Int) : byOf (ns ++ [x]) o = ((Int.gcd (byOf ns o) x : Nat) : Int) := by
  unfold byOf
  rw [List.foldl_append]
  rfl
theorem byOf_nn (ns : List Int) (o : Int) : 0 ≤ byOf ns o := by
  rcases List.eq_nil_or_concat ns with rfl | ⟨l, x, rfl⟩
  rotate_left
  · rw [List.concat_eq_append, byOf_snoc]
    omega
  · show (0 : Int) ≤ (o.natAbs : Nat)
    omega
theorem byOf_dvd_o : ∀ (ns : List Int) (o : Int), byOf ns o ∣ o := fun ns o => by
  have key : ∀ (l : List Int) (a : Int), l.foldl (fun a b => ((Int.gcd a b : Nat) : Int)) a ∣ a := fun l => by
    induction l with
    | nil => exact fun a => Int.dvd_refl a
    | cons x l ih => exact fun a => Int.dvd_trans (ih _) (Int.gcd_dvd_left a x)
  exact Int.dvd_trans (key ns _) (by simpa using Int.natAbs_dvd.mpr (Int.dvd_refl o))
theorem byOf_dvd : ∀ (ns : List Int) (o x : Int), x ∈ ns → byOf ns o ∣ x := fun ns o x hx => by
  have k0 : ∀ (l : List Int) (a : Int), l.foldl (fun a b => ((Int.gcd a b : Nat) : Int)) a ∣ a := fun l => by
    induction l with
    | nil => exact fun a => Int.dvd_refl a
    | cons x l ih => exact fun a => Int.dvd_trans (ih _) (Int.gcd_dvd_left a x)
  have key : ∀ (l : List Int) (a : Int), x ∈ l → l.foldl (fun a b => ((Int.gcd a b : Nat) : Int)) a ∣ x := fun l => by
    induction l with
    | nil => exact fun a h => nomatch h
    | cons y l ih =>
      intro a h
      rcases List.mem_cons.mp h with rfl | h
      · exact Int.dvd_trans (k0 l _) (Int.gcd_dvd_right a x)
      · exact ih _ h
  exact key ns _ hx
theorem byOf_pos {ns : List Int} {o : Int} (h : ∃ x ∈ ns, x ≠ 0) : 0 < byOf ns o := by
  obtain ⟨x, hx, n⟩ := h
  have h1 := byOf_nn ns o
  have h2 := byOf_dvd ns o x hx
  have : byOf ns o ≠ 0 := fun z => n (Int.zero_dvd.mp (z ▸ h2))
  omega
theorem byOf_W {ns : List Int} {o : Int} (h : ∃ x ∈ ns, x ≠ 0) (w : ∀ x ∈ ns, W x) : W (byOf ns o) := by
  obtain ⟨x, hx, n⟩ := h
  exact (w x hx).mono (Nat.le_of_dvd (by omega) (Int.natAbs_dvd_natAbs.mpr (byOf_dvd ns o x hx)))
def tidN (ns : List Int) (o : Int) : List Int := ns.map (· / byOf ns o)
def tidO (ns : List Int) (o : Int) : Int := o / byOf ns o
def sp_tidy_plane : Sp := fun vs H Q E => ∃ (p : Addr) (xs : List Int) (o : Int), vs = [.ref p] ∧ PlAt H p xs o ∧ PlOk xs ∧ (∀ p' H', L2.Same H H' → PlAt H' p' (tidN xs o) (tidO xs o) → Q (.ref p') H')
theorem g_tidy_plane (T : TX K mg) (D : At K mg "tidy_plane" d_tidy_plane) (c_common_of_planes : Cl P w K mg base C8.CX0 1 "common_of_planes" sp_common_of_planes) (c_dims_of : Cl P w K mg base C8.CX0 4 "dims_of" sp_dims_of) : Cl P w K mg base C8.CX0 5 "tidy_plane" sp_tidy_plane := by
  refine cl_of (k := 4) D sc_tidy_plane (fun _ _ _ _ _ _ us hl => match us, hl with | [_], _ => rfl) (fun vs H Q E h => by
    obtain ⟨p, xs, o, rfl, h, ok, q⟩ := h
    rfl) ?_
  intro f cdv A outer s H vs Q E hr h
  obtain ⟨p, xs, o, rfl, h, ok, q⟩ := h
  refine ⟨_, (PSs.nox (pss_cons (ps_expr (pe_cl c_dims_of hr (by decide) (by rfl) (pa_cons (pv 0) pa_nil)))
 (pss_cons (ps_asg (pv 0) (k_tup (n := 2) rfl (pgs_cons (pg_name (i := 1) sc_tidy_plane.nd rfl (Or.inl rfl)) (pgs_cons (pg_name (i := 2) sc_tidy_plane.nd rfl (Or.inl rfl)) pgs_nil))))
 (pss_cons (ps_set (i := 3) sc_tidy_plane.nd rfl (Or.inr rfl) (pe_callB call_abs (by rfl) T.b_abs bt_abs (pa_cons (pv 2) pa_nil)))
 (pss_cons (ps_for PassesOwn.never rfl (k_row (pv 1)) (pg_name (i := 4) sc_tidy_plane.nd rfl (Or.inl rfl))
 (pss_one (ps_set (i := 3) sc_tidy_plane.nd rfl (Or.inr rfl) (pe_cl c_common_of_planes hr (by decide) (by rfl) (pa_cons (pv 3) (pa_cons (pv 4) pa_nil))))))
 (pss_one (ps_ret (pe_tup (pa_cons (pe_callTy k_tuple (by rfl) T.b_tuple bt_tuple (pa_cons (pe_lc (own := [("one", 4)]) rfl sc_tidy_plane.nd (k_row (pv 1)) (blkOk_by (N := ["plane", "normal", "offset", "by", "one"]) (sc := d_tidy_plane.scope) (own := [("one", 4)]) (by decide +kernel)) (fun _ _ _ _ _ => (pg_name (i := 4) sc_tidy_plane.nd rfl (Or.inl rfl))) (fun _ _ _ _ _ => pts_nil) (fun _ _ _ _ _ => (pe_op op_fdivW (pv 4) (pv 3)))) pa_nil)) (pa_cons (pe_op op_fdivW (pv 2) (pv 3)) pa_nil)))))))))), ?_⟩
  refine ⟨_, rfl, p, xs, o, rfl, h, ok, fun H1 s1 => ?_⟩
  obtain ⟨nr, h0, h1⟩ := h.same s1
  refine ⟨_, rfl, _, _, rfl, h0, rfl, _, _, rfl, _, _, rfl, rfl, _, rfl, _, rfl, ?_⟩
  refine ⟨_, rfl, _, _, _, rfl, h1, fun J w => ?_⟩
  rw [abs_if]
  refine for_it w (fun i σ' H' => L2.Same H1 H' ∧ ∃ z, σ' = [some (.ref p), some (.ref nr), some (.int o), some (.int (byOf (xs.take i) o)), z]) ⟨L2.Same.refl _, _, rfl⟩ (fun i σ' H' _ z => z.1 _ _ h1) ?_ ?_
  · rintro i x _ H2 _ hi ⟨s, z, rfl⟩ ⟨rfl, e⟩
    rw [vi_len] at hi
    have ha : xs[i]? = some xs[i] := List.getElem?_eq_getElem hi
    simp only [vi, List.getElem?_map, ha, Option.map_some, Option.some.injEq] at e
    subst e
    refine ⟨_, rfl, _, rfl, _, _, rfl, s, some (.int xs[i]), ?_⟩
    rw [take_snoc ha, byOf_snoc]
    rfl
  · rintro _ H2 ⟨s, z, rfl⟩
    rw [vi_len, List.take_length]
    have g0 := byOf_pos (o := o) ok.nz
    have gw := byOf_W (o := o) ok.nz ok.wn
    refine ⟨_, rfl, _, _, _, rfl, s _ _ h1, fun J w D hD => lc_row xs V.int (fun x => .int (x / byOf xs o)) w hD (fun H' s' => s' _ _ (s _ _ h1)) (by have := ok.hi; omega) (fun _ => rfl) ?_ ?_⟩
    · intro x H3 R hx s3 k
      exact ⟨_, rfl, _, rfl, _, _, rfl, rfl, gw.divOk g0, k _ (L2.Same.refl _)⟩
    · intro H' s' e
      refine ⟨_, false, _, rfl, e, fun l H4 s4 e4 => ⟨_, rfl, _, rfl, _, _, rfl, rfl, gw.divOk g0, szl (show 2 < 100000 by decide), fun p' hp' => q p' _ ((((s1.trans s).trans s').trans s4).trans (same_upd hp')) ⟨l, upd_same, ?_⟩⟩⟩
      rw [show tidN xs o = xs.map (fun x => x / byOf xs o) from rfl, vi_map]
      exact same_upd hp' _ _ e4
end PB

/-! ## S4 -/
set_option Elab.async false
set_option linter.all false
set_option maxRecDepth 100000
set_option maxHeartbeats 4000000
namespace PB
open PySem PySem.Spec PyProof.Rows L2
variable {P : Program} {w : World} {K : PySem.W.Frag} {mg : Str → Option Value} {base : Heap}
def sp_value_at : Sp := fun vs H Q E => ∃ (a b : Addr) (t2 : Bool) (xs ys : List Int) (o : Int), vs = [.ref a, .ref b] ∧ PlAt H a xs o ∧ PlOk xs ∧ H b = some (RowF t2 (vi ys)) ∧ xs.length = ys.length ∧ (∀ y ∈ ys, W y) ∧ (∀ H', L2.Same H H' → Q (.int (dot xs ys - o)) H')
theorem g_value_at (T : TX K mg) (D : At K mg "value_at" d_value_at) (c_are_numbers : Cl P w K mg base C8.CX0 2 "are_numbers" sp_are_numbers) (c_dims_of : Cl P w K mg base C8.CX0 4 "dims_of" sp_dims_of) (c_value_by : Cl P w K mg base C8.CX0 2 "value_by" sp_value_by) : Cl P w K mg base C8.CX0 5 "value_at" sp_value_at := by
  refine cl_of (k := 4) D sc_value_at (fun _ _ _ _ _ _ us hl => match us, hl with | [_, _], _ => rfl) (fun vs H Q E h => by
    obtain ⟨a, b, t2, xs, ys, o, rfl, h, ok, h2, hl, w2, q⟩ := h
    rfl) ?_
  intro f cdv A outer s H vs Q E hr h
  obtain ⟨a, b, t2, xs, ys, o, rfl, h, ok, h2, hl, w2, q⟩ := h
  refine ⟨_, (PSs.nox (pss_cons (ps_if (pt_not (pt_val (pe_cl c_are_numbers hr (by decide) (by rfl) (pa_cons (pv 1) (pa_cons (pe_cl c_dims_of hr (by decide) (by rfl) (pa_cons (pv 0) pa_nil)) pa_nil)))))
 (pss_one ps_never)
 pss_nil)
 (pss_one (ps_ret (pe_cl c_value_by hr (by decide) (by rfl) (pa_cons (pv 0) (pa_cons (pv 1) pa_nil))))))), ?_⟩
  have hs : ys.length < 1000 := by have := ok.hi; omega
  refine ⟨_, rfl, _, rfl, a, xs, o, rfl, h, ok, fun H1 s1 => ⟨b, t2, ys, _, rfl, s1 _ _ h2, hs, fun H2 s2 => ⟨_, rfl, ifF (by simp [hl]) ?_⟩⟩⟩
  exact ⟨_, rfl, _, rfl, a, b, t2, xs, ys, o, rfl, (h.same s1).same s2, s2 _ _ (s1 _ _ h2), hl, by omega, ok.wn, w2, fun H3 s3 => q H3 ((s1.trans s2).trans s3)⟩
def sgn (v : Int) : Int := if 0 < v then 1 else if v < 0 then -1 else 0
def sp_side_at : Sp := fun vs H Q E => ∃ (a b : Addr) (t2 : Bool) (xs ys : List Int) (o : Int), vs = [.ref a, .ref b] ∧ PlAt H a xs o ∧ PlOk xs ∧ H b = some (RowF t2 (vi ys)) ∧ xs.length = ys.length ∧ (∀ y ∈ ys, W y) ∧ (∀ H', L2.Same H H' → Q (.int (sgn (dot xs ys - o))) H')
theorem g_side_at (T : TX K mg) (D : At K mg "side_at" d_side_at) (c_value_at : Cl P w K mg base C8.CX0 5 "value_at" sp_value_at) : Cl P w K mg base C8.CX0 6 "side_at" sp_side_at := by
  refine cl_of (k := 5) D sc_side_at (fun _ _ _ _ _ _ us hl => match us, hl with | [_, _], _ => rfl) (fun vs H Q E h => by
    obtain ⟨a, b, t2, xs, ys, o, rfl, h, ok, h2, hl, w2, q⟩ := h
    rfl) ?_
  intro f cdv A outer s H vs Q E hr h
  obtain ⟨a, b, t2, xs, ys, o, rfl, h, ok, h2, hl, w2, q⟩ := h
  refine ⟨_, (PSs.nox (pss_cons (ps_set (i := 2) sc_side_at.nd rfl (Or.inl rfl) (pe_cl c_value_at hr (by decide) (by rfl) (pa_cons (pv 0) (pa_cons (pv 1) pa_nil))))
 (pss_one (ps_ret (pe_op op_sub (pe_callTy call_int1 (by rfl) T.b_int bt_int (pa_cons (pe_cmpR op_gt (pv 2) pe_int (nomark _)) pa_nil)) (pe_callTy call_int1 (by rfl) T.b_int bt_int (pa_cons (pe_cmpR op_lt (pv 2) pe_int (nomark _)) pa_nil))))))), ?_⟩
  refine ⟨_, rfl, _, rfl, a, b, t2, xs, ys, o, rfl, h, ok, h2, hl, w2, fun H1 s1 => ⟨_, rfl, _, _, rfl, rfl, .inr ⟨_, rfl, _, rfl, _, _, rfl, rfl, .inr ⟨_, rfl, _, _, rfl, rfl, ?_⟩⟩⟩⟩
  have q := q H1 s1
  unfold sgn at q
  by_cases c : 0 < dot xs ys - o
  · rw [if_pos c] at q
    simp only [decide_eq_true c, decide_eq_false (show ¬ (dot xs ys - o < 0) by omega)]
    exact q
  · rw [if_neg c] at q
    by_cases c2 : dot xs ys - o < 0
    · rw [if_pos c2] at q
      simp only [decide_eq_false c, decide_eq_true c2]
      exact q
    · rw [if_neg c2] at q
      simp only [decide_eq_false c, decide_eq_false c2]
      exact q
def isRow (xs : List Int) (d far : Int) : Bool := decide ((xs.length : Int) = d) && xs.all fun x => decide (0 - far ≤ x ∧ x ≤ far)
def sp_is_row : Sp := fun vs H Q E => ∃ (a : Addr) (t : Bool) (xs : List Int) (d far : Int), vs = [.ref a, .int d, .int far] ∧ H a = some (RowF t (vi xs)) ∧ xs.length < 1000 ∧ (∀ H', L2.Same H H' → Q (.bl (isRow xs d far)) H')
abbrev sp_is_row_points := sp_is_row
abbrev sp_is_row_placings := sp_is_row
theorem g_is_row_points (T : TX K mg) (D : At K mg "is_row_points" d_is_row_points) (c_is_whole : Cl P w K mg base C8.CX0 1 "is_whole" sp_is_whole) : Cl P w K mg base C8.CX0 2 "is_row_points" sp_is_row_points := by
  refine cl_of (k := 1) D sc_is_row_points (fun _ _ _ _ _ _ us hl => match us, hl with | [_, _, _], _ => rfl) (fun vs H Q E h => by
    obtain ⟨a, t, xs, d, far, rfl, h1, hs, q⟩ := h
    rfl) ?_
  intro f cdv A outer s H vs Q E hr h
  obtain ⟨a, t, xs, d, far, rfl, h1, hs, q⟩ := h
  refine ⟨_, (PSs.nox (pss_cons (ps_if (PW.pt (pw_or (pt_not (pt_val (pe_callB cr_isLT (by rfl) T.b_isinstance bt_isinstance (pa_cons (pv 0) (pa_cons (pe_tup (pa_cons (pe_bltn (v := .ty "list") (by rfl) T.b_list bt_list rfl) (pa_cons (pe_bltn (v := .ty "tuple") (by rfl) T.b_tuple bt_tuple rfl) pa_nil))) pa_nil))))) (pw_or1 (pt_cmpR op_ne (pe_callB k_len (by rfl) T.b_len bt_len (pa_cons (pv 0) pa_nil)) (pv 1) (nomark _)))))
 (pss_one (ps_ret pe_bl))
 pss_nil)
 (pss_one (ps_ret (pe_callB (k_all rfl) (by rfl) T.b_all bt_all (pa_cons (pe_lc (own := [("number", 3)]) rfl sc_is_row_points.nd (k_row (pv 0)) (blkOk_by (N := ["thing", "many", "far", "number"]) (sc := d_is_row_points.scope) (own := [("number", 3)]) (by decide +kernel)) (fun _ _ _ _ _ => (pg_name (i := 3) sc_is_row_points.nd rfl (Or.inl rfl))) (fun _ _ _ _ _ => pts_nil) (fun _ _ _ _ _ => (pe_cl c_is_whole hr (by decide) (by rfl) (pa_cons (pv 3) (pa_cons (pe_op op_sub pe_int (pv 2)) (pa_cons (pv 2) pa_nil)))))) pa_nil)))))), ?_⟩
  refine ⟨_, rfl, szl (show 2 < 100000 by decide), fun p hp => ⟨a, p, t, vi xs, rfl, upd_same, same_upd hp _ _ h1, _, rfl, ifF rfl ?_⟩⟩
  have h2 := same_upd (o := .tup [.ty "list", .ty "tuple"]) hp _ _ h1
  refine ⟨_, rfl, _, t, vi xs, rfl, h2, _, rfl, rfl, _, rfl, ?_⟩
  by_cases c : (xs.length : Int) = d
  · refine ifF (by simp [c]) ⟨_, rfl, _, _, _, rfl, h2, fun J w D hD => lc_row xs V.int (fun x => .bl (decide (0 - far ≤ x ∧ x ≤ far))) w hD (fun H' s => s _ _ h2) (by omega) (fun _ => rfl) ?_ ?_⟩
    · intro x H1 R hx s k
      exact ⟨_, rfl, _, rfl, _, _, rfl, rfl, _, rfl, x, _, _, rfl, k _ (L2.Same.refl _)⟩
    · intro H' s e
      refine ⟨_, xs.map (fun x => decide (0 - far ≤ x ∧ x ≤ far)), rfl, by rw [e, List.map_map]; rfl, ?_⟩
      have q := q H' ((same_upd hp).trans s)
      unfold isRow at q
      rw [decide_eq_true c, Bool.true_and] at q
      rw [List.all_map]
      exact q
  · refine ifT (by simp [c]) ?_
    have q := q _ (same_upd (o := .tup [.ty "list", .ty "tuple"]) hp)
    unfold isRow at q
    rw [decide_eq_false c, Bool.false_and] at q
    exact q
theorem g_is_row_placings (T : TX K mg) (D : At K mg "is_row_placings" d_is_row_placings) (c_is_whole : Cl P w K mg base C8.CX0 1 "is_whole" sp_is_whole) : Cl P w K mg base C8.CX0 2 "is_row_placings" sp_is_row_placings := by
  refine cl_of (k := 1) D sc_is_row_placings (fun _ _ _ _ _ _ us hl => match us, hl with | [_, _, _], _ => rfl) (fun vs H Q E h => by
    obtain ⟨a, t, xs, d, far, rfl, h1, hs, q⟩ := h
    rfl) ?_
  intro f cdv A outer s H vs Q E hr h
  obtain ⟨a, t, xs, d, far, rfl, h1, hs, q⟩ := h
  refine ⟨_, (PSs.nox (pss_cons (ps_if (PW.pt (pw_or (pt_not (pt_val (pe_callB cr_isLT (by rfl) T.b_isinstance bt_isinstance (pa_cons (pv 0) (pa_cons (pe_tup (pa_cons (pe_bltn (v := .ty "list") (by rfl) T.b_list bt_list rfl) (pa_cons (pe_bltn (v := .ty "tuple") (by rfl) T.b_tuple bt_tuple rfl) pa_nil))) pa_nil))))) (pw_or1 (pt_cmpR op_ne (pe_callB k_len (by rfl) T.b_len bt_len (pa_cons (pv 0) pa_nil)) (pv 1) (nomark _)))))
 (pss_one (ps_ret pe_bl))
 pss_nil)
 (pss_one (ps_ret (pe_callB (k_all rfl) (by rfl) T.b_all bt_all (pa_cons (pe_lc (own := [("one", 3)]) rfl sc_is_row_placings.nd (k_row (pv 0)) (blkOk_by (N := ["thing", "dims", "most", "one"]) (sc := d_is_row_placings.scope) (own := [("one", 3)]) (by decide +kernel)) (fun _ _ _ _ _ => (pg_name (i := 3) sc_is_row_placings.nd rfl (Or.inl rfl))) (fun _ _ _ _ _ => pts_nil) (fun _ _ _ _ _ => (pe_cl c_is_whole hr (by decide) (by rfl) (pa_cons (pv 3) (pa_cons (pe_op op_sub pe_int (pv 2)) (pa_cons (pv 2) pa_nil)))))) pa_nil)))))), ?_⟩
  refine ⟨_, rfl, szl (show 2 < 100000 by decide), fun p hp => ⟨a, p, t, vi xs, rfl, upd_same, same_upd hp _ _ h1, _, rfl, ifF rfl ?_⟩⟩
  have h2 := same_upd (o := .tup [.ty "list", .ty "tuple"]) hp _ _ h1
  refine ⟨_, rfl, _, t, vi xs, rfl, h2, _, rfl, rfl, _, rfl, ?_⟩
  by_cases c : (xs.length : Int) = d
  · refine ifF (by simp [c]) ⟨_, rfl, _, _, _, rfl, h2, fun J w D hD => lc_row xs V.int (fun x => .bl (decide (0 - far ≤ x ∧ x ≤ far))) w hD (fun H' s => s _ _ h2) (by omega) (fun _ => rfl) ?_ ?_⟩
    · intro x H1 R hx s k
      exact ⟨_, rfl, _, rfl, _, _, rfl, rfl, _, rfl, x, _, _, rfl, k _ (L2.Same.refl _)⟩
    · intro H' s e
      refine ⟨_, xs.map (fun x => decide (0 - far ≤ x ∧ x ≤ far)), rfl, by rw [e, List.map_map]; rfl, ?_⟩
      have q := q H' ((same_upd hp).trans s)
      unfold isRow at q
      rw [decide_eq_true c, Bool.true_and] at q
      rw [List.all_map]
      exact q
  · refine ifT (by simp [c]) ?_
    have q := q _ (same_upd (o := .tup [.ty "list", .ty "tuple"]) hp)
    unfold isRow at q
    rw [decide_eq_false c, Bool.false_and] at q
    exact q
def sp_need_shift : Sp := fun vs H Q E => ∃ (a : Addr) (t : Bool) (xs : List Int) (d : Int), vs = [.int d, .ref a] ∧ H a = some (RowF t (vi xs)) ∧ xs.length < 1000 ∧ isRow xs d 1998 = true ∧ (∀ H', L2.Same H H' → Q .non H')
theorem g_need_shift (T : TX K mg) (D : At K mg "need_shift" d_need_shift) (c_is_row_placings : Cl P w K mg base C8.CX0 2 "is_row_placings" sp_is_row_placings) : Cl P w K mg base C8.CX0 3 "need_shift" sp_need_shift := by
  refine cl_of (k := 2) D sc_need_shift (fun _ _ _ _ _ _ us hl => match us, hl with | [_, _], _ => rfl) (fun vs H Q E h => by
    obtain ⟨a, t, xs, d, rfl, h1, hs, c, q⟩ := h
    rfl) ?_
  intro f cdv A outer s H vs Q E hr h
  obtain ⟨a, t, xs, d, rfl, h1, hs, c, q⟩ := h
  refine ⟨_, (PSs.nox (pss_one (ps_if (pt_not (pt_val (pe_cl c_is_row_placings hr (by decide) (by rfl) (pa_cons (pv 1) (pa_cons (pv 0) (pa_cons (C8.pe_gc (by rfl) T.g_FAR) pa_nil))))))
 (pss_one ps_never)
 pss_nil))), ?_⟩
  refine ⟨_, rfl, _, rfl, a, t, xs, d, 1998, rfl, h1, hs, fun H' s => ⟨_, rfl, ifF (by rw [c]; rfl) (q H' s)⟩⟩
def sp_need_times : Sp := fun vs H Q E => ∃ k : Int, vs = [.int k] ∧ 1 ≤ k ∧ k ≤ 9 ∧ Q .non H
theorem g_need_times (T : TX K mg) (D : At K mg "need_times" d_need_times) (c_is_whole : Cl P w K mg base C8.CX0 1 "is_whole" sp_is_whole) : Cl P w K mg base C8.CX0 2 "need_times" sp_need_times := by
  refine cl_of (k := 1) D sc_need_times (fun _ _ _ _ _ _ us hl => match us, hl with | [_], _ => rfl) (fun vs H Q E h => by
    obtain ⟨k, rfl, k1, k9, q⟩ := h
    rfl) ?_
  intro f cdv A outer s H vs Q E hr h
  obtain ⟨k, rfl, k1, k9, q⟩ := h
  refine ⟨_, (PSs.nox (pss_one (ps_if (pt_not (pt_val (pe_cl c_is_whole hr (by decide) (by rfl) (pa_cons (pv 0) (pa_cons pe_int (pa_cons (C8.pe_gc (by rfl) T.g_MOST_TIMES) pa_nil))))))
 (pss_one ps_never)
 pss_nil))), ?_⟩
  exact ⟨_, rfl, _, _, _, rfl, _, rfl, ifF (by simp [k1, k9]) q⟩
/-- a square that is one -/
structure SqOk (d : Nat) (L : Int) (rows : List (List Int)) : Prop where
  lo : 2 ≤ d
  hi : d ≤ 5
  len : rows.length = d
  row : ∀ r ∈ rows, isRow r d 9 = true
  pos : 0 < L
  few : L ≤ 405
  same : ∀ r ∈ rows, dot r r = L
  orth : ∀ (i j : Nat) r s, rows[i]? = some r → rows[j]? = some s → j < i → dot r s = 0
theorem isRow_len {xs : List Int} {d far : Int} (h : isRow xs d far = true) : (xs.length : Int) = d := by
  unfold isRow at h
  simp only [Bool.and_eq_true, decide_eq_true_eq] at h
  exact h.1
theorem isRow_mem {xs : List Int} {d far : Int} (h : isRow xs d far = true) : ∀ x ∈ xs, -far ≤ x ∧ x ≤ far := by
  unfold isRow at h
  simp only [Bool.and_eq_true, decide_eq_true_eq, List.all_eq_true] at h
  intro x hx
  have := h.2 x hx
  omega
theorem W.small {x : Int} (h : -100000 ≤ x ∧ x ≤ 100000) : W x := W.of (k := 20) (by omega) (by decide) (by decide)
theorem SqOk.wr {d : Nat} {L : Int} {rows : List (List Int)} (h : SqOk d L rows) : ∀ r ∈ rows, r.length = d ∧ ∀ x ∈ r, W x := fun r hr => by
  refine ⟨by have := isRow_len (h.row r hr); omega, fun x hx => W.small (by have := isRow_mem (h.row r hr) x hx; omega)⟩
def sp_is_square : Sp := fun vs H Q E => ∃ (a : Addr) (rows : List (List Int)) (d : Nat) (L : Int), vs = [.int d, .ref a] ∧ SqAt H a rows ∧ SqOk d L rows ∧ (∀ H', L2.Same H H' → Q (.bl true) H')
theorem g_is_square (T : TX K mg) (D : At K mg "is_square" d_is_square) (c_dot_of : Cl P w K mg base C8.CX0 1 "dot_of" sp_dot_of) (c_is_row_placings : Cl P w K mg base C8.CX0 2 "is_row_placings" sp_is_row_placings) (c_length_of : Cl P w K mg base C8.CX0 2 "length_of" sp_length_of) : Cl P w K mg base C8.CX0 3 "is_square" sp_is_square := by
  refine cl_of (k := 2) D sc_is_square (fun _ _ _ _ _ _ us hl => match us, hl with | [_, _], _ => rfl) (fun vs H Q E h => by
    obtain ⟨a, rows, d, L, rfl, ⟨t, rs, h1, h2, h3⟩, ok, q⟩ := h
    rfl) ?_
  intro f cdv A outer s H vs Q E hr h
  obtain ⟨a, rows, d, L, rfl, ⟨t, rs, h1, h2, h3⟩, ok, q⟩ := h
  refine ⟨_, (PSs.nox (pss_cons (ps_if (PW.pt (pw_or (pt_not (pt_val (pe_callB cr_isLT (by rfl) T.b_isinstance bt_isinstance (pa_cons (pv 1) (pa_cons (pe_tup (pa_cons (pe_bltn (v := .ty "list") (by rfl) T.b_list bt_list rfl) (pa_cons (pe_bltn (v := .ty "tuple") (by rfl) T.b_tuple bt_tuple rfl) pa_nil))) pa_nil))))) (pw_or1 (pt_cmpR op_ne (pe_callB k_len (by rfl) T.b_len bt_len (pa_cons (pv 1) pa_nil)) (pv 0) (nomark _)))))
 (pss_one (ps_ret pe_bl))
 pss_nil)
 (pss_cons (ps_if (pt_not (pt_val (pe_callB (k_all rfl) (by rfl) T.b_all bt_all (pa_cons (pe_lc (own := [("row", 3)]) rfl sc_is_square.nd (k_row (pv 1)) (blkOk_by (N := ["dims", "thing", "at", "row", "other"]) (sc := d_is_square.scope) (own := [("row", 3)]) (by decide +kernel)) (fun _ _ _ _ _ => (pg_name (i := 3) sc_is_square.nd rfl (Or.inl rfl))) (fun _ _ _ _ _ => pts_nil) (fun _ _ _ _ _ => (pe_cl c_is_row_placings hr (by decide) (by rfl) (pa_cons (pv 3) (pa_cons (pv 0) (pa_cons (C8.pe_gc (by rfl) T.g_MOST_OF_SQUARE) pa_nil)))))) pa_nil))))
 (pss_one (ps_ret pe_bl))
 pss_nil)
 (pss_cons (ps_for PassesOwn.never rfl (k_enum (by rfl) T.b_enumerate (pa_cons (pv 1) pa_nil)) (k_tup (n := 2) rfl (pgs_cons (pg_name (i := 2) sc_is_square.nd rfl (Or.inl rfl)) (pgs_cons (pg_name (i := 3) sc_is_square.nd rfl (Or.inr rfl)) pgs_nil)))
 (pss_cons (ps_if (PW.pt (pw_or (pt_cmpR op_ne (pe_cl c_dot_of hr (by decide) (by rfl) (pa_cons (pv 3) (pa_cons (pv 3) pa_nil))) (pe_cl c_length_of hr (by decide) (by rfl) (pa_cons (pv 1) pa_nil)) (nomark _)) (pw_or1 (pt_cmpR op_eq (pe_cl c_length_of hr (by decide) (by rfl) (pa_cons (pv 1) pa_nil)) pe_int (nomark _)))))
 (pss_one (ps_ret pe_bl))
 pss_nil)
 (pss_one (ps_if (pt_val (pe_callB (k_any rfl) (by rfl) T.b_any bt_any (pa_cons (pe_lc (own := [("other", 4)]) rfl sc_is_square.nd (k_row (pe_slice k_sl (pv 1) po_none (po_some (pv 2)))) (blkOk_by (N := ["dims", "thing", "at", "row", "other"]) (sc := d_is_square.scope) (own := [("other", 4)]) (by decide +kernel)) (fun _ _ _ _ _ => (pg_name (i := 4) sc_is_square.nd rfl (Or.inl rfl))) (fun _ _ _ _ _ => pts_nil) (fun _ _ _ _ _ => (pe_cmpR op_ne (pe_cl c_dot_of hr (by decide) (by rfl) (pa_cons (pv 3) (pa_cons (pv 4) pa_nil))) pe_int (nomark _)))) pa_nil)))
 (pss_one (ps_ret pe_bl))
 pss_nil))))
 (pss_one (ps_ret pe_bl)))))), ?_⟩
  subst h3
  have hd := ok.len
  rw [List.length_map] at hd
  have hlo := ok.lo
  have hhi := ok.hi
  refine ⟨_, rfl, szl (show 2 < 100000 by decide), fun p hp => ⟨a, p, t, _, rfl, upd_same, same_upd hp _ _ h1, _, rfl, ifF rfl ?_⟩⟩
  have h1' := same_upd (o := .tup [.ty "list", .ty "tuple"]) hp _ _ h1
  refine ⟨_, rfl, _, t, _, rfl, h1', _, rfl, rfl, _, rfl, ifF (by simp [hd]) ?_⟩
  refine ⟨_, rfl, _, _, _, rfl, h1', fun J w D hD => lc_row rs (fun r => V.ref r.1) (fun _ => .bl true) w hD (fun H' s => s _ _ h1') (by omega) (fun _ => rfl) ?_ ?_⟩
  · intro x H1 R hx s k
    obtain ⟨t2, h4⟩ := h2 x hx
    have m : x.2 ∈ rs.map (·.2) := List.mem_map.mpr ⟨x, hx, rfl⟩
    refine ⟨_, rfl, _, rfl, x.1, t2, x.2, _, _, rfl, s _ _ (same_upd hp _ _ h4), by have := (ok.wr x.2 m).1; omega, fun H2 s2 => ?_⟩
    rw [ok.row x.2 m]
    exact k H2 s2
  · intro H1 s1 e
    refine ⟨_, rs.map (fun _ => true), rfl, by rw [e, List.map_map]; rfl, _, rfl, ifF (by simp) ?_⟩
    obtain ⟨r0, rest, rfl⟩ : ∃ r0 rest, rs = r0 :: rest := by
      cases rs with
      | nil => exact absurd hd (by simp; omega)
      | cons r0 rest => exact ⟨_, _, rfl⟩
    have s1' := (same_upd (o := .tup [.ty "list", .ty "tuple"]) hp).trans s1
    obtain ⟨t0, h0⟩ := h2 r0 (by simp)
    have w0 := ok.wr r0.2 (by simp)
    have L0 := ok.same r0.2 (by simp)
    refine ⟨_, rfl, _, _, _, rfl, s1' _ _ h1, fun J w => for_it w (fun i σ' H' => L2.Same H H' ∧ ∃ x y, σ' = [some (.int d), some (.ref a), x, y, none]) ⟨s1', _, _, rfl⟩ (fun i σ' H' _ z => z.1 _ _ h1) ?_ ?_⟩
    · rintro i x _ H2 _ hi ⟨s, x1, x2, rfl⟩ ⟨T1, u, v, rfl, hT, rfl, e1, e2⟩
      rw [List.length_map] at hi
      have ha : (r0 :: rest)[i]? = some (r0 :: rest)[i] := List.getElem?_eq_getElem hi
      generalize (r0 :: rest)[i] = r at ha
      simp only [List.getElem?_map, ha, Option.map_some, Option.some.injEq] at e2
      simp only [Option.some.injEq] at e1
      subst e1
      subst e2
      have hr2 := List.mem_of_getElem? ha
      have hm : r.2 ∈ (r0 :: rest).map (·.2) := List.mem_map.mpr ⟨r, hr2, rfl⟩
      obtain ⟨t2, h4⟩ := h2 r hr2
      have s' := s.trans (same_upd (o := .tup [.int i, .ref r.1]) hT)
      refine ⟨T1, _, rfl, upd_same, rfl, _, _, rfl, _, _, rfl, rfl, ?_⟩
      refine ⟨_, rfl, _, rfl, r.1, r.1, t2, t2, r.2, r.2, rfl, s' _ _ h4, s' _ _ h4, rfl, by have := ok.wr _ hm; omega, (ok.wr _ hm).2, (ok.wr _ hm).2, fun H3 s3 => ?_⟩
      refine ⟨_, rfl, a, r0.1, t, t0, _, r0.2, rfl, s3 _ _ (s' _ _ h1), s3 _ _ (s' _ _ h0), by omega, w0.2, fun H4 s4 => ?_⟩
      refine ⟨rfl, _, rfl, ifF (by rw [ok.same _ hm, L0]; simp) ?_⟩
      refine ⟨_, rfl, a, r0.1, t, t0, _, r0.2, rfl, s4 _ _ (s3 _ _ (s' _ _ h1)), s4 _ _ (s3 _ _ (s' _ _ h0)), by omega, w0.2, fun H5 s5 => ?_⟩
      refine ⟨rfl, _, rfl, ifF (by have := ok.pos; rw [L0]; simp; omega) ?_⟩
      have s5' := ((s'.trans s3).trans s4).trans s5
      refine ⟨_, rfl, _, rfl, _, rfl, _, t, _, rfl, s5' _ _ h1, fun l H6 s6 e6 => ⟨_, _, _, rfl, e6, fun J2 w2 D2 hD2 => ?_⟩⟩
      have ecut : cutV ((r0 :: rest).map fun r => V.ref r.1) none (some ((i : Nat) : Int)) = ((r0 :: rest).take i).map fun r => V.ref r.1 := by
        unfold cutV
        rw [HT.sIx_none, HT.sIx_nat, List.drop_zero, Nat.sub_zero, List.length_map, Nat.min_eq_left (Nat.le_of_lt hi), List.map_take]
      rw [ecut] at w2 e6
      refine lc_row ((r0 :: rest).take i) (fun r => V.ref r.1) (fun _ => .bl false) w2 hD2 (fun H' s => s _ _ e6) (by rw [List.length_take]; omega) (fun _ => rfl) ?_ ?_
      · intro o H7 R ho s7 k
        obtain ⟨j, hj⟩ := List.mem_iff_getElem?.mp ho
        have hji : j < i := by
          by_cases c : j < i
          · exact c
          · rw [List.getElem?_take, if_neg c] at hj
            cases hj
        rw [List.getElem?_take, if_pos hji] at hj
        have ho2 := List.mem_of_getElem? hj
        have hmo : o.2 ∈ (r0 :: rest).map (·.2) := List.mem_map.mpr ⟨o, ho2, rfl⟩
        obtain ⟨t3, h5⟩ := h2 o ho2
        have s7' := (s5'.trans s6).trans s7
        refine ⟨_, rfl, _, rfl, r.1, o.1, t2, t3, r.2, o.2, rfl, s7' _ _ h4, s7' _ _ h5, by rw [(ok.wr _ hm).1, (ok.wr _ hmo).1], by have := ok.wr _ hm; omega, (ok.wr _ hm).2, (ok.wr _ hmo).2, fun H8 s8 => ⟨rfl, ?_⟩⟩
        rw [ok.orth i j r.2 o.2 (by rw [List.getElem?_map, ha]; rfl) (by rw [List.getElem?_map, hj]; rfl) hji]
        exact k H8 s8
      · intro H7 s7 e7
        refine ⟨_, ((r0 :: rest).take i).map (fun _ => false), rfl, by rw [e7, List.map_map]; rfl, _, rfl, ifF (by rw [List.any_map]; exact List.any_eq_false.mpr fun _ _ => by simp) ?_⟩
        exact ⟨(s5'.trans s6).trans s7, _, _, rfl⟩
    · rintro _ H2 ⟨s, x1, x2, rfl⟩
      exact q H2 s
def sp_need_square : Sp := fun vs H Q E => ∃ (a : Addr) (rows : List (List Int)) (d : Nat) (L : Int), vs = [.int d, .ref a] ∧ SqAt H a rows ∧ SqOk d L rows ∧ (∀ H', L2.Same H H' → Q .non H')
theorem g_need_square (T : TX K mg) (D : At K mg "need_square" d_need_square) (c_is_square : Cl P w K mg base C8.CX0 3 "is_square" sp_is_square) : Cl P w K mg base C8.CX0 4 "need_square" sp_need_square := by
  refine cl_of (k := 3) D sc_need_square (fun _ _ _ _ _ _ us hl => match us, hl with | [_, _], _ => rfl) (fun vs H Q E h => by
    obtain ⟨a, rows, d, L, rfl, h1, ok, q⟩ := h
    rfl) ?_
  intro f cdv A outer s H vs Q E hr h
  obtain ⟨a, rows, d, L, rfl, h1, ok, q⟩ := h
  refine ⟨_, (PSs.nox (pss_one (ps_if (pt_not (pt_val (pe_cl c_is_square hr (by decide) (by rfl) (pa_cons (pv 0) (pa_cons (pv 1) pa_nil)))))
 (pss_one ps_never)
 pss_nil))), ?_⟩
  exact ⟨_, rfl, _, rfl, a, rows, d, L, rfl, h1, ok, fun H1 s1 => ⟨_, rfl, ifF rfl (q H1 s1)⟩⟩
end PB

/-! ## S5 -/
set_option Elab.async false
set_option linter.all false
set_option maxRecDepth 100000
set_option maxHeartbeats 4000000
namespace PB
open PySem PySem.Spec PyProof.Rows L2
variable {P : Program} {w : World} {K : PySem.W.Frag} {mg : Str → Option Value} {base : Heap}
def gU (n : Nat) (t : TGs) : TG := fun v σ H Q => ∃ a xs, v = .ref a ∧ H a = some (.lst xs) ∧ xs.length = n ∧ t xs σ H Q
section
variable {X : Cx} {pos : Pos}
theorem k_unl {es : List Expr} {k : Nat} {t : TGs} {n : Nat} (hc : X.calm = true) (h : PGs X es t) (hn : (assignEach es X.env).length = n := by rfl) (hst : (assignEach es X.env).findIdx? (·.1) = none := by rfl) : PG X (.Tuple es k pos) (gU n t) := by
  refine ⟨fun pins s σ H v u Q I r hw => ?_⟩
  obtain ⟨a, xs, e1, hq, hl, hw⟩ := hw
  exact (pg_unl hc h hn hst).run pins s σ H v u Q I r ⟨a, xs, e1, sqL hq, hl, hw⟩
end
def sp_moved_plane : Sp := fun vs H Q E => ∃ (p a : Addr) (t : Bool) (ns sh : List Int) (o : Int), vs = [.ref p, .ref a] ∧ PlAt H p ns o ∧ PlOk ns ∧ H a = some (RowF t (vi sh)) ∧ isRow sh ns.length 1998 = true ∧
  (∀ p' H', L2.Same H H' → PlAt H' p' (tidN ns (o + dot ns sh)) (tidO ns (o + dot ns sh)) → Q (.ref p') H')
theorem g_moved_plane (T : TX K mg) (D : At K mg "moved_plane" d_moved_plane) (c_dims_of : Cl P w K mg base C8.CX0 4 "dims_of" sp_dims_of) (c_dot_of : Cl P w K mg base C8.CX0 1 "dot_of" sp_dot_of) (c_need_shift : Cl P w K mg base C8.CX0 3 "need_shift" sp_need_shift) (c_tidy_plane : Cl P w K mg base C8.CX0 5 "tidy_plane" sp_tidy_plane) : Cl P w K mg base C8.CX0 6 "moved_plane" sp_moved_plane := by
  refine cl_of (k := 5) D sc_moved_plane (fun _ _ _ _ _ _ us hl => match us, hl with | [_, _], _ => rfl) (fun vs H Q E h => by
    obtain ⟨p, a, t, ns, sh, o, rfl, h, ok, ha, hr1, q⟩ := h
    rfl) ?_
  intro f cdv A outer s H vs Q E hr h
  obtain ⟨p, a, t, ns, sh, o, rfl, h, ok, ha, hr1, q⟩ := h
  refine ⟨_, (PSs.nox (pss_cons (ps_expr (pe_cl c_need_shift hr (by decide) (by rfl) (pa_cons (pe_cl c_dims_of hr (by decide) (by rfl) (pa_cons (pv 0) pa_nil)) (pa_cons (pv 1) pa_nil))))
 (pss_cons (ps_asg (pv 0) (k_tup (n := 2) rfl (pgs_cons (pg_name (i := 2) sc_moved_plane.nd rfl (Or.inl rfl)) (pgs_cons (pg_name (i := 3) sc_moved_plane.nd rfl (Or.inl rfl)) pgs_nil))))
 (pss_one (ps_ret (pe_cl c_tidy_plane hr (by decide) (by rfl) (pa_cons (pe_tup (pa_cons (pv 2) (pa_cons (pe_op op_add (pv 3) (pe_cl c_dot_of hr (by decide) (by rfl) (pa_cons (pv 2) (pa_cons (pv 1) pa_nil)))) pa_nil))) pa_nil))))))), ?_⟩
  have hl : (sh.length : Int) = ns.length := isRow_len hr1
  have hi := ok.hi
  refine ⟨_, rfl, p, ns, o, rfl, h, ok, fun H1 s1 => ⟨_, rfl, a, t, sh, _, rfl, s1 _ _ ha, by omega, hr1, fun H2 s2 => ?_⟩⟩
  obtain ⟨nr, h0, h1⟩ := (h.same s1).same s2
  refine ⟨_, rfl, _, _, rfl, h0, rfl, _, _, rfl, _, _, rfl, rfl, ?_⟩
  refine ⟨_, rfl, _, rfl, _, rfl, _, rfl, nr, a, true, t, ns, sh, rfl, h1, s2 _ _ (s1 _ _ ha), by omega, by omega, ok.wn, fun x hx => W.small (by have := isRow_mem hr1 x hx; omega), fun H3 s3 => ?_⟩
  refine ⟨_, _, rfl, rfl, szl (show 2 < 100000 by decide), fun p2 hp2 => ⟨p2, ns, _, rfl, ⟨nr, upd_same, same_upd hp2 _ _ (s3 _ _ h1)⟩, ok, fun p' H' s' h' => q p' H' ((((s1.trans s2).trans s3).trans (same_upd hp2)).trans s') h'⟩⟩
def sp_longer_plane : Sp := fun vs H Q E => ∃ (p : Addr) (ns : List Int) (o k : Int), vs = [.ref p, .int k] ∧ PlAt H p ns o ∧ PlOk ns ∧ 1 ≤ k ∧ k ≤ 9 ∧
  (∀ p' H', L2.Same H H' → PlAt H' p' (tidN ns (o * k)) (tidO ns (o * k)) → Q (.ref p') H')
theorem g_longer_plane (T : TX K mg) (D : At K mg "longer_plane" d_longer_plane) (c_dims_of : Cl P w K mg base C8.CX0 4 "dims_of" sp_dims_of) (c_need_times : Cl P w K mg base C8.CX0 2 "need_times" sp_need_times) (c_tidy_plane : Cl P w K mg base C8.CX0 5 "tidy_plane" sp_tidy_plane) : Cl P w K mg base C8.CX0 6 "longer_plane" sp_longer_plane := by
  refine cl_of (k := 5) D sc_longer_plane (fun _ _ _ _ _ _ us hl => match us, hl with | [_, _], _ => rfl) (fun vs H Q E h => by
    obtain ⟨p, ns, o, k, rfl, h, ok, k1, k9, q⟩ := h
    rfl) ?_
  intro f cdv A outer s H vs Q E hr h
  obtain ⟨p, ns, o, k, rfl, h, ok, k1, k9, q⟩ := h
  refine ⟨_, (PSs.nox (pss_cons (ps_expr (pe_cl c_dims_of hr (by decide) (by rfl) (pa_cons (pv 0) pa_nil)))
 (pss_cons (ps_expr (pe_cl c_need_times hr (by decide) (by rfl) (pa_cons (pv 1) pa_nil)))
 (pss_cons (ps_asg (pv 0) (k_tup (n := 2) rfl (pgs_cons (pg_name (i := 2) sc_longer_plane.nd rfl (Or.inl rfl)) (pgs_cons (pg_name (i := 3) sc_longer_plane.nd rfl (Or.inl rfl)) pgs_nil))))
 (pss_one (ps_ret (pe_cl c_tidy_plane hr (by decide) (by rfl) (pa_cons (pe_tup (pa_cons (pv 2) (pa_cons (pe_op op_mul (pv 3) (pv 1)) pa_nil))) pa_nil)))))))), ?_⟩
  refine ⟨_, rfl, p, ns, o, rfl, h, ok, fun H1 s1 => ⟨_, rfl, k, rfl, k1, k9, ?_⟩⟩
  obtain ⟨nr, h0, h1⟩ := h.same s1
  refine ⟨_, rfl, _, _, rfl, h0, rfl, _, _, rfl, _, _, rfl, rfl, ?_⟩
  refine ⟨_, rfl, _, rfl, _, rfl, _, _, rfl, rfl, .inr ⟨by omega, by omega⟩, szl (show 2 < 100000 by decide), fun p2 hp2 => ⟨p2, ns, _, rfl, ⟨nr, upd_same, same_upd hp2 _ _ h1⟩, ok, fun p' H' s' h' => q p' H' ((s1.trans (same_upd hp2)).trans s') h'⟩⟩
def mulR (rows : List (List Int)) (ns : List Int) : List Int := rows.map (dot · ns)
def sp_turned_plane : Sp := fun vs H Q E => ∃ (p a : Addr) (ns : List Int) (o L : Int) (rows : List (List Int)), vs = [.ref p, .ref a] ∧ PlAt H p ns o ∧ PlOk ns ∧ PlOk (mulR rows ns) ∧ SqAt H a rows ∧ SqOk ns.length L rows ∧
  (∀ p' H', L2.Same H H' → PlAt H' p' (tidN (mulR rows ns) (o * L)) (tidO (mulR rows ns) (o * L)) → Q (.ref p') H')
theorem g_turned_plane (T : TX K mg) (D : At K mg "turned_plane" d_turned_plane) (c_by_rows : Cl P w K mg base C8.CX0 2 "by_rows" sp_by_rows) (c_dims_of : Cl P w K mg base C8.CX0 4 "dims_of" sp_dims_of) (c_length_of : Cl P w K mg base C8.CX0 2 "length_of" sp_length_of) (c_need_square : Cl P w K mg base C8.CX0 4 "need_square" sp_need_square) (c_tidy_plane : Cl P w K mg base C8.CX0 5 "tidy_plane" sp_tidy_plane) : Cl P w K mg base C8.CX0 6 "turned_plane" sp_turned_plane := by
  refine cl_of (k := 5) D sc_turned_plane (fun _ _ _ _ _ _ us hl => match us, hl with | [_, _], _ => rfl) (fun vs H Q E h => by
    obtain ⟨p, a, ns, o, L, rows, rfl, h, ok, ok', ha, sk, q⟩ := h
    rfl) ?_
  intro f cdv A outer s H vs Q E hr h
  obtain ⟨p, a, ns, o, L, rows, rfl, h, ok, ok', ha, sk, q⟩ := h
  refine ⟨_, (PSs.nox (pss_cons (ps_expr (pe_cl c_need_square hr (by decide) (by rfl) (pa_cons (pe_cl c_dims_of hr (by decide) (by rfl) (pa_cons (pv 0) pa_nil)) (pa_cons (pv 1) pa_nil))))
 (pss_cons (ps_asg (pv 0) (k_tup (n := 2) rfl (pgs_cons (pg_name (i := 2) sc_turned_plane.nd rfl (Or.inl rfl)) (pgs_cons (pg_name (i := 3) sc_turned_plane.nd rfl (Or.inl rfl)) pgs_nil))))
 (pss_one (ps_ret (pe_cl c_tidy_plane hr (by decide) (by rfl) (pa_cons (pe_tup (pa_cons (pe_cl c_by_rows hr (by decide) (by rfl) (pa_cons (pv 1) (pa_cons (pv 2) pa_nil))) (pa_cons (pe_op op_mul (pv 3) (pe_cl c_length_of hr (by decide) (by rfl) (pa_cons (pv 1) pa_nil))) pa_nil))) pa_nil))))))), ?_⟩
  have hi := ok.hi
  refine ⟨_, rfl, p, ns, o, rfl, h, ok, fun H1 s1 => ⟨_, rfl, a, rows, _, L, rfl, ha.same s1, sk, fun H2 s2 => ?_⟩⟩
  have ha2 := (ha.same s1).same s2
  obtain ⟨nr, h0, h1⟩ := (h.same s1).same s2
  refine ⟨_, rfl, _, _, rfl, h0, rfl, _, _, rfl, _, _, rfl, rfl, ?_⟩
  refine ⟨_, rfl, _, rfl, a, nr, true, rows, ns, rfl, ha2, h1, by have := sk.len; omega, by omega, fun r hr => sk.wr r hr, ok.wn, fun p3 H3 s3 h3 => ?_⟩
  obtain ⟨t, rs, e1, e2, e3⟩ := ha2.same s3
  obtain ⟨r0, rest, rfl⟩ : ∃ r0 rest, rs = r0 :: rest := by
    cases rs with
    | nil => exact absurd sk.len (by rw [← e3]; have := ok.lo; simp; omega)
    | cons r0 rest => exact ⟨_, _, rfl⟩
  obtain ⟨t0, e0⟩ := e2 r0 (by simp)
  have m0 : r0.2 ∈ rows := by rw [← e3]; simp
  have w0 := sk.wr r0.2 m0
  refine ⟨_, rfl, _, rfl, a, r0.1, t, t0, _, r0.2, rfl, e1, e0, by omega, w0.2, fun H4 s4 => ?_⟩
  rw [sk.same _ m0]
  have L0 := sk.pos
  have L1 := sk.few
  refine ⟨_, _, rfl, rfl, .inr ⟨by omega, by omega⟩, szl (show 2 < 100000 by decide), fun p2 hp2 => ⟨p2, mulR rows ns, _, rfl, ⟨p3, upd_same, same_upd hp2 _ _ (s4 _ _ h3)⟩, ok', fun p' H' s' h' => q p' H' (((((s1.trans s2).trans s3).trans s4).trans (same_upd hp2)).trans s') h'⟩⟩
def sp_law_tidy : Sp := fun vs H Q E => ∃ (a : Addr) (t : Bool) (xs : List Int) (o : Int), vs = [.ref a, .int o] ∧ H a = some (RowF t (vi xs)) ∧ PlOk xs ∧ (∀ p' H', L2.Same H H' → PlAt H' p' (tidN xs o) (tidO xs o) → Q (.ref p') H')
theorem g_law_tidy (T : TX K mg) (D : At K mg "_law_tidy" d_law_tidy) (c_law_common : Cl P w K mg base C8.CX0 1 "_law_common" sp_law_common) : Cl P w K mg base C8.CX0 2 "_law_tidy" sp_law_tidy := by
  refine cl_of (k := 1) D sc_law_tidy (fun _ _ _ _ _ _ us hl => match us, hl with | [_, _], _ => rfl) (fun vs H Q E h => by
    obtain ⟨a, t, xs, o, rfl, h1, ok, q⟩ := h
    rfl) ?_
  intro f cdv A outer s H vs Q E hr h
  obtain ⟨a, t, xs, o, rfl, h1, ok, q⟩ := h
  refine ⟨_, (PSs.nox (pss_cons (ps_set (i := 2) sc_law_tidy.nd rfl (Or.inr rfl) (pe_callB call_abs (by rfl) T.b_abs bt_abs (pa_cons (pv 1) pa_nil)))
 (pss_cons (ps_for PassesOwn.never rfl (k_row (pv 0)) (pg_name (i := 3) sc_law_tidy.nd rfl (Or.inl rfl))
 (pss_one (ps_set (i := 2) sc_law_tidy.nd rfl (Or.inr rfl) (pe_cl c_law_common hr (by decide) (by rfl) (pa_cons (pv 2) (pa_cons (pv 3) pa_nil))))))
 (pss_one (ps_ret (pe_tup (pa_cons (pe_callTy k_tuple (by rfl) T.b_tuple bt_tuple (pa_cons (pe_lc (own := [("_law_one", 3)]) rfl sc_law_tidy.nd (k_row (pv 0)) (blkOk_by (N := ["_law_normal", "_law_offset", "_law_by", "_law_one"]) (sc := d_law_tidy.scope) (own := [("_law_one", 3)]) (by decide +kernel)) (fun _ _ _ _ _ => (pg_name (i := 3) sc_law_tidy.nd rfl (Or.inl rfl))) (fun _ _ _ _ _ => pts_nil) (fun _ _ _ _ _ => (pe_op op_fdivW (pv 3) (pv 2)))) pa_nil)) (pa_cons (pe_op op_fdivW (pv 1) (pv 2)) pa_nil)))))))), ?_⟩
  refine ⟨_, rfl, _, rfl, ?_⟩
  refine ⟨_, rfl, _, _, _, rfl, h1, fun J w => ?_⟩
  rw [abs_if]
  refine for_it w (fun i σ' H' => L2.Same H H' ∧ ∃ z, σ' = [some (.ref a), some (.int o), some (.int (byOf (xs.take i) o)), z]) ⟨L2.Same.refl _, _, rfl⟩ (fun i σ' H' _ z => z.1 _ _ h1) ?_ ?_
  · rintro i x _ H2 _ hi ⟨s, z, rfl⟩ ⟨rfl, e⟩
    rw [vi_len] at hi
    have ha : xs[i]? = some xs[i] := List.getElem?_eq_getElem hi
    simp only [vi, List.getElem?_map, ha, Option.map_some, Option.some.injEq] at e
    subst e
    refine ⟨_, rfl, _, rfl, _, _, rfl, s, some (.int xs[i]), ?_⟩
    rw [take_snoc ha, byOf_snoc]
    rfl
  · rintro _ H2 ⟨s, z, rfl⟩
    rw [vi_len, List.take_length]
    have g0 := byOf_pos (o := o) ok.nz
    have gw := byOf_W (o := o) ok.nz ok.wn
    refine ⟨_, rfl, _, _, _, rfl, s _ _ h1, fun J w D hD => lc_row xs V.int (fun x => .int (x / byOf xs o)) w hD (fun H' s' => s' _ _ (s _ _ h1)) (by have := ok.hi; omega) (fun _ => rfl) ?_ ?_⟩
    · intro x H3 R hx s3 k
      exact ⟨_, rfl, _, rfl, _, _, rfl, rfl, gw.divOk g0, k _ (L2.Same.refl _)⟩
    · intro H' s' e
      refine ⟨_, false, _, rfl, e, fun l H4 s4 e4 => ⟨_, rfl, _, rfl, _, _, rfl, rfl, gw.divOk g0, szl (show 2 < 100000 by decide), fun p' hp' => q p' _ (((s.trans s').trans s4).trans (same_upd hp')) ⟨l, upd_same, ?_⟩⟩⟩
      rw [show tidN xs o = xs.map (fun x => x / byOf xs o) from rfl, vi_map]
      exact same_upd hp' _ _ e4
end PB

/-! ## S6 -/
set_option Elab.async false
set_option linter.all false
set_option maxRecDepth 100000
set_option maxHeartbeats 4000000
namespace PB
open PySem PySem.Spec PyProof.Rows L2
variable {P : Program} {w : World} {K : PySem.W.Frag} {mg : Str → Option Value} {base : Heap}
inductive Deed where
  | moved (sh : List Int)
  | longer (k : Int)
  | turned (rows : List (List Int)) (L : Int)
def DeedAt (H : Hp) (d : Addr) : Deed → Prop
  | .moved sh => ∃ s t, H d = some (.lst [.str "moved", .ref s]) ∧ H s = some (RowF t (vi sh))
  | .longer k => H d = some (.lst [.str "longer", .int k])
  | .turned rows _ => ∃ q, H d = some (.lst [.str "turned", .ref q]) ∧ SqAt H q rows
theorem DeedAt.same {H H' : Hp} {d : Addr} : ∀ {D : Deed}, DeedAt H d D → L2.Same H H' → DeedAt H' d D
  | .moved _, ⟨s, t, h1, h2⟩, e => ⟨s, t, e _ _ h1, e _ _ h2⟩
  | .longer _, h, e => e _ _ h
  | .turned _ _, ⟨q, h1, h2⟩, e => ⟨q, e _ _ h1, h2.same e⟩
def DeedOk (n : Nat) : Deed → Prop
  | .moved sh => isRow sh n 1998 = true
  | .longer k => 1 ≤ k ∧ k ≤ 9
  | .turned rows L => SqOk n L rows
def placeN : Deed → List Int → List Int
  | .moved sh, p => List.zipWith (· + ·) p sh
  | .longer k, p => p.map (· * k)
  | .turned rows _, p => mulR rows p
/-- the deed on a plane, ahead of its tidying -/
def goneN : Deed → List Int → List Int
  | .turned rows _, ns => mulR rows ns
  | _, ns => ns
def goneO : Deed → List Int → Int → Int
  | .moved sh, ns, o => o + dot ns sh
  | .longer k, _, o => o * k
  | .turned _ L, _, o => o * L
def goneM : Deed → Int
  | .moved _ => 1
  | .longer k => k * k
  | .turned _ L => L
def dueN (D : Deed) (ns : List Int) (o : Int) : List Int := tidN (goneN D ns) (goneO D ns o)
def dueO (D : Deed) (ns : List Int) (o : Int) : Int := tidO (goneN D ns) (goneO D ns o)
/-- a place's numbers -/
def Near (p : List Int) : Prop := ∀ x ∈ p, -100000 ≤ x ∧ x ≤ 100000
def sp_law_placed : Sp := fun vs H Q E => ∃ (d a : Addr) (t : Bool) (D : Deed) (p : List Int), vs = [.ref d, .ref a] ∧ DeedAt H d D ∧ H a = some (RowF t (vi p)) ∧ DeedOk p.length D ∧ p.length ≤ 5 ∧ Near p ∧
  (∀ r H', L2.Same H H' → H' r = some (.tup (vi (placeN D p))) → Q (.ref r) H')
theorem g_law_placed (T : TX K mg) (D : At K mg "_law_placed" d_law_placed) (c_law_dot : Cl P w K mg base C8.CX0 1 "_law_dot" sp_law_dot) : Cl P w K mg base C8.CX0 2 "_law_placed" sp_law_placed := by
  refine cl_of (k := 1) D sc_law_placed (fun _ _ _ _ _ _ us hl => match us, hl with | [_, _], _ => rfl) (fun vs H Q E h => by
    obtain ⟨d, a, t, D, p, rfl, hd, ha, ok, hp, hn, q⟩ := h
    rfl) ?_
  intro f cdv A outer s H vs Q E hr h
  obtain ⟨d, a, t, D, p, rfl, hd, ha, ok, hp, hn, q⟩ := h
  refine ⟨_, (PSs.nox (pss_cons (ps_asg (pv 0) (k_unl (n := 2) rfl (pgs_cons (pg_name (i := 2) sc_law_placed.nd rfl (Or.inl rfl)) (pgs_cons (pg_name (i := 3) sc_law_placed.nd rfl (Or.inr rfl)) pgs_nil))))
 (pss_cons (ps_if (pt_cmpR op_eq (pv 2) pe_str (nomark _))
 (pss_one (ps_ret (pe_callTy k_tuple (by rfl) T.b_tuple bt_tuple (pa_cons (pe_lc (own := [("_law_one", 4), ("_law_more", 5)]) rfl sc_law_placed.nd (k_zip (by rfl) T.b_zip (pa_cons (pv 1) (pa_cons (pv 3) pa_nil))) (blkOk_by (N := ["_law_deed_here", "_law_place", "_law_word", "_law_thing", "_law_one", "_law_more", "_law_row"]) (sc := d_law_placed.scope) (own := [("_law_one", 4), ("_law_more", 5)]) (by decide +kernel)) (fun _ _ _ _ _ => (k_tup (n := 2) rfl (pgs_cons (pg_name (i := 4) sc_law_placed.nd rfl (Or.inl rfl)) (pgs_cons (pg_name (i := 5) sc_law_placed.nd rfl (Or.inl rfl)) pgs_nil)))) (fun _ _ _ _ _ => pts_nil) (fun _ _ _ _ _ => (pe_op op_add (pv 4) (pv 5)))) pa_nil))))
 pss_nil)
 (pss_cons (ps_if (pt_cmpR op_eq (pv 2) pe_str (nomark _))
 (pss_one (ps_ret (pe_callTy k_tuple (by rfl) T.b_tuple bt_tuple (pa_cons (pe_lc (own := [("_law_one", 4)]) rfl sc_law_placed.nd (k_row (pv 1)) (blkOk_by (N := ["_law_deed_here", "_law_place", "_law_word", "_law_thing", "_law_one", "_law_more", "_law_row"]) (sc := d_law_placed.scope) (own := [("_law_one", 4)]) (by decide +kernel)) (fun _ _ _ _ _ => (pg_name (i := 4) sc_law_placed.nd rfl (Or.inl rfl))) (fun _ _ _ _ _ => pts_nil) (fun _ _ _ _ _ => (pe_op op_mul (pv 4) (pv 3)))) pa_nil))))
 pss_nil)
 (pss_one (ps_ret (pe_callTy k_tuple (by rfl) T.b_tuple bt_tuple (pa_cons (pe_lc (own := [("_law_row", 6)]) rfl sc_law_placed.nd (k_row (pv 3)) (blkOk_by (N := ["_law_deed_here", "_law_place", "_law_word", "_law_thing", "_law_one", "_law_more", "_law_row"]) (sc := d_law_placed.scope) (own := [("_law_row", 6)]) (by decide +kernel)) (fun _ _ _ _ _ => (pg_name (i := 6) sc_law_placed.nd rfl (Or.inl rfl))) (fun _ _ _ _ _ => pts_nil) (fun _ _ _ _ _ => (pe_cl c_law_dot hr (by decide) (by rfl) (pa_cons (pv 6) (pa_cons (pv 1) pa_nil))))) pa_nil)))))))), ?_⟩
  cases D with
  | moved sh =>
    obtain ⟨s, t2, h1, h2⟩ := hd
    have hl : (sh.length : Int) = p.length := isRow_len ok
    refine ⟨_, rfl, _, _, rfl, h1, rfl, _, _, rfl, _, _, rfl, rfl, _, rfl, rfl, _, rfl, ifT (by decide) ?_⟩
    refine ⟨_, rfl, _, rfl, _, _, _, _, _, _, rfl, ha, h2, by simp; omega, fun J w D hD => lc_zip p sh V.int V.int (fun z => .int (z.1 + z.2)) w (by omega) hD (fun H' s => ⟨s _ _ ha, s _ _ h2⟩) (by omega) (fun _ _ => rfl) ?_ ?_⟩
    · intro x y H R hx hy s k
      exact ⟨_, rfl, _, rfl, _, _, rfl, rfl, k _ (L2.Same.refl _)⟩
    · intro H' s e
      refine ⟨_, false, _, rfl, e, fun l H2 s2 e2 => q l H2 (s.trans s2) ?_⟩
      rw [e2, show placeN (.moved sh) p = List.zipWith (· + ·) p sh from rfl, ← zip_map, vi_map]
  | longer k =>
    refine ⟨_, rfl, _, _, rfl, hd, rfl, _, _, rfl, _, _, rfl, rfl, _, rfl, rfl, _, rfl, ifF (by decide) ?_⟩
    refine ⟨_, rfl, rfl, _, rfl, ifT (by decide) ?_⟩
    refine ⟨_, rfl, _, _, _, rfl, ha, fun J w D hD => lc_row p V.int (fun x => .int (x * k)) w hD (fun H' s => s _ _ ha) (by omega) (fun _ => rfl) ?_ ?_⟩
    · intro x H R hx s r
      have := ok.1
      have := ok.2
      exact ⟨_, rfl, _, rfl, _, _, rfl, rfl, .inr ⟨by omega, by omega⟩, r _ (L2.Same.refl _)⟩
    · intro H' s e
      refine ⟨_, false, _, rfl, e, fun l H2 s2 e2 => q l H2 (s.trans s2) ?_⟩
      rw [e2, show placeN (.longer k) p = p.map (· * k) from rfl, vi_map]
  | turned rows L =>
    obtain ⟨s, h1, t2, rs, h2, h3, h4⟩ := hd
    subst h4
    have hl := ok.len
    refine ⟨_, rfl, _, _, rfl, h1, rfl, _, _, rfl, _, _, rfl, rfl, _, rfl, rfl, _, rfl, ifF (by decide) ?_⟩
    refine ⟨_, rfl, rfl, _, rfl, ifF (by decide) ?_⟩
    refine ⟨_, rfl, _, _, _, rfl, h2, fun J w D hD => lc_row rs (fun r => V.ref r.1) (fun r => .int (dot r.2 p)) w hD (fun H' s => s _ _ h2) (by rw [List.length_map] at hl; omega) (fun _ => rfl) ?_ ?_⟩
    · intro x H1 R hx s k
      obtain ⟨t3, h5⟩ := h3 x hx
      have m : x.2 ∈ rs.map (·.2) := List.mem_map.mpr ⟨x, hx, rfl⟩
      have hm := isRow_mem (ok.row _ m)
      exact ⟨_, rfl, _, rfl, _, _, _, _, _, _, rfl, s _ _ h5, s _ _ ha, (ok.wr _ m).1, by rw [(ok.wr _ m).1]; omega, fun u hu v _ => .inl (by have := hm u hu; constructor <;> omega), k⟩
    · intro H' s e
      refine ⟨_, false, _, rfl, e, fun l H2 s2 e2 => q l H2 (s.trans s2) ?_⟩
      rw [e2, show placeN (.turned (rs.map (·.2)) L) p = (rs.map (·.2)).map (dot · p) from rfl, vi_map, List.map_map]
      rfl
def sp_law_gone : Sp := fun vs H Q E => ∃ (d a : Addr) (D : Deed) (ns : List Int) (o : Int), vs = [.ref d, .ref a] ∧ DeedAt H d D ∧ PlAt H a ns o ∧ DeedOk ns.length D ∧ PlOk ns ∧ PlOk (goneN D ns) ∧
  (∀ r p H', L2.Same H H' → H' r = some (.tup [.ref p, .int (goneM D)]) → PlAt H' p (dueN D ns o) (dueO D ns o) → Q (.ref r) H')
theorem g_law_gone (T : TX K mg) (D : At K mg "_law_gone" d_law_gone) (c_law_dot : Cl P w K mg base C8.CX0 1 "_law_dot" sp_law_dot) (c_law_tidy : Cl P w K mg base C8.CX0 2 "_law_tidy" sp_law_tidy) : Cl P w K mg base C8.CX0 3 "_law_gone" sp_law_gone := by
  refine cl_of (k := 2) D sc_law_gone (fun _ _ _ _ _ _ us hl => match us, hl with | [_, _], _ => rfl) (fun vs H Q E h => by
    obtain ⟨d, a, D, ns, o, rfl, hd, ⟨nr, h0, h1⟩, ok, pk, gk, q⟩ := h
    rfl) ?_
  intro f cdv A outer s H vs Q E hr h
  obtain ⟨d, a, D, ns, o, rfl, hd, ⟨nr, h0, h1⟩, ok, pk, gk, q⟩ := h
  refine ⟨_, (PSs.nox (pss_cons (ps_asg (pv 0) (k_unl (n := 2) rfl (pgs_cons (pg_name (i := 2) sc_law_gone.nd rfl (Or.inl rfl)) (pgs_cons (pg_name (i := 3) sc_law_gone.nd rfl (Or.inl rfl)) pgs_nil))))
 (pss_cons (ps_asg (pv 1) (k_tup (n := 2) rfl (pgs_cons (pg_name (i := 4) sc_law_gone.nd rfl (Or.inr rfl)) (pgs_cons (pg_name (i := 5) sc_law_gone.nd rfl (Or.inl rfl)) pgs_nil))))
 (pss_cons (ps_if (pt_cmpR op_eq (pv 2) pe_str (nomark _))
 (pss_one (ps_ret (pe_tup (pa_cons (pe_cl c_law_tidy hr (by decide) (by rfl) (pa_cons (pv 4) (pa_cons (pe_op op_add (pv 5) (pe_cl c_law_dot hr (by decide) (by rfl) (pa_cons (pv 4) (pa_cons (pv 3) pa_nil)))) pa_nil))) (pa_cons pe_int pa_nil)))))
 pss_nil)
 (pss_cons (ps_if (pt_cmpR op_eq (pv 2) pe_str (nomark _))
 (pss_one (ps_ret (pe_tup (pa_cons (pe_cl c_law_tidy hr (by decide) (by rfl) (pa_cons (pv 4) (pa_cons (pe_op op_mul (pv 5) (pv 3)) pa_nil))) (pa_cons (pe_op op_mul (pv 3) (pv 3)) pa_nil)))))
 pss_nil)
 (pss_cons (ps_set (i := 6) sc_law_gone.nd rfl (Or.inl rfl) (pe_cl c_law_dot hr (by decide) (by rfl) (pa_cons (pe_ix k_ix (pv 3) pe_int (fun _ _ => rfl)) (pa_cons (pe_ix k_ix (pv 3) pe_int (fun _ _ => rfl)) pa_nil))))
 (pss_one (ps_ret (pe_tup (pa_cons (pe_cl c_law_tidy hr (by decide) (by rfl) (pa_cons (pe_lc (own := [("_law_row", 7)]) rfl sc_law_gone.nd (k_row (pv 3)) (blkOk_by (N := ["_law_deed_here", "_law_plane_here", "_law_word", "_law_thing", "_law_normal", "_law_offset", "_law_length", "_law_row"]) (sc := d_law_gone.scope) (own := [("_law_row", 7)]) (by decide +kernel)) (fun _ _ _ _ _ => (pg_name (i := 7) sc_law_gone.nd rfl (Or.inl rfl))) (fun _ _ _ _ _ => pts_nil) (fun _ _ _ _ _ => (pe_cl c_law_dot hr (by decide) (by rfl) (pa_cons (pv 7) (pa_cons (pv 4) pa_nil))))) (pa_cons (pe_op op_mul (pv 5) (pv 6)) pa_nil))) (pa_cons (pv 6) pa_nil))))))))))), ?_⟩
  have hi := pk.hi
  cases D with
  | moved sh =>
    obtain ⟨s, t2, h2, h3⟩ := hd
    have hl : (sh.length : Int) = ns.length := isRow_len ok
    refine ⟨_, rfl, _, _, rfl, h2, rfl, _, _, rfl, _, _, rfl, rfl, _, rfl, _, _, rfl, h0, rfl, _, _, rfl, _, _, rfl, rfl, _, rfl, rfl, _, rfl, ifT (by decide) ?_⟩
    refine ⟨_, rfl, _, rfl, _, rfl, _, rfl, nr, s, true, t2, ns, sh, rfl, h1, h3, by omega, by omega, fun u hu v hv => .inr (by have := isRow_mem ok v hv; constructor <;> omega), fun H1 s1 => ?_⟩
    refine ⟨_, _, rfl, rfl, nr, true, ns, _, rfl, s1 _ _ h1, pk, fun p' H2 s2 h' => ⟨szl (show 2 < 100000 by decide), fun r hr => q r p' _ ((s1.trans s2).trans (same_upd hr)) upd_same (h'.same (same_upd hr))⟩⟩
  | longer k =>
    have := ok.1
    have := ok.2
    refine ⟨_, rfl, _, _, rfl, hd, rfl, _, _, rfl, _, _, rfl, rfl, _, rfl, _, _, rfl, h0, rfl, _, _, rfl, _, _, rfl, rfl, _, rfl, rfl, _, rfl, ifF (by decide) ?_⟩
    refine ⟨_, rfl, rfl, _, rfl, ifT (by decide) ?_⟩
    refine ⟨_, rfl, _, rfl, _, rfl, _, _, rfl, rfl, .inr ⟨by omega, by omega⟩, nr, true, ns, _, rfl, h1, pk, fun p' H2 s2 h' => ?_⟩
    refine ⟨_, rfl, _, rfl, _, _, rfl, rfl, .inr ⟨by omega, by omega⟩, szl (show 2 < 100000 by decide), fun r hr => q r p' _ (s2.trans (same_upd hr)) upd_same (h'.same (same_upd hr))⟩
  | turned rows L =>
    obtain ⟨s, h2, t2, rs, h3, h4, h5⟩ := hd
    subst h5
    have hl := ok.len
    rw [List.length_map] at hl
    have hlo := pk.lo
    obtain ⟨r0, rest, rfl⟩ : ∃ r0 rest, rs = r0 :: rest := by
      cases rs with
      | nil => exact absurd hl (by simp; omega)
      | cons r0 rest => exact ⟨_, _, rfl⟩
    obtain ⟨t0, e0⟩ := h4 r0 (by simp)
    have m0 : r0.2 ∈ (r0 :: rest).map (·.2) := by simp
    have w0 := ok.wr r0.2 m0
    have b0 := isRow_mem (ok.row _ m0)
    refine ⟨_, rfl, _, _, rfl, h2, rfl, _, _, rfl, _, _, rfl, rfl, _, rfl, _, _, rfl, h0, rfl, _, _, rfl, _, _, rfl, rfl, _, rfl, rfl, _, rfl, ifF (by decide) ?_⟩
    refine ⟨_, rfl, rfl, _, rfl, ifF (by decide) ?_⟩
    refine ⟨_, rfl, _, _, _, _, _, rfl, rfl, h3, at0, _, rfl, _, _, _, _, _, rfl, rfl, h3, at0, r0.1, r0.1, t0, t0, r0.2, r0.2, rfl, e0, e0, rfl, by omega, fun u hu v _ => .inl (by have := b0 u hu; constructor <;> omega), fun H1 s1 => ?_⟩
    rw [ok.same _ m0]
    have L0 := ok.pos
    have L1 := ok.few
    refine ⟨_, rfl, _, _, _, rfl, s1 _ _ h3, fun J w D hD => lc_row (r0 :: rest) (fun r => V.ref r.1) (fun r => .int (dot r.2 ns)) w hD (fun H' s => s _ _ (s1 _ _ h3)) (by omega) (fun _ => rfl) ?_ ?_⟩
    · intro x H2 R hx s2 k
      obtain ⟨t3, h5⟩ := h4 x hx
      have m : x.2 ∈ (r0 :: rest).map (·.2) := List.mem_map.mpr ⟨x, hx, rfl⟩
      have hm := isRow_mem (ok.row _ m)
      exact ⟨_, rfl, _, rfl, _, _, _, _, _, _, rfl, s2 _ _ (s1 _ _ h5), s2 _ _ (s1 _ _ h1), (ok.wr _ m).1, by rw [(ok.wr _ m).1]; omega, fun u hu v _ => .inl (by have := hm u hu; constructor <;> omega), k⟩
    · intro H2 s2 e
      refine ⟨_, rfl, _, rfl, _, _, rfl, rfl, .inr ⟨by omega, by omega⟩, _, false, mulR ((r0 :: rest).map (fun x : Addr × List Int => x.2)) ns, _, rfl, ?_, gk, fun p' H3 s3 h' => ?_⟩
      · rw [e, show mulR ((r0 :: rest).map (fun x : Addr × List Int => x.2)) ns = ((r0 :: rest).map (fun x : Addr × List Int => x.2)).map (dot · ns) from rfl, vi_map, List.map_map]
        rfl
      · exact ⟨_, rfl, szl (show 2 < 100000 by decide), fun r hr => q r p' _ (((s1.trans s2).trans s3).trans (same_upd hr)) upd_same (h'.same (same_upd hr))⟩
def sp_law_plane_told : Sp := fun vs H Q E => ∃ (d a : Addr) (D : Deed) (ns : List Int) (o : Int), vs = [.ref d, .ref a] ∧ DeedAt H d D ∧ PlAt H a ns o ∧ DeedOk ns.length D ∧ PlOk ns ∧ PlOk (goneN D ns) ∧
  (∀ p H', L2.Same H H' → PlAt H' p (dueN D ns o) (dueO D ns o) → Q (.ref p) H')
theorem at1 {x y : V} {rest : List V} : atI (x :: y :: rest) 1 = some y := by
  unfold atI ixN
  rw [if_pos (by decide), if_pos (by simp; omega)]
  rfl
theorem g_law_plane_told (T : TX K mg) (D : At K mg "_law_plane_told" d_law_plane_told) (c_longer_plane : Cl P w K mg base C8.CX0 6 "longer_plane" sp_longer_plane) (c_moved_plane : Cl P w K mg base C8.CX0 6 "moved_plane" sp_moved_plane) (c_turned_plane : Cl P w K mg base C8.CX0 6 "turned_plane" sp_turned_plane) : Cl P w K mg base C8.CX0 7 "_law_plane_told" sp_law_plane_told := by
  refine cl_of (k := 6) D sc_law_plane_told (fun _ _ _ _ _ _ us hl => match us, hl with | [_, _], _ => rfl) (fun vs H Q E h => by
    obtain ⟨d, a, D, ns, o, rfl, hd, h, ok, pk, gk, q⟩ := h
    rfl) ?_
  intro f cdv A outer s H vs Q E hr h
  obtain ⟨d, a, D, ns, o, rfl, hd, h, ok, pk, gk, q⟩ := h
  refine ⟨_, (PSs.nox (pss_cons (ps_if (pt_cmpR op_eq (pe_ix k_ix (pv 0) pe_int (fun _ _ => rfl)) pe_str (nomark _))
 (pss_one (ps_ret (pe_cl c_moved_plane hr (by decide) (by rfl) (pa_cons (pv 1) (pa_cons (pe_ix k_ix (pv 0) pe_int (fun _ _ => rfl)) pa_nil)))))
 pss_nil)
 (pss_cons (ps_if (pt_cmpR op_eq (pe_ix k_ix (pv 0) pe_int (fun _ _ => rfl)) pe_str (nomark _))
 (pss_one (ps_ret (pe_cl c_longer_plane hr (by decide) (by rfl) (pa_cons (pv 1) (pa_cons (pe_ix k_ix (pv 0) pe_int (fun _ _ => rfl)) pa_nil)))))
 pss_nil)
 (pss_one (ps_ret (pe_cl c_turned_plane hr (by decide) (by rfl) (pa_cons (pv 1) (pa_cons (pe_ix k_ix (pv 0) pe_int (fun _ _ => rfl)) pa_nil)))))))), ?_⟩
  cases D with
  | moved sh =>
    obtain ⟨s, t2, h2, h3⟩ := hd
    refine ⟨_, rfl, _, false, _, _, _, rfl, rfl, h2, at0, rfl, _, rfl, ifT (by decide) ?_⟩
    exact ⟨_, rfl, _, rfl, _, false, _, _, _, rfl, rfl, h2, at1, a, s, t2, ns, sh, o, rfl, h, pk, h3, ok, q⟩
  | longer k =>
    refine ⟨_, rfl, _, false, _, _, _, rfl, rfl, hd, at0, rfl, _, rfl, ifF (by decide) ?_⟩
    refine ⟨_, rfl, _, false, _, _, _, rfl, rfl, hd, at0, rfl, _, rfl, ifT (by decide) ?_⟩
    exact ⟨_, rfl, _, rfl, _, false, _, _, _, rfl, rfl, hd, at1, a, ns, o, k, rfl, h, pk, ok.1, ok.2, q⟩
  | turned rows L =>
    obtain ⟨s, h2, h3⟩ := hd
    refine ⟨_, rfl, _, false, _, _, _, rfl, rfl, h2, at0, rfl, _, rfl, ifF (by decide) ?_⟩
    refine ⟨_, rfl, _, false, _, _, _, rfl, rfl, h2, at0, rfl, _, rfl, ifF (by decide) ?_⟩
    exact ⟨_, rfl, _, rfl, _, false, _, _, _, rfl, rfl, h2, at1, a, s, ns, o, L, rows, rfl, h, pk, gk, h3, ok, q⟩
/-- a gap's width times a number -/
def sp_law_times : Sp := fun vs H Q E => ∃ (v : V) (m : Int), vs = [v, .int m] ∧ ((v = .non ∧ Q .non H) ∨ ∃ (a : Addr) (x y : Int), v = .ref a ∧ H a = some (.tup [.int x, .int y]) ∧ 0 < m ∧ m < 1000 ∧ 0 < y ∧ W y ∧
  (∀ r H', L2.Same H H' → H' r = some (.tup [.int (x * m / ((Int.gcd (x * m) y : Nat) : Int)), .int (y / ((Int.gcd (x * m) y : Nat) : Int))]) → Q (.ref r) H'))
theorem g_law_times (T : TX K mg) (D : At K mg "_law_times" d_law_times) (c_law_common : Cl P w K mg base C8.CX0 1 "_law_common" sp_law_common) : Cl P w K mg base C8.CX0 2 "_law_times" sp_law_times := by
  refine cl_of (k := 1) D sc_law_times (fun _ _ _ _ _ _ us hl => match us, hl with | [_, _], _ => rfl) (fun vs H Q E h => by
    obtain ⟨v, m, rfl, h⟩ := h
    rfl) ?_
  intro f cdv A outer s H vs Q E hr h
  obtain ⟨v, m, rfl, h⟩ := h
  refine ⟨_, (PSs.nox (pss_cons (ps_if (pt_cmpR op_isN (pv 0) pe_non (nomark _))
 (pss_one (ps_ret pe_non))
 pss_nil)
 (pss_cons (ps_set (i := 2) sc_law_times.nd rfl (Or.inl rfl) (pe_cl c_law_common hr (by decide) (by rfl) (pa_cons (pe_op op_mul (pe_ix k_ix (pv 0) pe_int (fun _ _ => rfl)) (pv 1)) (pa_cons (pe_ix k_ix (pv 0) pe_int (fun _ _ => rfl)) pa_nil))))
 (pss_one (ps_ret (pe_tup (pa_cons (pe_op op_fdivW (pe_op op_mul (pe_ix k_ix (pv 0) pe_int (fun _ _ => rfl)) (pv 1)) (pv 2)) (pa_cons (pe_op op_fdivW (pe_ix k_ix (pv 0) pe_int (fun _ _ => rfl)) (pv 2)) pa_nil)))))))), ?_⟩
  rcases h with ⟨rfl, q⟩ | ⟨a, x, y, rfl, h1, m0, m1, hy, wy, q⟩
  · exact ⟨_, rfl, rfl, _, rfl, ifT rfl q⟩
  · have g0 : (0 : Int) < ((Int.gcd (x * m) y : Nat) : Int) := by
      have := Int.gcd_pos_of_ne_zero_right (x * m) (show y ≠ 0 by omega)
      omega
    have wg : W ((Int.gcd (x * m) y : Nat) : Int) := wy.mono (by
      have := Int.gcd_le_natAbs_right (x * m) (show y ≠ 0 by omega)
      simpa using this)
    refine ⟨_, rfl, rfl, _, rfl, ifF rfl ?_⟩
    refine ⟨_, rfl, _, true, _, _, _, rfl, rfl, h1, at0, _, rfl, _, _, rfl, rfl, .inr ⟨by omega, by omega⟩, _, rfl, _, true, _, _, _, rfl, rfl, h1, at1, _, _, rfl, ?_⟩
    refine ⟨_, rfl, _, true, _, _, _, rfl, rfl, h1, at0, _, rfl, _, _, rfl, rfl, .inr ⟨by omega, by omega⟩, _, rfl, _, _, rfl, rfl, wg.divOk g0, ?_⟩
    exact ⟨_, rfl, _, true, _, _, _, rfl, rfl, h1, at1, _, rfl, _, _, rfl, rfl, wg.divOk g0, szl (show 2 < 100000 by decide), fun r hr => q r _ (same_upd hr) upd_same⟩
end PB

/-! ## S7 -/
set_option Elab.async false
set_option linter.all false
set_option maxRecDepth 100000
set_option maxHeartbeats 4000000
namespace PB
open PySem PySem.Spec PyProof.Rows L2
variable {P : Program} {w : World} {K : PySem.W.Frag} {mg : Str → Option Value} {base : Heap}
def sp_law_cell (K : PySem.W.Frag) : Sp := fun vs H Q E => ∃ (s : Addr) (cs : List Int) (k : Int), vs = [.ref s, .int k] ∧ SqL K H s (vi cs) ∧ 0 ≤ k ∧ (∀ c, Q (.int c) H)
theorem atI_nat {α : Type} {xs : List α} {k : Nat} (h : k < xs.length) : atI xs (k : Int) = some xs[k] := by
  unfold atI ixN
  rw [if_pos (by omega), if_pos (by omega)]
  simp [h]
theorem g_law_cell (T : TX K mg) (D : At K mg "_law_cell" d_law_cell) : Cl P w K mg base C8.CX0 1 "_law_cell" (sp_law_cell K) := by
  refine cl_of (k := 0) D sc_law_cell (fun _ _ _ _ _ _ us hl => match us, hl with | [_, _], _ => rfl) (fun vs H Q E h => by
    obtain ⟨s, cs, k, rfl, hs, k0, q⟩ := h
    rfl) ?_
  intro f cdv A outer s H vs Q E hr h
  obtain ⟨s, cs, k, rfl, hs, k0, q⟩ := h
  refine ⟨_, (PSs.nox (pss_cons (ps_if (pt_cmpR op_lt (pv 1) (pe_callB call_len_seq (by rfl) T.b_len bt_len (pa_cons (pv 0) pa_nil)) (nomark _))
 (pss_one (ps_ret (pe_ix ix_list (pv 0) (pv 1) (fun _ _ => rfl))))
 pss_nil)
 (pss_one (ps_ret (pe_op op_add (pe_op op_mul pe_int (pv 1)) pe_int))))), ?_⟩
  obtain ⟨n, rfl⟩ := Int.eq_ofNat_of_zero_le k0
  refine ⟨_, rfl, _, rfl, s, vi cs, rfl, .inl hs, _, _, rfl, rfl, _, rfl, ?_⟩
  by_cases c : n < cs.length
  · refine ifT (by rw [vi_len]; simpa using c) ?_
    have e : atI (vi cs) (n : Int) = some (.int cs[n]) := by
      rw [atI_nat (by rw [vi_len]; exact c)]
      simp [vi]
    exact ⟨_, rfl, _, rfl, s, vi cs, _, _, rfl, rfl, hs, e, q _⟩
  · refine ifF (by rw [vi_len]; simpa using c) ?_
    exact ⟨_, rfl, _, _, rfl, rfl, .inl ⟨by decide, by decide⟩, _, _, rfl, rfl, q _⟩
def sp_law_box : Sp := fun vs H Q E => ∃ c : Int, vs = [.int c] ∧ (∀ b H', L2.Same H H' → H b = none → BoxAt H' b → Q (.ref b) H')
theorem g_law_box (T : TX K mg) (D : At K mg "_law_box" d_law_box) : Cl P w K mg base C8.CX0 1 "_law_box" sp_law_box := by
  refine cl_of (k := 0) D sc_law_box (fun _ _ _ _ _ _ us hl => match us, hl with | [_], _ => rfl) (fun vs H Q E h => by
    obtain ⟨c, rfl, q⟩ := h
    rfl) ?_
  intro f cdv A outer s H vs Q E hr h
  obtain ⟨c, rfl, q⟩ := h
  refine ⟨_, (PSs.nox (pss_one (ps_ret (pe_lst (pa_cons (pe_op op_mul (pv 0) (pe_callTy call_int1 (by rfl) T.b_int bt_int (pa_cons (pe_cmpR op_ge (pv 0) (pe_op op_pow pe_int pe_int) (nomark _)) pa_nil))) (pa_cons (pe_op op_mod (pv 0) pe_int) (pa_cons pe_int pa_nil))))))), ?_⟩
  refine ⟨_, rfl, _, rfl, _, _, rfl, rfl, ⟨by decide, by decide, by decide⟩, _, _, rfl, rfl, .inr ⟨_, rfl, _, _, rfl, rfl, .inr (by split <;> constructor <;> decide), _, rfl, _, _, rfl, rfl, (by decide : (0 : Int) < 2147483629), szl (show 3 < 100000 by decide), fun b hb => q b _ (same_upd hb) hb ⟨_, _, _, upd_same⟩⟩⟩
def sp_law_take : Sp := fun vs H Q E => ∃ (b : Addr) (m : Int), vs = [.ref b, .int m] ∧ BoxAt H b ∧ 0 < m ∧ W m ∧ (∀ d H', 0 ≤ d → d < m → But b H H' → BoxAt H' b → Q (.int d) H')
theorem at2 {x y z : V} {rest : List V} : atI (x :: y :: z :: rest) 2 = some z := by
  unfold atI ixN
  rw [if_pos (by decide), if_pos (by simp; omega)]
  rfl
theorem but_upd {H : Hp} {b : Addr} {o : HO} : But b H (upd H b o) := fun a u n e => by rw [upd_ne n]; exact e
theorem g_law_take (T : TX K mg) (D : At K mg "_law_take" d_law_take) : Cl P w K mg base C8.CX0 1 "_law_take" sp_law_take := by
  refine cl_of (k := 0) D sc_law_take (fun _ _ _ _ _ _ us hl => match us, hl with | [_, _], _ => rfl) (fun vs H Q E h => by
    obtain ⟨b, m, rfl, ⟨x, y, z, hb⟩, m0, wm, q⟩ := h
    rfl) ?_
  intro f cdv A outer s H vs Q E hr h
  obtain ⟨b, m, rfl, ⟨x, y, z, hb⟩, m0, wm, q⟩ := h
  refine ⟨_, (PSs.nox (pss_cons (ps_if (pt_cmpR op_gt (pe_ix k_ix (pv 0) pe_int (fun _ _ => rfl)) pe_int (nomark _))
 (pss_cons (ps_set (i := 2) sc_law_take.nd rfl (Or.inl rfl) (pe_op op_mod (pe_ix k_ix (pv 0) pe_int (fun _ _ => rfl)) (pv 1)))
 (pss_cons (ps_asg (pe_op op_fdivW (pe_ix k_ix (pv 0) pe_int (fun _ _ => rfl)) (pv 1)) (pg_sub (pv 0) pe_int set_list))
 (pss_one (ps_ret (pv 2)))))
 pss_nil)
 (pss_cons (ps_asg (pe_op op_add (pe_ix k_ix (pv 0) pe_int (fun _ _ => rfl)) pe_int) (pg_sub (pv 0) pe_int set_list))
 (pss_cons (ps_set (i := 3) sc_law_take.nd rfl (Or.inl rfl) (pe_op op_mod (pe_op op_add (pe_op op_add (pe_op op_mul (pe_ix k_ix (pv 0) pe_int (fun _ _ => rfl)) pe_int) (pe_op op_mul pe_int (pe_ix k_ix (pv 0) pe_int (fun _ _ => rfl)))) pe_int) pe_int))
 (pss_cons (ps_set (i := 3) sc_law_take.nd rfl (Or.inl rfl) (pe_op op_mod (pe_op op_add (pe_op op_add (pe_op op_mul (pv 3) (pv 3)) (pe_op op_mul pe_int (pe_ix k_ix (pv 0) pe_int (fun _ _ => rfl)))) pe_int) pe_int))
 (pss_one (ps_ret (pe_op op_mod (pe_op op_fdivW (pe_op op_mod (pe_op op_mul (pv 3) (pe_op op_add (pv 3) pe_int)) pe_int) pe_int) (pv 1))))))))), ?_⟩
  refine ⟨_, rfl, _, false, _, _, _, rfl, rfl, hb, at0, _, _, rfl, rfl, _, rfl, ?_⟩
  by_cases c : 0 < x
  · refine ifT (decide_eq_true c) ?_
    refine ⟨_, rfl, _, false, _, _, _, rfl, rfl, hb, at0, _, rfl, _, _, rfl, rfl, m0, ?_⟩
    refine ⟨_, rfl, _, false, _, _, _, rfl, rfl, hb, at0, _, rfl, _, _, rfl, rfl, wm.divOk m0, _, rfl, _, _, _, 0, rfl, rfl, hb, rfl, _, rfl, ?_⟩
    exact q _ _ (Int.emod_nonneg x (by omega)) (Int.emod_lt_of_pos x m0) but_upd ⟨_, _, _, upd_same⟩
  · refine ifF (decide_eq_false c) ?_
    refine ⟨_, rfl, _, false, _, _, _, rfl, rfl, hb, at2, _, _, rfl, rfl, _, rfl, _, _, _, 2, rfl, rfl, hb, rfl, ?_⟩
    have hb2 : upd H b (.lst [.int x, .int y, .int (z + 1)]) b = some (.lst [.int x, .int y, .int (z + 1)]) := upd_same
    have but2 : But b H (upd H b (.lst [.int x, .int y, .int (z + 1)])) := but_upd
    refine ⟨_, rfl, _, false, _, _, _, rfl, rfl, hb2, at1, _, _, rfl, rfl, .inr ⟨by decide, by decide⟩, ?_⟩
    refine ⟨_, rfl, _, false, _, _, _, rfl, rfl, hb2, at2, _, _, rfl, rfl, .inl ⟨by decide, by decide⟩, _, _, rfl, rfl, _, _, rfl, rfl, _, _, rfl, rfl, (by decide : (0 : Int) < 2147483647), ?_⟩
    generalize hn : (y * 48271 + 12289 * (z + 1) + 77) % 2147483647 = n
    have n0 : 0 ≤ n ∧ n < 2147483647 := by omega
    refine ⟨_, rfl, _, rfl, _, _, rfl, rfl, .inl ⟨by have := n0.1; omega, by have := n0.2; omega⟩, ?_⟩
    refine ⟨_, rfl, _, false, _, _, _, rfl, rfl, hb2, at2, _, _, rfl, rfl, .inl ⟨by decide, by decide⟩, _, _, rfl, rfl, _, _, rfl, rfl, _, _, rfl, rfl, (by decide : (0 : Int) < 2147483629), ?_⟩
    generalize hk : (n * n + 40961 * (z + 1) + 5) % 2147483629 = k
    have k0 : 0 ≤ k ∧ k < 2147483629 := by omega
    refine ⟨_, rfl, _, rfl, _, _, rfl, rfl, _, _, rfl, rfl, .inl ⟨by have := k0.1; omega, by have := k0.2; omega⟩, _, _, rfl, rfl, (by decide : (0 : Int) < 2147483587), _, _, rfl, rfl, ⟨by decide, by decide⟩, _, rfl, _, _, rfl, rfl, m0, ?_⟩
    exact q _ _ (Int.emod_nonneg _ (by omega)) (Int.emod_lt_of_pos _ m0) but2 ⟨_, _, _, hb2⟩
end PB

/-! ## S8 -/
set_option Elab.async false
set_option linter.all false
set_option maxRecDepth 100000
set_option maxHeartbeats 4000000
namespace PB
open PySem PySem.Spec PyProof.Rows L2
variable {P : Program} {w : World} {K : PySem.W.Frag} {mg : Str → Option Value} {base : Heap}
/-! ### names -/
def letters : Str := "abcdefghijklmnopqrstuvwxyz"
def NameOk (z : Str) : Prop := 1 ≤ z.length ∧ z.length ≤ 8 ∧ ∀ c ∈ z.cps.toList, c ∈ letters.cps.toList
def sp_are_signs : Sp := fun vs H Q E => ∃ a : Str, vs = [.str a, .str letters, .int 8] ∧ NameOk a ∧ (∀ H', L2.Same H H' → Q (.bl true) H')
theorem g_are_signs (T : TX K mg) (D : At K mg "are_signs" d_are_signs) : Cl P w K mg base C8.CX0 1 "are_signs" sp_are_signs := by
  refine cl_of (k := 0) D sc_are_signs (fun _ _ _ _ _ _ us hl => match us, hl with | [_, _, _], _ => rfl) (fun vs H Q E h => by
    obtain ⟨a, rfl, ok, q⟩ := h
    rfl) ?_
  intro f cdv A outer s H vs Q E hr h
  obtain ⟨a, rfl, ok, q⟩ := h
  refine ⟨_, (PSs.nox (pss_cons (ps_if (pt_not (pt_chain op_le op_le pe_int (pe_callB call_len_str (by rfl) T.b_len bt_len (pa_cons (pv 0) pa_nil)) (pv 2)))
 (pss_one (ps_ret pe_bl))
 pss_nil)
 (pss_one (ps_ret (pe_callB (k_all rfl) (by rfl) T.b_all bt_all (pa_cons (pe_lc (own := [("sign", 3)]) rfl sc_are_signs.nd (pi_str (pv 0)) (blkOk_by (N := ["text", "signs", "most", "sign"]) (sc := d_are_signs.scope) (own := [("sign", 3)]) (by decide +kernel)) (fun _ _ _ _ _ => (pg_name (i := 3) sc_are_signs.nd rfl (Or.inl rfl))) (fun _ _ _ _ _ => pts_nil) (fun _ _ _ _ _ => (pe_cmpR op_in_sign (pv 3) (pv 1) (by rfl)))) pa_nil)))))), ?_⟩
  obtain ⟨l1, l8, hc⟩ := ok
  refine ⟨_, rfl, _, rfl, szl (by omega), _, _, rfl, rfl, _, rfl, ifT (by simp; omega) ⟨_, rfl, _, _, rfl, rfl, _, rfl, ifF (by simp; omega) ?_⟩⟩
  refine ⟨_, rfl, _, rfl, fun D hD => ?_⟩
  have w := @walk_str a
  rw [← Array.length_toList] at w
  refine lc_m a.cps.toList (fun _ => .bl true) w hD (fun i H x H' y => by rw [y.1]; exact L2.Same.refl H) (fun _ _ => trivial) (by have : a.cps.toList.length = a.length := Array.length_toList; omega) ?_ ?_ ?_
  · rintro i c x H H' hi s ⟨rfl, c2, h2, rfl⟩ R k
    have e : c2 = c := by
      rw [← Array.getElem?_toList] at h2
      rw [h2] at hi
      exact Option.some.inj hi
    subst e
    have m : c2 ∈ letters.cps.toList := hc c2 (List.mem_of_getElem? hi)
    refine ⟨rfl, _, rfl, _, rfl, c2, _, rfl, rfl, ?_⟩
    rw [decide_eq_true m]
    exact k _ (L2.Same.refl _)
  · exact fun i c x H H' hi s y A B k h => k _ _ h
  · intro H' s e
    refine ⟨_, a.cps.toList.map (fun _ => true), rfl, by rw [e, List.map_map]; rfl, ?_⟩
    rw [show (a.cps.toList.map fun _ => true).all id = true from by rw [List.all_map]; exact List.all_eq_true.mpr fun _ _ => rfl]
    exact q H' s
def sp_is_name : Sp := fun vs H Q E => ∃ a : Str, vs = [.str a] ∧ NameOk a ∧ (∀ H', L2.Same H H' → Q (.bl true) H')
theorem g_is_name (T : TX K mg) (D : At K mg "is_name" d_is_name) (c_are_signs : Cl P w K mg base C8.CX0 1 "are_signs" sp_are_signs) : Cl P w K mg base C8.CX0 2 "is_name" sp_is_name := by
  refine cl_of (k := 1) D sc_is_name (fun _ _ _ _ _ _ us hl => match us, hl with | [_], _ => rfl) (fun vs H Q E h => by
    obtain ⟨a, rfl, ok, q⟩ := h
    rfl) ?_
  intro f cdv A outer s H vs Q E hr h
  obtain ⟨a, rfl, ok, q⟩ := h
  refine ⟨_, (PSs.nox (pss_one (ps_ret (pe_and (pe_callB cr_isB (by rfl) T.b_isinstance bt_isinstance (pa_cons (pv 0) (pa_cons (pe_bltn (v := .ty "str") (by rfl) T.b_str bt_str rfl) pa_nil))) (pe_one (pe_cl c_are_signs hr (by decide) (by rfl) (pa_cons (pv 0) (pa_cons (C8.pe_gc (by rfl) T.g_LETTERS) (pa_cons (C8.pe_gc (by rfl) T.g_LONGEST_NAME) pa_nil))))))))), ?_⟩
  exact ⟨_, rfl, _, _, _, rfl, .str a, _, rfl, ifT rfl ⟨_, rfl, a, rfl, ok, q⟩⟩
/-! ### the names of a list, each once -/
def putS (ks : List Str) (k : Str) : List Str := if k ∈ ks then ks else ks ++ [k]
def uniq (ss : List Str) : List Str := ss.foldl putS []
theorem putK_keys (kvs : List (Key × V)) (ks : List Str) (k : Str) (v : V) (h : kvs.map (·.1) = ks.map Sum.inr) : (putK kvs (.inr k) v).map (·.1) = (putS ks k).map Sum.inr := by
  have e : (kvs.any fun kv => decide (kv.1 = .inr k)) = decide (k ∈ ks) := by
    rw [Bool.eq_iff_iff, List.any_eq_true, decide_eq_true_eq]
    constructor
    · rintro ⟨p, hp, e⟩
      have : p.1 ∈ kvs.map (·.1) := List.mem_map.mpr ⟨p, hp, rfl⟩
      rw [h, of_decide_eq_true e] at this
      obtain ⟨s, hs, e2⟩ := List.mem_map.mp this
      cases e2
      exact hs
    · intro hk
      have : (Sum.inr k : Key) ∈ kvs.map (·.1) := by rw [h]; exact List.mem_map.mpr ⟨k, hk, rfl⟩
      obtain ⟨p, hp, e2⟩ := List.mem_map.mp this
      exact ⟨p, hp, by simp [e2]⟩
  unfold putK putS
  rw [e]
  by_cases c : k ∈ ks
  · rw [if_pos (by simpa using c), if_pos c, ← h, List.map_map]
    refine List.map_congr_left fun p hp => ?_
    show (if p.1 = .inr k then (p.1, v) else p).1 = p.1
    split <;> rfl
  · rw [if_neg (by simpa using c), if_neg c, List.map_append, List.map_append, h]
    rfl
theorem merge_keys (ss : List Str) : ∀ (kvs : List (Key × V)) (ks : List Str), kvs.map (·.1) = ks.map Sum.inr → (mergeK kvs (ss.map fun s => (.inr s, .bl true))).map (·.1) = (ss.foldl putS ks).map Sum.inr := by
  induction ss with
  | nil => exact fun kvs ks h => h
  | cons s ss ih => exact fun kvs ks h => ih _ _ (putK_keys kvs ks s (.bl true) h)
def sp_unlike_ones : Sp := fun vs H Q E => ∃ (a : Addr) (ss : List Str), vs = [.ref a] ∧ H a = some (.lst (ss.map V.str)) ∧ ss.length < 1000 ∧ (∀ l H', L2.Same H H' → H' l = some (.lst ((uniq ss).map V.str)) → Q (.ref l) H')
theorem paired_app {α β : Type} {F : α → β → Prop} : ∀ {l1 : List α} {l2 : List β} {m1 : List α} {m2 : List β}, Paired F l1 l2 → Paired F m1 m2 → Paired F (l1 ++ m1) (l2 ++ m2)
  | _, _, _, _, .nil, h => h
  | _, _, _, _, .cons r t, h => .cons r (paired_app t h)
theorem paired_mapR {α β γ : Type} {F : α → β → Prop} {G : α → γ → Prop} {f : β → γ} : ∀ {l1 : List α} {l2 : List β}, Paired F l1 l2 → (∀ a b, F a b → G a (f b)) → Paired G l1 (l2.map f)
  | _, _, .nil, _ => .nil
  | _, _, .cons r t, h => .cons (h _ _ r) (paired_mapR t h)
/-- new tuples, one by one -/
theorem lc_tup {α : Type} {J : It} {G : Hp → Prop} (xs : List α) (hx : α → V) (O : α → Addr → Hp → Prop) (w : Walk J (xs.map hx).length G (YAt (xs.map hx))) {te : TE} {a : Nat} {σ : L2.St} {H1 : Hp} {D : Addr} {Qd : Hp → Prop}
    (hD : H1 D = none) (hG : ∀ H', L2.Same H1 H' → G H') (hsz : xs.length < 100000) (hw : ∀ x, wipe ((wipe σ [a]).set a (some x)) [a] = wipe σ [a]) (hO : ∀ x p H H', O x p H → L2.Same H H' → O x p H') (hOD : ∀ x p H l l', O x p H → H D = some (.lst l) → O x p (upd H D (.lst l')))
    (turn : ∀ x H (R : VK), x ∈ xs → L2.Same H1 H → (∀ p H4, L2.Same H H4 → O x p H4 → R (.ref p) H4) → te ((wipe σ [a]).set a (some (hx x))) H R)
    (hd : ∀ (ps : List Addr) H', L2.Same H1 H' → Paired (fun p x => O x p H') ps xs → H' D = some (.lst (ps.map V.ref)) → Qd H') :
    ∃ W : Nat → Nat → Hp → Prop, (∃ m, W 0 m (upd H1 D (.lst []))) ∧ ∀ i m H, W i m H →
      (J.stop i H ∧ Qd H) ∨ (J.go i H ∧ ∃ Nx : Hp → Prop, (∀ H', Nx H' → ∃ m', m' < m ∧ W (i + 1) m' H') ∧ ∀ x H', J.yld i H x H' → gName a x (wipe σ [a]) H' fun σ2 H2 => wipe σ2 [a] = wipe σ [a] ∧ tYes σ2 H2 fun b H3 =>
        if b = true then te σ2 H3 fun y H4 => ∃ acc, H4 D = some (.lst acc) ∧ acc.length < sizeLine ∧ Nx (upd H4 D (.lst (acc ++ [y]))) else Nx H3) := by
  have hlen : xs.length = (xs.map hx).length := by rw [List.length_map]
  rw [← hlen] at w
  refine lc_it w (fun i H => L2.Same H1 H ∧ ∃ ps : List Addr, H D = some (.lst (ps.map V.ref)) ∧ Paired (fun p x => O x p H) ps (xs.take i)) ⟨same_upd hD, [], upd_same, .nil⟩ (fun i H _ h => hG H h.1) ?_ (fun H h => ?_)
  · rintro i x H H' hi ⟨s0, ps, e1, e2⟩ ⟨rfl, y⟩
    have ha : xs[i]? = some xs[i] := List.getElem?_eq_getElem hi
    simp only [List.getElem?_map, ha, Option.map_some, Option.some.injEq] at y
    subst y
    refine ⟨hw _, turn xs[i] _ _ (List.mem_of_getElem? ha) s0 fun p H4 s4 o => ⟨ps.map V.ref, s4 _ _ e1, ?_, fun c u e => ?_, ps ++ [p], by rw [upd_same, List.map_append]; rfl, ?_⟩⟩
    · have := Paired.length e2
      rw [List.length_take] at this
      exact sz_small (by rw [List.length_map]; omega)
    · rw [upd_ne (ne_of_none e hD)]
      exact s4 _ _ (s0 _ _ e)
    · rw [take_snoc ha]
      refine paired_app (L2.Paired.mapP e2 fun _ _ z => hOD _ _ _ _ _ (hO _ _ _ _ z s4) (s4 _ _ e1)) (.cons (hOD _ _ _ _ _ o (s4 _ _ e1)) .nil)
  · obtain ⟨s0, ps, e1, e2⟩ := h
    rw [List.take_length] at e2
    exact hd ps H s0 e2 e1
theorem g_unlike_ones (T : TX K mg) (D : At K mg "unlike_ones" d_unlike_ones) : Cl P w K mg base C8.CX0 1 "unlike_ones" sp_unlike_ones := by
  refine cl_of (k := 0) D sc_unlike_ones (fun _ _ _ _ _ _ us hl => match us, hl with | [_], _ => rfl) (fun vs H Q E h => by
    obtain ⟨a, ss, rfl, ha, hl, q⟩ := h
    rfl) ?_
  intro f cdv A outer s H vs Q E hr h
  obtain ⟨a, ss, rfl, ha, hl, q⟩ := h
  refine ⟨_, (PSs.nox (pss_one (ps_ret (pe_callTy (call_list_dK rfl) (by rfl) T.b_list bt_list (pa_cons (pe_callTy (k_dictP rfl) (by rfl) T.b_dict bt_dict (pa_cons (pe_lc (own := [("thing", 1)]) rfl sc_unlike_ones.nd (k_row (pv 0)) (blkOk_by (N := ["things", "thing"]) (sc := d_unlike_ones.scope) (own := [("thing", 1)]) (by decide +kernel)) (fun _ _ _ _ _ => (pg_name (i := 1) sc_unlike_ones.nd rfl (Or.inl rfl))) (fun _ _ _ _ _ => pts_nil) (fun _ _ _ _ _ => (pe_tup (pa_cons (pv 1) (pa_cons pe_bl pa_nil))))) pa_nil)) pa_nil))))), ?_⟩
  refine ⟨_, rfl, _, _, _, rfl, (show H a = some (RowF false _) from ha), fun J w D hD => lc_tup ss V.str (fun s p H' => H' p = some (.tup [.str s, .bl true])) w hD (fun H' s => s _ _ ha) (by omega) (fun _ => rfl) (fun _ _ _ _ o s => s _ _ o) ?_ ?_ ?_⟩
  · intro x p H1 l l' o e
    rw [upd_ne (fun z => by rw [z, e] at o; cases o)]
    exact o
  · intro x H1 R hx s k
    exact ⟨_, rfl, szl (show 2 < 100000 by decide), fun p hp => k p _ (same_upd hp) upd_same⟩
  · intro ps H1 s1 hp e
    refine ⟨_, ps, ss.map (fun s => (.inr s, .bl true)), rfl, e, ?_, fun d hd => ⟨d, _, rfl, upd_same, fun l hl2 => q l _ ((s1.trans (same_upd hd)).trans (same_upd hl2)) ?_⟩⟩
    · exact paired_mapR hp fun _ _ z => z
    · rw [upd_same]
      have := merge_keys ss [] [] rfl
      have e3 : (mergeK [] (ss.map fun s => ((.inr s : Key), V.bl true))).map (fun kv => kV kv.1) = ((mergeK [] (ss.map fun s => ((.inr s : Key), V.bl true))).map (·.1)).map kV := by rw [List.map_map]; rfl
      rw [e3, this, List.map_map]
      rfl
end PB

/-! ## S9 -/
set_option Elab.async false
set_option linter.all false
set_option maxRecDepth 100000
set_option maxHeartbeats 4000000
namespace PB
open PySem PySem.Spec PyProof.Rows L2
variable {P : Program} {w : World} {K : PySem.W.Frag} {mg : Str → Option Value} {base : Heap}
/-! ### points -/
structure Pt where
  nm : Str
  hp : Str
  pl : List Int
def ptF (w : Nat) (kd : Addr) : List (Str × V) := [("wide", .int w), ("kept", .ref kd)]
theorem lkW {w : Nat} {kd : Addr} : (ptF w kd).lookup ("wide" : Str) = some (.int w) := rfl
theorem lkK {w : Nat} {kd : Addr} : (ptF w kd).lookup ("kept" : Str) = some (.ref kd) := rfl
abbrev Tri := Pt × Addr × Addr
def kvsOf (rs : List Tri) : List (Key × V) := rs.map fun r => (.inr r.1.nm, .ref r.2.1)
def TriOk (H : Hp) (r : Tri) : Prop := H r.2.1 = some (.tup [.str r.1.hp, .ref r.2.2]) ∧ H r.2.2 = some (.tup (vi r.1.pl))
structure PtsR (C : Addr) (H : Hp) (p kd : Addr) (w : Nat) (rs : List Tri) : Prop where
  ob : ∃ dx, H p = some (.ins C dx (ptF w kd))
  kt : H kd = some (.dK (kvsOf rs))
  tr : ∀ r ∈ rs, TriOk H r
  nd : (rs.map fun r => r.1.nm).Nodup
  few : rs.length ≤ 24
  ok : ∀ r ∈ rs, NameOk r.1.nm ∧ NameOk r.1.hp
theorem TriOk.same {H H' : Hp} {r : Tri} (h : TriOk H r) (s : L2.Same H H') : TriOk H' r := ⟨s _ _ h.1, s _ _ h.2⟩
theorem PtsR.same {C : Addr} {H H' : Hp} {p kd : Addr} {w : Nat} {rs : List Tri} (h : PtsR C H p kd w rs) (s : L2.Same H H') : PtsR C H' p kd w rs :=
  ⟨h.ob.elim fun dx e => ⟨dx, s _ _ e⟩, s _ _ h.kt, fun r hr => (h.tr r hr).same s, h.nd, h.few, h.ok⟩
theorem kvs_nd {rs : List Tri} (h : (rs.map fun r => r.1.nm).Nodup) : ((kvsOf rs).map (·.1)).Nodup := by
  have e : (kvsOf rs).map (·.1) = (rs.map fun r => r.1.nm).map (Sum.inr : Str → Key) := by
    unfold kvsOf
    rw [List.map_map, List.map_map]
    rfl
  rw [e]
  exact List.Pairwise.map _ (fun _ _ n z => n (Sum.inr.inj z)) h
theorem kvs_val {rs : List Tri} (h : (rs.map fun r => r.1.nm).Nodup) {r : Tri} (hr : r ∈ rs) : valV (kvsOf rs) (.inr r.1.nm) = some (.ref r.2.1) :=
  val_nodup (kvs_nd h) (.inr r.1.nm, .ref r.2.1) (List.mem_map.mpr ⟨r, hr, rfl⟩)
theorem kvs_none {rs : List Tri} {nm : Str} (h : ∀ r ∈ rs, r.1.nm ≠ nm) : valV (kvsOf rs) (.inr nm) = none := by
  unfold valV kvsOf
  rw [List.find?_eq_none.mpr]
  · rfl
  · intro q hq
    obtain ⟨r, hr, rfl⟩ := List.mem_map.mp hq
    simpa using h r hr
theorem dgetR {C : Addr} {H : Hp} {p kd : Addr} {w : Nat} {rs : List Tri} (h : PtsR C H p kd w rs) {r : Tri} (hr : r ∈ rs) : DGet H kd (.str r.1.nm) (some (.ref r.2.1)) := by
  have := DGet.k (k := .inr r.1.nm) h.kt
  rwa [kvs_val h.nd hr] at this
def sp_Points_dims (C : Addr) : Sp := fun vs H Q E => ∃ (p kd : Addr) (w : Nat) (rs : List Tri), vs = [.ref p] ∧ PtsR C H p kd w rs ∧ Q (.int w) H
theorem g_Points_dims (T : TX K mg) {CP : Addr} (cP : PX K CP) (D : AtM K CP "dims" d_Points_dims) : Mt P w K mg base C8.CX0 1 CP "dims" (sp_Points_dims CP) := by
  refine mt_of cP.cl (k := 0) D sc_Points_dims (fun _ _ _ _ _ _ us hl => match us, hl with | [_], _ => rfl) (fun vs H Q E h => by
    obtain ⟨p, kd, w, rs, rfl, h, q⟩ := h
    rfl) ?_
  intro f cdv A outer s H vs Q E hr h
  obtain ⟨p, kd, w, rs, rfl, h, q⟩ := h
  refine ⟨_, (PSs.nox (pss_one (ps_ret (k_fld cP.cl cP.n_wide (pv 0))))), ?_⟩
  obtain ⟨dx, e⟩ := h.ob
  exact ⟨_, rfl, _, _, _, _, rfl, e, lkW, q⟩
def sp_Points_names (C : Addr) : Sp := fun vs H Q E => ∃ (p kd : Addr) (w : Nat) (rs : List Tri), vs = [.ref p] ∧ PtsR C H p kd w rs ∧ (∀ l H', L2.Same H H' → H' l = some (.lst (rs.map fun r => V.str r.1.nm)) → Q (.ref l) H')
theorem g_Points_names (T : TX K mg) {CP : Addr} (cP : PX K CP) (D : AtM K CP "names" d_Points_names) : Mt P w K mg base C8.CX0 1 CP "names" (sp_Points_names CP) := by
  refine mt_of cP.cl (k := 0) D sc_Points_names (fun _ _ _ _ _ _ us hl => match us, hl with | [_], _ => rfl) (fun vs H Q E h => by
    obtain ⟨p, kd, w, rs, rfl, h, q⟩ := h
    rfl) ?_
  intro f cdv A outer s H vs Q E hr h
  obtain ⟨p, kd, w, rs, rfl, h, q⟩ := h
  refine ⟨_, (PSs.nox (pss_one (ps_ret (pe_callTy (call_list_dK rfl) (by rfl) T.b_list bt_list (pa_cons (k_fld cP.cl cP.n_kept (pv 0)) pa_nil))))), ?_⟩
  obtain ⟨dx, e⟩ := h.ob
  refine ⟨_, rfl, _, _, _, _, rfl, e, lkK, _, _, rfl, h.kt, fun l hl => q l _ (same_upd hl) ?_⟩
  rw [upd_same]
  unfold kvsOf
  rw [List.map_map]
  rfl
def sp_Points_need_point (C : Addr) : Sp := fun vs H Q E => ∃ (p kd : Addr) (w : Nat) (rs : List Tri) (r : Tri), vs = [.ref p, .str r.1.nm] ∧ PtsR C H p kd w rs ∧ r ∈ rs ∧ Q .non H
theorem g_Points_need_point (T : TX K mg) {CP : Addr} (cP : PX K CP) (D : AtM K CP "need_point" d_Points_need_point) : Mt P w K mg base C8.CX0 1 CP "need_point" (sp_Points_need_point CP) := by
  refine mt_of cP.cl (k := 0) D sc_Points_need_point (fun _ _ _ _ _ _ us hl => match us, hl with | [_, _], _ => rfl) (fun vs H Q E h => by
    obtain ⟨p, kd, w, rs, r, rfl, h, hm, q⟩ := h
    rfl) ?_
  intro f cdv A outer s H vs Q E hr h
  obtain ⟨p, kd, w, rs, r, rfl, h, hm, q⟩ := h
  refine ⟨_, (PSs.nox (pss_one (ps_if (PW.pt (pw_or (pt_not (pt_val (pe_callB cr_isB (by rfl) T.b_isinstance bt_isinstance (pa_cons (pv 1) (pa_cons (pe_bltn (v := .ty "str") (by rfl) T.b_str bt_str rfl) pa_nil))))) (pw_or1 (pt_cmp (pc_dnotin (hu_of hr) (pv 1) (k_fld cP.cl cP.n_kept (pv 0))) rfl))))
 (pss_one ps_never)
 pss_nil))), ?_⟩
  obtain ⟨dx, e⟩ := h.ob
  exact ⟨_, rfl, _, _, _, rfl, .str _, _, rfl, ifF rfl ⟨_, rfl, _, rfl, _, _, _, _, rfl, e, lkK, _, _, rfl, dgetR h hm, _, rfl, ifF rfl q⟩⟩
def sp_Points_need_few (C : Addr) : Sp := fun vs H Q E => ∃ (p a : Addr) (ss : List Str), vs = [.ref p, .ref a] ∧ H a = some (.lst (ss.map V.str)) ∧ ss.length < 1000 ∧ (uniq ss).length ≤ 4 ∧ (∀ H', L2.Same H H' → Q .non H')
theorem g_Points_need_few (T : TX K mg) {CP : Addr} (cP : PX K CP) (D : AtM K CP "need_few" d_Points_need_few) (c_unlike_ones : Cl P w K mg base C8.CX0 1 "unlike_ones" sp_unlike_ones) : Mt P w K mg base C8.CX0 2 CP "need_few" (sp_Points_need_few CP) := by
  refine mt_of cP.cl (k := 1) D sc_Points_need_few (fun _ _ _ _ _ _ us hl => match us, hl with | [_, _], _ => rfl) (fun vs H Q E h => by
    obtain ⟨p, a, ss, rfl, ha, hl, h4, q⟩ := h
    rfl) ?_
  intro f cdv A outer s H vs Q E hr h
  obtain ⟨p, a, ss, rfl, ha, hl, h4, q⟩ := h
  refine ⟨_, (PSs.nox (pss_cons (ps_set (i := 2) sc_Points_need_few.nd rfl (Or.inl rfl) (pe_callB k_len (by rfl) T.b_len bt_len (pa_cons (pe_cl c_unlike_ones hr (by decide) (by rfl) (pa_cons (pv 1) pa_nil)) pa_nil)))
 (pss_one (ps_if (pt_cmpR op_gt (pv 2) (C8.pe_gc (by rfl) T.g_MOST_HEAPS) (nomark _))
 (pss_one ps_never)
 pss_nil)))), ?_⟩
  refine ⟨_, rfl, a, ss, rfl, ha, hl, fun l H1 s1 e => ⟨l, false, _, rfl, e, _, rfl, _, _, rfl, rfl, _, rfl, ifF (by simp; omega) (q H1 s1)⟩⟩
def sp_Points_place (C : Addr) : Sp := fun vs H Q E => ∃ (p kd : Addr) (w : Nat) (rs : List Tri) (r : Tri), vs = [.ref p, .str r.1.nm] ∧ PtsR C H p kd w rs ∧ r ∈ rs ∧ Q (.ref r.2.2) H
theorem g_Points_place (T : TX K mg) {CP : Addr} (cP : PX K CP) (D : AtM K CP "place" d_Points_place) (m_need_point : Mt P w K mg base C8.CX0 1 CP "need_point" (sp_Points_need_point CP)) : Mt P w K mg base C8.CX0 2 CP "place" (sp_Points_place CP) := by
  refine mt_of cP.cl (k := 1) D sc_Points_place (fun _ _ _ _ _ _ us hl => match us, hl with | [_, _], _ => rfl) (fun vs H Q E h => by
    obtain ⟨p, kd, w, rs, r, rfl, h, hm, q⟩ := h
    rfl) ?_
  intro f cdv A outer s H vs Q E hr h
  obtain ⟨p, kd, w, rs, r, rfl, h, hm, q⟩ := h
  refine ⟨_, (PSs.nox (pss_cons (ps_expr (pe_mth m_need_point hr (by decide) (pv 0) (pa_cons (pv 1) pa_nil)))
 (pss_one (ps_ret (pe_ix k_ix (pe_dget (hu_of hr) (k_fld cP.cl cP.n_kept (pv 0)) (pv 1) (fun _ _ => rfl)) pe_int (fun _ _ => rfl)))))), ?_⟩
  obtain ⟨dx, e⟩ := h.ob
  exact ⟨_, rfl, _, _, _, rfl, e, rfl, _, rfl, p, kd, w, rs, r, rfl, h, hm, _, rfl, _, _, _, _, rfl, e, lkK, _, rfl, _, _, rfl, dgetR h hm, _, true, _, _, _, rfl, rfl, (h.tr r hm).1, at1, q⟩
def sp_Points_heap (C : Addr) : Sp := fun vs H Q E => ∃ (p kd : Addr) (w : Nat) (rs : List Tri) (r : Tri), vs = [.ref p, .str r.1.nm] ∧ PtsR C H p kd w rs ∧ r ∈ rs ∧ Q (.str r.1.hp) H
theorem g_Points_heap (T : TX K mg) {CP : Addr} (cP : PX K CP) (D : AtM K CP "heap" d_Points_heap) (m_need_point : Mt P w K mg base C8.CX0 1 CP "need_point" (sp_Points_need_point CP)) : Mt P w K mg base C8.CX0 2 CP "heap" (sp_Points_heap CP) := by
  refine mt_of cP.cl (k := 1) D sc_Points_heap (fun _ _ _ _ _ _ us hl => match us, hl with | [_, _], _ => rfl) (fun vs H Q E h => by
    obtain ⟨p, kd, w, rs, r, rfl, h, hm, q⟩ := h
    rfl) ?_
  intro f cdv A outer s H vs Q E hr h
  obtain ⟨p, kd, w, rs, r, rfl, h, hm, q⟩ := h
  refine ⟨_, (PSs.nox (pss_cons (ps_expr (pe_mth m_need_point hr (by decide) (pv 0) (pa_cons (pv 1) pa_nil)))
 (pss_one (ps_ret (pe_ix k_ix (pe_dget (hu_of hr) (k_fld cP.cl cP.n_kept (pv 0)) (pv 1) (fun _ _ => rfl)) pe_int (fun _ _ => rfl)))))), ?_⟩
  obtain ⟨dx, e⟩ := h.ob
  exact ⟨_, rfl, _, _, _, rfl, e, rfl, _, rfl, p, kd, w, rs, r, rfl, h, hm, _, rfl, _, _, _, _, rfl, e, lkK, _, rfl, _, _, rfl, dgetR h hm, _, true, _, _, _, rfl, rfl, (h.tr r hm).1, at0, q⟩
theorem unlock {H H' : Hp} {d : Addr} {u : HO} {od : Obj} (e : H d = some u) (s : L2.Same (upd H d (.frz od u)) H') : L2.Same H (upd H' d u) := fun a o h => by
  by_cases c : a = d
  · subst c
    rw [upd_same, ← h, e]
  · rw [upd_ne c]
    exact s _ _ (by rw [upd_ne c]; exact h)
theorem freeze {H : Hp} {d a : Addr} {u o : HO} {od : Obj} (e : H d = some u) (h : H a = some o) (n : o ≠ u) : upd H d (.frz od u) a = some o := by
  rw [upd_ne (fun c => n (by rw [c, e] at h; exact (Option.some.inj h).symm))]
  exact h
theorem TriOk.frz {H : Hp} {d : Addr} {kvs : List (Key × V)} {od : Obj} {r : Tri} (h : TriOk H r) (e : H d = some (.dK kvs)) : TriOk (upd H d (.frz od (.dK kvs))) r := ⟨freeze e h.1 (fun z => nomatch z), freeze e h.2 (fun z => nomatch z)⟩
def sp_Points_heaps (C : Addr) : Sp := fun vs H Q E => ∃ (p kd : Addr) (w : Nat) (rs : List Tri), vs = [.ref p] ∧ PtsR C H p kd w rs ∧ (∀ l H', L2.Same H H' → H' l = some (.lst ((uniq (rs.map fun r => r.1.hp)).map V.str)) → Q (.ref l) H')
theorem g_Points_heaps (T : TX K mg) {CP : Addr} (cP : PX K CP) (D : AtM K CP "heaps" d_Points_heaps) (c_unlike_ones : Cl P w K mg base C8.CX0 1 "unlike_ones" sp_unlike_ones) : Mt P w K mg base C8.CX0 2 CP "heaps" (sp_Points_heaps CP) := by
  refine mt_of cP.cl (k := 1) D sc_Points_heaps (fun _ _ _ _ _ _ us hl => match us, hl with | [_], _ => rfl) (fun vs H Q E h => by
    obtain ⟨p, kd, wd, rs, rfl, h, q⟩ := h
    rfl) ?_
  intro f cdv A outer s H vs Q E hr h
  obtain ⟨p, kd, wd, rs, rfl, h, q⟩ := h
  refine ⟨_, (PSs.nox (pss_one (ps_ret (pe_cl c_unlike_ones hr (by decide) (by rfl) (pa_cons (pe_lock (pe_lc (own := [("heap", 1), ("place", 2)]) rfl sc_Points_heaps.nd (pi_values (k_fld cP.cl cP.n_kept (pv 0))) (blkOk_by (N := ["self", "heap", "place"]) (sc := d_Points_heaps.scope) (own := [("heap", 1), ("place", 2)]) (by decide +kernel)) (fun _ _ _ _ _ => (k_tup (n := 2) rfl (pgs_cons (pg_name (i := 1) sc_Points_heaps.nd rfl (Or.inl rfl)) (pgs_cons (pg_name (i := 2) sc_Points_heaps.nd rfl (Or.inl rfl)) pgs_nil)))) (fun _ _ _ _ _ => pts_nil) (fun _ _ _ _ _ => (pv 1)))) pa_nil))))), ?_⟩
  obtain ⟨dx, e⟩ := h.ob
  refine ⟨kd, _, h.kt, trivial, fun od => ⟨_, rfl, _, _, _, _, rfl, freeze h.kt e (fun z => nomatch z), lkK, _, _, _, rfl, upd_same, fun D hD => ?_⟩⟩
  have w := @walk_values kd od (kvsOf rs)
  rw [show (kvsOf rs).length = rs.length from List.length_map ..] at w
  refine lc_m rs (fun r => V.str r.1.hp) w hD (fun i H x H' y => by rw [y.1]; exact L2.Same.refl H) (fun H' s => s _ _ upd_same) (by have := h.few; omega) ?_ ?_ ?_
  · rintro i r x H1 _ hi s ⟨rfl, k, y⟩ R kk
    rw [show (kvsOf rs)[i]? = some (.inr r.1.nm, .ref r.2.1) from by unfold kvsOf; rw [List.getElem?_map, hi]; rfl] at y
    cases y
    have t := ((h.tr r (List.mem_of_getElem? hi)).frz h.kt).same s
    exact ⟨_, _, rfl, t.1, rfl, _, _, rfl, _, _, rfl, rfl, rfl, _, rfl, kk _ (L2.Same.refl _)⟩
  · rintro i r x H1 _ hi s y A B kk ⟨c, zs, e1, e2, e3, z, r1, e4, z2, r2, e5, e6, h6⟩
    exact ⟨c, zs, e1, e2, e3, z, r1, e4, z2, r2, e5, e6, kk _ _ h6⟩
  · intro H1 s1 e1
    refine ⟨s1 _ _ upd_same, D, rs.map (fun r => r.1.hp), rfl, ?_, by rw [List.length_map]; have := h.few; omega, fun l H2 s2 e2 => q l H2 ((unlock h.kt s1).trans s2) e2⟩
    rw [upd_ne (fun c => by rw [c, upd_same] at hD; cases hD), e1, List.map_map]
    rfl
def sp_Points_members (C : Addr) : Sp := fun vs H Q E => ∃ (p kd : Addr) (w : Nat) (rs : List Tri) (a : Str), vs = [.ref p, .str a] ∧ PtsR C H p kd w rs ∧ NameOk a ∧ (∀ l H', L2.Same H H' → H' l = some (.lst ((rs.filter fun r => decide (r.1.hp = a)).map fun r => V.str r.1.nm)) → Q (.ref l) H')
theorem g_Points_members (T : TX K mg) {CP : Addr} (cP : PX K CP) (D : AtM K CP "members" d_Points_members) (c_is_name : Cl P w K mg base C8.CX0 2 "is_name" sp_is_name) : Mt P w K mg base C8.CX0 3 CP "members" (sp_Points_members CP) := by
  refine mt_of cP.cl (k := 2) D sc_Points_members (fun _ _ _ _ _ _ us hl => match us, hl with | [_, _], _ => rfl) (fun vs H Q E h => by
    obtain ⟨p, kd, wd, rs, a, rfl, h, na, q⟩ := h
    rfl) ?_
  intro f cdv A outer s H vs Q E hr h
  obtain ⟨p, kd, wd, rs, a, rfl, h, na, q⟩ := h
  refine ⟨_, (PSs.nox (pss_cons (ps_if (pt_not (pt_val (pe_cl c_is_name hr (by decide) (by rfl) (pa_cons (pv 1) pa_nil))))
 (pss_one ps_never)
 pss_nil)
 (pss_one (ps_ret (pe_lock (pe_lc (own := [("name", 2), ("row", 3)]) rfl sc_Points_members.nd (pi_items (k_fld cP.cl cP.n_kept (pv 0))) (blkOk_by (N := ["self", "heap", "name", "row"]) (sc := d_Points_members.scope) (own := [("name", 2), ("row", 3)]) (by decide +kernel)) (fun _ _ _ _ _ => (k_tup (n := 2) rfl (pgs_cons (pg_name (i := 2) sc_Points_members.nd rfl (Or.inl rfl)) (pgs_cons (pg_name (i := 3) sc_Points_members.nd rfl (Or.inl rfl)) pgs_nil)))) (fun _ _ _ _ _ => (pts_one (pt_cmpR op_eq (pe_ix k_ix (pv 3) pe_int (fun _ _ => rfl)) (pv 1) (nomark _)))) (fun _ _ _ _ _ => (pv 2)))))))), ?_⟩
  refine ⟨_, rfl, a, rfl, na, fun H0 s0 => ⟨_, rfl, ifF rfl ?_⟩⟩
  have h := h.same s0
  obtain ⟨dx, e⟩ := h.ob
  refine ⟨kd, _, h.kt, trivial, fun od => ⟨_, rfl, _, _, _, _, rfl, freeze h.kt e (fun z => nomatch z), lkK, _, _, _, rfl, upd_same, fun D hD => ?_⟩⟩
  have w := @walk_items kd od (kvsOf rs)
  rw [show (kvsOf rs).length = rs.length from List.length_map ..] at w
  refine lc_fm rs (fun r => decide (r.1.hp = a)) (fun r => V.str r.1.nm) w hD (fun i H x H' y => ypair_same i H x H' y) (fun H' s => s _ _ upd_same) (by have := h.few; omega) ?_ ?_
  · rintro i r x H1 _ hi s ⟨T1, u, v, rfl, hT, rfl, y1, y2⟩ R R' k1 k2
    have g : (kvsOf rs)[i]? = some (.inr r.1.nm, .ref r.2.1) := by unfold kvsOf; rw [List.getElem?_map, hi]; rfl
    simp only [g, Option.map_some, Option.some.injEq] at y1 y2
    subst y1
    subst y2
    have t := (((h.tr r (List.mem_of_getElem? hi)).frz (od := od) h.kt).same s).same (same_upd (o := .tup [.str r.1.nm, .ref r.2.1]) hT)
    refine ⟨_, _, rfl, upd_same, rfl, _, _, rfl, _, _, rfl, rfl, rfl, _, rfl, _, true, _, _, _, rfl, rfl, t.1, at0, _, rfl, rfl, _, rfl, ?_⟩
    by_cases c : r.1.hp = a
    · exact ifT (by simp [c]) ⟨_, rfl, k1 (by simp [c]) _ (L2.Same.refl _)⟩
    · exact ifF (by simp [c]) (k2 (by simp [c]) _ (L2.Same.refl _))
  · intro H1 s1 e1
    refine ⟨s1 _ _ upd_same, q D _ (s0.trans (unlock h.kt s1)) ?_⟩
    rw [upd_ne (fun c => by rw [c, upd_same] at hD; cases hD), e1]
end PB

/-! ## DT -/
set_option Elab.async false
set_option linter.all false
set_option maxRecDepth 100000
set_option maxHeartbeats 4000000
namespace PB
open PySem PySem.Spec PyProof.Rows L2
/-! ### lists and tuples of plain things, compared -/
theorem name_strOk {z : Str} (h : NameOk z) : PyData.strOk z = true := by
  have key : ∀ c ∈ letters.cps.toList, c < 0x110000 := by decide +kernel
  unfold PyData.strOk
  rw [← Array.all_toList, List.all_eq_true]
  exact fun c hc => decide_eq_true (key c (h.2.2 c hc))
inductive Plain : V → PyData → Prop where
  | int (i : Int) : Plain (.int i) (.int i)
  | str {z : Str} (h : PyData.strOk z = true) : Plain (.str z) (.str z)
theorem plain_all {K : PySem.W.Frag} {H : Hp} : ∀ {xs : List V} {ds : List PyData}, Paired Plain xs ds → DpAll K H xs ds ∧ PyData.canLayAll0 ds = true ∧ PyData.depthAll ds = 0
  | _, _, .nil => ⟨.nil, by simp only [PyData.canLayAll0], by simp only [PyData.depthAll]⟩
  | _, _, .cons (.int i) t => by
    obtain ⟨h1, h2, h3⟩ := plain_all (K := K) (H := H) t
    exact ⟨.cons (.int i) h1, by simp only [PyData.canLayAll0, PyData.canLay0, h2, Bool.and_self], by simp only [PyData.depthAll, PyData.depth, h3, Nat.max_self]⟩
  | _, _, .cons (.str h) t => by
    obtain ⟨h1, h2, h3⟩ := plain_all (K := K) (H := H) t
    exact ⟨.cons (.str _) h1, by simp only [PyData.canLayAll0, PyData.canLay0, h, h2, Bool.and_self], by simp only [PyData.depthAll, PyData.depth, h3, Nat.max_self]⟩
theorem dp_lst {K : PySem.W.Frag} {H : Hp} {a : Addr} {xs : List V} {ds : List PyData} (e : H a = some (.lst xs)) (h : Paired Plain xs ds) : Dp K H (.ref a) (.list ds) ∧ SeqAt.shaped (.list ds) = true := by
  obtain ⟨h1, h2, h3⟩ := plain_all (K := K) (H := H) h
  exact ⟨.lst (sqL e) h1, by unfold SeqAt.shaped; simp only [PyData.canLay0, h2, PyData.depth, h3]; decide⟩
theorem dp_tup {K : PySem.W.Frag} {H : Hp} {a : Addr} {xs : List V} {ds : List PyData} (e : H a = some (.tup xs)) (h : Paired Plain xs ds) : Dp K H (.ref a) (.tuple ds) ∧ SeqAt.shaped (.tuple ds) = true := by
  obtain ⟨h1, h2, h3⟩ := plain_all (K := K) (H := H) h
  exact ⟨.tup (sqT e) h1, by unfold SeqAt.shaped; simp only [PyData.canLay0, h2, PyData.depth, h3]; decide⟩
theorem plain_ints : ∀ ns : List Int, Paired Plain (vi ns) (ns.map PyData.int)
  | [] => .nil
  | n :: ns => .cons (.int n) (plain_ints ns)
theorem plain_strs : ∀ {ss : List Str}, (∀ s ∈ ss, NameOk s) → Paired Plain (ss.map V.str) (ss.map PyData.str)
  | [], _ => .nil
  | s :: ss, h => .cons (.str (name_strOk (h s (by simp)))) (plain_strs fun x hx => h x (by simp [hx]))
theorem eqvAll_ints : ∀ a b : List Int, PyData.eqvAll (a.map PyData.int) (b.map PyData.int) = decide (a = b)
  | [], [] => by simp [PyData.eqvAll]
  | [], _ :: _ => by simp [PyData.eqvAll]
  | _ :: _, [] => by simp [PyData.eqvAll]
  | x :: a, y :: b => by
    have := eqvAll_ints a b
    simp only [List.map_cons, PyData.eqvAll, PyData.eqv, this, List.cons.injEq]
    by_cases c : x = y <;> simp [c]
theorem eqv_nil {α : Type} (f : α → PyData) : ∀ a : List α, PyData.eqv (.list (a.map f)) (.list []) = a.isEmpty
  | [] => by simp [PyData.eqv, PyData.eqvAll]
  | _ :: _ => by simp [PyData.eqv, PyData.eqvAll]
theorem eqvAll_refl_ints (a : List Int) : PyData.eqvAll (a.map PyData.int) (a.map PyData.int) = true := by rw [eqvAll_ints]; simp
end PB

/-! ## S10 -/
set_option Elab.async false
set_option linter.all false
set_option maxRecDepth 100000
set_option maxHeartbeats 4000000
namespace PB
open PySem PySem.Spec PyProof.Rows L2
variable {P : Program} {w : World} {K : PySem.W.Frag} {mg : Str → Option Value} {base : Heap}
/-! ### heaps of points -/
def sp_need_heaps : Sp := fun vs H Q E => ∃ a b : Str, vs = [.str a, .str b] ∧ NameOk a ∧ NameOk b ∧ (∀ H', L2.Same H H' → Q .non H')
theorem g_need_heaps (T : TX K mg) (D : At K mg "need_heaps" d_need_heaps) (c_is_name : Cl P w K mg base C8.CX0 2 "is_name" sp_is_name) : Cl P w K mg base C8.CX0 3 "need_heaps" sp_need_heaps := by
  refine cl_of (k := 2) D sc_need_heaps (fun _ _ _ _ _ _ us hl => match us, hl with | [_, _], _ => rfl) (fun vs H Q E h => by
    obtain ⟨a, b, rfl, na, nb, q⟩ := h
    rfl) ?_
  intro f cdv A outer s H vs Q E hr h
  obtain ⟨a, b, rfl, na, nb, q⟩ := h
  refine ⟨_, (PSs.nox (pss_one (ps_for PassesOwn.never rfl (k_row (pe_tup (pa_cons (pv 0) (pa_cons (pv 1) pa_nil)))) (pg_name (i := 2) sc_need_heaps.nd rfl (Or.inl rfl))
 (pss_one (ps_if (pt_not (pt_val (pe_cl c_is_name hr (by decide) (by rfl) (pa_cons (pv 2) pa_nil))))
 (pss_one ps_never)
 pss_nil))))), ?_⟩
  refine ⟨_, rfl, _, rfl, szl (show 2 < 100000 by decide), fun p hp => ⟨_, true, _, rfl, upd_same, fun J w => for_it w (fun i σ' H' => L2.Same H H' ∧ H' p = some (.tup [.str a, .str b]) ∧ ∃ x, σ' = [some (.str a), some (.str b), x]) ⟨same_upd hp, upd_same, _, rfl⟩ (fun i σ' H' _ z => z.2.1) ?_ ?_⟩⟩
  · rintro i x _ H1 _ hi ⟨s, e, z, rfl⟩ ⟨rfl, y⟩
    obtain ⟨c, rfl, nc⟩ : ∃ c : Str, x = .str c ∧ NameOk c := by
      have := List.mem_of_getElem? y
      simp only [List.mem_cons, List.not_mem_nil, or_false] at this
      rcases this with rfl | rfl
      · exact ⟨a, rfl, na⟩
      · exact ⟨b, rfl, nb⟩
    exact ⟨_, rfl, c, rfl, nc, fun H2 s2 => ⟨_, rfl, ifF rfl ⟨s.trans s2, s2 _ _ e, _, rfl⟩⟩⟩
  · rintro _ H1 ⟨s, e, z, rfl⟩
    exact q H1 s
def sp_need_unlike : Sp := fun vs H Q E => ∃ a b : Str, vs = [.str a, .str b] ∧ a ≠ b ∧ Q .non H
theorem g_need_unlike (T : TX K mg) (D : At K mg "need_unlike" d_need_unlike) : Cl P w K mg base C8.CX0 1 "need_unlike" sp_need_unlike := by
  refine cl_of (k := 0) D sc_need_unlike (fun _ _ _ _ _ _ us hl => match us, hl with | [_, _], _ => rfl) (fun vs H Q E h => by
    obtain ⟨a, b, rfl, n, q⟩ := h
    rfl) ?_
  intro f cdv A outer s H vs Q E hr h
  obtain ⟨a, b, rfl, n, q⟩ := h
  refine ⟨_, (PSs.nox (pss_one (ps_if (pt_cmpR op_eq (pv 0) (pv 1) (nomark _))
 (pss_one ps_never)
 pss_nil))), ?_⟩
  exact ⟨_, rfl, _, rfl, rfl, _, rfl, ifF (by simp [n]) q⟩
/-- has the heap points -/
def has (rs : List Tri) (a : Str) : Prop := ∃ r ∈ rs, r.1.hp = a
theorem empt {rs : List Tri} {a : Str} : ((rs.filter fun r => decide (r.1.hp = a)).map fun r => r.1.nm).isEmpty = true ↔ ¬ has rs a := by
  rw [List.isEmpty_iff, List.map_eq_nil_iff, List.filter_eq_nil_iff]
  constructor
  · rintro h ⟨r, hr, e⟩
    exact h r hr (by simp [e])
  · intro h r hr e
    exact h ⟨r, hr, of_decide_eq_true e⟩
theorem nm_ok {C : Addr} {H : Hp} {p kd : Addr} {w : Nat} {rs : List Tri} (h : PtsR C H p kd w rs) (f : Tri → Bool) : ∀ s ∈ (rs.filter f).map (fun r => r.1.nm), NameOk s := by
  intro s hs
  obtain ⟨r, hr, rfl⟩ := List.mem_map.mp hs
  exact (h.ok r (List.mem_filter.mp hr).1).1
/-- members(a) == [] -/
theorem mem_eq {K : PySem.W.Frag} {C : Addr} {H H1 : Hp} {p kd l m : Addr} {w : Nat} {rs : List Tri} {a : Str} (h : PtsR C H p kd w rs) (e : H1 l = some (.lst ((rs.filter fun r => decide (r.1.hp = a)).map fun r => V.str r.1.nm))) (em : H1 m = some (.lst [])) :
    ∃ d e, Dp K H1 (.ref l) d ∧ Dp K H1 (.ref m) e ∧ SeqAt.shaped d = true ∧ SeqAt.shaped e = true ∧ PyData.eqv d e = ((rs.filter fun r => decide (r.1.hp = a)).map fun r => r.1.nm).isEmpty := by
  rw [show (rs.filter fun r => decide (r.1.hp = a)).map (fun r => V.str r.1.nm) = ((rs.filter fun r => decide (r.1.hp = a)).map fun r => r.1.nm).map V.str from by rw [List.map_map]; rfl] at e
  obtain ⟨x1, x2⟩ := dp_lst (K := K) e (plain_strs (nm_ok h _))
  obtain ⟨y1, y2⟩ := dp_lst (K := K) em .nil
  exact ⟨_, _, x1, y1, x2, y2, eqv_nil _ _⟩
def sp_need_points (C : Addr) : Sp := fun vs H Q E => ∃ (p kd : Addr) (w : Nat) (rs : List Tri) (a b : Str), vs = [.ref p, .str a, .str b] ∧ PtsR C H p kd w rs ∧ NameOk a ∧ NameOk b ∧ has rs a ∧ has rs b ∧ (∀ H', L2.Same H H' → Q .non H')
theorem g_need_points (T : TX K mg) {CP : Addr} (cP : PX K CP) (D : At K mg "need_points" d_need_points) (m_members : Mt P w K mg base C8.CX0 3 CP "members" (sp_Points_members CP)) : Cl P w K mg base C8.CX0 4 "need_points" (sp_need_points CP) := by
  refine cl_of (k := 3) D sc_need_points (fun _ _ _ _ _ _ us hl => match us, hl with | [_, _, _], _ => rfl) (fun vs H Q E h => by
    obtain ⟨p, kd, wd, rs, a, b, rfl, h, na, nb, ha, hb, q⟩ := h
    rfl) ?_
  intro f cdv A outer s H vs Q E hr h
  obtain ⟨p, kd, wd, rs, a, b, rfl, h, na, nb, ha, hb, q⟩ := h
  refine ⟨_, (PSs.nox (pss_one (ps_for PassesOwn.never rfl (k_row (pe_tup (pa_cons (pv 1) (pa_cons (pv 2) pa_nil)))) (pg_name (i := 3) sc_need_points.nd rfl (Or.inl rfl))
 (pss_one (ps_if (pt_cmpR (op_eqD hr.units) (pe_mth m_members hr (by decide) (pv 0) (pa_cons (pv 3) pa_nil)) (pe_lst pa_nil) (nomark _))
 (pss_one ps_never)
 pss_nil))))), ?_⟩
  refine ⟨_, rfl, _, rfl, szl (show 2 < 100000 by decide), fun p2 hp => ⟨_, true, _, rfl, upd_same, fun J w => for_it w (fun i σ' H' => L2.Same H H' ∧ H' p2 = some (.tup [.str a, .str b]) ∧ ∃ x, σ' = [some (.ref p), some (.str a), some (.str b), x]) ⟨same_upd hp, upd_same, _, rfl⟩ (fun i σ' H' _ z => z.2.1) ?_ ?_⟩⟩
  · rintro i x _ H1 _ hi ⟨s, e, z, rfl⟩ ⟨rfl, y⟩
    obtain ⟨c, rfl, nc, hc⟩ : ∃ c : Str, x = .str c ∧ NameOk c ∧ has rs c := by
      have := List.mem_of_getElem? y
      simp only [List.mem_cons, List.not_mem_nil, or_false] at this
      rcases this with rfl | rfl
      · exact ⟨a, rfl, na, ha⟩
      · exact ⟨b, rfl, nb, hb⟩
    have h1 := h.same s
    obtain ⟨dx, ob⟩ := h1.ob
    refine ⟨_, rfl, _, _, _, rfl, ob, rfl, _, rfl, p, kd, wd, rs, c, rfl, h1, nc, fun l H2 s2 e2 => ⟨szl (show 0 < 100000 by decide), fun m hm => ?_⟩⟩
    obtain ⟨d, e', x1, x2, x3, x4, x5⟩ := mem_eq (K := K) (h1.same (s2.trans (same_upd (o := .lst []) hm))) (same_upd (o := .lst []) hm _ _ e2) upd_same
    refine ⟨d, e', x1, x2, x3, x4, _, rfl, ifF ?_ ⟨(s.trans s2).trans (same_upd hm), same_upd hm _ _ (s2 _ _ e), _, rfl⟩⟩
    rw [x5, Bool.eq_false_iff]
    exact fun z => empt.mp z hc
  · rintro _ H1 ⟨s, e, z, rfl⟩
    exact q H1 s
def inAB (a b : Str) (r : Tri) : Bool := decide (r.1.hp = a) || decide (r.1.hp = b)
def sp_both_members (C : Addr) : Sp := fun vs H Q E => ∃ (p kd : Addr) (w : Nat) (rs : List Tri) (a b : Str), vs = [.ref p, .str a, .str b] ∧ PtsR C H p kd w rs ∧ (∀ l H', L2.Same H H' → H' l = some (.lst ((rs.filter (inAB a b)).map fun r => V.str r.1.nm)) → Q (.ref l) H')
theorem inV2 (x a b : Str) : inV (.str x) [.str a, .str b] = (decide (x = a) || decide (x = b)) := by
  unfold inV
  simp only [List.any_cons, List.any_nil, Bool.or_false]
  have key : ∀ u v : Str, (u == v) = decide (v = u) := fun u v => by
    by_cases c : u = v
    · subst c
      simp
    · rw [decide_eq_false (fun z => c z.symm), beq_eq_false_iff_ne]
      exact c
  show ((a == x) || (b == x)) = _
  rw [key, key]
theorem g_both_members (T : TX K mg) {CP : Addr} (cP : PX K CP) (D : At K mg "both_members" d_both_members) (m_heap : Mt P w K mg base C8.CX0 2 CP "heap" (sp_Points_heap CP)) (m_names : Mt P w K mg base C8.CX0 1 CP "names" (sp_Points_names CP)) : Cl P w K mg base C8.CX0 3 "both_members" (sp_both_members CP) := by
  refine cl_of (k := 2) D sc_both_members (fun _ _ _ _ _ _ us hl => match us, hl with | [_, _, _], _ => rfl) (fun vs H Q E h => by
    obtain ⟨p, kd, wd, rs, a, b, rfl, h, q⟩ := h
    rfl) ?_
  intro f cdv A outer s H vs Q E hr h
  obtain ⟨p, kd, wd, rs, a, b, rfl, h, q⟩ := h
  refine ⟨_, (PSs.nox (pss_one (ps_ret (pe_lc (own := [("name", 3)]) rfl sc_both_members.nd (k_row (pe_mth0 m_names hr (by decide) (pv 0))) (blkOk_by (N := ["points", "one", "other", "name"]) (sc := d_both_members.scope) (own := [("name", 3)]) (by decide +kernel)) (fun _ _ _ _ _ => (pg_name (i := 3) sc_both_members.nd rfl (Or.inl rfl))) (fun _ _ _ _ _ => (pts_one (pt_cmpR k_in (pe_mth m_heap hr (by decide) (pv 0) (pa_cons (pv 3) pa_nil)) (pe_tup (pa_cons (pv 1) (pa_cons (pv 2) pa_nil))) (by rfl)))) (fun _ _ _ _ _ => (pv 3)))))), ?_⟩
  obtain ⟨dx, ob⟩ := h.ob
  refine ⟨_, rfl, _, _, _, rfl, ob, rfl, p, kd, wd, rs, rfl, h, fun l H1 s1 e1 => ⟨_, false, _, rfl, e1, fun J w D hD => lc_rowT rs (fun r => V.str r.1.nm) (inAB a b) (fun r => V.str r.1.nm) w hD (fun H' s => s _ _ e1) (by have := h.few; omega) (fun _ => rfl) ?_ ?_⟩⟩
  · intro r H2 R R' hr2 s2 k k'
    have h2 := (h.same s1).same s2
    obtain ⟨dx2, ob2⟩ := h2.ob
    refine ⟨_, rfl, _, _, _, rfl, ob2, rfl, _, rfl, p, kd, wd, rs, r, rfl, h2, hr2, _, rfl, _, rfl, szl (show 2 < 100000 by decide), fun p2 hp => ⟨p2, true, _, rfl, upd_same, rfl, rfl, _, rfl, ?_⟩⟩
    rw [inV2]
    by_cases c : inAB a b r = true
    · exact ifT c ⟨_, rfl, k c _ (same_upd hp)⟩
    · exact ifF (by simpa [inAB] using c) (k' (by simpa using c) _ (same_upd hp))
  · intro H2 s2 e2
    exact q D H2 (s1.trans s2) e2
def valN (ns : List Int) (o : Int) (p : List Int) : Int := dot ns p - o
/-- the places are as wide as told, and near -/
structure Laid (w : Nat) (rs : List Tri) : Prop where
  lo : 2 ≤ w
  hi : w ≤ 5
  at_ : ∀ r ∈ rs, r.1.pl.length = w ∧ Near r.1.pl
def Pair (H : Hp) (ns : List Int) (o : Int) (q : Addr) (r : Tri) : Prop := H q = some (.tup [.str r.1.nm, .int (valN ns o r.1.pl)])
def sp_walked_values (C : Addr) : Sp := fun vs H Q E => ∃ (p kd pl : Addr) (rs : List Tri) (a b : Str) (ns : List Int) (o : Int), vs = [.ref p, .str a, .str b, .ref pl] ∧ PtsR C H p kd ns.length rs ∧ Laid ns.length rs ∧ NameOk a ∧ NameOk b ∧ a ≠ b ∧ PlAt H pl ns o ∧ PlOk ns ∧
  (∀ l qs H', L2.Same H H' → H' l = some (.lst (qs.map V.ref)) → Paired (Pair H' ns o) qs (rs.filter (inAB a b)) → Q (.ref l) H')
theorem g_walked_values (T : TX K mg) {CP : Addr} (cP : PX K CP) (D : At K mg "walked_values" d_walked_values) (c_both_members : Cl P w K mg base C8.CX0 3 "both_members" (sp_both_members CP)) (c_is_plane : Cl P w K mg base C8.CX0 3 "is_plane" sp_is_plane) (c_need_heaps : Cl P w K mg base C8.CX0 3 "need_heaps" sp_need_heaps) (c_need_unlike : Cl P w K mg base C8.CX0 1 "need_unlike" sp_need_unlike) (c_value_by : Cl P w K mg base C8.CX0 2 "value_by" sp_value_by) (m_dims : Mt P w K mg base C8.CX0 1 CP "dims" (sp_Points_dims CP)) (m_place : Mt P w K mg base C8.CX0 2 CP "place" (sp_Points_place CP)) : Cl P w K mg base C8.CX0 4 "walked_values" (sp_walked_values CP) := by
  refine cl_of (k := 3) D sc_walked_values (fun _ _ _ _ _ _ us hl => match us, hl with | [_, _, _, _], _ => rfl) (fun vs H Q E h => by
    obtain ⟨p, kd, pl, rs, a, b, ns, o, rfl, h, ld, na, nb, nab, hp, ok, q⟩ := h
    rfl) ?_
  intro f cdv A outer s H vs Q E hr h
  obtain ⟨p, kd, pl, rs, a, b, ns, o, rfl, h, ld, na, nb, nab, hp, ok, q⟩ := h
  refine ⟨_, (PSs.nox (pss_cons (ps_expr (pe_cl c_need_heaps hr (by decide) (by rfl) (pa_cons (pv 1) (pa_cons (pv 2) pa_nil))))
 (pss_cons (ps_if (pt_not (pt_val (pe_cl c_is_plane hr (by decide) (by rfl) (pa_cons (pe_mth0 m_dims hr (by decide) (pv 0)) (pa_cons (pv 3) pa_nil)))))
 (pss_one ps_never)
 pss_nil)
 (pss_cons (ps_expr (pe_cl c_need_unlike hr (by decide) (by rfl) (pa_cons (pv 1) (pa_cons (pv 2) pa_nil))))
 (pss_one (ps_ret (pe_lc (own := [("name", 4)]) rfl sc_walked_values.nd (k_row (pe_cl c_both_members hr (by decide) (by rfl) (pa_cons (pv 0) (pa_cons (pv 1) (pa_cons (pv 2) pa_nil))))) (blkOk_by (N := ["points", "one", "other", "plane", "name"]) (sc := d_walked_values.scope) (own := [("name", 4)]) (by decide +kernel)) (fun _ _ _ _ _ => (pg_name (i := 4) sc_walked_values.nd rfl (Or.inl rfl))) (fun _ _ _ _ _ => pts_nil) (fun _ _ _ _ _ => (pe_tup (pa_cons (pv 4) (pa_cons (pe_cl c_value_by hr (by decide) (by rfl) (pa_cons (pv 3) (pa_cons (pe_mth m_place hr (by decide) (pv 0) (pa_cons (pv 4) pa_nil)) pa_nil))) pa_nil))))))))))), ?_⟩
  refine ⟨_, rfl, _, rfl, a, b, rfl, na, nb, fun H1 s1 => ?_⟩
  have h1 := h.same s1
  obtain ⟨dx, ob⟩ := h1.ob
  refine ⟨_, rfl, _, _, _, rfl, ob, rfl, p, kd, _, rs, rfl, h1, _, rfl, pl, ns, o, _, rfl, hp.same s1, by have := ok.hi; omega, fun H2 s2 => ⟨_, rfl, ifF (by rw [ok.any]; simp) ?_⟩⟩
  refine ⟨_, rfl, _, rfl, a, b, rfl, nab, ?_⟩
  have h2 := h1.same s2
  refine ⟨_, rfl, _, rfl, _, rfl, p, kd, _, rs, a, b, rfl, h2, fun l H3 s3 e3 => ⟨_, false, _, rfl, e3, fun J w D hD => lc_tup (rs.filter (inAB a b)) (fun r => V.str r.1.nm) (fun r q H' => Pair H' ns o q r) w hD (fun H' s => s _ _ e3) (Nat.lt_of_le_of_lt (List.length_filter_le _ _) (by have := h.few; omega)) (fun _ => rfl) (fun _ _ _ _ z s => s _ _ z) ?_ ?_ ?_⟩⟩
  · intro x q H4 l l' z e
    unfold Pair
    rw [upd_ne (fun z2 => by unfold Pair at z; rw [z2, e] at z; cases z)]
    exact z
  · intro r H4 R hr4 s4 k
    have hm := (List.mem_filter.mp hr4).1
    have h4 := (h2.same s3).same s4
    obtain ⟨dx4, ob4⟩ := h4.ob
    have la := ld.at_ r hm
    refine ⟨_, rfl, _, rfl, _, rfl, _, _, _, rfl, ob4, rfl, _, rfl, p, kd, _, rs, r, rfl, h4, hm, pl, r.2.2, true, ns, r.1.pl, o, rfl, (((hp.same s1).same s2).same s3).same s4, (h4.tr r hm).2, la.1.symm, by have := ok.hi; omega, ok.wn, fun y hy => W.small (la.2 y hy), fun H5 s5 => ⟨szl (show 2 < 100000 by decide), fun t ht => k t _ (s5.trans (same_upd ht)) upd_same⟩⟩
  · intro qs H4 s4 pz e4
    exact q D qs H4 (((s1.trans s2).trans s3).trans s4) e4 pz
def sides (a : Str) (ns : List Int) (o : Int) (r : Tri) : Bool := !decide (valN ns o r.1.pl = 0) && (decide (0 < valN ns o r.1.pl) == decide (r.1.hp = a))
def parts (rs : List Tri) (a b : Str) (ns : List Int) (o : Int) : Bool := (rs.filter (inAB a b)).all (sides a ns o)
def sp_does_part (C : Addr) : Sp := fun vs H Q E => ∃ (p kd pl : Addr) (rs : List Tri) (a b : Str) (ns : List Int) (o : Int), vs = [.ref p, .str a, .str b, .ref pl] ∧ PtsR C H p kd ns.length rs ∧ Laid ns.length rs ∧ NameOk a ∧ NameOk b ∧ a ≠ b ∧ PlAt H pl ns o ∧ PlOk ns ∧
  (∀ H', L2.Same H H' → Q (.bl (parts rs a b ns o)) H')
theorem paired_get {α β : Type} {F : α → β → Prop} : ∀ {l1 : List α} {l2 : List β} {i : Nat} {x : α}, Paired F l1 l2 → l1[i]? = some x → ∃ y, l2[i]? = some y ∧ F x y
  | _, _, _, _, .nil, h => by simp at h
  | _, _, 0, _, .cons r _, h => by
    simp only [List.getElem?_cons_zero, Option.some.injEq] at h
    subst h
    exact ⟨_, rfl, r⟩
  | _, _, i + 1, _, .cons _ t, h => by
    obtain ⟨y, h1, h2⟩ := paired_get (i := i) t (by simpa using h)
    exact ⟨y, by simpa using h1, h2⟩
theorem g_does_part (T : TX K mg) {CP : Addr} (cP : PX K CP) (D : At K mg "does_part" d_does_part) (c_walked_values : Cl P w K mg base C8.CX0 4 "walked_values" (sp_walked_values CP)) (m_heap : Mt P w K mg base C8.CX0 2 CP "heap" (sp_Points_heap CP)) : Cl P w K mg base C8.CX0 5 "does_part" (sp_does_part CP) := by
  refine cl_of (k := 4) D sc_does_part (fun _ _ _ _ _ _ us hl => match us, hl with | [_, _, _, _], _ => rfl) (fun vs H Q E h => by
    obtain ⟨p, kd, pl, rs, a, b, ns, o, rfl, h, ld, na, nb, nab, hp, ok, q⟩ := h
    rfl) ?_
  intro f cdv A outer s H vs Q E hr h
  obtain ⟨p, kd, pl, rs, a, b, ns, o, rfl, h, ld, na, nb, nab, hp, ok, q⟩ := h
  refine ⟨_, (PSs.nox (pss_cons (ps_for PassesOwn.never rfl (k_row (pe_cl c_walked_values hr (by decide) (by rfl) (pa_cons (pv 0) (pa_cons (pv 1) (pa_cons (pv 2) (pa_cons (pv 3) pa_nil)))))) (k_tup (n := 2) rfl (pgs_cons (pg_name (i := 4) sc_does_part.nd rfl (Or.inl rfl)) (pgs_cons (pg_name (i := 5) sc_does_part.nd rfl (Or.inl rfl)) pgs_nil)))
 (pss_one (ps_if (PW.pt (pw_or (pt_cmpR op_eq (pv 5) pe_int (nomark _)) (pw_or1 (pt_cmpR op_ne (pe_cmpR op_gt (pv 5) pe_int (nomark _)) (pe_cmpR op_eq (pe_mth m_heap hr (by decide) (pv 0) (pa_cons (pv 4) pa_nil)) (pv 1) (nomark _)) (nomark _)))))
 (pss_one (ps_ret pe_bl))
 pss_nil)))
 (pss_one (ps_ret pe_bl)))), ?_⟩
  refine ⟨_, rfl, _, rfl, _, rfl, _, rfl, p, kd, pl, rs, a, b, ns, o, rfl, h, ld, na, nb, nab, hp, ok, fun l qs H1 s1 e1 pz => ⟨_, false, _, rfl, e1, fun J w => ?_⟩⟩
  have hlen := Paired.length pz
  refine for_it w (fun i σ' H' => L2.Same H1 H' ∧ ((rs.filter (inAB a b)).take i).all (sides a ns o) = true ∧ ∃ x y, σ' = [some (.ref p), some (.str a), some (.str b), some (.ref pl), x, y]) ⟨L2.Same.refl _, rfl, _, _, rfl⟩ (fun i σ' H' _ z => z.1 _ _ e1) ?_ ?_
  · rintro i x _ H2 _ hi ⟨s2, c, x1, x2, rfl⟩ ⟨rfl, y⟩
    rw [List.getElem?_map] at y
    obtain ⟨t, ht, rfl⟩ := Option.map_eq_some_iff.mp y
    obtain ⟨r, hr2, pr⟩ := paired_get pz ht
    have hm := (List.mem_filter.mp (List.mem_of_getElem? hr2)).1
    refine ⟨t, _, rfl, s2 _ _ pr, rfl, _, _, rfl, _, _, rfl, rfl, ?_⟩
    have step : ((rs.filter (inAB a b)).take (i + 1)).all (sides a ns o) = sides a ns o r := by
      rw [take_snoc hr2, List.all_append, c, Bool.true_and]
      simp
    have full : sides a ns o r = false → parts rs a b ns o = false := fun z => by
      unfold parts
      rw [Bool.eq_false_iff]
      intro z2
      rw [List.all_eq_true] at z2
      rw [z2 r (List.mem_of_getElem? hr2)] at z
      cases z
    refine ⟨_, rfl, rfl, _, rfl, ?_⟩
    by_cases c0 : valN ns o r.1.pl = 0
    · refine ifT (by simp [c0]) (ifT rfl ?_)
      show Q (.bl false) _
      rw [← full (by unfold sides; simp [c0])]
      exact q _ (s1.trans s2)
    · refine ifF (by simp [c0]) ?_
      have h2 := (h.same s1).same s2
      obtain ⟨dx2, ob2⟩ := h2.ob
      refine ⟨_, rfl, _, _, rfl, rfl, _, rfl, _, _, _, rfl, ob2, rfl, _, rfl, p, kd, _, rs, r, rfl, h2, hm, _, rfl, rfl, rfl, _, rfl, ?_⟩
      by_cases c1 : sides a ns o r = true
      · refine ifF ?_ ⟨s2, by rw [step]; exact c1, _, _, rfl⟩
        unfold sides at c1
        simp only [Bool.and_eq_true, beq_iff_eq] at c1
        rw [Bool.eq_false_iff]
        intro z
        simp only [Bool.not_eq_true', decide_eq_false_iff_not] at z
        apply z
        rw [c1.2]
        simp
      · refine ifT ?_ ?_
        · simp only [Bool.not_eq_true', decide_eq_false_iff_not]
          intro z
          apply c1
          unfold sides
          simp only [Bool.and_eq_true, beq_iff_eq]
          refine ⟨by simp [c0], ?_⟩
          have := V.bl.inj z
          rw [this]
          simp
        · show Q (.bl false) _
          rw [← full (by simpa using c1)]
          exact q _ (s1.trans s2)
  · rintro _ H2 ⟨s2, c, x1, x2, rfl⟩
    show Q (.bl true) H2
    rw [show true = parts rs a b ns o from by
      unfold parts
      rw [← c, List.length_map, hlen, List.take_length]]
    exact q H2 (s1.trans s2)
end PB

/-! ## S11 -/
set_option Elab.async false
set_option linter.all false
set_option maxRecDepth 100000
set_option maxHeartbeats 4000000
namespace PB
open PySem PySem.Spec PyProof.Rows L2
variable {P : Program} {w : World} {K : PySem.W.Frag} {mg : Str → Option Value} {base : Heap}
def vals (rs : List Tri) (a : Str) (ns : List Int) (o : Int) : List Int := (rs.filter fun r => decide (r.1.hp = a)).map fun r => valN ns o r.1.pl
def IsMin (l : Int) (xs : List Int) : Prop := l ∈ xs ∧ ∀ y, y ∈ xs → l ≤ y
def IsMax (g : Int) (xs : List Int) : Prop := g ∈ xs ∧ ∀ y, y ∈ xs → y ≤ g
theorem filt2 {rs : List Tri} {a b c : Str} (h : c = a ∨ c = b) : ((rs.filter (inAB a b)).filter fun r => decide (r.1.hp = c)) = rs.filter fun r => decide (r.1.hp = c) := by
  rw [List.filter_filter]
  refine List.filter_congr fun r _ => ?_
  by_cases e : r.1.hp = c
  · rcases h with rfl | rfl
    · simp [inAB, e]
    · simp [inAB, e]
  · simp [e]
/-- what is tame about a plane and its points -/
structure Tame (ns : List Int) (o : Int) (rs : List Tri) : Prop where
  v : ∀ r ∈ rs, (valN ns o r.1.pl).natAbs < 2 ^ 400
  w : W (dot ns ns)
  p : 0 < dot ns ns
def gcdI (x y : Int) : Int := ((Int.gcd x y : Nat) : Int)
/-- a ratio in the heap -/
def RatAt (H : Hp) (r : Addr) (x y : Int) : Prop := H r = some (.tup [.int (x / gcdI x y), .int (y / gcdI x y)])
def sp_gap_by (C : Addr) : Sp := fun vs H Q E => ∃ (p kd pl : Addr) (rs : List Tri) (a b : Str) (ns : List Int) (o : Int), vs = [.ref p, .str a, .str b, .ref pl] ∧ PtsR C H p kd ns.length rs ∧ Laid ns.length rs ∧ NameOk a ∧ NameOk b ∧ a ≠ b ∧ PlAt H pl ns o ∧ PlOk ns ∧ Tame ns o rs ∧ has rs a ∧ has rs b ∧
  (parts rs a b ns o = false → ∀ H', L2.Same H H' → Q .non H') ∧
  (parts rs a b ns o = true → ∀ l g t r H', IsMin l (vals rs a ns o) → IsMax g (vals rs b ns o) → L2.Same H H' → H' t = some (.tup [.int l, .int g, .ref r]) → RatAt H' r ((l - g) * (l - g)) (dot ns ns) → Q (.ref t) H')
theorem vals_pos {rs : List Tri} {a : Str} {ns : List Int} {o : Int} (h : has rs a) : 0 < (vals rs a ns o).length := by
  obtain ⟨r, hr, e⟩ := h
  unfold vals
  rw [List.length_map]
  exact List.length_pos_of_mem (List.mem_filter.mpr ⟨hr, by simp [e]⟩)
theorem vals_mem {rs : List Tri} {a : Str} {ns : List Int} {o x : Int} (h : x ∈ vals rs a ns o) : ∃ r ∈ rs, valN ns o r.1.pl = x := by
  obtain ⟨r, hr, rfl⟩ := List.mem_map.mp h
  exact ⟨r, (List.mem_filter.mp hr).1, rfl⟩
theorem g_gap_by (T : TX K mg) {CP : Addr} (cP : PX K CP) (D : At K mg "gap_by" d_gap_by) (c_does_part : Cl P w K mg base C8.CX0 5 "does_part" (sp_does_part CP)) (c_dot_of : Cl P w K mg base C8.CX0 1 "dot_of" sp_dot_of) (c_need_points : Cl P w K mg base C8.CX0 4 "need_points" (sp_need_points CP)) (c_ratio_of : Cl P w K mg base C8.CX0 3 "ratio_of" sp_ratio_of) (c_walked_values : Cl P w K mg base C8.CX0 4 "walked_values" (sp_walked_values CP)) (m_heap : Mt P w K mg base C8.CX0 2 CP "heap" (sp_Points_heap CP)) : Cl P w K mg base C8.CX0 6 "gap_by" (sp_gap_by CP) := by
  refine cl_of (k := 5) D sc_gap_by (fun _ _ _ _ _ _ us hl => match us, hl with | [_, _, _, _], _ => rfl) (fun vs H Q E h => by
    obtain ⟨p, kd, pl, rs, a, b, ns, o, rfl, h, ld, na, nb, nab, hp, ok, tm, ha, hb, qf, qt⟩ := h
    rfl) ?_
  intro f cdv A outer s H vs Q E hr h
  obtain ⟨p, kd, pl, rs, a, b, ns, o, rfl, h, ld, na, nb, nab, hp, ok, tm, ha, hb, qf, qt⟩ := h
  refine ⟨_, (PSs.nox (pss_cons (ps_set (i := 4) sc_gap_by.nd rfl (Or.inl rfl) (pe_cl c_walked_values hr (by decide) (by rfl) (pa_cons (pv 0) (pa_cons (pv 1) (pa_cons (pv 2) (pa_cons (pv 3) pa_nil))))))
 (pss_cons (ps_expr (pe_cl c_need_points hr (by decide) (by rfl) (pa_cons (pv 0) (pa_cons (pv 1) (pa_cons (pv 2) pa_nil)))))
 (pss_cons (ps_if (pt_not (pt_val (pe_cl c_does_part hr (by decide) (by rfl) (pa_cons (pv 0) (pa_cons (pv 1) (pa_cons (pv 2) (pa_cons (pv 3) pa_nil)))))))
 (pss_one (ps_ret pe_non))
 pss_nil)
 (pss_cons (ps_set (i := 5) sc_gap_by.nd rfl (Or.inl rfl) (pe_callB (k_min rfl) (by rfl) T.b_min bt_min (pa_cons (pe_lc (own := [("name", 8), ("value", 9)]) rfl sc_gap_by.nd (k_row (pv 4)) (blkOk_by (N := ["points", "one", "other", "plane", "values", "least", "greatest", "apart", "name", "value"]) (sc := d_gap_by.scope) (own := [("name", 8), ("value", 9)]) (by decide +kernel)) (fun _ _ _ _ _ => (k_tup (n := 2) rfl (pgs_cons (pg_name (i := 8) sc_gap_by.nd rfl (Or.inl rfl)) (pgs_cons (pg_name (i := 9) sc_gap_by.nd rfl (Or.inl rfl)) pgs_nil)))) (fun _ _ _ _ _ => (pts_one (pt_cmpR op_eq (pe_mth m_heap hr (by decide) (pv 0) (pa_cons (pv 8) pa_nil)) (pv 1) (nomark _)))) (fun _ _ _ _ _ => (pv 9))) pa_nil)))
 (pss_cons (ps_set (i := 6) sc_gap_by.nd rfl (Or.inl rfl) (pe_callB (k_max rfl) (by rfl) T.b_max bt_max (pa_cons (pe_lc (own := [("name", 8), ("value", 9)]) rfl sc_gap_by.nd (k_row (pv 4)) (blkOk_by (N := ["points", "one", "other", "plane", "values", "least", "greatest", "apart", "name", "value"]) (sc := d_gap_by.scope) (own := [("name", 8), ("value", 9)]) (by decide +kernel)) (fun _ _ _ _ _ => (k_tup (n := 2) rfl (pgs_cons (pg_name (i := 8) sc_gap_by.nd rfl (Or.inl rfl)) (pgs_cons (pg_name (i := 9) sc_gap_by.nd rfl (Or.inl rfl)) pgs_nil)))) (fun _ _ _ _ _ => (pts_one (pt_cmpR op_eq (pe_mth m_heap hr (by decide) (pv 0) (pa_cons (pv 8) pa_nil)) (pv 2) (nomark _)))) (fun _ _ _ _ _ => (pv 9))) pa_nil)))
 (pss_cons (ps_set (i := 7) sc_gap_by.nd rfl (Or.inl rfl) (pe_op op_sub (pv 5) (pv 6)))
 (pss_one (ps_ret (pe_tup (pa_cons (pv 5) (pa_cons (pv 6) (pa_cons (pe_cl c_ratio_of hr (by decide) (by rfl) (pa_cons (pe_op op_mulW (pv 7) (pv 7)) (pa_cons (pe_cl c_dot_of hr (by decide) (by rfl) (pa_cons (pe_ix k_ix (pv 3) pe_int (fun _ _ => rfl)) (pa_cons (pe_ix k_ix (pv 3) pe_int (fun _ _ => rfl)) pa_nil))) pa_nil))) pa_nil))))))))))))), ?_⟩
  refine ⟨_, rfl, _, rfl, _, rfl, _, rfl, p, kd, pl, rs, a, b, ns, o, rfl, h, ld, na, nb, nab, hp, ok, fun l qs H1 s1 e1 pz => ?_⟩
  refine ⟨_, rfl, _, rfl, _, rfl, p, kd, _, rs, a, b, rfl, h.same s1, na, nb, ha, hb, fun H2 s2 => ?_⟩
  refine ⟨_, rfl, _, rfl, _, rfl, _, rfl, p, kd, pl, rs, a, b, ns, o, rfl, (h.same s1).same s2, ld, na, nb, nab, (hp.same s1).same s2, ok, fun H3 s3 => ⟨_, rfl, ?_⟩⟩
  have s13 := (s1.trans s2).trans s3
  by_cases c : parts rs a b ns o = true
  · refine ifF (by rw [c]; rfl) ?_
    have qt := qt c
    have hlen := Paired.length pz
    have walkIt : ∀ (J : It) (G : Hp → Prop) (c : Str), c = a ∨ c = b → Walk J (qs.map V.ref).length G (YAt (qs.map V.ref)) → ∀ (σ : L2.St) (H4 : Hp), (∀ H5, L2.Same H4 H5 → G H5) → L2.Same H3 H4 → ∀ (D : Addr) (Qd : Hp → Prop), H4 D = none → (∀ H5, L2.Same H4 H5 → H5 D = some (.lst (vi (vals rs c ns o))) → Qd H5) → ∀ (tt : TT) (te : TE) (g1 g2 : Nat),
        (∀ (r : Tri) (H5 : Hp) (R : Bool → Hp → Prop), r ∈ rs → L2.Same H3 H5 → R (decide (r.1.hp = c)) H5 → tt (((wipe σ [g1, g2]).set g1 (some (.str r.1.nm))).set g2 (some (.int (valN ns o r.1.pl)))) H5 R) → (∀ (r : Tri) (H5 : Hp) (R : VK), R (.int (valN ns o r.1.pl)) H5 → te (((wipe σ [g1, g2]).set g1 (some (.str r.1.nm))).set g2 (some (.int (valN ns o r.1.pl)))) H5 R) →
        (∀ x y, wipe (((wipe σ [g1, g2]).set g1 (some x)).set g2 (some y)) [g1, g2] = wipe σ [g1, g2]) →
        ∃ W : Nat → Nat → Hp → Prop, (∃ m, W 0 m (upd H4 D (.lst []))) ∧ ∀ i m H, W i m H →
          (J.stop i H ∧ Qd H) ∨ (J.go i H ∧ ∃ Nx : Hp → Prop, (∀ H', Nx H' → ∃ m', m' < m ∧ W (i + 1) m' H') ∧ ∀ x H', J.yld i H x H' → gT 2 (gCons (gName g1) (gCons (gName g2) gNil)) x (wipe σ [g1, g2]) H' fun σ2 H2 => wipe σ2 [g1, g2] = wipe σ [g1, g2] ∧ tt σ2 H2 fun b H3 =>
            if b = true then te σ2 H3 fun y H4 => ∃ acc, H4 D = some (.lst acc) ∧ acc.length < sizeLine ∧ Nx (upd H4 D (.lst (acc ++ [y]))) else Nx H3) := by
      intro J G c hc w σ H4 hG s4 D Qd hD hd tt te g1 g2 ht he hw
      rw [List.length_map, hlen] at w
      refine lc_fm (rs.filter (inAB a b)) (fun r => decide (r.1.hp = c)) (fun r => .int (valN ns o r.1.pl)) w hD (fun i H x H' y => yat_same i H x H' y) hG (Nat.lt_of_le_of_lt (List.length_filter_le _ _) (by have := h.few; omega)) ?_ ?_
      · rintro i r x H5 _ hi s5 ⟨rfl, y⟩ R R' k k'
        rw [List.getElem?_map] at y
        obtain ⟨t, ht2, rfl⟩ := Option.map_eq_some_iff.mp y
        obtain ⟨r', hr2, pr⟩ := paired_get pz ht2
        rw [hi] at hr2
        obtain rfl := Option.some.inj hr2
        have hm := (List.mem_filter.mp (List.mem_of_getElem? hi)).1
        have s35 := s4.trans s5
        refine ⟨t, _, rfl, s35 _ _ (s3 _ _ (s2 _ _ pr)), rfl, _, _, rfl, _, _, rfl, rfl, hw _ _, ht r _ _ hm s35 ?_⟩
        by_cases e : r.1.hp = c
        · exact ifT (decide_eq_true e) (he r _ _ (k (decide_eq_true e) _ (L2.Same.refl _)))
        · exact ifF (decide_eq_false e) (k' (decide_eq_false e) _ (L2.Same.refl _))
      · intro H5 s5 e5
        refine hd H5 s5 ?_
        rw [e5, filt2 hc]
        unfold vals
        rw [vi_map]
    refine ⟨_, rfl, _, false, _, rfl, s3 _ _ (s2 _ _ e1), fun J w D hD => walkIt J _ a (.inl rfl) w _ _ (fun H5 s5 => s5 _ _ (s3 _ _ (s2 _ _ e1))) (L2.Same.refl _) D _ hD ?_ _ _ 8 9 ?_ ?_ (fun _ _ => rfl)⟩
    · intro H4 s4 e4
      refine ⟨_, _, rfl, e4, vals_pos ha, fun l ml hl => ?_⟩
      refine ⟨_, rfl, _, false, _, rfl, s4 _ _ (s3 _ _ (s2 _ _ e1)), fun J w D hD => walkIt J _ b (.inr rfl) w _ _ (fun H5 s5 => s5 _ _ (s4 _ _ (s3 _ _ (s2 _ _ e1)))) s4 D _ hD ?_ _ _ 8 9 ?_ ?_ (fun _ _ => rfl)⟩
      · intro H5 s5 e5
        refine ⟨_, _, rfl, e5, vals_pos hb, fun g mg hg => ?_⟩
        have wa : W (l - g) := by
          obtain ⟨r1, h1, rfl⟩ := vals_mem ml
          obtain ⟨r2, h2, rfl⟩ := vals_mem mg
          have b1 := tm.v r1 h1
          have b2 := tm.v r2 h2
          refine W.of (k := 402) ?_ (by decide) (by decide)
          rw [show (2 : Nat) ^ 402 = 2 ^ 400 * 4 from by rw [← Nat.pow_add (m := 400) (n := 2)]]
          generalize 2 ^ 400 = z at *
          omega
        have s5' := ((s13.trans s4).trans s5)
        obtain ⟨nr, p0, p1⟩ := hp.same s5'
        refine ⟨_, rfl, _, rfl, _, _, rfl, rfl, _, rfl, _, rfl, _, rfl, _, rfl, _, _, rfl, rfl, wa.mul wa, ?_⟩
        refine ⟨_, rfl, _, true, _, _, _, rfl, rfl, p0, at0, _, rfl, _, true, _, _, _, rfl, rfl, p0, at0, nr, nr, true, true, ns, ns, rfl, p1, p1, rfl, by have := ok.hi; omega, ok.wn, ok.wn, fun H6 s6 => ⟨_, _, rfl, tm.p, tm.w, fun r H7 s7 e7 => ⟨szl (show 3 < 100000 by decide), fun t ht => qt l g t r _ ⟨ml, hl⟩ ⟨mg, hg⟩ (((s5'.trans s6).trans s7).trans (same_upd ht)) upd_same (same_upd ht _ _ e7)⟩⟩⟩
      · intro r H5 R hm s5 k
        have h5 := (((h.same s1).same s2).same s3).same s5
        obtain ⟨dx, ob⟩ := h5.ob
        exact ⟨_, rfl, _, _, _, rfl, ob, rfl, _, rfl, p, kd, _, rs, r, rfl, h5, hm, _, rfl, rfl, _, rfl, by simpa using k⟩
      · intro r H5 R k
        exact ⟨_, rfl, k⟩
    · intro r H5 R hm s5 k
      have h5 := (((h.same s1).same s2).same s3).same s5
      obtain ⟨dx, ob⟩ := h5.ob
      exact ⟨_, rfl, _, _, _, rfl, ob, rfl, _, rfl, p, kd, _, rs, r, rfl, h5, hm, _, rfl, rfl, _, rfl, by simpa using k⟩
    · intro r H5 R k
      exact ⟨_, rfl, k⟩
  · exact ifT (by rw [Bool.eq_false_iff.mpr c]; rfl) (qf (by simpa using c) H3 s13)
def sp_law_width (C : Addr) : Sp := fun vs H Q E => ∃ (p kd two pl : Addr) (rs : List Tri) (a b : Str) (ns : List Int) (o : Int), vs = [.ref p, .ref two, .ref pl] ∧ H two = some (.lst [.str a, .str b]) ∧ PtsR C H p kd ns.length rs ∧ Laid ns.length rs ∧ NameOk a ∧ NameOk b ∧ a ≠ b ∧ PlAt H pl ns o ∧ PlOk ns ∧ Tame ns o rs ∧
  ((¬ has rs a ∨ ¬ has rs b ∨ parts rs a b ns o = false) → ∀ H', L2.Same H H' → Q .non H') ∧
  (has rs a → has rs b → parts rs a b ns o = true → ∀ l g r H', IsMin l (vals rs a ns o) → IsMax g (vals rs b ns o) → L2.Same H H' → RatAt H' r ((l - g) * (l - g)) (dot ns ns) → Q (.ref r) H')
theorem g_law_width (T : TX K mg) {CP : Addr} (cP : PX K CP) (D : At K mg "_law_width" d_law_width) (c_gap_by : Cl P w K mg base C8.CX0 6 "gap_by" (sp_gap_by CP)) (m_members : Mt P w K mg base C8.CX0 3 CP "members" (sp_Points_members CP)) : Cl P w K mg base C8.CX0 7 "_law_width" (sp_law_width CP) := by
  refine cl_of (k := 6) D sc_law_width (fun _ _ _ _ _ _ us hl => match us, hl with | [_, _, _], _ => rfl) (fun vs H Q E h => by
    obtain ⟨p, kd, two, pl, rs, a, b, ns, o, rfl, h2, h, ld, na, nb, nab, hp, ok, tm, qf, qt⟩ := h
    rfl) ?_
  intro f cdv A outer s H vs Q E hr h
  obtain ⟨p, kd, two, pl, rs, a, b, ns, o, rfl, h2, h, ld, na, nb, nab, hp, ok, tm, qf, qt⟩ := h
  refine ⟨_, (PSs.nox (pss_cons (ps_if (PW.pt (pw_or (pt_cmpR (op_eqD hr.units) (pe_mth m_members hr (by decide) (pv 0) (pa_cons (pe_ix k_ix (pv 1) pe_int (fun _ _ => rfl)) pa_nil)) (pe_lst pa_nil) (nomark _)) (pw_or1 (pt_cmpR (op_eqD hr.units) (pe_mth m_members hr (by decide) (pv 0) (pa_cons (pe_ix k_ix (pv 1) pe_int (fun _ _ => rfl)) pa_nil)) (pe_lst pa_nil) (nomark _)))))
 (pss_one (ps_ret pe_non))
 pss_nil)
 (pss_cons (ps_set (i := 3) sc_law_width.nd rfl (Or.inl rfl) (pe_cl c_gap_by hr (by decide) (by rfl) (pa_cons (pv 0) (pa_cons (pe_ix k_ix (pv 1) pe_int (fun _ _ => rfl)) (pa_cons (pe_ix k_ix (pv 1) pe_int (fun _ _ => rfl)) (pa_cons (pv 2) pa_nil))))))
 (pss_one (ps_ret (pe_ifExp (pt_cmpR op_isN (pv 3) pe_non (nomark _)) (pv 3) (pe_ix k_ix (pv 3) pe_int (fun _ _ => rfl)))))))), ?_⟩
  obtain ⟨dx, ob⟩ := h.ob
  refine ⟨_, rfl, _, _, _, rfl, ob, rfl, _, rfl, _, false, _, _, _, rfl, rfl, h2, at0, p, kd, _, rs, a, rfl, h, na, fun l1 H1 s1 e1 => ⟨szl (show 0 < 100000 by decide), fun m1 hm1 => ?_⟩⟩
  obtain ⟨d, e', x1, x2, x3, x4, x5⟩ := mem_eq (K := K) ((h.same s1).same (same_upd (o := .lst []) hm1)) (same_upd (o := .lst []) hm1 _ _ e1) upd_same
  have s1' := s1.trans (same_upd (o := .lst []) hm1)
  refine ⟨d, e', x1, x2, x3, x4, _, rfl, ?_⟩
  rw [x5]
  by_cases ca : has rs a
  · refine ifF (by rw [Bool.eq_false_iff]; exact fun z => empt.mp z ca) ?_
    have h1 := h.same s1'
    obtain ⟨dx1, ob1⟩ := h1.ob
    refine ⟨_, rfl, _, _, _, rfl, ob1, rfl, _, rfl, _, false, _, _, _, rfl, rfl, s1' _ _ h2, at1, p, kd, _, rs, b, rfl, h1, nb, fun l2 H2 s2 e2 => ⟨szl (show 0 < 100000 by decide), fun m2 hm2 => ?_⟩⟩
    obtain ⟨d, e', x1, x2, x3, x4, x5⟩ := mem_eq (K := K) ((h1.same s2).same (same_upd (o := .lst []) hm2)) (same_upd (o := .lst []) hm2 _ _ e2) upd_same
    have s2' := (s1'.trans s2).trans (same_upd (o := .lst []) hm2)
    refine ⟨d, e', x1, x2, x3, x4, _, rfl, ?_⟩
    rw [x5]
    by_cases cb : has rs b
    · refine ifF (by rw [Bool.eq_false_iff]; exact fun z => empt.mp z cb) ?_
      refine ⟨_, rfl, _, rfl, _, false, _, _, _, rfl, rfl, s2' _ _ h2, at0, _, rfl, _, false, _, _, _, rfl, rfl, s2' _ _ h2, at1, _, rfl, p, kd, pl, rs, a, b, ns, o, rfl, h.same s2', ld, na, nb, nab, hp.same s2', ok, tm, ca, cb, ?_, ?_⟩
      · intro cp H3 s3
        exact ⟨_, rfl, rfl, _, rfl, ifT rfl ⟨_, rfl, qf (.inr (.inr cp)) H3 (s2'.trans s3)⟩⟩
      · intro cp l g t r H3 il ig s3 e3 er
        exact ⟨_, rfl, rfl, _, rfl, ifF rfl ⟨_, rfl, _, true, _, _, _, rfl, rfl, e3, at2, qt ca cb cp l g r H3 il ig (s2'.trans s3) er⟩⟩
    · exact ifT (empt.mpr cb) (qf (.inr (.inl cb)) _ s2')
  · exact ifT (empt.mpr ca) (ifT rfl (qf (.inl ca) _ s1'))
end PB

/-! ## CM5 -/
set_option Elab.async false
set_option linter.all false
set_option maxRecDepth 100000
set_option maxHeartbeats 4000000
namespace PB
open PySem PySem.Spec PyProof.Rows L2
/-- items drawn from the box, over a range -/
theorem lc_rb {lo : Int} {n : Nat} (b : Addr) (E : Nat → V → Prop) {te : TE} {a : Nat} {σ : L2.St} {H1 : Hp} {D : Addr} {Qd : Hp → Prop} (hD : H1 D = none) (hB : BoxAt H1 b) (hsz : n < 100000) (hw : ∀ x, wipe ((wipe σ [a]).set a (some x)) [a] = wipe σ [a])
    (turn : ∀ i H, i < n → But b H1 H → BoxAt H b → ∀ (R : VK), (∀ z H4, But b H H4 → BoxAt H4 b → E i z → R z H4) → te ((wipe σ [a]).set a (some (.int (lo + (i : Nat))))) H R)
    (hd : ∀ ys H', But b H1 H' → BoxAt H' b → ys.length = n → (∀ i y, ys[i]? = some y → E i y) → H' D = some (.lst ys) → Qd H') :
    ∃ W : Nat → Nat → Hp → Prop, (∃ m, W 0 m (upd H1 D (.lst []))) ∧ ∀ i m H, W i m H →
      ((Itr lo n).stop i H ∧ Qd H) ∨ ((Itr lo n).go i H ∧ ∃ Nx : Hp → Prop, (∀ H', Nx H' → ∃ m', m' < m ∧ W (i + 1) m' H') ∧ ∀ x H', (Itr lo n).yld i H x H' → gName a x (wipe σ [a]) H' fun σ2 H2 => wipe σ2 [a] = wipe σ [a] ∧ tYes σ2 H2 fun b H3 =>
        if b = true then te σ2 H3 fun y H4 => ∃ acc, H4 D = some (.lst acc) ∧ acc.length < sizeLine ∧ Nx (upd H4 D (.lst (acc ++ [y]))) else Nx H3) := by
  refine lc_bx b E (@walk_range lo n) hD hB (fun i H x H' y => yfn_same i H x H' y) (fun _ _ _ => trivial) hsz ?_ (fun i x H H' _ _ y A B k h => k _ _ h) hd
  rintro i x H H' hi hb hx ⟨rfl, rfl⟩ R k
  exact ⟨hw _, turn i H' hi hb hx R k⟩
/-- .. over a row -/
theorem lc_xb {α : Type} {J : It} {G : Hp → Prop} (b : Addr) (xs : List α) (hx : α → V) (E : α → V → Prop) (w : Walk J (xs.map hx).length G (YAt (xs.map hx))) {te : TE} {a : Nat} {σ : L2.St} {H1 : Hp} {D : Addr} {Qd : Hp → Prop} (hD : H1 D = none) (hB : BoxAt H1 b) (hG : ∀ H', But b H1 H' → BoxAt H' b → G H') (hsz : xs.length < 100000)
    (hw : ∀ x, wipe ((wipe σ [a]).set a (some x)) [a] = wipe σ [a])
    (turn : ∀ x H, x ∈ xs → But b H1 H → BoxAt H b → ∀ (R : VK), (∀ z H4, But b H H4 → BoxAt H4 b → E x z → R z H4) → te ((wipe σ [a]).set a (some (hx x))) H R)
    (hd : ∀ ys H', But b H1 H' → BoxAt H' b → ys.length = xs.length → (∀ (i : Nat) y x, ys[i]? = some y → xs[i]? = some x → E x y) → H' D = some (.lst ys) → Qd H') :
    ∃ W : Nat → Nat → Hp → Prop, (∃ m, W 0 m (upd H1 D (.lst []))) ∧ ∀ i m H, W i m H →
      (J.stop i H ∧ Qd H) ∨ (J.go i H ∧ ∃ Nx : Hp → Prop, (∀ H', Nx H' → ∃ m', m' < m ∧ W (i + 1) m' H') ∧ ∀ x H', J.yld i H x H' → gName a x (wipe σ [a]) H' fun σ2 H2 => wipe σ2 [a] = wipe σ [a] ∧ tYes σ2 H2 fun b H3 =>
        if b = true then te σ2 H3 fun y H4 => ∃ acc, H4 D = some (.lst acc) ∧ acc.length < sizeLine ∧ Nx (upd H4 D (.lst (acc ++ [y]))) else Nx H3) := by
  have hlen : (xs.map hx).length = xs.length := List.length_map ..
  refine lc_bx b (fun i y => ∀ x, xs[i]? = some x → E x y) w hD hB (fun i H x H' y => yat_same i H x H' y) hG (by omega) ?_ (fun i x H H' _ _ y A B k h => k _ _ h) (fun ys H' h1 h2 h3 h4 h5 => hd ys H' h1 h2 (by omega) (fun i y x hy hx2 => h4 i y hy x hx2) h5)
  rintro i x H H' hi hb hx2 ⟨rfl, y⟩ R k
  rw [List.getElem?_map] at y
  obtain ⟨z, hz, rfl⟩ := Option.map_eq_some_iff.mp y
  refine ⟨hw _, turn z H' (List.mem_of_getElem? hz) hb hx2 R fun u H4 b4 x4 e => k u H4 b4 x4 fun z2 hz2 => ?_⟩
  rw [hz] at hz2
  exact Option.some.inj hz2 ▸ e
/-- no draw, over a range -/
theorem lc_rp {lo : Int} {n : Nat} (f : Nat → V) {te : TE} {a : Nat} {σ : L2.St} {H1 : Hp} {D : Addr} {Qd : Hp → Prop} (hD : H1 D = none) (hsz : n < 100000) (hw : ∀ x, wipe ((wipe σ [a]).set a (some x)) [a] = wipe σ [a])
    (turn : ∀ i H, i < n → L2.Same H1 H → ∀ (R : VK), (∀ H4, L2.Same H H4 → R (f i) H4) → te ((wipe σ [a]).set a (some (.int (lo + (i : Nat))))) H R)
    (hd : ∀ H', L2.Same H1 H' → H' D = some (.lst ((List.range n).map f)) → Qd H') :
    ∃ W : Nat → Nat → Hp → Prop, (∃ m, W 0 m (upd H1 D (.lst []))) ∧ ∀ i m H, W i m H →
      ((Itr lo n).stop i H ∧ Qd H) ∨ ((Itr lo n).go i H ∧ ∃ Nx : Hp → Prop, (∀ H', Nx H' → ∃ m', m' < m ∧ W (i + 1) m' H') ∧ ∀ x H', (Itr lo n).yld i H x H' → gName a x (wipe σ [a]) H' fun σ2 H2 => wipe σ2 [a] = wipe σ [a] ∧ tYes σ2 H2 fun b H3 =>
        if b = true then te σ2 H3 fun y H4 => ∃ acc, H4 D = some (.lst acc) ∧ acc.length < sizeLine ∧ Nx (upd H4 D (.lst (acc ++ [y]))) else Nx H3) := by
  have w := @walk_range lo n
  refine lc_m (List.range n) f (by rw [List.length_range]; exact w) hD (fun i H x H' y => yfn_same i H x H' y) (fun _ _ => trivial) (by rw [List.length_range]; exact hsz) ?_ (fun i x y H H' _ _ z A B k h => k _ _ h) hd
  rintro i j x H H' hi hs ⟨rfl, rfl⟩ R k
  obtain ⟨hlt, rfl⟩ := List.getElem?_eq_some_iff.mp hi
  rw [List.getElem_range] at k
  rw [List.length_range] at hlt
  exact ⟨hw _, turn i H' hlt hs R k⟩
theorem choose {α : Type} {P : α → Prop} (f : α → V) : ∀ {ys : List V}, (∀ y ∈ ys, ∃ c, P c ∧ y = f c) → ∃ cs : List α, ys = cs.map f ∧ ∀ c ∈ cs, P c
  | [], _ => ⟨[], rfl, fun _ h => nomatch h⟩
  | y :: ys, h => by
    obtain ⟨c, pc, rfl⟩ := h y (by simp)
    obtain ⟨cs, rfl, k⟩ := choose f (ys := ys) fun z hz => h z (by simp [hz])
    exact ⟨c :: cs, rfl, fun z hz => by
      rcases List.mem_cons.mp hz with rfl | hz
      · exact pc
      · exact k z hz⟩
theorem choose_i {α : Type} {P : α → Prop} (f : α → V) {ys : List V} (h : ∀ (i : Nat) y, ys[i]? = some y → ∃ c, P c ∧ y = f c) : ∃ cs : List α, ys = cs.map f ∧ ∀ c ∈ cs, P c :=
  choose f fun y hy => by
    obtain ⟨i, hi⟩ := List.mem_iff_getElem?.mp hy
    exact h i y hi
theorem nodup_rng {α : Type} (f : Nat → α) (n : Nat) (h : ∀ i j, i < n → j < n → f i = f j → i = j) : ((List.range n).map f).Nodup := by
  rw [List.nodup_iff_pairwise_ne, List.pairwise_iff_getElem]
  intro i j hi hj hij z
  simp only [List.getElem_map, List.getElem_range] at z
  rw [List.length_map, List.length_range] at hi hj
  have := h i j hi hj z
  omega
theorem But.same2 {b : Addr} {H H1 H2 : Hp} (e : But b H H1) (s : L2.Same H1 H2) : But b H H2 := fun a o n h => s _ _ (e a o n h)
theorem same_but2 {b : Addr} {H H1 H2 : Hp} (s : L2.Same H H1) (e : But b H1 H2) : But b H H2 := fun a o n h => e a o n (s _ _ h)
/-- what was free may be written -/
theorem But.wr {b l : Addr} {o : HO} {H H1 : Hp} (e : But b H H1) (f : H l = none) : But b H (upd H1 l o) := fun a u n h => by
  rw [upd_ne (ne_of_none h f)]
  exact e a u n h
/-! ### letters -/
open SX
def ABC : List Nat := (List.range 26).map (97 + ·)
theorem abc_eq : letters.cps.toList = ABC := by decide +kernel
theorem abc_mem {c : Nat} : c ∈ ABC ↔ 97 ≤ c ∧ c < 123 := by
  unfold ABC
  rw [List.mem_map]
  constructor
  · rintro ⟨k, hk, rfl⟩
    rw [List.mem_range] at hk
    omega
  · intro h
    exact ⟨c - 97, List.mem_range.mpr (by omega), by omega⟩
theorem abc_at {d : Int} (h : 0 ≤ d) (h2 : d < 26) : atI letters.cps.toList d = some (97 + d.toNat) := by
  obtain ⟨n, rfl⟩ := Int.eq_ofNat_of_zero_le h
  have hn : n < 26 := by omega
  rw [abc_eq, atI_nat (by unfold ABC; simp; omega)]
  unfold ABC
  simp
theorem nameS {l : List Nat} (h1 : 1 ≤ l.length) (h8 : l.length ≤ 8) (h : ∀ c ∈ l, c ∈ ABC) : NameOk (S l) := by
  refine ⟨by rw [S_len]; exact h1, by rw [S_len]; exact h8, fun c hc => ?_⟩
  rw [abc_eq]
  exact h c (by simpa using hc)
theorem joinL_nil : ∀ ps : List (List Nat), TL.joinL [] ps = ps.flatten
  | [] => rfl
  | [p] => by simp [TL.joinL]
  | p :: q :: r => by
    have := joinL_nil (q :: r)
    simp only [TL.joinL, this, List.nil_append, List.flatten_cons]
theorem join1 (cs : List Nat) : Txt.join ("" : Str) (cs.map fun c => S [c]) = S cs := by
  have e : ("" : Str) = S [] := by decide +kernel
  rw [e, show cs.map (fun c => S [c]) = (cs.map fun c => [c]).map S from by rw [List.map_map]; rfl, join_S, joinL_nil]
  congr 1
  induction cs with
  | nil => rfl
  | cons c cs ih =>
    rw [List.map_cons, List.flatten_cons]
    simp [ih]
theorem sum1 (cs : List Nat) : ((cs.map fun c => S [c]).map (·.length)).sum = cs.length := by
  induction cs with
  | nil => rfl
  | cons c cs ih =>
    rw [List.map_cons, List.map_cons, List.sum_cons, ih, S_len]
    simp
    omega
end PB

/-! ## S12 -/
set_option Elab.async false
set_option linter.all false
set_option maxRecDepth 100000
set_option maxHeartbeats 4000000
namespace PB
open PySem PySem.Spec PyProof.Rows L2
variable {P : Program} {w : World} {K : PySem.W.Frag} {mg : Str → Option Value} {base : Heap}
open SX
theorem len_letters : letters.length = 26 := by decide +kernel
theorem BoxAt.ne2 {H : Hp} {b l : Addr} {xs : List V} (h : BoxAt H b) (e : H l = some (.lst xs)) (n : xs.length ≠ 3) : l ≠ b := fun q => by
  obtain ⟨x, y, z, h⟩ := h
  rw [q, h] at e
  cases e
  exact n rfl
def words8 : List Str := ["points", "put", "drop", "mark", "plane", "heap", "none", "left"]
theorem words_ok : ∀ s ∈ words8, NameOk s := by
  intro s hs
  have key : ∀ s ∈ words8, 1 ≤ s.length ∧ s.length ≤ 8 ∧ ∀ c ∈ s.cps.toList, c ∈ letters.cps.toList := by decide +kernel
  exact key s hs
theorem words_inj : ∀ i, i < 8 → ∀ j, j < 8 → words8[i]? = words8[j]? → i = j := by decide +kernel
/-- the sign of the k-th name -/
def chr7 (first : Int) (k : Nat) : Nat := 97 + ((first + 7 * (k : Int)) % 26).toNat
theorem chr7_inj {first : Int} {i j : Nat} (hi : i < 26) (hj : j < 26) (h : chr7 first i = chr7 first j) : i = j := by
  unfold chr7 at h
  omega
theorem chr7_abc (first : Int) (k : Nat) : chr7 first k ∈ ABC := by
  rw [abc_mem]
  unfold chr7
  omega
def Sig (way : Int) (cs : List Nat) (short first : Int) (j : Nat) (s : Str) : Prop := if way = 2 then s = S (cs.take short.toNat ++ [chr7 first j]) else ∃ tl, s = S (chr7 first j :: tl)
theorem tyL {K : PySem.W.Frag} {H : Hp} {l : Addr} {xs : List V} (e : H l = some (.lst xs)) : tyV K "list" (.ref l) H := .inl ⟨rfl, _, sqL e⟩
theorem if_and {t1 t2 : TT} {ta tb : TS} {D : Ends} {σ : L2.St} {H : Hp} (c1 c2 : Bool) (h1 : ∀ Q : Bool → Hp → Prop, Q c1 H → t1 σ H Q) (h2 : ∀ Q : Bool → Hp → Prop, Q c2 H → t2 σ H Q)
    (ha : c1 = true → c2 = true → ta D σ H) (hb : tb D σ H) : tIfS (tAnd t1 t2) ta tb D σ H := by
  refine h1 _ ?_
  cases c1 with
  | false => exact hb
  | true =>
    refine h2 _ ?_
    cases c2 with
    | false => exact hb
    | true => exact ha rfl rfl
def sp_law_names : Sp := fun vs H Q E => ∃ (b : Addr) (m : Nat), vs = [.ref b, .int (m : Nat)] ∧ BoxAt H b ∧ m ≤ 24 ∧ (∀ l H' (ss : List Str), But b H H' → BoxAt H' b → l ≠ b → ss.length = m → (∀ s ∈ ss, NameOk s) → ss.Nodup → H' l = some (.lst (ss.map V.str)) → Q (.ref l) H')
theorem g_law_names (T : TX K mg) (D : At K mg "_law_names" d_law_names) (c_law_take : Cl P w K mg base C8.CX0 1 "_law_take" sp_law_take) : Cl P w K mg base C8.CX0 2 "_law_names" sp_law_names := by
  refine cl_of (k := 1) D sc_law_names (fun _ _ _ _ _ _ us hl => match us, hl with | [_, _], _ => rfl) (fun vs H Q E h => by
    obtain ⟨b, m, rfl, hb, hm, q⟩ := h
    rfl) ?_
  intro f cdv A outer s H vs Q E hr h
  obtain ⟨b, m, rfl, hb, hm, q⟩ := h
  refine ⟨_, (PSs.nox (pss_cons (ps_set (i := 2) sc_law_names.nd rfl (Or.inr rfl) pe_str)
 (pss_cons (ps_set (i := 3) sc_law_names.nd rfl (Or.inr rfl) (pe_cl c_law_take hr (by decide) (by rfl) (pa_cons (pv 0) (pa_cons pe_int pa_nil))))
 (pss_cons (ps_set (i := 4) sc_law_names.nd rfl (Or.inl rfl) (pe_cl c_law_take hr (by decide) (by rfl) (pa_cons (pv 0) (pa_cons pe_int pa_nil))))
 (pss_cons (ps_set (i := 5) sc_law_names.nd rfl (Or.inr rfl) (pe_join pe_str (pe_lc (own := [("_law_k", 9)]) rfl sc_law_names.nd (pi_range1 rfl T.b_range (pa_cons pe_int pa_nil)) (blkOk_by (N := ["_law_box_here", "_law_many", "_law_letters", "_law_first", "_law_way", "_law_base_here", "_law_words", "_law_found", "_law_short", "_law_k", "_law_sign", "_law_tail", "_law_j"]) (sc := d_law_names.scope) (own := [("_law_k", 9)]) (by decide +kernel)) (fun _ _ _ _ _ => (pg_name (i := 9) sc_law_names.nd rfl (Or.inl rfl))) (fun _ _ _ _ _ => pts_nil) (fun _ _ _ _ _ => (pe_ix ix_str (pv 2) (pe_cl c_law_take hr (by decide) (by rfl) (pa_cons (pv 0) (pa_cons pe_int pa_nil))) (fun _ _ => rfl))))))
 (pss_cons (ps_if (PW.pt (pw_and (pt_cmpR op_eq (pv 4) pe_int (nomark _)) (pw_and1 (pt_cmpR op_lt (pv 1) pe_int (nomark _)))))
 (pss_cons (ps_set (i := 6) sc_law_names.nd rfl (Or.inr rfl) (pe_lst (pa_cons pe_str (pa_cons pe_str (pa_cons pe_str (pa_cons pe_str (pa_cons pe_str (pa_cons pe_str (pa_cons pe_str (pa_cons pe_str pa_nil))))))))))
 (pss_one (ps_ret (pe_lc (own := [("_law_k", 9)]) rfl sc_law_names.nd (pi_range1 rfl T.b_range (pa_cons (pv 1) pa_nil)) (blkOk_by (N := ["_law_box_here", "_law_many", "_law_letters", "_law_first", "_law_way", "_law_base_here", "_law_words", "_law_found", "_law_short", "_law_k", "_law_sign", "_law_tail", "_law_j"]) (sc := d_law_names.scope) (own := [("_law_k", 9)]) (by decide +kernel)) (fun _ _ _ _ _ => (pg_name (i := 9) sc_law_names.nd rfl (Or.inl rfl))) (fun _ _ _ _ _ => pts_nil) (fun _ _ _ _ _ => (pe_ix k_ix (pv 6) (pe_op op_mod (pe_op op_add (pv 3) (pv 9)) pe_int) (fun _ _ => rfl)))))))
 pss_nil)
 (pss_cons (ps_if (PW.pt (pw_and (pt_cmpR op_eq (pv 4) pe_int (nomark _)) (pw_and1 (pt_cmpR op_lt (pv 1) pe_int (nomark _)))))
 (pss_one (ps_ret (pe_lc (own := [("_law_k", 9)]) rfl sc_law_names.nd (pi_range1 rfl T.b_range (pa_cons (pv 1) pa_nil)) (blkOk_by (N := ["_law_box_here", "_law_many", "_law_letters", "_law_first", "_law_way", "_law_base_here", "_law_words", "_law_found", "_law_short", "_law_k", "_law_sign", "_law_tail", "_law_j"]) (sc := d_law_names.scope) (own := [("_law_k", 9)]) (by decide +kernel)) (fun _ _ _ _ _ => (pg_name (i := 9) sc_law_names.nd rfl (Or.inl rfl))) (fun _ _ _ _ _ => pts_nil) (fun _ _ _ _ _ => (pe_slice sl_str (pv 5) po_none (po_some (pe_op op_add pe_int (pe_op op_mod (pe_op op_add (pv 3) (pv 9)) pe_int))))))))
 pss_nil)
 (pss_cons (ps_set (i := 7) sc_law_names.nd rfl (Or.inl rfl) (pe_lst pa_nil))
 (pss_cons (ps_set (i := 8) sc_law_names.nd rfl (Or.inl rfl) (pe_cl c_law_take hr (by decide) (by rfl) (pa_cons (pv 0) (pa_cons pe_int pa_nil))))
 (pss_cons (ps_for PassesOwn.never rfl (pi_range1 rfl T.b_range (pa_cons (pv 1) pa_nil)) (pg_name (i := 9) sc_law_names.nd rfl (Or.inl rfl))
 (pss_cons (ps_set (i := 10) sc_law_names.nd rfl (Or.inl rfl) (pe_ix ix_str (pv 2) (pe_op op_mod (pe_op op_add (pv 3) (pe_op op_mul pe_int (pv 9))) pe_int) (fun _ _ => rfl)))
 (pss_cons (ps_set (i := 11) sc_law_names.nd rfl (Or.inl rfl) (pe_join pe_str (pe_lc (own := [("_law_j", 12)]) rfl sc_law_names.nd (pi_range1 rfl T.b_range (pa_cons (pe_cl c_law_take hr (by decide) (by rfl) (pa_cons (pv 0) (pa_cons pe_int pa_nil))) pa_nil)) (blkOk_by (N := ["_law_box_here", "_law_many", "_law_letters", "_law_first", "_law_way", "_law_base_here", "_law_words", "_law_found", "_law_short", "_law_k", "_law_sign", "_law_tail", "_law_j"]) (sc := d_law_names.scope) (own := [("_law_j", 12)]) (by decide +kernel)) (fun _ _ _ _ _ => (pg_name (i := 12) sc_law_names.nd rfl (Or.inl rfl))) (fun _ _ _ _ _ => pts_nil) (fun _ _ _ _ _ => (pe_ix ix_str (pv 2) (pe_cl c_law_take hr (by decide) (by rfl) (pa_cons (pv 0) (pa_cons pe_int pa_nil))) (fun _ _ => rfl))))))
 (pss_one (ps_expr (pe_bm PySem.F.plainAttrs_list PySem.F.slot_list_append PySem.F.type_list_append mt_append (pv 7) (pa_cons (pe_ix k_ix (pe_lst (pa_cons (pe_op op_add_str (pv 10) (pv 11)) (pa_cons (pe_op op_add_str (pe_slice sl_str (pv 5) po_none (po_some (pv 8))) (pv 10)) pa_nil))) (pe_callTy call_int1 (by rfl) T.b_int bt_int (pa_cons (pe_cmpR op_eq (pv 4) pe_int (nomark _)) pa_nil)) (fun _ _ => rfl)) pa_nil)))))))
 (pss_one (ps_ret (pv 7))))))))))))), ?_⟩
  refine ⟨_, rfl, b, 26, rfl, hb, by decide, W.small (by decide), fun first H1 f0 f1 b1 x1 => ?_⟩
  refine ⟨_, rfl, b, 4, rfl, x1, by decide, W.small (by decide), fun way H2 w0 w1 b2 x2 => ?_⟩
  refine ⟨⟨_, rfl⟩, _, rfl, by decide, by decide, fun D hD => lc_rb b (fun _ v => ∃ c, c ∈ ABC ∧ v = .str (S [c])) hD x2 (by decide) (fun _ => rfl) ?_ ?_⟩
  · intro i H3 hi b3 x3 R k
    exact ⟨_, rfl, _, rfl, b, 26, rfl, x3, by decide, W.small (by decide), fun d H4 d0 d1 b4 x4 => ⟨letters, d, _, rfl, rfl, szl (by rw [len_letters]; decide), abc_at d0 d1, k _ _ b4 x4 ⟨_, abc_mem.mpr (by omega), rfl⟩⟩⟩
  intro ys H3 b3 x3 hl hy eD
  obtain ⟨cs, rfl, hcs⟩ := choose_i (fun c => V.str (S [c])) hy
  rw [List.length_map] at hl
  have hl8 : cs.length = 8 := hl
  refine ⟨"", D, cs.map (fun c => S [c]), rfl, rfl, .inl (sqL (by rw [eD, List.map_map]; rfl)), ?_, ?_⟩
  · rw [sum1, List.length_map, hl8]
    decide +kernel
  rw [join1]
  have bb := (b1.trans b2).trans b3
  dsimp only [gName, tSeq, tNext]
  refine if_and (decide (V.int way = V.int 0)) (decide ((m : Int) < 9)) (fun Q q => ⟨_, rfl, rfl, _, rfl, q⟩) (fun Q q => ⟨_, rfl, _, _, rfl, rfl, _, rfl, q⟩) (fun cw cm => ?_) ?_
  · have cm := of_decide_eq_true cm
    refine ⟨szl (show 8 < 100000 by decide), fun wl hw => ⟨_, rfl, _, rfl, by omega, by omega, fun D2 hD2 => ?_⟩⟩
    have ew : upd H3 wl (.lst (words8.map V.str)) wl = some (.lst (words8.map V.str)) := upd_same
    have nw : wl ≠ b := x3.ne hw
    refine lc_rp (fun k => V.str (words8.getD ((first + (k : Int)) % 8).toNat "")) hD2 (by omega) (fun _ => rfl) ?_ ?_
    · intro i H4 hi s4 R k
      have hx : (0 : Int) ≤ (first + (0 + (i : Int))) % 8 ∧ (first + (0 + (i : Int))) % 8 < 8 := by omega
      refine ⟨_, rfl, _, rfl, _, rfl, _, _, rfl, rfl, _, _, rfl, rfl, (by decide : (0 : Int) < 8), wl, false, words8.map V.str, _, _, rfl, rfl, s4 _ _ ew, ?_, k _ (L2.Same.refl _)⟩
      obtain ⟨n, hn⟩ := Int.eq_ofNat_of_zero_le hx.1
      have hn8 : n < 8 := by omega
      rw [show first + (i : Int) = first + (0 + (i : Int)) from by omega]
      rw [hn, atI_nat (by rw [List.length_map]; exact hn8), List.getElem_map]
      congr 2
      show words8[n] = words8.getD n ""
      rw [List.getD_eq_getElem?_getD, List.getElem?_eq_getElem (show n < words8.length from hn8)]
      rfl
    · intro H4 s4 e4
      have s34 := (same_upd (o := .lst (words8.map V.str)) hw).trans s4
      refine q D2 H4 ((List.range m).map fun k : Nat => words8.getD ((first + (k : Int)) % 8).toNat "") (bb.same2 s34) (x3.same s34) ((x3.same (same_upd hw)).ne hD2) (by simp) ?_ ?_ ?_
      · intro s hs
        obtain ⟨k, hk, rfl⟩ := List.mem_map.mp hs
        refine words_ok _ ?_
        have : ((first + (k : Int)) % 8).toNat < words8.length := by show _ < 8; omega
        rw [List.getD_eq_getElem?_getD, List.getElem?_eq_getElem this]
        exact List.getElem_mem _
      · refine nodup_rng _ _ fun i j hi hj z => ?_
        have hi8 : ((first + (i : Int)) % 8).toNat < words8.length := by show _ < 8; omega
        have hj8 : ((first + (j : Int)) % 8).toNat < words8.length := by show _ < 8; omega
        have := words_inj _ hi8 _ hj8 (by
          rw [List.getD_eq_getElem?_getD, List.getD_eq_getElem?_getD, List.getElem?_eq_getElem hi8, List.getElem?_eq_getElem hj8] at z
          rw [List.getElem?_eq_getElem hi8, List.getElem?_eq_getElem hj8]
          exact congrArg some z)
        omega
      · rw [e4, List.map_map]
        rfl
  dsimp only [gName, tSeq, tNext]
  refine if_and (decide (V.int way = V.int 1)) (decide ((m : Int) < 9)) (fun Q q => ⟨_, rfl, rfl, _, rfl, q⟩) (fun Q q => ⟨_, rfl, _, _, rfl, rfl, _, rfl, q⟩) (fun cw cm => ?_) ?_
  · have cm := of_decide_eq_true cm
    refine ⟨_, rfl, _, rfl, by omega, by omega, fun D2 hD2 => ?_⟩
    refine lc_rp (fun k => V.str (S (cs.take (1 + (first + (k : Int)) % 8).toNat))) hD2 (by omega) (fun _ => rfl) ?_ ?_
    · intro i H4 hi s4 R k
      refine ⟨_, rfl, _, rfl, _, rfl, _, _, rfl, rfl, _, _, rfl, rfl, (by decide : (0 : Int) < 8), _, _, rfl, rfl, _, rfl, _, rfl, szl (by rw [S_len]; omega), ?_⟩
      rw [C8.cutS_slice, slice_to (by omega)]
      rw [show (1 : Int) + (first + (0 + (i : Int))) % 8 = 1 + (first + (i : Int)) % 8 from by omega]
      exact k _ (L2.Same.refl _)
    · intro H4 s4 e4
      refine q D2 H4 ((List.range m).map fun k : Nat => S (cs.take (1 + (first + (k : Int)) % 8).toNat)) (bb.same2 s4) (x3.same s4) (x3.ne hD2) (by simp) ?_ ?_ ?_
      · intro s hs
        obtain ⟨k, hk, rfl⟩ := List.mem_map.mp hs
        refine nameS ?_ ?_ fun c hc => hcs c (List.mem_of_mem_take hc)
        · rw [List.length_take]
          omega
        · rw [List.length_take]
          omega
      · refine nodup_rng _ _ fun i j hi hj z => ?_
        have := congrArg List.length (S_inj z)
        rw [List.length_take, List.length_take] at this
        omega
      · rw [e4, List.map_map]
        rfl
  refine ⟨szl (show 0 < 100000 by decide), fun F hF => ?_⟩
  have x4 := x3.upd (o := .lst []) (x3.ne hF)
  refine ⟨_, rfl, b, 8, rfl, x4, by decide, W.small (by decide), fun short H4 h0 h1 b5 x5 => ?_⟩
  have nF : F ≠ b := x3.ne hF
  have fF : H F = none := But.free bb nF hF
  have e5 : H4 F = some (.lst []) := b5 _ _ nF upd_same
  have bb5 : But b H H4 := (bb.wr fF).trans b5
  refine ⟨_, rfl, _, rfl, by omega, by omega, ?_⟩
  have hmm : ((m : Int)).toNat = m := Int.toNat_natCast m
  rw [hmm]
  refine for_range (fun i σ' H' => But b H H' ∧ BoxAt H' b ∧ (∃ ss : List Str, ss.length = i ∧ (∀ s ∈ ss, NameOk s) ∧ (∀ (j : Nat) s, ss[j]? = some s → Sig way cs short first j s) ∧ H' F = some (.lst (ss.map V.str))) ∧
    ∃ z1 z2 z3, σ' = [some (.ref b), some (.int m), some (.str letters), some (.int first), some (.int way), some (.str (S cs)), none, some (.ref F), some (.int short), z1, z2, z3, none])
    ⟨bb5, x5, ⟨[], rfl, fun _ h => (List.not_mem_nil h).elim, fun _ _ h => by simp at h, e5⟩, _, _, _, rfl⟩ ?_ ?_
  · rintro i _ H6 hi ⟨b6, x6, ⟨ss, hs1, hs2, hs3, e6⟩, z1, z2, z3, rfl⟩
    have ec : 97 + ((first + 7 * (0 + (i : Int))) % 26).toNat = chr7 first i := by
      unfold chr7
      rw [Int.zero_add]
    refine ⟨_, rfl, _, rfl, _, rfl, _, _, rfl, rfl, .inl ⟨by decide, by decide⟩, _, _, rfl, rfl, _, _, rfl, rfl, (by decide : (0 : Int) < 26), letters, _, _, rfl, rfl, szl (by rw [len_letters]; decide), abc_at (by omega) (by omega), ?_⟩
    rw [ec]
    refine ⟨⟨_, rfl⟩, _, rfl, b, 8, rfl, x6, by decide, W.small (by decide), fun tn H7 t0 t1 b7 x7 => ⟨_, rfl, by omega, by omega, fun D2 hD2 => lc_rb b (fun _ v => ∃ c, c ∈ ABC ∧ v = .str (S [c])) hD2 x7 (by omega) (fun _ => rfl) ?_ ?_⟩⟩
    · intro i H8 hi b8 x8 R k
      exact ⟨_, rfl, _, rfl, b, 26, rfl, x8, by decide, W.small (by decide), fun d H9 d0 d1 b9 x9 => ⟨letters, d, _, rfl, rfl, szl (by rw [len_letters]; decide), abc_at d0 d1, k _ _ b9 x9 ⟨_, abc_mem.mpr (by omega), rfl⟩⟩⟩
    intro ys H8 b8 x8 hl hy eD
    obtain ⟨tl, rfl, htl⟩ := choose_i (fun c => V.str (S [c])) hy
    rw [List.length_map] at hl
    refine ⟨"", D2, tl.map (fun c => S [c]), rfl, rfl, .inl (sqL (by rw [eD, List.map_map]; rfl)), ?_, ?_⟩
    · rw [sum1, List.length_map, show (("" : Str)).length = 0 from by decide +kernel]
      omega
    rw [join1]
    have e8 : H8 F = some (.lst (ss.map V.str)) := (b7.trans b8) _ _ nF e6
    refine ⟨_, rfl, ?_, ?_⟩
    · exact tyL e8
    have hsh : (S cs).length = 8 := by rw [S_len]; exact hl8
    refine ⟨_, rfl, _, rfl, _, _, rfl, rfl, ?_, _, rfl, _, rfl, _, rfl, _, rfl, szl (by omega), _, rfl, _, _, rfl, rfl, ?_, szl (show 2 < 100000 by decide), fun pr hpr => ?_⟩
    · rw [S_len, S_len]
      exact szl (by simp; omega)
    · rw [C8.cutS_slice, slice_to h0, S_len, S_len, List.length_take]
      exact szl (by simp; omega)
    rw [C8.cutS_slice, slice_to h0, S_cat, S_cat]
    refine ⟨_, rfl, rfl, .inr ⟨_, rfl, ?_⟩⟩
    have fin : ∀ (s : Str), NameOk s → Sig way cs short first i s → rAppend (.ref F) [.str s] (upd H8 pr (.lst [.str (S ([chr7 first i] ++ tl)), .str (S (cs.take short.toNat ++ [chr7 first i]))])) (fun _ H' => But b H H' ∧ BoxAt H' b ∧ (∃ ss : List Str, ss.length = i + 1 ∧ (∀ s ∈ ss, NameOk s) ∧ (∀ (j : Nat) s, ss[j]? = some s → Sig way cs short first j s) ∧ H' F = some (.lst (ss.map V.str)))) := by
      intro s hs sg
      have bA : But b H (upd H8 pr (.lst [.str (S ([chr7 first i] ++ tl)), .str (S (cs.take short.toNat ++ [chr7 first i]))])) := ((b6.trans b7).trans b8).same2 (same_upd hpr)
      refine ⟨F, ss.map V.str, .str s, rfl, rfl, same_upd hpr _ _ e8, sz_small (by rw [List.length_map]; omega), bA.wr fF, (x8.same (same_upd hpr)).upd nF, ss ++ [s], by rw [List.length_append, hs1]; rfl, ?_, ?_, by rw [upd_same, List.map_append]; rfl⟩
      · intro u hu
        rcases List.mem_append.mp hu with hu | hu
        · exact hs2 u hu
        · rw [List.mem_singleton.mp hu]
          exact hs
      · intro j u hu
        by_cases hj : j < ss.length
        · rw [List.getElem?_append_left hj] at hu
          exact hs3 j u hu
        · rw [List.getElem?_append_right (Nat.le_of_not_lt hj)] at hu
          by_cases hj2 : j - ss.length = 0
          · rw [hj2] at hu
            cases hu
            rw [show j = i from by omega]
            exact sg
          · rw [List.getElem?_eq_none (by simp; omega)] at hu
            cases hu
    by_cases cw : way = 2
    · refine ⟨pr, false, _, _, .str (S (cs.take short.toNat ++ [chr7 first i])), rfl, rfl, upd_same, ?_, ?_⟩
      · rw [cw]
        exact at1
      · have g := fin (S (cs.take short.toNat ++ [chr7 first i])) (nameS (by simp) (by rw [List.length_append, List.length_take]; simp; omega) (fun c hc => by
          rcases List.mem_append.mp hc with hc | hc
          · exact hcs c (List.mem_of_mem_take hc)
          · rw [List.mem_singleton.mp hc]
            exact chr7_abc _ _)) (by unfold Sig; rw [if_pos cw])
        obtain ⟨l, xs, y, g1, g2, g3, g4, g5, g6, g7⟩ := g
        exact ⟨l, xs, y, g1, g2, g3, g4, g5, g6, g7, _, _, _, rfl⟩
    · refine ⟨pr, false, _, _, .str (S ([chr7 first i] ++ tl)), rfl, rfl, upd_same, ?_, ?_⟩
      · rw [if_neg (by simpa using cw)]
        exact at0
      · have g := fin (S ([chr7 first i] ++ tl)) (nameS (by simp) (by rw [List.length_append]; simp; omega) (fun c hc => by
          rcases List.mem_append.mp hc with hc | hc
          · rw [List.mem_singleton.mp hc]
            exact chr7_abc _ _
          · exact htl c hc)) (by unfold Sig; rw [if_neg cw]; exact ⟨tl, rfl⟩)
        obtain ⟨l, xs, y, g1, g2, g3, g4, g5, g6, g7⟩ := g
        exact ⟨l, xs, y, g1, g2, g3, g4, g5, g6, g7, _, _, _, rfl⟩
  · rintro _ H6 ⟨b6, x6, ⟨ss, hs1, hs2, hs3, e6⟩, z1, z2, z3, rfl⟩
    refine ⟨_, rfl, q F H6 ss b6 x6 nF hs1 hs2 ?_ e6⟩
    rw [List.nodup_iff_pairwise_ne, List.pairwise_iff_getElem]
    intro i j hi hj hij z
    have gi := hs3 i _ (List.getElem?_eq_getElem hi)
    have gj := hs3 j _ (List.getElem?_eq_getElem hj)
    rw [z] at gi
    have hc : chr7 first i = chr7 first j := by
      unfold Sig at gi gj
      by_cases cw : way = 2
      · rw [if_pos cw] at gi gj
        have := S_inj (gi.symm.trans gj)
        have := List.append_cancel_left this
        exact (List.cons.inj this).1
      · rw [if_neg cw] at gi gj
        obtain ⟨u, gi⟩ := gi
        obtain ⟨v, gj⟩ := gj
        exact (List.cons.inj (S_inj (gi.symm.trans gj))).1
    have := chr7_inj (by omega) (by omega) hc
    omega
end PB

/-! ## S13 -/
set_option Elab.async false
set_option linter.all false
set_option maxRecDepth 100000
set_option maxHeartbeats 4000000
namespace PB
open PySem PySem.Spec PyProof.Rows L2
variable {P : Program} {w : World} {K : PySem.W.Frag} {mg : Str → Option Value} {base : Heap}
/-! ### the world of a turn -/
structure Wd where
  dims : Nat
  names : List Str
  marks : List Str
  places : List (List Int)
  heaps : List Str
def PlsAt (H : Hp) : List Addr → List (List Int) → Prop := Paired fun a p => H a = some (.tup (vi p))
structure WAdr where
  n : Addr
  m : Addr
  p : Addr
  h : Addr
  pls : List Addr
def wkv (W : Wd) (A : WAdr) : List (Key × V) := [(.inr "dims", .int (W.dims : Nat)), (.inr "names", .ref A.n), (.inr "marks", .ref A.m), (.inr "places", .ref A.p), (.inr "heaps", .ref A.h)]
structure WAt (H : Hp) (b d : Addr) (A : WAdr) (W : Wd) : Prop where
  d : H d = some (.dK (wkv W A))
  n : H A.n = some (.lst (W.names.map V.str)) ∧ A.n ≠ b
  m : H A.m = some (.lst (W.marks.map V.str)) ∧ A.m ≠ b
  p : H A.p = some (.lst (A.pls.map V.ref)) ∧ A.p ≠ b
  h : H A.h = some (.lst (W.heaps.map V.str)) ∧ A.h ≠ b
  pl : PlsAt H A.pls W.places
structure WdOk (W : Wd) : Prop where
  lo : 2 ≤ W.dims
  hi : W.dims ≤ 5
  nd : W.names.Nodup
  nok : ∀ s ∈ W.names, NameOk s
  few : W.names.length ≤ 24
  ml : W.marks.length = W.names.length
  mok : ∀ s ∈ W.marks, NameOk s
  m4 : ∃ S : List Str, S.length ≤ 4 ∧ ∀ s ∈ W.marks, s ∈ S
  pl : W.places.length = W.names.length
  pok : ∀ p ∈ W.places, p.length = W.dims ∧ ∀ x ∈ p, -999 ≤ x ∧ x ≤ 999
  hl : W.heaps.length = 5
  hok : ∀ s ∈ W.heaps, NameOk s
  hnd : W.heaps.Nodup
theorem box_off {H : Hp} {a b : Addr} {o : HO} (hb : BoxAt H b) (e : H a = some o) (n : ∀ xs, o ≠ .lst xs) : a ≠ b := fun q => by
  obtain ⟨x, y, z, h⟩ := hb
  rw [q, h] at e
  exact n _ (Option.some.inj e).symm
theorem But.get {H H' : Hp} {a b : Addr} {o : HO} (s : But b H H') (hb : BoxAt H b) (e : H a = some o) (n : ∀ xs, o ≠ .lst xs) : H' a = some o := s a o (box_off hb e n) e
theorem PlsAt.but {H H' : Hp} {b : Addr} {as : List Addr} {ps : List (List Int)} (h : PlsAt H as ps) (s : But b H H') (hb : BoxAt H b) : PlsAt H' as ps :=
  L2.Paired.mapP h fun _ _ e => s.get hb e (fun _ z => nomatch z)
theorem WAt.but {H H' : Hp} {b d : Addr} {A : WAdr} {W : Wd} (h : WAt H b d A W) (s : But b H H') (hb : BoxAt H b) : WAt H' b d A W :=
  ⟨s.get hb h.d (fun _ z => nomatch z), ⟨s _ _ h.n.2 h.n.1, h.n.2⟩, ⟨s _ _ h.m.2 h.m.1, h.m.2⟩, ⟨s _ _ h.p.2 h.p.1, h.p.2⟩, ⟨s _ _ h.h.2 h.h.1, h.h.2⟩, h.pl.but s hb⟩
theorem atI_mem {α : Type} {xs : List α} {d : Int} (h0 : 0 ≤ d) (h : d < xs.length) : ∃ x, atI xs d = some x ∧ xs[d.toNat]? = some x := by
  obtain ⟨n, rfl⟩ := Int.eq_ofNat_of_zero_le h0
  have hn : n < xs.length := by omega
  exact ⟨xs[n], atI_nat hn, by simp [hn]⟩
theorem W.of_le {x y : Int} (h : 0 ≤ x) (k : x ≤ y) (w : W y) : W x := w.mono (by omega)
def sp_law_world : Sp := fun vs H Q E => ∃ (b : Addr) (g : Bool), vs = [.ref b, .bl g] ∧ BoxAt H b ∧ (∀ d H' A W, But b H H' → BoxAt H' b → WAt H' b d A W → WdOk W → Q (.ref d) H')
theorem g_law_world (T : TX K mg) (D : At K mg "_law_world" d_law_world) (c_law_names : Cl P w K mg base C8.CX0 2 "_law_names" sp_law_names) (c_law_take : Cl P w K mg base C8.CX0 1 "_law_take" sp_law_take) : Cl P w K mg base C8.CX0 3 "_law_world" sp_law_world := by
  refine cl_of (k := 2) D sc_law_world (fun _ _ _ _ _ _ us hl => match us, hl with | [_, _], _ => rfl) (fun vs H Q E h => by
    obtain ⟨b, g, rfl, hb, q⟩ := h
    rfl) ?_
  intro f cdv A outer s H vs Q E hr h
  obtain ⟨b, g, rfl, hb, q⟩ := h
  refine ⟨_, (PSs.nox (pss_cons (ps_set (i := 2) sc_law_world.nd rfl (Or.inl rfl) (pe_op op_add pe_int (pe_cl c_law_take hr (by decide) (by rfl) (pa_cons (pv 0) (pa_cons pe_int pa_nil)))))
 (pss_cons (ps_set (i := 3) sc_law_world.nd rfl (Or.inl rfl) (pe_ix k_ix (pe_lst (pa_cons (pe_cl c_law_take hr (by decide) (by rfl) (pa_cons (pv 0) (pa_cons pe_int pa_nil))) (pa_cons pe_int pa_nil))) (pe_callTy call_int1 (by rfl) T.b_int bt_int (pa_cons (pv 1) pa_nil)) (fun _ _ => rfl)))
 (pss_cons (ps_set (i := 4) sc_law_world.nd rfl (Or.inr rfl) (pe_cl c_law_names hr (by decide) (by rfl) (pa_cons (pv 0) (pa_cons pe_int pa_nil))))
 (pss_cons (ps_set (i := 5) sc_law_world.nd rfl (Or.inr rfl) (pe_op op_add pe_int (pe_cl c_law_take hr (by decide) (by rfl) (pa_cons (pv 0) (pa_cons pe_int pa_nil)))))
 (pss_cons (ps_set (i := 6) sc_law_world.nd rfl (Or.inr rfl) (pe_ix k_ix (pe_lst (pa_cons pe_int (pa_cons pe_int (pa_cons pe_int (pa_cons pe_int pa_nil))))) (pe_cl c_law_take hr (by decide) (by rfl) (pa_cons (pv 0) (pa_cons pe_int pa_nil))) (fun _ _ => rfl)))
 (pss_cons (ps_set (i := 7) sc_law_world.nd rfl (Or.inl rfl) (pe_cl c_law_names hr (by decide) (by rfl) (pa_cons (pv 0) (pa_cons (pv 3) pa_nil))))
 (pss_cons (ps_setLc (i := 8) (own := [("_law_name", 10)]) rfl sc_law_world.nd rfl rfl (sw_true rfl rfl rfl (by decide +kernel)) (k_row (pv 7)) (blkOk_by (N := ["_law_box_here", "_law_great", "_law_dims", "_law_many", "_law_heaps", "_law_few", "_law_far", "_law_names_here", "_law_marks", "_law_places", "_law_name", "_law_k"]) (sc := d_law_world.scope) (own := [("_law_name", 10)]) (by decide +kernel)) (fun _ _ _ _ _ => (pg_name (i := 10) sc_law_world.nd rfl (Or.inl rfl))) (fun _ _ _ _ _ => pts_nil) (fun _ _ _ _ _ => (pe_ix k_ix (pv 4) (pe_cl c_law_take hr (by decide) (by rfl) (pa_cons (pv 0) (pa_cons (pv 5) pa_nil))) (fun _ _ => rfl))))
 (pss_cons (ps_set (i := 9) sc_law_world.nd rfl (Or.inl rfl) (pe_lst pa_nil))
 (pss_cons (ps_for PassesOwn.never rfl (k_row (pv 7)) (pg_name (i := 10) sc_law_world.nd rfl (Or.inl rfl))
 (pss_one (ps_expr (pe_bm PySem.F.plainAttrs_list PySem.F.slot_list_append PySem.F.type_list_append mt_append (pv 9) (pa_cons (pe_callTy k_tuple (by rfl) T.b_tuple bt_tuple (pa_cons (pe_lc (own := [("_law_k", 11)]) rfl sc_law_world.nd (pi_range1 rfl T.b_range (pa_cons (pv 2) pa_nil)) (blkOk_by (N := ["_law_box_here", "_law_great", "_law_dims", "_law_many", "_law_heaps", "_law_few", "_law_far", "_law_names_here", "_law_marks", "_law_places", "_law_name", "_law_k"]) (sc := d_law_world.scope) (own := [("_law_k", 11)]) (by decide +kernel)) (fun _ _ _ _ _ => (pg_name (i := 11) sc_law_world.nd rfl (Or.inl rfl))) (fun _ _ _ _ _ => pts_nil) (fun _ _ _ _ _ => (pe_op op_sub (pe_cl c_law_take hr (by decide) (by rfl) (pa_cons (pv 0) (pa_cons (pe_op op_add (pe_op op_mul pe_int (pv 6)) pe_int) pa_nil))) (pv 6)))) pa_nil)) pa_nil)))))
 (pss_one (ps_ret (pe_disp (pps_cons pe_str (pv 2) (pps_cons pe_str (pv 7) (pps_cons pe_str (pv 8) (pps_cons pe_str (pv 9) (pps_cons pe_str (pv 4) pps_nil))))) (by rfl) (by rfl) (fun z => by cases z) (by decide)))))))))))))), ?_⟩
  refine ⟨_, rfl, b, 4, rfl, hb, by decide, W.small (by decide), fun d0 H1 p0 p1 b1 x1 => ⟨_, _, rfl, rfl, ?_⟩⟩
  obtain ⟨dn, hdn⟩ := Int.eq_ofNat_of_zero_le (show 0 ≤ 2 + d0 by omega)
  show gName 2 (V.int (2 + d0)) _ _ _
  rw [hdn]
  have hd2 : 2 ≤ dn ∧ dn ≤ 5 := by omega
  refine ⟨_, rfl, b, 9, rfl, x1, by decide, W.small (by decide), fun m0 H2 m1 m2 b2 x2 => ⟨szl (show 2 < 100000 by decide), fun l2 hl2 => ⟨_, rfl, .inr ⟨_, rfl, ?_⟩⟩⟩⟩
  have b12 := (b1.trans b2).same2 (same_upd (o := .lst [.int m0, .int 24]) hl2)
  have x2' := x2.same (same_upd (o := .lst [.int m0, .int 24]) hl2)
  have em : ∃ mn : Nat, mn ≤ 24 ∧ atI [V.int m0, V.int 24] (if g = true then 1 else 0) = some (.int (mn : Nat)) := by
    cases g with
    | true => exact ⟨24, by decide, at1⟩
    | false =>
      obtain ⟨n, rfl⟩ := Int.eq_ofNat_of_zero_le m1
      exact ⟨n, by omega, at0⟩
  obtain ⟨mn, hmn, em⟩ := em
  refine ⟨l2, false, _, _, _, rfl, rfl, upd_same, em, ?_⟩
  refine ⟨_, rfl, b, 5, rfl, x2', by decide, fun hp H3 hs b3 x3 np hs1 hs2 hs3 e3 => ?_⟩
  refine ⟨_, rfl, b, 4, rfl, x3, by decide, W.small (by decide), fun f0 H4 f1 f2 b4 x4 => ⟨_, _, rfl, rfl, ?_⟩⟩
  refine ⟨szl (show 4 < 100000 by decide), fun lf hlf => ⟨_, rfl, b, 4, rfl, x4.same (same_upd hlf), by decide, W.small (by decide), fun r0 H5 r1 r2 b5 x5 => ?_⟩⟩
  have nlf : lf ≠ b := x4.ne hlf
  have ef := b5 lf (.lst [.int 3, .int 9, .int 99, .int 999]) nlf upd_same
  have er : ∃ far : Int, (1 ≤ far ∧ far ≤ 999) ∧ atI [V.int 3, V.int 9, V.int 99, V.int 999] r0 = some (.int far) := by
    have : r0 = 0 ∨ r0 = 1 ∨ r0 = 2 ∨ r0 = 3 := by omega
    rcases this with rfl | rfl | rfl | rfl
    · exact ⟨3, by decide, at0⟩
    · exact ⟨9, by decide, at1⟩
    · exact ⟨99, by decide, at2⟩
    · exact ⟨999, by decide, rfl⟩
  obtain ⟨far, hfar, er⟩ := er
  refine ⟨lf, false, _, _, _, rfl, rfl, ef, er, ?_⟩
  have b35 := (b4.same2 (same_upd (o := .lst [.int 3, .int 9, .int 99, .int 999]) hlf)).trans b5
  refine ⟨_, rfl, _, rfl, b, mn, rfl, x5, hmn, fun np2 H6 nm b6 x6 nn nm1 nm2 nm3 e6 => ?_⟩
  have e6h : H6 hp = some (.lst (hs.map V.str)) := (b35.trans b6) _ _ np e3
  refine ⟨_, rfl, _, false, _, rfl, e6, fun J w D hD => lc_xb b nm V.str (fun _ v => ∃ s, s ∈ hs.take (1 + f0).toNat ∧ v = .str s) w hD x6 (fun H' s _ => s _ _ nn e6) (by omega) (fun _ => rfl) ?_ ?_⟩
  · intro x H7 hx b7 x7 R k
    refine ⟨_, rfl, _, rfl, _, rfl, b, _, rfl, x7, by omega, W.small (by omega), fun t0 H8 t1 t2 b8 x8 => ?_⟩
    obtain ⟨y, y1, y2⟩ := atI_mem (xs := hs) t1 (by omega)
    refine ⟨hp, false, hs.map V.str, t0, .str y, rfl, rfl, b8 _ _ np (b7 _ _ np e6h), ?_, k _ H8 b8 x8 ⟨y, ?_, rfl⟩⟩
    · obtain ⟨n, rfl⟩ := Int.eq_ofNat_of_zero_le t1
      have hn : n < hs.length := by omega
      rw [atI_nat (by rw [List.length_map]; exact hn), List.getElem_map]
      simp only [Int.toNat_natCast, List.getElem?_eq_getElem hn, Option.some.injEq] at y2
      rw [y2]
    · refine List.mem_of_getElem? (i := t0.toNat) ?_
      rw [List.getElem?_take, if_pos (by omega)]
      exact y2
  intro ys H7 b7 x7 hl hy eD
  obtain ⟨mk, rfl, hmk⟩ := choose (P := fun s => s ∈ hs.take (1 + f0).toNat) V.str (ys := ys) (fun y hy2 => by
    obtain ⟨i, hi⟩ := List.mem_iff_getElem?.mp hy2
    have hlt := (List.getElem?_eq_some_iff.mp hi).1
    exact hy i y _ hi (List.getElem?_eq_getElem (by omega)))
  rw [List.length_map] at hl
  have nD : D ≠ b := x6.ne hD
  refine ⟨szl (show 0 < 100000 by decide), fun pp hpp => ?_⟩
  have npp : pp ≠ b := x7.ne hpp
  have e7 : ∀ {a : Addr} {o : HO}, H7 a = some o → upd H7 pp (.lst []) a = some o := fun e => same_upd hpp _ _ e
  refine ⟨_, rfl, _, false, _, rfl, e7 (b7 _ _ nn e6), fun J w => ?_⟩
  have bb : But b H H7 := (((b12.trans b3).trans b35).trans b6).trans b7
  have fpp : H pp = none := But.free bb npp hpp
  refine for_it w (fun i σ' H' => But b H7 H' ∧ BoxAt H' b ∧ (∃ (pls : List Addr) (ps : List (List Int)), ps.length = i ∧ (∀ p ∈ ps, p.length = dn ∧ ∀ x ∈ p, -999 ≤ x ∧ x ≤ 999) ∧ PlsAt H' pls ps ∧ H' pp = some (.lst (pls.map V.ref))) ∧
      ∃ z, σ' = [some (.ref b), some (.bl g), some (.int (dn : Nat)), some (.int (mn : Nat)), some (.ref hp), some (.int (1 + f0)), some (.int far), some (.ref np2), some (.ref D), some (.ref pp), z, none])
    ⟨Same.but (same_upd hpp), x7.upd npp, ⟨[], [], rfl, fun _ h => (List.not_mem_nil h).elim, .nil, upd_same⟩, _, rfl⟩ (fun i σ' H' _ z => z.1 _ _ nn (b7 _ _ nn e6)) ?_ ?_
  · rintro i x _ H8 hi0 hi ⟨b8, x8, ⟨pls, ps, q1, q2, q3, q4⟩, z, rfl⟩ ⟨rfl, y⟩
    rw [List.length_map] at hi
    refine ⟨_, rfl, tyL q4, _, rfl, _, rfl, by omega, by omega, fun D2 hD2 => lc_rb b (fun _ v => ∃ c : Int, (-999 ≤ c ∧ c ≤ 999) ∧ v = .int c) hD2 x8 (by omega) (fun _ => rfl) ?_ ?_⟩
    · intro i H9 hi b9 x9 R k
      refine ⟨_, rfl, _, rfl, _, _, rfl, rfl, .inl ⟨by decide, by decide⟩, _, _, rfl, rfl, b, _, rfl, x9, by omega, W.small (by omega), fun c H10 c0 c1 b10 x10 => ⟨_, rfl, _, _, rfl, rfl, k _ _ b10 x10 ⟨_, by omega, rfl⟩⟩⟩
    intro ys H9 b9 x9 hl9 hy9 e9
    obtain ⟨p, rfl, hp9⟩ := choose_i V.int hy9
    rw [List.length_map] at hl9
    refine ⟨D2, false, _, rfl, e9, fun tp H10 s10 e10 => ?_⟩
    have nD2 : D2 ≠ b := x8.ne hD2
    have q4' : H10 pp = some (.lst (pls.map V.ref)) := s10 _ _ (b9 _ _ npp q4)
    have q3' : PlsAt H10 pls ps := L2.Paired.mapP (q3.but b9 x8) fun _ _ e => s10 _ _ e
    refine ⟨pp, _, .ref tp, rfl, rfl, q4', sz_small (by rw [List.length_map, Paired.length q3, q1]; omega), ?_, (x9.same s10).upd npp, ⟨pls ++ [tp], ps ++ [p], by rw [List.length_append, q1]; rfl, ?_, ?_, by rw [upd_same, List.map_append]; rfl⟩, _, rfl⟩
    · exact (((b8.trans b9).same2 s10)).wr hpp
    · intro u hu
      rcases List.mem_append.mp hu with hu | hu
      · exact q2 u hu
      · rw [List.mem_singleton.mp hu]
        exact ⟨by omega, hp9⟩
    · refine paired_app (L2.Paired.mapP q3' fun a p e => ?_) (.cons ?_ .nil)
      · rw [upd_ne (fun c => by rw [c, q4'] at e; cases e)]
        exact e
      · rw [upd_ne (fun c => by rw [c, q4'] at e10; cases e10)]
        exact e10
  · rintro _ H8 ⟨b8, x8, ⟨pls, ps, q1, q2, q3, q4⟩, z, rfl⟩
    rw [List.length_map] at q1
    intro d hd
    have nd : d ≠ b := x8.ne hd
    have sd := same_upd (o := .dK []) hd
    refine ⟨_, rfl, _, rfl, _, rfl, _, rfl, _, rfl, upd_same, wkv ⟨dn, nm, mk, ps, hs⟩ ⟨np2, D, pp, hp, pls⟩, rfl, by show 5 ≤ 15; decide, ?_⟩
    have s9 : L2.Same H8 (upd (upd H8 d (.dK [])) d (.dK (mergeK [] (wkv ⟨dn, nm, mk, ps, hs⟩ ⟨np2, D, pp, hp, pls⟩)))) := fun a o e => by
      rw [upd_ne (ne_of_none e hd), upd_ne (ne_of_none e hd)]
      exact e
    refine q d _ ⟨np2, D, pp, hp, pls⟩ ⟨dn, nm, mk, ps, hs⟩ ((bb.trans b8).same2 s9) (x8.same s9) ⟨?_, ⟨s9 _ _ ((b7.trans b8) _ _ nn e6), nn⟩, ⟨s9 _ _ (b8 _ _ nD eD), nD⟩, ⟨s9 _ _ q4, npp⟩, ⟨s9 _ _ ((b7.trans b8) _ _ np e6h), np⟩, L2.Paired.mapP q3 fun _ _ e => s9 _ _ e⟩
      ⟨hd2.1, hd2.2, nm3, nm2, by show nm.length ≤ 24; omega, by show mk.length = nm.length; omega, fun s h => hs2 s (List.mem_of_mem_take (hmk s h)), ⟨hs.take (1 + f0).toNat, by rw [List.length_take]; omega, hmk⟩, q1, q2, hs1, hs2, hs3⟩
    rw [upd_same]
    rfl
end PB

/-! ## M2 -/
set_option Elab.async false
set_option linter.all false
set_option maxHeartbeats 4000000
namespace PB
/-! ### sums -/
theorem sum_add {α : Type} (f g : α → Int) : ∀ l : List α, (l.map fun x => f x + g x).sum = (l.map f).sum + (l.map g).sum
  | [] => rfl
  | x :: l => by
    simp only [List.map_cons, List.sum_cons, sum_add f g l]
    omega
theorem sum_mul {α : Type} (c : Int) (f : α → Int) : ∀ l : List α, (l.map fun x => c * f x).sum = c * (l.map f).sum
  | [] => by simp
  | x :: l => by
    simp only [List.map_cons, List.sum_cons, sum_mul c f l, Int.mul_add]
theorem sum_zero {α : Type} : ∀ l : List α, (l.map fun _ => (0 : Int)).sum = 0
  | [] => rfl
  | x :: l => by simp only [List.map_cons, List.sum_cons, sum_zero l]; rfl
theorem sum_swap {α β : Type} (f : α → β → Int) (ys : List β) : ∀ xs : List α, (xs.map fun x => (ys.map fun y => f x y).sum).sum = (ys.map fun y => (xs.map fun x => f x y).sum).sum
  | [] => by simp only [List.map_nil, List.sum_nil, sum_zero]
  | x :: xs => by
    simp only [List.map_cons, List.sum_cons, sum_swap f ys xs]
    rw [← sum_add]
theorem sum_congr {α : Type} {f g : α → Int} {l : List α} (h : ∀ x ∈ l, f x = g x) : (l.map f).sum = (l.map g).sum := by
  rw [List.map_congr_left h]
theorem sum_perm {l m : List Int} (h : l.Perm m) : l.sum = m.sum := by
  induction h with
  | nil => rfl
  | cons x _ ih => simp only [List.sum_cons, ih]
  | swap x y l => simp only [List.sum_cons]; omega
  | trans _ _ a b => exact a.trans b
theorem dot_rng {d : Nat} {xs ys : List Int} (hx : xs.length = d) (hy : ys.length = d) : dot xs ys = ((List.range d).map fun k => xs.getD k 0 * ys.getD k 0).sum := by
  unfold dot
  congr 1
  apply List.ext_getElem
  · simp [hx, hy]
  · intro i h1 h2
    simp only [List.length_zipWith, hx, hy, Nat.min_self] at h1
    simp [hx, hy, h1, List.getD_eq_getElem?_getD]
/-- the delta in a sum -/
theorem sum_delta (c : Int) (f : Nat → Int) (k : Nat) : ∀ d, k < d → ((List.range d).map fun l => f l * (if k = l then c else 0)).sum = f k * c
  | 0, h => absurd h (by omega)
  | d + 1, h => by
    rw [List.range_succ, List.map_append, List.sum_append]
    simp only [List.map_cons, List.map_nil, List.sum_cons, List.sum_nil]
    by_cases e : k = d
    · subst e
      have z : ((List.range k).map fun l => f l * (if k = l then c else 0)).sum = 0 := by
        rw [sum_congr (g := fun _ => 0) fun x hx => ?_]
        · exact sum_zero _
        · rw [List.mem_range] at hx
          rw [if_neg (by omega)]
          simp
      rw [z]
      simp
    · rw [sum_delta c f k d (by omega), if_neg e]
      simp
/-- the sum over the rows of the products of two columns -/
def cp (rows : List (List Int)) (k l : Nat) : Int := (rows.map fun r => r.getD k 0 * r.getD l 0).sum
structure Keeps (d : Nat) (L : Int) (rows : List (List Int)) : Prop where
  row : ∀ r ∈ rows, r.length = d
  col : ∀ k l, k < d → l < d → cp rows k l = if k = l then L else 0
theorem dot_map {α : Type} (f g : α → Int) : ∀ l : List α, dot (l.map f) (l.map g) = (l.map fun x => f x * g x).sum
  | [] => rfl
  | x :: l => by
    have := dot_map f g l
    unfold dot at *
    simp only [List.map_cons, List.zipWith_cons_cons, List.sum_cons, this]
theorem Keeps.dot {d : Nat} {L : Int} {rows : List (List Int)} (h : Keeps d L rows) {n p : List Int} (hn : n.length = d) (hp : p.length = d) : dot (mulR rows n) (mulR rows p) = L * dot n p := by
  unfold mulR
  rw [dot_map]
  have e1 : (rows.map fun r => PB.dot r n * PB.dot r p).sum = (rows.map fun r => ((List.range d).map fun k => ((List.range d).map fun l => (n.getD k 0 * p.getD l 0) * (r.getD k 0 * r.getD l 0)).sum).sum).sum := by
    refine sum_congr fun r hr => ?_
    rw [dot_rng (h.row r hr) hn, dot_rng (h.row r hr) hp, Int.mul_comm, ← sum_mul]
    refine sum_congr fun k _ => ?_
    rw [Int.mul_comm, ← sum_mul]
    refine sum_congr fun l _ => ?_
    grind
  rw [e1, sum_swap]
  have e2 : ∀ k ∈ List.range d, ((rows.map fun r => ((List.range d).map fun l => (n.getD k 0 * p.getD l 0) * (r.getD k 0 * r.getD l 0)).sum).sum) = L * (n.getD k 0 * p.getD k 0) := by
    intro k hk
    rw [List.mem_range] at hk
    rw [sum_swap]
    have e3 : ((List.range d).map fun l => (rows.map fun r => (n.getD k 0 * p.getD l 0) * (r.getD k 0 * r.getD l 0)).sum).sum = ((List.range d).map fun l => (n.getD k 0 * p.getD l 0) * (if k = l then L else 0)).sum := by
      refine sum_congr fun l hl => ?_
      rw [List.mem_range] at hl
      rw [sum_mul]
      congr 1
      exact h.col k l hk hl
    rw [e3, sum_delta L (fun l => n.getD k 0 * p.getD l 0) k d hk, Int.mul_comm]
  rw [sum_congr e2, sum_mul, dot_rng hn hp]
/-- a base of a square -/
structure GoodBase (d : Nat) (N : Int) (rows : List (List Int)) : Prop where
  len : rows.length = d
  row : ∀ r ∈ rows, r.length = d ∧ ∀ x ∈ r, -9 ≤ x ∧ x ≤ 9
  pos : 0 < N
  same : ∀ r ∈ rows, dot r r = N
  orth : rows.Pairwise fun r s => dot r s = 0
  col : ∀ k l, k < d → l < d → cp rows k l = if k = l then N else 0
def unitRow (d k : Nat) : List Int := (List.replicate d 0).set k 1
theorem good_unit {d : Nat} (h2 : 2 ≤ d) (h5 : d ≤ 5) : GoodBase d 1 ((List.range d).map (unitRow d)) := by
  have key : ∀ d ∈ [2, 3, 4, 5], ((List.range d).map (unitRow d)).length = d ∧ (∀ r ∈ (List.range d).map (unitRow d), r.length = d ∧ ∀ x ∈ r, -9 ≤ x ∧ x ≤ 9) ∧ (∀ r ∈ (List.range d).map (unitRow d), dot r r = 1) ∧
      ((List.range d).map (unitRow d)).Pairwise (fun r s => dot r s = 0) ∧ ∀ k, k < d → ∀ l, l < d → cp ((List.range d).map (unitRow d)) k l = if k = l then 1 else 0 := by decide +kernel
  obtain ⟨a, b, c, e, f⟩ := key d (by simp; omega)
  exact ⟨a, b, by decide, c, e, fun k l hk hl => f k hk l hl⟩
def base3 : List (List Int) := [[1, 2, 2], [2, 1, -2], [2, -2, 1]]
def base5 : List (List Int) := [[1, 1, 1, 1, 0], [1, -1, 1, -1, 0], [1, 1, -1, -1, 0], [1, -1, -1, 1, 0], [0, 0, 0, 0, 2]]
theorem good3 : GoodBase 3 9 base3 := by
  have key : base3.length = 3 ∧ (∀ r ∈ base3, r.length = 3 ∧ ∀ x ∈ r, -9 ≤ x ∧ x ≤ 9) ∧ (∀ r ∈ base3, dot r r = 9) ∧ base3.Pairwise (fun r s => dot r s = 0) ∧ ∀ k, k < 3 → ∀ l, l < 3 → cp base3 k l = if k = l then 9 else 0 := by decide +kernel
  obtain ⟨a, b, c, e, f⟩ := key
  exact ⟨a, b, by decide, c, e, fun k l hk hl => f k hk l hl⟩
theorem good5 : GoodBase 5 4 base5 := by
  have key : base5.length = 5 ∧ (∀ r ∈ base5, r.length = 5 ∧ ∀ x ∈ r, -9 ≤ x ∧ x ≤ 9) ∧ (∀ r ∈ base5, dot r r = 4) ∧ base5.Pairwise (fun r s => dot r s = 0) ∧ ∀ k, k < 5 → ∀ l, l < 5 → cp base5 k l = if k = l then 4 else 0 := by decide +kernel
  obtain ⟨a, b, c, e, f⟩ := key
  exact ⟨a, b, by decide, c, e, fun k l hk hl => f k hk l hl⟩
def base2 (a b : Int) : List (List Int) := [[a, b], [0 - b, a]]
def base4 (a b c d : Int) : List (List Int) := [[a, b, c, d], [0 - b, a, 0 - d, c], [0 - c, d, a, 0 - b], [0 - d, 0 - c, b, a]]
theorem good2 {a b : Int} (ha : 1 ≤ a ∧ a ≤ 4) (hb : 0 ≤ b ∧ b ≤ 4) : GoodBase 2 (a * a + b * b) (base2 a b) := by
  have p1 : 0 < a * a := Int.mul_pos (by omega) (by omega)
  have p2 : 0 ≤ b * b := Int.mul_nonneg (by omega) (by omega)
  refine ⟨rfl, ?_, by omega, ?_, ?_, ?_⟩
  · intro r hr
    simp only [base2, List.mem_cons, List.not_mem_nil, or_false] at hr
    rcases hr with rfl | rfl <;> refine ⟨rfl, fun x hx => ?_⟩ <;> simp at hx <;> omega
  · intro r hr
    simp only [base2, List.mem_cons, List.not_mem_nil, or_false] at hr
    rcases hr with rfl | rfl <;> simp [dot] <;> grind
  · simp [base2, dot]
    grind
  · intro k l hk hl
    have : (k = 0 ∨ k = 1) ∧ (l = 0 ∨ l = 1) := by omega
    obtain ⟨rfl | rfl, rfl | rfl⟩ := this <;> simp [cp, base2] <;> grind
theorem good4 {a b c d : Int} (ha : 1 ≤ a ∧ a ≤ 3) (hb : 0 ≤ b ∧ b ≤ 3) (hc : 0 ≤ c ∧ c ≤ 3) (hd : 0 ≤ d ∧ d ≤ 3) : GoodBase 4 (a * a + b * b + c * c + d * d) (base4 a b c d) := by
  have p1 : 0 < a * a := Int.mul_pos (by omega) (by omega)
  have p2 : 0 ≤ b * b := Int.mul_nonneg (by omega) (by omega)
  have p3 : 0 ≤ c * c := Int.mul_nonneg (by omega) (by omega)
  have p4 : 0 ≤ d * d := Int.mul_nonneg (by omega) (by omega)
  refine ⟨rfl, ?_, by omega, ?_, ?_, ?_⟩
  · intro r hr
    simp only [base4, List.mem_cons, List.not_mem_nil, or_false] at hr
    rcases hr with rfl | rfl | rfl | rfl <;> refine ⟨rfl, fun x hx => ?_⟩ <;> simp at hx <;> omega
  · intro r hr
    simp only [base4, List.mem_cons, List.not_mem_nil, or_false] at hr
    rcases hr with rfl | rfl | rfl | rfl <;> simp [dot] <;> grind
  · simp only [base4, List.pairwise_cons, List.mem_cons, List.not_mem_nil, or_false, forall_eq_or_imp, forall_eq, false_imp_iff, implies_true, and_true, List.Pairwise.nil]
    refine ⟨⟨?_, ?_, ?_⟩, ⟨?_, ?_⟩, ?_⟩ <;> simp [dot] <;> grind
  · intro k l hk hl
    have : (k = 0 ∨ k = 1 ∨ k = 2 ∨ k = 3) ∧ (l = 0 ∨ l = 1 ∨ l = 2 ∨ l = 3) := by omega
    obtain ⟨rfl | rfl | rfl | rfl, rfl | rfl | rfl | rfl⟩ := this <;> simp [cp, base4] <;> grind
end PB

/-! ## S14 -/
set_option Elab.async false
set_option linter.all false
set_option maxRecDepth 100000
set_option maxHeartbeats 4000000
namespace PB
open PySem PySem.Spec PyProof.Rows L2
variable {P : Program} {w : World} {K : PySem.W.Frag} {mg : Str → Option Value} {base : Heap}
/-- a list of numbers that is not the box -/
def Rw (b : Addr) (H : Hp) (r : Addr) (xs : List Int) : Prop := r ≠ b ∧ H r = some (.lst (vi xs))
theorem Rw.but {b r : Addr} {H H' : Hp} {xs : List Int} (h : Rw b H r xs) (s : But b H H') : Rw b H' r xs := ⟨h.1, s _ _ h.1 h.2⟩
theorem upd_get {H : Hp} {a p : Addr} {o u : HO} (hp : H p = none) (e : H a = some o) : upd H p u a = some o := same_upd hp _ _ e
def sp_law_base : Sp := fun vs H Q E => ∃ (b : Addr) (d : Nat), vs = [.ref b, .int (d : Nat)] ∧ BoxAt H b ∧ 2 ≤ d ∧ d ≤ 5 ∧
  (∀ l H' (rs : List (Addr × List Int)) N, But b H H' → BoxAt H' b → l ≠ b → H' l = some (.lst (rs.map fun r => V.ref r.1)) → (∀ r ∈ rs, Rw b H' r.1 r.2) → GoodBase d N (rs.map (·.2)) → Q (.ref l) H')
theorem nodup_at {α : Type} {l : List α} (h : l.Nodup) {i j : Nat} {x : α} (hi : l[i]? = some x) (hj : l[j]? = some x) : i = j := by
  obtain ⟨a1, a2⟩ := List.getElem?_eq_some_iff.mp hi
  obtain ⟨b1, b2⟩ := List.getElem?_eq_some_iff.mp hj
  rw [List.nodup_iff_pairwise_ne, List.pairwise_iff_getElem] at h
  by_cases c : i < j
  · exact absurd (a2.trans b2.symm) (h i j a1 b1 c)
  · by_cases c2 : j < i
    · exact absurd (b2.trans a2.symm) (h j i b1 a1 c2)
    · omega
theorem Rw.new {b r : Addr} {H : Hp} {xs : List Int} (h : BoxAt H b) (f : H r = none) : Rw b (upd H r (.lst (vi xs))) r xs := ⟨h.ne f, upd_same⟩
theorem Rw.keep {b r p : Addr} {o : HO} {H : Hp} {xs : List Int} (h : Rw b H r xs) (f : H p = none) : Rw b (upd H p o) r xs := ⟨h.1, upd_get f h.2⟩
theorem BoxAt.keep {b p : Addr} {o : HO} {H : Hp} (h : BoxAt H b) (f : H p = none) : BoxAt (L2.upd H p o) b := h.same (same_upd f)
theorem But.keep {b p : Addr} {o : HO} {H H1 : Hp} (h : But b H H1) (f : H1 p = none) : But b H (upd H1 p o) := h.same2 (same_upd f)
theorem all1 {α : Type} {P : α → Prop} {a : α} {l : List α} (h : P a) (k : ∀ x ∈ l, P x) : ∀ x ∈ a :: l, P x := fun x hx => by
  rcases List.mem_cons.mp hx with rfl | hx
  · exact h
  · exact k x hx
theorem all0 {α : Type} {P : α → Prop} : ∀ x ∈ ([] : List α), P x := fun _ h => (List.not_mem_nil h).elim
theorem same_none {H H' : Hp} {r : Addr} (s : L2.Same H H') (h : H' r = none) : H r = none := by
  cases q : H r with
  | none => rfl
  | some o =>
    rw [s r o q] at h
    cases h
theorem g_law_base (T : TX K mg) (D : At K mg "_law_base" d_law_base) (c_law_take : Cl P w K mg base C8.CX0 1 "_law_take" sp_law_take) : Cl P w K mg base C8.CX0 2 "_law_base" sp_law_base := by
  refine cl_of (k := 1) D sc_law_base (fun _ _ _ _ _ _ us hl => match us, hl with | [_, _], _ => rfl) (fun vs H Q E h => by
    obtain ⟨b, d, rfl, hb, d2, d5, q⟩ := h
    rfl) ?_
  intro f cdv A outer s H vs Q E hr h
  obtain ⟨b, d, rfl, hb, d2, d5, q⟩ := h
  refine ⟨_, (PSs.nox (pss_cons (ps_if (pt_cmpR op_eq (pe_cl c_law_take hr (by decide) (by rfl) (pa_cons (pv 0) (pa_cons pe_int pa_nil))) pe_int (nomark _))
 (pss_cons (ps_setLc (i := 2) (own := [("_law_k", 3)]) rfl sc_law_base.nd rfl rfl (sw_true rfl rfl rfl (by decide +kernel)) (pi_range1 rfl T.b_range (pa_cons (pv 1) pa_nil)) (blkOk_by (N := ["_law_box_here", "_law_dims", "_law_found", "_law_k", "_law_one", "_law_other", "_law_a", "_law_b", "_law_c", "_law_d"]) (sc := d_law_base.scope) (own := [("_law_k", 3)]) (by decide +kernel)) (fun _ _ _ _ _ => (pg_name (i := 3) sc_law_base.nd rfl (Or.inl rfl))) (fun _ _ _ _ _ => pts_nil) (fun _ _ _ _ _ => (pe_op op_rep (pe_lst (pa_cons pe_int pa_nil)) (pv 1))))
 (pss_cons (ps_for PassesOwn.never rfl (pi_range1 rfl T.b_range (pa_cons (pv 1) pa_nil)) (pg_name (i := 3) sc_law_base.nd rfl (Or.inl rfl))
 (pss_one (ps_asg pe_int (pg_sub (pe_ix k_ix (pv 2) (pv 3) (fun _ _ => rfl)) (pv 3) set_list))))
 (pss_one (ps_ret (pv 2)))))
 pss_nil)
 (pss_cons (ps_if (pt_cmpR op_eq (pv 1) pe_int (nomark _))
 (pss_cons (ps_par (i := 4) (j := 5) rfl sc_law_base.nd rfl rfl (by decide) rfl rfl (pa_cons (pe_op op_add pe_int (pe_cl c_law_take hr (by decide) (by rfl) (pa_cons (pv 0) (pa_cons pe_int pa_nil)))) (pa_cons (pe_cl c_law_take hr (by decide) (by rfl) (pa_cons (pv 0) (pa_cons pe_int pa_nil))) pa_nil)) rfl)
 (pss_one (ps_ret (pe_lst (pa_cons (pe_lst (pa_cons (pv 4) (pa_cons (pv 5) pa_nil))) (pa_cons (pe_lst (pa_cons (pe_op op_sub pe_int (pv 5)) (pa_cons (pv 4) pa_nil))) pa_nil))))))
 pss_nil)
 (pss_cons (ps_if (pt_cmpR op_eq (pv 1) pe_int (nomark _))
 (pss_one (ps_ret (pe_lst (pa_cons (pe_lst (pa_cons pe_int (pa_cons pe_int (pa_cons pe_int pa_nil)))) (pa_cons (pe_lst (pa_cons pe_int (pa_cons pe_int (pa_cons (pe_un un_neg pe_int) pa_nil)))) (pa_cons (pe_lst (pa_cons pe_int (pa_cons (pe_un un_neg pe_int) (pa_cons pe_int pa_nil)))) pa_nil))))))
 pss_nil)
 (pss_cons (ps_if (pt_cmpR op_eq (pv 1) pe_int (nomark _))
 (pss_one (ps_ret (pe_lst (pa_cons (pe_lst (pa_cons pe_int (pa_cons pe_int (pa_cons pe_int (pa_cons pe_int (pa_cons pe_int pa_nil)))))) (pa_cons (pe_lst (pa_cons pe_int (pa_cons (pe_un un_neg pe_int) (pa_cons pe_int (pa_cons (pe_un un_neg pe_int) (pa_cons pe_int pa_nil)))))) (pa_cons (pe_lst (pa_cons pe_int (pa_cons pe_int (pa_cons (pe_un un_neg pe_int) (pa_cons (pe_un un_neg pe_int) (pa_cons pe_int pa_nil)))))) (pa_cons (pe_lst (pa_cons pe_int (pa_cons (pe_un un_neg pe_int) (pa_cons (pe_un un_neg pe_int) (pa_cons pe_int (pa_cons pe_int pa_nil)))))) (pa_cons (pe_lst (pa_cons pe_int (pa_cons pe_int (pa_cons pe_int (pa_cons pe_int (pa_cons pe_int pa_nil)))))) pa_nil))))))))
 pss_nil)
 (pss_cons (ps_asg (pe_tup (pa_cons (pe_op op_add pe_int (pe_cl c_law_take hr (by decide) (by rfl) (pa_cons (pv 0) (pa_cons pe_int pa_nil)))) (pa_cons (pe_cl c_law_take hr (by decide) (by rfl) (pa_cons (pv 0) (pa_cons pe_int pa_nil))) (pa_cons (pe_cl c_law_take hr (by decide) (by rfl) (pa_cons (pv 0) (pa_cons pe_int pa_nil))) (pa_cons (pe_cl c_law_take hr (by decide) (by rfl) (pa_cons (pv 0) (pa_cons pe_int pa_nil))) pa_nil))))) (k_tup (n := 4) rfl (pgs_cons (pg_name (i := 6) sc_law_base.nd rfl (Or.inl rfl)) (pgs_cons (pg_name (i := 7) sc_law_base.nd rfl (Or.inl rfl)) (pgs_cons (pg_name (i := 8) sc_law_base.nd rfl (Or.inl rfl)) (pgs_cons (pg_name (i := 9) sc_law_base.nd rfl (Or.inl rfl)) pgs_nil))))))
 (pss_one (ps_ret (pe_lst (pa_cons (pe_lst (pa_cons (pv 6) (pa_cons (pv 7) (pa_cons (pv 8) (pa_cons (pv 9) pa_nil))))) (pa_cons (pe_lst (pa_cons (pe_op op_sub pe_int (pv 7)) (pa_cons (pv 6) (pa_cons (pe_op op_sub pe_int (pv 9)) (pa_cons (pv 8) pa_nil))))) (pa_cons (pe_lst (pa_cons (pe_op op_sub pe_int (pv 8)) (pa_cons (pv 9) (pa_cons (pv 6) (pa_cons (pe_op op_sub pe_int (pv 7)) pa_nil))))) (pa_cons (pe_lst (pa_cons (pe_op op_sub pe_int (pv 9)) (pa_cons (pe_op op_sub pe_int (pv 8)) (pa_cons (pv 7) (pa_cons (pv 6) pa_nil))))) pa_nil))))))))))))), ?_⟩
  refine ⟨_, rfl, b, 3, rfl, hb, by decide, W.small (by decide), fun w0 H1 p0 p1 b1 x1 => ⟨rfl, _, rfl, ?_⟩⟩
  by_cases cw : w0 = 0
  · refine ifT (by simp [cw]) ?_
    refine ⟨_, rfl, _, rfl, by omega, by omega, fun D hD => ?_⟩
    rw [Int.toNat_natCast]
    have nD := x1.ne hD
    have zlen : ∀ (z : V), (List.replicate d [z]).flatten.length = d := fun z => by simp
    have zeq : (List.replicate ((d : Int)).toNat [V.int 0]).flatten = vi (List.replicate d 0) := by
      rw [Int.toNat_natCast]
      simp [vi]
    refine lc_it (@walk_range 0 d) (fun i H => L2.Same H1 H ∧ ∃ rs : List Addr, H D = some (.lst (rs.map V.ref)) ∧ rs.length = i ∧ rs.Nodup ∧ ∀ r ∈ rs, (r ≠ D ∧ H1 r = none) ∧ Rw b H r (List.replicate d 0)) ⟨same_upd hD, [], upd_same, rfl, .nil, fun _ h => (List.not_mem_nil h).elim⟩ (fun _ _ _ _ => trivial) ?_ ?_
    · rintro i x H2 _ hi ⟨s2, rs, e1, e2, e3, e4⟩ ⟨rfl, rfl⟩
      refine ⟨rfl, szl (show 1 < 100000 by decide), fun z hz => ⟨_, rfl, z, _, [.int 0], rfl, rfl, upd_same, by omega, by omega, szl (by simp; omega), fun r hr => ?_⟩⟩
      rw [zeq]
      have x2 := x1.same s2
      have s3 := (same_upd (o := .lst [.int 0]) hz).trans (same_upd (o := .lst (vi (List.replicate d 0))) hr)
      have eD := s3 _ _ e1
      have hr0 := same_none (same_upd (o := .lst [.int 0]) hz) hr
      refine ⟨rs.map V.ref, eD, sz_small (by rw [List.length_map]; omega), fun a o e => ?_, rs ++ [r], by rw [upd_same, List.map_append]; rfl, by rw [List.length_append, e2]; rfl, ?_, ?_⟩
      · rw [upd_ne (ne_of_none e hD)]
        exact s3 _ _ (s2 _ _ e)
      · rw [List.nodup_append]
        refine ⟨e3, by simp, fun a ha c hc => ?_⟩
        rw [List.mem_singleton.mp hc]
        exact ne_of_none (e4 a ha).2.2 hr0
      · intro a ha
        rcases List.mem_append.mp ha with ha | ha
        · refine ⟨(e4 a ha).1, (e4 a ha).2.1, ?_⟩
          rw [upd_ne (e4 a ha).1.1]
          exact s3 _ _ (e4 a ha).2.2
        · rw [List.mem_singleton.mp ha]
          have nrD : r ≠ D := fun c => by rw [c, upd_get hz e1] at hr; cases hr
          refine ⟨⟨nrD, same_none s2 hr0⟩, (x2.same (same_upd hz)).ne hr, ?_⟩
          rw [upd_ne nrD, upd_same]
    · rintro H2 ⟨s2, rs, e1, e2, e3, e4⟩
      refine ⟨_, rfl, _, rfl, by omega, by omega, ?_⟩
      rw [Int.toNat_natCast]
      have b2 := b1.same2 s2
      have x2 := x1.same s2
      refine for_range (fun i σ' H' => But b H1 H' ∧ BoxAt H' b ∧ H' D = some (.lst (rs.map V.ref)) ∧ (∀ (j : Nat) r, rs[j]? = some r → Rw b H' r (if j < i then unitRow d j else List.replicate d 0)) ∧ ∃ z, σ' = [some (.ref b), some (.int (d : Nat)), some (.ref D), z, none, none, none, none, none, none])
        ⟨Same.but s2, x2, e1, fun j r hj => (e4 r (List.mem_of_getElem? hj)).2, _, rfl⟩ ?_ ?_
      · rintro i _ H3 hi ⟨b3, x3, q1, q2, z, rfl⟩
        have hir : rs[i]? = some rs[i] := List.getElem?_eq_getElem (by omega)
        generalize rs[i] = r at hir
        have mr := List.mem_of_getElem? hir
        have hr := q2 i r hir
        rw [if_neg (by omega)] at hr
        refine ⟨_, rfl, _, rfl, D, false, _, _, .ref r, rfl, rfl, q1, ?_, _, rfl, r, _, _, i, rfl, rfl, hr.2, ?_, ?_⟩
        · rw [Int.zero_add, atI_nat (by rw [List.length_map]; omega), List.getElem_map]
          rw [List.getElem?_eq_getElem (by omega)] at hir
          rw [Option.some.inj hir]
        · rw [Int.zero_add]
          unfold ixN
          rw [if_pos (by omega), if_pos (by simp [vi]; omega)]
          simp
        · refine ⟨b3.wr (e4 r mr).1.2, x3.upd hr.1, ?_, ?_, _, rfl⟩
          · rw [upd_ne (e4 r mr).1.1.symm]
            exact q1
          · intro j s hj
            have hs := q2 j s hj
            by_cases c : j = i
            · subst c
              rw [hir] at hj
              obtain rfl := Option.some.inj hj
              rw [if_pos (by omega)]
              refine ⟨hr.1, ?_⟩
              rw [upd_same, ← List.map_set]
              rfl
            · refine ⟨hs.1, ?_⟩
              rw [upd_ne (fun z => c ?_), hs.2]
              · by_cases c2 : j < i
                · rw [if_pos c2, if_pos (by omega)]
                · rw [if_neg c2, if_neg (by omega)]
              · subst z
                obtain ⟨hj1, hj2⟩ := List.getElem?_eq_some_iff.mp hj
                obtain ⟨hi1, hi2⟩ := List.getElem?_eq_some_iff.mp hir
                exact nodup_at e3 hj hir
      · rintro _ H3 ⟨b3, x3, q1, q2, z, rfl⟩
        have key : ∀ k ∈ List.range d, rs[k]? = some (rs.getD k 0) := fun k hk => by
          rw [List.mem_range] at hk
          rw [List.getD_eq_getElem?_getD, List.getElem?_eq_getElem (by omega)]
          rfl
        refine ⟨_, rfl, q D H3 ((List.range d).map fun k => (rs.getD k 0, unitRow d k)) 1 (b1.trans b3) x3 nD ?_ ?_ ?_⟩
        · rw [q1, List.map_map]
          congr 2
          apply List.ext_getElem
          · simp [e2]
          · intro k h1 h2
            simp only [List.getElem_map, List.getElem_range, Function.comp]
            rw [List.length_map] at h1
            rw [List.getD_eq_getElem?_getD, List.getElem?_eq_getElem h1]
            rfl
        · intro r hr
          obtain ⟨k, hk, rfl⟩ := List.mem_map.mp hr
          have := q2 k _ (key k hk)
          rw [List.mem_range] at hk
          rwa [if_pos hk] at this
        · rw [List.map_map]
          exact good_unit d2 d5
  refine ifF (by simp [cw]) ?_
  refine ⟨_, rfl, rfl, _, rfl, ?_⟩
  by_cases c2 : d = 2
  · subst c2
    refine ifT (by decide) ?_
    refine ⟨_, rfl, b, 4, rfl, x1, by decide, W.small (by decide), fun a0 H2 a1 a2 b2 x2 => ⟨_, _, rfl, rfl, _, rfl, b, 5, rfl, x2, by decide, W.small (by decide), fun o0 H3 o1 o2 b3 x3 => ⟨_, _, rfl, ?_⟩⟩⟩
    refine ⟨_, rfl, _, rfl, szl (show 2 < 100000 by decide), fun p1 h1 => ⟨_, rfl, _, _, rfl, rfl, _, rfl, szl (show 2 < 100000 by decide), fun p2 h2 => ⟨szl (show 2 < 100000 by decide), fun l hl => ?_⟩⟩⟩
    have y1 := x3.keep (o := .lst (vi [1 + a0, o0])) h1
    have y2 := y1.keep (o := .lst (vi [0 - o0, 1 + a0])) h2
    exact q l _ [(p1, [1 + a0, o0]), (p2, [0 - o0, 1 + a0])] _ ((((((b1.trans b2).trans b3).keep h1).keep h2)).keep hl) (y2.keep hl) (y2.ne hl) upd_same
      (all1 (((Rw.new (xs := [1 + a0, o0]) x3 h1).keep h2).keep hl) (all1 ((Rw.new (xs := [0 - o0, 1 + a0]) y1 h2).keep hl) all0)) (good2 (by omega) (by omega))
  refine ifF (by simp; omega) ?_
  refine ⟨_, rfl, rfl, _, rfl, ?_⟩
  by_cases c3 : d = 3
  · subst c3
    refine ifT (by decide) ?_
    refine ⟨szl (show 3 < 100000 by decide), fun p1 h1 => ⟨_, rfl, szl (show 3 < 100000 by decide), fun p2 h2 => ⟨_, rfl, szl (show 3 < 100000 by decide), fun p3 h3 => ⟨szl (show 3 < 100000 by decide), fun l hl => ?_⟩⟩⟩⟩
    have y1 := x1.keep (o := .lst (vi [1, 2, 2])) h1
    have y2 := y1.keep (o := .lst (vi [2, 1, -2])) h2
    have y3 := y2.keep (o := .lst (vi [2, -2, 1])) h3
    exact q l _ [(p1, [1, 2, 2]), (p2, [2, 1, -2]), (p3, [2, -2, 1])] _ ((((b1.keep h1).keep h2).keep h3).keep hl) (y3.keep hl) (y3.ne hl) upd_same
      (all1 ((((Rw.new (xs := [1, 2, 2]) x1 h1).keep h2).keep h3).keep hl) (all1 (((Rw.new (xs := [2, 1, -2]) y1 h2).keep h3).keep hl) (all1 ((Rw.new (xs := [2, -2, 1]) y2 h3).keep hl) all0))) good3
  refine ifF (by simp; omega) ?_
  refine ⟨_, rfl, rfl, _, rfl, ?_⟩
  by_cases c5 : d = 5
  · subst c5
    refine ifT (by decide) ?_
    refine ⟨szl (show 5 < 100000 by decide), fun p1 h1 => ⟨_, rfl, _, rfl, szl (show 5 < 100000 by decide), fun p2 h2 => ⟨_, rfl, _, rfl, szl (show 5 < 100000 by decide), fun p3 h3 => ⟨_, rfl, _, rfl, szl (show 5 < 100000 by decide), fun p4 h4 => ⟨szl (show 5 < 100000 by decide), fun p5 h5 => ⟨szl (show 5 < 100000 by decide), fun l hl => ?_⟩⟩⟩⟩⟩⟩
    have y1 := x1.keep (o := .lst (vi [1, 1, 1, 1, 0])) h1
    have y2 := y1.keep (o := .lst (vi [1, -1, 1, -1, 0])) h2
    have y3 := y2.keep (o := .lst (vi [1, 1, -1, -1, 0])) h3
    have y4 := y3.keep (o := .lst (vi [1, -1, -1, 1, 0])) h4
    have y5 := y4.keep (o := .lst (vi [0, 0, 0, 0, 2])) h5
    exact q l _ [(p1, [1, 1, 1, 1, 0]), (p2, [1, -1, 1, -1, 0]), (p3, [1, 1, -1, -1, 0]), (p4, [1, -1, -1, 1, 0]), (p5, [0, 0, 0, 0, 2])] _ ((((((b1.keep h1).keep h2).keep h3).keep h4).keep h5).keep hl) (y5.keep hl) (y5.ne hl) upd_same
      (all1 ((((((Rw.new (xs := [1, 1, 1, 1, 0]) x1 h1).keep h2).keep h3).keep h4).keep h5).keep hl) (all1 (((((Rw.new (xs := [1, -1, 1, -1, 0]) y1 h2).keep h3).keep h4).keep h5).keep hl) (all1 ((((Rw.new (xs := [1, 1, -1, -1, 0]) y2 h3).keep h4).keep h5).keep hl)
        (all1 (((Rw.new (xs := [1, -1, -1, 1, 0]) y3 h4).keep h5).keep hl) (all1 ((Rw.new (xs := [0, 0, 0, 0, 2]) y4 h5).keep hl) all0))))) good5
  refine ifF (by simp; omega) ?_
  have c4 : d = 4 := by omega
  subst c4
  refine ⟨_, rfl, b, 3, rfl, x1, by decide, W.small (by decide), fun a0 H2 a1 a2 b2 x2 => ⟨_, _, rfl, rfl, ?_⟩⟩
  refine ⟨_, rfl, b, 4, rfl, x2, by decide, W.small (by decide), fun bb H3 bb1 bb2 b3 x3 => ?_⟩
  refine ⟨_, rfl, b, 4, rfl, x3, by decide, W.small (by decide), fun cc H4 cc1 cc2 b4 x4 => ?_⟩
  refine ⟨_, rfl, b, 4, rfl, x4, by decide, W.small (by decide), fun dd H5 dd1 dd2 b5 x5 => ?_⟩
  refine ⟨szl (show 4 < 100000 by decide), fun tp htp => ⟨tp, _, rfl, upd_same, rfl, _, _, rfl, _, _, rfl, _, _, rfl, _, _, rfl, rfl, ?_⟩⟩
  have x6 := x5.keep (o := .tup [.int (1 + a0), .int bb, .int cc, .int dd]) htp
  have b6 := ((((b1.trans b2).trans b3).trans b4).trans b5).keep (o := .tup [.int (1 + a0), .int bb, .int cc, .int dd]) htp
  refine ⟨_, rfl, _, rfl, _, rfl, _, rfl, szl (show 4 < 100000 by decide), fun p1 h1 => ?_⟩
  refine ⟨_, rfl, _, _, rfl, rfl, _, rfl, _, rfl, _, _, rfl, rfl, _, rfl, szl (show 4 < 100000 by decide), fun p2 h2 => ?_⟩
  refine ⟨_, rfl, _, _, rfl, rfl, _, rfl, _, rfl, _, rfl, _, _, rfl, rfl, szl (show 4 < 100000 by decide), fun p3 h3 => ?_⟩
  refine ⟨_, rfl, _, _, rfl, rfl, _, rfl, _, _, rfl, rfl, _, rfl, _, rfl, szl (show 4 < 100000 by decide), fun p4 h4 => ?_⟩
  refine ⟨szl (show 4 < 100000 by decide), fun l hl => ?_⟩
  have y1 := x6.keep (o := .lst (vi [1 + a0, bb, cc, dd])) h1
  have y2 := y1.keep (o := .lst (vi [0 - bb, 1 + a0, 0 - dd, cc])) h2
  have y3 := y2.keep (o := .lst (vi [0 - cc, dd, 1 + a0, 0 - bb])) h3
  have y4 := y3.keep (o := .lst (vi [0 - dd, 0 - cc, bb, 1 + a0])) h4
  exact q l _ [(p1, [1 + a0, bb, cc, dd]), (p2, [0 - bb, 1 + a0, 0 - dd, cc]), (p3, [0 - cc, dd, 1 + a0, 0 - bb]), (p4, [0 - dd, 0 - cc, bb, 1 + a0])] _ (((((b6.keep h1).keep h2).keep h3).keep h4).keep hl) (y4.keep hl) (y4.ne hl) upd_same
    (all1 (((((Rw.new (xs := [1 + a0, bb, cc, dd]) x6 h1).keep h2).keep h3).keep h4).keep hl) (all1 ((((Rw.new (xs := [0 - bb, 1 + a0, 0 - dd, cc]) y1 h2).keep h3).keep h4).keep hl) (all1 (((Rw.new (xs := [0 - cc, dd, 1 + a0, 0 - bb]) y2 h3).keep h4).keep hl)
      (all1 ((Rw.new (xs := [0 - dd, 0 - cc, bb, 1 + a0]) y3 h4).keep hl) all0)))) (good4 (by omega) (by omega) (by omega) (by omega))
end PB

/-! ## M3 -/
set_option Elab.async false
set_option linter.all false
set_option maxHeartbeats 4000000
namespace PB
def newRow (d : Nat) (ord : List Nat) (sg : List Int) (s : Int) (r : List Int) : List Int := (List.range d).map fun k => r.getD (ord.getD k 0) 0 * sg.getD k 0 * s
theorem newRow_len {d : Nat} {ord : List Nat} {sg : List Int} {s : Int} {r : List Int} : (newRow d ord sg s r).length = d := by simp [newRow]
theorem newRow_at {d : Nat} {ord : List Nat} {sg : List Int} {s : Int} {r : List Int} {k : Nat} (h : k < d) : (newRow d ord sg s r).getD k 0 = r.getD (ord.getD k 0) 0 * sg.getD k 0 * s := by
  unfold newRow
  rw [List.getD_eq_getElem?_getD, List.getElem?_map, List.getElem?_range h]
  rfl
theorem ord_sum {d : Nat} {ord : List Nat} (h : ord.Perm (List.range d)) (f : Nat → Int) : ((List.range d).map fun k => f (ord.getD k 0)).sum = ((List.range d).map f).sum := by
  have hl : ord.length = d := by rw [h.length_eq, List.length_range]
  have e : (List.range d).map (fun k => f (ord.getD k 0)) = ord.map f := by
    apply List.ext_getElem
    · simp [hl]
    · intro i h1 h2
      rw [List.length_map] at h2
      simp [List.getD_eq_getElem?_getD, List.getElem?_eq_getElem h2]
  rw [e]
  exact sum_perm (h.map f)
theorem getD_mem {α : Type} {l : List α} {k : Nat} {x : α} (h : k < l.length) : l.getD k x ∈ l := by
  rw [List.getD_eq_getElem?_getD, List.getElem?_eq_getElem h]
  exact List.getElem_mem h
theorem sg_sq {sg : List Int} (h : ∀ x ∈ sg, x = 1 ∨ x = -1) {k : Nat} (hk : k < sg.length) : sg.getD k 0 * sg.getD k 0 = 1 := by
  rcases h _ (getD_mem hk) with e | e <;> rw [e] <;> decide
structure Spun (d : Nat) (N t : Int) (base : List (List Int)) (ord : List Nat) (sg : List Int) (ps : List (List Int × Int)) : Prop where
  lo : 2 ≤ d
  hi : d ≤ 5
  good : GoodBase d N base
  ordp : ord.Perm (List.range d)
  sgl : sg.length = d
  sg1 : ∀ x ∈ sg, x = 1 ∨ x = -1
  perm : (ps.map (·.1)).Perm base
  ss : ∀ p ∈ ps, p.2 = t ∨ p.2 = -t
  t1 : 1 ≤ t
  fit : ∀ r ∈ base, ∀ x ∈ r, (x.natAbs : Int) * t ≤ 9
def spin (d : Nat) (ord : List Nat) (sg : List Int) (ps : List (List Int × Int)) : List (List Int) := ps.map fun p => newRow d ord sg p.2 p.1
section
variable {d : Nat} {N t : Int} {base : List (List Int)} {ord : List Nat} {sg : List Int} {ps : List (List Int × Int)}
theorem Spun.mem (h : Spun d N t base ord sg ps) {p : List Int × Int} (hp : p ∈ ps) : p.1 ∈ base := h.perm.subset (List.mem_map.mpr ⟨p, hp, rfl⟩)
theorem Spun.ss2 (h : Spun d N t base ord sg ps) {p : List Int × Int} (hp : p ∈ ps) : p.2 * p.2 = t * t := by
  rcases h.ss p hp with e | e
  · rw [e]
  · rw [e, Int.neg_mul_neg]
theorem Spun.ordl (h : Spun d N t base ord sg ps) : ord.length = d := by rw [h.ordp.length_eq, List.length_range]
theorem Spun.ordlt (h : Spun d N t base ord sg ps) {k : Nat} (hk : k < d) : ord.getD k 0 < d := by
  have := h.ordp.subset (getD_mem (x := 0) (by rw [h.ordl]; exact hk) : ord.getD k 0 ∈ ord)
  exact List.mem_range.mp this
theorem Spun.dot (h : Spun d N t base ord sg ps) {p q : List Int × Int} (hp : p ∈ ps) (hq : q ∈ ps) : PB.dot (newRow d ord sg p.2 p.1) (newRow d ord sg q.2 q.1) = (p.2 * q.2) * PB.dot p.1 q.1 := by
  have l1 := (h.good.row _ (h.mem hp)).1
  have l2 := (h.good.row _ (h.mem hq)).1
  rw [dot_rng l1 l2, ← ord_sum h.ordp (fun k => p.1.getD k 0 * q.1.getD k 0), ← sum_mul]
  unfold newRow
  rw [dot_map]
  refine sum_congr fun k hk => ?_
  have := sg_sq h.sg1 (k := k) (by rw [h.sgl]; exact List.mem_range.mp hk)
  grind
theorem Spun.keeps (h : Spun d N t base ord sg ps) : Keeps d (t * t * N) (spin d ord sg ps) := by
  refine ⟨fun r hr => ?_, fun k l hk hl => ?_⟩
  · obtain ⟨p, _, rfl⟩ := List.mem_map.mp hr
    exact newRow_len
  · have e1 : cp (spin d ord sg ps) k l = (t * t * (sg.getD k 0 * sg.getD l 0)) * cp (ps.map (·.1)) (ord.getD k 0) (ord.getD l 0) := by
      unfold cp spin
      rw [List.map_map, List.map_map, ← sum_mul]
      refine sum_congr fun p hp => ?_
      have := h.ss2 hp
      simp only [Function.comp, newRow_at hk, newRow_at hl]
      grind
    have e2 : cp (ps.map (·.1)) (ord.getD k 0) (ord.getD l 0) = cp base (ord.getD k 0) (ord.getD l 0) := sum_perm (h.perm.map _)
    rw [e1, e2, h.good.col _ _ (h.ordlt hk) (h.ordlt hl)]
    by_cases c : k = l
    · subst c
      rw [if_pos rfl, if_pos rfl, sg_sq h.sg1 (by rw [h.sgl]; exact hk)]
      simp
    · rw [if_neg c, if_neg]
      · simp
      · intro z
        have nd : ord.Nodup := h.ordp.nodup_iff.mpr List.nodup_range
        have hk' : k < ord.length := by rw [h.ordl]; exact hk
        have hl' : l < ord.length := by rw [h.ordl]; exact hl
        refine c (nodup_at nd (x := ord.getD k 0) ?_ ?_)
        · rw [List.getD_eq_getElem?_getD, List.getElem?_eq_getElem hk']
          rfl
        · rw [z, List.getD_eq_getElem?_getD, List.getElem?_eq_getElem hl']
          rfl
theorem Spun.ok (h : Spun d N t base ord sg ps) : SqOk d (t * t * N) (spin d ord sg ps) := by
  have hlen : ps.length = d := by
    have := h.perm.length_eq
    rw [List.length_map, h.good.len] at this
    exact this
  have same : ∀ r ∈ spin d ord sg ps, PB.dot r r = t * t * N := fun r hr => by
    obtain ⟨p, hp, rfl⟩ := List.mem_map.mp hr
    rw [h.dot hp hp, h.ss2 hp, h.good.same _ (h.mem hp)]
  have row : ∀ r ∈ spin d ord sg ps, r.length = d ∧ ∀ x ∈ r, -9 ≤ x ∧ x ≤ 9 := fun r hr => by
    obtain ⟨p, hp, rfl⟩ := List.mem_map.mp hr
    refine ⟨newRow_len, fun x hx => ?_⟩
    obtain ⟨k, hk, rfl⟩ := List.mem_map.mp hx
    have hk := List.mem_range.mp hk
    have lr := (h.good.row _ (h.mem hp)).1
    have hm : p.1.getD (ord.getD k 0) 0 ∈ p.1 := getD_mem (by rw [lr]; exact h.ordlt hk)
    have f := h.fit _ (h.mem hp) _ hm
    have hsk : k < sg.length := by rw [h.sgl]; exact hk
    have hs := h.sg1 _ (getD_mem (x := 0) hsk)
    have ht := h.t1
    generalize p.1.getD (ord.getD k 0) 0 = y at *
    have habs : (y * sg.getD k 0 * p.2).natAbs = y.natAbs * t.natAbs := by
      rw [Int.natAbs_mul, Int.natAbs_mul]
      have e1 : (sg.getD k 0).natAbs = 1 := by rcases hs with e | e <;> rw [e] <;> rfl
      have e2 : p.2.natAbs = t.natAbs := by rcases h.ss p hp with e | e <;> rw [e]; exact Int.natAbs_neg t
      rw [e1, e2, Nat.mul_one]
    have f2 : y.natAbs * t.natAbs ≤ 9 := by
      have : ((y.natAbs * t.natAbs : Nat) : Int) ≤ 9 := by
        rw [Int.natCast_mul, Int.natAbs_of_nonneg (show 0 ≤ t by omega)]
        exact f
      omega
    omega
  have hL : 0 < t * t * N := Int.mul_pos (Int.mul_pos (by have := h.t1; omega) (by have := h.t1; omega)) h.good.pos
  refine ⟨h.lo, h.hi, by simp [spin, hlen], fun r hr => ?_, hL, ?_, same, ?_⟩
  · unfold isRow
    rw [Bool.and_eq_true, decide_eq_true_eq, List.all_eq_true]
    refine ⟨by rw [(row r hr).1], fun x hx => decide_eq_true ?_⟩
    have := (row r hr).2 x hx
    omega
  · have hlo := h.lo
    obtain ⟨p, hp⟩ : ∃ p, p ∈ ps := by
      cases ps with
      | nil => simp at hlen; omega
      | cons p _ => exact ⟨p, by simp⟩
    have hm : newRow d ord sg p.2 p.1 ∈ spin d ord sg ps := List.mem_map.mpr ⟨p, hp, rfl⟩
    rw [← same _ hm]
    have hr := row _ hm
    generalize newRow d ord sg p.2 p.1 = r at hr
    have key : ∀ l : List Int, (∀ x ∈ l, -9 ≤ x ∧ x ≤ 9) → PB.dot l l ≤ 81 * l.length := fun l => by
      induction l with
      | nil => intro _; simp [PB.dot]
      | cons x l ih =>
        intro hx
        have i := ih fun y hy => hx y (by simp [hy])
        have b := hx x (by simp)
        have : x * x ≤ 81 := by
          have : x.natAbs ≤ 9 := by omega
          have h2 : x.natAbs * x.natAbs ≤ 9 * 9 := Nat.mul_le_mul this this
          have h3 : ((x.natAbs * x.natAbs : Nat) : Int) = x * x := Int.natAbs_mul_self
          omega
        unfold PB.dot at *
        simp only [List.zipWith_cons_cons, List.sum_cons, List.length_cons]
        omega
    have k := key r hr.2
    have := h.hi
    rw [hr.1] at k
    omega
  · intro i j r s hi hj hji
    have pw : ps.Pairwise fun p q => PB.dot p.1 q.1 = 0 := by
      have := (h.perm.pairwise_iff (R := fun r s => PB.dot r s = 0) (fun {x y} z => by
        rw [← z]
        unfold PB.dot
        rw [List.zipWith_comm]
        simp only [Int.mul_comm])).mpr h.good.orth
      exact List.pairwise_map.mp this
    unfold spin at hi hj
    rw [List.getElem?_map] at hi hj
    obtain ⟨p, hp, rfl⟩ := Option.map_eq_some_iff.mp hi
    obtain ⟨q, hq, rfl⟩ := Option.map_eq_some_iff.mp hj
    obtain ⟨i1, i2⟩ := List.getElem?_eq_some_iff.mp hp
    obtain ⟨j1, j2⟩ := List.getElem?_eq_some_iff.mp hq
    rw [h.dot (List.mem_of_getElem? hp) (List.mem_of_getElem? hq)]
    have z := List.pairwise_iff_getElem.mp pw j i j1 i1 hji
    rw [j2, i2] at z
    have z2 : PB.dot p.1 q.1 = PB.dot q.1 p.1 := by
      unfold PB.dot
      rw [List.zipWith_comm]
      simp only [Int.mul_comm]
    rw [z2, z]
    simp
end
end PB

/-! ## S15 -/
set_option Elab.async false
set_option linter.all false
set_option maxRecDepth 100000
set_option maxHeartbeats 4000000
namespace PB
open PySem PySem.Spec PyProof.Rows L2
variable {P : Program} {w : World} {K : PySem.W.Frag} {mg : Str → Option Value} {base : Heap}
/-- what may be turned: numbers, or lists of numbers that are not the box -/
def TD (b : Addr) (H : Hp) (x : V) : Prop := (∃ i : Int, x = .int i) ∨ ∃ r ns, x = .ref r ∧ Rw b H r ns
theorem TD.but {b : Addr} {H H' : Hp} {x : V} (h : TD b H x) (s : But b H H') : TD b H' x := by
  rcases h with h | ⟨r, ns, e, h⟩
  · exact .inl h
  · exact .inr ⟨r, ns, e, h.but s⟩
theorem td_dp {K : PySem.W.Frag} {b : Addr} {H : Hp} : ∀ {xs : List V}, (∀ x ∈ xs, TD b H x) → ∃ ds, DpAll K H xs ds ∧ PyData.canLayAll0 ds = true ∧ PyData.depthAll ds ≤ 1 ∧ ds.length = xs.length
  | [], _ => ⟨[], .nil, by simp only [PyData.canLayAll0], by simp only [PyData.depthAll]; omega, rfl⟩
  | x :: xs, h => by
    obtain ⟨ds, h1, h2, h3, h4⟩ := td_dp (K := K) (xs := xs) fun y hy => h y (by simp [hy])
    rcases h x (by simp) with ⟨i, rfl⟩ | ⟨r, ns, rfl, n, e⟩
    · exact ⟨.int i :: ds, .cons (.int i) h1, by simp only [PyData.canLayAll0, PyData.canLay0, h2, Bool.and_self], by simp only [PyData.depthAll, PyData.depth]; omega, by simp [h4]⟩
    · obtain ⟨k1, k2, k3⟩ := plain_all (K := K) (H := H) (plain_ints ns)
      exact ⟨.list (ns.map PyData.int) :: ds, .cons (.lst (sqL e) k1) h1, by simp only [PyData.canLayAll0, PyData.canLay0, k2, h2, Bool.and_self], by simp only [PyData.depthAll, PyData.depth, k3]; omega, by simp [h4]⟩
theorem eqv_nil2 : ∀ ds : List PyData, PyData.eqv (.list ds) (.list []) = ds.isEmpty
  | [] => by simp [PyData.eqv, PyData.eqvAll]
  | _ :: _ => by simp [PyData.eqv, PyData.eqvAll]
theorem perm_erase {α : Type} : ∀ (l : List α) (k : Nat) (h : k < l.length), (l[k] :: l.eraseIdx k).Perm l
  | [], _, h => absurd h (by simp)
  | x :: l, 0, _ => List.Perm.refl _
  | x :: l, k + 1, h => (List.Perm.swap x _ _).trans (List.Perm.cons x (perm_erase l k (by simpa using h)))
theorem sgn_at {t : Int} (h0 : 0 ≤ t) (h : t < 2) : ∃ s : Int, (s = 1 ∨ s = -1) ∧ atI [V.int 1, V.int (-1)] t = some (.int s) := by
  have : t = 0 ∨ t = 1 := by omega
  rcases this with rfl | rfl
  · exact ⟨1, .inl rfl, at0⟩
  · exact ⟨-1, .inr rfl, at1⟩
def sp_law_turned : Sp := fun vs H Q E => ∃ (b a : Addr) (t : Bool) (xs : List V), vs = [.ref b, .ref a] ∧ BoxAt H b ∧ H a = some (RowF t xs) ∧ xs.length ≤ 5 ∧ (∀ x ∈ xs, TD b H x) ∧ (∀ l H' ys, But b H H' → BoxAt H' b → l ≠ b → ys.Perm xs → H' l = some (.lst ys) → Q (.ref l) H')
theorem g_law_turned (T : TX K mg) (D : At K mg "_law_turned" d_law_turned) (c_law_take : Cl P w K mg base C8.CX0 1 "_law_take" sp_law_take) : Cl P w K mg base C8.CX0 2 "_law_turned" sp_law_turned := by
  refine cl_of (k := 1) D sc_law_turned (fun _ _ _ _ _ _ us hl => match us, hl with | [_, _], _ => rfl) (fun vs H Q E h => by
    obtain ⟨b, a, t, xs, rfl, hb, ha, h5, htd, q⟩ := h
    rfl) ?_
  intro f cdv A outer s H vs Q E hr h
  obtain ⟨b, a, t, xs, rfl, hb, ha, h5, htd, q⟩ := h
  refine ⟨_, (PSs.nox (pss_cons (ps_set (i := 2) sc_law_turned.nd rfl (Or.inl rfl) (pe_callTy k_list (by rfl) T.b_list bt_list (pa_cons (pv 1) pa_nil)))
 (pss_cons (ps_set (i := 3) sc_law_turned.nd rfl (Or.inl rfl) (pe_lst pa_nil))
 (pss_cons (ps_while PassesOwn.never (pt_cmpR (op_neD hr.units) (pv 2) (pe_lst pa_nil) (nomark _))
 (pss_one (ps_expr (pe_bm PySem.F.plainAttrs_list PySem.F.slot_list_append PySem.F.type_list_append mt_append (pv 3) (pa_cons (pe_bm PySem.F.plainAttrs_list PySem.F.slot_list_pop PySem.F.type_list_pop mt_popAt (pv 2) (pa_cons (pe_cl c_law_take hr (by decide) (by rfl) (pa_cons (pv 0) (pa_cons (pe_callB k_len (by rfl) T.b_len bt_len (pa_cons (pv 2) pa_nil)) pa_nil))) pa_nil)) pa_nil)))))
 (pss_one (ps_ret (pv 3))))))), ?_⟩
  refine ⟨_, rfl, _, _, _, rfl, ha, fun L hL => ?_⟩
  refine ⟨szl (show 0 < 100000 by decide), fun F hF => ?_⟩
  have x1 := hb.keep (o := .lst xs) hL
  have x2 := x1.keep (o := .lst []) hF
  have nL : L ≠ b := hb.ne hL
  have nF : F ≠ b := x1.ne hF
  have fF : H F = none := same_none (same_upd hL) hF
  have nLF : L ≠ F := fun c => by rw [c, upd_same] at hF; cases hF
  refine ⟨fun m σ' H' => But b H H' ∧ BoxAt H' b ∧ ∃ rest done : List V, H' L = some (.lst rest) ∧ H' F = some (.lst done) ∧ (done ++ rest).Perm xs ∧ m = rest.length ∧ σ' = [some (.ref b), some (.ref a), some (.ref L), some (.ref F)],
    ⟨_, ((Same.but (same_upd hL)).keep hF), x2, xs, [], by rw [upd_ne nLF, upd_same], upd_same, List.Perm.refl _, rfl, rfl⟩, ?_⟩
  rintro m _ H1 ⟨b1, x1, rest, done, eL, eF, pm, rfl, rfl⟩
  have htd1 : ∀ x ∈ rest, TD b H1 x := fun x hx => (htd x (pm.subset (List.mem_append_right _ hx))).but b1
  refine ⟨_, rfl, szl (show 0 < 100000 by decide), fun e he => ?_⟩
  obtain ⟨ds, k1, k2, k3, k4⟩ := td_dp (K := K) (xs := rest) fun x hx => (htd1 x hx).but (Same.but (same_upd (o := .lst []) he))
  have lrest : done.length + rest.length = xs.length := by rw [← pm.length_eq, List.length_append]
  refine ⟨.list ds, .list [], .lst (sqL (upd_get he eL)) k1, .lst (sqL upd_same) .nil, by unfold SeqAt.shaped; simp only [PyData.canLay0, k2, PyData.depth]; simp; omega, by decide, _, rfl, ?_⟩
  rw [eqv_nil2]
  by_cases c : rest = []
  · subst c
    have d0 : ds = [] := List.eq_nil_of_length_eq_zero k4
    subst d0
    refine ⟨_, rfl, q F _ done (b1.keep he) (x1.keep he) nF (by simpa using pm) (upd_get he eF)⟩
  · have dn : ds.isEmpty = false := by
      cases ds with
      | nil => exact absurd (List.eq_nil_of_length_eq_zero k4.symm) c
      | cons _ _ => rfl
    refine ifT (by rw [dn]; rfl) ?_
    have lp : 0 < rest.length := List.length_pos_iff.mpr c
    refine ⟨fun σ' H' => But b H H' ∧ BoxAt H' b ∧ ∃ rest' done' : List V, H' L = some (.lst rest') ∧ H' F = some (.lst done') ∧ (done' ++ rest').Perm xs ∧ rest'.length < rest.length ∧ σ' = [some (.ref b), some (.ref a), some (.ref L), some (.ref F)],
      fun σ' H' ⟨z1, z2, r', d', z3, z4, z5, z6, z7⟩ => ⟨_, z6, z1, z2, r', d', z3, z4, z5, rfl, z7⟩, ?_⟩
    refine ⟨_, rfl, tyL (upd_get he eF), _, rfl, tyL (upd_get he eL), _, rfl, _, rfl, _, false, rest, rfl, upd_get he eL, b, _, rfl, x1.keep he, by omega, W.small (by omega), fun d H3 d0 d1 b3 x3 => ?_⟩
    obtain ⟨k, rfl⟩ := Int.eq_ofNat_of_zero_le d0
    have hk : k < rest.length := by omega
    have eL3 := b3 _ _ nL (upd_get (u := .lst []) he eL)
    have eF3 := b3 _ _ nF (upd_get (u := .lst []) he eF)
    have b13 := (b1.keep (o := .lst []) he).trans b3
    have fL : H L = none := hL
    refine ⟨L, rest, _, k, rest[k], rfl, rfl, eL3, by omega, by omega, (L2.ixN_seq (by unfold ixN; rw [if_pos (by omega), if_pos (by omega)]; simp)).1, by simp [hk], ?_⟩
    refine ⟨F, done, rest[k], rfl, rfl, by rw [upd_ne nLF.symm]; exact eF3, sz_small (by omega), ?_⟩
    refine ⟨(b13.wr fL).wr fF, (x3.upd nL).upd nF, rest.eraseIdx k, done ++ [rest[k]], by rw [upd_ne nLF, upd_same], upd_same, ?_, by rw [List.length_eraseIdx_of_lt hk]; omega, rfl⟩
    refine List.Perm.trans ?_ pm
    rw [List.append_assoc]
    refine List.Perm.append_left _ ?_
    exact perm_erase rest k hk
theorem perm_lift {α β : Type} {f : α → β} {ys zs : List β} (h : ys.Perm zs) : ∀ l : List α, zs = l.map f → ∃ l' : List α, List.Perm l' l ∧ ys = List.map f l' := by
  induction h with
  | nil => intro l e; exact ⟨l, List.Perm.refl _, e⟩
  | cons x _ ih =>
    intro l e
    cases l with
    | nil => cases e
    | cons a l =>
      rw [List.map_cons, List.cons.injEq] at e
      obtain ⟨l', p, e'⟩ := ih l e.2
      exact ⟨a :: l', p.cons a, by rw [List.map_cons, e.1, e']⟩
  | swap x y m =>
    intro l e
    cases l with
    | nil => cases e
    | cons a l =>
      cases l with
      | nil => cases e
      | cons c l =>
        rw [List.map_cons, List.map_cons, List.cons.injEq, List.cons.injEq] at e
        exact ⟨c :: a :: l, List.Perm.swap _ _ _, by rw [List.map_cons, List.map_cons, e.1, e.2.1, e.2.2]⟩
  | trans _ _ ih1 ih2 =>
    intro l e
    obtain ⟨l1, p1, e1⟩ := ih2 l e
    obtain ⟨l2, p2, e2⟩ := ih1 l1 e1
    exact ⟨l2, p2.trans p1, e2⟩
theorem dot_zero : ∀ l : List Int, (∀ x ∈ l, x = 0) → dot l l = 0
  | [], _ => rfl
  | x :: l, h => by
    have i := dot_zero l fun y hy => h y (by simp [hy])
    have e := h x (by simp)
    unfold dot at *
    rw [List.zipWith_cons_cons, List.sum_cons, i, e]
    rfl
def sp_law_square : Sp := fun vs H Q E => ∃ (b : Addr) (d : Nat), vs = [.ref b, .int (d : Nat)] ∧ BoxAt H b ∧ 2 ≤ d ∧ d ≤ 5 ∧ (∀ a H' rows L, But b H H' → BoxAt H' b → SqAt H' a rows → SqOk d L rows → Keeps d L rows → Q (.ref a) H')
theorem vi_at {xs : List Int} {k : Nat} (h : k < xs.length) : atI (vi xs) (k : Int) = some (.int (xs.getD k 0)) := by
  rw [atI_nat (by rw [vi_len]; exact h), List.getElem_map, List.getD_eq_getElem?_getD, List.getElem?_eq_getElem h]
  rfl
theorem g_law_square (T : TX K mg) (D : At K mg "_law_square" d_law_square) (c_law_base : Cl P w K mg base C8.CX0 2 "_law_base" sp_law_base) (c_law_take : Cl P w K mg base C8.CX0 1 "_law_take" sp_law_take) (c_law_turned : Cl P w K mg base C8.CX0 2 "_law_turned" sp_law_turned) : Cl P w K mg base C8.CX0 3 "_law_square" sp_law_square := by
  refine cl_of (k := 2) D sc_law_square (fun _ _ _ _ _ _ us hl => match us, hl with | [_, _], _ => rfl) (fun vs H Q E h => by
    obtain ⟨b, d, rfl, hb, d2, d5, q⟩ := h
    rfl) ?_
  intro f cdv A outer s H vs Q E hr h
  obtain ⟨b, d, rfl, hb, d2, d5, q⟩ := h
  refine ⟨_, (PSs.nox (pss_cons (ps_set (i := 2) sc_law_square.nd rfl (Or.inl rfl) (pe_cl c_law_base hr (by decide) (by rfl) (pa_cons (pv 0) (pa_cons (pv 1) pa_nil))))
 (pss_cons (ps_set (i := 3) sc_law_square.nd rfl (Or.inl rfl) (pe_callB (k_max rfl) (by rfl) T.b_max bt_max (pa_cons (pe_lc (own := [("_law_row", 8)]) rfl sc_law_square.nd (k_row (pv 2)) (blkOk_by (N := ["_law_box_here", "_law_dims", "_law_rows", "_law_most", "_law_times_here", "_law_order", "_law_signs", "_law_found", "_law_row", "_law_sign", "_law_one", "_law_k"]) (sc := d_law_square.scope) (own := [("_law_row", 8)]) (by decide +kernel)) (fun _ _ _ _ _ => (pg_name (i := 8) sc_law_square.nd rfl (Or.inl rfl))) (fun _ _ _ _ _ => pts_nil) (fun _ _ _ _ _ => (pe_callB (k_max rfl) (by rfl) T.b_max bt_max (pa_cons (pe_lc (own := [("_law_one", 10)]) rfl sc_law_square.nd (k_row (pv 8)) (blkOk_by (by rfl)) (fun _ _ _ _ _ => (pg_name (i := 10) sc_law_square.nd rfl (Or.inl rfl))) (fun _ _ _ _ _ => pts_nil) (fun _ _ _ _ _ => (pe_callB call_abs (by rfl) T.b_abs bt_abs (pa_cons (pv 10) pa_nil)))) pa_nil)))) pa_nil)))
 (pss_cons (ps_set (i := 4) sc_law_square.nd rfl (Or.inl rfl) (pe_op op_add pe_int (pe_cl c_law_take hr (by decide) (by rfl) (pa_cons (pv 0) (pa_cons (pe_op op_fdivW pe_int (pv 3)) pa_nil)))))
 (pss_cons (ps_set (i := 5) sc_law_square.nd rfl (Or.inr rfl) (pe_cl c_law_turned hr (by decide) (by rfl) (pa_cons (pv 0) (pa_cons (pe_listRg rfl (by rfl) T.b_list (prg_1 (by rfl) T.b_range (pv 1))) pa_nil))))
 (pss_cons (ps_set (i := 6) sc_law_square.nd rfl (Or.inr rfl) (pe_lc (own := [("_law_k", 11)]) rfl sc_law_square.nd (pi_range1 rfl T.b_range (pa_cons (pv 1) pa_nil)) (blkOk_by (N := ["_law_box_here", "_law_dims", "_law_rows", "_law_most", "_law_times_here", "_law_order", "_law_signs", "_law_found", "_law_row", "_law_sign", "_law_one", "_law_k"]) (sc := d_law_square.scope) (own := [("_law_k", 11)]) (by decide +kernel)) (fun _ _ _ _ _ => (pg_name (i := 11) sc_law_square.nd rfl (Or.inl rfl))) (fun _ _ _ _ _ => pts_nil) (fun _ _ _ _ _ => (pe_ix k_ix (pe_lst (pa_cons pe_int (pa_cons (pe_un un_neg pe_int) pa_nil))) (pe_cl c_law_take hr (by decide) (by rfl) (pa_cons (pv 0) (pa_cons pe_int pa_nil))) (fun _ _ => rfl)))))
 (pss_cons (ps_set (i := 7) sc_law_square.nd rfl (Or.inl rfl) (pe_lst pa_nil))
 (pss_cons (ps_for PassesOwn.never rfl (k_row (pe_cl c_law_turned hr (by decide) (by rfl) (pa_cons (pv 0) (pa_cons (pv 2) pa_nil)))) (pg_name (i := 8) sc_law_square.nd rfl (Or.inr rfl))
 (pss_cons (ps_set (i := 9) sc_law_square.nd rfl (Or.inr rfl) (pe_op op_mul (pv 4) (pe_ix k_ix (pe_lst (pa_cons pe_int (pa_cons (pe_un un_neg pe_int) pa_nil))) (pe_cl c_law_take hr (by decide) (by rfl) (pa_cons (pv 0) (pa_cons pe_int pa_nil))) (fun _ _ => rfl))))
 (pss_one (ps_expr (pe_bm PySem.F.plainAttrs_list PySem.F.slot_list_append PySem.F.type_list_append mt_append (pv 7) (pa_cons (pe_lc (own := [("_law_k", 11)]) rfl sc_law_square.nd (pi_range1 rfl T.b_range (pa_cons (pv 1) pa_nil)) (blkOk_by (N := ["_law_box_here", "_law_dims", "_law_rows", "_law_most", "_law_times_here", "_law_order", "_law_signs", "_law_found", "_law_row", "_law_sign", "_law_one", "_law_k"]) (sc := d_law_square.scope) (own := [("_law_k", 11)]) (by decide +kernel)) (fun _ _ _ _ _ => (pg_name (i := 11) sc_law_square.nd rfl (Or.inl rfl))) (fun _ _ _ _ _ => pts_nil) (fun _ _ _ _ _ => (pe_op op_mul (pe_op op_mul (pe_ix k_ix (pv 8) (pe_ix k_ix (pv 5) (pv 11) (fun _ _ => rfl)) (fun _ _ => rfl)) (pe_ix k_ix (pv 6) (pv 11) (fun _ _ => rfl))) (pv 9)))) pa_nil))))))
 (pss_one (ps_ret (pe_ix k_ix (pe_lst (pa_cons (pv 7) (pa_cons (pe_callTy k_tuple (by rfl) T.b_tuple bt_tuple (pa_cons (pe_lc (own := [("_law_row", 8)]) rfl sc_law_square.nd (k_row (pv 7)) (blkOk_by (N := ["_law_box_here", "_law_dims", "_law_rows", "_law_most", "_law_times_here", "_law_order", "_law_signs", "_law_found", "_law_row", "_law_sign", "_law_one", "_law_k"]) (sc := d_law_square.scope) (own := [("_law_row", 8)]) (by decide +kernel)) (fun _ _ _ _ _ => (pg_name (i := 8) sc_law_square.nd rfl (Or.inl rfl))) (fun _ _ _ _ _ => pts_nil) (fun _ _ _ _ _ => (pe_callTy k_tuple (by rfl) T.b_tuple bt_tuple (pa_cons (pv 8) pa_nil)))) pa_nil)) pa_nil))) (pe_cl c_law_take hr (by decide) (by rfl) (pa_cons (pv 0) (pa_cons pe_int pa_nil))) (fun _ _ => rfl)))))))))))), ?_⟩
  refine ⟨_, rfl, _, rfl, b, d, rfl, hb, d2, d5, fun l H1 rs N b1 x1 nl e1 hrs gd => ?_⟩
  have hlen : rs.length = d := by
    have := gd.len
    rwa [List.length_map] at this
  have rowin : ∀ r ∈ rs, r.2.length = d ∧ ∀ x ∈ r.2, -9 ≤ x ∧ x ≤ 9 := fun r hr => gd.row r.2 (List.mem_map.mpr ⟨r, hr, rfl⟩)
  refine ⟨_, rfl, _, false, _, rfl, e1, fun J w D hD => ?_⟩
  rw [List.length_map] at w
  refine lc_rel (fun i v _ => ∀ r, rs[i]? = some r → ∃ m : Int, v = .int m ∧ m ∈ r.2.map (fun x => ((x.natAbs : Nat) : Int)) ∧ ∀ y ∈ r.2.map (fun x => ((x.natAbs : Nat) : Int)), y ≤ m) w hD (fun i H x H' y => yat_same i H x H' y) (fun H' s => s _ _ e1) (by omega) (fun _ _ _ _ h _ => h) (fun _ _ _ _ _ h _ => h) ?_ (fun i x H H' _ _ y A B k h => k _ _ h) ?_
  · rintro i x H2 _ hi s2 ⟨rfl, y⟩ R k
    rw [List.getElem?_map] at y
    obtain ⟨r, hr2, rfl⟩ := Option.map_eq_some_iff.mp y
    have hm := List.mem_of_getElem? hr2
    have hR := (hrs r hm).2
    refine ⟨rfl, _, rfl, _, false, _, rfl, s2 _ _ hR, fun J2 w2 D2 hD2 => lc_row r.2 V.int (fun x => .int ((x.natAbs : Nat) : Int)) w2 hD2 (fun H' s => s _ _ (s2 _ _ hR)) (by have := (rowin r hm).1; omega) (fun _ => rfl) ?_ ?_⟩
    · intro x H3 R3 hx s3 k3
      refine ⟨_, rfl, _, rfl, ?_⟩
      rw [abs_if]
      exact k3 _ (L2.Same.refl _)
    · intro H3 s3 e3
      refine ⟨_, r.2.map (fun x => ((x.natAbs : Nat) : Int)), rfl, by rw [e3, vi_map], by rw [List.length_map]; have := (rowin r hm).1; omega, fun m hm1 hm2 => k _ H3 s3 fun r' hr' => ?_⟩
      rw [hr2] at hr'
      obtain rfl := Option.some.inj hr'
      exact ⟨m, rfl, hm1, hm2⟩
  intro ys H2 s2 hl2 hy e2
  obtain ⟨ms, rfl, hms⟩ := choose (P := fun m : Int => ∃ r ∈ rs, m ∈ r.2.map (fun x => ((x.natAbs : Nat) : Int)) ∧ ∀ y ∈ r.2.map (fun x => ((x.natAbs : Nat) : Int)), y ≤ m) V.int (ys := ys) (fun y hy2 => by
    obtain ⟨i, hi⟩ := List.mem_iff_getElem?.mp hy2
    have hlt := (List.getElem?_eq_some_iff.mp hi).1
    obtain ⟨m, e, m1, m2⟩ := hy i y hi _ (List.getElem?_eq_getElem (by omega))
    exact ⟨m, ⟨_, List.getElem_mem _, m1, m2⟩, e⟩)
  refine ⟨_, ms, rfl, e2, by rw [List.length_map] at hl2; omega, fun most hm1 hm2 => ?_⟩
  have fit : ∀ r ∈ rs, ∀ x ∈ r.2, (x.natAbs : Int) ≤ most := by
    intro r hr2 x hx
    obtain ⟨i, hi⟩ := List.mem_iff_getElem?.mp hr2
    have hlt := (List.getElem?_eq_some_iff.mp hi).1
    rw [List.length_map] at hl2
    have him : ms[i]? = some ms[i] := List.getElem?_eq_getElem (by omega)
    obtain ⟨m, e, _, m2⟩ := hy i (.int ms[i]) (by rw [List.getElem?_map, him]; rfl) r hi
    have := m2 _ (List.mem_map.mpr ⟨x, hx, rfl⟩)
    have h3 := hm2 ms[i] (List.getElem_mem _)
    have h4 := V.int.inj e
    omega
  have m9 : 0 ≤ most ∧ most ≤ 9 := by
    obtain ⟨r, hr2, h1, _⟩ := hms most hm1
    obtain ⟨x, hx, e⟩ := List.mem_map.mp h1
    have := (rowin r hr2).2 x hx
    omega
  have m1 : 1 ≤ most := by
    obtain ⟨r, hr2⟩ : ∃ r, r ∈ rs := by
      cases rs with
      | nil => simp at hlen; omega
      | cons r _ => exact ⟨r, by simp⟩
    have hN := gd.same r.2 (List.mem_map.mpr ⟨r, hr2, rfl⟩)
    have hp := gd.pos
    have h5 : ¬ (most = 0) := fun z => by
      have : dot r.2 r.2 = 0 := dot_zero r.2 fun x hx => by have := fit r hr2 x hx; omega
      omega
    omega
  have q1 : 1 ≤ 9 / most := (Int.le_ediv_iff_mul_le (by omega)).mpr (by omega)
  have q2 : 9 / most ≤ 9 := Int.ediv_le_self _ (by decide)
  have x2 := x1.same s2
  refine ⟨_, rfl, _, rfl, _, _, rfl, rfl, (W.small (by omega)).divOk (by omega), b, _, rfl, x2, by omega, W.small (by omega), fun t0 H3 t1 t2 b3 x3 => ⟨_, _, rfl, rfl, ?_⟩⟩
  have tm : (1 + t0) * most ≤ 9 := by
    have h1 : (1 + t0) * most ≤ (9 / most) * most := Int.mul_le_mul_of_nonneg_right (by omega) (by omega)
    have h2 := Int.ediv_mul_le 9 (show most ≠ 0 by omega)
    omega
  have b03 := (b1.same2 s2).trans b3
  refine ⟨_, rfl, _, rfl, _, rfl, L2.RgOk.of_le (by decide) (by omega) (by decide) (by omega), fun rg hrg => ?_⟩
  refine ⟨b, rg, false, rgV 0 (d : Nat), rfl, x3.keep hrg, upd_same, by rw [rgV_length]; omega, ?_, fun lo H4 oy b4 x4 nlo pm4 e4 => ?_⟩
  · intro x hx
    obtain ⟨k, _, rfl⟩ := List.mem_map.mp hx
    exact .inl ⟨_, rfl⟩
  obtain ⟨ord, hord, rfl⟩ := perm_lift (f := fun k : Nat => V.int (k : Nat)) pm4 (List.range d) (by
    unfold rgV
    rw [show ((d : Int) - 0).toNat = d from by omega]
    exact List.map_congr_left fun k _ => by rw [Int.zero_add])
  have ordl : ord.length = d := by rw [hord.length_eq, List.length_range]
  have ordlt : ∀ k, k < d → ord.getD k 0 < d := fun k hk => List.mem_range.mp (hord.subset (getD_mem (x := 0) (by rw [ordl]; exact hk)))
  have b04 := (b03.keep (o := .lst (rgV 0 (d : Nat))) hrg).trans b4
  refine ⟨_, rfl, _, rfl, by omega, by omega, fun D2 hD2 => ?_⟩
  rw [Int.toNat_natCast]
  refine lc_rb b (fun _ v => ∃ s : Int, (s = 1 ∨ s = -1) ∧ v = .int s) hD2 x4 (by omega) (fun _ => rfl) ?_ ?_
  · intro i H5 hi b5 x5 R k
    refine ⟨_, rfl, szl (show 2 < 100000 by decide), fun l hl => ⟨_, rfl, b, 2, rfl, x5.keep hl, by decide, W.small (by decide), fun t H6 t0 t1 b6 x6 => ?_⟩⟩
    obtain ⟨s, hs, es⟩ := sgn_at t0 t1
    exact ⟨l, false, _, _, _, rfl, rfl, b6 _ _ (x5.ne hl) upd_same, es, k _ _ ((Same.but (same_upd hl)).trans b6) x6 ⟨s, hs, rfl⟩⟩
  intro sy H5 b5 x5 hl5 hy5 e5
  obtain ⟨sg, rfl, hsg⟩ := choose_i V.int hy5
  rw [List.length_map] at hl5
  have nD2 : D2 ≠ b := x4.ne hD2
  refine ⟨szl (show 0 < 100000 by decide), fun F hF => ?_⟩
  have nF : F ≠ b := x5.ne hF
  have b05 : But b H1 H5 := ((Same.but s2).trans ((b3.keep (o := .lst (rgV 0 (d : Nat))) hrg).trans b4)).trans b5
  have fF1 : H1 F = none := But.free b05 nF hF
  have hrs5 : ∀ r ∈ rs, Rw b (upd H5 F (.lst [])) r.1 r.2 := fun r hr => ((hrs r hr).but b05).keep hF
  refine ⟨_, rfl, _, rfl, b, l, false, _, rfl, x5.keep hF, upd_get hF (b05 _ _ nl e1), by rw [List.length_map]; omega, ?_, fun l2 H6 ys2 b6 x6 nl2 pm6 e6 => ?_⟩
  · intro x hx
    obtain ⟨r, hr2, rfl⟩ := List.mem_map.mp hx
    exact .inr ⟨r.1, r.2, rfl, hrs5 r hr2⟩
  obtain ⟨prs, hprs, rfl⟩ := perm_lift (f := fun r : Addr × List Int => V.ref r.1) pm6 rs rfl
  refine ⟨l2, false, _, rfl, e6, fun J w => ?_⟩
  rw [List.length_map] at w
  have hprl : prs.length = d := by rw [hprs.length_eq, hlen]
  have b16 : But b H1 H6 := (b05.keep (o := .lst []) hF).trans b6
  have hprs6 : ∀ r ∈ prs, Rw b H6 r.1 r.2 := fun r hr => (hrs5 r (hprs.subset hr)).but b6
  have lo6 : H6 lo = some (.lst (ord.map fun k : Nat => V.int (k : Nat))) := b6 _ _ nlo (upd_get hF (b5 _ _ nlo e4))
  have sg6 : H6 D2 = some (.lst (sg.map V.int)) := b6 _ _ nD2 (upd_get hF e5)
  have nl2F : l2 ≠ F := fun z => by
    have hz := b6 _ _ nF (upd_same (H := H5) (a := F) (o := .lst []))
    rw [← z, e6] at hz
    have := congrArg (fun o => match o with | some (HO.lst xs) => xs.length | _ => 99) hz
    simp [hprl] at this
    omega
  have rowF : ∀ r ∈ rs, r.1 ≠ F := fun r hr z => by
    have := (hrs r hr).2
    rw [z, fF1] at this
    cases this
  have fresh : ∀ {a : Addr} {o : HO}, H1 a = some o → a ≠ F := fun e z => by rw [z, fF1] at e; cases e
  have nloF : lo ≠ F := fun z => by
    have : H5 lo = some (.lst (ord.map fun k : Nat => V.int (k : Nat))) := b5 _ _ nlo e4
    rw [z, hF] at this
    cases this
  have nD2F : D2 ≠ F := fun z => by rw [z, hF] at e5; cases e5
  have bH6 : But b H H6 := b1.trans b16
  have fF : H F = none := But.free b1 nF fF1
  refine for_it w (fun i σ' H' => But b H H' ∧ BoxAt H' b ∧ H' l2 = some (.lst (prs.map fun r => V.ref r.1)) ∧ H' lo = some (.lst (ord.map fun k : Nat => V.int (k : Nat))) ∧ H' D2 = some (.lst (sg.map V.int)) ∧ (∀ r ∈ prs, Rw b H' r.1 r.2) ∧
      (∃ acc : List (Addr × List Int × Int), H' F = some (.lst (acc.map fun a => V.ref a.1)) ∧ acc.map (fun a => a.2.1) = (prs.take i).map (·.2) ∧ ∀ a ∈ acc, a.1 ≠ F ∧ (a.2.2 = 1 + t0 ∨ a.2.2 = -(1 + t0)) ∧ Rw b H' a.1 (newRow d ord sg a.2.2 a.2.1)) ∧
      ∃ z1 z2, σ' = [some (.ref b), some (.int (d : Nat)), some (.ref l), some (.int most), some (.int (1 + t0)), some (.ref lo), some (.ref D2), some (.ref F), z1, z2, none, none])
    ⟨bH6, x6, e6, lo6, sg6, hprs6, ⟨[], b6 _ _ nF upd_same, rfl, fun _ h => (List.not_mem_nil h).elim⟩, _, _, rfl⟩ (fun i σ' H' _ z => z.2.2.1) ?_ ?_
  · rintro i x _ H7 hi0 hi ⟨b7, x7, e7, lo7, sg7, pr7, ⟨acc, a1, a2, a3⟩, z1, z2, rfl⟩ ⟨rfl, y⟩
    rw [List.getElem?_map] at y
    obtain ⟨r, hr2, rfl⟩ := Option.map_eq_some_iff.mp y
    have hm := List.mem_of_getElem? hr2
    have hrm := hprs.subset hm
    have accl : acc.length = i := by
      have := congrArg List.length a2
      rw [List.length_map, List.length_map, List.length_take] at this
      omega
    refine ⟨_, rfl, _, rfl, szl (show 2 < 100000 by decide), fun ls hls => ⟨_, rfl, b, 2, rfl, x7.keep hls, by decide, W.small (by decide), fun t H8 tt0 tt1 b8 x8 => ?_⟩⟩
    obtain ⟨s, hs, es⟩ := sgn_at tt0 tt1
    have b78 := (Same.but (b := b) (same_upd (o := .lst [.int 1, .int (-1)]) hls)).trans b8
    refine ⟨ls, false, _, _, _, rfl, rfl, b8 _ _ (x7.ne hls) upd_same, es, _, _, rfl, rfl, .inl ⟨by omega, by omega⟩, ?_⟩
    have hR := (pr7 r hm).but b78
    have lo8 := b78 _ _ nlo lo7
    have sg8 := b78 _ _ nD2 sg7
    have a8 := b78 _ _ nF a1
    refine ⟨_, rfl, tyL a8, _, rfl, _, rfl, by omega, by omega, fun D3 hD3 => ?_⟩
    rw [Int.toNat_natCast]
    refine lc_rp (fun k => V.int (r.2.getD (ord.getD k 0) 0 * sg.getD k 0 * ((1 + t0) * s))) hD3 (by omega) (fun _ => rfl) ?_ ?_
    · intro k H9 hk s9 R kk
      have hrl := (rowin r hrm).1
      have hin : -9 ≤ r.2.getD (ord.getD k 0) 0 ∧ r.2.getD (ord.getD k 0) 0 ≤ 9 := (rowin r hrm).2 _ (getD_mem (by rw [hrl]; exact ordlt k hk))
      have hsk := hsg _ (getD_mem (x := 0) (show k < sg.length by omega))
      refine ⟨_, rfl, _, rfl, _, rfl, lo, false, _, _, .int (ord.getD k 0 : Nat), rfl, rfl, s9 _ _ lo8, ?_, ?_⟩
      · rw [Int.zero_add, atI_nat (by rw [List.length_map]; omega), List.getElem_map, List.getD_eq_getElem?_getD, List.getElem?_eq_getElem (by omega)]
        rfl
      refine ⟨r.1, false, _, _, _, rfl, rfl, s9 _ _ hR.2, vi_at (by rw [hrl]; exact ordlt k hk), _, rfl, _, rfl, D2, false, _, _, _, rfl, rfl, s9 _ _ sg8, by rw [Int.zero_add]; exact vi_at (show k < sg.length by omega), ?_⟩
      refine ⟨_, _, rfl, rfl, .inl ⟨by omega, by omega⟩, _, rfl, _, _, rfl, rfl, .inl ?_, kk _ (L2.Same.refl _)⟩
      rcases hsk with e | e <;> rw [e] <;> constructor <;> omega
    · intro H9 s9 e9
      have nD3 : D3 ≠ F := fun z => by rw [z, a8] at hD3; cases hD3
      have e9' : H9 D3 = some (.lst (vi (newRow d ord sg ((1 + t0) * s) r.2))) := by
        rw [e9]
        unfold newRow
        rw [vi_map]
      have keep : ∀ {a : Addr} {o : HO}, a ≠ b → a ≠ F → hi0 a = some o → upd H9 F (.lst (acc.map (fun a => V.ref a.1) ++ [V.ref D3])) a = some o := fun na nf e => by
        rw [upd_ne nf]
        exact s9 _ _ (b78 _ _ na e)
      refine ⟨F, _, .ref D3, rfl, rfl, s9 _ _ a8, sz_small (by rw [List.length_map]; omega), ((b7.trans b78).same2 s9).wr fF, (x8.same s9).upd nF, keep nl2 nl2F e7, keep nlo nloF lo7, keep nD2 nD2F sg7, fun r' hr' => ⟨(pr7 r' hr').1, keep (pr7 r' hr').1 (rowF r' (hprs.subset hr')) (pr7 r' hr').2⟩, ⟨acc ++ [(D3, r.2, (1 + t0) * s)], by rw [upd_same, List.map_append]; rfl, ?_, ?_⟩, _, _, rfl⟩
      · rw [List.map_append, a2, take_snoc hr2, List.map_append]
        rfl
      · intro a ha
        rcases List.mem_append.mp ha with ha | ha
        · exact ⟨(a3 a ha).1, (a3 a ha).2.1, (a3 a ha).2.2.1, keep (a3 a ha).2.2.1 (a3 a ha).1 (a3 a ha).2.2.2⟩
        · rw [List.mem_singleton.mp ha]
          refine ⟨nD3, ?_, (x8.ne hD3), ?_⟩
          · rcases hs with e | e <;> rw [e]
            · left
              show (1 + t0) * 1 = 1 + t0
              omega
            · right
              show (1 + t0) * -1 = -(1 + t0)
              omega
          · rw [upd_ne nD3]
            exact e9'
  · rintro _ H7 ⟨b7, x7, e7, lo7, sg7, pr7, ⟨acc, a1, a2, a3⟩, z1, z2, rfl⟩
    rw [show prs.take prs.length = prs from List.take_length] at a2
    have spun : Spun d N (1 + t0) (rs.map (·.2)) ord sg (acc.map (·.2)) := by
      refine ⟨d2, d5, gd, hord, hl5, hsg, ?_, ?_, by omega, ?_⟩
      · rw [List.map_map]
        show (acc.map fun a => a.2.1).Perm _
        rw [a2]
        exact hprs.map _
      · intro p hp
        obtain ⟨a, ha, rfl⟩ := List.mem_map.mp hp
        exact (a3 a ha).2.1
      · intro r hr2 x hx
        obtain ⟨r', hr', rfl⟩ := List.mem_map.mp hr2
        have := fit r' hr' x hx
        have h1 : (x.natAbs : Int) * (1 + t0) ≤ most * (1 + t0) := Int.mul_le_mul_of_nonneg_right this (by omega)
        rw [Int.mul_comm most] at h1
        omega
    have accl : acc.length = d := by
      have := congrArg List.length a2
      rw [List.length_map, List.length_map] at this
      omega
    have rowsE : (acc.map fun a => (a.1, newRow d ord sg a.2.2 a.2.1)).map (fun r : Addr × List Int => r.2) = spin d ord sg (acc.map (·.2)) := by
      unfold spin
      rw [List.map_map, List.map_map]
      rfl
    refine ⟨_, rfl, _, rfl, _, false, _, rfl, a1, fun J2 w2 D4 hD4 => lc_tup acc (fun a => V.ref a.1) (fun a p H' => H' p = some (.tup (vi (newRow d ord sg a.2.2 a.2.1)))) w2 hD4 (fun H' s => s _ _ a1) (by omega) (fun _ => rfl) (fun _ _ _ _ o s => s _ _ o) ?_ ?_ ?_⟩
    · intro x p H8 l l' o e
      rw [upd_ne (fun z => by rw [z, e] at o; cases o)]
      exact o
    · intro a H8 R ha s8 k
      exact ⟨_, rfl, a.1, false, _, rfl, s8 _ _ (a3 a ha).2.2.2, fun p H9 s9 e9 => k p H9 s9 e9⟩
    intro ps H8 s8 pp e8
    refine ⟨D4, false, _, rfl, e8, fun tp H9 s9 e9 => ⟨szl (show 2 < 100000 by decide), fun l9 hl9 => ⟨_, rfl, b, 2, rfl, ((x7.same s8).same s9).keep hl9, by decide, W.small (by decide), fun t H10 tt0 tt1 b10 x10 => ?_⟩⟩⟩
    have x9 := (x7.same s8).same s9
    have b710 : But b H7 H10 := ((Same.but (s8.trans s9)).keep hl9).trans b10
    have bfin := b7.trans b710
    have : t = 0 ∨ t = 1 := by omega
    rcases this with rfl | rfl
    · refine ⟨l9, false, _, _, _, rfl, rfl, b10 _ _ (x9.ne hl9) upd_same, at0, q F H10 (spin d ord sg (acc.map (·.2))) _ bfin x10 ⟨false, acc.map fun a => (a.1, newRow d ord sg a.2.2 a.2.1), ?_, ?_, rowsE⟩ spun.ok spun.keeps⟩
      · rw [List.map_map]
        exact b710 _ _ nF a1
      · intro r hr2
        obtain ⟨a, ha, rfl⟩ := List.mem_map.mp hr2
        exact ⟨false, b710 _ _ (a3 a ha).2.2.1 (a3 a ha).2.2.2⟩
    · refine ⟨l9, false, _, _, _, rfl, rfl, b10 _ _ (x9.ne hl9) upd_same, at1, q tp H10 (spin d ord sg (acc.map (·.2))) _ bfin x10 ?_ spun.ok spun.keeps⟩
      have pl := Paired.length pp
      refine ⟨true, ps.zip (acc.map fun a => newRow d ord sg a.2.2 a.2.1), ?_, ?_, ?_⟩
      · have eT : H10 tp = some (.tup (ps.map V.ref)) := b10.get (x9.keep hl9) (upd_get hl9 e9) (fun _ z => nomatch z)
        rw [eT]
        congr 2
        rw [show (fun r : Addr × List Int => V.ref r.1) = V.ref ∘ Prod.fst from rfl, ← List.map_map, List.map_fst_zip (by rw [List.length_map]; omega)]
      · intro r hr2
        obtain ⟨i, hi⟩ := List.mem_iff_getElem?.mp hr2
        obtain ⟨g1, g2⟩ := List.getElem?_zip_eq_some.mp hi
        obtain ⟨a, ha, hO⟩ := paired_get pp g1
        rw [List.getElem?_map, ha] at g2
        refine ⟨true, ?_⟩
        have := b10.get (x9.keep hl9) (upd_get hl9 (s9 _ _ hO)) (fun _ z => nomatch z)
        rw [this]
        exact congrArg (fun z => some (HO.tup (vi z))) (Option.some.inj g2)
      · rw [← rowsE, List.map_map]
        show (ps.zip _).map Prod.snd = _
        rw [List.map_snd_zip (by rw [List.length_map]; omega)]
        rfl
end PB

/-! ## S16 -/
set_option Elab.async false
set_option linter.all false
set_option maxRecDepth 100000
set_option maxHeartbeats 4000000
namespace PB
open PySem PySem.Spec PyProof.Rows L2
variable {P : Program} {w : World} {K : PySem.W.Frag} {mg : Str → Option Value} {base : Heap}
def DeedKeep (n : Nat) : Deed → Prop
  | .turned rows L => Keeps n L rows
  | _ => True
theorem isRow_of {xs : List Int} {d : Nat} {far : Int} (h : xs.length = d) (k : ∀ x ∈ xs, -far ≤ x ∧ x ≤ far) : isRow xs d far = true := by
  unfold isRow
  rw [Bool.and_eq_true, decide_eq_true_eq, List.all_eq_true]
  exact ⟨by rw [h], fun x hx => decide_eq_true (by have := k x hx; omega)⟩
def sp_law_deed : Sp := fun vs H Q E => ∃ (b : Addr) (d : Nat), vs = [.ref b, .int (d : Nat)] ∧ BoxAt H b ∧ 2 ≤ d ∧ d ≤ 5 ∧ (∀ a H' D, But b H H' → BoxAt H' b → DeedAt H' a D → DeedOk d D → DeedKeep d D → Q (.ref a) H')
theorem g_law_deed (T : TX K mg) (D : At K mg "_law_deed" d_law_deed) (c_law_square : Cl P w K mg base C8.CX0 3 "_law_square" sp_law_square) (c_law_take : Cl P w K mg base C8.CX0 1 "_law_take" sp_law_take) : Cl P w K mg base C8.CX0 4 "_law_deed" sp_law_deed := by
  refine cl_of (k := 3) D sc_law_deed (fun _ _ _ _ _ _ us hl => match us, hl with | [_, _], _ => rfl) (fun vs H Q E h => by
    obtain ⟨b, d, rfl, hb, d2, d5, q⟩ := h
    rfl) ?_
  intro f cdv A outer s H vs Q E hr h
  obtain ⟨b, d, rfl, hb, d2, d5, q⟩ := h
  refine ⟨_, (PSs.nox (pss_cons (ps_set (i := 2) sc_law_deed.nd rfl (Or.inl rfl) (pe_cl c_law_take hr (by decide) (by rfl) (pa_cons (pv 0) (pa_cons pe_int pa_nil))))
 (pss_cons (ps_if (pt_cmpR op_eq (pv 2) pe_int (nomark _))
 (pss_cons (ps_set (i := 3) sc_law_deed.nd rfl (Or.inr rfl) (pe_ix k_ix (pe_lst (pa_cons pe_int (pa_cons pe_int (pa_cons pe_int pa_nil)))) (pe_cl c_law_take hr (by decide) (by rfl) (pa_cons (pv 0) (pa_cons pe_int pa_nil))) (fun _ _ => rfl)))
 (pss_cons (ps_setLc (i := 4) (own := [("_law_k", 5)]) rfl sc_law_deed.nd rfl rfl (sw_true rfl rfl rfl (by decide +kernel)) (pi_range1 rfl T.b_range (pa_cons (pv 1) pa_nil)) (blkOk_by (N := ["_law_box_here", "_law_dims", "_law_way", "_law_far", "_law_shift", "_law_k"]) (sc := d_law_deed.scope) (own := [("_law_k", 5)]) (by decide +kernel)) (fun _ _ _ _ _ => (pg_name (i := 5) sc_law_deed.nd rfl (Or.inl rfl))) (fun _ _ _ _ _ => pts_nil) (fun _ _ _ _ _ => (pe_op op_sub (pe_cl c_law_take hr (by decide) (by rfl) (pa_cons (pv 0) (pa_cons (pe_op op_add (pe_op op_mul pe_int (pv 3)) pe_int) pa_nil))) (pv 3))))
 (pss_one (ps_ret (pe_lst (pa_cons pe_str (pa_cons (pe_ix k_ix (pe_lst (pa_cons (pv 4) (pa_cons (pe_callTy k_tuple (by rfl) T.b_tuple bt_tuple (pa_cons (pv 4) pa_nil)) pa_nil))) (pe_cl c_law_take hr (by decide) (by rfl) (pa_cons (pv 0) (pa_cons pe_int pa_nil))) (fun _ _ => rfl)) pa_nil)))))))
 pss_nil)
 (pss_cons (ps_if (pt_cmpR op_eq (pv 2) pe_int (nomark _))
 (pss_one (ps_ret (pe_lst (pa_cons pe_str (pa_cons (pe_op op_add pe_int (pe_cl c_law_take hr (by decide) (by rfl) (pa_cons (pv 0) (pa_cons pe_int pa_nil)))) pa_nil)))))
 pss_nil)
 (pss_one (ps_ret (pe_lst (pa_cons pe_str (pa_cons (pe_cl c_law_square hr (by decide) (by rfl) (pa_cons (pv 0) (pa_cons (pv 1) pa_nil))) pa_nil))))))))), ?_⟩
  refine ⟨_, rfl, b, 3, rfl, hb, by decide, W.small (by decide), fun way H1 w0 w1 b1 x1 => ⟨_, rfl, rfl, _, rfl, ?_⟩⟩
  by_cases c0 : way = 0
  · refine ifT (by simp [c0]) ⟨szl (show 3 < 100000 by decide), fun lf hlf => ⟨_, rfl, b, 3, rfl, x1.keep hlf, by decide, W.small (by decide), fun r0 H2 r1 r2 b2 x2 => ?_⟩⟩
    have er : ∃ far : Int, (1 ≤ far ∧ far ≤ 1998) ∧ atI [V.int 3, V.int 99, V.int 1998] r0 = some (.int far) := by
      have : r0 = 0 ∨ r0 = 1 ∨ r0 = 2 := by omega
      rcases this with rfl | rfl | rfl
      · exact ⟨3, by decide, at0⟩
      · exact ⟨99, by decide, at1⟩
      · exact ⟨1998, by decide, at2⟩
    obtain ⟨far, hfar, er⟩ := er
    refine ⟨lf, false, _, _, _, rfl, rfl, b2 _ _ (x1.ne hlf) upd_same, er, ?_⟩
    refine ⟨_, rfl, _, rfl, by omega, by omega, fun D hD => ?_⟩
    rw [Int.toNat_natCast]
    refine lc_rb b (fun _ v => ∃ c : Int, (-1998 ≤ c ∧ c ≤ 1998) ∧ v = .int c) hD x2 (by omega) (fun _ => rfl) ?_ ?_
    · intro i H3 hi b3 x3 R k
      refine ⟨_, rfl, _, rfl, _, _, rfl, rfl, .inl ⟨by decide, by decide⟩, _, _, rfl, rfl, b, _, rfl, x3, by omega, W.small (by omega), fun c H4 c0 c1 b4 x4 => ⟨_, rfl, _, _, rfl, rfl, k _ _ b4 x4 ⟨_, by omega, rfl⟩⟩⟩
    intro ys H3 b3 x3 hl hy e3
    obtain ⟨sh, rfl, hsh⟩ := choose_i V.int hy
    rw [List.length_map] at hl
    have nD := x2.ne hD
    have ok : isRow sh d 1998 = true := isRow_of hl hsh
    have b13 := ((b1.keep (o := .lst [.int 3, .int 99, .int 1998]) hlf).trans b2).trans b3
    refine ⟨_, rfl, _, rfl, D, false, _, rfl, e3, fun tp H4 s4 e4 => ⟨szl (show 2 < 100000 by decide), fun l hl2 => ⟨_, rfl, b, 2, rfl, (x3.same s4).keep hl2, by decide, W.small (by decide), fun t H5 t0 t1 b5 x5 => ?_⟩⟩⟩
    have x4 := x3.same s4
    have b15 := (((b13.same2 s4).keep (o := .lst [.ref D, .ref tp]) hl2).trans b5)
    have : t = 0 ∨ t = 1 := by omega
    rcases this with rfl | rfl
    · refine ⟨l, false, _, _, _, rfl, rfl, b5 _ _ (x4.ne hl2) upd_same, at0, szl (show 2 < 100000 by decide), fun a ha => q a _ (.moved sh) (b15.keep ha) (x5.keep ha) ⟨D, false, upd_same, upd_get ha (b5 _ _ nD (upd_get hl2 (s4 _ _ e3)))⟩ ok trivial⟩
    · refine ⟨l, false, _, _, _, rfl, rfl, b5 _ _ (x4.ne hl2) upd_same, at1, szl (show 2 < 100000 by decide), fun a ha => q a _ (.moved sh) (b15.keep ha) (x5.keep ha) ⟨tp, true, upd_same, upd_get ha (b5.get (x4.keep hl2) (upd_get hl2 e4) (fun _ z => nomatch z))⟩ ok trivial⟩
  refine ifF (by simp [c0]) ⟨_, rfl, rfl, _, rfl, ?_⟩
  by_cases c1 : way = 1
  · refine ifT (by simp [c1]) ⟨_, rfl, b, 9, rfl, x1, by decide, W.small (by decide), fun k H2 k0 k1 b2 x2 => ⟨_, _, rfl, rfl, szl (show 2 < 100000 by decide), fun a ha => q a _ (.longer (1 + k)) ((b1.trans b2).keep ha) (x2.keep ha) upd_same ⟨by omega, by omega⟩ trivial⟩⟩
  · refine ifF (by simp [c1]) ⟨_, rfl, _, rfl, b, d, rfl, x1, d2, d5, fun sq H2 rows L b2 x2 hs ok kp => ⟨szl (show 2 < 100000 by decide), fun a ha => q a _ (.turned rows L) ((b1.trans b2).keep ha) (x2.keep ha) ⟨sq, upd_same, hs.same (same_upd ha)⟩ ok kp⟩⟩
theorem p6w (σ : L2.St) (H : Hp) (Q : VK) (q : tC (.int 1000000) σ H Q) : tOp (rI CPow fun i j => V.int (i ^ j.toNat)) (tC (.int 10)) (tC (.int 6)) σ H Q := by
  refine ⟨_, _, rfl, rfl, ⟨by decide, by decide, by decide⟩, ?_⟩
  show Q (.int ((10 : Int) ^ (6 : Int).toNat)) H
  rw [show (10 : Int) ^ (6 : Int).toNat = 1000000 from by decide]
  exact q
theorem p24w (σ : L2.St) (H : Hp) (Q : VK) (q : tC (.int 1000000000000000000000000) σ H Q) : tOp (rI CPow fun i j => V.int (i ^ j.toNat)) (tC (.int 10)) (tC (.int 24)) σ H Q := by
  refine ⟨_, _, rfl, rfl, ⟨by decide, by decide, by decide⟩, ?_⟩
  show Q (.int ((10 : Int) ^ (24 : Int).toNat)) H
  rw [show (10 : Int) ^ (24 : Int).toNat = 1000000000000000000000000 from by decide]
  exact q
def sp_law_signed : Sp := fun vs H Q E => ∃ (b : Addr) (far : Int), vs = [.ref b, .int far] ∧ BoxAt H b ∧ 0 ≤ far ∧ far ≤ 1000000000000000000000000 ∧ (∀ n H', But b H H' → BoxAt H' b → n.natAbs < 2 ^ 82 → Q (.int n) H')
theorem WBig {x : Int} (h : 0 ≤ x) (k : x ≤ 1000000000000000000000001) : W x := W.of (k := 90) (by omega) (by decide) (by decide)
theorem g_law_signed (T : TX K mg) (D : At K mg "_law_signed" d_law_signed) (c_law_take : Cl P w K mg base C8.CX0 1 "_law_take" sp_law_take) : Cl P w K mg base C8.CX0 2 "_law_signed" sp_law_signed := by
  refine cl_of (k := 1) D sc_law_signed (fun _ _ _ _ _ _ us hl => match us, hl with | [_, _], _ => rfl) (fun vs H Q E h => by
    obtain ⟨b, far, rfl, hb, f0, f1, q⟩ := h
    rfl) ?_
  intro f cdv A outer s H vs Q E hr h
  obtain ⟨b, far, rfl, hb, f0, f1, q⟩ := h
  refine ⟨_, (PSs.nox (pss_cons (ps_set (i := 2) sc_law_signed.nd rfl (Or.inl rfl) (pe_cl c_law_take hr (by decide) (by rfl) (pa_cons (pv 0) (pa_cons (pe_op op_add (pv 1) pe_int) pa_nil))))
 (pss_cons (ps_if (PW.pt (pw_and (pt_cmpR op_gt (pv 1) (pe_imp (pe_op op_pow pe_int pe_int) p6w) (nomark _)) (pw_and1 (pt_cmpR op_eq (pe_cl c_law_take hr (by decide) (by rfl) (pa_cons (pv 0) (pa_cons pe_int pa_nil))) pe_int (nomark _)))))
 (pss_one (ps_set (i := 2) sc_law_signed.nd rfl (Or.inl rfl) (pe_op op_add (pe_op op_mul (pe_cl c_law_take hr (by decide) (by rfl) (pa_cons (pv 0) (pa_cons (pe_imp (pe_op op_pow pe_int pe_int) p6w) pa_nil))) (pe_op op_fdivW (pv 1) (pe_imp (pe_op op_pow pe_int pe_int) p6w))) (pe_cl c_law_take hr (by decide) (by rfl) (pa_cons (pv 0) (pa_cons (pe_imp (pe_op op_pow pe_int pe_int) p6w) pa_nil))))))
 pss_nil)
 (pss_one (ps_ret (pe_op op_mul (pv 2) (pe_ix k_ix (pe_lst (pa_cons pe_int (pa_cons (pe_un un_neg pe_int) pa_nil))) (pe_cl c_law_take hr (by decide) (by rfl) (pa_cons (pv 0) (pa_cons pe_int pa_nil))) (fun _ _ => rfl)))))))), ?_⟩
  refine ⟨_, rfl, _, rfl, _, _, rfl, rfl, b, _, rfl, hb, by omega, WBig (by omega) (by omega), fun n H1 n0 n1 b1 x1 => ?_⟩
  refine ⟨_, rfl, _, _, rfl, rfl, _, rfl, ?_⟩
  by_cases c : 1000000 < far
  · refine ifT (by simpa using c) ⟨_, rfl, b, 2, rfl, x1, by decide, W.small (by decide), fun w H2 w0 w1 b2 x2 => ⟨rfl, _, rfl, ?_⟩⟩
    by_cases cw : w = 0
    · refine ifT (by simp [cw]) ?_
      refine ⟨_, rfl, b, _, rfl, x2, by decide, WBig (by decide) (by decide), fun u H3 u0 u1 b3 x3 => ?_⟩
      refine ⟨_, rfl, _, _, rfl, rfl, ⟨by decide, by decide⟩, _, _, rfl, rfl, .inl ⟨by omega, by omega⟩, ?_⟩
      refine ⟨_, rfl, b, _, rfl, x3, by decide, WBig (by decide) (by decide), fun v H4 v0 v1 b4 x4 => ?_⟩
      refine ⟨_, _, rfl, rfl, ?_⟩
      have hf : 0 ≤ far / 1000000 ∧ far / 1000000 ≤ 1000000000000000000 := by omega
      have hu : u * (far / 1000000) ≤ 1000000 * 1000000000000000000 := Int.mul_le_mul (by omega) hf.2 hf.1 (by decide)
      have hu0 : 0 ≤ u * (far / 1000000) := Int.mul_nonneg u0 hf.1
      have b14 := ((b1.trans b2).trans b3).trans b4
      refine ⟨_, rfl, _, rfl, szl (show 2 < 100000 by decide), fun ls hls => ⟨_, rfl, b, 2, rfl, x4.keep hls, by decide, W.small (by decide), fun t H9 t0 t1 b9 x9 => ?_⟩⟩
      obtain ⟨s, hs, es⟩ := sgn_at t0 t1
      refine ⟨ls, false, _, _, _, rfl, rfl, b9 _ _ (x4.ne hls) upd_same, es, _, _, rfl, rfl, .inr (by omega), q _ _ ((b14.keep hls).trans b9) x9 ?_⟩
      rw [Int.natAbs_mul, show s.natAbs = 1 from by omega, Nat.mul_one]
      generalize u * (far / 1000000) = z at *
      omega
    · refine ifF (by simp [cw]) ?_
      have b12 := b1.trans b2
      refine ⟨_, rfl, _, rfl, szl (show 2 < 100000 by decide), fun ls hls => ⟨_, rfl, b, 2, rfl, x2.keep hls, by decide, W.small (by decide), fun t H9 t0 t1 b9 x9 => ?_⟩⟩
      obtain ⟨s, hs, es⟩ := sgn_at t0 t1
      refine ⟨ls, false, _, _, _, rfl, rfl, b9 _ _ (x2.ne hls) upd_same, es, _, _, rfl, rfl, .inr (by omega), q _ _ ((b12.keep hls).trans b9) x9 ?_⟩
      rw [Int.natAbs_mul, show s.natAbs = 1 from by omega, Nat.mul_one]
      omega
  · refine ifF (by simpa using c) ?_
    refine ⟨_, rfl, _, rfl, szl (show 2 < 100000 by decide), fun ls hls => ⟨_, rfl, b, 2, rfl, x1.keep hls, by decide, W.small (by decide), fun t H9 t0 t1 b9 x9 => ?_⟩⟩
    obtain ⟨s, hs, es⟩ := sgn_at t0 t1
    refine ⟨ls, false, _, _, _, rfl, rfl, b9 _ _ (x1.ne hls) upd_same, es, _, _, rfl, rfl, .inr (by omega), q _ _ ((b1.keep hls).trans b9) x9 ?_⟩
    rw [Int.natAbs_mul, show s.natAbs = 1 from by omega, Nat.mul_one]
    omega
theorem seq_tail {t u : TS} {D : Ends} {σ : L2.St} {H : Hp} (M : L2.St → Hp → Prop) (k : ∀ σ' H', M σ' H' → u D σ' H') (h : ∀ N : L2.St → Hp → Prop, (∀ σ' H', M σ' H' → N σ' H') → t { D with nx := N } σ H) : tSeq t u D σ H := h _ k
/-- the plane of a turn -/
structure Pl0 (d : Nat) (ns : List Int) (o : Int) : Prop where
  len : ns.length = d
  nz : ∃ x ∈ ns, x ≠ 0
  nb : ∀ x ∈ ns, x.natAbs < 2 ^ 82
  ob : o.natAbs < 2 ^ 100
theorem td_tup {K : PySem.W.Frag} {H : Hp} : ∀ {as : List Addr} {ps : List (List Int)}, PlsAt H as ps → ∃ ds, DpAll K H (as.map V.ref) ds ∧ PyData.canLayAll0 ds = true ∧ PyData.depthAll ds ≤ 1 ∧ ds.length = ps.length
  | _, _, .nil => ⟨[], .nil, by simp only [PyData.canLayAll0], by simp only [PyData.depthAll]; omega, rfl⟩
  | _, _, .cons (b := p) e t => by
    obtain ⟨ds, h1, h2, h3, h4⟩ := td_tup (K := K) t
    obtain ⟨k1, k2, k3⟩ := plain_all (K := K) (H := H) (plain_ints p)
    exact ⟨.tuple (p.map PyData.int) :: ds, .cons (.tup (sqT e) k1) h1, by simp only [PyData.canLayAll0, PyData.canLay0, k2, h2, Bool.and_self], by simp only [PyData.depthAll, PyData.depth, k3]; omega, by simp [h4]⟩
theorem valK {W : Wd} {A : WAdr} : valV (wkv W A) (.inr "dims") = some (.int (W.dims : Nat)) ∧ valV (wkv W A) (.inr "names") = some (.ref A.n) ∧ valV (wkv W A) (.inr "marks") = some (.ref A.m) ∧ valV (wkv W A) (.inr "places") = some (.ref A.p) ∧ valV (wkv W A) (.inr "heaps") = some (.ref A.h) := ⟨rfl, rfl, rfl, rfl, rfl⟩
theorem WAt.get {H : Hp} {b d : Addr} {A : WAdr} {W : Wd} (h : WAt H b d A W) {k : Str} {v : V} (e : valV (wkv W A) (.inr k) = some v) : DGet H d (.str k) (some v) := by
  have := DGet.k (k := .inr k) h.d
  rwa [e] at this
theorem dot_b : ∀ (ns p : List Int), ns.length = p.length → (∀ x ∈ ns, x.natAbs < 2 ^ 82) → (∀ x ∈ p, -999 ≤ x ∧ x ≤ 999) → (dot ns p).natAbs ≤ 2 ^ 92 * ns.length
  | [], _, _, _, _ => by simp [dot]
  | _ :: _, [], h, _, _ => by simp at h
  | x :: ns, y :: p, h, h1, h2 => by
    have i := dot_b ns p (by simpa using h) (fun z hz => h1 z (by simp [hz])) fun z hz => h2 z (by simp [hz])
    have a := h1 x (by simp)
    have c := h2 y (by simp)
    have m : (x * y).natAbs ≤ 2 ^ 82 * 1024 := by
      rw [Int.natAbs_mul]
      exact Nat.mul_le_mul (by omega) (by omega)
    unfold dot at *
    rw [List.zipWith_cons_cons, List.sum_cons, List.length_cons]
    omega
def sp_law_plane : Sp := fun vs H Q E => ∃ (b d : Addr) (A : WAdr) (W : Wd), vs = [.ref b, .ref d] ∧ BoxAt H b ∧ WAt H b d A W ∧ WdOk W ∧ (∀ p H' ns o, But b H H' → BoxAt H' b → PlAt H' p ns o → Pl0 W.dims ns o → Q (.ref p) H')
theorem g_law_plane (T : TX K mg) (D : At K mg "_law_plane" d_law_plane) (c_law_signed : Cl P w K mg base C8.CX0 2 "_law_signed" sp_law_signed) (c_law_take : Cl P w K mg base C8.CX0 1 "_law_take" sp_law_take) (c_law_value : Cl P w K mg base C8.CX0 1 "_law_value" sp_law_value) : Cl P w K mg base C8.CX0 3 "_law_plane" sp_law_plane := by
  refine cl_of (k := 2) D sc_law_plane (fun _ _ _ _ _ _ us hl => match us, hl with | [_, _], _ => rfl) (fun vs H Q E h => by
    obtain ⟨b, d, A, W, rfl, hb, hw, ok, q⟩ := h
    rfl) ?_
  intro f cdv A outer s H vs Q E hr h
  obtain ⟨b, d, A, W, rfl, hb, hw, ok, q⟩ := h
  refine ⟨_, (PSs.nox (pss_cons (ps_set (i := 2) sc_law_plane.nd rfl (Or.inr rfl) (pe_ix k_ix (pe_lst (pa_cons pe_int (pa_cons pe_int (pa_cons pe_int (pa_cons (pe_imp (pe_op op_pow pe_int pe_int) p24w) pa_nil))))) (pe_cl c_law_take hr (by decide) (by rfl) (pa_cons (pv 0) (pa_cons pe_int pa_nil))) (fun _ _ => rfl)))
 (pss_cons (ps_setLc (i := 3) (own := [("_law_k", 5)]) rfl sc_law_plane.nd rfl rfl (sw_true rfl rfl rfl (by decide +kernel)) (pi_range1 rfl T.b_range (pa_cons (pe_dget (hu_of hr) (pv 1) pe_str (fun _ _ => rfl)) pa_nil)) (blkOk_by (N := ["_law_box_here", "_law_world_here", "_law_far", "_law_normal", "_law_near", "_law_k"]) (sc := d_law_plane.scope) (own := [("_law_k", 5)]) (by decide +kernel)) (fun _ _ _ _ _ => (pg_name (i := 5) sc_law_plane.nd rfl (Or.inl rfl))) (fun _ _ _ _ _ => pts_nil) (fun _ _ _ _ _ => (pe_cl c_law_signed hr (by decide) (by rfl) (pa_cons (pv 0) (pa_cons (pv 2) pa_nil)))))
 (pss_cons (ps_if (pt_cmpR (op_eqD hr.units) (pv 3) (pe_op op_rep (pe_lst (pa_cons pe_int pa_nil)) (pe_dget (hu_of hr) (pv 1) pe_str (fun _ _ => rfl))) (nomark _))
 (pss_one (ps_asg (pe_ix k_ix (pe_lst (pa_cons pe_int (pa_cons (pe_un un_neg pe_int) pa_nil))) (pe_cl c_law_take hr (by decide) (by rfl) (pa_cons (pv 0) (pa_cons pe_int pa_nil))) (fun _ _ => rfl)) (pg_sub (pv 3) (pe_cl c_law_take hr (by decide) (by rfl) (pa_cons (pv 0) (pa_cons (pe_dget (hu_of hr) (pv 1) pe_str (fun _ _ => rfl)) pa_nil))) set_list)))
 pss_nil)
 (pss_cons (ps_set (i := 4) sc_law_plane.nd rfl (Or.inl rfl) (pe_ifExp (pt_cmpR (op_neD hr.units) (pe_dget (hu_of hr) (pv 1) pe_str (fun _ _ => rfl)) (pe_lst pa_nil) (nomark _)) (pe_ix k_ix (pe_dget (hu_of hr) (pv 1) pe_str (fun _ _ => rfl)) (pe_cl c_law_take hr (by decide) (by rfl) (pa_cons (pv 0) (pa_cons (pe_callB k_len (by rfl) T.b_len bt_len (pa_cons (pe_dget (hu_of hr) (pv 1) pe_str (fun _ _ => rfl)) pa_nil)) pa_nil))) (fun _ _ => rfl)) (pe_op op_repT (pe_tup (pa_cons pe_int pa_nil)) (pe_dget (hu_of hr) (pv 1) pe_str (fun _ _ => rfl)))))
 (pss_one (ps_ret (pe_tup (pa_cons (pe_callTy k_tuple (by rfl) T.b_tuple bt_tuple (pa_cons (pv 3) pa_nil)) (pa_cons (pe_op op_add (pe_cl c_law_value hr (by decide) (by rfl) (pa_cons (pe_tup (pa_cons (pv 3) (pa_cons pe_int pa_nil))) (pa_cons (pv 4) pa_nil))) (pe_ix k_ix (pe_lst (pa_cons pe_int (pa_cons pe_int (pa_cons (pe_un un_neg pe_int) (pa_cons (pe_cl c_law_take hr (by decide) (by rfl) (pa_cons (pv 0) (pa_cons pe_int pa_nil))) pa_nil))))) (pe_cl c_law_take hr (by decide) (by rfl) (pa_cons (pv 0) (pa_cons pe_int pa_nil))) (fun _ _ => rfl))) pa_nil)))))))))), ?_⟩
  have hlo := ok.lo
  have hhi := ok.hi
  refine ⟨szl (show 4 < 100000 by decide), fun lf hlf => ⟨_, rfl, b, 4, rfl, hb.keep hlf, by decide, PB.W.small (by decide), fun r0 H1 r1 r2 b1 x1 => ?_⟩⟩
  have er : ∃ far : Int, (0 ≤ far ∧ far ≤ 1000000000000000000000000) ∧ atI [V.int 2, V.int 9, V.int 999, V.int 1000000000000000000000000] r0 = some (.int far) := by
    have : r0 = 0 ∨ r0 = 1 ∨ r0 = 2 ∨ r0 = 3 := by omega
    rcases this with rfl | rfl | rfl | rfl
    · exact ⟨2, by decide, at0⟩
    · exact ⟨9, by decide, at1⟩
    · exact ⟨999, by decide, at2⟩
    · exact ⟨1000000000000000000000000, by decide, rfl⟩
  obtain ⟨far, hfar, er⟩ := er
  refine ⟨lf, false, _, _, _, rfl, rfl, b1 _ _ (hb.ne hlf) upd_same, er, ?_⟩
  have b01 := (But.refl (b := b) H |>.keep (o := .lst [.int 2, .int 9, .int 999, .int 1000000000000000000000000]) hlf).trans b1
  have w1 := hw.but b01 hb
  refine ⟨_, rfl, d, _, rfl, w1.get valK.1, _, rfl, by omega, by omega, fun D hD => ?_⟩
  rw [Int.toNat_natCast]
  refine lc_rb b (fun _ v => ∃ c : Int, c.natAbs < 2 ^ 82 ∧ v = .int c) hD x1 (by omega) (fun _ => rfl) ?_ ?_
  · intro i H2 hi b2 x2 R k
    exact ⟨_, rfl, _, rfl, b, far, rfl, x2, hfar.1, hfar.2, fun n H3 b3 x3 hn => k _ _ b3 x3 ⟨n, hn, rfl⟩⟩
  intro ys H2 b2 x2 hl hy e2
  obtain ⟨ns, rfl, hns⟩ := choose_i V.int hy
  rw [List.length_map] at hl
  have nD := x1.ne hD
  have b02 := b01.trans b2
  have w2 := w1.but b2 x1
  dsimp only [gName]
  refine seq_tail (fun σ' H' => ∃ ns2 : List Int, But b H H' ∧ BoxAt H' b ∧ H' D = some (.lst (vi ns2)) ∧ WAt H' b d A W ∧ ns2.length = W.dims ∧ (∃ x ∈ ns2, x ≠ 0) ∧ (∀ x ∈ ns2, x.natAbs < 2 ^ 82) ∧ σ' = [some (.ref b), some (.ref d), some (.int far), some (.ref D), none, none]) ?_ ?_
  · rintro _ H3 ⟨ns, b3, x3, e3, w3, hl3, nz, nb, rfl⟩
    refine seq_tail (fun σ' H' => ∃ (np : Addr) (pl : List Int), But b H H' ∧ BoxAt H' b ∧ H' D = some (.lst (vi ns)) ∧ H' np = some (.tup (vi pl)) ∧ pl.length = W.dims ∧ (∀ x ∈ pl, -999 ≤ x ∧ x ≤ 999) ∧ σ' = [some (.ref b), some (.ref d), some (.int far), some (.ref D), some (.ref np), none]) ?_ ?_
    · rintro _ H4 ⟨np, pl, b4, x4, e4, p4, hl4, hp4, rfl⟩
      refine ⟨_, rfl, D, false, _, rfl, e4, fun tn H5 s5 e5 => ⟨_, rfl, szl (show 2 < 100000 by decide), fun vp hvp => ⟨_, rfl, vp, np, false, true, ns, pl, 0, rfl, ⟨D, upd_same, upd_get hvp (s5 _ _ e4)⟩, upd_get hvp (s5 _ _ p4), by omega, by omega, fun x _ y hy => .inr (by have := hp4 y hy; constructor <;> omega), fun H6 s6 => ?_⟩⟩⟩
      have s46 := (s5.trans (same_upd (o := .tup [.ref D, .int 0]) hvp)).trans s6
      have x6 := x4.same s46
      refine ⟨_, rfl, _, rfl, b, 99, rfl, x6, by decide, PB.W.small (by decide), fun u H7 u0 u1 b7 x7 => ⟨szl (show 4 < 100000 by decide), fun lo hlo => ⟨_, rfl, b, 4, rfl, x7.keep hlo, by decide, PB.W.small (by decide), fun t H8 t0 t1 b8 x8 => ?_⟩⟩⟩
      have et : ∃ c : Int, (-1 ≤ c ∧ c ≤ 99) ∧ atI [V.int 0, V.int 1, V.int (-1), V.int u] t = some (.int c) := by
        have : t = 0 ∨ t = 1 ∨ t = 2 ∨ t = 3 := by omega
        rcases this with rfl | rfl | rfl | rfl
        · exact ⟨0, by decide, at0⟩
        · exact ⟨1, by decide, at1⟩
        · exact ⟨-1, by decide, at2⟩
        · exact ⟨u, by omega, rfl⟩
      obtain ⟨c, hc, et⟩ := et
      refine ⟨lo, false, _, _, _, rfl, rfl, b8 _ _ (x7.ne hlo) upd_same, et, _, _, rfl, rfl, szl (show 2 < 100000 by decide), fun p hp => ?_⟩
      have b48 := ((((Same.but (b := b) s46).trans b7).keep (o := .lst [.int 0, .int 1, .int (-1), .int u]) hlo).trans b8)
      have e8 : H8 tn = some (.tup (vi ns)) := b8.get (x7.keep hlo) (upd_get hlo (b7.get x6 (s6 _ _ (upd_get hvp e5)) (fun _ z => nomatch z))) (fun _ z => nomatch z)
      refine q p _ ns _ ((b4.trans b48).keep hp) (x8.keep hp) ⟨tn, upd_same, upd_get hp e8⟩ ⟨hl3, nz, nb, ?_⟩
      have hd := dot_b ns pl (by omega) nb hp4
      have h5 : 2 ^ 92 * ns.length ≤ 2 ^ 92 * 5 := Nat.mul_le_mul_left _ (by omega)
      omega
    · intro N hN
      refine ⟨_, rfl, d, _, rfl, w3.get valK.2.2.2.1, szl (show 0 < 100000 by decide), fun e he => ?_⟩
      obtain ⟨ds, k1, k2, k3, k4⟩ := td_tup (K := K) (L2.Paired.mapP w3.pl fun _ _ e => same_upd (o := .lst []) he _ _ e)
      refine ⟨.list ds, .list [], .lst (sqL (upd_get he w3.p.1)) k1, .lst (sqL upd_same) .nil, by unfold SeqAt.shaped; simp only [PyData.canLay0, k2, PyData.depth]; simp; omega, by decide, _, rfl, ?_⟩
      rw [eqv_nil2]
      have w3e := w3.but (Same.but (same_upd (o := .lst []) he)) x3
      have x3e := x3.keep (o := .lst []) he
      have plen := Paired.length w3.pl
      by_cases c : W.places = []
      · have d0 : ds = [] := List.eq_nil_of_length_eq_zero (by rw [k4, c]; rfl)
        subst d0
        refine ifF rfl ⟨szl (show 1 < 100000 by decide), fun z hz => ⟨_, rfl, d, _, rfl, (w3e.but (Same.but (same_upd hz)) x3e).get valK.1, z, _, [.int 0], rfl, rfl, sqT upd_same, by simp, by omega, by omega, by simp, fun np hnp => hN _ _ ⟨np, List.replicate W.dims 0, ((b3.keep he).keep hz).keep hnp, (x3e.keep hz).keep hnp, upd_get hnp (upd_get hz (upd_get he e3)), ?_, by simp, fun x hx => by rw [List.eq_of_mem_replicate hx]; omega, rfl⟩⟩⟩
        rw [upd_same, Int.toNat_natCast]
        simp [vi]
      · have lp : 0 < W.places.length := List.length_pos_iff.mpr c
        have dn : ds.isEmpty = false := by
          cases ds with
          | nil => simp at k4; omega
          | cons _ _ => rfl
        refine ifT (by rw [dn]; rfl) ⟨_, rfl, d, _, rfl, w3e.get valK.2.2.2.1, _, rfl, _, rfl, d, _, rfl, w3e.get valK.2.2.2.1, A.p, false, _, rfl, w3e.p.1, b, _, rfl, x3e, by rw [List.length_map]; omega, PB.W.small (by rw [List.length_map]; have := ok.few; have := ok.pl; omega), fun t H4 t0 t1 b4 x4 => ?_⟩
        rw [List.length_map] at t1
        obtain ⟨a, a1, a2⟩ := atI_mem (xs := A.pls) t0 t1
        obtain ⟨pl, pl1, pl2⟩ := paired_get w3e.pl a2
        have po := ok.pok _ (List.mem_of_getElem? pl1)
        refine ⟨A.p, false, _, t, .ref a, rfl, rfl, b4 _ _ w3e.p.2 w3e.p.1, ?_, hN _ _ ⟨a, pl, (b3.keep he).trans b4, x4, b4 _ _ nD (upd_get he e3), b4.get x3e pl2 (fun _ z => nomatch z), po.1, po.2, rfl⟩⟩
        obtain ⟨n, rfl⟩ := Int.eq_ofNat_of_zero_le t0
        rw [atI_nat (by rw [List.length_map]; omega), List.getElem_map]
        simp only [Int.toNat_natCast] at a2
        rw [List.getElem?_eq_getElem (by omega)] at a2
        rw [Option.some.inj a2]
  · intro N hN
    refine ⟨_, rfl, szl (show 1 < 100000 by decide), fun z hz => ⟨_, rfl, d, _, rfl, (w2.but (Same.but (same_upd hz)) x2).get valK.1, z, _, [.int 0], rfl, rfl, upd_same, by omega, by omega, szl (by simp; omega), fun zz hzz => ?_⟩⟩
    have zeq : (List.replicate ((W.dims : Int)).toNat [V.int 0]).flatten = vi (List.replicate W.dims 0) := by
      rw [Int.toNat_natCast]
      simp [vi]
    rw [zeq]
    have x2z := (x2.keep (o := .lst [.int 0]) hz).keep (o := .lst (vi (List.replicate W.dims 0))) hzz
    have s2z := (same_upd (o := .lst [.int 0]) hz).trans (same_upd (o := .lst (vi (List.replicate W.dims 0))) hzz)
    obtain ⟨g1, g2⟩ := dp_lst (K := K) (s2z _ _ e2) (plain_ints ns)
    obtain ⟨g3, g4⟩ := dp_lst (K := K) (H := upd (upd H2 z (.lst [.int 0])) zz (.lst (vi (List.replicate W.dims 0)))) (a := zz) upd_same (plain_ints (List.replicate W.dims 0))
    refine ⟨_, _, g1, g3, g2, g4, _, rfl, ?_⟩
    have b2z := b02.same2 s2z
    have w2z := w2.but (Same.but s2z) x2
    have ev : PyData.eqv (.list (ns.map PyData.int)) (.list ((List.replicate W.dims 0).map PyData.int)) = decide (ns = List.replicate W.dims 0) := by
      show PyData.eqv _ _ = _
      simp only [PyData.eqv, eqvAll_ints]
    rw [ev]
    by_cases c : ns = List.replicate W.dims 0
    · refine ifT (decide_eq_true c) ⟨_, rfl, szl (show 2 < 100000 by decide), fun ls hls => ⟨_, rfl, b, 2, rfl, x2z.keep hls, by decide, PB.W.small (by decide), fun t H3 t0 t1 b3 x3 => ?_⟩⟩
      obtain ⟨s, hs, es⟩ := sgn_at t0 t1
      have b23 := (Same.but (b := b) (same_upd (o := .lst [.int 1, .int (-1)]) hls)).trans b3
      have w3 := w2z.but b23 x2z
      refine ⟨ls, false, _, _, _, rfl, rfl, b3 _ _ (x2z.ne hls) upd_same, es, ?_⟩
      refine ⟨_, rfl, _, rfl, _, rfl, d, _, rfl, w3.get valK.1, b, _, rfl, x3, by omega, PB.W.small (by omega), fun k H4 k0 k1 b4 x4 => ?_⟩
      obtain ⟨j, rfl⟩ := Int.eq_ofNat_of_zero_le k0
      have fD : H D = none := But.free b01 nD hD
      have e4 : H4 D = some (.lst (vi ns)) := b4 _ _ nD (b23 _ _ nD (s2z _ _ e2))
      refine ⟨D, _, _, j, rfl, rfl, e4, ?_, hN _ _ ⟨ns.set j s, ((b2z.trans b23).trans b4).wr fD, x4.upd nD, ?_, ?_, by rw [List.length_set]; exact hl, ?_, ?_, rfl⟩⟩
      · unfold ixN
        rw [if_pos (by omega), if_pos (by rw [vi_len]; omega)]
        simp
      · rw [upd_same, show vi (ns.set j s) = (vi ns).set j (.int s) from List.map_set ..]
      · have w4 := w3.but b4 x3
        have nDa : ∀ {a : Addr} {o : HO}, H a = some o → D ≠ a := fun e z => by rw [← z, fD] at e; cases e
        refine ⟨?_, ⟨?_, w4.n.2⟩, ⟨?_, w4.m.2⟩, ⟨?_, w4.p.2⟩, ⟨?_, w4.h.2⟩, L2.Paired.mapP w4.pl fun a p e => ?_⟩
        · rw [upd_ne (nDa hw.d).symm]; exact w4.d
        · rw [upd_ne (nDa hw.n.1).symm]; exact w4.n.1
        · rw [upd_ne (nDa hw.m.1).symm]; exact w4.m.1
        · rw [upd_ne (nDa hw.p.1).symm]; exact w4.p.1
        · rw [upd_ne (nDa hw.h.1).symm]; exact w4.h.1
        · rw [upd_ne (fun z => by rw [z, e4] at e; cases e)]; exact e
      · refine ⟨s, ?_, by omega⟩
        exact List.mem_of_getElem? (i := j) (by rw [List.getElem?_set_self (by omega)])
      · intro x hx
        rcases List.mem_or_eq_of_mem_set hx with hx | rfl
        · exact hns x hx
        · omega
    · refine ifF (decide_eq_false c) (hN _ _ ⟨ns, b2z, x2z, s2z _ _ e2, w2z, hl, ?_, hns, rfl⟩)
      by_cases c2 : ∃ x ∈ ns, x ≠ 0
      · exact c2
      · refine absurd (List.eq_replicate_iff.mpr ⟨hl, fun x hx => ?_⟩) c
        by_cases c3 : x = 0
        · exact c3
        · exact absurd ⟨x, hx, c3⟩ c2
end PB

/-! ## S17 -/
set_option Elab.async false
set_option linter.all false
set_option maxRecDepth 100000
set_option maxHeartbeats 4000000
namespace PB
open PySem PySem.Spec PyProof.Rows L2
variable {P : Program} {w : World} {K : PySem.W.Frag} {mg : Str → Option Value} {base : Heap}
theorem cr_dictD {X : Cx} (hc : X.calm = true) : CallR X (.type "dict") (fun xs H Q => ∃ a kvs, xs = [.ref a] ∧ H a = some (.dK kvs) ∧ ∀ p, H p = none → Q (.ref p) (upd H p (.dK kvs))) := by
  intro pins s σ H xs us Q I r h
  obtain ⟨a, kvs, rfl, e, q⟩ := h
  obtain ⟨u, rfl, rx⟩ := vals1 r
  cases rx
  exact d_copyOf I (.inl e) fun p s' hp I' => ⟨.ref p, _, I', rfl, q p hp⟩
theorem nodup_len {α : Type} [DecidableEq α] : ∀ {l m : List α}, l.Nodup → (∀ x ∈ l, x ∈ m) → l.length ≤ m.length
  | [], _, _, _ => Nat.zero_le _
  | x :: l, m, nd, h => by
    rw [List.nodup_cons] at nd
    have hx := h x (by simp)
    have i := nodup_len (l := l) (m := m.erase x) nd.2 fun y hy => (List.mem_erase_of_ne (fun z : y = x => nd.1 (by rw [← z]; exact hy))).mpr (h y (by simp [hy]))
    rw [List.length_erase_of_mem hx] at i
    have := List.length_pos_of_mem hx
    rw [List.length_cons]
    omega
theorem PlT.but {H H' : Hp} {b p : Addr} {ns : List Int} {o : Int} (h : PlAt H p ns o) (s : But b H H') (hb : BoxAt H b) : PlAt H' p ns o := by
  obtain ⟨nr, h1, h2⟩ := h
  exact ⟨nr, s.get hb h1 (fun _ z => nomatch z), s.get hb h2 (fun _ z => nomatch z)⟩
def sp_law_sided : Sp := fun vs H Q E => ∃ (b d pl two : Addr) (A : WAdr) (W : Wd) (ns : List Int) (o : Int) (x y : Str), vs = [.ref b, .ref d, .ref pl, .ref two] ∧ BoxAt H b ∧ WAt H b d A W ∧ WdOk W ∧ PlAt H pl ns o ∧ Pl0 W.dims ns o ∧ two ≠ b ∧ H two = some (.lst [.str x, .str y]) ∧
  NameOk x ∧ NameOk y ∧ (∀ d' H' A' W', But b H H' → BoxAt H' b → WAt H' b d' A' W' → WdOk W' → W'.dims = W.dims → Q (.ref d') H')
theorem g_law_sided (T : TX K mg) (D : At K mg "_law_sided" d_law_sided) (c_law_take : Cl P w K mg base C8.CX0 1 "_law_take" sp_law_take) (c_law_value : Cl P w K mg base C8.CX0 1 "_law_value" sp_law_value) : Cl P w K mg base C8.CX0 2 "_law_sided" sp_law_sided := by
  refine cl_of (k := 1) D sc_law_sided (fun _ _ _ _ _ _ us hl => match us, hl with | [_, _, _, _], _ => rfl) (fun vs H Q E h => by
    obtain ⟨b, d, pl, two, A, W, ns, o, x, y, rfl, hb, hw, ok, hp, p0, n2, e2, nx, ny, q⟩ := h
    rfl) ?_
  intro f cdv A outer s H vs Q E hr h
  obtain ⟨b, d, pl, two, A, W, ns, o, x, y, rfl, hb, hw, ok, hp, p0, n2, e2, nx, ny, q⟩ := h
  refine ⟨_, (PSs.nox (pss_cons (ps_if (pt_cmpR op_eq (pe_cl c_law_take hr (by decide) (by rfl) (pa_cons (pv 0) (pa_cons pe_int pa_nil))) pe_int (nomark _))
 (pss_one (ps_ret (pv 1)))
 pss_nil)
 (pss_cons (ps_set (i := 4) sc_law_sided.nd rfl (Or.inl rfl) (pe_ix k_ix (pe_lc (own := [("_law_heap", 10)]) rfl sc_law_sided.nd (k_row (pe_dget (hu_of hr) (pv 1) pe_str (fun _ _ => rfl))) (blkOk_by (N := ["_law_box_here", "_law_world_here", "_law_plane_here", "_law_two", "_law_third", "_law_marks", "_law_k", "_law_mark", "_law_value_here", "_law_found", "_law_heap"]) (sc := d_law_sided.scope) (own := [("_law_heap", 10)]) (by decide +kernel)) (fun _ _ _ _ _ => (pg_name (i := 10) sc_law_sided.nd rfl (Or.inl rfl))) (fun _ _ _ _ _ => (pts_one (pt_cmpR k_notIn (pv 10) (pv 3) (by rfl)))) (fun _ _ _ _ _ => (pv 10))) pe_int (fun _ _ => rfl)))
 (pss_cons (ps_set (i := 5) sc_law_sided.nd rfl (Or.inl rfl) (pe_lst pa_nil))
 (pss_cons (ps_for PassesOwn.never rfl (k_enum (by rfl) T.b_enumerate (pa_cons (pe_dget (hu_of hr) (pv 1) pe_str (fun _ _ => rfl)) pa_nil)) (k_tup (n := 2) rfl (pgs_cons (pg_name (i := 6) sc_law_sided.nd rfl (Or.inl rfl)) (pgs_cons (pg_name (i := 7) sc_law_sided.nd rfl (Or.inl rfl)) pgs_nil)))
 (pss_cons (ps_set (i := 8) sc_law_sided.nd rfl (Or.inl rfl) (pe_cl c_law_value hr (by decide) (by rfl) (pa_cons (pv 2) (pa_cons (pe_ix k_ix (pe_dget (hu_of hr) (pv 1) pe_str (fun _ _ => rfl)) (pv 6) (fun _ _ => rfl)) pa_nil))))
 (pss_one (ps_if (PW.pt (pw_and (pt_cmpR op_ne (pv 8) pe_int (nomark _)) (pw_and1 (PW.pt (pw_or (pt_cmpR k_in (pv 7) (pv 3) (by rfl)) (pw_or1 (pt_cmpR op_gt (pe_cl c_law_take hr (by decide) (by rfl) (pa_cons (pv 0) (pa_cons pe_int pa_nil))) pe_int (nomark _))))))))
 (pss_one (ps_expr (pe_bm PySem.F.plainAttrs_list PySem.F.slot_list_append PySem.F.type_list_append mt_append (pv 5) (pa_cons (pe_ix k_ix (pv 3) (pe_callTy call_int1 (by rfl) T.b_int bt_int (pa_cons (pe_cmpR op_lt (pv 8) pe_int (nomark _)) pa_nil)) (fun _ _ => rfl)) pa_nil))))
 (pss_one (ps_expr (pe_bm PySem.F.plainAttrs_list PySem.F.slot_list_append PySem.F.type_list_append mt_append (pv 5) (pa_cons (pv 4) pa_nil))))))))
 (pss_cons (ps_set (i := 9) sc_law_sided.nd rfl (Or.inl rfl) (pe_callTy (cr_dictD rfl) (by rfl) T.b_dict bt_dict (pa_cons (pv 1) pa_nil)))
 (pss_cons (ps_dput (hu_of hr) (pv 9) pe_str (pv 5) rfl)
 (pss_one (ps_ret (pv 9)))))))))), ?_⟩
  refine ⟨_, rfl, b, 3, rfl, hb, by decide, PB.W.small (by decide), fun w0 H1 q0 q1 b1 x1 => ⟨rfl, _, rfl, ?_⟩⟩
  have w1 := hw.but b1 hb
  by_cases cw : w0 = 0
  · exact ifT (by simp [cw]) ⟨_, rfl, q d H1 A W b1 x1 w1 ok rfl⟩
  refine ifF (by simp [cw]) ?_
  have e21 := b1 _ _ n2 e2
  refine ⟨_, rfl, d, _, rfl, w1.get valK.2.2.2.2, A.h, false, _, rfl, w1.h.1, fun J w D hD => lc_rowT W.heaps V.str (fun s => !(decide (s = x) || decide (s = y))) V.str w hD (fun H' s => s _ _ w1.h.1) (by have := ok.hl; omega) (fun _ => rfl) ?_ ?_⟩
  · intro s H2 R R' hs s2 k k'
    refine ⟨_, rfl, _, rfl, two, false, _, rfl, s2 _ _ e21, rfl, rfl, _, rfl, ?_⟩
    show if (!inV (.str s) [.str x, .str y]) = true then _ else _
    rw [inV2]
    by_cases c : (decide (s = x) || decide (s = y)) = true
    · exact ifF (by rw [c]; rfl) (k' (by rw [c]; rfl) _ (L2.Same.refl _))
    · exact ifT (by rw [Bool.eq_false_iff.mpr c]; rfl) ⟨_, rfl, k (by rw [Bool.eq_false_iff.mpr c]; rfl) _ (L2.Same.refl _)⟩
  intro H2 s2 e2'
  have w2 := w1.but (Same.but s2) x1
  obtain ⟨th, rest, hth⟩ : ∃ th rest, W.heaps.filter (fun s => !(decide (s = x) || decide (s = y))) = th :: rest := by
    cases hf : W.heaps.filter (fun s => !(decide (s = x) || decide (s = y))) with
    | cons th rest => exact ⟨th, rest, rfl⟩
    | nil =>
      have h5 := nodup_len (m := [x, y]) ok.hnd (fun s hs => by
        have := List.filter_eq_nil_iff.mp hf s hs
        simp only [Bool.not_eq_true, Bool.not_eq_false', Bool.or_eq_true, decide_eq_true_eq] at this
        simpa using this)
      rw [ok.hl] at h5
      simp at h5
  have hthm : th ∈ W.heaps := (List.mem_filter.mp (hth ▸ List.mem_cons_self (a := th) (l := rest))).1
  have nth := ok.hok th hthm
  rw [hth] at e2'
  refine ⟨D, false, _, _, _, rfl, rfl, e2', at0, ?_⟩
  refine ⟨szl (show 0 < 100000 by decide), fun M hM => ?_⟩
  have x2 := x1.same s2
  have nM : M ≠ b := x2.ne hM
  have b02 := b1.same2 s2
  have fM : H M = none := But.free b02 nM hM
  have nMo : ∀ {a : Addr} {o : HO}, H a = some o → a ≠ M := fun e z => by rw [z, fM] at e; cases e
  have p2 := (hp.but b02 hb)
  have w2m := w2.but (Same.but (same_upd (o := .lst []) hM)) x2
  refine ⟨_, rfl, d, _, rfl, w2m.get valK.2.2.1, A.m, false, _, rfl, w2m.m.1, fun J w => ?_⟩
  rw [List.length_map] at w
  refine for_it w (fun i σ' H' => But b H H' ∧ BoxAt H' b ∧ WAt H' b d A W ∧ PlAt H' pl ns o ∧ H' two = some (.lst [.str x, .str y]) ∧ (∃ mk : List Str, mk.length = i ∧ (∀ s ∈ mk, s = x ∨ s = y ∨ s = th) ∧ H' M = some (.lst (mk.map V.str))) ∧
      ∃ z1 z2 z3, σ' = [some (.ref b), some (.ref d), some (.ref pl), some (.ref two), some (.str th), some (.ref M), z1, z2, z3, none, none])
    ⟨b02.keep hM, x2.keep hM, w2m, p2.same (same_upd hM), upd_get hM (b02 _ _ n2 e2), ⟨[], rfl, fun _ h => (List.not_mem_nil h).elim, upd_same⟩, _, _, _, rfl⟩ (fun i σ' H' _ z => z.2.2.1.m.1) ?_ ?_
  · rintro i _ _ H3 _ hi ⟨b3, x3, w3, p3, e3, ⟨mk, m1, m2, m3⟩, z1, z2, z3, rfl⟩ ⟨T1, u, v, rfl, hT, rfl, y1, y2⟩
    have hi2 : i < W.places.length := by have := ok.pl; have := ok.ml; omega
    have ha : W.marks[i]? = some W.marks[i] := List.getElem?_eq_getElem hi
    generalize W.marks[i] = mark at ha
    simp only [List.getElem?_map, ha, Option.map_some, Option.some.injEq] at y2
    simp only [Option.some.injEq] at y1
    subst y1
    subst y2
    have s4 := same_upd (o := .tup [.int (i : Nat), .str mark]) hT
    have w4 := w3.but (Same.but s4) x3
    have plen := Paired.length w4.pl
    have hpi : A.pls[i]? = some A.pls[i] := List.getElem?_eq_getElem (by omega)
    generalize A.pls[i] = pa at hpi
    obtain ⟨pn, pn1, pn2⟩ := paired_get w4.pl hpi
    have po := ok.pok _ (List.mem_of_getElem? pn1)
    have x4 := x3.same s4
    refine ⟨T1, _, rfl, upd_same, rfl, _, _, rfl, _, _, rfl, rfl, ?_⟩
    obtain ⟨nr, pp0, pp1⟩ := p3.same s4
    refine ⟨_, rfl, _, rfl, d, _, rfl, w4.get valK.2.2.2.1, _, rfl, A.p, false, _, _, .ref pa, rfl, rfl, w4.p.1, ?_, pl, pa, true, true, ns, pn, o, rfl, ⟨nr, pp0, pp1⟩, pn2, by have := p0.len; omega, by have := p0.len; have := ok.hi; omega, fun u _ v hv => .inr (by have := po.2 v hv; constructor <;> omega), fun H5 s5 => ?_⟩
    · rw [atI_nat (by rw [List.length_map]; omega), List.getElem_map]
      rw [List.getElem?_eq_getElem (by omega)] at hpi
      rw [Option.some.inj hpi]
    generalize dot ns pn - o = val
    have s35 := s4.trans s5
    have x5 := x3.same s35
    have fin : ∀ (H6 : Hp) (s : Str), But b H3 H6 → BoxAt H6 b → (s = x ∨ s = y ∨ s = th) → rAppend (.ref M) [.str s] H6 (fun _ H' => But b H H' ∧ BoxAt H' b ∧ WAt H' b d A W ∧ PlAt H' pl ns o ∧ H' two = some (.lst [.str x, .str y]) ∧ (∃ mk : List Str, mk.length = i + 1 ∧ (∀ s ∈ mk, s = x ∨ s = y ∨ s = th) ∧ H' M = some (.lst (mk.map V.str)))) := by
      intro H6 s b6 x6 hs
      have m6 := b6 _ _ nM m3
      have w6 := w3.but b6 x3
      refine ⟨M, _, .str s, rfl, rfl, m6, sz_small (by rw [List.length_map]; have := ok.few; have := ok.ml; omega), (b3.trans b6).wr fM, x6.upd nM, ⟨?_, ⟨?_, w6.n.2⟩, ⟨?_, w6.m.2⟩, ⟨?_, w6.p.2⟩, ⟨?_, w6.h.2⟩, L2.Paired.mapP w6.pl fun a p e => ?_⟩, ?_, ?_, mk ++ [s], by rw [List.length_append, m1]; rfl, ?_, by rw [upd_same, List.map_append]; rfl⟩
      · rw [upd_ne (nMo hw.d)]; exact w6.d
      · rw [upd_ne (nMo hw.n.1)]; exact w6.n.1
      · rw [upd_ne (nMo hw.m.1)]; exact w6.m.1
      · rw [upd_ne (nMo hw.p.1)]; exact w6.p.1
      · rw [upd_ne (nMo hw.h.1)]; exact w6.h.1
      · rw [upd_ne (fun z => by rw [z, m6] at e; cases e)]; exact e
      · obtain ⟨nr, g0, g1⟩ := hp
        exact ⟨nr, by rw [upd_ne (nMo g0)]; exact (b3.trans b6).get hb g0 (fun _ z => nomatch z), by rw [upd_ne (nMo g1)]; exact (b3.trans b6).get hb g1 (fun _ z => nomatch z)⟩
      · rw [upd_ne (nMo e2)]
        exact (b3.trans b6) _ _ n2 e2
      · intro u hu
        rcases List.mem_append.mp hu with hu | hu
        · exact m2 u hu
        · rw [List.mem_singleton.mp hu]
          exact hs
    have goTwo : ∀ (H6 : Hp), But b H3 H6 → BoxAt H6 b → ∃ s : Str, atI [V.str x, V.str y] (if decide (val < 0) = true then 1 else 0) = some (.str s) ∧ (s = x ∨ s = y ∨ s = th) := by
      intro H6 _ _
      by_cases c : val < 0
      · exact ⟨y, by rw [if_pos (decide_eq_true c)]; exact at1, .inr (.inl rfl)⟩
      · exact ⟨x, by rw [if_neg (by simpa using c)]; exact at0, .inl rfl⟩
    refine ⟨_, rfl, rfl, _, rfl, ?_⟩
    by_cases cv : val = 0
    · refine ifF (by simp [cv]) ?_
      obtain ⟨l, xs, yy, g1, g2, g3, g4, g5⟩ := fin H5 th (Same.but s35) x5 (.inr (.inr rfl))
      exact ⟨_, rfl, tyL (s35 _ _ m3), _, rfl, l, xs, yy, g1, g2, g3, g4, g5.1, g5.2.1, g5.2.2.1, g5.2.2.2.1, g5.2.2.2.2.1, g5.2.2.2.2.2, _, _, _, rfl⟩
    refine ifT (by simp [cv]) ⟨_, rfl, _, rfl, two, false, _, rfl, s35 _ _ e3, rfl, rfl, _, rfl, ?_⟩
    by_cases cm : inV (.str mark) [.str x, .str y] = true
    · refine ifT cm ?_
      obtain ⟨s, s1, s2'⟩ := goTwo H5 (Same.but s35) x5
      obtain ⟨l, xs, yy, g1, g2, g3, g4, g5⟩ := fin H5 s (Same.but s35) x5 s2'
      exact ⟨_, rfl, tyL (s35 _ _ m3), _, rfl, _, rfl, _, _, rfl, rfl, .inr ⟨_, rfl, two, false, _, _, _, rfl, rfl, s35 _ _ e3, s1, l, xs, yy, g1, g2, g3, g4, g5.1, g5.2.1, g5.2.2.1, g5.2.2.2.1, g5.2.2.2.2.1, g5.2.2.2.2.2, _, _, _, rfl⟩⟩
    · refine ifF (Bool.eq_false_iff.mpr cm) ⟨_, rfl, b, 3, rfl, x5, by decide, PB.W.small (by decide), fun t H6 t0 t1 b6 x6 => ⟨_, _, rfl, rfl, _, rfl, ?_⟩⟩
      have b36 := (Same.but (b := b) s35).trans b6
      by_cases ct : 0 < t
      · refine ifT (decide_eq_true ct) ?_
        obtain ⟨s, s1, s2'⟩ := goTwo H6 b36 x6
        obtain ⟨l, xs, yy, g1, g2, g3, g4, g5⟩ := fin H6 s b36 x6 s2'
        exact ⟨_, rfl, tyL (b36 _ _ nM m3), _, rfl, _, rfl, _, _, rfl, rfl, .inr ⟨_, rfl, two, false, _, _, _, rfl, rfl, b36 _ _ n2 e3, s1, l, xs, yy, g1, g2, g3, g4, g5.1, g5.2.1, g5.2.2.1, g5.2.2.2.1, g5.2.2.2.2.1, g5.2.2.2.2.2, _, _, _, rfl⟩⟩
      · refine ifF (decide_eq_false ct) ?_
        obtain ⟨l, xs, yy, g1, g2, g3, g4, g5⟩ := fin H6 th b36 x6 (.inr (.inr rfl))
        exact ⟨_, rfl, tyL (b36 _ _ nM m3), _, rfl, l, xs, yy, g1, g2, g3, g4, g5.1, g5.2.1, g5.2.2.1, g5.2.2.2.1, g5.2.2.2.2.1, g5.2.2.2.2.2, _, _, _, rfl⟩
  · rintro _ H3 ⟨b3, x3, w3, p3, e3, ⟨mk, m1, m2, m3⟩, z1, z2, z3, rfl⟩
    refine ⟨_, rfl, d, _, rfl, w3.d, fun d2 hd2 => ?_⟩
    refine ⟨_, rfl, _, rfl, d2, _, rfl, DPut.k (k := .inr "marks") upd_same (by show 5 < sizeLine; exact sz_small (by decide)), _, rfl, ?_⟩
    have s9 : L2.Same H3 (upd (upd H3 d2 (.dK (wkv W A))) d2 (.dK (putK (wkv W A) (.inr "marks") (.ref M)))) := fun a o e => by
      rw [upd_ne (ne_of_none e hd2), upd_ne (ne_of_none e hd2)]
      exact e
    have w9 := w3.but (Same.but s9) x3
    refine q d2 _ { A with m := M } { W with marks := mk } (b3.same2 s9) (x3.same s9) ⟨?_, w9.n, ⟨s9 _ _ m3, nM⟩, w9.p, w9.h, w9.pl⟩ ⟨ok.lo, ok.hi, ok.nd, ok.nok, ok.few, by show mk.length = _; rw [m1]; exact ok.ml, fun s hs => ?_, ⟨[x, y, th], (by show 3 ≤ 4; decide), fun s hs => by simpa using m2 s hs⟩, ok.pl, ok.pok, ok.hl, ok.hok, ok.hnd⟩ rfl
    · rw [upd_same]
      rfl
    · rcases m2 s hs with rfl | rfl | rfl
      · exact nx
      · exact ny
      · exact nth
end PB

/-! ## L3 -/
set_option Elab.async false
set_option linter.all false
set_option maxRecDepth 100000
set_option maxHeartbeats 4000000
namespace PB
open PySem PySem.Spec PyProof.Rows L2 LamX
/-! ### a lambda of one parameter, called by the def that got it -/
structure LamP (sc scope : Scope) (p : Str) : Prop where
  kind : scope.kind = .function
  co : scope.isCoroutine = false
  gen : scope.isGenerator = false
  par : scope.names.lookup p = some .local
  own : ∀ y ∈ scope.names, y.2 ≠ .cell ∧ (y.2 = .local → y.1 = p)
  free : ∀ y ∈ scope.names, y.2 = .free → sc.names.lookup y.1 = some .cell ∨ sc.names.lookup y.1 = some .free
def lamPB (sc scope : Scope) (p : Str) : Bool :=
  decide (scope.kind = .function) && !scope.isCoroutine && !scope.isGenerator && decide (scope.names.lookup p = some .local) && scope.names.all fun y => !decide (y.2 = .cell) && (!decide (y.2 = .local) || decide (y.1 = p)) && (!decide (y.2 = .free) || decide (sc.names.lookup y.1 = some .cell) || decide (sc.names.lookup y.1 = some .free))
theorem lamP_by {sc scope : Scope} {p : Str} (h : lamPB sc scope p = true) : LamP sc scope p := by
  unfold lamPB at h
  simp only [Bool.and_eq_true, Bool.or_eq_true, Bool.not_eq_true', decide_eq_true_eq, decide_eq_false_iff_not, List.all_eq_true] at h
  obtain ⟨⟨⟨⟨h1, h2⟩, h3⟩, h0⟩, h4⟩ := h
  refine ⟨h1, h2, h3, h0, fun y hy => ⟨(h4 y hy).1.1, fun e => ?_⟩, fun y hy e => ?_⟩
  · rcases (h4 y hy).1.2 with z | z
    · exact absurd e z
    · exact z
  · rcases (h4 y hy).2 with (z | z) | z
    · exact absurd e z
    · exact .inl z
    · exact .inr z
theorem LamP.has {X : Cx} {scope : Scope} {p : Str} (L : LamP X.env.scope scope p) (ok : X.Ok) : ∀ y ∈ scope.names, y.2 = .free → ∃ c, X.env.cells.lookup y.1 = some c := fun y hy e => by
  rcases L.free y hy e with k | k
  · exact ok.has _ (.inl k)
  · exact ok.has _ (.inr k)
/-- the context of its body, entered at s from the frames outer; it lets nothing out -/
def lamC (X : Cx) (A : Around) (outer : List Env) (s : Shared) (H : Hp) (scope : Scope) (f c' : Addr) : Cx where
  prog := X.prog
  w := X.w
  K := X.K
  mg := X.mg
  base := X.base
  A := A.deeper (lamEnv X scope s.heap.objs.size f c')
  N := X.N
  s_0 := s
  H_0 := H
  env := lamEnv X scope s.heap.objs.size f c'
  outer := outer
  stack := lamEnv X scope s.heap.objs.size f c' :: outer
  ex := []
  fn := fun _ => false
  calm := true
  pn := []
  xe := fun _ _ => False
section
variable {X : Cx} {pins : List (Addr × Obj)} {σ : L2.St} {H HZ : Hp} {s s1 : Shared} {p : Str}
theorem lam_startP {A : Around} {outer : List Env} {scope : Scope} {f c' : Addr} {h₁ : Heap} {tk j : Nat} {v : V} {u : Value} (I : Inv X pins σ H s) (L : LamP X.env.scope scope p) (e0 : Env0 X.prog X.w X.K X.mg X.base A outer s1 HZ) (hd : A.handled = none) (hj : X.N[j]? = some p) (hnd : X.N.Nodup) (rv : RelV v u)
    (un : Un (frs X.stack) [] H HZ s.heap s1.heap) (hns : h₁.Ns s1.heap.objs.size fun y => ([(p, u)] : List (Str × Value)).reverse.lookup y) (kp : ∀ b o, s1.heap.get? b = some o → h₁.get? b = some o) :
    Inv (lamC X A outer s1 HZ scope f c') [] (σ.set j (some v)) HZ { s1 with heap := h₁, toks := tk } := by
  have hfree := L.has I.ok
  have cm : ∀ {y c}, (cloFrom X.env.cells scope.names []).lookup y = some c → X.env.cells.lookup y = some c := fun {y c} e => by
    rcases cloFrom_mem (PySem.mem_of_lookup e) with hm | ⟨h1, h2⟩
    · cases hm
    · obtain ⟨c1, hc⟩ := hfree _ h1 rfl
      have hc : X.env.cells.lookup y = some c1 := hc
      have e2 : c = c1 := by
        rw [h2, hc] <;> rfl
      rw [e2]
      exact hc
  have look : ∀ {y}, scope.names.lookup y = some .free → ∃ c, (cloFrom X.env.cells scope.names []).lookup y = some c := fun {y} hl => by
    have hy : (y, NameKind.free) ∈ scope.names := PySem.mem_of_lookup hl
    exact mem_lookup (cloFrom_has (cells := X.env.cells) (acc := []) hy)
  have cellK : ∀ {c : Addr} {v : Option Value}, H c = none → s.heap.IsCell c v → h₁.IsCell c v := fun {c v} n ⟨o, ho, hd⟩ => by
    obtain ⟨sl, q⟩ := un.any ho n (by simp)
    exact ⟨_, kp _ _ q, hd⟩
  have noA : ∀ b : Addr, b ∉ (lamC X A outer s1 HZ scope f c').ex := fun b z => absurd (show b ∈ ([] : List Addr) from z) (by simp)
  refine ⟨⟨e0.mod, L.kind, rfl, rfl, Nat.le_refl _, fun y z c e1 e2 => I.ok.inj y z c (cm e1) (cm e2), fun y hy => ?_, fun y c z _ => ?_, fun _ => hd, Around.frames_deeper e0.frames, .inr ⟨rfl, rfl⟩, fun b z => absurd z (noA b), e0.bs, e0.bsz, fun b _ _ => noA b,
      fun b z => absurd z (noA b), e0.funs, e0.frf⟩,
    rfl, e0.bare, Un.kept kp, ⟨_, hns, fun i y v e1 e2 e3 => ?_⟩, fun y c e => ?_, e0.hok.fresh (Nat.le_refl _), fun y c e => ?_, fun q hq => absurd (show q ∈ ([] : List (Addr × Obj)) ++ [] from hq) (by simp), e0.hok.kept kp, (by rw [List.length_set]; exact I.len)⟩
  · have hy : scope.names.lookup y = some .cell ∨ scope.names.lookup y = some .free := hy
    rcases hy with hy | hy
    · exact absurd rfl (L.own _ (PySem.mem_of_lookup hy)).1
    · exact look hy
  · have z : false = true := z
    cases z
  · have e3 : Vis scope y := e3
    rcases e3 with k | k | k
    · have yp : y = p := (L.own _ (PySem.mem_of_lookup k)).2 rfl
      subst yp
      have ij : i = j := nodup_at hnd e1 hj
      subst ij
      have hlt : i < σ.length := by
        have := (List.getElem?_eq_some_iff.mp e2).1
        rwa [List.length_set] at this
      rw [List.getElem?_set_self hlt] at e2
      cases e2
      exact ⟨u, rv, .inl ⟨k, by simp⟩⟩
    · exact absurd rfl (L.own _ (PySem.mem_of_lookup k)).1
    · have nyp : y ≠ p := fun z => by
        rw [z, L.par] at k
        cases k
      have nij : j ≠ i := fun z => by
        rw [z] at hj
        exact nyp (Option.some.inj (e1.symm.trans hj))
      rw [List.getElem?_set_ne nij] at e2
      obtain ⟨m, hn, hl⟩ := I.loc
      have hvis : Vis X.env.scope y := (L.free _ (PySem.mem_of_lookup k) rfl).elim (fun k => .inr (.inl k)) (fun k => .inr (.inr k))
      obtain ⟨w', r, q⟩ := hl i y v e1 e2 hvis
      obtain ⟨c2, h2⟩ := look k
      refine ⟨w', r, .inr ⟨.inr k, c2, h2, ?_⟩⟩
      have c1 := cm h2
      rcases q with ⟨k', _⟩ | ⟨_, c3, e', z⟩
      · have k' : X.env.scope.names.lookup y = some .local := k'
        rcases L.free _ (PySem.mem_of_lookup k) rfl with k2 | k2 <;> rw [show X.env.scope.names.lookup y = _ from k2] at k' <;> cases k'
      · rw [c1] at e'
        cases e'
        exact cellK (I.freeC y _ c1) z
  · obtain ⟨w', z⟩ := I.cell y c (cm e)
    exact ⟨w', cellK (I.freeC y c (cm e)) z⟩
  · obtain ⟨v, o, ho, hd⟩ := I.cell y c (cm e)
    exact un.free c o ho (I.freeC y c (cm e)) (by simp)
/-- a(e), in the def that got the lambda -/
theorem pe_actP {CXg : CXT} {Eg : XK} {Ng : List Str} {qg : Str} {sg : Scope} {g f c' : Addr} {cdg pm ctv : Value} {params : Arguments} {body : Expr} {scope : Scope} {k i j : Nat} {a : Str} {tb te : TE} {p1 p2 : Pos} {e : Expr}
    (I : Inv X pins σ H s) (L : LamP X.env.scope scope p) (hf : s.heap.get? f = some (PySem.W.kla_obj "<lambda>" (X.env.qual ++ "<lambda>") params body scope (cloFrom X.env.cells scope.names []) pm c' ctv)) (hfn : H f = none) (hfr : f ∉ frs X.stack)
    (hbind : ∀ u, bindArgs (PySem.W.kla_fn "<lambda>" (X.env.qual ++ "<lambda>") params body scope (cloFrom X.env.cells scope.names []) pm (.ref c') ctv) ⟨[u], []⟩ = pure [(p, u)])
    (hr : Room (k + 1) (X.A.deeper (envOfC qg sg s.heap.objs.size g cdg))) (hj : X.N[j]? = some p) (hnd : X.N.Nodup)
    (hbody : ∀ (A : Around) (outer : List Env) (s : Shared) (H : Hp), Room k (A.deeper (lamEnv X scope s.heap.objs.size f c')) → PE (lamC X A outer s H scope f c') body tb)
    (hN : Ng[i]? = some a) (hv : Vis sg a) (he : PE (cxOf CXg X.prog X.w X.K X.mg X.base Ng qg sg g cdg X.A X.stack s H Eg) e te) (hd : (a == ("__debug__" : Str)) = false := by decide) (hcd : (a == ("__classdict__" : Str)) = false := by decide)
    (hs1 : starEach [e] (cxOf CXg X.prog X.w X.K X.mg X.base Ng qg sg g cdg X.A X.stack s H Eg).env = (false, eval e (cxOf CXg X.prog X.w X.K X.mg X.base Ng qg sg g cdg X.A X.stack s H Eg).env) :: starEach [] (cxOf CXg X.prog X.w X.K X.mg X.base Ng qg sg g cdg X.A X.stack s H Eg).env := by rfl) :
    PE (cxOf CXg X.prog X.w X.K X.mg X.base Ng qg sg g cdg X.A X.stack s H Eg) (.Call (.Name a p1) [e] [] p2)
      (fun σZ HZ Q => σZ[i]? = some (some (.ref f)) ∧ te σZ HZ fun v H1 => H1 c' = some (CodeO c' (X.env.qual ++ "<lambda>")) ∧ tb (σ.set j (some v)) H1 Q) := by
  refine ⟨fun pinsZ sZ σZ HZ Q IZ h => ?_⟩
  obtain ⟨hs, ht⟩ := h
  refine wpAny_Call_Name_kw (thn ((pe_var (pos := p1) (i := i) hN hv hd hcd).run pinsZ sZ σZ HZ (fun v H1 => v = .ref f ∧ H1 = HZ) IZ ⟨.ref f, hs, rfl, rfl⟩) fun u s1 ⟨v, H1, I1, r1, q1⟩ => ?_)
  obtain ⟨ev, eH⟩ := q1
  subst ev
  rw [eH] at I1
  obtain rfl : u = Value.ref f := r1
  have ofI : ∀ {s1 : Shared} {σ1 : L2.St} {H1 : Hp} {pn : List (Addr × Obj)}, Inv (cxOf CXg X.prog X.w X.K X.mg X.base Ng qg sg g cdg X.A X.stack s H Eg) pn σ1 H1 s1 → s1.heap.get? f = some (PySem.W.kla_obj "<lambda>" (X.env.qual ++ "<lambda>") params body scope (cloFrom X.env.cells scope.names []) pm c' ctv) :=
    fun I1 => I1.base.keep f _ hf hfn hfr (fun z => nomatch (show f ∈ ([] : List Addr) from z))
  refine PySem.W.callWith_F ⟨_, _, _, _, ofI I1⟩ (thn ((pa_cons he pa_nil hs1).run p2 pinsZ s1 σZ HZ _ I1 (show tCons te tNil σZ HZ (fun vs H1 => match vs with | [v] => H1 c' = some (CodeO c' (X.env.qual ++ "<lambda>")) ∧ tb (σ.set j (some v)) H1 Q | _ => False) from ht)) fun us s2 ⟨vs, H2, I2, r2, q2⟩ => ⟨⟨_, _, _, _, ofI I2⟩, ?_⟩) hs1 rfl
  obtain ⟨v, rfl, hc, ht2⟩ : ∃ v, vs = [v] ∧ H2 c' = some (CodeO c' (X.env.qual ++ "<lambda>")) ∧ tb (σ.set j (some v)) H2 Q := by
    match vs, q2 with
    | [v], q2 => exact ⟨v, rfl, q2.1, q2.2⟩
  obtain ⟨u, rfl, rv⟩ := vals1 r2
  have of1 := ofI I2
  have un : Un (frs X.stack) [] H H2 s.heap s2.heap := I2.base
  obtain ⟨⟨oc, vs, t, hoc, hdc, hvc⟩, _, _⟩ := I2.hok c' _ hc
  have rc : codeAny (model X.prog X.w) (X.A.deeper (envOfC qg sg s.heap.objs.size g cdg)) (.call (.ref f) ⟨[u], []⟩) (CR C8.CX0 (envOfC qg sg s.heap.objs.size g cdg :: X.stack) X.prog X.w H2 s2 Q C8.E0) s2 := by
    refine PySem.W.kla_callFunE hr.depth of1 rfl L.co L.gen rfl ⟨c', oc, vs, t, rfl, hoc, hdc, hvc⟩ ?_
    rw [hbind]
    refine wpAny_pure (wpAny_newFunctionEnv (fun y hy => (L.own y hy).1) (fun y hy => by rw [List.mem_singleton.mp hy]; exact L.par) (fun h₁ hns hsb => ⟨I2.nolimit.fresh _ hsb, ?_⟩) L.kind)
    show codeAny _ _ (.expr body (lamEnv X scope s2.heap.objs.size f c')) _ _
    have kp : ∀ b o, s2.heap.get? b = some o → h₁.get? b = some o := fun b o e => hsb.extBut b o (Nat.ne_of_lt (Heap.lt_size e)) (Heap.get?_push_of_some _ e)
    have J : Inv (lamC X (X.A.deeper (envOfC qg sg s.heap.objs.size g cdg)) (envOfC qg sg s.heap.objs.size g cdg :: X.stack) s2 H2 scope f c') [] (σ.set j (some v)) H2 { s2 with heap := h₁, toks := s2.toks + ([(p, u)] : List (Str × Value)).length } :=
      lam_startP I L I2.env0 hr.hd hj hnd rv un hns kp
    refine PySem.W.kla_codeExpr (wpAny_mono ((hbody _ _ s2 H2 (hr.deeper _)).run [] _ _ H2 Q J ht2) (fun v s' hq => ?_) fun e s' hq => (show False from hq).elim)
    obtain ⟨w', H', J', rv, q⟩ := hq
    exact ⟨w', H', J'.os, J'.bare, J'.base, J'.hok, rv, q⟩
  refine wpAny_call (codeAny_mono rc fun r s' hq => ?_)
  cases r with
  | error e => exact (show False from hq).elim
  | ok fl =>
    cases fl with
    | ret u => exact I2.after hq
    | next => exact False.elim hq
    | brk => exact False.elim hq
    | cont => exact False.elim hq
end
end PB

/-! ## L4 -/
set_option Elab.async false
set_option linter.all false
set_option maxRecDepth 100000
set_option maxHeartbeats 4000000
namespace PB
open PySem PySem.Spec PyProof.Rows L2 LamX
/-- what a def that gets (a value, a lambda) is told of the lambda: it may call it by a(e) -/
def Acts (Z : Cx) (a : Str) (i : Nat) (f c' : Addr) (q : Str) (tl : V → Hp → VK → Prop) : Prop :=
  ∀ (e : Expr) (te : TE) (p1 p2 : Pos), PE Z e te → starEach [e] Z.env = (false, eval e Z.env) :: starEach [] Z.env →
    PE Z (.Call (.Name a p1) [e] [] p2) (fun σZ HZ Q => σZ[i]? = some (some (.ref f)) ∧ te σZ HZ fun v H1 => H1 c' = some (CodeO c' q) ∧ tl v H1 Q)
def tLamP (T : List (Addr × Str)) (TT : V → (V → Hp → VK → Prop) → Hp → VK → XK → Prop) (E : XK) (t1 : TE) (j : Nat) (tb : TE) : TE := fun σ H Q => t1 σ H fun vp H0 => Tabs T H0 ∧ ∀ H1, ExtN H0 H1 → Tabs T H1 → TT vp (fun v H' Q' => tb (σ.set j (some v)) H' Q') H1 Q E
theorem relO_keep {v : V} {u : Value} (r : RelV v u) : RelV v u := r
theorem pe_lamP {X : Cx} {T : List (Addr × Str)} {TT : V → (V → Hp → VK → Prop) → Hp → VK → XK → Prop} {x a0 a p : Str} {c P : Addr} {k kb j : Nat} {d : He.DefD} {Ng : List Str} {params : Arguments} {body e1 : Expr} {scope : Scope} {t1 tb : TE} {E : XK} {pp lpos pos : Pos}
    (D : At X.K X.mg x d) (hg : Gl X x) (Sg : FnScope Ng [a0, a] d.scope) (hN : Ng[1]? = some a) (hva : Vis d.scope a)
    (hb : ∀ (kV doc pm : Value) (an : Option Addr) (cdv ct : Value) (us : List Value), us.length = [a0, a].length → bindArgs (PySem.W.fnOf d.name d.qual d.params d.body d.scope .none kV doc pm an cdv ct) ⟨us, []⟩ = pure ([a0, a].zip us))
    (hr : Room (k + 2) X.A) (hkb : kb ≤ k) (hx : Passes (L2.CX X.prog X.w) X E)
    (hG : ∀ (g : Addr) (cdv : Value) (f c' : Addr) (s : Shared) (H : Hp) (vp : V) (Q : VK) (tl : V → Hp → VK → Prop), Room (k + 1) (X.A.deeper (envOfC d.qual d.scope s.heap.objs.size g cdv)) →
      Acts (cxOf (L2.CX X.prog X.w) X.prog X.w X.K X.mg X.base Ng d.qual d.scope g cdv X.A X.stack s H E) a 1 f c' (X.env.qual ++ "<lambda>") tl → H c' = some (CodeO c' (X.env.qual ++ "<lambda>")) → TT vp tl H Q E →
      ∃ t, PSs (cxOf (L2.CX X.prog X.w) X.prog X.w X.K X.mg X.base Ng d.qual d.scope g cdv X.A X.stack s H E) d.body t ∧ t { nx := fun _ H' => Q .non H', rt := Q } (L2.start Ng [vp, .ref f]) H)
    (h1 : PE X e1 t1) (TB : TabB X.base X.mg c P) (hcode : X.env.code = .ref c) (hmT : (P, X.env.qual ++ "<lambda>") ∈ T) (hu : ∀ p ∈ T, p.1 = P → p.2 = X.env.qual ++ "<lambda>") (L : LamP X.env.scope scope p) (hdef : defaultsOf params X.env = ([], []))
    (hj : X.N[j]? = some p) (hnd : X.N.Nodup)
    (hbind : ∀ (q : Str) (cl : List (Str × Addr)) (pm cv ctv u : Value), bindArgs (PySem.W.kla_fn "<lambda>" q params body scope cl pm cv ctv) ⟨[u], []⟩ = pure [(p, u)])
    (hbody : ∀ (A : Around) (outer : List Env) (s : Shared) (H : Hp) (f c' : Addr), Room kb (A.deeper (lamEnv X scope s.heap.objs.size f c')) → PE (lamC X A outer s H scope f c') body tb)
    (hs1 : starEach [e1, .Lambda params body scope lpos] X.env = (false, eval e1 X.env) :: starEach [.Lambda params body scope lpos] X.env := by rfl)
    (hs2 : starEach [.Lambda params body scope lpos] X.env = (false, eval (.Lambda params body scope lpos) X.env) :: starEach [] X.env := by rfl)
    (hpl : (backTo pos (starEach [.Lambda params body scope lpos] X.env)).any (·.1) = false := by rfl)
    (hdb : (x == ("__debug__" : Str)) = false := by decide) (hd : (a == ("__debug__" : Str)) = false := by decide) (hcd : (a == ("__classdict__" : Str)) = false := by decide) :
    PE X (.Call (.Name x pp) [e1, .Lambda params body scope lpos] [] pos) (tLamP T TT E t1 j tb) := by
  obtain ⟨g, fd, hm, F⟩ := D.ex
  have hbn := F.bindsN hb
  obtain ⟨oc, od, dV, kV, doc, pm, an, cdv, ct, osl, rfl, lk, hcg, _, _⟩ := F.ex
  refine ⟨fun pins s σ H Q I h => ?_⟩
  refine wpAny_Call_Name_kw (ld_glob I hg hm ?_ hdb)
  refine PySem.W.callWith_K (h₀ := X.base) I.ok.mod.kin F.kp ?_ hs1 hpl
  rw [hs1, hs2]
  show wpAny _ _ (spliced ((false, _) :: (false, _) :: backTo pos (starEach [] X.env))) _ _ s
  refine Calls.spliced_cons (thn (h1.run pins s σ H _ I h) fun u s0 ⟨vp, H0, I0, r0, hT, q0⟩ => ?_)
  refine Calls.spliced_cons (lam_make2 I0 TB hcode hmT hu hT hdef (L.has I0.ok) fun f c' pm' ctv H1 s' I1 eN T1 hf hfn hfr hco => ?_)
  refine Calls.spliced_nil ⟨I1.kIn, ?_⟩
  have rc : codeAny (model X.prog X.w) X.A (.call (.ref g) ⟨[u, .ref f], []⟩) (CR (L2.CX X.prog X.w) X.stack X.prog X.w H1 s' Q E) s' := by
    refine run_ofS (N := Ng) (ps := [a0, a]) (us := [u, .ref f]) (vs := [vp, .ref f]) lk hcg Sg hr I1.env0 (hbn s' [u, .ref f] I1.kIn rfl) (.cons r0 (.cons rfl .nil)) rfl fun hr' => ?_
    exact hG g cdv f c' s' H1 vp Q (fun v H' Q' => tb (σ.set j (some v)) H' Q') hr' (fun e te p1 p2 he hs => pe_actP (k := kb) (i := 1) (j := j) I1 L hf hfn hfr (fun u => hbind _ _ _ _ _ u) (hr'.mono (by omega)) hj hnd (fun A outer s H hr2 => hbody A outer s H f c' hr2) hN hva he hd hcd hs) hco (q0 H1 eN T1)
  refine wpAny_call (codeAny_mono rc fun r s2 hq => ?_)
  cases r with
  | error e => exact hx pins σ _ _ e s2 I1 hq
  | ok fl =>
    cases fl with
    | ret u => exact I1.after hq
    | next => exact False.elim hq
    | brk => exact False.elim hq
    | cont => exact False.elim hq
end PB

/-! ## E1 -/
set_option Elab.async false
set_option linter.all false
set_option maxRecDepth 100000
set_option maxHeartbeats 4000000
namespace PB
open PySem PySem.Spec PyProof.Rows L2
/-- what the written part says of the two classes of exceptions -/
structure XX (K : PySem.W.Frag) (mg : Str → Option Value) (PE NP : Addr) : Prop where
  g : mg "PlaneError" = some (.ref PE)
  ga : PySem.W.specialIn K (.ref PE) "__getattribute__" = some (some (.builtin "type.__getattribute__"))
  ty : PySem.W.typeIn K (.ref PE) = some (.type "type")
  rd : PySem.W.readsIn K PE (.type "type") = true
  fi : PySem.W.findCls K (.ref PE) (.type "type") "__init__" = some (.val (.builtin "ValueError.__init__"))
  n : mg "NoPlace" = some (.ref NP)
  ox : OexC K NP
  fo : PySem.W.findIn K (.ref NP) "found" = some none
  ini : ∃ fI fd, PySem.W.findIn K (.ref NP) "__init__" = some (some (.ref fI)) ∧ PySem.W.typeIn K (.ref fI) = some (.type "function") ∧ FunD K d_NoPlace___init__.name d_NoPlace___init__.qual d_NoPlace___init__.params d_NoPlace___init__.body d_NoPlace___init__.scope [] [] fI fd
  exm : PySem.W.exmOne K (.ref NP) (.ref NP) = some true
section
variable {X : Cx} {PE NP : Addr} {e : Expr} {es : List Expr} {ta : TA} {p1 p2 pos : Pos}
theorem pe_pinit {pl : Sem Bool} (xx : XX X.K X.mg PE NP) (hg : Gl X "PlaneError") (ha : PA X (e :: es) ta)
    (hc : eval (.Call (.Attribute (.Name "PlaneError" p1) "__init__" p2) (e :: es) [] pos) X.env = (do
      let ov ← eval (.Name "PlaneError" p1) X.env
      standAt p2.atName
      let (f, first) ← holding [ov] (getMethod ov "__init__" pl)
      callWith pos f first (backTo pos (starEach (e :: es) X.env)) (backToKw pos (keywordEach [] X.env))) := by rfl)
    (he : starEach (e :: es) X.env = (false, eval e X.env) :: starEach es X.env := by rfl) (hpl : (backTo pos (starEach es X.env)).any (·.1) = false := by rfl) :
    L2.PE X (.Call (.Attribute (.Name "PlaneError" p1) "__init__" p2) (e :: es) [] pos) (tVeI X.K ta) := by
  refine ⟨fun pins s σ H Q I h => ?_⟩
  refine PySem.W.methodCall_KW (ld_glob I hg xx.g ?_ (by decide)) hc
  obtain ⟨m, fr⟩ := I.fr
  refine PySem.W.method_of_cls fr I.ok.mod.kin xx.ga (PySem.W.cls_val fr I.ok.mod.kin xx.ty xx.rd xx.fi (by decide +kernel) ?_)
  show wpAny _ _ (callWith pos (Value.builtin "ValueError.__init__") [] (backTo pos (starEach (e :: es) X.env)) []) _ _ _
  refine PyProof.Rows.callWith_method1 (thn (ha.run pos pins _ σ H _ (I.tok _) h) fun us s1 ⟨vs, H1, I1, r1, a, C, ws, ev, hl, T, ea, q⟩ => ?_) he hpl
  subst ev
  cases r1 with
  | @cons _ u0 _ ur ra rw' =>
    obtain rfl : u0 = Value.ref a := ra
    have hlen : ur.length ≤ sizeLine := by
      rw [← Paired.length rw', sizeLine_eq]
      omega
    exact oinit_ok T I1 ea hlen fun s' J => ⟨.non, H1, J, rfl, q⟩
end
def sp_np (NP : Addr) : Sp := fun vs H Q E => ∃ (a : Addr) (v : V), vs = [.ref a, v] ∧ H a = some (exo a NP none) ∧ ∀ dx, H dx = none → dx ≠ a → Q .non (upd (upd H dx (exd dx [("found", v)])) a (exo a NP (some dx)))
structure NPx (P : Program) (w : World) (K : PySem.W.Frag) (mg : Str → Option Value) (base : Heap) (k : Nat) (NP : Addr) : Prop where
  ex : ∃ fI fd, PySem.W.findIn K (.ref NP) "__init__" = some (some (.ref fI)) ∧ PySem.W.typeIn K (.ref fI) = some (.type "function") ∧ FnOk P w K mg base C8.CX0 k fI fd ["self", "found"] (sp_np NP) ∧ Binds K fd ["self", "found"] []
  ox : OexC K NP
  g : mg "NoPlace" = some (.ref NP)
theorem np_ok {P : Program} {w : World} {K : PySem.W.Frag} {mg : Str → Option Value} {base : Heap} {PE NP : Addr} (xx : XX K mg PE NP) : NPx P w K mg base 1 NP := by
  obtain ⟨fI, fd, h1, h2, F⟩ := xx.ini
  refine ⟨⟨fI, fd, h1, h2, F.ok (k := 0) sc_NoPlace___init__ (fun vs H Q E h => by obtain ⟨a, v, rfl, _⟩ := h; rfl) ?_, F.bindsN (fun _ _ _ _ _ _ us hl => match us, hl with | [_, _], _ => rfl)⟩, xx.ox, xx.n⟩
  intro cdv A outer s H vs Q E hr h
  obtain ⟨a, v, rfl, ha, q⟩ := h
  refine ⟨_, PSs.nox (pss_cons (ps_expr (pe_pinit xx (by rfl) (pa_cons (pv 0) (pa_cons pe_str pa_nil)))) (pss_one (ps_ost (pv 0) (pv 1)))), ?_⟩
  exact ⟨_, rfl, a, NP, _, rfl, by simp, xx.ox, ha, _, rfl, _, rfl, a, NP, rfl, xx.ox, xx.fo, .inl ⟨ha, fun dx h1 h2 => q dx h1 h2⟩⟩
section
variable {X : Cx} {NP : Addr} {e : Expr} {te : TE} {p pos : Pos} {k : Nat}
def tWk (te : TE) : TE := fun σ H Q2 => ∃ Q1 : VK, te σ H Q1 ∧ ∀ v H1, Q1 v H1 → Q2 v H1
theorem pe_wk (he : PE X e te) : PE X e (tWk te) := by
  refine ⟨fun pins s σ H Q I h => ?_⟩
  obtain ⟨Q1, h1, h2⟩ := h
  exact thn (he.run pins s σ H Q1 I h1) fun u s1 ⟨v, H1, I1, r, q⟩ => ⟨v, H1, I1, r, h2 v H1 q⟩
/-- NoPlace(e) -/
def tNP (NP : Addr) (te : TE) : L2.St → Hp → XK → Prop := fun σ H Q => te σ H fun v H1 => ∀ d H', L2.Same H1 H' → Q (.ref NP) (some d) H'
theorem pmk_np (c : NPx X.prog X.w X.K X.mg X.base k NP) (hr : Room (k + 1) X.A) (hg : Gl X "NoPlace") (he : PE X e te) (hs : starEach [e] X.env = (false, eval e X.env) :: starEach [] X.env := by rfl) : PMk X (.Call (.Name "NoPlace" p) [e] [] pos) (tNP NP te) := by
  obtain ⟨fI, fd, h1, h2, F, hb⟩ := c.ex
  intro pins s σ H Q I h
  refine pmk_oex c.ox h1 h2 F hr hb .nil C8.pass0 hg c.g (pa_cons (pe_wk he) pa_nil hs) (by decide) hs rfl pins s σ H Q I ?_
  have mono : ∀ v H1, (∀ d H', L2.Same H1 H' → Q (.ref NP) (some d) H') → ([v] : List V).length ≤ 1000 ∧ ∀ a, H1 a = none → sp_np NP (.ref a :: ([v] ++ [])) (upd H1 a (exo a NP none))
      (fun v H2 => v = .non ∧ ∃ (d : Addr) (fs : List (Str × V)), H2 a = some (exo a NP (some d)) ∧ H2 d = some (exd d fs) ∧ H1 d = none ∧ Q (.ref NP) (some d) (upd (del H2 a) d (.xd fs))) (fun _ _ _ => False) := by
    intro v H1 q
    refine ⟨by simp, fun a ha => ⟨a, v, rfl, upd_same, fun dx hdx nd => ⟨rfl, dx, [("found", v)], upd_same, ?_, ?_, q dx _ fun b o e => ?_⟩⟩⟩
    · rw [upd_ne nd, upd_same]
    · rw [upd_ne nd] at hdx
      exact hdx
    · have hdx' : H1 dx = none := by rw [upd_ne nd] at hdx; exact hdx
      have nba : b ≠ a := ne_of_none e ha
      have nbd : b ≠ dx := ne_of_none e hdx'
      rw [upd_ne nbd, del_ne nba, upd_ne nba, upd_ne nbd, upd_ne nba]
      exact e
  exact ⟨_, h, fun v H1 q => mono v H1 q⟩
end
end PB

/-! ## S18 -/
set_option Elab.async false
set_option linter.all false
set_option maxRecDepth 100000
set_option maxHeartbeats 4000000
namespace PB
open PySem PySem.Spec PyProof.Rows L2
variable {P : Program} {w : World} {K : PySem.W.Frag} {mg : Str → Option Value} {base : Heap}
theorem uniq_acc : ∀ (ss ks : List Str), ks.Nodup → (ss.foldl putS ks).Nodup ∧ ∀ x ∈ ss.foldl putS ks, x ∈ ks ∨ x ∈ ss
  | [], ks, h => ⟨h, fun x hx => .inl hx⟩
  | s :: ss, ks, h => by
    have h' : (putS ks s).Nodup ∧ ∀ x ∈ putS ks s, x ∈ ks ∨ x = s := by
      unfold putS
      by_cases c : s ∈ ks
      · rw [if_pos c]
        exact ⟨h, fun x hx => .inl hx⟩
      · rw [if_neg c]
        refine ⟨?_, fun x hx => by simpa using hx⟩
        rw [List.nodup_append]
        refine ⟨h, by simp, fun a ha b hb z => c ?_⟩
        rw [← List.mem_singleton.mp hb, ← z]
        exact ha
    obtain ⟨i1, i2⟩ := uniq_acc ss (putS ks s) h'.1
    refine ⟨i1, fun x hx => ?_⟩
    rcases i2 x hx with hx | hx
    · rcases h'.2 x hx with hx | rfl
      · exact .inl hx
      · exact .inr (by simp)
    · exact .inr (by simp [hx])
theorem uniq_nd (ss : List Str) : (uniq ss).Nodup := (uniq_acc ss [] .nil).1
theorem uniq_mem {ss : List Str} {x : Str} (h : x ∈ uniq ss) : x ∈ ss := by
  rcases (uniq_acc ss [] .nil).2 x h with h | h
  · exact (List.not_mem_nil h).elim
  · exact h
theorem uniq_le {ss S : List Str} (h4 : S.length ≤ 4) (h : ∀ s ∈ ss, s ∈ S) : (uniq ss).length ≤ 4 := Nat.le_trans (nodup_len (uniq_nd ss) fun x hx => h x (uniq_mem hx)) h4
def sp_put0 (C : Addr) : Sp := fun vs H Q E => ∃ (p kd pl : Addr) (w : Nat) (rs : List Tri) (nm hp : Str) (t : Bool) (ns : List Int) (S : List Str), vs = [.ref p, .str nm, .str hp, .ref pl] ∧ PtsR C H p kd w rs ∧ NameOk nm ∧ NameOk hp ∧ (∀ r ∈ rs, r.1.nm ≠ nm) ∧ H pl = some (RowF t (vi ns)) ∧ ns.length < 1000 ∧ rs.length < 24 ∧
  S.length ≤ 4 ∧ (∀ r ∈ rs, r.1.hp ∈ S) ∧ hp ∈ S ∧ isRow ns w 999 = true ∧ (∀ H' r, But kd H H' → PtsR C H' p kd w (rs ++ [r]) → r.1 = ⟨nm, hp, ns⟩ → Q .non H')
theorem g_Points_put (T : TX K mg) {CP : Addr} (cP : PX K CP) (D : AtM K CP "put" d_Points_put) (c_is_name : Cl P w K mg base C8.CX0 2 "is_name" sp_is_name) (c_is_row_points : Cl P w K mg base C8.CX0 2 "is_row_points" sp_is_row_points) (m_heaps : Mt P w K mg base C8.CX0 2 CP "heaps" (sp_Points_heaps CP)) (m_need_few : Mt P w K mg base C8.CX0 2 CP "need_few" (sp_Points_need_few CP)) : Mt P w K mg base C8.CX0 3 CP "put" (sp_put0 CP) := by
  refine mt_of cP.cl (k := 2) D sc_Points_put (fun _ _ _ _ _ _ us hl => match us, hl with | [_, _, _, _], _ => rfl) (fun vs H Q E h => by
    obtain ⟨p, kd, pl, wd, rs, nm, hp, t, ns, S, rfl, h, nn, nh, hnew, hpl, hlen, h24, hS4, hS, hSh, hrow, q⟩ := h
    rfl) ?_
  intro f cdv A outer s H vs Q E hr h
  obtain ⟨p, kd, pl, wd, rs, nm, hp, t, ns, S, rfl, h, nn, nh, hnew, hpl, hlen, h24, hS4, hS, hSh, hrow, q⟩ := h
  refine ⟨_, (PSs.nox (pss_cons (ps_if (pt_not (pt_val (pe_cl c_is_name hr (by decide) (by rfl) (pa_cons (pv 1) pa_nil))))
 (pss_one ps_never)
 pss_nil)
 (pss_cons (ps_if (pt_cmp (pc_din (hu_of hr) (pv 1) (k_fld cP.cl cP.n_kept (pv 0))) rfl)
 (pss_one ps_never)
 pss_nil)
 (pss_cons (ps_if (pt_not (pt_val (pe_cl c_is_name hr (by decide) (by rfl) (pa_cons (pv 2) pa_nil))))
 (pss_one ps_never)
 pss_nil)
 (pss_cons (ps_if (pt_not (pt_val (pe_cl c_is_row_points hr (by decide) (by rfl) (pa_cons (pv 3) (pa_cons (k_fld cP.cl cP.n_wide (pv 0)) (pa_cons (C8.pe_gc (by rfl) T.g_FARTHEST) pa_nil))))))
 (pss_one ps_never)
 pss_nil)
 (pss_cons (ps_if (pt_cmpR op_eq (pe_callB call_lenD (by rfl) T.b_len bt_len (pa_cons (k_fld cP.cl cP.n_kept (pv 0)) pa_nil)) (C8.pe_gc (by rfl) T.g_MOST_POINTS) (nomark _))
 (pss_one ps_never)
 pss_nil)
 (pss_cons (ps_expr (pe_mth m_need_few hr (by decide) (pv 0) (pa_cons (pe_op op_cat (pe_mth0 m_heaps hr (by decide) (pv 0)) (pe_lst (pa_cons (pv 2) pa_nil))) pa_nil)))
 (pss_one (ps_dput (hu_of hr) (k_fld cP.cl cP.n_kept (pv 0)) (pv 1) (pe_tup (pa_cons (pv 2) (pa_cons (pe_callTy k_tuple (by rfl) T.b_tuple bt_tuple (pa_cons (pv 3) pa_nil)) pa_nil))) rfl))))))))), ?_⟩
  refine ⟨_, rfl, nm, rfl, nn, fun H1 s1 => ⟨_, rfl, ifF rfl ?_⟩⟩
  have h1 := h.same s1
  obtain ⟨dx1, ob1⟩ := h1.ob
  have g1 := DGet.k (k := .inr nm) h1.kt
  rw [kvs_none hnew] at g1
  refine ⟨_, rfl, _, rfl, _, _, _, _, rfl, ob1, lkK, kd, none, rfl, g1, _, rfl, ifF rfl ?_⟩
  refine ⟨_, rfl, hp, rfl, nh, fun H2 s2 => ⟨_, rfl, ifF rfl ?_⟩⟩
  have h2 := h1.same s2
  obtain ⟨dx2, ob2⟩ := h2.ob
  refine ⟨_, rfl, _, rfl, _, _, _, _, rfl, ob2, lkW, pl, t, ns, _, _, rfl, s2 _ _ (s1 _ _ hpl), hlen, fun H3 s3 => ⟨_, rfl, ?_⟩⟩
  have h3 := h2.same s3
  obtain ⟨dx3, ob3⟩ := h3.ob
  have s03 := (s1.trans s2).trans s3
  have hpl3 := s03 _ _ hpl
  refine ifF (by rw [hrow]; rfl) ?_
  refine ⟨_, rfl, _, _, _, _, rfl, ob3, lkK, _, _, rfl, h3.kt, rfl, _, rfl, ifF ?_ ?_⟩
  · have : (kvsOf rs).length = rs.length := List.length_map ..
    simp only [this]
    simp
    omega
  have pr3 := ob3
  refine ⟨_, rfl, _, _, _, rfl, ob3, rfl, _, rfl, _, _, _, rfl, ob3, rfl, p, kd, wd, rs, rfl, h3, fun l H4 s4 e4 => ?_⟩
  refine ⟨_, rfl, szl (show 1 < 100000 by decide), fun l2 hl2 => ?_⟩
  have ul := uniq_le (S := S) hS4 (ss := rs.map fun r => r.1.hp) (fun s hs => by
    obtain ⟨r, hr2, rfl⟩ := List.mem_map.mp hs
    exact hS r hr2)
  refine ⟨l, l2, _, [.str hp], rfl, rfl, upd_get hl2 e4, upd_same, by rw [List.length_map]; exact szl (by simp; omega), fun l3 hl3 => ?_⟩
  have s5 := (s4.trans (same_upd (o := .lst [.str hp]) hl2)).trans (same_upd (o := .lst ((uniq (rs.map fun r => r.1.hp)).map V.str ++ [.str hp])) hl3)
  refine ⟨p, l3, uniq (rs.map fun r => r.1.hp) ++ [hp], rfl, by rw [upd_same, List.map_append]; rfl, by rw [List.length_append]; simp; omega, ?_, fun H6 s6 => ?_⟩
  · refine uniq_le (S := S) hS4 fun s hs => ?_
    rcases List.mem_append.mp hs with hs | hs
    · obtain ⟨r, hr2, rfl⟩ := List.mem_map.mp (uniq_mem hs)
      exact hS r hr2
    · rw [List.mem_singleton.mp hs]
      exact hSh
  have s36 := s5.trans s6
  have h6 := h3.same s36
  obtain ⟨dx6, ob6⟩ := h6.ob
  refine ⟨_, rfl, _, rfl, pl, t, _, rfl, s36 _ _ hpl3, fun tp H7 s7 e7 => ⟨szl (show 2 < 100000 by decide), fun tq htq => ?_⟩⟩
  have h8 := (h6.same s7).same (same_upd (o := .tup [.str hp, .ref tp]) htq)
  obtain ⟨dx8, ob8⟩ := h8.ob
  have s08 := (((s03.trans s36).trans s7).trans (same_upd (o := .tup [.str hp, .ref tp]) htq))
  refine ⟨_, rfl, _, _, _, _, rfl, ob8, lkK, _, rfl, kd, _, rfl, DPut.k (k := .inr nm) h8.kt (by show (kvsOf rs).length < sizeLine; rw [show (kvsOf rs).length = rs.length from List.length_map ..]; exact sz_small (by omega)), ?_⟩
  rw [putK_new _ (kvs_none hnew)]
  have nkd : ∀ {a : Addr} {o : HO}, upd H7 tq (.tup [.str hp, .ref tp]) a = some o → (∀ kvs, o ≠ .dK kvs) → a ≠ kd := fun e n z => by
    rw [z, h8.kt] at e
    exact n _ (Option.some.inj e).symm
  have put_ : ∀ {a : Addr} {o : HO}, upd H7 tq (.tup [.str hp, .ref tp]) a = some o → (∀ kvs, o ≠ .dK kvs) → upd (upd H7 tq (.tup [.str hp, .ref tp])) kd (.dK (kvsOf rs ++ [(.inr nm, .ref tq)])) a = some o := fun e n => by
    rw [upd_ne (nkd e n)]
    exact e
  refine q _ (⟨nm, hp, ns⟩, tq, tp) (fun a o n e => by rw [upd_ne n]; exact s08 _ _ e) ⟨⟨dx8, put_ ob8 (fun _ z => nomatch z)⟩, by rw [upd_same]; unfold kvsOf; rw [List.map_append]; rfl, ?_, ?_, by rw [List.length_append]; show rs.length + 1 ≤ 24; omega, ?_⟩ rfl
  · intro r hr2
    rcases List.mem_append.mp hr2 with hr2 | hr2
    · exact ⟨put_ (h8.tr r hr2).1 (fun _ z => nomatch z), put_ (h8.tr r hr2).2 (fun _ z => nomatch z)⟩
    · rw [List.mem_singleton.mp hr2]
      exact ⟨put_ upd_same (fun _ z => nomatch z), put_ (upd_get htq e7) (fun _ z => nomatch z)⟩
  · rw [List.map_append, List.nodup_append]
    refine ⟨h3.nd, by simp, fun a ha c hc z => ?_⟩
    obtain ⟨r, hr2, rfl⟩ := List.mem_map.mp ha
    simp at hc
    exact hnew r hr2 (z.trans hc)
  · intro r hr2
    rcases List.mem_append.mp hr2 with hr2 | hr2
    · exact h3.ok r hr2
    · rw [List.mem_singleton.mp hr2]
      exact ⟨nn, nh⟩
def sp_putX (C NP : Addr) : Sp := fun vs H Q E => ∃ (p kd pl : Addr) (w : Nat) (rs : List Tri) (nm hp : Str) (t : Bool) (ns : List Int) (S : List Str), vs = [.ref p, .str nm, .str hp, .ref pl] ∧ PtsR C H p kd w rs ∧ NameOk nm ∧ NameOk hp ∧ (∀ r ∈ rs, r.1.nm ≠ nm) ∧ H pl = some (RowF t (vi ns)) ∧ ns.length < 1000 ∧ rs.length < 24 ∧
  S.length ≤ 4 ∧ (∀ r ∈ rs, r.1.hp ∈ S) ∧ hp ∈ S ∧ (isRow ns w 999 = false → ∀ d H', L2.Same H H' → E (.ref NP) (some d) H') ∧ (isRow ns w 999 = true → ∀ H' r, But kd H H' → PtsR C H' p kd w (rs ++ [r]) → r.1 = ⟨nm, hp, ns⟩ → Q .non H')
theorem gX_Points_put (T : TX K mg) {CP : Addr} (cP : PX K CP) (D : AtM K CP "put" d_Points_put) (c_is_name : Cl P w K mg base C8.CX0 2 "is_name" sp_is_name) (c_is_row_points : Cl P w K mg base C8.CX0 2 "is_row_points" sp_is_row_points) (m_heaps : Mt P w K mg base C8.CX0 2 CP "heaps" (sp_Points_heaps CP)) (m_need_few : Mt P w K mg base C8.CX0 2 CP "need_few" (sp_Points_need_few CP)) {NP : Addr} (c_NP : NPx P w K mg base 1 NP) : Mt P w K mg base (L2.CX P w) 3 CP "put" (sp_putX CP NP) := by
  refine mt_of cP.cl (k := 2) D sc_Points_put (fun _ _ _ _ _ _ us hl => match us, hl with | [_, _, _, _], _ => rfl) (fun vs H Q E h => by
    obtain ⟨p, kd, pl, wd, rs, nm, hp, t, ns, S, rfl, h, nn, nh, hnew, hpl, hlen, h24, hS4, hS, hSh, qe, q⟩ := h
    rfl) ?_
  intro f cdv A outer s H vs Q E hr h
  obtain ⟨p, kd, pl, wd, rs, nm, hp, t, ns, S, rfl, h, nn, nh, hnew, hpl, hlen, h24, hS4, hS, hSh, qe, q⟩ := h
  refine ⟨_, (pss_cons (ps_if (pt_not (pt_val (pe_cl c_is_name hr (by decide) (by rfl) (pa_cons (pv 1) pa_nil))))
 (pss_one ps_never)
 pss_nil)
 (pss_cons (ps_if (pt_cmp (pc_din (hu_of hr) (pv 1) (k_fld cP.cl cP.n_kept (pv 0))) rfl)
 (pss_one ps_never)
 pss_nil)
 (pss_cons (ps_if (pt_not (pt_val (pe_cl c_is_name hr (by decide) (by rfl) (pa_cons (pv 2) pa_nil))))
 (pss_one ps_never)
 pss_nil)
 (pss_cons (ps_if (pt_not (pt_val (pe_cl c_is_row_points hr (by decide) (by rfl) (pa_cons (pv 3) (pa_cons (k_fld cP.cl cP.n_wide (pv 0)) (pa_cons (C8.pe_gc (by rfl) T.g_FARTHEST) pa_nil))))))
 (pss_one (ps_raise rfl (takes_of rfl rfl rfl rfl) (pmk_np c_NP hr (by rfl) (pv 3))))
 pss_nil)
 (pss_cons (ps_if (pt_cmpR op_eq (pe_callB call_lenD (by rfl) T.b_len bt_len (pa_cons (k_fld cP.cl cP.n_kept (pv 0)) pa_nil)) (C8.pe_gc (by rfl) T.g_MOST_POINTS) (nomark _))
 (pss_one ps_never)
 pss_nil)
 (pss_cons (ps_expr (pe_mth m_need_few hr (by decide) (pv 0) (pa_cons (pe_op op_cat (pe_mth0 m_heaps hr (by decide) (pv 0)) (pe_lst (pa_cons (pv 2) pa_nil))) pa_nil)))
 (pss_one (ps_dput (hu_of hr) (k_fld cP.cl cP.n_kept (pv 0)) (pv 1) (pe_tup (pa_cons (pv 2) (pa_cons (pe_callTy k_tuple (by rfl) T.b_tuple bt_tuple (pa_cons (pv 3) pa_nil)) pa_nil))) rfl)))))))), ?_⟩
  refine ⟨_, rfl, nm, rfl, nn, fun H1 s1 => ⟨_, rfl, ifF rfl ?_⟩⟩
  have h1 := h.same s1
  obtain ⟨dx1, ob1⟩ := h1.ob
  have g1 := DGet.k (k := .inr nm) h1.kt
  rw [kvs_none hnew] at g1
  refine ⟨_, rfl, _, rfl, _, _, _, _, rfl, ob1, lkK, kd, none, rfl, g1, _, rfl, ifF rfl ?_⟩
  refine ⟨_, rfl, hp, rfl, nh, fun H2 s2 => ⟨_, rfl, ifF rfl ?_⟩⟩
  have h2 := h1.same s2
  obtain ⟨dx2, ob2⟩ := h2.ob
  refine ⟨_, rfl, _, rfl, _, _, _, _, rfl, ob2, lkW, pl, t, ns, _, _, rfl, s2 _ _ (s1 _ _ hpl), hlen, fun H3 s3 => ⟨_, rfl, ?_⟩⟩
  have h3 := h2.same s3
  obtain ⟨dx3, ob3⟩ := h3.ob
  have s03 := (s1.trans s2).trans s3
  have hpl3 := s03 _ _ hpl
  by_cases hrow : isRow ns wd 999 = true
  · refine ifF (by rw [hrow]; rfl) ?_
    have q := q hrow
    refine ⟨_, rfl, _, _, _, _, rfl, ob3, lkK, _, _, rfl, h3.kt, rfl, _, rfl, ifF ?_ ?_⟩
    · have : (kvsOf rs).length = rs.length := List.length_map ..
      simp only [this]
      simp
      omega
    have pr3 := ob3
    refine ⟨_, rfl, _, _, _, rfl, ob3, rfl, _, rfl, _, _, _, rfl, ob3, rfl, p, kd, wd, rs, rfl, h3, fun l H4 s4 e4 => ?_⟩
    refine ⟨_, rfl, szl (show 1 < 100000 by decide), fun l2 hl2 => ?_⟩
    have ul := uniq_le (S := S) hS4 (ss := rs.map fun r => r.1.hp) (fun s hs => by
      obtain ⟨r, hr2, rfl⟩ := List.mem_map.mp hs
      exact hS r hr2)
    refine ⟨l, l2, _, [.str hp], rfl, rfl, upd_get hl2 e4, upd_same, by rw [List.length_map]; exact szl (by simp; omega), fun l3 hl3 => ?_⟩
    have s5 := (s4.trans (same_upd (o := .lst [.str hp]) hl2)).trans (same_upd (o := .lst ((uniq (rs.map fun r => r.1.hp)).map V.str ++ [.str hp])) hl3)
    refine ⟨p, l3, uniq (rs.map fun r => r.1.hp) ++ [hp], rfl, by rw [upd_same, List.map_append]; rfl, by rw [List.length_append]; simp; omega, ?_, fun H6 s6 => ?_⟩
    · refine uniq_le (S := S) hS4 fun s hs => ?_
      rcases List.mem_append.mp hs with hs | hs
      · obtain ⟨r, hr2, rfl⟩ := List.mem_map.mp (uniq_mem hs)
        exact hS r hr2
      · rw [List.mem_singleton.mp hs]
        exact hSh
    have s36 := s5.trans s6
    have h6 := h3.same s36
    obtain ⟨dx6, ob6⟩ := h6.ob
    refine ⟨_, rfl, _, rfl, pl, t, _, rfl, s36 _ _ hpl3, fun tp H7 s7 e7 => ⟨szl (show 2 < 100000 by decide), fun tq htq => ?_⟩⟩
    have h8 := (h6.same s7).same (same_upd (o := .tup [.str hp, .ref tp]) htq)
    obtain ⟨dx8, ob8⟩ := h8.ob
    have s08 := (((s03.trans s36).trans s7).trans (same_upd (o := .tup [.str hp, .ref tp]) htq))
    refine ⟨_, rfl, _, _, _, _, rfl, ob8, lkK, _, rfl, kd, _, rfl, DPut.k (k := .inr nm) h8.kt (by show (kvsOf rs).length < sizeLine; rw [show (kvsOf rs).length = rs.length from List.length_map ..]; exact sz_small (by omega)), ?_⟩
    rw [putK_new _ (kvs_none hnew)]
    have nkd : ∀ {a : Addr} {o : HO}, upd H7 tq (.tup [.str hp, .ref tp]) a = some o → (∀ kvs, o ≠ .dK kvs) → a ≠ kd := fun e n z => by
      rw [z, h8.kt] at e
      exact n _ (Option.some.inj e).symm
    have put_ : ∀ {a : Addr} {o : HO}, upd H7 tq (.tup [.str hp, .ref tp]) a = some o → (∀ kvs, o ≠ .dK kvs) → upd (upd H7 tq (.tup [.str hp, .ref tp])) kd (.dK (kvsOf rs ++ [(.inr nm, .ref tq)])) a = some o := fun e n => by
      rw [upd_ne (nkd e n)]
      exact e
    refine q _ (⟨nm, hp, ns⟩, tq, tp) (fun a o n e => by rw [upd_ne n]; exact s08 _ _ e) ⟨⟨dx8, put_ ob8 (fun _ z => nomatch z)⟩, by rw [upd_same]; unfold kvsOf; rw [List.map_append]; rfl, ?_, ?_, by rw [List.length_append]; show rs.length + 1 ≤ 24; omega, ?_⟩ rfl
    · intro r hr2
      rcases List.mem_append.mp hr2 with hr2 | hr2
      · exact ⟨put_ (h8.tr r hr2).1 (fun _ z => nomatch z), put_ (h8.tr r hr2).2 (fun _ z => nomatch z)⟩
      · rw [List.mem_singleton.mp hr2]
        exact ⟨put_ upd_same (fun _ z => nomatch z), put_ (upd_get htq e7) (fun _ z => nomatch z)⟩
    · rw [List.map_append, List.nodup_append]
      refine ⟨h3.nd, by simp, fun a ha c hc z => ?_⟩
      obtain ⟨r, hr2, rfl⟩ := List.mem_map.mp ha
      simp at hc
      exact hnew r hr2 (z.trans hc)
    · intro r hr2
      rcases List.mem_append.mp hr2 with hr2 | hr2
      · exact h3.ok r hr2
      · rw [List.mem_singleton.mp hr2]
        exact ⟨nn, nh⟩
  · refine ifT (by rw [Bool.eq_false_iff.mpr hrow]; rfl) ⟨_, rfl, fun d H4 s4 => qe (Bool.eq_false_iff.mpr hrow) d H4 (s03.trans s4)⟩
end PB

/-! ## S19 -/
set_option Elab.async false
set_option linter.all false
set_option maxRecDepth 100000
set_option maxHeartbeats 4000000
namespace PB
open PySem PySem.Spec PyProof.Rows L2
variable {P : Program} {w : World} {K : PySem.W.Frag} {mg : Str → Option Value} {base : Heap}
abbrev sp_Points_put (C : Addr) : Sp := sp_put0 C
def sp_Points___init__ (C : Addr) : Sp := fun vs H Q E => ∃ (p dx : Addr) (d : Nat), vs = [.ref p, .int (d : Nat)] ∧ H p = some (.ins C dx []) ∧ 2 ≤ d ∧ d ≤ 5 ∧
  (∀ kd H', H kd = none → H' p = some (.ins C dx (ptF d kd)) → H' kd = some (.dK []) → (∀ a o, a ≠ p → H a = some o → H' a = some o) → Q .non H')
theorem mak_points (T : TX K mg) {CP : Addr} (cP : PX K CP) (hM : ∃ f fd, Mk K CP f ∧ FunD K d_Points___init__.name d_Points___init__.qual d_Points___init__.params d_Points___init__.body d_Points___init__.scope [] [] f fd) (hm : mg "Points" = some (.ref CP)) (c_is_whole : Cl P w K mg base C8.CX0 1 "is_whole" sp_is_whole) :
    C8.Mak P w K mg base 2 "Points" CP (sp_Points___init__ CP) [] := by
  obtain ⟨f, fd, M, F⟩ := hM
  refine ⟨f, fd, ["self", "dims"], [], M, F.ok (k := 1) sc_Points___init__ (fun vs H Q E h => by obtain ⟨p, dx, d, rfl, _⟩ := h; rfl) ?_, hm, F.bindsN (fun _ _ _ _ _ _ us hl => match us, hl with | [_, _], _ => rfl), .nil⟩
  intro cdv A outer s H vs Q E hr h
  obtain ⟨p, dx, d, rfl, hp, d2, d5, q⟩ := h
  refine ⟨_, (PSs.nox (pss_cons (ps_if (pt_not (pt_val (pe_cl c_is_whole hr (by decide) (by rfl) (pa_cons (pv 1) (pa_cons (C8.pe_gc (by rfl) T.g_LEAST_DIMS_points) (pa_cons (C8.pe_gc (by rfl) T.g_MOST_DIMS_points) pa_nil))))))
 (pss_one ps_never)
 pss_nil)
 (pss_cons (k_sfld cP.cl cP.n_wide (pv 0) (pv 1))
 (pss_one (k_sfld cP.cl cP.n_kept (pv 0) pe_dnewK))))), ?_⟩
  refine ⟨_, rfl, _, _, _, rfl, _, rfl, ifF (by simp; omega) ?_⟩
  refine ⟨_, rfl, _, rfl, p, dx, _, rfl, hp, by decide, ?_⟩
  intro kd hkd
  have nkp : kd ≠ p := fun z => by rw [z, upd_same] at hkd; cases hkd
  refine ⟨_, rfl, p, dx, _, rfl, by rw [upd_ne nkp.symm, upd_same], by show 1 < 1000; decide, ?_⟩
  refine q kd _ (by rw [upd_ne nkp] at hkd; exact hkd) (by rw [upd_same]; rfl) (by rw [upd_ne nkp, upd_same]) fun a o n e => ?_
  have hkd' : H kd = none := by rw [upd_ne nkp] at hkd; exact hkd
  rw [upd_ne n, upd_ne (ne_of_none e hkd'), upd_ne n]
  exact e
/-- the heaps of the points are four at most -/
def Four (rs : List Tri) : Prop := ∃ S : List Str, S.length ≤ 4 ∧ ∀ r ∈ rs, r.1.hp ∈ S
def sp_law_points (C : Addr) : Sp := fun vs H Q E => ∃ (b d : Addr) (A : WAdr) (W : Wd), vs = [.ref d] ∧ WAt H b d A W ∧ WdOk W ∧ (∀ p kd rs H', L2.Same H H' → PtsR C H' p kd W.dims rs → Laid W.dims rs → Four rs → Q (.ref p) H')
theorem WAt.same {H H' : Hp} {b d : Addr} {A : WAdr} {W : Wd} (h : WAt H b d A W) (s : L2.Same H H') : WAt H' b d A W :=
  ⟨s _ _ h.d, ⟨s _ _ h.n.1, h.n.2⟩, ⟨s _ _ h.m.1, h.m.2⟩, ⟨s _ _ h.p.1, h.p.2⟩, ⟨s _ _ h.h.1, h.h.2⟩, L2.Paired.mapP h.pl fun _ _ e => s _ _ e⟩
theorem get_some {α : Type} {l : List α} {i : Nat} (h : i < l.length) : ∃ x, l[i]? = some x := ⟨l[i], List.getElem?_eq_getElem h⟩
theorem atI_map {α : Type} {f : α → V} {xs : List α} {i : Nat} {x : α} (h : xs[i]? = some x) : atI (xs.map f) (i : Int) = some (f x) := by
  obtain ⟨h1, h2⟩ := List.getElem?_eq_some_iff.mp h
  rw [atI_nat (by rw [List.length_map]; exact h1), List.getElem_map, h2]
theorem g_law_points (T : TX K mg) {CP : Addr} (cP : PX K CP) (D : At K mg "_law_points" d_law_points) (c_Points : C8.Mak P w K mg base 2 "Points" CP (sp_Points___init__ CP) []) (m_put : Mt P w K mg base C8.CX0 3 CP "put" (sp_Points_put CP)) : Cl P w K mg base C8.CX0 4 "_law_points" (sp_law_points CP) := by
  refine cl_of (k := 3) D sc_law_points (fun _ _ _ _ _ _ us hl => match us, hl with | [_], _ => rfl) (fun vs H Q E h => by
    obtain ⟨b, d, A, W, rfl, hw, ok, q⟩ := h
    rfl) ?_
  intro f cdv A outer s H vs Q E hr h
  obtain ⟨b, d, A, W, rfl, hw, ok, q⟩ := h
  refine ⟨_, (PSs.nox (pss_cons (ps_set (i := 1) sc_law_points.nd rfl (Or.inl rfl) (C8.pe_mk c_Points hr (by decide) (by rfl) (pa_cons (pe_dget (hu_of hr) (pv 0) pe_str (fun _ _ => rfl)) pa_nil)))
 (pss_cons (ps_for PassesOwn.never rfl (k_enum (by rfl) T.b_enumerate (pa_cons (pe_dget (hu_of hr) (pv 0) pe_str (fun _ _ => rfl)) pa_nil)) (k_tup (n := 2) rfl (pgs_cons (pg_name (i := 2) sc_law_points.nd rfl (Or.inl rfl)) (pgs_cons (pg_name (i := 3) sc_law_points.nd rfl (Or.inl rfl)) pgs_nil)))
 (pss_cons (ps_set (i := 4) sc_law_points.nd rfl (Or.inl rfl) (pe_ix k_ix (pe_dget (hu_of hr) (pv 0) pe_str (fun _ _ => rfl)) (pv 2) (fun _ _ => rfl)))
 (pss_one (ps_expr (pe_mth m_put hr (by decide) (pv 1) (pa_cons (pv 3) (pa_cons (pe_ix k_ix (pe_dget (hu_of hr) (pv 0) pe_str (fun _ _ => rfl)) (pv 2) (fun _ _ => rfl)) (pa_cons (pe_ix k_ix (pe_lst (pa_cons (pv 4) (pa_cons (pe_callTy k_list (by rfl) T.b_list bt_list (pa_cons (pv 4) pa_nil)) pa_nil))) (pe_op op_mod (pv 2) pe_int) (fun _ _ => rfl)) pa_nil))))))))
 (pss_one (ps_ret (pv 1)))))), ?_⟩
  have hlo := ok.lo
  have hhi := ok.hi
  refine ⟨_, rfl, d, _, rfl, hw.get valK.1, fun p dx hp hdx ndp => ⟨p, dx, W.dims, rfl, upd_same, hlo, hhi, fun kd H1 hkd e1 e2 e3 => ⟨rfl, ?_⟩⟩⟩
  have s01 : L2.Same H H1 := fun a o e => e3 a o (ne_of_none e hp) (by rw [upd_ne (ne_of_none e hp), upd_ne (ne_of_none e hdx)]; exact e)
  have nkp : kd ≠ p := fun z => by rw [z, upd_same] at hkd; cases hkd
  have hkd0 : H kd = none := by
    rw [upd_ne nkp] at hkd
    by_cases c : kd = dx
    · rw [c]; exact hdx
    · rw [upd_ne c] at hkd; exact hkd
  have w1 := hw.same s01
  refine ⟨_, rfl, d, _, rfl, w1.get valK.2.1, A.n, false, _, rfl, w1.n.1, fun J w => ?_⟩
  rw [List.length_map] at w
  refine for_it w (fun i σ' H' => L2.Same H H' ∧ (∃ rs : List Tri, PtsR CP H' p kd W.dims rs ∧ rs.map (fun r => r.1.nm) = W.names.take i ∧ (∀ r ∈ rs, r.1.hp ∈ W.marks) ∧ (∀ r ∈ rs, r.1.pl.length = W.dims ∧ Near r.1.pl)) ∧ ∃ z1 z2 z3, σ' = [some (.ref d), some (.ref p), z1, z2, z3])
    ⟨s01, ⟨[], ⟨⟨dx, e1⟩, e2, fun _ h => (List.not_mem_nil h).elim, .nil, by decide, fun _ h => (List.not_mem_nil h).elim⟩, rfl, fun _ h => (List.not_mem_nil h).elim, fun _ h => (List.not_mem_nil h).elim⟩, _, _, _, rfl⟩ (fun i σ' H' _ z => (hw.same z.1).n.1) ?_ ?_
  · rintro i _ _ H3 _ hi ⟨s3, ⟨rs, r1, r2, r3, r4⟩, z1, z2, z3, rfl⟩ ⟨T1, u, v, rfl, hT, rfl, y1, y2⟩
    have hin : W.names[i]? = some W.names[i] := List.getElem?_eq_getElem hi
    generalize W.names[i] = nm at hin
    simp only [List.getElem?_map, hin, Option.map_some, Option.some.injEq] at y2
    simp only [Option.some.injEq] at y1
    subst y1
    subst y2
    have s4 := same_upd (o := .tup [.int (i : Nat), .str nm]) hT
    have w4 := (hw.same s3).same s4
    have plen := Paired.length w4.pl
    obtain ⟨mk, him⟩ := get_some (l := W.marks) (i := i) (by have := ok.ml; omega)
    have hipl : W.places.length = W.names.length := ok.pl
    obtain ⟨pa, hpi⟩ := get_some (l := A.pls) (i := i) (by omega)
    obtain ⟨pn, pn1, pn2⟩ := paired_get w4.pl hpi
    have po := ok.pok _ (List.mem_of_getElem? pn1)
    have r14 := r1.same s4
    obtain ⟨dx4, ob4⟩ := r14.ob
    have hnm : nm ∈ W.names := List.mem_of_getElem? hin
    have hmk : mk ∈ W.marks := List.mem_of_getElem? him
    have rl : rs.length = i := by
      have := congrArg List.length r2
      rw [List.length_map, List.length_take] at this
      omega
    obtain ⟨S, hS4, hS⟩ := ok.m4
    have row : isRow pn W.dims 999 = true := isRow_of po.1 (fun x hx => po.2 x hx)
    have hnew : ∀ r ∈ rs, r.1.nm ≠ nm := fun r hr z => by
      have : r.1.nm ∈ W.names.take i := by rw [← r2]; exact List.mem_map.mpr ⟨r, hr, rfl⟩
      obtain ⟨j, hj⟩ := List.mem_iff_getElem?.mp this
      have hji : j < i := by
        by_cases c : j < i
        · exact c
        · rw [List.getElem?_take, if_neg c] at hj
          cases hj
      rw [List.getElem?_take, if_pos hji, z] at hj
      have := nodup_at ok.nd hj hin
      omega
    refine ⟨T1, _, rfl, upd_same, rfl, _, _, rfl, _, _, rfl, rfl, ?_⟩
    refine ⟨_, rfl, d, _, rfl, w4.get valK.2.2.2.1, _, rfl, A.p, false, _, _, .ref pa, rfl, rfl, w4.p.1, atI_map hpi, ?_⟩
    refine ⟨_, rfl, _, _, _, rfl, ob4, rfl, _, rfl, _, rfl, d, _, rfl, w4.get valK.2.2.1, _, rfl, A.m, false, _, _, .str mk, rfl, rfl, w4.m.1, atI_map him, ?_⟩
    refine ⟨_, rfl, _, rfl, pa, true, _, rfl, pn2, fun l hl => ⟨szl (show 2 < 100000 by decide), fun l2 hl2 => ?_⟩⟩
    have s5 := (same_upd (o := .lst (vi pn)) hl).trans (same_upd (o := .lst [.ref pa, .ref l]) hl2)
    refine ⟨_, rfl, _, _, rfl, rfl, (by decide : (0 : Int) < 2), ?_⟩
    have fin : ∀ (pl : Addr) (t : Bool), upd (upd (upd H3 T1 (.tup [.int (i : Nat), .str nm])) l (.lst (vi pn))) l2 (.lst [.ref pa, .ref l]) pl = some (RowF t (vi pn)) →
        sp_put0 CP [.ref p, .str nm, .str mk, .ref pl] (upd (upd (upd H3 T1 (.tup [.int (i : Nat), .str nm])) l (.lst (vi pn))) l2 (.lst [.ref pa, .ref l])) (fun _ H' => L2.Same H H' ∧ (∃ rs : List Tri, PtsR CP H' p kd W.dims rs ∧ rs.map (fun r => r.1.nm) = W.names.take (i + 1) ∧ (∀ r ∈ rs, r.1.hp ∈ W.marks) ∧ (∀ r ∈ rs, r.1.pl.length = W.dims ∧ Near r.1.pl)) ∧ ∃ z1 z2 z3, [some (V.ref d), some (.ref p), some (.int (i : Nat)), some (.str nm), some (.ref pa)] = [some (.ref d), some (.ref p), z1, z2, z3]) (fun _ _ _ => False) := by
      intro pl t e
      refine ⟨p, kd, pl, W.dims, rs, nm, mk, t, pn, S, rfl, r14.same s5, ok.nok _ hnm, ok.mok _ hmk, hnew, e, by omega, by have := ok.few; omega, hS4, fun r hr => hS _ (r3 r hr), hS _ hmk, row, fun H' r bt pr er => ?_⟩
      refine ⟨fun a o e => bt a o (ne_of_none e hkd0) (s5 _ _ (s4 _ _ (s3 _ _ e))), ⟨rs ++ [r], pr, ?_, ?_, ?_⟩, _, _, _, rfl⟩
      · rw [List.map_append, r2, take_snoc hin]
        simp [er]
      · intro x hx
        rcases List.mem_append.mp hx with hx | hx
        · exact r3 x hx
        · rw [List.mem_singleton.mp hx, er]
          exact hmk
      · intro x hx
        rcases List.mem_append.mp hx with hx | hx
        · exact r4 x hx
        · rw [List.mem_singleton.mp hx, er]
          exact ⟨po.1, fun y hy => by have := po.2 y hy; omega⟩
    have par : (i : Int) % 2 = 0 ∨ (i : Int) % 2 = 1 := by omega
    rcases par with e | e
    · refine ⟨l2, false, _, _, .ref pa, rfl, rfl, upd_same, by rw [e]; exact at0, ?_⟩
      exact fin pa true (s5 _ _ pn2)
    · refine ⟨l2, false, _, _, .ref l, rfl, rfl, upd_same, by rw [e]; exact at1, ?_⟩
      exact fin l false (upd_get hl2 upd_same)
  · rintro _ H3 ⟨s3, ⟨rs, r1, r2, r3, r4⟩, z1, z2, z3, rfl⟩
    obtain ⟨S, hS4, hS⟩ := ok.m4
    exact ⟨_, rfl, q p kd rs H3 s3 r1 ⟨hlo, hhi, r4⟩ ⟨S, hS4, fun r hr => hS _ (r3 r hr)⟩⟩
end PB

/-! ## S20 -/
set_option Elab.async false
set_option linter.all false
set_option maxRecDepth 100000
set_option maxHeartbeats 4000000
namespace PB
open PySem PySem.Spec PyProof.Rows L2
variable {P : Program} {w : World} {K : PySem.W.Frag} {mg : Str → Option Value} {base : Heap}
section
variable {X : Cx} {k j : Nat} {C : Addr} {m : Str} {sp : Sp} {pos apos : Pos} {e o : Expr} {es : List Expr} {ta : TE} {t : TA} {E : XK}
theorem pe_mthX {pl : Sem Bool} (c : Mt X.prog X.w X.K X.mg X.base (L2.CX X.prog X.w) k C m sp) (hr : Room j X.A) (hk : k ≤ j) (hx : Passes (L2.CX X.prog X.w) X E) (he : PE X o ta) (ha : PA X (e :: es) t)
    (hst : starEach (e :: es) X.env = (false, eval e X.env) :: starEach es X.env := by rfl) (hpl : (backTo pos (starEach es X.env)).any (·.1) = false := by rfl)
    (ht : eval (.Call (.Attribute o m apos) (e :: es) [] pos) X.env = (do
      let ov ← eval o X.env
      standAt apos.atName
      let (f, first) ← holding [ov] (getMethod ov m pl)
      callWith pos f first (backTo pos (starEach (e :: es) X.env)) (backToKw pos (keywordEach [] X.env))) := by rfl) :
    PE X (.Call (.Attribute o m apos) (e :: es) [] pos) (tMeth C m sp [] E ta t) := by
  obtain ⟨f, fd, ps, hc, hm, F, b⟩ := c.ex
  exact pe_meth (pl := pl) he hc hm F (hr.mono hk) b .nil hx ha hst hpl ht
end
open LamX in
def tt_placed (C NP : Addr) (vp : V) (tl : V → Hp → VK → Prop) (H : Hp) (Q : VK) (E : XK) : Prop :=
  ∃ (p kd : Addr) (w : Nat) (rs : List Tri) (gf : List Int → List Int), vp = .ref p ∧ PtsR C H p kd w rs ∧ Laid w rs ∧ Four rs ∧ (∀ r ∈ rs, (gf r.1.pl).length = w) ∧
    (∀ r ∈ rs, ∀ H1 Q1, L2.Same H H1 → (∀ q H', L2.Same H1 H' → H' q = some (.tup (vi (gf r.1.pl))) → Q1 (.ref q) H') → tl (.ref r.2.2) H1 Q1) ∧
    (∀ p' kd' rs' H', L2.Same H H' → PtsR C H' p' kd' w rs' → rs'.map (·.1) = rs.map (fun r => (⟨r.1.nm, r.1.hp, gf r.1.pl⟩ : Pt)) → (∀ r ∈ rs', isRow r.1.pl w 999 = true) → Q (.ref p') H') ∧
    (∀ d H', L2.Same H H' → E (.ref NP) (some d) H')
open LamX in
theorem walk_placed (T : TX K mg) {CP NP : Addr} (cP : PX K CP) (c_Points : C8.Mak P w K mg base 2 "Points" CP (sp_Points___init__ CP) []) (m_dims : Mt P w K mg base C8.CX0 1 CP "dims" (sp_Points_dims CP)) (m_heap : Mt P w K mg base C8.CX0 2 CP "heap" (sp_Points_heap CP)) (m_names : Mt P w K mg base C8.CX0 1 CP "names" (sp_Points_names CP))
    (m_place : Mt P w K mg base C8.CX0 2 CP "place" (sp_Points_place CP)) (m_put : Mt P w K mg base (L2.CX P w) 3 CP "put" (sp_putX CP NP))
    {g f c' : Addr} {cdv : Value} {A : Around} {outer : List Env} {s : Shared} {H : Hp} {vp : V} {Q : VK} {E : XK} {q : Str} {tl : V → Hp → VK → Prop} (hr : Room 3 (A.deeper (envOfC d_placed.qual d_placed.scope s.heap.objs.size g cdv)))
    (act : Acts (cxOf (L2.CX P w) P w K mg base ["points", "change", "found", "name"] d_placed.qual d_placed.scope g cdv A outer s H E) "change" 1 f c' q tl) (hc : H c' = some (CodeO c' q)) (h : tt_placed CP NP vp tl H Q E) :
    ∃ t, PSs (cxOf (L2.CX P w) P w K mg base ["points", "change", "found", "name"] d_placed.qual d_placed.scope g cdv A outer s H E) d_placed.body t ∧ t { nx := fun _ H' => Q .non H', rt := Q } (L2.start ["points", "change", "found", "name"] [vp, .ref f]) H := by
  obtain ⟨p, kd, wd, rs, gf, rfl, h, ld, four, hlen, hact, q, qe⟩ := h
  refine ⟨_, (pss_cons (ps_set (i := 2) sc_placed.nd rfl (Or.inl rfl) (C8.pe_mk c_Points hr (by decide) (by rfl) (pa_cons (pe_mth0 m_dims hr (by decide) (pv 0)) pa_nil)))
 (pss_cons (ps_for (passes_of rfl) rfl (k_row (pe_mth0 m_names hr (by decide) (pv 0))) (pg_name (i := 3) sc_placed.nd rfl (Or.inl rfl))
 (pss_one (ps_expr (pe_mthX m_put hr (by decide) (passes_call (takes_of rfl rfl rfl rfl) (fun _ _ _ _ h => h)) (pv 2) (pa_cons (pv 3) (pa_cons (pe_mth m_heap hr (by decide) (pv 0) (pa_cons (pv 3) pa_nil)) (pa_cons (act _ _ _ _ (pe_mth m_place hr (by decide) (pv 0) (pa_cons (pv 3) pa_nil)) rfl) pa_nil)))))))
 (pss_one (ps_ret (pv 2))))), ?_⟩
  obtain ⟨dx, ob⟩ := h.ob
  have hlo := ld.lo
  have hhi := ld.hi
  refine ⟨_, rfl, _, _, _, rfl, ob, rfl, p, kd, wd, rs, rfl, h, fun p2 dx2 hp2 hdx2 nd2 => ⟨p2, dx2, wd, rfl, upd_same, hlo, hhi, fun kd2 H1 hkd e1 e2 e3 => ⟨rfl, ?_⟩⟩⟩
  have s01 : L2.Same H H1 := fun a o e => e3 a o (ne_of_none e hp2) (by rw [upd_ne (ne_of_none e hp2), upd_ne (ne_of_none e hdx2)]; exact e)
  have nkp : kd2 ≠ p2 := fun z => by rw [z, upd_same] at hkd; cases hkd
  have hkd0 : H kd2 = none := by
    rw [upd_ne nkp] at hkd
    by_cases c : kd2 = dx2
    · rw [c]; exact hdx2
    · rw [upd_ne c] at hkd; exact hkd
  have h1 := h.same s01
  obtain ⟨dx1, ob1⟩ := h1.ob
  refine ⟨_, rfl, _, _, _, rfl, ob1, rfl, p, kd, wd, rs, rfl, h1, fun l H2 s2 e2' => ⟨_, false, _, rfl, e2', fun J w => ?_⟩⟩
  have s02 := s01.trans s2
  rw [List.length_map] at w
  obtain ⟨S, hS4, hS⟩ := four
  refine for_it w (fun i σ' H' => L2.Same H H' ∧ H' l = some (.lst (rs.map fun r => V.str r.1.nm)) ∧ (∃ rs' : List Tri, PtsR CP H' p2 kd2 wd rs' ∧ rs'.map (·.1) = (rs.take i).map (fun r => (⟨r.1.nm, r.1.hp, gf r.1.pl⟩ : Pt)) ∧ ∀ r ∈ rs', isRow r.1.pl wd 999 = true) ∧ ∃ z, σ' = [some (.ref p), some (.ref f), some (.ref p2), z])
    ⟨s02, e2', ⟨[], ⟨⟨dx2, s2 _ _ e1⟩, s2 _ _ e2, fun _ h => (List.not_mem_nil h).elim, .nil, by decide, fun _ h => (List.not_mem_nil h).elim⟩, rfl, fun _ h => (List.not_mem_nil h).elim⟩, _, rfl⟩ (fun i σ' H' _ z => z.2.1) ?_ ?_
  · rintro i x _ H3 _ hi ⟨s3, l3, ⟨rs', r1, r2, r3⟩, z, rfl⟩ ⟨rfl, y⟩
    rw [List.getElem?_map] at y
    obtain ⟨r, hri, rfl⟩ := Option.map_eq_some_iff.mp y
    have hm := List.mem_of_getElem? hri
    have h3 := h.same s3
    obtain ⟨dx3, ob3⟩ := h3.ob
    obtain ⟨dx3', ob3'⟩ := r1.ob
    have rl : rs'.length = i := by
      have := congrArg List.length r2
      rw [List.length_map, List.length_map, List.length_take] at this
      omega
    have mem' : ∀ u ∈ rs', ∃ v ∈ rs.take i, v.1.nm = u.1.nm ∧ v.1.hp = u.1.hp := fun u hu => by
      have : u.1 ∈ rs'.map (·.1) := List.mem_map.mpr ⟨u, hu, rfl⟩
      rw [r2] at this
      obtain ⟨v, hv, e⟩ := List.mem_map.mp this
      exact ⟨v, hv, by rw [← e], by rw [← e]⟩
    have hnew : ∀ u ∈ rs', u.1.nm ≠ r.1.nm := fun u hu z => by
      obtain ⟨v, hv, e, _⟩ := mem' u hu
      obtain ⟨j, hj⟩ := List.mem_iff_getElem?.mp hv
      have hji : j < i := by
        by_cases c : j < i
        · exact c
        · rw [List.getElem?_take, if_neg c] at hj
          cases hj
      rw [List.getElem?_take, if_pos hji] at hj
      have a1 : (rs.map fun r => r.1.nm)[j]? = some r.1.nm := by rw [List.getElem?_map, hj]; exact congrArg some (e.trans z)
      have a2 : (rs.map fun r => r.1.nm)[i]? = some r.1.nm := by rw [List.getElem?_map, hri]; rfl
      have := nodup_at h.nd a1 a2
      omega
    refine ⟨_, rfl, _, _, _, rfl, ob3', rfl, _, rfl, _, rfl, _, _, _, rfl, ob3, rfl, _, rfl, p, kd, wd, rs, r, rfl, h3, hm, rfl, ?_⟩
    refine ⟨_, rfl, _, _, _, rfl, ob3, rfl, _, rfl, p, kd, wd, rs, r, rfl, h3, hm, s3 _ _ hc, hact r hm _ _ s3 fun t H4 s4 e4 => ?_⟩
    have lf : rs'.length < 24 := by
      have := h.few
      have := (List.getElem?_eq_some_iff.mp hri).1
      omega
    refine ⟨p2, kd2, t, wd, rs', r.1.nm, r.1.hp, true, gf r.1.pl, S, rfl, r1.same s4, (h.ok r hm).1, (h.ok r hm).2, hnew, e4, by have := hlen r hm; omega, lf, hS4, fun u hu => ?_, hS r hm, fun _ d H5 s5 => qe d H5 ((s3.trans s4).trans s5), fun hrow H5 u bt pr er => ?_⟩
    · obtain ⟨v, hv, _, e⟩ := mem' u hu
      rw [← e]
      exact hS v (List.mem_of_mem_take hv)
    · refine ⟨fun a o e => bt a o (ne_of_none e hkd0) (s4 _ _ (s3 _ _ e)), bt _ _ (fun z => by
        have a1 := s4 _ _ l3
        rw [z, (r1.same s4).kt] at a1
        cases a1) (s4 _ _ l3), ⟨rs' ++ [u], pr, ?_, ?_⟩, _, rfl⟩
      · rw [List.map_append, r2, take_snoc hri, List.map_append]
        simp [er]
      · intro v hv
        rcases List.mem_append.mp hv with hv | hv
        · exact r3 v hv
        · rw [List.mem_singleton.mp hv, er]
          exact hrow
  · rintro _ H3 ⟨s3, l3, ⟨rs', r1, r2, r3⟩, z, rfl⟩
    rw [List.take_length] at r2
    exact ⟨_, rfl, q p2 kd2 rs' H3 s3 r1 r2 r3⟩
end PB

/-! ## S21 -/
set_option Elab.async false
set_option linter.all false
set_option maxRecDepth 100000
set_option maxHeartbeats 4000000
namespace PB
open PySem PySem.Spec PyProof.Rows L2
variable {P : Program} {w : World} {K : PySem.W.Frag} {mg : Str → Option Value} {base : Heap}
open LamX
/-- a def of the module, with its code object -/
structure AtC (K : PySem.W.Frag) (mg : Str → Option Value) (x : Str) (d : He.DefD) (c : Addr) : Prop where
  ex : ∃ f fd, mg x = some (.ref f) ∧ FunD K d.name d.qual d.params d.body d.scope [] [] f fd ∧ fd.code = .ref c
theorem cl_ofC {CX : CXT} {x : Str} {d : He.DefD} {c : Addr} {N ps : List Str} {k : Nat} {sp : Sp} (a : AtC K mg x d c) (S : FnScope N ps d.scope)
    (hb : ∀ (kV doc pm : Value) (an : Option Addr) (cdv ct : Value) (us : List Value), us.length = ps.length → bindArgs (PySem.W.fnOf d.name d.qual d.params d.body d.scope .none kV doc pm an cdv ct) ⟨us, []⟩ = pure (ps.zip us))
    (len : ∀ vs H Q E, sp vs H Q E → vs.length = ps.length)
    (hbody : ∀ (f : Addr) (A : Around) (outer : List Env) (s : Shared) (H : Hp) (vs : List V) (Q : VK) (E : XK), Room k (A.deeper (envOfC d.qual d.scope s.heap.objs.size f (.ref c))) → sp vs H Q E →
      ∃ t, PSs (cxOf CX P w K mg base N d.qual d.scope f (.ref c) A outer s H E) d.body t ∧ t { nx := fun _ H' => Q .non H', rt := Q } (L2.start N vs) H) : Cl P w K mg base CX (k + 1) x sp := by
  obtain ⟨f, fd, hm, F, hc⟩ := a.ex
  have b := F.bindsN hb
  obtain ⟨oc, od, dV, kV, doc, pm, an, cdv, ct, osl, rfl, lk, hcd, _, _⟩ := F.ex
  obtain rfl : cdv = .ref c := hc
  exact ⟨f, _, ps, fn_of lk hcd S len fun A outer s H vs Q E hr h => hbody f A outer s H vs Q E hr h, hm, F.kp, b⟩
theorem PtsR.ext {C : Addr} {H H' : Hp} {p kd : Addr} {w : Nat} {rs : List Tri} (h : PtsR C H p kd w rs) (s : ExtN H H') : PtsR C H' p kd w rs :=
  ⟨h.ob.elim fun dx e => ⟨dx, s _ _ e (fun _ z => nomatch z)⟩, s _ _ h.kt (fun _ z => nomatch z), fun r hr => ⟨s _ _ (h.tr r hr).1 (fun _ z => nomatch z), s _ _ (h.tr r hr).2 (fun _ z => nomatch z)⟩, h.nd, h.few, h.ok⟩
theorem rowF_tbl {t : Bool} {xs : List V} (ps : Array Value) : RowF t xs ≠ .tbl ps := fun z => by cases t <;> cases z
theorem SqAt.ext {H H' : Hp} {q : Addr} {rows : List (List Int)} (h : SqAt H q rows) (s : ExtN H H') : SqAt H' q rows := by
  obtain ⟨t, rs, h1, h2, h3⟩ := h
  exact ⟨t, rs, s _ _ h1 rowF_tbl, fun r hr => by obtain ⟨t2, e⟩ := h2 r hr; exact ⟨t2, s _ _ e rowF_tbl⟩, h3⟩
theorem ExtN.same {H H' : Hp} (s : L2.Same H H') : ExtN H H' := fun b o e _ => s b o e
/-- what is made of points -/
def PtsPost (C NP : Addr) (TB : List (Addr × Str)) (H : Hp) (w : Nat) (rs : List Tri) (gf : List Int → List Int) (Q : VK) (E : XK) : Prop :=
  (∀ p' kd' rs' H', ExtN H H' → Tabs TB H' → PtsR C H' p' kd' w rs' → rs'.map (·.1) = rs.map (fun r => (⟨r.1.nm, r.1.hp, gf r.1.pl⟩ : Pt)) → (∀ r ∈ rs', isRow r.1.pl w 999 = true) → Q (.ref p') H') ∧ ∀ d H', ExtN H H' → Tabs TB H' → E (.ref NP) (some d) H'
theorem PtsPost.up {C NP : Addr} {TB : List (Addr × Str)} {H H1 : Hp} {w : Nat} {rs : List Tri} {gf : List Int → List Int} {Q : VK} {E : XK} (h : PtsPost C NP TB H w rs gf Q E) (s : ExtN H H1) : PtsPost C NP TB H1 w rs gf Q E :=
  ⟨fun p' kd' rs' H' e T r m n => h.1 p' kd' rs' H' (s.trans e) T r m n, fun d H' e T => h.2 d H' (s.trans e) T⟩
/-- .. of the promise's ends -/
theorem PtsPost.tt {C NP : Addr} {TB : List (Addr × Str)} {H : Hp} {p kd : Addr} {w : Nat} {rs : List Tri} {gf : List Int → List Int} {Q : VK} {E : XK} {tl : V → Hp → VK → Prop} (h : PtsPost C NP TB H w rs gf Q E) (T : Tabs TB H) (hp : PtsR C H p kd w rs) (ld : Laid w rs) (fr : Four rs) (hl : ∀ r ∈ rs, (gf r.1.pl).length = w)
    (ha : ∀ r ∈ rs, ∀ H1 Q1, L2.Same H H1 → (∀ q H', L2.Same H1 H' → H' q = some (.tup (vi (gf r.1.pl))) → Q1 (.ref q) H') → tl (.ref r.2.2) H1 Q1) : tt_placed C NP (.ref p) tl H Q E :=
  ⟨p, kd, w, rs, gf, rfl, hp, ld, fr, hl, ha, fun p' kd' rs' H' s r m n => h.1 p' kd' rs' H' (ExtN.same s) (T.ext s) r m n, fun d H' s => h.2 d H' (ExtN.same s) (T.ext s)⟩
def sp_moved_points (C NP : Addr) (TB : List (Addr × Str)) : Sp := fun vs H Q E => ∃ (p kd a : Addr) (w : Nat) (rs : List Tri) (t : Bool) (sh : List Int), vs = [.ref p, .ref a] ∧ PtsR C H p kd w rs ∧ Laid w rs ∧ Four rs ∧ H a = some (RowF t (vi sh)) ∧ isRow sh w 1998 = true ∧ Tabs TB H ∧ PtsPost C NP TB H w rs (fun q => List.zipWith (· + ·) q sh) Q E
theorem gX_moved_points (T : TX K mg) {CP NP : Addr} (cP : PX K CP) {c Pt : Addr} (D : AtC K mg "moved_points" d_moved_points c) (D_placed : At K mg "placed" d_placed) (c_added : Cl P w K mg base C8.CX0 1 "added" sp_added) (c_need_shift : Cl P w K mg base C8.CX0 3 "need_shift" sp_need_shift) (c_Points : C8.Mak P w K mg base 2 "Points" CP (sp_Points___init__ CP) []) (m_dims : Mt P w K mg base C8.CX0 1 CP "dims" (sp_Points_dims CP)) (m_heap : Mt P w K mg base C8.CX0 2 CP "heap" (sp_Points_heap CP)) (m_names : Mt P w K mg base C8.CX0 1 CP "names" (sp_Points_names CP))
    (m_place : Mt P w K mg base C8.CX0 2 CP "place" (sp_Points_place CP)) (m_put : Mt P w K mg base (L2.CX P w) 3 CP "put" (sp_putX CP NP)) {TB : List (Addr × Str)} (tb : TabB base mg c Pt) (hmT : (Pt, ("moved_points.<locals>.<lambda>" : Str)) ∈ TB) (hu : ∀ p ∈ TB, p.1 = Pt → p.2 = ("moved_points.<locals>.<lambda>" : Str)) :
    Cl P w K mg base (L2.CX P w) 5 "moved_points" (sp_moved_points CP NP TB) := by
  refine cl_ofC (k := 4) D sc_moved_points (fun _ _ _ _ _ _ us hl => match us, hl with | [_, _], _ => rfl) (fun vs H Q E h => by
    obtain ⟨p, kd, a, wd, rs, t, sh, rfl, h, ld, fr, ha, row, hT, post⟩ := h
    rfl) ?_
  intro f A outer s H vs Q E hr h
  obtain ⟨p, kd, a, wd, rs, t, sh, rfl, h, ld, fr, ha, row, hT, post⟩ := h
  refine ⟨_, (pss_cons (ps_expr (pe_cl c_need_shift hr (by decide) (by rfl) (pa_cons (pe_mth0 m_dims hr (by decide) (pv 0)) (pa_cons (pv 1) pa_nil))))
 (pss_one (ps_ret (pe_lamP (T := TB) (TT := tt_placed CP NP) (k := 2) (kb := 2) (j := 2) (x := "placed") D_placed (by rfl) sc_placed rfl (.inl rfl) (fun _ _ _ _ _ _ us hl => match us, hl with | [_, _], _ => rfl) hr (by decide) (passes_call (takes_of rfl rfl rfl rfl) (fun _ _ _ _ h => h)) (fun g cdv f c' s H vp Q tl hr2 act hc h => walk_placed T cP c_Points m_dims m_heap m_names m_place m_put hr2 act hc h) (pv 0) tb rfl hmT hu (lamP_by (by rfl)) rfl rfl sc_moved_points.nd (fun _ _ _ _ _ _ => rfl) (fun A outer s H f c' hr2 => pe_cl c_added hr2 (by decide) (by rfl) (pa_cons (pv 2) (pa_cons (pv 1) pa_nil))))))), ?_⟩
  obtain ⟨dx, ob⟩ := h.ob
  have hl : (sh.length : Int) = wd := isRow_len row
  have hi := ld.hi
  refine ⟨_, rfl, _, _, _, rfl, ob, rfl, p, kd, wd, rs, rfl, h, _, rfl, a, t, sh, _, rfl, ha, by omega, row, fun H1 s1 => ?_⟩
  refine ⟨_, rfl, hT.ext s1, fun H2 e2 T2 => ?_⟩
  have e02 := (ExtN.same s1).trans e2
  refine (post.up e02).tt T2 (h.ext e02) ld fr (fun r hr2 => ?_) fun r hr2 H3 Q3 s3 k => ?_
  · have := (ld.at_ r hr2).1
    rw [List.length_zipWith]
    omega
  · exact ⟨_, rfl, _, rfl, r.2.2, a, true, t, r.1.pl, sh, rfl, s3 _ _ ((h.ext e02).tr r hr2).2, s3 _ _ (e02 _ _ ha rowF_tbl), by have := (ld.at_ r hr2).1; omega, by have := (ld.at_ r hr2).1; omega, k⟩
def sp_longer_points (C NP : Addr) (TB : List (Addr × Str)) : Sp := fun vs H Q E => ∃ (p kd : Addr) (w : Nat) (rs : List Tri) (n : Int), vs = [.ref p, .int n] ∧ PtsR C H p kd w rs ∧ Laid w rs ∧ Four rs ∧ 1 ≤ n ∧ n ≤ 9 ∧ Tabs TB H ∧ PtsPost C NP TB H w rs (fun q => q.map (· * n)) Q E
theorem gX_longer_points (T : TX K mg) {CP NP : Addr} (cP : PX K CP) {c Pt : Addr} (D : AtC K mg "longer_points" d_longer_points c) (D_placed : At K mg "placed" d_placed) (c_need_times : Cl P w K mg base C8.CX0 2 "need_times" sp_need_times) (c_times_row : Cl P w K mg base C8.CX0 1 "times_row" sp_times_row) (c_Points : C8.Mak P w K mg base 2 "Points" CP (sp_Points___init__ CP) []) (m_dims : Mt P w K mg base C8.CX0 1 CP "dims" (sp_Points_dims CP)) (m_heap : Mt P w K mg base C8.CX0 2 CP "heap" (sp_Points_heap CP)) (m_names : Mt P w K mg base C8.CX0 1 CP "names" (sp_Points_names CP))
    (m_place : Mt P w K mg base C8.CX0 2 CP "place" (sp_Points_place CP)) (m_put : Mt P w K mg base (L2.CX P w) 3 CP "put" (sp_putX CP NP)) {TB : List (Addr × Str)} (tb : TabB base mg c Pt) (hmT : (Pt, ("longer_points.<locals>.<lambda>" : Str)) ∈ TB) (hu : ∀ p ∈ TB, p.1 = Pt → p.2 = ("longer_points.<locals>.<lambda>" : Str)) :
    Cl P w K mg base (L2.CX P w) 5 "longer_points" (sp_longer_points CP NP TB) := by
  refine cl_ofC (k := 4) D sc_longer_points (fun _ _ _ _ _ _ us hl => match us, hl with | [_, _], _ => rfl) (fun vs H Q E h => by
    obtain ⟨p, kd, wd, rs, n, rfl, h, ld, fr, n1, n9, hT, post⟩ := h
    rfl) ?_
  intro f A outer s H vs Q E hr h
  obtain ⟨p, kd, wd, rs, n, rfl, h, ld, fr, n1, n9, hT, post⟩ := h
  refine ⟨_, (pss_cons (ps_expr (pe_cl c_need_times hr (by decide) (by rfl) (pa_cons (pv 1) pa_nil)))
 (pss_one (ps_ret (pe_lamP (T := TB) (TT := tt_placed CP NP) (k := 2) (kb := 2) (j := 2) (x := "placed") D_placed (by rfl) sc_placed rfl (.inl rfl) (fun _ _ _ _ _ _ us hl => match us, hl with | [_, _], _ => rfl) hr (by decide) (passes_call (takes_of rfl rfl rfl rfl) (fun _ _ _ _ h => h)) (fun g cdv f c' s H vp Q tl hr2 act hc h => walk_placed T cP c_Points m_dims m_heap m_names m_place m_put hr2 act hc h) (pv 0) tb rfl hmT hu (lamP_by (by rfl)) rfl rfl sc_longer_points.nd (fun _ _ _ _ _ _ => rfl) (fun A outer s H f c' hr2 => pe_cl c_times_row hr2 (by decide) (by rfl) (pa_cons (pv 2) (pa_cons (pv 1) pa_nil))))))), ?_⟩
  have hi := ld.hi
  refine ⟨_, rfl, n, rfl, n1, n9, ?_⟩
  refine ⟨_, rfl, hT, fun H2 e2 T2 => ?_⟩
  refine (post.up e2).tt T2 (h.ext e2) ld fr (fun r hr2 => ?_) fun r hr2 H3 Q3 s3 k => ?_
  · rw [List.length_map]
    exact (ld.at_ r hr2).1
  · exact ⟨_, rfl, _, rfl, r.2.2, n, true, r.1.pl, rfl, s3 _ _ ((h.ext e2).tr r hr2).2, by omega, by omega, by have := (ld.at_ r hr2).1; omega, k⟩
def sp_turned_points (C NP : Addr) (TB : List (Addr × Str)) : Sp := fun vs H Q E => ∃ (p kd a : Addr) (w : Nat) (rs : List Tri) (rows : List (List Int)) (L : Int), vs = [.ref p, .ref a] ∧ PtsR C H p kd w rs ∧ Laid w rs ∧ Four rs ∧ SqAt H a rows ∧ SqOk w L rows ∧ Tabs TB H ∧ PtsPost C NP TB H w rs (mulR rows) Q E
theorem gX_turned_points (T : TX K mg) {CP NP : Addr} (cP : PX K CP) {c Pt : Addr} (D : AtC K mg "turned_points" d_turned_points c) (D_placed : At K mg "placed" d_placed) (c_by_rows : Cl P w K mg base C8.CX0 2 "by_rows" sp_by_rows) (c_need_square : Cl P w K mg base C8.CX0 4 "need_square" sp_need_square) (c_Points : C8.Mak P w K mg base 2 "Points" CP (sp_Points___init__ CP) []) (m_dims : Mt P w K mg base C8.CX0 1 CP "dims" (sp_Points_dims CP)) (m_heap : Mt P w K mg base C8.CX0 2 CP "heap" (sp_Points_heap CP)) (m_names : Mt P w K mg base C8.CX0 1 CP "names" (sp_Points_names CP))
    (m_place : Mt P w K mg base C8.CX0 2 CP "place" (sp_Points_place CP)) (m_put : Mt P w K mg base (L2.CX P w) 3 CP "put" (sp_putX CP NP)) {TB : List (Addr × Str)} (tb : TabB base mg c Pt) (hmT : (Pt, ("turned_points.<locals>.<lambda>" : Str)) ∈ TB) (hu : ∀ p ∈ TB, p.1 = Pt → p.2 = ("turned_points.<locals>.<lambda>" : Str)) :
    Cl P w K mg base (L2.CX P w) 5 "turned_points" (sp_turned_points CP NP TB) := by
  refine cl_ofC (k := 4) D sc_turned_points (fun _ _ _ _ _ _ us hl => match us, hl with | [_, _], _ => rfl) (fun vs H Q E h => by
    obtain ⟨p, kd, a, wd, rs, rows, L, rfl, h, ld, fr, ha, ok, hT, post⟩ := h
    rfl) ?_
  intro f A outer s H vs Q E hr h
  obtain ⟨p, kd, a, wd, rs, rows, L, rfl, h, ld, fr, ha, ok, hT, post⟩ := h
  refine ⟨_, (pss_cons (ps_expr (pe_cl c_need_square hr (by decide) (by rfl) (pa_cons (pe_mth0 m_dims hr (by decide) (pv 0)) (pa_cons (pv 1) pa_nil))))
 (pss_one (ps_ret (pe_lamP (T := TB) (TT := tt_placed CP NP) (k := 2) (kb := 2) (j := 2) (x := "placed") D_placed (by rfl) sc_placed rfl (.inl rfl) (fun _ _ _ _ _ _ us hl => match us, hl with | [_, _], _ => rfl) hr (by decide) (passes_call (takes_of rfl rfl rfl rfl) (fun _ _ _ _ h => h)) (fun g cdv f c' s H vp Q tl hr2 act hc h => walk_placed T cP c_Points m_dims m_heap m_names m_place m_put hr2 act hc h) (pv 0) tb rfl hmT hu (lamP_by (by rfl)) rfl rfl sc_turned_points.nd (fun _ _ _ _ _ _ => rfl) (fun A outer s H f c' hr2 => pe_cl c_by_rows hr2 (by decide) (by rfl) (pa_cons (pv 1) (pa_cons (pv 2) pa_nil))))))), ?_⟩
  obtain ⟨dx, ob⟩ := h.ob
  have hi := ld.hi
  refine ⟨_, rfl, _, _, _, rfl, ob, rfl, p, kd, wd, rs, rfl, h, _, rfl, a, rows, wd, L, rfl, ha, ok, fun H1 s1 => ?_⟩
  refine ⟨_, rfl, hT.ext s1, fun H2 e2 T2 => ?_⟩
  have e02 := (ExtN.same s1).trans e2
  refine (post.up e02).tt T2 (h.ext e02) ld fr (fun r hr2 => ?_) fun r hr2 H3 Q3 s3 k => ?_
  · unfold mulR
    rw [List.length_map]
    exact ok.len
  · have la := ld.at_ r hr2
    exact ⟨_, rfl, _, rfl, a, r.2.2, true, rows, r.1.pl, rfl, (ha.ext e02).same s3, s3 _ _ ((h.ext e02).tr r hr2).2, by have := ok.len; omega, by omega, fun u hu => ⟨by rw [(ok.wr u hu).1, la.1], (ok.wr u hu).2⟩, fun y hy => W.small (la.2 y hy), k⟩
end PB

/-! ## S22 -/
set_option Elab.async false
set_option linter.all false
set_option maxRecDepth 100000
set_option maxHeartbeats 4000000
namespace PB
open PySem PySem.Spec PyProof.Rows L2
variable {P : Program} {w : World} {K : PySem.W.Frag} {mg : Str → Option Value} {base : Heap}
open LamX
theorem DeedAt.ext {H H' : Hp} {d : Addr} : ∀ {D : Deed}, DeedAt H d D → ExtN H H' → DeedAt H' d D
  | .moved _, ⟨s, t, h1, h2⟩, e => ⟨s, t, e _ _ h1 (fun _ z => nomatch z), e _ _ h2 rowF_tbl⟩
  | .longer _, h, e => e _ _ h (fun _ z => nomatch z)
  | .turned _ _, ⟨q, h1, h2⟩, e => ⟨q, e _ _ h1 (fun _ z => nomatch z), h2.ext e⟩
def sp_law_points_told (C NP : Addr) (TB : List (Addr × Str)) : Sp := fun vs H Q E => ∃ (d p kd : Addr) (D : Deed) (w : Nat) (rs : List Tri), vs = [.ref d, .ref p] ∧ DeedAt H d D ∧ DeedOk w D ∧ PtsR C H p kd w rs ∧ Laid w rs ∧ Four rs ∧ Tabs TB H ∧
  (∀ p' kd' rs' H', ExtN H H' → Tabs TB H' → PtsR C H' p' kd' w rs' → rs'.map (·.1) = rs.map (fun r => (⟨r.1.nm, r.1.hp, placeN D r.1.pl⟩ : Pt)) → (∀ r ∈ rs', isRow r.1.pl w 999 = true) → Q (.ref p') H') ∧ (∀ H', ExtN H H' → Tabs TB H' → Q .non H')
theorem g_law_points_told {CP PE NP : Addr} (xx : XX K mg PE NP) (D : At K mg "_law_points_told" d_law_points_told) {TB : List (Addr × Str)} (c_moved_points : Cl P w K mg base (L2.CX P w) 5 "moved_points" (sp_moved_points CP NP TB)) (c_longer_points : Cl P w K mg base (L2.CX P w) 5 "longer_points" (sp_longer_points CP NP TB)) (c_turned_points : Cl P w K mg base (L2.CX P w) 5 "turned_points" (sp_turned_points CP NP TB)) :
    Cl P w K mg base C8.CX0 6 "_law_points_told" (sp_law_points_told CP NP TB) := by
  refine cl_of (k := 5) D sc_law_points_told (fun _ _ _ _ _ _ us hl => match us, hl with | [_, _], _ => rfl) (fun vs H Q E h => by
    obtain ⟨d, p, kd, De, w, rs, rfl, _⟩ := h
    rfl) ?_
  intro f cdv A outer s H vs Q E hr h
  obtain ⟨d, p, kd, De, wd, rs, rfl, hd, ok, hp, ld, fr, hT, q, qn⟩ := h
  refine ⟨_, PSs.nox (pss_one (ps_try_only (c := .ref NP) rfl rfl ⟨by rfl, by decide, .inl xx.n⟩ LamX.takes0 (fun W pn xe tk _ => (pss_cons (ps_if (pt_cmpR op_eq (pe_ix k_ix (pv 0) pe_int (fun _ _ => rfl)) pe_str (nomark _))
   (pss_one (ps_ret (pe_clX c_moved_points hr (by decide) (by rfl) (fun σ => passAt tk σ) (pa_cons (pv 1) (pa_cons (pe_ix k_ix (pv 0) pe_int (fun _ _ => rfl)) pa_nil)))))
   pss_nil)
  (pss_cons (ps_if (pt_cmpR op_eq (pe_ix k_ix (pv 0) pe_int (fun _ _ => rfl)) pe_str (nomark _))
   (pss_one (ps_ret (pe_clX c_longer_points hr (by decide) (by rfl) (fun σ => passAt tk σ) (pa_cons (pv 1) (pa_cons (pe_ix k_ix (pv 0) pe_int (fun _ _ => rfl)) pa_nil)))))
   pss_nil)
  (pss_one (ps_ret (pe_clX c_turned_points hr (by decide) (by rfl) (fun σ => passAt tk σ) (pa_cons (pv 1) (pa_cons (pe_ix k_ix (pv 0) pe_int (fun _ _ => rfl)) pa_nil)))))))) (fun a oe cls dd pn _ _ => pss_one (ps_ret pe_non)))), ?_⟩
  have exc : ∀ (d : Option Addr) (H' : Hp), ExtN H H' → Tabs TB H' → ∃ b, PySem.W.exmOne K (.ref NP) (.ref NP) = some b ∧ (b = true → ∀ a : Addr, H' a = none → Q .non H') ∧ (b = false → False) := fun d H' e T => ⟨true, xx.exm, fun _ _ _ => qn H' e T, fun z => by cases z⟩
  cases De with
  | moved sh =>
    obtain ⟨sa, t, h1, h2⟩ := hd
    refine ⟨_, rfl, _, false, _, _, _, rfl, rfl, h1, at0, rfl, _, rfl, ifT (by decide) ?_⟩
    exact ⟨_, rfl, _, rfl, _, false, _, _, _, rfl, rfl, h1, at1, p, kd, sa, wd, rs, t, sh, rfl, hp, ld, fr, h2, ok, hT, q, fun dd H' e T => exc dd H' e T⟩
  | longer n =>
    refine ⟨_, rfl, _, false, _, _, _, rfl, rfl, hd, at0, rfl, _, rfl, ifF (by decide) ?_⟩
    refine ⟨_, rfl, _, false, _, _, _, rfl, rfl, hd, at0, rfl, _, rfl, ifT (by decide) ?_⟩
    exact ⟨_, rfl, _, rfl, _, false, _, _, _, rfl, rfl, hd, at1, p, kd, wd, rs, n, rfl, hp, ld, fr, ok.1, ok.2, hT, q, fun dd H' e T => exc dd H' e T⟩
  | turned rows L =>
    obtain ⟨sa, h1, h2⟩ := hd
    refine ⟨_, rfl, _, false, _, _, _, rfl, rfl, h1, at0, rfl, _, rfl, ifF (by decide) ?_⟩
    refine ⟨_, rfl, _, false, _, _, _, rfl, rfl, h1, at0, rfl, _, rfl, ifF (by decide) ?_⟩
    exact ⟨_, rfl, _, rfl, _, false, _, _, _, rfl, rfl, h1, at1, p, kd, sa, wd, rs, rows, L, rfl, hp, ld, fr, h2, ok, hT, q, fun dd H' e T => exc dd H' e T⟩
end PB

/-! ## RP -/
set_option Elab.async false
set_option linter.all false
set_option maxRecDepth 100000
set_option maxHeartbeats 4000000
namespace PB
open PySem PySem.Spec PyProof.Rows L2
/-! ### repr of a plane -/
def plD (ns : List Int) (o : Int) : PyData := .tuple [.tuple (ns.map PyData.int), .int o]
theorem int_short {i : Int} (h : W i) : (PyData.shown (.int i)).length ≤ 1100 := by
  have e := int_text_length_le (a := i) (k := 1000) (by decide) h
  show (Str.ofString (toString i)).length ≤ 1100
  rw [PySem.ofString_length]
  omega
theorem ints_ok : ∀ ns : List Int, (∀ x ∈ ns, W x) → PyData.showableAll (ns.map PyData.int) = true ∧ PyData.leavesShortAll 1100 (ns.map PyData.int) = true ∧ PyData.weightAll (ns.map PyData.int) ≤ 1001 * ns.length
  | [], _ => ⟨by simp only [List.map_nil, PyData.showableAll], by simp only [List.map_nil, PyData.leavesShortAll], by simp [PyData.weightAll]⟩
  | x :: ns, h => by
    obtain ⟨i1, i2, i3⟩ := ints_ok ns fun y hy => h y (by simp [hy])
    have w := h x (by simp)
    have w' : x.natAbs.log2 < 1000 := w
    refine ⟨?_, ?_, ?_⟩
    · simp only [List.map_cons, PyData.showableAll, PyData.showable, i1, Bool.and_true, decide_eq_true_eq]
      omega
    · simp only [List.map_cons, PyData.leavesShortAll, PyData.leavesShort, i2, Bool.and_true, decide_eq_true_eq]
      exact int_short w
    · simp only [List.map_cons, PyData.weightAll, PyData.weight, List.length_cons]
      split <;> omega
theorem plD_ok {ns : List Int} {o : Int} (h : ∀ x ∈ ns, W x) (ho : W o) (hl : ns.length ≤ 5) : (plD ns o).showable = true ∧ (plD ns o).canLay0 = true ∧ (plD ns o).depth ≤ 2 ∧ (plD ns o).shown.length ≤ sizeLine := by
  obtain ⟨i1, i2, i3⟩ := ints_ok ns h
  obtain ⟨_, c2, c3⟩ := plain_all (K := []) (H := fun _ => none) (plain_ints ns)
  have o' : o.natAbs.log2 < 1000 := ho
  have hs := int_short ho
  refine ⟨?_, ?_, ?_, ?_⟩
  · unfold plD
    simp only [PyData.showable, PyData.showableAll, i1, Bool.true_and, Bool.and_true, decide_eq_true_eq]
    omega
  · unfold plD
    simp only [PyData.canLay0, PyData.canLayAll0, c2, Bool.and_self]
  · unfold plD
    simp only [PyData.depth, PyData.depthAll, c3]
    omega
  · have l : (plD ns o).leavesShort 1100 = true := by
      unfold plD
      simp only [PyData.leavesShort, PyData.leavesShortAll, i2, Bool.true_and, Bool.and_true, decide_eq_true_eq]
      exact hs
    have b := PyData.shown_le 1100 (by decide) _ l
    have wt : (plD ns o).weight ≤ 7000 := by
      unfold plD
      simp only [PyData.weight, PyData.weightAll]
      split <;> omega
    have : (1100 + 2) * (plD ns o).weight ≤ (1100 + 2) * 7000 := Nat.mul_le_mul_left _ wt
    rw [sizeLine_eq]
    omega
theorem plD_dp {K : PySem.W.Frag} {H : Hp} {p : Addr} {ns : List Int} {o : Int} (h : PlAt H p ns o) : Dp K H (.ref p) (plD ns o) := by
  obtain ⟨nr, h1, h2⟩ := h
  exact .tup (sqT h1) (.cons (dp_tup (K := K) h2 (plain_ints ns)).1 (.cons (.int o) .nil))
section
variable {X : Cx} {k : Nat}
theorem k_repr (hg : X.A.guards = some []) (hr : Room k X.A) : CallR X (.builtin "repr") (fun xs H Q => ∃ p ns o, xs = [.ref p] ∧ PlAt H p ns o ∧ (∀ x ∈ ns, W x) ∧ W o ∧ ns.length ≤ 5 ∧ Q (.str (plD ns o).shown) H) := by
  intro pins s σ H xs us Q I r h
  obtain ⟨p, ns, o, rfl, hp, hn, ho, hl, q⟩ := h
  obtain ⟨u, rfl, ru⟩ := vals1 r
  obtain rfl : u = Value.ref p := ru
  obtain ⟨as, hR⟩ := Dp.reads I _ _ _ (plD_dp (K := X.K) hp) (show RelV (.ref p) (.ref p) from rfl)
  obtain ⟨c1, c2, c3, c4⟩ := plD_ok hn ho hl
  refine repr_of_reads' hR c1 (fun z => ?_) hg (by have := hr.units; omega) (fun _ _ e => e) (fun h' u tk hk => ⟨.str (plD ns o).shown, H, I.kept (t' := tk) hk, ⟨u, rfl⟩, q⟩) c4
  rw [PyData.hasDict_of_canLay _ c2] at z
  cases z
end
end PB

/-! ## M4 -/
set_option Elab.async false
set_option linter.all false
set_option maxHeartbeats 4000000
namespace PB
/-! ### what the deeds do to values -/
theorem dot_cons (x y : Int) (xs ys : List Int) : dot (x :: xs) (y :: ys) = x * y + dot xs ys := by
  unfold dot
  rw [List.zipWith_cons_cons, List.sum_cons]
theorem dot_nil (ys : List Int) : dot [] ys = 0 := by simp [dot]
theorem dot_add : ∀ (n p s : List Int), p.length = s.length → dot n (List.zipWith (· + ·) p s) = dot n p + dot n s
  | [], p, s, _ => by simp only [dot_nil]; rfl
  | x :: n, [], [], _ => by simp [dot]
  | x :: n, y :: p, z :: s, h => by
    have i := dot_add n p s (by simpa using h)
    rw [List.zipWith_cons_cons, dot_cons, dot_cons, dot_cons, i]
    grind
theorem dot_scale (k : Int) : ∀ (n p : List Int), dot n (p.map (· * k)) = k * dot n p
  | [], p => by simp only [dot_nil]; simp
  | x :: n, [] => by simp [dot]
  | x :: n, y :: p => by
    have i := dot_scale k n p
    rw [List.map_cons, dot_cons, dot_cons, i]
    grind
def multD : Deed → Int
  | .moved _ => 1
  | .longer k => k
  | .turned _ L => L
theorem multD_pos {n : Nat} : ∀ {D : Deed}, DeedOk n D → 0 < multD D
  | .moved _, _ => by
    show (0 : Int) < 1
    decide
  | .longer k, h => by
    have := h.1
    show 0 < k
    omega
  | .turned _ L, h => h.pos
theorem gone_val {n : Nat} {ns p : List Int} {o : Int} (hn : ns.length = n) (hp : p.length = n) : ∀ {D : Deed}, DeedOk n D → DeedKeep n D → dot (goneN D ns) (placeN D p) - goneO D ns o = multD D * (dot ns p - o)
  | .moved sh, h, _ => by
    have hl : (sh.length : Int) = n := isRow_len h
    show dot ns (List.zipWith (· + ·) p sh) - (o + dot ns sh) = 1 * (dot ns p - o)
    rw [dot_add ns p sh (by omega)]
    omega
  | .longer k, _, _ => by
    show dot ns (p.map (· * k)) - o * k = k * (dot ns p - o)
    rw [dot_scale]
    grind
  | .turned rows L, _, h => by
    show dot (mulR rows ns) (mulR rows p) - o * L = L * (dot ns p - o)
    rw [Keeps.dot h hn hp]
    grind
theorem dot_div (g : Int) : ∀ (ns p : List Int), (∀ x ∈ ns, g ∣ x) → g * dot (ns.map (· / g)) p = dot ns p
  | [], p, _ => by simp [dot]
  | x :: ns, [], _ => by simp [dot]
  | x :: ns, y :: p, h => by
    have i := dot_div g ns p fun z hz => h z (by simp [hz])
    have d := Int.mul_ediv_cancel' (h x (by simp))
    rw [List.map_cons, dot_cons, dot_cons, ← i]
    grind
/-- the value behind, times what was divided out -/
theorem due_val {n : Nat} {ns p : List Int} {o : Int} {D : Deed} (hn : ns.length = n) (hp : p.length = n) (ok : DeedOk n D) (kp : DeedKeep n D) : byOf (goneN D ns) (goneO D ns o) * valN (dueN D ns o) (dueO D ns o) (placeN D p) = multD D * valN ns o p := by
  have e := gone_val (o := o) hn hp ok kp
  have d1 := dot_div (byOf (goneN D ns) (goneO D ns o)) (goneN D ns) (placeN D p) fun x hx => byOf_dvd _ _ x hx
  have d2 := Int.mul_ediv_cancel' (byOf_dvd_o (goneN D ns) (goneO D ns o))
  unfold valN dueN dueO tidN tidO
  rw [Int.mul_sub, d1, d2]
  exact e
theorem sgn_eq {a b v w : Int} (ha : 0 < a) (hb : 0 < b) (h : a * v = b * w) : sgn v = sgn w ∧ (v = 0 ↔ w = 0) ∧ (0 < v ↔ 0 < w) := by
  have h1 : 0 < v ↔ 0 < w := by
    constructor
    · intro hv
      have := Int.mul_pos ha hv
      rw [h] at this
      exact Int.pos_of_mul_pos_right this hb
    · intro hw
      have := Int.mul_pos hb hw
      rw [← h] at this
      exact Int.pos_of_mul_pos_right this ha
  have h2 : v = 0 ↔ w = 0 := by
    constructor
    · intro e
      rw [e, Int.mul_zero] at h
      rcases Int.mul_eq_zero.mp h.symm with z | z <;> omega
    · intro e
      rw [e, Int.mul_zero] at h
      rcases Int.mul_eq_zero.mp h with z | z <;> omega
  refine ⟨?_, h2, h1⟩
  unfold sgn
  by_cases c : 0 < v
  · rw [if_pos c, if_pos (h1.mp c)]
  · rw [if_neg c, if_neg (fun z => c (h1.mpr z))]
    by_cases c2 : v = 0
    · rw [if_neg (by omega), if_neg (by have := h2.mp c2; omega)]
    · rw [if_pos (by omega), if_pos (by
        have h4 : ¬ w = 0 := fun z => c2 (h2.mpr z)
        have h5 : ¬ 0 < w := fun z => c (h1.mpr z)
        omega)]
theorem dot_self_nn : ∀ l : List Int, 0 ≤ dot l l
  | [] => by simp [dot]
  | x :: l => by
    have := dot_self_nn l
    rw [dot_cons]
    have : 0 ≤ x * x := by
      rw [← Int.natAbs_mul_self]
      omega
    omega
theorem dot_self_pos : ∀ l : List Int, (∃ x ∈ l, x ≠ 0) → 0 < dot l l
  | [], h => by
    obtain ⟨x, hx, _⟩ := h
    exact (List.not_mem_nil hx).elim
  | x :: l, h => by
    have n1 := dot_self_nn l
    have n2 : 0 ≤ x * x := by
      rw [← Int.natAbs_mul_self]
      omega
    rw [dot_cons]
    by_cases c : x = 0
    · obtain ⟨y, hy, ny⟩ := h
      have := dot_self_pos l ⟨y, by
        rcases List.mem_cons.mp hy with rfl | hy
        · exact absurd c ny
        · exact hy, ny⟩
      omega
    · have : 0 < x * x := by
        rw [← Int.natAbs_mul_self]
        have : 0 < x.natAbs * x.natAbs := Nat.mul_pos (by omega) (by omega)
        omega
      omega
theorem dot_self_nz {l : List Int} (h : 0 < dot l l) : ∃ x ∈ l, x ≠ 0 := by
  by_cases c : ∃ x ∈ l, x ≠ 0
  · exact c
  · have := dot_zero l fun x hx => by
      by_cases c2 : x = 0
      · exact c2
      · exact absurd ⟨x, hx, c2⟩ c
    omega
theorem gone_self {n : Nat} {ns : List Int} (hn : ns.length = n) : ∀ {D : Deed}, DeedKeep n D → ∃ c, dot (goneN D ns) (goneN D ns) = c * dot ns ns ∧ (DeedOk n D → 0 < c ∧ multD D * multD D = c * goneM D)
  | .moved _, _ => ⟨1, by show dot ns ns = 1 * dot ns ns; omega, fun _ => ⟨by decide, by show (1 : Int) * 1 = 1 * 1; rfl⟩⟩
  | .longer k, _ => ⟨1, by show dot ns ns = 1 * dot ns ns; omega, fun _ => ⟨by decide, by show k * k = 1 * (k * k); omega⟩⟩
  | .turned rows L, h => ⟨L, Keeps.dot h hn hn, fun ok => ⟨ok.pos, rfl⟩⟩
/-! ### bounds -/
structure Bd (B : Nat) (ns : List Int) (o : Int) : Prop where
  n : ∀ x ∈ ns, x.natAbs < 2 ^ B
  o : o.natAbs < 2 ^ B
theorem dot_le (B M : Nat) : ∀ (ns p : List Int), (∀ x ∈ ns, x.natAbs < 2 ^ B) → (∀ y ∈ p, y.natAbs ≤ M) → (dot ns p).natAbs ≤ 2 ^ B * M * ns.length
  | [], p, _, _ => by simp [dot]
  | x :: ns, [], _, _ => by simp [dot]
  | x :: ns, y :: p, h1, h2 => by
    have i := dot_le B M ns p (fun z hz => h1 z (by simp [hz])) fun z hz => h2 z (by simp [hz])
    have a := h1 x (by simp)
    have c := h2 y (by simp)
    have m : (x * y).natAbs ≤ 2 ^ B * M := by
      rw [Int.natAbs_mul]
      exact Nat.mul_le_mul (by omega) c
    rw [dot_cons, List.length_cons, Nat.mul_add, Nat.mul_one]
    omega
theorem dot_comm (a b : List Int) : dot a b = dot b a := by
  unfold dot
  rw [List.zipWith_comm]
  simp only [Int.mul_comm]
theorem div_le (x g : Int) : (x / g).natAbs ≤ x.natAbs := Int.natAbs_ediv_le_natAbs x g
theorem gone_bd {n B : Nat} {ns : List Int} {o : Int} (hb : Bd B ns o) (hn : ns.length = n) (h5 : n ≤ 5) : ∀ {D : Deed}, DeedOk n D → Bd (B + 20) (goneN D ns) (goneO D ns o)
  | .moved sh, h => by
    have hm := isRow_mem h
    have d := dot_le B 1998 ns sh hb.n fun y hy => by have := hm y hy; omega
    have e : 2 ^ (B + 20) = 2 ^ B * 1048576 := by rw [Nat.pow_add]
    have ho := hb.o
    refine ⟨fun x hx => ?_, ?_⟩
    · have := hb.n x hx
      omega
    · show (o + dot ns sh).natAbs < _
      have : 2 ^ B * 1998 * ns.length ≤ 2 ^ B * 1998 * 5 := Nat.mul_le_mul_left _ (by omega)
      omega
  | .longer k, h => by
    have e : 2 ^ (B + 20) = 2 ^ B * 1048576 := by rw [Nat.pow_add]
    have ho := hb.o
    refine ⟨fun x hx => ?_, ?_⟩
    · have := hb.n x hx
      omega
    · show (o * k).natAbs < _
      rw [Int.natAbs_mul]
      have : o.natAbs * k.natAbs ≤ 2 ^ B * 9 := Nat.mul_le_mul (by omega) (by have := h.1; have := h.2; omega)
      omega
  | .turned rows L, h => by
    have e : 2 ^ (B + 20) = 2 ^ B * 1048576 := by rw [Nat.pow_add]
    have ho := hb.o
    refine ⟨fun x hx => ?_, ?_⟩
    · obtain ⟨r, hr, rfl⟩ := List.mem_map.mp hx
      have hm := isRow_mem (h.row r hr)
      have d := dot_le B 9 ns r hb.n fun y hy => by have := hm y hy; omega
      rw [dot_comm] at d
      have : 2 ^ B * 9 * ns.length ≤ 2 ^ B * 9 * 5 := Nat.mul_le_mul_left _ (by omega)
      omega
    · show (o * L).natAbs < _
      rw [Int.natAbs_mul]
      have : o.natAbs * L.natAbs ≤ 2 ^ B * 405 := Nat.mul_le_mul (by omega) (by have := h.pos; have := h.few; omega)
      omega
theorem due_bd {n B : Nat} {ns : List Int} {o : Int} {D : Deed} (hb : Bd B ns o) (hn : ns.length = n) (h5 : n ≤ 5) (ok : DeedOk n D) : Bd (B + 20) (dueN D ns o) (dueO D ns o) := by
  obtain ⟨g1, g2⟩ := gone_bd hb hn h5 ok
  refine ⟨fun x hx => ?_, Nat.lt_of_le_of_lt (div_le _ _) g2⟩
  obtain ⟨y, hy, rfl⟩ := List.mem_map.mp hx
  exact Nat.lt_of_le_of_lt (div_le _ _) (g1 y hy)
theorem gone_len {n : Nat} {ns : List Int} (hn : ns.length = n) : ∀ {D : Deed}, DeedOk n D → (goneN D ns).length = n
  | .moved _, _ => hn
  | .longer _, _ => hn
  | .turned rows L, h => by
    show (mulR rows ns).length = n
    unfold mulR
    rw [List.length_map]
    exact h.len
theorem gone_ok {n B : Nat} {ns : List Int} {o : Int} {D : Deed} (hb : Bd B ns o) (hB : B ≤ 900) (pk : PlOk ns) (hn : ns.length = n) (ok : DeedOk n D) (kp : DeedKeep n D) : PlOk (goneN D ns) := by
  have hl := gone_len hn ok
  have h5 := pk.hi
  have h2 := pk.lo
  refine ⟨?_, by omega, by omega, fun x hx => ?_⟩
  · obtain ⟨c, e, hc⟩ := gone_self hn kp
    refine dot_self_nz ?_
    rw [e]
    exact Int.mul_pos (hc ok).1 (dot_self_pos ns pk.nz)
  · exact W.of ((gone_bd hb hn (by omega) ok).n x hx) (by omega) (by omega)
theorem due_ok {n B : Nat} {ns : List Int} {o : Int} {D : Deed} (hb : Bd B ns o) (hB : B ≤ 900) (pk : PlOk ns) (hn : ns.length = n) (ok : DeedOk n D) (kp : DeedKeep n D) : PlOk (dueN D ns o) ∧ (dueN D ns o).length = n := by
  have gk := gone_ok hb hB pk hn ok kp
  have hl : (dueN D ns o).length = n := by
    unfold dueN tidN
    rw [List.length_map]
    exact gone_len hn ok
  have h5 := pk.hi
  have h2 := pk.lo
  refine ⟨⟨?_, by omega, by omega, fun x hx => W.of ((due_bd hb hn (by omega) ok).n x hx) (by omega) (by omega)⟩, hl⟩
  obtain ⟨x, hx, nx⟩ := gk.nz
  refine ⟨x / byOf (goneN D ns) (goneO D ns o), List.mem_map.mpr ⟨x, hx, rfl⟩, fun z => nx ?_⟩
  have := Int.mul_ediv_cancel' (byOf_dvd (goneN D ns) (goneO D ns o) x hx)
  rw [z] at this
  omega
/-! ### ratios in lowest terms -/
theorem lowest_unique {a b c d : Int} (hb : 0 < b) (hd : 0 < d) (h : a * d = c * b) : a / gcdI a b = c / gcdI c d ∧ b / gcdI a b = d / gcdI c d := by
  have g0 : 0 < gcdI a b := by
    have := Int.gcd_pos_of_ne_zero_right a (show b ≠ 0 by omega)
    unfold gcdI
    omega
  have h0 : 0 < gcdI c d := by
    have := Int.gcd_pos_of_ne_zero_right c (show d ≠ 0 by omega)
    unfold gcdI
    omega
  have key : gcdI a b * d = gcdI c d * b := by
    have e1 : Int.gcd (a * d) (b * d) = Int.gcd a b * d.natAbs := Int.gcd_mul_right a d b
    have e2 : Int.gcd (c * b) (d * b) = Int.gcd c d * b.natAbs := Int.gcd_mul_right c b d
    rw [h, Int.mul_comm b d, e2] at e1
    unfold gcdI
    have e3 : ((Int.gcd c d * b.natAbs : Nat) : Int) = ((Int.gcd a b * d.natAbs : Nat) : Int) := by rw [e1]
    rw [Int.natCast_mul, Int.natCast_mul, Int.natAbs_of_nonneg (show 0 ≤ b by omega), Int.natAbs_of_nonneg (show 0 ≤ d by omega)] at e3
    exact e3.symm
  obtain ⟨a', ea⟩ := Int.gcd_dvd_left a b
  obtain ⟨b', eb⟩ := Int.gcd_dvd_right a b
  obtain ⟨c', ec⟩ := Int.gcd_dvd_left c d
  obtain ⟨d', ed⟩ := Int.gcd_dvd_right c d
  change a = gcdI a b * a' at ea
  change b = gcdI a b * b' at eb
  change c = gcdI c d * c' at ec
  change d = gcdI c d * d' at ed
  generalize gcdI a b = g at *
  generalize gcdI c d = k at *
  have hbd : d' = b' := by
    have : (g * k) * d' = (g * k) * b' := by
      have : g * (k * d') = k * (g * b') := by rw [← ed, ← eb]; exact key
      grind
    exact Int.eq_of_mul_eq_mul_left (by have := Int.mul_pos g0 h0; omega) this
  have hb' : b' ≠ 0 := fun z => by
    rw [z, Int.mul_zero] at eb
    omega
  have hac : a' = c' := by
    have : (g * k * b') * a' = (g * k * b') * c' := by
      have h2 : (g * a') * (k * d') = (k * c') * (g * b') := by rw [← ea, ← ed, ← ec, ← eb]; exact h
      rw [hbd] at h2
      grind
    refine Int.eq_of_mul_eq_mul_left ?_ this
    intro z
    rcases Int.mul_eq_zero.mp z with z | z
    · have := Int.mul_pos g0 h0
      omega
    · exact hb' z
  refine ⟨?_, ?_⟩
  · rw [ea, ec, Int.mul_ediv_cancel_left _ (by omega), Int.mul_ediv_cancel_left _ (by omega), hac]
  · rw [eb, ed, Int.mul_ediv_cancel_left _ (by omega), Int.mul_ediv_cancel_left _ (by omega), hbd]
end PB

/-! ## M5 -/
set_option Elab.async false
set_option linter.all false
set_option maxHeartbeats 4000000
namespace PB
/-- points behind a deed -/
def Behind (D : Deed) (rs rs' : List Tri) : Prop := rs'.map (·.1) = rs.map (fun r => (⟨r.1.nm, r.1.hp, placeN D r.1.pl⟩ : Pt))
theorem Behind.len {D : Deed} {rs rs' : List Tri} (h : Behind D rs rs') : rs'.length = rs.length := by
  have := congrArg List.length h
  rwa [List.length_map, List.length_map] at this
theorem Behind.at_ {D : Deed} {rs rs' : List Tri} (h : Behind D rs rs') {i : Nat} {r : Tri} (hr : rs'[i]? = some r) : ∃ q, rs[i]? = some q ∧ r.1 = ⟨q.1.nm, q.1.hp, placeN D q.1.pl⟩ := by
  have hi := (List.getElem?_eq_some_iff.mp hr).1
  have hl := h.len
  obtain ⟨q, hq⟩ := get_some (l := rs) (i := i) (by omega)
  refine ⟨q, hq, ?_⟩
  have e : (rs'.map (·.1))[i]? = (rs.map (fun r => (⟨r.1.nm, r.1.hp, placeN D r.1.pl⟩ : Pt)))[i]? := by rw [h]
  rw [List.getElem?_map, List.getElem?_map, hr, hq] at e
  exact Option.some.inj e
theorem Behind.mem {D : Deed} {rs rs' : List Tri} (h : Behind D rs rs') {r : Tri} (hr : r ∈ rs') : ∃ q ∈ rs, r.1 = ⟨q.1.nm, q.1.hp, placeN D q.1.pl⟩ := by
  obtain ⟨i, hi⟩ := List.mem_iff_getElem?.mp hr
  obtain ⟨q, hq, e⟩ := h.at_ hi
  exact ⟨q, List.mem_of_getElem? hq, e⟩
theorem Behind.mem' {D : Deed} {rs rs' : List Tri} (h : Behind D rs rs') {q : Tri} (hq : q ∈ rs) : ∃ r ∈ rs', r.1 = ⟨q.1.nm, q.1.hp, placeN D q.1.pl⟩ := by
  have : (⟨q.1.nm, q.1.hp, placeN D q.1.pl⟩ : Pt) ∈ rs'.map (·.1) := by
    rw [h]
    exact List.mem_map.mpr ⟨q, hq, rfl⟩
  obtain ⟨r, hr, e⟩ := List.mem_map.mp this
  exact ⟨r, hr, e⟩
theorem Behind.has {D : Deed} {rs rs' : List Tri} (h : Behind D rs rs') (a : PySem.Str) : PB.has rs' a ↔ PB.has rs a := by
  constructor
  · rintro ⟨r, hr, e⟩
    obtain ⟨q, hq, e2⟩ := h.mem hr
    exact ⟨q, hq, by rw [← e, e2]⟩
  · rintro ⟨q, hq, e⟩
    obtain ⟨r, hr, e2⟩ := h.mem' hq
    exact ⟨r, hr, by rw [e2]; exact e⟩
section
variable {n B : Nat} {ns : List Int} {o : Int} {D : Deed} {rs rs' : List Tri} {a b : PySem.Str}
/-- what stands ahead of all that follows -/
structure Sit (n B : Nat) (ns : List Int) (o : Int) (D : Deed) (rs : List Tri) : Prop where
  hn : ns.length = n
  pk : PlOk ns
  bd : Bd B ns o
  hB : B ≤ 200
  ok : DeedOk n D
  kp : DeedKeep n D
  ld : Laid n rs
theorem Sit.by_pos (s : Sit n B ns o D rs) : 0 < byOf (goneN D ns) (goneO D ns o) := byOf_pos (gone_ok s.bd (by have := s.hB; omega) s.pk s.hn s.ok s.kp).nz
theorem Sit.val (s : Sit n B ns o D rs) {q : Tri} (hq : q ∈ rs) : byOf (goneN D ns) (goneO D ns o) * valN (dueN D ns o) (dueO D ns o) (placeN D q.1.pl) = multD D * valN ns o q.1.pl := due_val s.hn (s.ld.at_ q hq).1 s.ok s.kp
theorem Sit.sgn (s : Sit n B ns o D rs) {q : Tri} (hq : q ∈ rs) : PB.sgn (valN (dueN D ns o) (dueO D ns o) (placeN D q.1.pl)) = PB.sgn (valN ns o q.1.pl) := (sgn_eq s.by_pos (multD_pos s.ok) (s.val hq)).1
theorem Sit.sides (s : Sit n B ns o D rs) {r q : Tri} (hq : q ∈ rs) (e : r.1 = ⟨q.1.nm, q.1.hp, placeN D q.1.pl⟩) : PB.sides a (dueN D ns o) (dueO D ns o) r = PB.sides a ns o q := by
  obtain ⟨_, h2, h3⟩ := sgn_eq s.by_pos (multD_pos s.ok) (s.val hq)
  unfold PB.sides
  rw [e]
  rw [show decide (valN (dueN D ns o) (dueO D ns o) (placeN D q.1.pl) = 0) = decide (valN ns o q.1.pl = 0) from decide_eq_decide.mpr h2, show decide (0 < valN (dueN D ns o) (dueO D ns o) (placeN D q.1.pl)) = decide (0 < valN ns o q.1.pl) from decide_eq_decide.mpr h3]
theorem Sit.parts (s : Sit n B ns o D rs) (h : Behind D rs rs') : PB.parts rs' a b (dueN D ns o) (dueO D ns o) = PB.parts rs a b ns o := by
  unfold PB.parts
  rw [Bool.eq_iff_iff, List.all_eq_true, List.all_eq_true]
  constructor
  · intro k q hq
    obtain ⟨q1, q2⟩ := List.mem_filter.mp hq
    obtain ⟨r, hr, e⟩ := h.mem' q1
    rw [← s.sides q1 e]
    refine k r (List.mem_filter.mpr ⟨hr, ?_⟩)
    unfold inAB at *
    rw [e]
    exact q2
  · intro k r hr
    obtain ⟨r1, r2⟩ := List.mem_filter.mp hr
    obtain ⟨q, hq, e⟩ := h.mem r1
    rw [s.sides hq e]
    refine k q (List.mem_filter.mpr ⟨hq, ?_⟩)
    unfold inAB at *
    rw [e] at r2
    exact r2
theorem vals_to (h : Behind D rs rs') {ns' : List Int} {o' v : Int} (hv : v ∈ vals rs' a ns' o') : ∃ q ∈ rs, q.1.hp = a ∧ v = valN ns' o' (placeN D q.1.pl) := by
  obtain ⟨r, hr, rfl⟩ := List.mem_map.mp hv
  obtain ⟨r1, r2⟩ := List.mem_filter.mp hr
  obtain ⟨q, hq, e⟩ := h.mem r1
  refine ⟨q, hq, ?_, by rw [e]⟩
  have := of_decide_eq_true r2
  rw [e] at this
  exact this
theorem vals_from (h : Behind D rs rs') {ns' : List Int} {o' : Int} {q : Tri} (hq : q ∈ rs) (ha : q.1.hp = a) : valN ns' o' (placeN D q.1.pl) ∈ vals rs' a ns' o' := by
  obtain ⟨r, hr, e⟩ := h.mem' hq
  refine List.mem_map.mpr ⟨r, List.mem_filter.mpr ⟨hr, ?_⟩, by rw [e]⟩
  rw [e]
  exact decide_eq_true ha
theorem vals_of {ns' : List Int} {o' v : Int} (hv : v ∈ vals rs a ns' o') : ∃ q ∈ rs, q.1.hp = a ∧ v = valN ns' o' q.1.pl := by
  obtain ⟨r, hr, rfl⟩ := List.mem_map.mp hv
  obtain ⟨r1, r2⟩ := List.mem_filter.mp hr
  exact ⟨r, r1, of_decide_eq_true r2, rfl⟩
theorem vals_in {ns' : List Int} {o' : Int} {q : Tri} (hq : q ∈ rs) (ha : q.1.hp = a) : valN ns' o' q.1.pl ∈ vals rs a ns' o' := List.mem_map.mpr ⟨q, List.mem_filter.mpr ⟨hq, decide_eq_true ha⟩, rfl⟩
theorem Sit.min (s : Sit n B ns o D rs) (h : Behind D rs rs') {l l' : Int} (hl : IsMin l (vals rs a ns o)) (hl' : IsMin l' (vals rs' a (dueN D ns o) (dueO D ns o))) : byOf (goneN D ns) (goneO D ns o) * l' = multD D * l := by
  have p1 := s.by_pos
  have p2 := multD_pos s.ok
  obtain ⟨q, hq, ha, rfl⟩ := vals_to h hl'.1
  obtain ⟨u, hu, hb, rfl⟩ := vals_of hl.1
  have e1 := s.val hq
  have e2 := s.val hu
  have m1 := hl.2 _ (vals_in (ns' := ns) (o' := o) hq ha)
  have m2 := hl'.2 _ (vals_from h (ns' := dueN D ns o) (o' := dueO D ns o) hu hb)
  have k1 := Int.mul_le_mul_of_nonneg_left m1 (show 0 ≤ multD D by omega)
  have k2 := Int.mul_le_mul_of_nonneg_left m2 (show 0 ≤ byOf (goneN D ns) (goneO D ns o) by omega)
  omega
theorem Sit.max (s : Sit n B ns o D rs) (h : Behind D rs rs') {l l' : Int} (hl : IsMax l (vals rs a ns o)) (hl' : IsMax l' (vals rs' a (dueN D ns o) (dueO D ns o))) : byOf (goneN D ns) (goneO D ns o) * l' = multD D * l := by
  have p1 := s.by_pos
  have p2 := multD_pos s.ok
  obtain ⟨q, hq, ha, rfl⟩ := vals_to h hl'.1
  obtain ⟨u, hu, hb, rfl⟩ := vals_of hl.1
  have e1 := s.val hq
  have e2 := s.val hu
  have m1 := hl.2 _ (vals_in (ns' := ns) (o' := o) hq ha)
  have m2 := hl'.2 _ (vals_from h (ns' := dueN D ns o) (o' := dueO D ns o) hu hb)
  have k1 := Int.mul_le_mul_of_nonneg_left m1 (show 0 ≤ multD D by omega)
  have k2 := Int.mul_le_mul_of_nonneg_left m2 (show 0 ≤ byOf (goneN D ns) (goneO D ns o) by omega)
  omega
theorem due_self (s : Sit n B ns o D rs) : ∃ c, (byOf (goneN D ns) (goneO D ns o) * byOf (goneN D ns) (goneO D ns o)) * dot (dueN D ns o) (dueN D ns o) = c * dot ns ns ∧ 0 < c ∧ multD D * multD D = c * goneM D := by
  obtain ⟨c, e, hc⟩ := gone_self s.hn s.kp
  obtain ⟨c1, c2⟩ := hc s.ok
  refine ⟨c, ?_, c1, c2⟩
  rw [← e]
  have d1 := dot_div (byOf (goneN D ns) (goneO D ns o)) (goneN D ns) (dueN D ns o) fun x hx => byOf_dvd _ _ x hx
  have d2 := dot_div (byOf (goneN D ns) (goneO D ns o)) (goneN D ns) (goneN D ns) fun x hx => byOf_dvd _ _ x hx
  rw [dot_comm (goneN D ns) (dueN D ns o)] at d1
  change byOf (goneN D ns) (goneO D ns o) * dot (dueN D ns o) (dueN D ns o) = _ at d1
  change byOf (goneN D ns) (goneO D ns o) * dot (dueN D ns o) (goneN D ns) = _ at d2
  rw [← d2, ← d1]
  grind
/-- the two widths, both in lowest terms, are one -/
theorem Sit.width (s : Sit n B ns o D rs) (h : Behind D rs rs') {l g l' g' : Int} (hl : IsMin l (vals rs a ns o)) (hg : IsMax g (vals rs b ns o)) (hl' : IsMin l' (vals rs' a (dueN D ns o) (dueO D ns o))) (hg' : IsMax g' (vals rs' b (dueN D ns o) (dueO D ns o)))
    {x y x1 y1 x2 y2 : Int} (ex : x = (l - g) * (l - g)) (ey : y = dot ns ns) (e1 : x1 = x / gcdI x y) (e2 : y1 = y / gcdI x y) (ex2 : x2 = (l' - g') * (l' - g')) (ey2 : y2 = dot (dueN D ns o) (dueN D ns o)) :
    x2 / gcdI x2 y2 = x1 * goneM D / gcdI (x1 * goneM D) y1 ∧ y2 / gcdI x2 y2 = y1 / gcdI (x1 * goneM D) y1 ∧ 0 < y1 ∧ 0 < y ∧ 0 < y2 := by
  have hy : 0 < y := by rw [ey]; exact dot_self_pos ns s.pk.nz
  have dk := (due_ok s.bd (by have := s.hB; omega) s.pk s.hn s.ok s.kp).1
  have hy2 : 0 < y2 := by rw [ey2]; exact dot_self_pos _ dk.nz
  have g0 : 0 < gcdI x y := by
    have := Int.gcd_pos_of_ne_zero_right x (show y ≠ 0 by omega)
    unfold gcdI
    omega
  have dx : gcdI x y * x1 = x := by rw [e1]; exact Int.mul_ediv_cancel' (Int.gcd_dvd_left x y)
  have dy : gcdI x y * y1 = y := by rw [e2]; exact Int.mul_ediv_cancel' (Int.gcd_dvd_right x y)
  have hy1 : 0 < y1 := by
    rw [← dy] at hy
    exact Int.pos_of_mul_pos_right hy g0
  have m1 := s.min h hl hl'
  have m2 := s.max h hg hg'
  obtain ⟨c, c1, c2, c3⟩ := due_self s
  have p1 := s.by_pos
  rw [← ey2, ← ey] at c1
  generalize byOf (goneN D ns) (goneO D ns o) = t at *
  generalize gcdI x y = k at *
  have cross : x2 * y1 = (x1 * goneM D) * y2 := by
    have hx : t * t * x2 = multD D * multD D * x := by
      rw [ex2, ex]
      have : t * (l' - g') = multD D * (l - g) := by rw [Int.mul_sub, Int.mul_sub, m1, m2]
      grind
    have : (t * t * c * k) * (x2 * y1) = (t * t * c * k) * ((x1 * goneM D) * y2) := by
      have h1 : t * t * x2 * (c * (k * y1)) = (multD D * multD D * (k * x1)) * (t * t * y2) := by rw [hx, dy, dx, c1]
      rw [c3] at h1
      grind
    refine Int.eq_of_mul_eq_mul_left ?_ this
    intro z
    have q1 := Int.mul_pos (Int.mul_pos (Int.mul_pos p1 p1) c2) g0
    omega
  have u := lowest_unique hy2 hy1 cross
  exact ⟨u.1, u.2, hy1, hy, hy2⟩
theorem val_le {w B : Nat} {ns p : List Int} {o : Int} (hb : Bd B ns o) (hn : ns.length ≤ 5) (hp : Near p) : (valN ns o p).natAbs < 2 ^ (B + 20) := by
  have d := dot_le B 100000 ns p hb.n fun y hy => by have := hp y hy; omega
  have e : 2 ^ (B + 20) = 2 ^ B * 1048576 := by rw [Nat.pow_add]
  have ho := hb.o
  have : 2 ^ B * 100000 * ns.length ≤ 2 ^ B * 100000 * 5 := Nat.mul_le_mul_left _ hn
  unfold valN
  omega
theorem tame_of {B : Nat} {ns : List Int} {o : Int} {rs : List Tri} (hb : Bd B ns o) (hB : B ≤ 240) (pk : PlOk ns) (hp : ∀ r ∈ rs, Near r.1.pl) : Tame ns o rs := by
  refine ⟨fun r hr => ?_, ?_, dot_self_pos ns pk.nz⟩
  · have h1 := val_le (w := 0) hb pk.hi (hp r hr)
    exact Nat.lt_of_lt_of_le h1 (Nat.pow_le_pow_right (by decide) (by omega))
  · have d := dot_le B (2 ^ B) ns ns hb.n fun y hy => Nat.le_of_lt (hb.n y hy)
    have e : 2 ^ (B + B + 3) = 2 ^ B * 2 ^ B * 8 := by rw [Nat.pow_add, Nat.pow_add]
    have h5 := pk.hi
    have : 2 ^ B * 2 ^ B * ns.length ≤ 2 ^ B * 2 ^ B * 5 := Nat.mul_le_mul_left _ h5
    have p : 0 < 2 ^ B * 2 ^ B := Nat.mul_pos (Nat.two_pow_pos B) (Nat.two_pow_pos B)
    exact W.of (k := B + B + 3) (by omega) (by omega) (by omega)
end
end PB

/-! ## FG -/
set_option Elab.async false
set_option linter.all false
set_option maxRecDepth 100000
set_option maxHeartbeats 4000000
namespace PB
open PySem PySem.Spec PyProof.Rows L2
/-! ### promises that hold where nothing is being shown (no guard stands) -/
structure FnG (P : Program) (w : World) (K : PySem.W.Frag) (mg : Str → Option Value) (base : Heap) (k : Nat) (f : Addr) (fd : FuncData) (ps : List Str) (sp : Sp) : Prop where
  len : ∀ vs H Q E, sp vs H Q E → vs.length = ps.length
  run : ∀ (A : Around) (outer : List Env) (s : Shared) (H : Hp) (args : Args) (us : List Value) (vs : List V) (Q : VK) (E : XK), A.guards = some [] → Room k A → Env0 P w K mg base A outer s H → BindsTo s fd args (ps.zip us) → Vals vs us → sp vs H Q E →
    codeAny (model P w) A (.call (.ref f) args) (CR C8.CX0 outer P w H s Q E) s
structure ClG (P : Program) (w : World) (K : PySem.W.Frag) (mg : Str → Option Value) (base : Heap) (k : Nat) (x : Str) (sp : Sp) : Prop where
  ex : ∃ (f : Addr) (fd : FuncData) (ps : List Str), FnG P w K mg base k f fd ps sp ∧ mg x = some (.ref f) ∧ PySem.W.keepIn K (.ref f) = true ∧ Binds K fd ps []
theorem clG_of {P : Program} {w : World} {K : PySem.W.Frag} {mg : Str → Option Value} {base : Heap} {x : Str} {d : He.DefD} {N ps : List Str} {k : Nat} {sp : Sp} (a : At K mg x d) (S : FnScope N ps d.scope)
    (hb : ∀ (kV doc pm : Value) (an : Option Addr) (cdv ct : Value) (us : List Value), us.length = ps.length → bindArgs (PySem.W.fnOf d.name d.qual d.params d.body d.scope .none kV doc pm an cdv ct) ⟨us, []⟩ = pure (ps.zip us))
    (len : ∀ vs H Q E, sp vs H Q E → vs.length = ps.length)
    (hbody : ∀ (f : Addr) (cdv : Value) (A : Around) (outer : List Env) (s : Shared) (H : Hp) (vs : List V) (Q : VK) (E : XK), (A.deeper (envOfC d.qual d.scope s.heap.objs.size f cdv)).guards = some [] → Room k (A.deeper (envOfC d.qual d.scope s.heap.objs.size f cdv)) → sp vs H Q E →
      ∃ t, PSs (cxOf C8.CX0 P w K mg base N d.qual d.scope f cdv A outer s H E) d.body t ∧ t { nx := fun _ H' => Q .non H', rt := Q } (L2.start N vs) H) : ClG P w K mg base (k + 1) x sp := by
  obtain ⟨f, fd, hm, F⟩ := a.ex
  have b := F.bindsN hb
  obtain ⟨oc, od, dV, kV, doc, pm, an, cdv, ct, osl, rfl, lk, hcd, _, _⟩ := F.ex
  refine ⟨f, _, ps, ⟨len, fun A outer s H args us vs Q E hg hr e0 hbt r h => ?_⟩, hm, F.kp, b⟩
  exact LamX.run_ofS lk hcd S hr e0 hbt r (len vs H Q E h) fun hr' => hbody f cdv A outer s H vs Q E hg hr' h
section
variable {X : Cx} {k j : Nat} {x : Str} {sp : Sp} {p pos : Pos} {e : Expr} {es : List Expr} {t : TA}
theorem pe_clG (c : ClG X.prog X.w X.K X.mg X.base k x sp) (hgd : X.A.guards = some []) (hr : Room j X.A) (hk : k ≤ j) (hg : Gl X x) (ha : PA X (e :: es) t)
    (hdb : (x == ("__debug__" : Str)) = false := by decide) (he : starEach (e :: es) X.env = (false, eval e X.env) :: starEach es X.env := by rfl) (hpl : (backTo pos (starEach es X.env)).any (·.1) = false := by rfl) :
    PE X (.Call (.Name x p) (e :: es) [] pos) (tCall sp [] C8.E0 t) := by
  obtain ⟨f, fd, ps, F, hm, kp, b⟩ := c.ex
  refine ⟨fun pins s σ H Q I h => ?_⟩
  refine wpAny_Call_Name_kw (ld_glob I hg hm ?_ hdb)
  refine PySem.W.callWith_K (h₀ := X.base) I.ok.mod.kin kp (thn (ha.run pos pins s σ H _ I h) fun us s1 ⟨vs, H1, I1, r, q⟩ => ⟨I1.kIn, ?_⟩) he hpl
  have q : sp (vs ++ []) H1 Q C8.E0 := q
  rw [List.append_nil] at q
  have hl : us.length = ps.length := by rw [← r.length]; exact F.len _ _ _ _ q
  have bt := b s1 us I1.kIn (by rw [List.append_nil]; exact hl)
  rw [List.append_nil] at bt
  refine wpAny_call (codeAny_mono (F.run X.A X.stack s1 H1 ⟨us, []⟩ us vs Q C8.E0 hgd (hr.mono hk) I1.env0 bt r q) fun r s' hq => ?_)
  cases r with
  | error e => exact (show False from hq).elim
  | ok fl =>
    cases fl with
    | ret u => exact I1.after hq
    | next => exact False.elim hq
    | brk => exact False.elim hq
    | cont => exact False.elim hq
end
end PB

/-! ## S23 -/
set_option Elab.async false
set_option linter.all false
set_option maxRecDepth 100000
set_option maxHeartbeats 4000000
namespace PB
open PySem PySem.Spec PyProof.Rows L2
variable {P : Program} {w : World} {K : PySem.W.Frag} {mg : Str → Option Value} {base : Heap}
open LamX
theorem Bd.ws {B : Nat} {ns : List Int} {o : Int} (h : Bd B ns o) (hB : B ≤ 900) (h0 : 0 < B) : (∀ x ∈ ns, W x) ∧ W o := ⟨fun x hx => W.of (h.n x hx) h0 (by omega), W.of h.o h0 (by omega)⟩
theorem PlT.ext {t : Bool} {H H' : Hp} {p : Addr} {ns : List Int} {o : Int} (h : PlT t H p ns o) (s : ExtN H H') : PlT t H' p ns o := by
  obtain ⟨nr, h1, h2⟩ := h
  exact ⟨nr, s _ _ h1 (fun _ z => nomatch z), s _ _ h2 rowF_tbl⟩
theorem near_of {p : List Int} {w : Nat} (h : isRow p w 999 = true) : p.length = w ∧ Near p := by
  have h1 := isRow_len h
  have h2 := isRow_mem h
  exact ⟨by omega, fun x hx => by have := h2 x hx; omega⟩
theorem Four.behind {D : Deed} {rs rs' : List Tri} (h : Four rs) (b : Behind D rs rs') : Four rs' := by
  obtain ⟨S, h4, hS⟩ := h
  refine ⟨S, h4, fun r hr => ?_⟩
  obtain ⟨q, hq, e⟩ := b.mem hr
  rw [e]
  exact hS q hq
/-- a place behind a deed is near enough for its value -/
theorem placeN_len {n : Nat} {p : List Int} (hp : p.length = n) : ∀ {D : Deed}, DeedOk n D → (placeN D p).length = n
  | .moved sh, h => by
    have hl : (sh.length : Int) = n := isRow_len h
    show (List.zipWith (· + ·) p sh).length = n
    rw [List.length_zipWith]
    omega
  | .longer k, _ => by
    show (p.map (· * k)).length = n
    rw [List.length_map]
    exact hp
  | .turned rows L, h => by
    show (mulR rows p).length = n
    unfold mulR
    rw [List.length_map]
    exact h.len
theorem place_W {n : Nat} {p : List Int} (hp : p.length = n) (h5 : n ≤ 5) (hn : Near p) : ∀ {D : Deed}, DeedOk n D → ∀ y ∈ placeN D p, W y
  | .moved sh, h => fun y hy => by
    have hm := isRow_mem h
    change y ∈ List.zipWith (· + ·) p sh at hy
    obtain ⟨i, hi⟩ := List.mem_iff_getElem?.mp hy
    obtain ⟨a, b, e1, e2, rfl⟩ := List.getElem?_zipWith_eq_some.mp hi
    have h1 := hn a (List.mem_of_getElem? e1)
    have h2 := hm b (List.mem_of_getElem? e2)
    exact W.of (k := 30) (by omega) (by decide) (by decide)
  | .longer k, h => fun y hy => by
    obtain ⟨x, hx, rfl⟩ := List.mem_map.mp hy
    have h1 := hn x hx
    have h2 := h.1
    have h3 := h.2
    have : (x * k).natAbs ≤ 100000 * 9 := by
      rw [Int.natAbs_mul]
      exact Nat.mul_le_mul (by omega) (by omega)
    exact W.of (k := 30) (by omega) (by decide) (by decide)
  | .turned rows L, h => fun y hy => by
    obtain ⟨r, hr, rfl⟩ := List.mem_map.mp hy
    have hm := isRow_mem (h.row r hr)
    have d := dot_le 17 9 p r (fun x hx => by have := hn x hx; omega) fun y hy => by have := hm y hy; omega
    rw [dot_comm] at d
    have : 2 ^ 17 * 9 * p.length ≤ 2 ^ 17 * 9 * 5 := Nat.mul_le_mul_left _ (by omega)
    exact W.of (k := 30) (by omega) (by decide) (by decide)
def sp_law_right (C NP : Addr) (TB : List (Addr × Str)) : Sp := fun vs H Q E => ∃ (p kd two pl d : Addr) (w B : Nat) (rs : List Tri) (a b : Str) (ns : List Int) (o : Int) (D : Deed), vs = [.ref p, .ref two, .ref pl, .ref d] ∧ PtsR C H p kd w rs ∧ Four rs ∧ H two = some (.lst [.str a, .str b]) ∧ NameOk a ∧ NameOk b ∧ a ≠ b ∧ PlAt H pl ns o ∧ DeedAt H d D ∧ Sit w B ns o D rs ∧ 0 < B ∧ Tabs TB H ∧
  (∀ H', ExtN H H' → Tabs TB H' → Q .non H') ∧
  (∀ l p' kd' pl' rs' ns' o' H', ExtN H H' → Tabs TB H' → H' l = some (.lst [.ref p', .ref pl']) → PtsR C H' p' kd' w rs' → Laid w rs' → Four rs' → PlAt H' pl' ns' o' → PlOk ns' → ns'.length = w → Bd (B + 20) ns' o' → Q (.ref l) H')
theorem ext_same {H H1 H2 : Hp} (e : ExtN H H1) (s : L2.Same H1 H2) : ExtN H H2 := e.trans (ExtN.same s)
/-- None or a ratio, as data -/
inductive RD (H : Hp) : V → PyData → Prop where
  | non : RD H .non .none
  | rat {r : Addr} {x y : Int} (h : H r = some (.tup [.int x, .int y])) : RD H (.ref r) (.tuple [.int x, .int y])
theorem RD.dp {K : PySem.W.Frag} {H : Hp} {v : V} {d : PyData} (h : RD H v d) : Dp K H v d ∧ SeqAt.shaped d = true ∧ PyData.eqv d d = true := by
  cases h with
  | non => exact ⟨.non, by decide, by simp [PyData.eqv]⟩
  | rat h =>
    obtain ⟨h1, h2⟩ := dp_tup (K := K) h (.cons (.int _) (.cons (.int _) .nil))
    exact ⟨h1, h2, by simp [PyData.eqv, PyData.eqvAll]⟩
theorem g_law_right (T : TX K mg) {CP : Addr} (cP : PX K CP) {NP : Addr} {TB : List (Addr × Str)} (D : At K mg "_law_right" d_law_right) (c_law_gone : Cl P w K mg base C8.CX0 3 "_law_gone" sp_law_gone) (c_law_placed : Cl P w K mg base C8.CX0 2 "_law_placed" sp_law_placed) (c_law_plane_told : Cl P w K mg base C8.CX0 7 "_law_plane_told" sp_law_plane_told) (c_law_points_told : Cl P w K mg base C8.CX0 6 "_law_points_told" (sp_law_points_told CP NP TB)) (c_law_times : Cl P w K mg base C8.CX0 2 "_law_times" sp_law_times) (c_law_width : Cl P w K mg base C8.CX0 7 "_law_width" (sp_law_width CP)) (c_does_part : Cl P w K mg base C8.CX0 5 "does_part" (sp_does_part CP)) (c_side_at : Cl P w K mg base C8.CX0 6 "side_at" sp_side_at) (m_names : Mt P w K mg base C8.CX0 1 CP "names" (sp_Points_names CP)) (m_place : Mt P w K mg base C8.CX0 2 CP "place" (sp_Points_place CP)) : ClG P w K mg base 8 "_law_right" (sp_law_right CP NP TB) := by
  refine clG_of (k := 7) D sc_law_right (fun _ _ _ _ _ _ us hl => match us, hl with | [_, _, _, _], _ => rfl) (fun vs H Q E h => by
    obtain ⟨p, kd, two, pl, d, wd, B, rs, a, b, ns, o, De, rfl, hp, fr, htw, na, nb, nab, hpl, hd, st, hB0, hT, qn, q⟩ := h
    rfl) ?_
  intro f cdv A outer s H vs Q E hgd hr h
  obtain ⟨p, kd, two, pl, d, wd, B, rs, a, b, ns, o, De, rfl, hp, fr, htw, na, nb, nab, hpl, hd, st, hB0, hT, qn, q⟩ := h
  refine ⟨_, (PSs.nox (pss_cons (ps_asg (pe_cl c_law_gone hr (by decide) (by rfl) (pa_cons (pv 3) (pa_cons (pv 2) pa_nil))) (k_tup (n := 2) rfl (pgs_cons (pg_name (i := 4) sc_law_right.nd rfl (Or.inl rfl)) (pgs_cons (pg_name (i := 5) sc_law_right.nd rfl (Or.inl rfl)) pgs_nil))))
 (pss_cons (ps_for PassesOwn.never rfl (pi_range1 rfl T.b_range (pa_cons pe_int pa_nil)) (pg_name (i := 6) sc_law_right.nd rfl (Or.inl rfl))
 (pss_one (ps_if (pt_cmpR op_ne (pe_callB (k_repr hgd hr) (by rfl) T.b_repr bt_repr (pa_cons (pe_cl c_law_plane_told hr (by decide) (by rfl) (pa_cons (pv 3) (pa_cons (pv 2) pa_nil))) pa_nil)) (pe_callB (k_repr hgd hr) (by rfl) T.b_repr bt_repr (pa_cons (pv 4) pa_nil)) (nomark _))
 (pss_one (ps_ret pe_bl))
 pss_nil)))
 (pss_cons (ps_for PassesOwn.never rfl (k_row (pe_mth0 m_names hr (by decide) (pv 0))) (pg_name (i := 7) sc_law_right.nd rfl (Or.inl rfl))
 (pss_cons (ps_set (i := 8) sc_law_right.nd rfl (Or.inl rfl) (pe_mth m_place hr (by decide) (pv 0) (pa_cons (pv 7) pa_nil)))
 (pss_one (ps_if (pt_cmpR op_ne (pe_cl c_side_at hr (by decide) (by rfl) (pa_cons (pv 4) (pa_cons (pe_cl c_law_placed hr (by decide) (by rfl) (pa_cons (pv 3) (pa_cons (pv 8) pa_nil))) pa_nil))) (pe_cl c_side_at hr (by decide) (by rfl) (pa_cons (pv 2) (pa_cons (pv 8) pa_nil))) (nomark _))
 (pss_one (ps_ret pe_bl))
 pss_nil))))
 (pss_cons (ps_set (i := 9) sc_law_right.nd rfl (Or.inl rfl) (pe_cl c_law_points_told hr (by decide) (by rfl) (pa_cons (pv 3) (pa_cons (pv 0) pa_nil))))
 (pss_cons (ps_if (pt_cmpR op_isN (pv 9) pe_non (nomark _))
 (pss_one (ps_ret pe_non))
 pss_nil)
 (pss_cons (ps_if (pt_cmpR op_ne (pe_cl c_does_part hr (by decide) (by rfl) (pa_cons (pv 9) (pa_cons (pe_ix k_ix (pv 1) pe_int (fun _ _ => rfl)) (pa_cons (pe_ix k_ix (pv 1) pe_int (fun _ _ => rfl)) (pa_cons (pv 4) pa_nil))))) (pe_cl c_does_part hr (by decide) (by rfl) (pa_cons (pv 0) (pa_cons (pe_ix k_ix (pv 1) pe_int (fun _ _ => rfl)) (pa_cons (pe_ix k_ix (pv 1) pe_int (fun _ _ => rfl)) (pa_cons (pv 2) pa_nil))))) (nomark _))
 (pss_one (ps_ret pe_bl))
 pss_nil)
 (pss_cons (ps_if (pt_cmpR (op_neD hr.units) (pe_cl c_law_width hr (by decide) (by rfl) (pa_cons (pv 9) (pa_cons (pv 1) (pa_cons (pv 4) pa_nil)))) (pe_cl c_law_times hr (by decide) (by rfl) (pa_cons (pe_cl c_law_width hr (by decide) (by rfl) (pa_cons (pv 0) (pa_cons (pv 1) (pa_cons (pv 2) pa_nil)))) (pa_cons (pv 5) pa_nil))) (nomark _))
 (pss_one (ps_ret pe_bl))
 pss_nil)
 (pss_one (ps_ret (pe_lst (pa_cons (pv 9) (pa_cons (pv 4) pa_nil))))))))))))), ?_⟩
  have hB := st.hB
  have pk := st.pk
  have hn := st.hn
  have ok := st.ok
  have ld := st.ld
  have hlo := ld.lo
  have hhi := ld.hi
  have gk := gone_ok st.bd (by omega) pk hn ok st.kp
  obtain ⟨dk, dl⟩ := due_ok st.bd (by omega) pk hn ok st.kp
  have db := due_bd st.bd hn hhi ok
  obtain ⟨dW1, dW2⟩ := db.ws (by omega) (by omega)
  have ok' : DeedOk ns.length De := by rw [hn]; exact ok
  refine ⟨_, rfl, _, rfl, d, pl, De, ns, o, rfl, hd, hpl, ok', pk, gk, fun gr due H1 s1 eg hdue => ?_⟩
  refine ⟨gr, _, rfl, eg, rfl, _, _, rfl, _, _, rfl, rfl, ?_⟩
  refine ⟨_, rfl, by decide, by decide, for_range (fun i σ' H' => L2.Same H1 H' ∧ ∃ z, σ' = [some (.ref p), some (.ref two), some (.ref pl), some (.ref d), some (.ref due), some (.int (goneM De)), z, none, none, none]) ⟨L2.Same.refl _, _, rfl⟩ ?_ ?_⟩
  · rintro i _ H2 hi ⟨s2, z, rfl⟩
    have s12 := s1.trans s2
    refine ⟨_, rfl, _, rfl, d, pl, De, ns, o, rfl, hd.same s12, hpl.same s12, ok', pk, gk, fun t2 H3 s3 h3 => ⟨t2, _, _, rfl, h3, dW1, dW2, by omega, ?_⟩⟩
    refine ⟨_, rfl, due, _, _, rfl, (hdue.same s2).same s3, dW1, dW2, by omega, rfl, _, rfl, ifF (by simp) ⟨s2.trans s3, _, rfl⟩⟩
  rintro _ H2 ⟨s2, z, rfl⟩
  have s02 := s1.trans s2
  have hp2 := hp.same s02
  obtain ⟨dx2, ob2⟩ := hp2.ob
  refine ⟨_, rfl, _, _, _, rfl, ob2, rfl, p, kd, wd, rs, rfl, hp2, fun l H3 s3 e3 => ⟨_, false, _, rfl, e3, fun J w => ?_⟩⟩
  rw [List.length_map] at w
  refine for_it w (fun i σ' H' => L2.Same H3 H' ∧ ∃ z1 z2 z3, σ' = [some (.ref p), some (.ref two), some (.ref pl), some (.ref d), some (.ref due), some (.int (goneM De)), z1, z2, z3, none]) ⟨L2.Same.refl _, _, _, _, rfl⟩ (fun i σ' H' _ z => z.1 _ _ e3) ?_ ?_
  · rintro i x _ H4 _ hi ⟨s4, z1, z2, z3, rfl⟩ ⟨rfl, y⟩
    rw [List.getElem?_map] at y
    obtain ⟨r, hri, rfl⟩ := Option.map_eq_some_iff.mp y
    have hm := List.mem_of_getElem? hri
    have la := ld.at_ r hm
    have s04 := (s02.trans s3).trans s4
    have s14 := (s2.trans s3).trans s4
    have hp4 := hp.same s04
    obtain ⟨dx4, ob4⟩ := hp4.ob
    refine ⟨_, rfl, _, _, _, rfl, ob4, rfl, _, rfl, p, kd, wd, rs, r, rfl, hp4, hm, ?_⟩
    refine ⟨_, rfl, _, rfl, _, rfl, d, r.2.2, true, De, r.1.pl, rfl, hd.same s04, (hp4.tr r hm).2, by rw [la.1]; exact ok, by omega, la.2, fun np H5 s5 e5 => ?_⟩
    refine ⟨due, np, true, _, _, _, rfl, (hdue.same s14).same s5, dk, e5, by rw [dl, placeN_len la.1 ok], place_W la.1 hhi la.2 ok, fun H6 s6 => ?_⟩
    refine ⟨_, rfl, _, rfl, pl, r.2.2, true, ns, r.1.pl, o, rfl, ((hpl.same s04).same s5).same s6, pk, s6 _ _ (s5 _ _ (hp4.tr r hm).2), by rw [hn, la.1], fun y hy => W.small (la.2 y hy), fun H7 s7 => ⟨rfl, _, rfl, ifF ?_ ⟨((s4.trans s5).trans s6).trans s7, _, _, _, rfl⟩⟩⟩
    have sg := st.sgn hm
    unfold valN at sg
    rw [sg]
    simp
  rintro _ H4 ⟨s4, z1, z2, z3, rfl⟩
  have s04 := (s02.trans s3).trans s4
  have s14 := (s2.trans s3).trans s4
  refine ⟨_, rfl, _, rfl, d, p, kd, De, wd, rs, rfl, hd.same s04, ok, hp.same s04, ld, fr, hT.ext s04, fun p' kd' rs' H5 e5 T5 hp5 bh near => ?_, fun H5 e5 T5 => ?_⟩
  rotate_left
  · exact ⟨_, rfl, rfl, _, rfl, ifT rfl (qn H5 ((ExtN.same s04).trans e5) T5)⟩
  have e05 := (ExtN.same s04).trans e5
  have bh : Behind De rs rs' := bh
  have ld' : Laid wd rs' := ⟨hlo, hhi, fun r hr => near_of (near r hr)⟩
  have fr' := fr.behind bh
  have hdue5 : PlAt H5 due (dueN De ns o) (dueO De ns o) := (hdue.same s14).ext e5
  have htw5 := e05 _ _ htw (fun _ z => nomatch z)
  refine ⟨_, rfl, rfl, _, rfl, ifF rfl ?_⟩
  have hp5' : PtsR CP H5 p' kd' (dueN De ns o).length rs' := by rw [dl]; exact hp5
  have ld5' : Laid (dueN De ns o).length rs' := by rw [dl]; exact ld'
  have hp0' : ∀ {H' : Hp}, ExtN H H' → PtsR CP H' p kd ns.length rs := fun e => by rw [hn]; exact hp.ext e
  have ld0' : Laid ns.length rs := by rw [hn]; exact ld
  refine ⟨_, rfl, _, rfl, two, false, _, _, _, rfl, rfl, htw5, at0, _, rfl, two, false, _, _, _, rfl, rfl, htw5, at1, _, rfl, p', kd', due, rs', a, b, dueN De ns o, dueO De ns o, rfl, hp5', ld5', na, nb, nab, hdue5, dk, fun H6 s6 => ?_⟩
  have e06 := ext_same e05 s6
  have htw6 := s6 _ _ htw5
  refine ⟨_, rfl, _, rfl, two, false, _, _, _, rfl, rfl, htw6, at0, _, rfl, two, false, _, _, _, rfl, rfl, htw6, at1, _, rfl, p, kd, pl, rs, a, b, ns, o, rfl, hp0' e06, ld0', na, nb, nab, hpl.ext e06, pk, fun H7 s7 => ?_⟩
  have hparts : parts rs' a b (dueN De ns o) (dueO De ns o) = parts rs a b ns o := st.parts bh
  refine ⟨rfl, _, rfl, ifF (by rw [hparts]; simp) ?_⟩
  have e07 := ext_same e06 s7
  have e57 := s6.trans s7
  have tame' := tame_of (rs := rs') db (by omega) dk fun r hr => (ld'.at_ r hr).2
  have tame0 := tame_of (rs := rs) st.bd (by omega) pk fun r hr => (ld.at_ r hr).2
  have h7' : PtsR CP H7 p' kd' (dueN De ns o).length rs' := hp5'.same e57
  have none_ : ∀ {H8 : Hp}, Dp K H8 .non .none ∧ SeqAt.shaped .none = true ∧ PyData.eqv .none .none = true := fun {H8} => (RD.non (H := H8)).dp
  refine ⟨_, rfl, _, rfl, _, rfl, p', kd', two, due, rs', a, b, dueN De ns o, dueO De ns o, rfl, e57 _ _ htw5, h7', ld5', na, nb, nab, hdue5.same e57, dk, tame', fun hno H8 s8 => ?_, fun ha' hb' hpt' l' g' r' H8 il' ig' s8 er' => ?_⟩
  · have hno0 : ¬ has rs a ∨ ¬ has rs b ∨ parts rs a b ns o = false := by
      rcases hno with h | h | h
      · exact .inl fun z => h ((bh.has a).mpr z)
      · exact .inr (.inl fun z => h ((bh.has b).mpr z))
      · exact .inr (.inr (by rw [← hparts]; exact h))
    have e08 := ext_same e07 s8
    refine ⟨_, rfl, _, rfl, _, rfl, p, kd, two, pl, rs, a, b, ns, o, rfl, s8 _ _ (e57 _ _ htw5), hp0' e08, ld0', na, nb, nab, hpl.ext e08, pk, tame0, fun _ H9 s9 => ?_, fun ha hb hpt => ?_⟩
    · obtain ⟨n1, n2, n3⟩ := none_ (H8 := H9)
      exact ⟨_, rfl, _, _, rfl, .inl ⟨rfl, _, _, n1, n1, n2, n2, _, rfl, ifF (by rw [n3]; rfl) ⟨_, rfl, _, rfl, szl (show 2 < 100000 by decide), fun l2 hl2 => q l2 p' kd' due rs' _ _ _ (ext_same (ext_same e05 ((e57.trans s8).trans s9)) (same_upd hl2)) (T5.ext (((e57.trans s8).trans s9).trans (same_upd hl2))) upd_same ((hp5.same ((e57.trans s8).trans s9)).same (same_upd hl2)) ld' fr' ((hdue5.same ((e57.trans s8).trans s9)).same (same_upd hl2)) dk dl db⟩⟩⟩
    · rcases hno0 with h | h | h
      · exact absurd ha h
      · exact absurd hb h
      · rw [h] at hpt
        cases hpt
  · have ha := (bh.has a).mp ha'
    have hb := (bh.has b).mp hb'
    have hpt : parts rs a b ns o = true := by rw [← hparts]; exact hpt'
    have e08 := ext_same e07 s8
    refine ⟨_, rfl, _, rfl, _, rfl, p, kd, two, pl, rs, a, b, ns, o, rfl, s8 _ _ (e57 _ _ htw5), hp0' e08, ld0', na, nb, nab, hpl.ext e08, pk, tame0, fun hno => ?_, fun _ _ _ l g r H9 il ig s9 er => ?_⟩
    · rcases hno with h | h | h
      · exact absurd ha h
      · exact absurd hb h
      · rw [h] at hpt
        cases hpt
    · obtain ⟨w1, w2, w3, w4, w5⟩ := st.width bh il ig il' ig' rfl rfl rfl rfl rfl rfl
      have mp : 0 < goneM De ∧ goneM De < 1000 := by
        cases De with
        | moved sh => exact ⟨(by decide : (0 : Int) < 1), (by decide : (1 : Int) < 1000)⟩
        | longer n =>
          have h1 := ok.1
          have h9 := ok.2
          have u1 : n * n ≤ 9 * 9 := Int.mul_le_mul h9 h9 (by omega) (by decide)
          have u2 : 0 < n * n := Int.mul_pos (by omega) (by omega)
          exact ⟨u2, by show n * n < 1000; omega⟩
        | turned rows L =>
          have h1 := ok.pos
          have h9 := ok.few
          exact ⟨h1, by show L < 1000; omega⟩
      have wy : W (dot ns ns / gcdI ((l - g) * (l - g)) (dot ns ns)) := tame0.w.mono (div_le _ _)
      refine ⟨_, rfl, _, _, rfl, .inr ⟨r, _, _, rfl, er, mp.1, mp.2, w3, wy, fun t H10 s10 e10 => ?_⟩⟩
      obtain ⟨a1, a2, a3⟩ := (RD.rat (s10 _ _ (s9 _ _ er'))).dp (K := K)
      have e10' : H10 t = some (.tup [.int ((l' - g') * (l' - g') / gcdI ((l' - g') * (l' - g')) (dot (dueN De ns o) (dueN De ns o))), .int (dot (dueN De ns o) (dueN De ns o) / gcdI ((l' - g') * (l' - g')) (dot (dueN De ns o) (dueN De ns o)))]) := by
        rw [w1, w2]
        exact e10
      obtain ⟨b1, b2, b3⟩ := (RD.rat e10').dp (K := K)
      exact ⟨_, _, a1, b1, a2, b2, _, rfl, ifF (by rw [a3]; rfl) ⟨_, rfl, _, rfl, szl (show 2 < 100000 by decide), fun l2 hl2 => q l2 p' kd' due rs' _ _ _ (ext_same (ext_same e05 (((e57.trans s8).trans s9).trans s10)) (same_upd hl2)) (T5.ext ((((e57.trans s8).trans s9).trans s10).trans (same_upd hl2))) upd_same ((hp5.same (((e57.trans s8).trans s9).trans s10)).same (same_upd hl2)) ld' fr' ((hdue5.same (((e57.trans s8).trans s9).trans s10)).same (same_upd hl2)) dk dl db⟩⟩
end PB

/-! ## S24 -/
set_option Elab.async false
set_option linter.all false
set_option maxRecDepth 100000
set_option maxHeartbeats 4000000
namespace PB
open PySem PySem.Spec PyProof.Rows L2
variable {P : Program} {w : World} {K : PySem.W.Frag} {mg : Str → Option Value} {base : Heap}
open LamX
/-! ### the script's row -/
def Scr (K : PySem.W.Frag) (H : Hp) (s : Addr) (cs : List Int) : Prop := (∃ o, H s = some (.frz o (.lst (vi cs)))) ∨
  ∃ (o : Obj) (its : Array Value) (n : Nat), K.lookup s = some o ∧ o.cls = .type "list" ∧ o.dict = none ∧ o.data = .seq its n ∧ its.size ≤ sizeLine ∧ Vals (vi cs) its.toList
theorem Scr.sq {K : PySem.W.Frag} {H : Hp} {s : Addr} {cs : List Int} (h : Scr K H s cs) : SqL K H s (vi cs) := by
  rcases h with h | h
  · exact .inl (.inr h)
  · exact .inr h
theorem frz_lst {o : Obj} {u : HO} (xs : List V) : HO.frz o u ≠ .lst xs := fun z => nomatch z
theorem codeO_lst {c : Addr} {q : Str} (xs : List V) : CodeO c q ≠ .lst xs := fun z => by
  unfold CodeO at z
  cases z
/-- what stays throughout -/
structure Kp (K : PySem.W.Frag) (TB : List (Addr × Str)) (s : Addr) (cs : List Int) (H : Hp) : Prop where
  sc : Scr K H s cs
  tb : Tabs TB H
section
variable {TB : List (Addr × Str)} {sa : Addr} {cs : List Int} {H H' : Hp} {b : Addr}
theorem Kp.same (h : Kp K TB sa cs H) (e : L2.Same H H') : Kp K TB sa cs H' := ⟨h.sc.imp (fun ⟨o, z⟩ => ⟨o, e _ _ z⟩) id, h.tb.ext e⟩
theorem Kp.but (h : Kp K TB sa cs H) (e : But b H H') (hb : BoxAt H b) : Kp K TB sa cs H' := by
  refine ⟨h.sc.imp (fun ⟨o, z⟩ => ⟨o, e.get hb z frz_lst⟩) id, fun p hp => ?_⟩
  obtain ⟨ps, h1, h2, h3⟩ := h.tb p hp
  refine ⟨ps, e.get hb h1 (fun _ z => nomatch z), h2, fun pos cv hc => ?_⟩
  obtain ⟨c, e1, e2⟩ := h3 pos cv hc
  exact ⟨c, e1, e.get hb e2 codeO_lst⟩
theorem Kp.ext (h : Kp K TB sa cs H) (e : ExtN H H') (t : Tabs TB H') : Kp K TB sa cs H' := ⟨h.sc.imp (fun ⟨o, z⟩ => ⟨o, e _ _ z (fun _ q => nomatch q)⟩) id, t⟩
end
theorem BoxAt.ext {H H' : Hp} {b : Addr} (h : BoxAt H b) (e : ExtN H H') : BoxAt H' b := by
  obtain ⟨x, y, z, h⟩ := h
  exact ⟨x, y, z, e _ _ h (fun _ q => nomatch q)⟩
theorem WAt.ext {H H' : Hp} {b d : Addr} {A : WAdr} {W : Wd} (h : WAt H b d A W) (e : ExtN H H') : WAt H' b d A W :=
  ⟨e _ _ h.d (fun _ q => nomatch q), ⟨e _ _ h.n.1 (fun _ q => nomatch q), h.n.2⟩, ⟨e _ _ h.m.1 (fun _ q => nomatch q), h.m.2⟩, ⟨e _ _ h.p.1 (fun _ q => nomatch q), h.p.2⟩, ⟨e _ _ h.h.1 (fun _ q => nomatch q), h.h.2⟩, L2.Paired.mapP h.pl fun _ _ z => e _ _ z (fun _ q => nomatch q)⟩
theorem PtsR.but {C : Addr} {H H' : Hp} {p kd b : Addr} {w : Nat} {rs : List Tri} (h : PtsR C H p kd w rs) (s : But b H H') (hb : BoxAt H b) : PtsR C H' p kd w rs :=
  ⟨h.ob.elim fun dx e => ⟨dx, s.get hb e (fun _ z => nomatch z)⟩, s.get hb h.kt (fun _ z => nomatch z), fun r hr => ⟨s.get hb (h.tr r hr).1 (fun _ z => nomatch z), s.get hb (h.tr r hr).2 (fun _ z => nomatch z)⟩, h.nd, h.few, h.ok⟩
def sp_law (K : PySem.W.Frag) (C NP : Addr) (TB : List (Addr × Str)) : Sp := fun vs H Q E => ∃ (s : Addr) (cs : List Int), vs = [.ref s] ∧ Kp K TB s cs H ∧ cs.length < 1000000 ∧ (∀ H', Q (.bl true) H')
theorem g_law (T : TX K mg) {CP : Addr} (cP : PX K CP) {NP : Addr} {TB : List (Addr × Str)} (D : At K mg "law" d_law) (c_law_box : Cl P w K mg base C8.CX0 1 "_law_box" sp_law_box) (c_law_cell : Cl P w K mg base C8.CX0 1 "_law_cell" (sp_law_cell K)) (c_law_deed : Cl P w K mg base C8.CX0 4 "_law_deed" sp_law_deed) (c_law_plane : Cl P w K mg base C8.CX0 3 "_law_plane" sp_law_plane) (c_law_points : Cl P w K mg base C8.CX0 4 "_law_points" (sp_law_points CP)) (c_law_right : ClG P w K mg base 8 "_law_right" (sp_law_right CP NP TB)) (c_law_sided : Cl P w K mg base C8.CX0 2 "_law_sided" sp_law_sided) (c_law_take : Cl P w K mg base C8.CX0 1 "_law_take" sp_law_take) (c_law_world : Cl P w K mg base C8.CX0 3 "_law_world" sp_law_world) : ClG P w K mg base 9 "law" (sp_law K CP NP TB) := by
  refine clG_of (k := 8) D sc_law (fun _ _ _ _ _ _ us hl => match us, hl with | [_], _ => rfl) (fun vs H Q E h => by
    obtain ⟨sa, cs, rfl, kp, hcs, q⟩ := h
    rfl) ?_
  intro f cdv A outer s H vs Q E hgd hr h
  obtain ⟨sa, cs, rfl, kp, hcs, q⟩ := h
  refine ⟨_, (PSs.nox (pss_cons (ps_for PassesOwn.never rfl (pi_range1 rfl T.b_range (pa_cons (pe_callB (call_max2 rfl) (by rfl) T.b_max bt_max (pa_cons pe_int (pa_cons (pe_callB (call_min2 rfl) (by rfl) T.b_min bt_min (pa_cons pe_int (pa_cons (pe_callB call_len_seq (by rfl) T.b_len bt_len (pa_cons (pv 0) pa_nil)) pa_nil))) pa_nil))) pa_nil)) (pg_name (i := 1) sc_law.nd rfl (Or.inl rfl))
 (pss_cons (ps_set (i := 2) sc_law.nd rfl (Or.inl rfl) (pe_cl c_law_box hr (by decide) (by rfl) (pa_cons (pe_cl c_law_cell hr (by decide) (by rfl) (pa_cons (pv 0) (pa_cons (pv 1) pa_nil))) pa_nil)))
 (pss_cons (ps_set (i := 3) sc_law.nd rfl (Or.inl rfl) (pe_cl c_law_world hr (by decide) (by rfl) (pa_cons (pv 2) (pa_cons (pe_and (pe_cmpR op_eq (pv 1) pe_int (nomark _)) (pe_one (pe_cmpR op_eq (pe_cl c_law_take hr (by decide) (by rfl) (pa_cons (pv 2) (pa_cons pe_int pa_nil))) pe_int (nomark _)))) pa_nil))))
 (pss_cons (ps_set (i := 4) sc_law.nd rfl (Or.inl rfl) (pe_cl c_law_take hr (by decide) (by rfl) (pa_cons (pv 2) (pa_cons pe_int pa_nil))))
 (pss_cons (ps_set (i := 5) sc_law.nd rfl (Or.inl rfl) (pe_lst (pa_cons (pe_ix k_ix (pe_dget (hu_of hr) (pv 3) pe_str (fun _ _ => rfl)) (pv 4) (fun _ _ => rfl)) (pa_cons (pe_ix k_ix (pe_dget (hu_of hr) (pv 3) pe_str (fun _ _ => rfl)) (pe_op op_mod (pe_op op_add (pe_op op_add (pv 4) pe_int) (pe_cl c_law_take hr (by decide) (by rfl) (pa_cons (pv 2) (pa_cons pe_int pa_nil)))) pe_int) (fun _ _ => rfl)) pa_nil))))
 (pss_cons (ps_set (i := 6) sc_law.nd rfl (Or.inl rfl) (pe_cl c_law_plane hr (by decide) (by rfl) (pa_cons (pv 2) (pa_cons (pv 3) pa_nil))))
 (pss_cons (ps_set (i := 7) sc_law.nd rfl (Or.inl rfl) (pe_cl c_law_points hr (by decide) (by rfl) (pa_cons (pe_cl c_law_sided hr (by decide) (by rfl) (pa_cons (pv 2) (pa_cons (pv 3) (pa_cons (pv 6) (pa_cons (pv 5) pa_nil))))) pa_nil)))
 (pss_cons (ps_set (i := 8) sc_law.nd rfl (Or.inr rfl) (pe_op op_add pe_int (pe_cl c_law_take hr (by decide) (by rfl) (pa_cons (pv 2) (pa_cons pe_int pa_nil)))))
 (pss_cons (ps_set (i := 6) sc_law.nd rfl (Or.inl rfl) (pe_tup (pa_cons (pe_callTy k_tuple (by rfl) T.b_tuple bt_tuple (pa_cons (pe_lc (own := [("_law_one", 11)]) rfl sc_law.nd (k_row (pe_ix k_ix (pv 6) pe_int (fun _ _ => rfl))) (blkOk_by (N := ["_law_script", "_law_k", "_law_box_here", "_law_world_here", "_law_at", "_law_two", "_law_plane_here", "_law_points_here", "_law_times_here", "_law_turn", "_law_told", "_law_one"]) (sc := d_law.scope) (own := [("_law_one", 11)]) (by decide +kernel)) (fun _ _ _ _ _ => (pg_name (i := 11) sc_law.nd rfl (Or.inl rfl))) (fun _ _ _ _ _ => pts_nil) (fun _ _ _ _ _ => (pe_op op_mul (pv 11) (pv 8)))) pa_nil)) (pa_cons (pe_op op_mul (pe_ix k_ix (pv 6) pe_int (fun _ _ => rfl)) (pv 8)) pa_nil))))
 (pss_one (ps_for PassesOwn.never rfl (pi_range1 rfl T.b_range (pa_cons pe_int pa_nil)) (pg_name (i := 9) sc_law.nd rfl (Or.inl rfl))
 (pss_cons (ps_set (i := 10) sc_law.nd rfl (Or.inl rfl) (pe_clG c_law_right hgd hr (by decide) (by rfl) (pa_cons (pv 7) (pa_cons (pv 5) (pa_cons (pv 6) (pa_cons (pe_cl c_law_deed hr (by decide) (by rfl) (pa_cons (pv 2) (pa_cons (pe_dget (hu_of hr) (pv 3) pe_str (fun _ _ => rfl)) pa_nil))) pa_nil))))))
 (pss_cons (ps_if (pt_cmpR k_isBl (pv 10) pe_bl (nomark _))
 (pss_one (ps_ret pe_bl))
 pss_nil)
 (pss_one (ps_if (pt_cmpR op_notN (pv 10) pe_non (nomark _))
 (pss_one (ps_asg (pv 10) (k_unl (n := 2) rfl (pgs_cons (pg_name (i := 7) sc_law.nd rfl (Or.inl rfl)) (pgs_cons (pg_name (i := 6) sc_law.nd rfl (Or.inl rfl)) pgs_nil)))))
 pss_nil)))))))))))))))
 (pss_one (ps_ret pe_bl)))), ?_⟩
  refine ⟨_, rfl, sa, vi cs, rfl, .inl kp.sc.sq, _, _, rfl, _, _, rfl, _, rfl, ?_, ?_, for_range (fun i σ' H' => Kp K TB sa cs H' ∧ ∃ z1 z2 z3 z4 z5 z6 z7 z8 z9 z10, σ' = [some (.ref sa), z1, z2, z3, z4, z5, z6, z7, z8, z9, z10, none]) ⟨kp, _, _, _, _, _, _, _, _, _, _, rfl⟩ ?_ ?_⟩
  · rw [vi_len]
    split <;> split <;> omega
  · rw [vi_len]
    split <;> split <;> omega
  rotate_left
  · rintro _ H1 ⟨k1, z1, z2, z3, z4, z5, z6, z7, z8, z9, z10, rfl⟩
    exact q H1
  rintro i _ H0 hi ⟨k0, z1, z2, z3, z4, z5, z6, z7, z8, z9, z10, rfl⟩
  refine ⟨_, rfl, _, rfl, sa, cs, _, rfl, k0.sc.sq, by omega, fun c => ⟨c, rfl, fun b H1 s1 hbn x1 => ?_⟩⟩
  have k1 := k0.same s1
  dsimp only [gName]
  refine seq_tail (fun σ' H' => But b H1 H' ∧ BoxAt H' b ∧ ∃ wd A W, WAt H' b wd A W ∧ WdOk W ∧ σ' = [some (.ref sa), some (.int (0 + (i : Nat))), some (.ref b), some (.ref wd), z4, z5, z6, z7, z8, z9, z10, none]) ?_ ?_
  rotate_left
  · intro N hN
    refine ⟨_, rfl, _, rfl, rfl, _, rfl, ?_⟩
    by_cases c : (0 + (i : Int)) = 0
    · refine ifT (decide_eq_true (congrArg V.int c)) ⟨_, rfl, b, 8, rfl, x1, by decide, W.small (by decide), fun d H2 d0 d1 b2 x2 => ⟨rfl, b, _, rfl, x2, fun wd H3 A W b3 x3 hw ok => hN _ _ ⟨b2.trans b3, x3, wd, A, W, hw, ok, rfl⟩⟩⟩
    · exact ifF (decide_eq_false fun z => c (V.int.inj z)) ⟨b, false, rfl, x1, fun wd H3 A W b3 x3 hw ok => hN _ _ ⟨b3, x3, wd, A, W, hw, ok, rfl⟩⟩
  rintro _ H3 ⟨b3, x3, wd, A, W, hw, ok, rfl⟩
  have k3 := k1.but b3 x1
  have hlo := ok.lo
  have hhi := ok.hi
  refine ⟨_, rfl, b, 5, rfl, x3, by decide, PB.W.small (by decide), fun at_ H4 a0 a1 b4 x4 => ?_⟩
  have w4 := hw.but b4 x3
  obtain ⟨an, rfl⟩ := Int.eq_ofNat_of_zero_le a0
  obtain ⟨xs, hxs⟩ := get_some (l := W.heaps) (i := an) (by have := ok.hl; omega)
  refine ⟨_, rfl, wd, _, rfl, w4.get valK.2.2.2.2, _, rfl, A.h, false, _, _, .str xs, rfl, rfl, w4.h.1, atI_map hxs, ?_⟩
  refine ⟨_, rfl, wd, _, rfl, w4.get valK.2.2.2.2, _, rfl, _, _, rfl, rfl, _, rfl, b, 4, rfl, x4, by decide, PB.W.small (by decide), fun t H5 t0 t1 b5 x5 => ⟨_, _, rfl, rfl, _, _, rfl, rfl, (by decide : (0 : Int) < 5), ?_⟩⟩
  have w5 := w4.but b5 x4
  obtain ⟨yn, hyn⟩ := Int.eq_ofNat_of_zero_le (show 0 ≤ ((an : Int) + 1 + t) % 5 by omega)
  obtain ⟨ys, hys⟩ := get_some (l := W.heaps) (i := yn) (by have := ok.hl; omega)
  have nxy : xs ≠ ys := fun z => by
    rw [← z] at hys
    have := nodup_at ok.hnd hxs hys
    omega
  refine ⟨A.h, false, _, _, .str ys, rfl, rfl, w5.h.1, by rw [hyn]; exact atI_map hys, szl (show 2 < 100000 by decide), fun two htwo => ?_⟩
  have nx := ok.hok _ (List.mem_of_getElem? hxs)
  have ny := ok.hok _ (List.mem_of_getElem? hys)
  have n2 := x5.ne htwo
  have x5' := x5.keep (o := .lst [.str xs, .str ys]) htwo
  have w5' := w5.same (same_upd (o := .lst [.str xs, .str ys]) htwo)
  have k5 := ((k3.but b4 x3).but b5 x4).same (same_upd (o := .lst [.str xs, .str ys]) htwo)
  refine ⟨_, rfl, _, rfl, b, wd, A, W, rfl, x5', w5', ok, fun pl H6 ns o b6 x6 hpl p0 => ?_⟩
  have w6 := w5'.but b6 x5'
  have k6 := k5.but b6 x5'
  have e6 := b6 _ (.lst [.str xs, .str ys]) n2 upd_same
  refine ⟨_, rfl, _, rfl, _, rfl, _, rfl, b, wd, pl, two, A, W, ns, o, xs, ys, rfl, x6, w6, ok, hpl, p0, n2, e6, nx, ny, fun d' H7 A' W' b7 x7 w7 ok7 dim7 => ⟨b, d', A', W', rfl, w7, ok7, fun p kd rs H8 s8 hp ld fr => ?_⟩⟩
  rw [dim7] at hp ld
  have k8 := (k6.but b7 x6).same s8
  have w8 := (w6.but b7 x6).same s8
  have x8 := x7.same s8
  have e8 := s8 _ _ (b7 _ _ n2 e6)
  have hpl8 := (hpl.but b7 x6).same s8
  refine ⟨_, rfl, b, 12, rfl, x8, by decide, PB.W.small (by decide), fun t2 H9 tt0 tt1 b9 x9 => ⟨_, _, rfl, rfl, ?_⟩⟩
  have k9 := k8.but b9 x8
  have w9 := w8.but b9 x8
  have e9 := b9 _ _ n2 e8
  have hp9 := hp.but b9 x8
  obtain ⟨nr, q0, q1⟩ := hpl8.but b9 x8
  have hns := p0.len
  refine ⟨_, rfl, pl, true, _, _, _, rfl, rfl, q0, at0, nr, true, _, rfl, q1, fun J w D2 hD2 => lc_row ns V.int (fun x => .int (x * (1 + t2))) w hD2 (fun H' s => s _ _ q1) (by omega) (fun _ => rfl) ?_ ?_⟩
  · intro x H10 R hx s10 kk
    exact ⟨_, rfl, _, rfl, _, _, rfl, rfl, .inr ⟨by omega, by omega⟩, kk _ (L2.Same.refl _)⟩
  intro H10 s10 e10
  refine ⟨D2, false, _, rfl, e10, fun tn H11 s11 e11 => ?_⟩
  have s911 := s10.trans s11
  refine ⟨_, rfl, pl, true, _, _, _, rfl, rfl, s911 _ _ q0, at1, _, rfl, _, _, rfl, rfl, .inr ⟨by omega, by omega⟩, szl (show 2 < 100000 by decide), fun pl2 hpl2 => ?_⟩
  have s912 := s911.trans (same_upd (o := .tup [.ref tn, .int (o * (1 + t2))]) hpl2)
  have pl12 : PlAt (upd H11 pl2 (.tup [.ref tn, .int (o * (1 + t2))])) pl2 (ns.map (· * (1 + t2))) (o * (1 + t2)) := ⟨tn, upd_same, upd_get hpl2 (by rw [e11, vi_map]; rfl)⟩
  have bd0 : Bd 110 (ns.map (· * (1 + t2))) (o * (1 + t2)) := by
    refine ⟨fun x hx => ?_, ?_⟩
    · obtain ⟨y, hy, rfl⟩ := List.mem_map.mp hx
      have h1 := p0.nb y hy
      have h2 : (y * (1 + t2)).natAbs ≤ 2 ^ 82 * 12 := by
        rw [Int.natAbs_mul]
        exact Nat.mul_le_mul (by omega) (by omega)
      omega
    · have h1 := p0.ob
      have h2 : (o * (1 + t2)).natAbs ≤ 2 ^ 100 * 12 := by
        rw [Int.natAbs_mul]
        exact Nat.mul_le_mul (by omega) (by omega)
      omega
  have pk0 : PlOk (ns.map (· * (1 + t2))) := by
    refine ⟨?_, by rw [List.length_map]; omega, by rw [List.length_map]; omega, fun x hx => (bd0.ws (by decide) (by decide)).1 x hx⟩
    obtain ⟨x, hx, nz⟩ := p0.nz
    refine ⟨x * (1 + t2), List.mem_map.mpr ⟨x, hx, rfl⟩, fun z => ?_⟩
    rcases Int.mul_eq_zero.mp z with z | z <;> omega
  refine ⟨_, rfl, by decide, by decide, for_range (fun j σ' H' => Kp K TB sa cs H' ∧ BoxAt H' b ∧ WAt H' b wd A W ∧ H' two = some (.lst [.str xs, .str ys]) ∧ ∃ p kd rs pl ns o, PtsR CP H' p kd W.dims rs ∧ Laid W.dims rs ∧ Four rs ∧ PlAt H' pl ns o ∧ PlOk ns ∧ ns.length = W.dims ∧ Bd (110 + 20 * j) ns o ∧
      ∃ y1 y2, σ' = [some (.ref sa), some (.int (0 + (i : Nat))), some (.ref b), some (.ref wd), some (.int (an : Nat)), some (.ref two), some (.ref pl), some (.ref p), some (.int (1 + t2)), y1, y2, none])
    ⟨k9.same s912, x9.same s912, w9.same s912, s912 _ _ e9, p, kd, rs, pl2, _, _, hp9.same s912, ld, fr, pl12, pk0, by rw [List.length_map]; exact hns, bd0, _, _, rfl⟩ ?_ ?_⟩
  rotate_left
  · rintro _ Hz ⟨kz, _, _, _, p, kd, rs, pl, ns, o, _, _, _, _, _, _, _, y1, y2, rfl⟩
    exact ⟨kz, _, _, _, _, _, _, _, _, _, _, rfl⟩
  rintro j _ Ha hj ⟨ka, xa, wa, ea, p, kd, rs, pl, ns, o, hpa, lda, fra, pla, pka, nsa, bda, y1, y2, rfl⟩
  have hj3 : j < 3 := hj
  refine ⟨_, rfl, _, rfl, _, rfl, _, rfl, _, rfl, wd, _, rfl, wa.get valK.1, b, W.dims, rfl, xa, hlo, hhi, fun da Hb D bb xb hd dok dkp => ?_⟩
  have kb := ka.but bb xa
  have wb := wa.but bb xa
  have eb := bb _ _ n2 ea
  refine ⟨p, kd, two, pl, da, W.dims, 110 + 20 * j, rs, xs, ys, ns, o, D, rfl, hpa.but bb xa, fra, eb, nx, ny, nxy, pla.but bb xa, hd, ⟨nsa, pka, bda, by omega, dok, dkp, lda⟩, by omega, kb.tb, fun Hc ec Tc => ?_, fun l p' kd' pl' rs' ns' o' Hc ec Tc el hp' ld' fr' hpl' pk' nl' bd' => ?_⟩
  · refine ⟨_, rfl, false, rfl, .inr (.inl ⟨rfl, _, rfl, ifF rfl ⟨_, rfl, rfl, _, rfl, ifF rfl ?_⟩⟩)⟩
    exact ⟨kb.ext ec Tc, xb.ext ec, wb.ext ec, ec _ _ eb (fun _ z => nomatch z), p, kd, rs, pl, ns, o, (hpa.but bb xa).ext ec, lda, fra, (pla.but bb xa).ext ec, pka, nsa, ⟨fun x hx => Nat.lt_of_lt_of_le (bda.n x hx) (Nat.pow_le_pow_right (by decide) (by omega)), Nat.lt_of_lt_of_le bda.o (Nat.pow_le_pow_right (by decide) (by omega))⟩, _, _, rfl⟩
  · refine ⟨_, rfl, false, rfl, .inr (.inr ⟨l, rfl, _, rfl, ifF rfl ⟨_, rfl, rfl, _, rfl, ifT rfl ⟨_, rfl, l, _, rfl, el, rfl, _, _, rfl, _, _, rfl, rfl, ?_⟩⟩⟩)⟩
    exact ⟨kb.ext ec Tc, xb.ext ec, wb.ext ec, ec _ _ eb (fun _ z => nomatch z), p', kd', rs', pl', ns', o', hp', ld', fr', hpl', pk', nl', by rw [show 110 + 20 * (j + 1) = 110 + 20 * j + 20 from by omega]; exact bd', _, _, rfl⟩
end PB

/-! ## EG -/
set_option Elab.async false
set_option linter.all false
set_option maxRecDepth 100000
set_option maxHeartbeats 4000000
namespace PB
open PySem PySem.Spec PyProof.Rows L2 LamX
/-! ### the end: the law called where no guard stands; empty tables and the script's row are tracked -/
/-- what may be tracked at the call -/
structure Trk (h : Heap) (K : PySem.W.Frag) (ts : List Addr) (H : Hp) : Prop where
  only : ∀ b u, H b = some u → (b ∈ ts ∧ u = .tbl #[]) ∨ ∃ (vs : Array Value) (xs : List V), h.get? b = some { cls := .type "list", data := .seq vs } ∧ u = .frz { cls := .type "list", data := .seq vs } (.lst xs) ∧ K.lookup b = none
  tab : ∀ b ∈ ts, H b = some (.tbl #[]) ∧ h.get? b = some tabObj0 ∧ K.lookup b = none
section
variable {P : Program} {w : World} {K : PySem.W.Frag} {mg mb : Str → Option Value} {ts : List Addr} {H : Hp} {s : Shared}
theorem Trk.off (t : Trk s.heap K ts H) {b : Addr} {o : Obj} (e : s.heap.get? b = some o) (n1 : ∀ vs, o ≠ { cls := .type "list", data := .seq vs }) (n2 : o ≠ tabObj0) : H b = none := by
  cases q : H b with
  | none => rfl
  | some u =>
    rcases t.only b u q with ⟨hb, _⟩ | ⟨vs, xs, e2, _⟩
    · exact absurd (Option.some.inj (e.symm.trans (t.tab b hb).2.1)) n2
    · exact absurd (Option.some.inj (e.symm.trans e2)) (n1 vs)
theorem Trk.ns (t : Trk s.heap K ts H) {b : Addr} {m : Str → Option Value} (h : s.heap.Ns b m) : (hidT s.heap H).Ns b m := by
  obtain ⟨o, es, ep, e, d, r⟩ := h
  refine ⟨o, es, ep, hidT_get e (t.off e (fun vs z => ?_) fun z => ?_), d, r⟩ <;> · rw [z] at d; cases d
theorem Trk.kin (t : Trk s.heap K ts H) (KX : K.In s.heap) : K.In (hidT s.heap H) := fun b o e => hidT_get (KX b o e) (by
  cases q : H b with
  | none => rfl
  | some u =>
    have hk : K.lookup b = none := by
      rcases t.only b u q with ⟨hb, _⟩ | ⟨_, _, _, _, hk⟩
      · exact (t.tab b hb).2.2
      · exact hk
    rw [hk] at e
    cases e)
theorem Trk.table (t : Trk s.heap K ts H) {c T : Addr} (hT : T ∈ ts) (hns : s.heap.Ns mainGlobals mg) (C : PySem.W.CodeHd s.heap c T)
    (hbm : ∃ (bm : Addr) (ob : Obj), mg "__builtins__" = some (.ref bm) ∧ bm ≠ builtinsNs ∧ s.heap.get? bm = some ob ∧ ob.cls = .type "module" ∧ ob.dict = some builtinsNs ∧ ob.data = .plain) : TabB (hidT s.heap H) mg c T := by
  have eT := (t.tab T hT).2.1
  refine ⟨?_, ?_, fun z => ?_⟩
  · obtain ⟨o, us, file, tf, flags, tg, inF, text, tt, e1, r1, r2, r3, rest⟩ := C
    refine ⟨o, us, file, tf, flags, tg, inF, text, tt, hidT_get e1 (t.off e1 (fun vs z => ?_) fun z => ?_), r1, r2, r3, rest⟩
    · have q := congrArg Obj.data z
      rw [r2] at q
      cases q
    · have q := congrArg Obj.data z
      rw [r2] at q
      cases q
      simp at r3
  · obtain ⟨bm, ob, b1, b2, b3, b4, b5, b6⟩ := hbm
    refine ⟨bm, ob, b1, b2, fun z => ?_, fun z => ?_, hidT_get b3 (t.off b3 (fun vs z => ?_) fun z => ?_), b4, b5, b6⟩
    · obtain ⟨o, es, ep, e, hd, _⟩ := hns
      have q : ob = o := Option.some.inj (b3.symm.trans (by rw [z]; exact e))
      rw [q, hd] at b6
      cases b6
    · have q : ob = tabObj0 := Option.some.inj (b3.symm.trans (by rw [z]; exact eT))
      rw [q] at b6
      cases b6
    · rw [z] at b6
      cases b6
    · rw [z] at b6
      cases b6
  · obtain ⟨o, es, ep, e, hd, _⟩ := hns
    have q : o = tabObj0 := Option.some.inj (e.symm.trans (by rw [z]; exact eT))
    rw [q] at hd
    cases hd
/-- the run of the law's def -/
theorem end_run {k : Nat} {fa a : Addr} {cs : List (Addr × Addr)} {x : Str} {sp : Sp} (t : Trk s.heap K (cs.map (·.2)) H) (KX : K.In s.heap) (hns : s.heap.Ns mainGlobals mg) (hb : s.heap.Ns builtinsNs mb) (hbb : ∀ x : Str, x ≠ "__name__" → mb x = bootBuiltins x)
    (hlim : s.heap.NoLimit) (hg : s.gens = #[]) (C : ∀ p ∈ cs, PySem.W.CodeHd s.heap p.1 p.2) (hok : HOk P w H s.heap) (hr : Room k callerA)
    (hbm : ∃ (bm : Addr) (ob : Obj), mg "__builtins__" = some (.ref bm) ∧ bm ≠ builtinsNs ∧ s.heap.get? bm = some ob ∧ ob.cls = .type "module" ∧ ob.dict = some builtinsNs ∧ ob.data = .plain)
    (F : ∀ base : Heap, K.In base → base.Ns mainGlobals mg → (∀ p ∈ cs, TabB base mg p.1 p.2) → ClG P w K mg base k x sp) (hm : mg x = some (.ref fa)) (hsp : sp [.ref a] H (fun v _ => v = .bl true) fun _ _ _ => False) :
    codeAny (model P w) callerA (.call (.ref fa) ⟨[.ref a], []⟩) (fun r s' => r = .ok (.ret (.bool true)) ∧ OldK s.heap s'.heap ∧ s'.os = s.os ∧ AllBare s'.gens) s := by
  have kb := t.kin KX
  have hM : L2.Mod K mg (hidT s.heap H) := ⟨kb, t.ns hns, ⟨mb, t.ns hb, hbb⟩, let ⟨mc, h1, h2⟩ := hlim; ⟨mc, t.ns h1, h2⟩⟩
  have e0 : Env0 P w K mg (hidT s.heap H) callerA [] s H := ⟨rfl, hM, fun b o e => of_hidT e, Nat.le_of_eq (hidT_size _ _), trivial, fun b hb => absurd (show b ∈ ([] : List Addr) from hb) List.not_mem_nil, hok, .of_eq hg⟩
  have TB : ∀ p ∈ cs, TabB (hidT s.heap H) mg p.1 p.2 := fun p hp => t.table (List.mem_map.mpr ⟨p, hp, rfl⟩) hns (C p hp) hbm
  obtain ⟨f, fd, ps, G, hf, _, bd⟩ := (F _ kb (t.ns hns) TB).ex
  obtain rfl : f = fa := by
    have z := hf.symm.trans hm
    cases z
    rfl
  have bt := bd s [.ref a] KX (G.len _ _ _ _ hsp).symm.symm
  rw [List.append_nil] at bt
  refine codeAny_mono (G.run callerA [] s H ⟨[.ref a], []⟩ [.ref a] [.ref a] _ _ rfl hr e0 bt (.cons rfl .nil) hsp) fun r s' h => ?_
  match r, h with
  | .error e, h => exact (show False from h).elim
  | .ok .next, h => exact (show False from h).elim
  | .ok .brk, h => exact (show False from h).elim
  | .ok .cont, h => exact (show False from h).elim
  | .ok (.ret u), h =>
    obtain ⟨v, H', os, bare, un, hok', rv, q⟩ := h
    obtain rfl : v = .bl true := q
    obtain rfl : u = Value.bool true := rv
    have nof : ∀ b : Addr, b ∉ frs ([] : List Env) := fun b z => nomatch (show b ∈ ([] : List Addr) from z)
    have tabs : ∀ b ∈ cs.map (·.2), ∃ more : Array Value, s'.heap.get? b = some { cls := .none, data := .fields more } := fun b hb => by
      obtain ⟨more, z⟩ := un.tbls b #[] (t.tab b hb).1
      exact ⟨_, hok' b _ z⟩
    have others : ∀ b o, b ∉ cs.map (·.2) → s.heap.get? b = some o → s'.heap.get? b = some o := fun b o nb e => by
      cases q : H b with
      | none => exact un.keep b o e q (nof b) (fun z => nomatch z)
      | some u =>
        rcases t.only b u q with ⟨hb, _⟩ | ⟨vs, xs, e2, hu, _⟩
        · exact absurd hb nb
        · rw [hu] at q
          have z := (hok' b _ (un.frzs b _ _ q)).1
          rw [Option.some.inj (e.symm.trans e2)]
          exact z
    refine ⟨rfl, ⟨fun b o e => ?_, fun b o e => ?_⟩, os, bare⟩
    · by_cases hb : b ∈ cs.map (·.2)
      · obtain ⟨more, hm⟩ := tabs b hb
        obtain ⟨p, hp, rfl⟩ := List.mem_map.mp hb
        have eT := (t.tab p.2 hb).2.1
        rw [Option.some.inj (e.symm.trans eT)]
        exact .inr (.inl ⟨((C p hp).tab eT).isCodeTable, rfl, #[], more, rfl, by rw [Array.empty_append]; exact hm⟩)
      · exact .inl (others b o hb e)
    · by_cases hb : b ∈ cs.map (·.2)
      · obtain ⟨more, hm⟩ := tabs b hb
        exact ⟨_, hm⟩
      · exact ⟨o, others b o hb e⟩
end
/-- the tracked heap at the call -/
def H0 (ts : List Addr) (a : Addr) (vs : List Value) (ns : List Int) (kn : Bool) : Hp := fun b => if b ∈ ts then some (.tbl #[]) else if b = a ∧ kn = false then some (.frz { cls := .type "list", data := .seq vs.toArray } (.lst (vi ns))) else none
theorem end_call {P : Program} {w : World} {K : PySem.W.Frag} {mg mb : Str → Option Value} {s : Shared} {k : Nat} {fa a : Addr} {cs : List (Addr × Addr)} {x : Str} {sp : Sp} {vs : List Value} {ns : List Int} (KX : K.In s.heap) (hns : s.heap.Ns mainGlobals mg) (hb : s.heap.Ns builtinsNs mb)
    (hbb : ∀ x : Str, x ≠ "__name__" → mb x = bootBuiltins x) (hlim : s.heap.NoLimit) (hg : s.gens = #[]) (C : ∀ p ∈ cs, PySem.W.CodeHd s.heap p.1 p.2) (hT : ∀ p ∈ cs, s.heap.get? p.2 = some tabObj0) (nT : ∀ p ∈ cs, K.lookup p.2 = none) (hr : Room k callerA)
    (hbm : ∃ (bm : Addr) (ob : Obj), mg "__builtins__" = some (.ref bm) ∧ bm ≠ builtinsNs ∧ s.heap.get? bm = some ob ∧ ob.cls = .type "module" ∧ ob.dict = some builtinsNs ∧ ob.data = .plain) (ha : s.heap.get? a = some { cls := .type "list", data := .seq vs.toArray }) (hi : IntsAre vs ns) (hl : ns.length ≤ sizeLine)
    (F : ∀ base : Heap, K.In base → base.Ns mainGlobals mg → (∀ p ∈ cs, TabB base mg p.1 p.2) → ClG P w K mg base k x sp) (hm : mg x = some (.ref fa))
    (hsp : ∀ H : Hp, (∀ p ∈ cs, H p.2 = some (.tbl #[])) → Scr K H a ns → sp [.ref a] H (fun v _ => v = .bl true) fun _ _ _ => False) :
    codeAny (model P w) callerA (.call (.ref fa) ⟨[.ref a], []⟩) (fun r s' => r = .ok (.ret (.bool true)) ∧ OldK s.heap s'.heap ∧ s'.os = s.os ∧ AllBare s'.gens) s := by
  have rv := vals_ints hi
  have lv := hi.length
  have at_ : ∀ b ∈ cs.map (·.2), s.heap.get? b = some tabObj0 ∧ K.lookup b = none := fun b hb => by
    obtain ⟨p, hp, rfl⟩ := List.mem_map.mp hb
    exact ⟨hT p hp, nT p hp⟩
  have na : a ∉ cs.map (·.2) := fun z => by
    have q := congrArg Obj.cls (Option.some.inj (ha.symm.trans (at_ a z).1))
    cases q
  have hk : ∀ o, K.lookup a = some o → o = { cls := .type "list", data := .seq vs.toArray } := fun o e => Option.some.inj ((KX a o e).symm.trans ha)
  refine end_run (H := H0 (cs.map fun p : Addr × Addr => p.2) a vs ns (K.lookup a).isSome) ⟨fun b u q => ?_, fun b hb => ⟨if_pos hb, (at_ b hb).1, (at_ b hb).2⟩⟩ KX hns hb hbb hlim hg C (fun b u q => ?_) hr hbm F hm (hsp _ (fun p hp => if_pos (List.mem_map.mpr ⟨p, hp, rfl⟩)) ?_)
  · unfold H0 at q
    by_cases hb : b ∈ cs.map (·.2)
    · rw [if_pos hb] at q
      exact .inl ⟨hb, (Option.some.inj q).symm⟩
    · rw [if_neg hb] at q
      by_cases c : b = a ∧ (K.lookup a).isSome = false
      · rw [if_pos c] at q
        rw [c.1]
        exact .inr ⟨_, _, ha, (Option.some.inj q).symm, by simpa using c.2⟩
      · rw [if_neg c] at q
        cases q
  · unfold H0 at q
    by_cases hb : b ∈ cs.map (·.2)
    · rw [if_pos hb] at q
      rw [← Option.some.inj q]
      exact (at_ b hb).1
    · rw [if_neg hb] at q
      by_cases c : b = a ∧ (K.lookup a).isSome = false
      · rw [if_pos c] at q
        rw [← Option.some.inj q, c.1]
        exact ⟨ha, by rw [vi_len]; exact hl, vs, _, rv, ha⟩
      · rw [if_neg c] at q
        cases q
  · cases q : K.lookup a with
    | none => exact .inl ⟨_, by unfold H0; rw [if_neg na, if_pos ⟨rfl, by rfl⟩]⟩
    | some o =>
      have e := hk o q
      exact .inr ⟨o, vs.toArray, _, q, by rw [e], by rw [e], by rw [e], by rw [List.size_toArray, lv]; exact hl, by simpa using rv⟩
end PB

/-! ## HD -/
set_option Elab.async false
set_option linter.all false
set_option maxRecDepth 100000
set_option maxHeartbeats 0
namespace PB
open PySem PySem.Spec PyProof.Rows L2 LamX
section
variable {K : PySem.W.Frag} {h : Heap} {mg : Str → Option Value}
theorem at_of (X : K.In h) (G : h.Ns mainGlobals mg) (c : He.SaysD fas fns K) (i j : Nat) {x : Str} {d : He.DefD} (hd : fns[i]? = some d) (hx : d.at_ = (x, none)) (hv : d.dfl = [] ∧ d.kwd = []) (hj : fas[j]? = some (.glo x)) : At K mg x d := by
  obtain ⟨fd, F⟩ := c.def_ i hd
  refine ⟨_, fd, He.glo_ok X G (c.fact j hj), ?_⟩
  rw [show d.dvs K = [] from by unfold He.DefD.dvs; rw [hv.1]; rfl, show d.kws K = [] from by unfold He.DefD.kws; rw [hv.2]; rfl, show He.fAd K d.at_ = He.ga K x from by rw [hx]; rfl] at F
  exact F
theorem atM_of (c : He.SaysD fas fns K) (i j : Nat) {m : Str} {d : He.DefD} (hd : fns[i]? = some d) (hx : d.at_ = (("Points" : Str), some m)) (hv : d.dfl = [] ∧ d.kwd = []) (hj : fas[j]? = some (.meth "Points" m)) : AtM K (He.ga K "Points") m d := by
  obtain ⟨fd, F⟩ := c.def_ i hd
  refine ⟨_, fd, He.meth_ok (c.fact j hj), ?_⟩
  rw [show d.dvs K = [] from by unfold He.DefD.dvs; rw [hv.1]; rfl, show d.kws K = [] from by unfold He.DefD.kws; rw [hv.2]; rfl, show He.fAd K d.at_ = He.ma K (He.ga K "Points") m from by rw [hx]; rfl] at F
  exact F
theorem atC_of (X : K.In h) (G : h.Ns mainGlobals mg) (c : He.SaysD fas fns K) (i j : Nat) {x : Str} {d : He.DefD} (hd : fns[i]? = some d) (hx : d.at_ = (x, none)) (hv : d.dfl = [] ∧ d.kwd = []) (hj : fas[j]? = some (.glo x)) : AtC K mg x d (He.codeOf K (x, none)) := by
  obtain ⟨fd, F⟩ := c.def_ i hd
  rw [show d.dvs K = [] from by unfold He.DefD.dvs; rw [hv.1]; rfl, show d.kws K = [] from by unfold He.DefD.kws; rw [hv.2]; rfl, show He.fAd K d.at_ = He.fAd K (x, none) from by rw [hx]] at F
  refine ⟨_, fd, He.glo_ok X G (c.fact j hj), F, ?_⟩
  obtain ⟨oc, od, dV, kV, doc, pm, an, cdv, ct, osl, rfl, lk, hcd, _, _⟩ := F.ex
  obtain ⟨cc, rfl⟩ := He.codeIn_ref hcd
  rw [He.codeOf_eq lk rfl]
theorem intG (X : K.In h) (G : h.Ns mainGlobals mg) (c : He.SaysD fas fns K) (j : Nat) {x : Str} {i : Int} (hj : fas[j]? = some (.int x i)) : ∃ u, mg x = some u ∧ RelV (.int i) u := by
  obtain ⟨t, e⟩ := He.int_ok X G (c.fact j hj)
  exact ⟨_, e, t, rfl⟩
theorem tx_of (X : K.In h) (G : h.Ns mainGlobals mg) (c : He.SaysD fas fns K) : TX K mg where
  b_len := He.free_ok X G (c.fact 0 (f := .free "len") rfl)
  b_isinstance := He.free_ok X G (c.fact 1 (f := .free "isinstance") rfl)
  b_abs := He.free_ok X G (c.fact 2 (f := .free "abs") rfl)
  b_all := He.free_ok X G (c.fact 3 (f := .free "all") rfl)
  b_any := He.free_ok X G (c.fact 4 (f := .free "any") rfl)
  b_sum := He.free_ok X G (c.fact 5 (f := .free "sum") rfl)
  b_min := He.free_ok X G (c.fact 6 (f := .free "min") rfl)
  b_max := He.free_ok X G (c.fact 7 (f := .free "max") rfl)
  b_repr := He.free_ok X G (c.fact 8 (f := .free "repr") rfl)
  b_int := He.free_ok X G (c.fact 9 (f := .free "int") rfl)
  b_bool := He.free_ok X G (c.fact 10 (f := .free "bool") rfl)
  b_str := He.free_ok X G (c.fact 11 (f := .free "str") rfl)
  b_list := He.free_ok X G (c.fact 12 (f := .free "list") rfl)
  b_tuple := He.free_ok X G (c.fact 13 (f := .free "tuple") rfl)
  b_dict := He.free_ok X G (c.fact 14 (f := .free "dict") rfl)
  b_zip := He.free_ok X G (c.fact 15 (f := .free "zip") rfl)
  b_enumerate := He.free_ok X G (c.fact 16 (f := .free "enumerate") rfl)
  b_range := He.free_ok X G (c.fact 17 (f := .free "range") rfl)
  g_LONGEST_NAME := intG X G c 18 rfl
  g_LEAST_DIMS_planes := intG X G c 19 rfl
  g_MOST_DIMS_planes := intG X G c 20 rfl
  g_LEAST_DIMS_points := intG X G c 21 rfl
  g_MOST_DIMS_points := intG X G c 22 rfl
  g_FARTHEST := intG X G c 23 rfl
  g_MOST_POINTS := intG X G c 24 rfl
  g_MOST_HEAPS := intG X G c 25 rfl
  g_FAR := intG X G c 26 rfl
  g_MOST_TIMES := intG X G c 27 rfl
  g_MOST_OF_SQUARE := intG X G c 28 rfl
  g_LETTERS := by
    obtain ⟨t, e⟩ := He.str_ok X G (c.fact 29 (f := .str "LETTERS" "abcdefghijklmnopqrstuvwxyz") rfl)
    exact ⟨_, e, t, rfl⟩
theorem px_of (c : He.SaysD fas fns K) : PX K (He.ga K "Points") := ⟨He.cls_ok (c.fact 100 (f := .cls "Points") rfl), He.noat_ok (c.fact 101 (f := .noat "Points" "wide") rfl), He.noat_ok (c.fact 102 (f := .noat "Points" "kept") rfl)⟩
theorem xx_of (X : K.In h) (G : h.Ns mainGlobals mg) (c : He.SaysD fas fns K) (x : excB K = true) : XX K mg (He.ga K "PlaneError") (He.ga K "NoPlace") := by
  unfold excB at x
  simp only [Bool.and_eq_true, decide_eq_true_eq] at x
  obtain ⟨x1, x2, x3, x4, x5, x6, x7, x8, x9, x10, x11, x12⟩ := x
  refine ⟨He.glo_ok X G (c.fact 98 (f := .glo "PlaneError") rfl), x1, x2, x3, ?_, He.glo_ok X G (c.fact 99 (f := .glo "NoPlace") rfl), ⟨oexB_ok x5, x6, x7, x8, x9⟩, x10, ?_, He.exm_ok (c.fact 113 (f := .exm "NoPlace" "NoPlace" true) rfl)⟩
  · revert x4
    cases q : PySem.W.findCls K (.ref (He.ga K "PlaneError")) (.type "type") "__init__" with
    | none => intro z; cases z
    | some r =>
      cases r with
      | val v =>
        cases v with
        | builtin n => intro z; rw [of_decide_eq_true z]
        | _ => intro z; cases z
      | _ => intro z; cases z
  · obtain ⟨fd, F⟩ := c.def_ 77 (d := d_NoPlace___init__) rfl
    exact ⟨_, fd, x11, x12, F⟩
abbrev TBs (K : PySem.W.Frag) : List (Addr × Str) := [((He.cT K ("moved_points", none)).2, "moved_points.<locals>.<lambda>"), ((He.cT K ("longer_points", none)).2, "longer_points.<locals>.<lambda>"), ((He.cT K ("turned_points", none)).2, "turned_points.<locals>.<lambda>")]
theorem chain {P : Program} {w : World} {base : Heap} (X : K.In h) (G : h.Ns mainGlobals mg) (c : SaysP h K) (hT : ∀ p ∈ tfs, TabB base mg (He.cT K p).1 (He.cT K p).2) :
    ClG P w K mg base 9 "law" (sp_law K (He.ga K "Points") (He.ga K "NoPlace") (TBs K)) := by
  have T := tx_of X G c.d
  have cP := px_of c.d
  have xx := xx_of X G c.d c.x
  obtain ⟨u1, u2, u3⟩ : (He.cT K ("moved_points", none)).2 ≠ (He.cT K ("longer_points", none)).2 ∧ (He.cT K ("moved_points", none)).2 ≠ (He.cT K ("turned_points", none)).2 ∧ (He.cT K ("longer_points", none)).2 ≠ (He.cT K ("turned_points", none)).2 := by
    have := c.u
    unfold tabD at this
    simpa only [Bool.and_eq_true, decide_eq_true_eq] using this
  have c_is_whole := g_is_whole (P := P) (w := w) (base := base) T (at_of X G c.d 0 30 (d := d_is_whole) rfl rfl ⟨rfl, rfl⟩ rfl)
  have c_are_signs := g_are_signs (P := P) (w := w) (base := base) T (at_of X G c.d 1 31 (d := d_are_signs) rfl rfl ⟨rfl, rfl⟩ rfl)
  have c_is_name := g_is_name (P := P) (w := w) (base := base) T (at_of X G c.d 2 32 (d := d_is_name) rfl rfl ⟨rfl, rfl⟩ rfl) c_are_signs
  have c_need_heaps := g_need_heaps (P := P) (w := w) (base := base) T (at_of X G c.d 3 33 (d := d_need_heaps) rfl rfl ⟨rfl, rfl⟩ rfl) c_is_name
  have c_need_unlike := g_need_unlike (P := P) (w := w) (base := base) T (at_of X G c.d 4 34 (d := d_need_unlike) rfl rfl ⟨rfl, rfl⟩ rfl)
  have c_dot_of := g_dot_of (P := P) (w := w) (base := base) T (at_of X G c.d 7 37 (d := d_dot_of) rfl rfl ⟨rfl, rfl⟩ rfl)
  have c_common_of_ratios := g_common_of_ratios (P := P) (w := w) (base := base) T (at_of X G c.d 8 38 (d := d_common_of_ratios) rfl rfl ⟨rfl, rfl⟩ rfl)
  have c_is_number_ratios := g_is_number_ratios (P := P) (w := w) (base := base) T (at_of X G c.d 9 39 (d := d_is_number_ratios) rfl rfl ⟨rfl, rfl⟩ rfl)
  have c_lowest_of := g_lowest_of (P := P) (w := w) (base := base) T (at_of X G c.d 10 40 (d := d_lowest_of) rfl rfl ⟨rfl, rfl⟩ rfl) c_common_of_ratios
  have c_ratio_of := g_ratio_of (P := P) (w := w) (base := base) T (at_of X G c.d 11 41 (d := d_ratio_of) rfl rfl ⟨rfl, rfl⟩ rfl) c_is_number_ratios c_lowest_of
  have c_is_number_planes := g_is_number_planes (P := P) (w := w) (base := base) T (at_of X G c.d 12 42 (d := d_is_number_planes) rfl rfl ⟨rfl, rfl⟩ rfl)
  have c_common_of_planes := g_common_of_planes (P := P) (w := w) (base := base) T (at_of X G c.d 13 43 (d := d_common_of_planes) rfl rfl ⟨rfl, rfl⟩ rfl)
  have c_are_numbers := g_are_numbers (P := P) (w := w) (base := base) T (at_of X G c.d 14 44 (d := d_are_numbers) rfl rfl ⟨rfl, rfl⟩ rfl) c_is_number_planes
  have c_is_plane := g_is_plane (P := P) (w := w) (base := base) T (at_of X G c.d 15 45 (d := d_is_plane) rfl rfl ⟨rfl, rfl⟩ rfl) c_are_numbers c_is_number_planes
  have c_dims_of := g_dims_of (P := P) (w := w) (base := base) T (at_of X G c.d 16 46 (d := d_dims_of) rfl rfl ⟨rfl, rfl⟩ rfl) c_is_plane
  have c_value_by := g_value_by (P := P) (w := w) (base := base) T (at_of X G c.d 17 47 (d := d_value_by) rfl rfl ⟨rfl, rfl⟩ rfl) c_dot_of
  have c_tidy_plane := g_tidy_plane (P := P) (w := w) (base := base) T (at_of X G c.d 18 48 (d := d_tidy_plane) rfl rfl ⟨rfl, rfl⟩ rfl) c_common_of_planes c_dims_of
  have c_value_at := g_value_at (P := P) (w := w) (base := base) T (at_of X G c.d 19 49 (d := d_value_at) rfl rfl ⟨rfl, rfl⟩ rfl) c_are_numbers c_dims_of c_value_by
  have c_side_at := g_side_at (P := P) (w := w) (base := base) T (at_of X G c.d 20 50 (d := d_side_at) rfl rfl ⟨rfl, rfl⟩ rfl) c_value_at
  have c_is_row_points := g_is_row_points (P := P) (w := w) (base := base) T (at_of X G c.d 24 54 (d := d_is_row_points) rfl rfl ⟨rfl, rfl⟩ rfl) c_is_whole
  have c_unlike_ones := g_unlike_ones (P := P) (w := w) (base := base) T (at_of X G c.d 25 55 (d := d_unlike_ones) rfl rfl ⟨rfl, rfl⟩ rfl)
  have m_dims := g_Points_dims (P := P) (w := w) (base := base) T cP (atM_of c.d 70 106 (d := d_Points_dims) rfl rfl ⟨rfl, rfl⟩ rfl)
  have m_names := g_Points_names (P := P) (w := w) (base := base) T cP (atM_of c.d 71 107 (d := d_Points_names) rfl rfl ⟨rfl, rfl⟩ rfl)
  have m_need_point := g_Points_need_point (P := P) (w := w) (base := base) T cP (atM_of c.d 67 103 (d := d_Points_need_point) rfl rfl ⟨rfl, rfl⟩ rfl)
  have m_need_few := g_Points_need_few (P := P) (w := w) (base := base) T cP (atM_of c.d 68 104 (d := d_Points_need_few) rfl rfl ⟨rfl, rfl⟩ rfl) c_unlike_ones
  have m_heaps := g_Points_heaps (P := P) (w := w) (base := base) T cP (atM_of c.d 72 108 (d := d_Points_heaps) rfl rfl ⟨rfl, rfl⟩ rfl) c_unlike_ones
  have m_members := g_Points_members (P := P) (w := w) (base := base) T cP (atM_of c.d 73 109 (d := d_Points_members) rfl rfl ⟨rfl, rfl⟩ rfl) c_is_name
  have m_place := g_Points_place (P := P) (w := w) (base := base) T cP (atM_of c.d 74 110 (d := d_Points_place) rfl rfl ⟨rfl, rfl⟩ rfl) m_need_point
  have m_heap := g_Points_heap (P := P) (w := w) (base := base) T cP (atM_of c.d 75 111 (d := d_Points_heap) rfl rfl ⟨rfl, rfl⟩ rfl) m_need_point
  have m_put := g_Points_put (P := P) (w := w) (base := base) T cP (atM_of c.d 69 105 (d := d_Points_put) rfl rfl ⟨rfl, rfl⟩ rfl) c_is_name c_is_row_points m_heaps m_need_few
  have c_Points := mak_points (P := P) (w := w) (base := base) T cP (by
    obtain ⟨fd, F⟩ := c.d.def_ 76 (d := d_Points___init__) rfl
    exact ⟨_, fd, He.mkr_ok (c.d.fact 112 (f := .mkr "Points") rfl), F⟩) (He.glo_ok X G (c.d.fact 97 (f := .glo "Points") rfl)) c_is_whole
  have c_NP := np_ok (P := P) (w := w) (base := base) xx
  have mX_put := gX_Points_put (P := P) (w := w) (base := base) T cP (atM_of c.d 69 105 (d := d_Points_put) rfl rfl ⟨rfl, rfl⟩ rfl) c_is_name c_is_row_points m_heaps m_need_few c_NP
  have c_need_points := g_need_points (P := P) (w := w) (base := base) T cP (at_of X G c.d 5 35 (d := d_need_points) rfl rfl ⟨rfl, rfl⟩ rfl) m_members
  have c_both_members := g_both_members (P := P) (w := w) (base := base) T cP (at_of X G c.d 6 36 (d := d_both_members) rfl rfl ⟨rfl, rfl⟩ rfl) m_heap m_names
  have c_walked_values := g_walked_values (P := P) (w := w) (base := base) T cP (at_of X G c.d 21 51 (d := d_walked_values) rfl rfl ⟨rfl, rfl⟩ rfl) c_both_members c_is_plane c_need_heaps c_need_unlike c_value_by m_dims m_place
  have c_does_part := g_does_part (P := P) (w := w) (base := base) T cP (at_of X G c.d 22 52 (d := d_does_part) rfl rfl ⟨rfl, rfl⟩ rfl) c_walked_values m_heap
  have c_gap_by := g_gap_by (P := P) (w := w) (base := base) T cP (at_of X G c.d 23 53 (d := d_gap_by) rfl rfl ⟨rfl, rfl⟩ rfl) c_does_part c_dot_of c_need_points c_ratio_of c_walked_values m_heap
  have c_is_row_placings := g_is_row_placings (P := P) (w := w) (base := base) T (at_of X G c.d 26 56 (d := d_is_row_placings) rfl rfl ⟨rfl, rfl⟩ rfl) c_is_whole
  have c_need_shift := g_need_shift (P := P) (w := w) (base := base) T (at_of X G c.d 27 57 (d := d_need_shift) rfl rfl ⟨rfl, rfl⟩ rfl) c_is_row_placings
  have c_need_times := g_need_times (P := P) (w := w) (base := base) T (at_of X G c.d 28 58 (d := d_need_times) rfl rfl ⟨rfl, rfl⟩ rfl) c_is_whole
  have c_length_of := g_length_of (P := P) (w := w) (base := base) T (at_of X G c.d 30 60 (d := d_length_of) rfl rfl ⟨rfl, rfl⟩ rfl) c_dot_of
  have c_is_square := g_is_square (P := P) (w := w) (base := base) T (at_of X G c.d 29 59 (d := d_is_square) rfl rfl ⟨rfl, rfl⟩ rfl) c_dot_of c_is_row_placings c_length_of
  have c_need_square := g_need_square (P := P) (w := w) (base := base) T (at_of X G c.d 31 61 (d := d_need_square) rfl rfl ⟨rfl, rfl⟩ rfl) c_is_square
  have c_added := g_added (P := P) (w := w) (base := base) T (at_of X G c.d 32 62 (d := d_added) rfl rfl ⟨rfl, rfl⟩ rfl)
  have c_times_row := g_times_row (P := P) (w := w) (base := base) T (at_of X G c.d 33 63 (d := d_times_row) rfl rfl ⟨rfl, rfl⟩ rfl)
  have c_by_rows := g_by_rows (P := P) (w := w) (base := base) T (at_of X G c.d 34 64 (d := d_by_rows) rfl rfl ⟨rfl, rfl⟩ rfl) c_dot_of
  have c_moved_plane := g_moved_plane (P := P) (w := w) (base := base) T (at_of X G c.d 39 69 (d := d_moved_plane) rfl rfl ⟨rfl, rfl⟩ rfl) c_dims_of c_dot_of c_need_shift c_tidy_plane
  have c_longer_plane := g_longer_plane (P := P) (w := w) (base := base) T (at_of X G c.d 40 70 (d := d_longer_plane) rfl rfl ⟨rfl, rfl⟩ rfl) c_dims_of c_need_times c_tidy_plane
  have c_turned_plane := g_turned_plane (P := P) (w := w) (base := base) T (at_of X G c.d 41 71 (d := d_turned_plane) rfl rfl ⟨rfl, rfl⟩ rfl) c_by_rows c_dims_of c_length_of c_need_square c_tidy_plane
  have c_moved_points := gX_moved_points (P := P) (w := w) (base := base) (NP := He.ga K "NoPlace") (TB := TBs K) T cP (atC_of X G c.d 36 66 (d := d_moved_points) rfl rfl ⟨rfl, rfl⟩ rfl) (at_of X G c.d 35 65 (d := d_placed) rfl rfl ⟨rfl, rfl⟩ rfl) c_added c_need_shift c_Points m_dims m_heap m_names m_place mX_put (hT ("moved_points", none) (by simp [tfs])) (by simp [TBs]) (by
    intro p hp e
    simp only [TBs, List.mem_cons, List.not_mem_nil, or_false] at hp
    rcases hp with rfl | rfl | rfl
    · rfl
    · exact absurd e.symm u1
    · exact absurd e.symm u2)
  have c_longer_points := gX_longer_points (P := P) (w := w) (base := base) (NP := He.ga K "NoPlace") (TB := TBs K) T cP (atC_of X G c.d 37 67 (d := d_longer_points) rfl rfl ⟨rfl, rfl⟩ rfl) (at_of X G c.d 35 65 (d := d_placed) rfl rfl ⟨rfl, rfl⟩ rfl) c_need_times c_times_row c_Points m_dims m_heap m_names m_place mX_put (hT ("longer_points", none) (by simp [tfs])) (by simp [TBs]) (by
    intro p hp e
    simp only [TBs, List.mem_cons, List.not_mem_nil, or_false] at hp
    rcases hp with rfl | rfl | rfl
    · exact absurd e u1
    · rfl
    · exact absurd e.symm u3)
  have c_turned_points := gX_turned_points (P := P) (w := w) (base := base) (NP := He.ga K "NoPlace") (TB := TBs K) T cP (atC_of X G c.d 38 68 (d := d_turned_points) rfl rfl ⟨rfl, rfl⟩ rfl) (at_of X G c.d 35 65 (d := d_placed) rfl rfl ⟨rfl, rfl⟩ rfl) c_by_rows c_need_square c_Points m_dims m_heap m_names m_place mX_put (hT ("turned_points", none) (by simp [tfs])) (by simp [TBs]) (by
    intro p hp e
    simp only [TBs, List.mem_cons, List.not_mem_nil, or_false] at hp
    rcases hp with rfl | rfl | rfl
    · exact absurd e u2
    · exact absurd e u3
    · rfl)
  have c_law_points_told := g_law_points_told (P := P) (w := w) (base := base) xx (at_of X G c.d 62 92 (d := d_law_points_told) rfl rfl ⟨rfl, rfl⟩ rfl) c_moved_points c_longer_points c_turned_points
  have c_law_cell := g_law_cell (P := P) (w := w) (base := base) T (at_of X G c.d 42 72 (d := d_law_cell) rfl rfl ⟨rfl, rfl⟩ rfl)
  have c_law_box := g_law_box (P := P) (w := w) (base := base) T (at_of X G c.d 43 73 (d := d_law_box) rfl rfl ⟨rfl, rfl⟩ rfl)
  have c_law_take := g_law_take (P := P) (w := w) (base := base) T (at_of X G c.d 44 74 (d := d_law_take) rfl rfl ⟨rfl, rfl⟩ rfl)
  have c_law_names := g_law_names (P := P) (w := w) (base := base) T (at_of X G c.d 45 75 (d := d_law_names) rfl rfl ⟨rfl, rfl⟩ rfl) c_law_take
  have c_law_world := g_law_world (P := P) (w := w) (base := base) T (at_of X G c.d 46 76 (d := d_law_world) rfl rfl ⟨rfl, rfl⟩ rfl) c_law_names c_law_take
  have c_law_points := g_law_points (P := P) (w := w) (base := base) T cP (at_of X G c.d 47 77 (d := d_law_points) rfl rfl ⟨rfl, rfl⟩ rfl) c_Points m_put
  have c_law_base := g_law_base (P := P) (w := w) (base := base) T (at_of X G c.d 48 78 (d := d_law_base) rfl rfl ⟨rfl, rfl⟩ rfl) c_law_take
  have c_law_turned := g_law_turned (P := P) (w := w) (base := base) T (at_of X G c.d 49 79 (d := d_law_turned) rfl rfl ⟨rfl, rfl⟩ rfl) c_law_take
  have c_law_square := g_law_square (P := P) (w := w) (base := base) T (at_of X G c.d 50 80 (d := d_law_square) rfl rfl ⟨rfl, rfl⟩ rfl) c_law_base c_law_take c_law_turned
  have c_law_dot := g_law_dot (P := P) (w := w) (base := base) T (at_of X G c.d 51 81 (d := d_law_dot) rfl rfl ⟨rfl, rfl⟩ rfl)
  have c_law_deed := g_law_deed (P := P) (w := w) (base := base) T (at_of X G c.d 52 82 (d := d_law_deed) rfl rfl ⟨rfl, rfl⟩ rfl) c_law_square c_law_take
  have c_law_placed := g_law_placed (P := P) (w := w) (base := base) T (at_of X G c.d 53 83 (d := d_law_placed) rfl rfl ⟨rfl, rfl⟩ rfl) c_law_dot
  have c_law_value := g_law_value (P := P) (w := w) (base := base) T (at_of X G c.d 54 84 (d := d_law_value) rfl rfl ⟨rfl, rfl⟩ rfl)
  have c_law_signed := g_law_signed (P := P) (w := w) (base := base) T (at_of X G c.d 55 85 (d := d_law_signed) rfl rfl ⟨rfl, rfl⟩ rfl) c_law_take
  have c_law_plane := g_law_plane (P := P) (w := w) (base := base) T (at_of X G c.d 56 86 (d := d_law_plane) rfl rfl ⟨rfl, rfl⟩ rfl) c_law_signed c_law_take c_law_value
  have c_law_sided := g_law_sided (P := P) (w := w) (base := base) T (at_of X G c.d 57 87 (d := d_law_sided) rfl rfl ⟨rfl, rfl⟩ rfl) c_law_take c_law_value
  have c_law_common := g_law_common (P := P) (w := w) (base := base) T (at_of X G c.d 58 88 (d := d_law_common) rfl rfl ⟨rfl, rfl⟩ rfl)
  have c_law_tidy := g_law_tidy (P := P) (w := w) (base := base) T (at_of X G c.d 59 89 (d := d_law_tidy) rfl rfl ⟨rfl, rfl⟩ rfl) c_law_common
  have c_law_gone := g_law_gone (P := P) (w := w) (base := base) T (at_of X G c.d 60 90 (d := d_law_gone) rfl rfl ⟨rfl, rfl⟩ rfl) c_law_dot c_law_tidy
  have c_law_plane_told := g_law_plane_told (P := P) (w := w) (base := base) T (at_of X G c.d 61 91 (d := d_law_plane_told) rfl rfl ⟨rfl, rfl⟩ rfl) c_longer_plane c_moved_plane c_turned_plane
  have c_law_width := g_law_width (P := P) (w := w) (base := base) T cP (at_of X G c.d 63 93 (d := d_law_width) rfl rfl ⟨rfl, rfl⟩ rfl) c_gap_by m_members
  have c_law_times := g_law_times (P := P) (w := w) (base := base) T (at_of X G c.d 64 94 (d := d_law_times) rfl rfl ⟨rfl, rfl⟩ rfl) c_law_common
  have c_law_right := g_law_right (P := P) (w := w) (base := base) T cP (at_of X G c.d 65 95 (d := d_law_right) rfl rfl ⟨rfl, rfl⟩ rfl) c_law_gone c_law_placed c_law_plane_told c_law_points_told c_law_times c_law_width c_does_part c_side_at m_names m_place
  have c_law := g_law (P := P) (w := w) (base := base) T cP (at_of X G c.d 66 96 (d := d_law) rfl rfl ⟨rfl, rfl⟩ rfl) c_law_box c_law_cell c_law_deed c_law_plane c_law_points c_law_right c_law_sided c_law_take c_law_world
  exact c_law
end
end PB

/-! ## FIN -/
set_option Elab.async false
set_option linter.all false
set_option maxRecDepth 100000
set_option maxHeartbeats 0
namespace PB
open PySem PySem.Spec PyProof.Rows L2 LamX
theorem walk_end {q : Program} {loose : List Str} {XP : (Str → Option Value) → Heap → Prop} {d : DefRec}
    (hdf : d.params.defaults = []) (hnm : d.name = ("law" : Str)) :
    PySem.W.WalkO q loose XP (fun _ h => ∃ K : PySem.W.Frag, K.In h ∧ SaysP h K) R.toRowW d [] (fun f vs => PySem.call f vs) := by
  refine Att.attach_callB (l := PySem.Challenge.rw_planebetween_k28_whole_planes_go_along) (n := 63) rfl hdf fun w s₀ s₁ mg mb fa o pm cd doc a vs ns G Y ho hd hcd hmg hobj hints hlen hbits hg => ?_
  obtain ⟨K, KX, c⟩ := Y
  rw [hnm] at hmg
  have C : ∀ p ∈ tfs.map (He.cT K), PySem.W.CodeHd s₁.heap p.1 p.2 := fun p hp => by
    obtain ⟨t, ht, rfl⟩ := List.mem_map.mp hp
    exact PySem.W.codeHd_of_K KX (c.hd t ht)
  have hT : ∀ p ∈ tfs.map (He.cT K), s₁.heap.get? p.2 = some tabObj0 := fun p hp => by
    obtain ⟨t, ht, rfl⟩ := List.mem_map.mp hp
    exact c.empty t ht
  have nT : ∀ p ∈ tfs.map (He.cT K), K.lookup p.2 = none := fun p hp => by
    obtain ⟨t, ht, rfl⟩ := List.mem_map.mp hp
    exact c.out t ht
  refine end_call (k := 9) (x := "law") (sp := sp_law K (He.ga K "Points") (He.ga K "NoPlace") (TBs K)) KX G.T.g G.T.b G.T.builtins G.T.nolimit hg C hT nT ⟨rfl, by decide, by decide⟩ G.T.bmain hobj hints (Nat.le_trans hlen (by decide))
    (fun base kb nb TB => ?_) hmg fun H hH hS => ?_
  · exact chain KX G.T.g c fun t ht => TB _ (List.mem_map.mpr ⟨t, ht, rfl⟩)
  · refine ⟨a, ns, rfl, ⟨hS, fun p hp => ?_⟩, Nat.lt_of_le_of_lt hlen (by decide), fun H' => rfl⟩
    simp only [TBs, List.mem_cons, List.not_mem_nil, or_false] at hp
    rcases hp with rfl | rfl | rfl
    · exact TabS.nil (hH _ (List.mem_map.mpr ⟨("moved_points", none), by simp [tfs], rfl⟩))
    · exact TabS.nil (hH _ (List.mem_map.mpr ⟨("longer_points", none), by simp [tfs], rfl⟩))
    · exact TabS.nil (hH _ (List.mem_map.mpr ⟨("turned_points", none), by simp [tfs], rfl⟩))
end PB
open PySem PySem.W PySem.Calls PyProof.Rows
theorem PySem.Challenge.cw_planebetween_k28_whole_planes_go_along_holds : PySem.Challenge.rw_planebetween_k28_whole_planes_go_along.Holds := by
  w_on; o_law
  refine HandSHeadRun.head_any (r := OpenLaw.row PySem.Challenge.rw_planebetween_k28_whole_planes_go_along) (q := view (OpenLaw.row PySem.Challenge.rw_planebetween_k28_whole_planes_go_along).prog [109]) (H := PB.hookP) (ob := PB.ob) (M := 20000) (loose := PB.names) (d := HandSHeadRun.topDef (OpenLaw.row PySem.Challenge.rw_planebetween_k28_whole_planes_go_along).prog 109) (kwd := []) PB.ob_eq
    (by kernel_rfl) (fun s => by kernel_rfl) PB.run (by kernel_rfl) (by kernel_rfl) (by kernel_rfl) (by rfl) (by first | assumption | decide +kernel) (by decide +kernel) ⟨rfl, rfl, rfl, rfl, rfl, by decide +kernel⟩ ?hw ?hc
  case hw => w_witness2
  case hc => exact PB.walk_end (by kernel_rfl) (by kernel_rfl)
