import PyProof.Rows.All
import Wide.All
import OpenK.AllK
import Wide.FinOn
import HandS.ForMost
import HandS.Walk
import HandS.More
import HandS.Conv
import HandS.Codes
import HandS.Style
import HandS.SortInts
import HandS.TupSets
import HandS.ListItems
import HandS.IsInst
import HandS.DictComp
import HandS.OwnEq
import HandS.Zip
import HandS.Defaults
import KE.GoesEnum
import KE.GoesZip
import KE.GoesMore
import HandS.HeadEnd
import PyProof.ReprRoads
import HandS.Head0
import HandS.Head1
import HandS.Head2
import HandS.HeadHook1
import HandS.HeadHook2
import KE.KStateDown
import PyProof.ReprBulk
import PySem.Challenge.RW_ruleshadows_k48_whole_shadows_and_fit_of
set_option Elab.async false
set_option linter.all false
set_option maxRecDepth 100000
set_option maxHeartbeats 4000000
/-! A0: rules of our own over the hand layer. -/
namespace RS
open PySem PySem.Spec PyProof.Rows L2
section
variable {X : Cx}
/-! ### a walked thing by either of two rules -/
def iOr (t u : TI) : TI := fun σ H R => t σ H R ∨ u σ H R
theorem pi_or {tg e : Expr} {t u : TI} (h1 : PI X tg e t) (h2 : PI X tg e u) : PI X tg e (iOr t u) :=
  ⟨fun pins s σ H R I h => h.elim (h1.run pins s σ H R I) (h2.run pins s σ H R I)⟩
/-! ### found *= letters -/
theorem ip_mul : PIp X .Mult (fun x y H Q => ∃ i j, x = .int i ∧ y = .int j ∧ (-(2 ^ 64) < i ∧ i < 2 ^ 64) ∧ Q (.int (i * j)) H) := by
  intro pins s σ H x y v u Q I r1 r2 h
  obtain ⟨i, j, e1, e2, ⟨q1, q2⟩, q⟩ := h
  subst e1; subst e2
  obtain ⟨t, rfl⟩ := r1
  obtain ⟨t', rfl⟩ := r2
  exact PyProof.Rows.imul_int ⟨.int _, H, I.tok _, ⟨_, rfl⟩, q⟩ (.of_left (intBits_le_64 q1 q2))
/-! ### xs != [] -/
def rNeNil (K : PySem.W.Frag) : R2 := fun x y H Q => ∃ a b xs, x = .ref a ∧ y = .ref b ∧ SqL K H a xs ∧ SqL K H b [] ∧ Q (.bl (!xs.isEmpty)) H
theorem op_neNil (hu : X.A.units < cLine) : OpR X (compareOp .NotEq) (rNeNil X.K) := by
  intro pins s σ H x y v u Q I rx ry h
  obtain ⟨a, b, xs, rfl, rfl, ha, hb, q⟩ := h
  obtain rfl : v = Value.ref a := rx
  obtain rfl : u = Value.ref b := ry
  obtain ⟨its, rv, hl, _⟩ := I.list ha
  obtain ⟨its2, rv2, hl2, _⟩ := I.list hb
  have l1 := rv.length
  have l2 := rv2.length
  cases xs with
  | nil =>
    have e1 : its = [] := List.length_eq_zero_iff.mp l1.symm
    have e2 : its2 = [] := List.length_eq_zero_iff.mp l2.symm
    subst e1 e2
    exact SeqAt.RcNeAt.lists (e := fun _ => true) hl.isList hl2.isList rfl hu (fun j h1 _ => by simp at h1) X.prog X.w X.xe _ ⟨.bl _, H, I, rfl, q⟩
  | cons z zs =>
    refine SeqAt.RcNeAt.lists_lengths hl.isList hl2.isList ?_ hu X.prog X.w X.xe _ ⟨.bl _, H, I, rfl, q⟩
    simp only [List.size_toArray, ← l1, ← l2, List.length_cons, List.length_nil]
    simp
/-! ### d != {} -/
def rNeNilD : R2 := fun x y H Q => ∃ a b ks, x = .ref a ∧ y = .ref b ∧ H a = some (.dK ks) ∧ H b = some (.dK []) ∧ Q (.bl (!ks.isEmpty)) H
theorem op_neNilD (hu : X.A.units < cLine) : OpR X (compareOp .NotEq) rNeNilD := by
  intro pins s σ H x y v u Q I rx ry h
  obtain ⟨a, b, ks, rfl, rfl, ea, eb, q⟩ := h
  obtain rfl : v = Value.ref a := rx
  obtain rfl : u = Value.ref b := ry
  obtain ⟨_, ya, va, ra, da⟩ := (show ObjOk X.prog X.w H s.heap a (.dK ks) from I.hok a _ ea)
  obtain ⟨_, yb, vb, rb, db⟩ := (show ObjOk X.prog X.w H s.heap b (.dK []) from I.hok b _ eb)
  have l1 := ra.length
  have l2 := rb.length
  have e2 : vb = [] := List.length_eq_zero_iff.mp l2.symm
  subst e2
  refine PySem.W.keq_ne (knd := mixKind X.prog X.w) (r := true) ya yb da db hu (fun hl => ?_) ⟨.bl _, H, I, ?_, q⟩
  · have e1 : va = [] := List.length_eq_zero_iff.mp hl
    subst e1
    exact .nil
  · cases ks with
    | nil =>
      have e1 : va = [] := List.length_eq_zero_iff.mp l1.symm
      subst e1
      rfl
    | cons z zs =>
      cases va with
      | nil => simp at l1
      | cons _ _ => rfl
end
/-! ### enumerate(tuple) -/
theorem meets_enumerate_newB1 {v : Value} {o : Obj} {H : Heap → Prop} (B : Begins v o H) :
    Meets (Builtin.«enumerate.__new__» ⟨[.type "enumerate", v], []⟩) (fun _ R s => H s.heap ∧
      R (.ok (.ret (.ref (s.heap.push o).objs.size))) { s with heap := (s.heap.push o).push { cls := .type "enumerate", data := .fields #[.none, .bool false, .ref s.heap.objs.size, rawInt 0, .none, .none] } }) :=
  .of_wp fun prog w A R s h => by
    obtain ⟨hp, g, d, tk, os⟩ := s; obtain ⟨h1, h⟩ := h
    have hsub := sub_enumerate
    have q1 : ∀ {A' : Around} {E : Value → Shared → Prop} {Q : Value → Shared → Prop}, Q (.ref hp.objs.size) ⟨hp.push o, g, d, tk, os⟩ → wpAny (model prog w) A' (pyIter v) Q E ⟨hp, g, d, tk, os⟩ :=
      fun q => B.iter prog w _ _ ⟨hp, g, d, tk, os⟩ _ h1 q
    wp_walk using q1
    refine wpAny_stack_any fun st => wpAny_pure ?_
    split
    · rename_i c _ _ _ _ _
      cases (c == Value.type "enumerate")
      · wp_walk using q1
        exact ⟨_, rfl, h⟩
      · wp_walk using q1
        exact ⟨_, rfl, h⟩
    · wp_walk using q1
      exact ⟨_, rfl, h⟩
theorem enum_begins1 {prog : Program} {w : World} {A : Around} {E : Value → Shared → Prop} {s : Shared} {v : Value} {o : Obj} {H : Heap → Prop} {Q : Value → Shared → Prop} (B : Begins v o H) (h1 : H s.heap)
    (h : ∀ h', IsEnum h' (s.heap.objs.size + 1) s.heap.objs.size 0 .none → h'.get? s.heap.objs.size = some o → h'.objs.size = s.heap.objs.size + 2 →
      (∀ b o, s.heap.get? b = some o → h'.get? b = some o) → Q (.ref (s.heap.objs.size + 1)) { s with heap := h' }) :
    wpAny (model prog w) A (call (.type "enumerate") [v]) Q E s := by
  refine callType_new F.called_enumerate (by decide) (F.typeCall_enumerate_1 _) (F.newCall_enumerate_1 _) (fun obj => F.args_object_init_2 obj _) F.entry_enumerate_new
    (meets_enumerate_newB1 B) ⟨h1, ?_⟩
  have hz : (s.heap.push o).objs.size = s.heap.objs.size + 1 := Heap.size_push ..
  show _ ∧ _
  rw [hz]
  have he : IsEnum ((s.heap.push o).push { cls := .type "enumerate", data := .fields #[.none, .bool false, .ref s.heap.objs.size, rawInt 0, .none, .none] }) (s.heap.objs.size + 1) s.heap.objs.size 0 .none := by
    have := Heap.get?_push_size (s.heap.push o) (o := { cls := .type "enumerate", data := .fields #[.none, .bool false, .ref s.heap.objs.size, rawInt 0, .none, .none] }) rfl
    rw [hz] at this; exact this
  refine ⟨⟨_, he, rfl⟩, h _ he (Heap.get?_push_of_some _ (Heap.get?_push_size _ B.free)) (by rw [Heap.size_push, hz]) fun b o x => Heap.get?_push_of_some _ (Heap.get?_push_of_some _ x)⟩
def IteT (K : PySem.W.Frag) (a : Addr) : It :=
  ⟨fun i H => ∃ (xs : List V) (x : V), SqT K H a xs ∧ xs[i]? = some x, fun i H v H' => ∃ T x, v = .ref T ∧ H T = none ∧ H' = upd H T (.tup [.int (i : Nat), x]) ∧ ∀ xs, SqT K H a xs → xs[i]? = some x, fun i H => ∃ xs : List V, SqT K H a xs ∧ i = xs.length⟩
theorem turn_enumT {P : Program} {w : World} {K : PySem.W.Frag} {elts : List Expr} {kk : Nat} {tpos : Pos} (a e it : Addr) (hae : e ≠ a) (hai : a ≠ it) :
    Turn P w K (.Tuple elts kk tpos) (IteT K a) [e, it] e (fun i h => (∃ old, IsEnum h e it (0 + ((i : Nat) : Int)) old) ∧ h.IsTupleIter it a i ∧ e ≠ it) where
  mem := by simp
  obj := fun i h st b hb => by
    obtain ⟨⟨old, he⟩, ⟨o, ho, hc, hd⟩, _⟩ := st
    have e' : b = e ∨ b = it := by simpa using hb
    rcases e' with z | z
    · rw [z]; exact ⟨_, he, fun v q => nomatch q⟩
    · rw [z]; exact ⟨o, ho, fun v q => by rw [hd] at q; cases q⟩
  keep := fun i h h' st k => let ⟨⟨old, he⟩, hi, hne⟩ := st; ⟨⟨old, k e (by simp) _ he⟩, hi.at fun o q => k it (by simp) o q, hne⟩
  item := by
    intro X hP hw hK hc i pins s σ H E I hf st hg
    subst hP hw hK
    obtain ⟨⟨old, he⟩, hit, hne⟩ := st
    obtain ⟨xs, x, hq, hx⟩ := hg
    obtain ⟨its, rv, p, hz⟩ := I.tuple hq
    obtain ⟨u, hu, ru⟩ := rv.get hx
    have hel : e < s.heap.objs.size := Heap.lt_size he
    have hil : it < s.heap.objs.size := by obtain ⟨_, q, _⟩ := hit; exact Heap.lt_size q
    have W := WalksT.enumFrom (A := X.A) 0 (Draws.tuple (prog := X.prog) (w := X.w) (A := X.A.in1) (show X.A.in1.handled = none from I.ok.hd hc) it a hai its.toArray) e hne (by simp [hne, hae]) (by simp)
    have hi : i < its.toArray.size := by
      have := (List.getElem?_eq_some_iff.mp hu).1
      simpa using this
    refine W.item i s _ E hi ⟨⟨old, he⟩, hit, p⟩ fun T vals h' tk hv hT0 hT1 hm hk => ⟨_, rfl, W.go elts kk tpos i T { s with heap := h', toks := tk } _ E hm fun h'' hs hk2 => ?_⟩
    obtain ⟨t, x', hx', rfl⟩ := hv
    have ex : x' = u := by
      have h1 : its.toArray[i]? = some u := by simpa using hu
      rw [h1] at hx'
      exact (Option.some.inj hx').symm
    subst ex
    obtain ⟨o, ho, hoc, no, hod⟩ := hT1
    have hT2 : h''.get? T = some o := hk2 T o (W.apart i T h' hm) ho
    have new : ObjOk X.prog X.w (upd H T (.tup [.int (i : Nat), x])) h'' T (.tup [.int (i : Nat), x]) :=
      ⟨by show 2 ≤ sizeLine; decide, [.int (0 + (i : Int)) t, x'], .cons ⟨t, by rw [Int.zero_add]⟩ (.cons ru .nil), ⟨o, hT2, hoc, no, hod⟩⟩
    have hT : s.heap.objs.size ≤ T := hT0
    have I1 : L2.Inv X pins σ (upd H T (.tup [.int (i : Nat), x])) { s with heap := h'', toks := tk } :=
      I.turnedNew (ch := [e, it]) (fun b ob hb q => hk2 b ob hb (hk b ob hb q)) hf hT new
    refine ⟨.ref T, _, I1, rfl, ⟨T, x, rfl, I.hok.fresh hT, rfl, fun ys hy => by rw [I.tuple_inj hy hq]; exact hx⟩, ⟨hs.1, hs.2.1, hne⟩, fun b hb => ?_⟩
    have hb' : b < s.heap.objs.size := by
      have e' : b = e ∨ b = it := by simpa using hb
      rcases e' with z | z
      · rw [z]; exact hel
      · rw [z]; exact hil
    rw [upd_ne (Nat.ne_of_lt (Nat.lt_of_lt_of_le hb' hT))]
    exact (hf b hb).1
  done := by
    intro X hP hw hK hc i pins s σ H E I hf st hg
    subst hP hw hK
    obtain ⟨⟨old, he⟩, hit, hne⟩ := st
    obtain ⟨xs, hq, hx⟩ := hg
    obtain ⟨its, rv, p, hz⟩ := I.tuple hq
    have hl := rv.length
    have W := WalksT.enumFrom (A := X.A) 0 (Draws.tuple (prog := X.prog) (w := X.w) (A := X.A.in1) (show X.A.in1.handled = none from I.ok.hd hc) it a hai its.toArray) e hne (by simp [hne, hae]) (by simp)
    have en : its.toArray.size = i := by rw [List.size_toArray, ← hl, ← hx]
    refine W.done s _ E ?_ fun h' tk hk => ⟨rfl, I.turnedL (ch := [e, it]) hk hf⟩
    rw [en]
    exact ⟨⟨old, he⟩, hit, p⟩
  self := fun A i s Q E st h => let ⟨⟨_, he⟩, _⟩ := st; wpAny_pyIter_enum he h
def iEnumT (K : PySem.W.Frag) (ta : TA) : TI := fun σ H R => ta σ H fun vs H1 => ∃ a xs, vs = [.ref a] ∧ SqT K H1 a xs ∧ R (IteT K a) H1
theorem pi_enumT {X : Cx} {e : Expr} {ta : TA} {p pos tpos : Pos} {elts : List Expr} {kk : Nat} (hg : Gl X "enumerate") (hm : X.mg "enumerate" = none) (ha : PA X [e] ta) (hs : starEach [e] X.env = [(false, eval e X.env)] := by rfl) :
    PI X (.Tuple elts kk tpos) (.Call (.Name "enumerate" p) [e] [] pos) (iEnumT X.K ta) := by
  refine ⟨fun pins s σ H R I h => ?_⟩
  refine Call_ (ld_blt I hg hm boot_enumerate (PyProof.Rows.callWith_type1 (thn (ha.run pos pins s σ H _ I h) fun us s1 ⟨vs, H1, I1, r1, q1⟩ => ?_) hs rfl))
  obtain ⟨a, xs, ex, hq, q⟩ := q1
  subst ex
  cases r1 with
  | cons r rr =>
    cases rr
    cases r
    obtain ⟨its, rv, p', hz⟩ := I1.tuple hq
    obtain ⟨oo, hoo, _⟩ := id p'
    have hal : a < s1.heap.objs.size := Heap.lt_size hoo
    refine enum_begins1 (begins_tuple a its.toArray) p' fun h' he hit hsz hk => wpAny_pyIter_enum he ?_
    have I2 : L2.Inv X pins σ H1 { s1 with heap := h' } := I1.kept (t' := s1.toks) hk
    refine ⟨s1.heap.objs.size + 1, [s1.heap.objs.size + 1, s1.heap.objs.size], _, _, H1, rfl, I2, turn_enumT a (s1.heap.objs.size + 1) s1.heap.objs.size (Nat.ne_of_gt (Nat.lt_succ_of_lt hal)) (Nat.ne_of_lt hal), ⟨⟨.none, he⟩, ⟨_, hit, rfl, rfl⟩, Nat.succ_ne_self _⟩, fun b hb => ?_, q⟩
    have e' : b = s1.heap.objs.size + 1 ∨ b = s1.heap.objs.size := by simpa using hb
    have hle : s1.heap.objs.size ≤ b := by
      rcases e' with z | z
      · rw [z]; exact Nat.le_add_right _ _
      · rw [z]; exact Nat.le_refl _
    exact I1.fpOk hle (I1.hok.fresh hle)
theorem walk_enumT {K : PySem.W.Frag} {a : Addr} {xs : List V} : Walk (IteT K a) xs.length (fun H => SqT K H a xs) (YPair (fun i => some (.int (i : Nat))) (fun i => xs[i]?)) := by
  refine ⟨fun i _ hi q => ⟨xs, xs[i], q, by simp [hi]⟩, fun _ q => ⟨xs, q, rfl⟩, fun i H v H' _ q y => ?_⟩
  obtain ⟨T, x, h1, h2, h3, h4⟩ := y
  exact ⟨T, .int (i : Nat), x, h1, h2, h3, rfl, h4 xs q⟩
end RS
namespace RS
open PySem PySem.Spec PyProof.Rows L2
/-! ### zip over lists and tuples in any mix -/
inductive Kd where
  | l | t
def SqK (K : PySem.W.Frag) : Kd → Hp → Addr → List V → Prop
  | .l => SqL K
  | .t => SqT K
def HSq : Kd → Heap → Addr → Array Value → Prop
  | .l => fun h a xs => h.IsList a xs
  | .t => fun h a xs => h.IsTuple a xs
def HIt : Kd → Heap → Addr → Addr → Nat → Prop
  | .l => fun h it a i => h.IsListIter it a i
  | .t => fun h it a i => h.IsTupleIter it a i
def itO (k : Kd) (a : Addr) : Obj := match k with
  | .l => { cls := .type "list_iterator", data := .fields #[.ref a, .int 0 0] }
  | .t => { cls := .type "tuple_iterator", data := .fields #[.ref a, .int 0 0] }
theorem hsq_lt {k : Kd} {h : Heap} {a : Addr} {xs : Array Value} (p : HSq k h a xs) : a < h.objs.size := by
  cases k <;> (obtain ⟨o, e, _⟩ := p; exact Heap.lt_size e)
theorem hit_at {k : Kd} {h h' : Heap} {it a : Addr} {i : Nat} (p : HIt k h it a i) (f : ∀ o, h.get? it = some o → h'.get? it = some o) : HIt k h' it a i := by
  cases k
  · exact Heap.IsListIter.at (show h.IsListIter it a i from p) f
  · exact Heap.IsTupleIter.at (show h.IsTupleIter it a i from p) f
theorem hit_ob {k : Kd} {h : Heap} {it a : Addr} {i : Nat} (p : HIt k h it a i) : ∃ o, h.get? it = some o ∧ ∀ v, o.data ≠ .cell v := by
  cases k
  · obtain ⟨o, e, _, d⟩ := (show h.IsListIter it a i from p)
    exact ⟨o, e, fun v q => by rw [d] at q; cases q⟩
  · obtain ⟨o, e, _, d⟩ := (show h.IsTupleIter it a i from p)
    exact ⟨o, e, fun v q => by rw [d] at q; cases q⟩
theorem hit_new {k : Kd} {h : Heap} {it a : Addr} (e : h.get? it = some (itO k a)) : HIt k h it a 0 := by
  cases k
  · exact ⟨_, e, rfl, rfl⟩
  · exact ⟨_, e, rfl, rfl⟩
theorem begK (k : Kd) (a : Addr) (xs : Array Value) : Begins (.ref a) (itO k a) fun h => HSq k h a xs := by
  cases k
  · exact begins_list a xs
  · exact begins_tuple a xs
theorem drwK {prog : Program} {w : World} {A : Around} (hh : A.handled = none) (k : Kd) (it a : Addr) (hne : a ≠ it) (xs : Array Value) :
    Draws prog w A it [it, a] xs.size (fun i v => xs[i]? = some v) (fun i h => HIt k h it a i ∧ HSq k h a xs) := by
  cases k
  · exact Draws.list hh it a hne xs
  · exact Draws.tuple hh it a hne xs
section
variable {X : Cx} {pins : List (Addr × Obj)} {σ : L2.St} {H : Hp} {s : Shared}
theorem invK (I : L2.Inv X pins σ H s) {k : Kd} {a : Addr} {xs : List V} (h : SqK X.K k H a xs) : ∃ its : List Value, Vals xs its ∧ HSq k s.heap a its.toArray := by
  cases k
  · obtain ⟨its, rv, p, _⟩ := I.list h
    exact ⟨its, rv, p.isList⟩
  · obtain ⟨its, rv, p, _⟩ := I.tuple h
    exact ⟨its, rv, p⟩
theorem injK (I : L2.Inv X pins σ H s) {k : Kd} {a : Addr} {xs ys : List V} (h : SqK X.K k H a xs) (h' : SqK X.K k H a ys) : xs = ys := by
  cases k
  · exact I.list_inj h h'
  · exact I.tuple_inj h h'
end
def ItzK (K : PySem.W.Frag) (k1 k2 : Kd) (a b : Addr) : It :=
  ⟨fun i H => ∃ (xs ys : List V) (x y : V), SqK K k1 H a xs ∧ SqK K k2 H b ys ∧ xs[i]? = some x ∧ ys[i]? = some y,
    fun i H v H' => ∃ T x y, v = .ref T ∧ H T = none ∧ H' = upd H T (.tup [x, y]) ∧ (∀ xs, SqK K k1 H a xs → xs[i]? = some x) ∧ ∀ ys, SqK K k2 H b ys → ys[i]? = some y,
    fun i H => ∃ xs ys : List V, SqK K k1 H a xs ∧ SqK K k2 H b ys ∧ i = min xs.length ys.length⟩
theorem turn_zipK {P : Program} {w : World} {K : PySem.W.Frag} {elts : List Expr} {kk : Nat} {tpos : Pos} {k1 k2 : Kd} {a b z TI TO i1 i2 : Addr} (S : ZipSep2 z TI TO i1 i2 [i1, a] [i2, b]) (h1 : a ≠ i1) (h2 : b ≠ i2) :
    Turn P w K (.Tuple elts kk tpos) (ItzK K k1 k2 a b) [z, TI, TO, i1, i2] z (fun i h => IsZip h z TI TO .none ∧ IsTupOf2 h TI (.ref i1) (.ref i2) ∧ (∃ x y, IsTupOf2 h TO x y) ∧ HIt k1 h i1 a i ∧ HIt k2 h i2 b i) where
  mem := by simp
  obj := fun i h st c hc => by
    obtain ⟨hz, hTI, ⟨x, y, hTO⟩, q1, q2⟩ := st
    have e' : c = z ∨ c = TI ∨ c = TO ∨ c = i1 ∨ c = i2 := by simpa using hc
    rcases e' with q | q | q | q | q
    · rw [q]; exact ⟨_, hz, fun v q => nomatch q⟩
    · rw [q]; exact ⟨_, hTI, fun v q => nomatch q⟩
    · rw [q]; exact ⟨_, hTO, fun v q => nomatch q⟩
    · rw [q]; exact hit_ob q1
    · rw [q]; exact hit_ob q2
  keep := fun i h h' st k => by
    obtain ⟨hz, hTI, ⟨x, y, hTO⟩, q1, q2⟩ := st
    exact ⟨k z (by simp) _ hz, k TI (by simp) _ hTI, ⟨x, y, k TO (by simp) _ hTO⟩, hit_at q1 fun o q => k i1 (by simp) o q, hit_at q2 fun o q => k i2 (by simp) o q⟩
  item := by
    intro X hP hw hK hc i pins s σ H E I hf st hg
    subst hP hw hK
    obtain ⟨hz, hTI, hTO, q1, q2⟩ := st
    obtain ⟨xs, ys, x, y, hqx, hqy, hx, hy⟩ := hg
    obtain ⟨its, rv, p⟩ := invK I hqx
    obtain ⟨its2, rv2, p2⟩ := invK I hqy
    obtain ⟨u, hu, ru⟩ := rv.get hx
    obtain ⟨u2, hu2, ru2⟩ := rv2.get hy
    have hh : X.A.in1.handled = none := I.ok.hd hc
    have W := WalksT.zipD2 (A := X.A) (prog := X.prog) (w := X.w) S (drwK hh k1 i1 a h1 its.toArray) (drwK hh k2 i2 b h2 its2.toArray)
    have l1 : i < its.toArray.size := by have := (List.getElem?_eq_some_iff.mp hu).1; simpa using this
    have l2 : i < its2.toArray.size := by have := (List.getElem?_eq_some_iff.mp hu2).1; simpa using this
    refine W.item i s _ E (by omega) ⟨hz, hTI, hTO, ⟨q1, p⟩, ⟨q2, p2⟩⟩ fun T vals h' tk hv hT0 hT1 hm hk => ⟨_, rfl, W.go elts kk tpos i T { s with heap := h', toks := tk } _ E hm fun h'' hs hk2 => ?_⟩
    obtain ⟨x', y', hx', hy', rfl⟩ := hv
    have ex : x' = u := by
      have h1 : its.toArray[i]? = some u := by simpa using hu
      rw [h1] at hx'
      exact (Option.some.inj hx').symm
    have ey : y' = u2 := by
      have h1 : its2.toArray[i]? = some u2 := by simpa using hu2
      rw [h1] at hy'
      exact (Option.some.inj hy').symm
    subst ex ey
    obtain ⟨o, ho, hoc, no, hod⟩ := hT1
    have hT2 : h''.get? T = some o := hk2 T o (W.apart i T h' hm) ho
    have new : ObjOk X.prog X.w (upd H T (.tup [x, y])) h'' T (.tup [x, y]) :=
      ⟨by show 2 ≤ sizeLine; decide, [x', y'], .cons ru (.cons ru2 .nil), ⟨o, hT2, hoc, no, hod⟩⟩
    have hT : s.heap.objs.size ≤ T := hT0
    have hwr : ∀ c, c ∈ [z, TO, i1, i2] → c ∈ [z, TI, TO, i1, i2] := fun c hc => by
      simp only [List.mem_cons, List.not_mem_nil, or_false] at hc ⊢
      rcases hc with q | q | q | q
      · exact .inl q
      · exact .inr (.inr (.inl q))
      · exact .inr (.inr (.inr (.inl q)))
      · exact .inr (.inr (.inr (.inr q)))
    have I1 : L2.Inv X pins σ (upd H T (.tup [x, y])) { s with heap := h'', toks := tk } :=
      I.turnedNew (ch := [z, TO, i1, i2]) (fun b ob hb q => hk2 b ob hb (hk b ob hb q)) (fun c hc => hf c (hwr c hc)) hT new
    refine ⟨.ref T, _, I1, rfl, ⟨T, x, y, rfl, I.hok.fresh hT, rfl, fun l hl => by rw [injK I hl hqx]; exact hx, fun l hl => by rw [injK I hl hqy]; exact hy⟩, ⟨hs.1, hs.2.1, hs.2.2.1, hs.2.2.2.1.1, hs.2.2.2.2.1⟩, fun c hcm => ?_⟩
    have hlt : c < s.heap.objs.size := by
      have e' : c = z ∨ c = TI ∨ c = TO ∨ c = i1 ∨ c = i2 := by simpa using hcm
      rcases e' with q | q | q | q | q
      · rw [q]; exact Heap.lt_size hz
      · rw [q]; exact Heap.lt_size hTI
      · rw [q]; obtain ⟨x0, y0, hTO⟩ := hTO; exact Heap.lt_size hTO
      · rw [q]; obtain ⟨_, e1, _⟩ := hit_ob q1; exact Heap.lt_size e1
      · rw [q]; obtain ⟨_, e2, _⟩ := hit_ob q2; exact Heap.lt_size e2
    rw [upd_ne (Nat.ne_of_lt (Nat.lt_of_lt_of_le hlt hT))]
    exact (hf c hcm).1
  done := by
    intro X hP hw hK hc i pins s σ H E I hf st hg
    subst hP hw hK
    obtain ⟨hz, hTI, hTO, q1, q2⟩ := st
    obtain ⟨xs, ys, hqx, hqy, hi⟩ := hg
    obtain ⟨its, rv, p⟩ := invK I hqx
    obtain ⟨its2, rv2, p2⟩ := invK I hqy
    have hh : X.A.in1.handled = none := I.ok.hd hc
    have W := WalksT.zipD2 (A := X.A) (prog := X.prog) (w := X.w) S (drwK hh k1 i1 a h1 its.toArray) (drwK hh k2 i2 b h2 its2.toArray)
    have en : min its.toArray.size its2.toArray.size = i := by rw [List.size_toArray, List.size_toArray, ← rv.length, ← rv2.length, ← hi]
    have hwr : ∀ c, c ∈ [z, TO, i1, i2] → c ∈ [z, TI, TO, i1, i2] := fun c hc => by
      simp only [List.mem_cons, List.not_mem_nil, or_false] at hc ⊢
      rcases hc with q | q | q | q
      · exact .inl q
      · exact .inr (.inr (.inl q))
      · exact .inr (.inr (.inr (.inl q)))
      · exact .inr (.inr (.inr (.inr q)))
    refine W.done s _ E ?_ fun h' tk hk => ⟨rfl, I.turnedL (ch := [z, TO, i1, i2]) hk (fun c hc => hf c (hwr c hc))⟩
    rw [en]
    exact ⟨hz, hTI, hTO, ⟨q1, p⟩, ⟨q2, p2⟩⟩
  self := fun A i s Q E st h => wpAny_pyIter_zip st.1 h
def iZipK (K : PySem.W.Frag) (ta : TA) : TI := fun σ H R => ta σ H fun vs H1 => ∃ k1 k2 a b xs ys, vs = [.ref a, .ref b] ∧ SqK K k1 H1 a xs ∧ SqK K k2 H1 b ys ∧ R (ItzK K k1 k2 a b) H1
theorem pi_zipK {X : Cx} {e e2 : Expr} {ta : TA} {p pos tpos : Pos} {elts : List Expr} {kk : Nat} (hg : Gl X "zip") (hm : X.mg "zip" = none) (ha : PA X [e, e2] ta)
    (hs : starEach [e, e2] X.env = (false, eval e X.env) :: starEach [e2] X.env := by rfl) (hpl : (backTo pos (starEach [e2] X.env)).any (·.1) = false := by rfl) :
    PI X (.Tuple elts kk tpos) (.Call (.Name "zip" p) [e, e2] [] pos) (iZipK X.K ta) := by
  refine ⟨fun pins s σ H R I h => ?_⟩
  refine Call_ (ld_blt I hg hm PyProof.Rows.boot_zip (PyProof.Rows.callWith_type1 (thn (ha.run pos pins s σ H _ I h) fun us s1 ⟨vs, H1, I1, r1, q1⟩ => ?_) hs hpl))
  obtain ⟨k1, k2, a, b, xs, ys, ex, hqx, hqy, q⟩ := q1
  subst ex
  cases r1 with
  | cons r rr =>
    cases rr with
    | cons r' rr =>
      cases rr
      cases r
      cases r'
      obtain ⟨its, rv, p1⟩ := invK I1 hqx
      obtain ⟨its2, rv2, p2⟩ := invK I1 hqy
      have ha := hsq_lt p1
      have hb := hsq_lt p2
      refine zip_begins2 (begK k1 a its.toArray) (begK k2 b its2.toArray) p1 p2 fun h' hz hTI hTO g1 g2 hsz hk => wpAny_pyIter_zip hz ?_
      have I2 : L2.Inv X pins σ H1 { s1 with heap := h' } := I1.kept (t' := s1.toks) hk
      refine ⟨s1.heap.objs.size + 4, [s1.heap.objs.size + 4, s1.heap.objs.size + 2, s1.heap.objs.size + 3, s1.heap.objs.size, s1.heap.objs.size + 1], _, _, H1, rfl, I2,
        turn_zipK (zip_sep2 (fp1 := [a]) (fp2 := [b]) (fun c hc => by rw [List.mem_singleton.mp hc]; exact ha) (fun c hc => by rw [List.mem_singleton.mp hc]; exact hb)) (Nat.ne_of_lt ha) (Nat.ne_of_lt (Nat.lt_succ_of_lt hb)),
        ⟨hz, hTI, ⟨_, _, hTO⟩, hit_new g1, hit_new g2⟩, fun c hcm => ?_, q⟩
      have e' : c = s1.heap.objs.size + 4 ∨ c = s1.heap.objs.size + 2 ∨ c = s1.heap.objs.size + 3 ∨ c = s1.heap.objs.size ∨ c = s1.heap.objs.size + 1 := by simpa using hcm
      have hle : s1.heap.objs.size ≤ c := by
        rcases e' with z | z | z | z | z
        · rw [z]; exact Nat.le_add_right _ _
        · rw [z]; exact Nat.le_add_right _ _
        · rw [z]; exact Nat.le_add_right _ _
        · rw [z]; exact Nat.le_refl _
        · rw [z]; exact Nat.le_add_right _ _
      exact I1.fpOk hle (I1.hok.fresh hle)
theorem walk_zipK {K : PySem.W.Frag} {k1 k2 : Kd} {a b : Addr} {xs ys : List V} {n : Nat} (hn : n = min xs.length ys.length) : Walk (ItzK K k1 k2 a b) n (fun H => SqK K k1 H a xs ∧ SqK K k2 H b ys) (YPair (fun i => xs[i]?) (fun i => ys[i]?)) := by
  subst hn
  refine ⟨fun i _ hi q => ?_, fun _ q => ⟨xs, ys, q.1, q.2, rfl⟩, fun i H v H' _ q y => ?_⟩
  · have h1 : i < xs.length := by omega
    have h2 : i < ys.length := by omega
    exact ⟨xs, ys, xs[i], ys[i], q.1, q.2, by simp [h1], by simp [h2]⟩
  · obtain ⟨T, x, z, h1, h2, h3, h4, h5⟩ := y
    exact ⟨T, x, z, h1, h2, h3, h4 xs q.1, h5 ys q.2⟩
end RS
namespace RS
open PySem PySem.Spec PyProof.Rows L2
section
variable {X : Cx}
/-! ### sorted(d), int keys, any number of them -/
def rSortedDK : List V → Hp → VK → Prop := fun xs H Q => ∃ (a : Addr) (kvs : List (Key × V)) (ks : List Int), xs = [.ref a] ∧ Rd H a (.dK kvs) ∧ kvs.map (·.1) = ks.map Sum.inl ∧ ks.length ≤ 100000 ∧
    ∀ (ys : List Int) (p : Addr), ys.Perm ks → ys.Pairwise (· ≤ ·) → H p = none → Q (.ref p) (upd H p (.lst (ys.map V.int)))
theorem cr_sortedDK (hcalm : X.calm = true) : CallR X (.builtin "sorted") rSortedDK := by
  intro pins s σ H xs us Q I r q
  obtain ⟨a, kvs, ks, ex, hd, hks, h64, q⟩ := q
  subst ex
  obtain ⟨u, eu, rx⟩ := vals1 r
  subst eu
  cases rx
  obtain ⟨z, lo, vs, rel, dd⟩ := dk_rd I.hok hd
  obtain ⟨ep, hat⟩ := dd.dictAt
  have hkeys : vs.map (·.1) = ks.map Sum.inl := rel.keys.symm.trans hks
  have hl : vs.length = ks.length := by
    have e := congrArg List.length hkeys
    rw [List.length_map, List.length_map] at e
    exact e
  have h16 : vs.length ≤ sizeLine := by rw [hl, sizeLine_eq]; omega
  refine Calls.call_function_entry PyProof.Rows.kind_sorted PyProof.Rows.plain_sorted PyProof.Rows.entry_sorted (PyProof.Rows.args_sorted1 _) ?_
  unfold Builtin.«sorted»
  refine wpAny_bind (m := checkCount "sorted" 1 1 _) (wpAny_pure ?_)
  refine wpAny_bind (PySem.W.kdu_collect (A := X.A.in1) (PySem.W.kdl_dict (knd := mixKind X.prog X.w) (kvs := vs) (ep := ep) lo) (I.ok.hd hcalm) hat h16 fun h' tk acc hk hacc => ?_)
  have hal : acc.toList.length = ks.length := by rw [Array.length_toList, hacc.1, hl]
  have hS : IntsAre acc.toList ks := ints_each hal fun j v e => by
    obtain ⟨k, x, e1, e2⟩ := hacc.2 j v (by rw [← Array.getElem?_toList]; exact e)
    have e3 : (vs.map (·.1))[j]? = some k := by rw [List.getElem?_map, e1]; rfl
    rw [hkeys, List.getElem?_map] at e3
    cases e4 : ks[j]? with
    | none => rw [e4] at e3; cases e3
    | some y =>
      rw [e4] at e3
      have e5 : Sum.inl y = k := Option.some.inj e3
      subst e5
      rcases keyIs_shape (show keyIs (Sum.inl y) v = true from e2) with ⟨i, t, ek, ev⟩ | ⟨z, t, ek, ev⟩
      · cases ek
        exact ⟨y, t, rfl, ev⟩
      · cases ek
  have I1 : L2.Inv X pins σ H { s with heap := h', toks := tk } := I.kept hk
  have hsz : acc.toList.length ≤ sizeLine := by rw [hal, sizeLine_eq]; omega
  refine wpAny_bind (wpAny_newList ?_ (by rw [hal, sizeLine_eq]; omega))
  have hoL : (h'.push (seqObj "list" acc.toList.toArray 0)).get? h'.objs.size = some (seqObj "list" acc.toList.toArray 0) := Heap.get?_push_size _ rfl
  show wpAny _ _ _ _ _ { s with heap := h'.push (seqObj "list" acc.toList.toArray 0), toks := tk }
  refine wpAny_bind (wpAny_holding (wpAny_call_entry PyProof.Rows.slot_list_sort ⟨_, hoL, rfl⟩ PyProof.Rows.entry_list_sort
    (SrtO.list_sort_ord (s := { s with heap := h'.push (seqObj "list" acc.toList.toArray 0), toks := tk }) SrtO.swo_int hoL hsz (fun h2 => SrtO.ints_sortable hS h2) fun out h1 h2 => ⟨_, rfl, ?_⟩) (PyProof.Rows.args_list_sort _)))
  obtain ⟨g1, g2, g3⟩ := SrtO.ints_out hS h1 h2
  obtain ⟨e', he'⟩ := PyProof.Rows.sortedHeap_at (vs := acc.toList) (out := out.toArray) hoL
  have hlen : ((out.map SrtO.iv).map V.int).length ≤ sizeLine := by
    rw [List.length_map, g2.length_eq, sizeLine_eq]
    omega
  refine wpAny_pure ⟨_, rfl, .ref h'.objs.size, upd H h'.objs.size (.lst ((out.map SrtO.iv).map V.int)), I1.laid (t' := tk) (fun b u e => ?_) (Nat.le_refl _)
    (show ObjOk X.prog X.w _ _ _ (.lst ((out.map SrtO.iv).map V.int)) from ⟨hlen, out, e', vals_of_ints g1, he'⟩), rfl, q _ _ g2 g3 (I1.hok.fresh (Nat.le_refl _))⟩
  have hb : b < h'.objs.size := Heap.lt_size e
  rw [PyProof.Rows.sortedHeap_old (Nat.ne_of_lt hb) (by rw [size_push']; exact Nat.lt_succ_of_lt hb)]
  exact Heap.get?_push_of_some _ e
end
end RS
namespace RS
open PySem PySem.Spec PyProof.Rows L2
/-! ### defs called where no text of an object is in the making (repr) -/
structure FnG (P : Program) (w : World) (K : PySem.W.Frag) (mg : Str → Option Value) (base : Heap) (CX : CXT) (k : Nat) (f : Addr) (fd : FuncData) (ps : List Str) (sp : Sp) : Prop where
  len : ∀ vs H Q E, sp vs H Q E → vs.length = ps.length
  run : ∀ (A : Around) (outer : List Env) (s : Shared) (H : Hp) (args : Args) (us : List Value) (vs : List V) (Q : VK) (E : XK), A.guards = some [] → Room k A → Env0 P w K mg base A outer s H → BindsTo s fd args (ps.zip us) → Vals vs us → sp vs H Q E →
    codeAny (model P w) A (.call (.ref f) args) (CR CX outer P w H s Q E) s
theorem fn_ofG {CX : CXT} {P : Program} {w : World} {K : PySem.W.Frag} {mg : Str → Option Value} {base : Heap} {k : Nat} {f : Addr} {name qual : Str} {params : Arguments} {body : List Stmt} {scope : Scope} {dV kV doc pm cdv ct oc : Value} {an od : Option Addr}
    {osl : Array (Option Value)} {N ps : List Str} {sp : Sp} (lk : K.lookup f = some ⟨oc, od, .func (PySem.W.fnOf name qual params body scope dV kV doc pm an cdv ct), osl⟩) (hcd : PySem.W.codeIn K cdv qual = true) (S : FnScope N ps scope)
    (len : ∀ vs H Q E, sp vs H Q E → vs.length = ps.length)
    (hbody : ∀ (A : Around) (outer : List Env) (s : Shared) (H : Hp) (vs : List V) (Q : VK) (E : XK), (A.deeper (envOfC qual scope s.heap.objs.size f cdv)).guards = some [] → Room k (A.deeper (envOfC qual scope s.heap.objs.size f cdv)) → sp vs H Q E →
      ∃ t, PSs (cxOf CX P w K mg base N qual scope f cdv A outer s H E) body t ∧ t { nx := fun _ H' => Q .non H', rt := Q } (start N vs) H) :
    FnG P w K mg base CX (k + 1) f (PySem.W.fnOf name qual params body scope dV kV doc pm an cdv ct) ps sp := by
  refine ⟨len, fun A outer s H args us vs Q E hgd hr e0 hb r hsp => ?_⟩
  have hl := len _ _ _ _ hsp
  have KX : K.In s.heap := e0.mod.kin.keeps fun b o e => (e0.bs b o e).1
  have lim : s.heap.NoLimit := e0.mod.nolimit.keeps fun b o e => (e0.bs b o e).1
  have hkind : ∀ y ∈ ps.zip us, scope.names.lookup y.1 = some .local ∨ (scope.names.lookup y.1 = some .cell ∧ ((cellsFrom (s.heap.objs.size + 1) scope.names []).lookup y.1).isSome = true) := fun ⟨n, v⟩ hy => by
    rcases S.par n (List.of_mem_zip hy).1 with q | q
    · exact .inl q
    · exact .inr ⟨q, PySem.W.cellsFrom_some _ _ _ (.inl q)⟩
  refine codeAny_call_function hr.depth (KX _ _ lk) rfl S.co S.gen rfl (PySem.W.codeRec_of KX hcd) (hb _ _ _ _ ?_)
  refine wpAny_newFunctionEnv_cells S.kind hkind fun env he s1 x => ?_
  subst he
  refine ⟨lim.keeps x.toInCall.keep, codeAny_func ?_⟩
  obtain ⟨t, ht, hq⟩ := hbody A outer s H vs Q E hgd (hr.deeper _) hsp
  have I : L2.Inv (cxOf CX P w K mg base N qual scope f cdv A outer s H E) [] (start N vs) H s1 := inv_start S hr.hd e0 hl r x
  refine wpAny_mono (ht.run [] s1 (start N vs) H _ I hq) (fun fl s' hs => ?_) fun e s' hs => hs
  have fin : ∀ {σ' : L2.St} {H' : Hp} {v : V} {u : Value}, L2.Inv (cxOf CX P w K mg base N qual scope f cdv A outer s H E) [] σ' H' s' → L2.RelV v u → Q v H' → CE outer P w H s Q u s' :=
    fun {σ' H' v u} J rv q => ⟨v, H', J.os, J.bare, J.base, J.hok, rv, q⟩
  cases fl with
  | ret u =>
    obtain ⟨v, σ', H', J, rv, q⟩ := hs
    exact fin J rv q
  | next =>
    obtain ⟨σ', H', J, q⟩ := hs
    exact fin (v := V.non) (u := Value.none) J rfl q
  | brk =>
    obtain ⟨_, _, _, q⟩ := hs
    exact False.elim q
  | cont =>
    obtain ⟨_, _, _, q⟩ := hs
    exact False.elim q
section
variable {X : Cx} {CX : CXT} {k : Nat} {f C : Addr} {fd : FuncData} {ps : List Str} {sp : Sp} {dvs : List V} {ds : List Value} {E : XK} {x m : Str} {p pos apos : Pos} {e o : Expr} {es : List Expr} {ta : TE} {t : TA}
theorem run_fnG {pins : List (Addr × Obj)} {σ : L2.St} {H : Hp} {s : Shared} {Q : VK} {us : List Value} {vs : List V} (F : FnG X.prog X.w X.K X.mg X.base CX k f fd ps sp) (hgd : X.A.guards = some []) (hr : Room k X.A) (hb : Binds X.K fd ps ds) (hd : Vals dvs ds) (hx : Passes CX X E)
    (I : L2.Inv X pins σ H s) (r : Vals vs us) (h : sp (vs ++ dvs) H Q E) : wpAny (model X.prog X.w) X.A (call (.ref f) us) (EP X pins σ Q) X.xe s := by
  have r2 : Vals (vs ++ dvs) (us ++ ds) := r.append hd
  have hl : (us ++ ds).length = ps.length := by rw [← r2.length]; exact F.len _ _ _ _ h
  refine wpAny_call (codeAny_mono (F.run X.A X.stack s H ⟨us, []⟩ (us ++ ds) (vs ++ dvs) Q E hgd hr I.env0 (hb s us I.kIn hl) r2 h) fun r s' hq => ?_)
  cases r with
  | error e => exact hx pins σ H s e s' I hq
  | ok fl =>
    cases fl with
    | ret u => exact I.after hq
    | next => exact False.elim hq
    | brk => exact False.elim hq
    | cont => exact False.elim hq
theorem pe_callG (F : FnG X.prog X.w X.K X.mg X.base CX k f fd ps sp) (hgd : X.A.guards = some []) (hr : Room k X.A) (hg : Gl X x) (hm : X.mg x = some (.ref f)) (hk : PySem.W.keepIn X.K (.ref f) = true) (hb : Binds X.K fd ps ds) (hd : Vals dvs ds) (hx : Passes CX X E)
    (ha : PA X (e :: es) t) (hdb : (x == ("__debug__" : Str)) = false := by decide) (he : starEach (e :: es) X.env = (false, eval e X.env) :: starEach es X.env := by rfl) (hpl : (backTo pos (starEach es X.env)).any (·.1) = false := by rfl) :
    PE X (.Call (.Name x p) (e :: es) [] pos) (tCall sp dvs E t) := by
  refine ⟨fun pins s σ H Q I h => ?_⟩
  refine wpAny_Call_Name_kw (ld_glob I hg hm ?_ hdb)
  refine PySem.W.callWith_K (h₀ := X.base) I.ok.mod.kin hk (thn (ha.run pos pins s σ H _ I h) fun us s1 ⟨vs, H1, I1, r, q⟩ => ⟨I1.kIn, ?_⟩) he hpl
  exact run_fnG F hgd hr hb hd hx I1 r q
/-! ### repr of nested data -/
def rReprD (K : PySem.W.Frag) : List V → Hp → VK → Prop := fun xs H Q => ∃ (a : Addr) (d : PyData), xs = [.ref a] ∧ Dp K H (.ref a) d ∧ d.showable = true ∧ d.hasDict = false ∧ d.depth ≤ 20 ∧ d.shown.length ≤ sizeLine ∧ Q (.str d.shown) H
theorem cr_reprD (hgd : X.A.guards = some []) (hr : X.A.units + 64 < cLine) : CallR X (.builtin "repr") (rReprD X.K) := by
  intro pins s σ H xs us Q I r h
  obtain ⟨a, d, rfl, hd, hs, hdc, hdp, hsz, q⟩ := h
  obtain ⟨u, rfl, ru⟩ := vals1 r
  obtain rfl : u = Value.ref a := ru
  obtain ⟨as, rd⟩ := Dp.reads I d _ _ hd (show L2.RelV (.ref a) (Value.ref a) from rfl)
  refine repr_of_reads' rd hs (fun h => by rw [hdc] at h; cases h) hgd (by omega) (fun b o e => e) (fun h' u tk hk => ?_) hsz
  exact ⟨.str d.shown, H, I.kept (t' := tk) hk, ⟨u, rfl⟩, q⟩
end
/-! ### the law's end, with that -/
theorem law_callG {P : Program} {w : World} {K : PySem.W.Frag} {mg mb : Str → Option Value} {CX : CXT} {k : Nat} {fa a : Addr} {fd : FuncData} {x : Str} {sp : Sp} {s₁ : Shared} {vs : List Value} {ns : List Int}
    (KX : K.In s₁.heap) (hns : s₁.heap.Ns mainGlobals mg) (hb : s₁.heap.Ns builtinsNs mb) (hbb : ∀ x : Str, x ≠ "__name__" → mb x = bootBuiltins x) (hlim : s₁.heap.NoLimit) (hg : s₁.gens = #[])
    (ha : s₁.heap.get? a = some { cls := .type "list", data := .seq vs.toArray }) (hi : IntsAre vs ns) (hl : ns.length ≤ sizeLine) (hr : Room k callerA)
    (F : ∀ base : Heap, K.In base → base.Ns mainGlobals mg → FnG P w K mg base CX k fa fd [x] sp) (hbind : ∀ (s : Shared) (u : Value), BindsTo s fd ⟨[u], []⟩ [(x, u)])
    (hsp : ∀ H : Hp, Only H → SqL K H a (ns.map V.int) → sp [.ref a] H (fun v _ => v = .bl true) fun _ _ _ => False)
    (hCX : ∀ H e s', CX [] H s₁ (fun _ _ _ => False) e s' → False) :
    codeAny (model P w) callerA (.call (.ref fa) ⟨[.ref a], []⟩) (fun r s' => r = .ok (.ret (.bool true)) ∧ OldK s₁.heap s'.heap ∧ s'.os = s₁.os ∧ AllBare s'.gens) s₁ := by
  have rv := vals_ints hi
  have lenV := hi.length
  have core : ∀ H : Hp, Only H → SqL K H a (ns.map V.int) → HOk P w H s₁.heap → (∀ b, H b ≠ none → b = a) → (H a ≠ none → K.lookup a = none) →
      codeAny (model P w) callerA (.call (.ref fa) ⟨[.ref a], []⟩) (fun r s' => r = .ok (.ret (.bool true)) ∧ OldK s₁.heap s'.heap ∧ s'.os = s₁.os ∧ AllBare s'.gens) s₁ := by
    intro H hO hS hok hA hK
    have base_of : ∀ {b : Addr} {o : Obj}, s₁.heap.get? b = some o → H b = none → (hidT s₁.heap H).get? b = some o := fun e n => hidT_get e n
    have noA : ∀ {b : Addr} {o : Obj} {es : Array DictEntry} {ep : Nat}, s₁.heap.get? b = some o → o.data = .dict es ep → H b = none := fun {b o es ep} e d => by
      cases q : H b with
      | none => rfl
      | some u =>
        have e' : b = a := hA b (by rw [q]; simp)
        subst e'
        rw [ha] at e; cases e
        have d' : Data.seq vs.toArray _ = Data.dict es ep := d
        cases d'
    have nsK : ∀ {b : Addr} {m : Str → Option Value}, s₁.heap.Ns b m → (hidT s₁.heap H).Ns b m := fun {b m} ⟨o, es, ep, e, d, r⟩ => ⟨o, es, ep, base_of e (noA e d), d, r⟩
    have hKb : K.In (hidT s₁.heap H) := fun b o e => base_of (KX b o e) (by
      cases q : H b with
      | none => rfl
      | some u =>
        have e' : b = a := hA b (by rw [q]; simp)
        subst e'
        rw [hK (by rw [q]; simp)] at e; cases e)
    have hM : Mod K mg (hidT s₁.heap H) := ⟨hKb, nsK hns, ⟨mb, nsK hb, hbb⟩, let ⟨mc, h1, h2⟩ := hlim; ⟨mc, nsK h1, h2⟩⟩
    have e0 : Env0 P w K mg (hidT s₁.heap H) callerA [] s₁ H := ⟨rfl, hM, fun b o e => of_hidT e, Nat.le_of_eq (hidT_size _ _), trivial, fun b hb => absurd (show b ∈ ([] : List Addr) from hb) (by simp), hok, .of_eq hg⟩
    refine codeAny_mono ((F _ hKb (nsK hns)).run callerA [] s₁ H ⟨[.ref a], []⟩ [.ref a] [.ref a] _ _ rfl hr e0 (hbind s₁ (.ref a)) (.cons rfl .nil) (hsp H hO hS)) fun r s' h => ?_
    cases r with
    | error e => exact (hCX H e s' h).elim
    | ok fl =>
      cases fl with
      | next => exact False.elim h
      | brk => exact False.elim h
      | cont => exact False.elim h
      | ret u =>
        obtain ⟨v, H', os, bare, un, hok', r', q⟩ := h
        have q' : v = .bl true := q
        subst q'
        obtain rfl : u = Value.bool true := r'
        refine ⟨rfl, OldK.of_keep fun b o e => ?_, os, bare⟩
        cases q : H b with
        | none => exact un.keep b o e q (by intro z; exact absurd (show b ∈ ([] : List Addr) from z) (by simp)) (by simp)
        | some u =>
          rcases hO b with z | ⟨ob, xs, z⟩
          · rw [q] at z; cases z
          · have z2 := un.frzs b ob _ z
            obtain ⟨e1, _⟩ := hok b _ z
            obtain ⟨e2, _⟩ := hok' b _ z2
            rw [e] at e1; cases e1
            exact e2
  cases hk : K.lookup a with
  | some o =>
    have e := KX a o hk
    rw [ha] at e
    cases e
    refine core (fun _ => none) (fun _ => .inl rfl) (.inr ⟨_, vs.toArray, _, hk, rfl, rfl, rfl, by rw [List.size_toArray, lenV]; exact hl, by simpa using rv⟩) (fun b u z => by have z' : (none : Option HO) = some u := z; cases z') (fun b z => absurd rfl z) fun z => absurd rfl z
  | none =>
    refine core (fun b => if b = a then some (.frz { cls := .type "list", data := .seq vs.toArray } (.lst (ns.map V.int))) else none) (fun b => ?_) (.inl (.inr ⟨{ cls := .type "list", data := .seq vs.toArray }, if_pos rfl⟩)) (fun b u z => ?_) (fun b z => ?_) fun _ => hk
    · by_cases hb : b = a
      · exact .inr ⟨_, _, if_pos hb⟩
      · exact .inl (if_neg hb)
    · by_cases hb : b = a
      · have z' := (if_pos hb).symm.trans z
        cases z'
        subst hb
        exact ⟨ha, by rw [List.length_map]; exact hl, vs, _, rv, ha⟩
      · have z' := (if_neg hb).symm.trans z
        cases z'
    · by_cases hb : b = a
      · exact hb
      · exact absurd (if_neg hb) z
theorem walk_ofG {l : PySem.W.OpenLaw} {n k : Nat} {q : Program} {loose : List Str} {XP : (Str → Option Value) → Heap → Prop} {YP : World → Heap → Prop} {d : DefRec} {CX : CXT} {x : Str}
    (hn : l.most = some n) (hn2 : n ≤ sizeLine) (hdf : d.params.defaults = []) (hr : Room k callerA)
    (F : ∀ (w : World) (mg : Str → Option Value) (fa : Addr) (h : Heap), YP w h → h.Ns mainGlobals mg → mg d.name = some (.ref fa) →
      ∃ (K : PySem.W.Frag) (fd : FuncData) (sp : Sp), K.In h ∧ (∀ (s : Shared) (u : Value), BindsTo s fd ⟨[u], []⟩ [(x, u)]) ∧
        (∀ (H : Hp) (a : Addr) (ns : List Int), ns.length ≤ n → Only H → SqL K H a (ns.map V.int) → sp [.ref a] H (fun v _ => v = .bl true) fun _ _ _ => False) ∧
        ∀ base : Heap, K.In base → base.Ns mainGlobals mg → FnG l.prog w K mg base CX k fa fd [x] sp)
    (hCX : ∀ (H : Hp) (s : Shared) (e : Value) (s' : Shared), CX [] H s (fun _ _ _ => False) e s' → False) :
    PySem.W.WalkO q loose XP YP l.row.toRowW d [] (fun f vs => PySem.call f vs) := by
  refine Att.attach_call hn hdf fun w s₀ s₁ mg mb fa o pm cd doc a vs ns G Y ho hd hcd hmg hobj hints hlen hg => ?_
  obtain ⟨K, fd, sp, KX, hb, hsp, hF⟩ := F w mg fa _ Y G.T.g hmg
  exact law_callG KX G.T.g G.T.b G.T.builtins G.T.nolimit hg hobj hints (Nat.le_trans hlen hn2) hr hF hb (fun H hO hS => hsp H a ns hlen hO hS) fun H e s' => hCX H s₁ e s'
end RS
namespace RS
open PySem PySem.Spec PyProof.Rows L2 PySem.W
section
variable {prog : Program} {w : World} {A : Around} {E : Value → Shared → Prop} {s : Shared} {K : Frag} {x y C f : Addr} {ox oy : Obj} {od od' : Option Obj}
/-- a special method that is a built-in's -/
theorem special_built {M : Model} {id : String} {name : Str} {args : List Value} {Q : Option Value → Shared → Prop} (X : K.In s.heap) (I : InstAt s.heap x ox C od) (hs : findIn K (.ref C) name = some (some (.builtin id)))
    (hb : bindSpecial (.builtin id) (.ref x) = pure (.builtin id, [.ref x])) (h : wpAny M A (call (.builtin id) (.ref x :: args)) (fun v => Q (some v)) E s) : wpAny M A (callSpecialIfBound? (.ref x) name args) Q E s := by
  simp only [callSpecialIfBound?, bindSpecialIfBound?]
  refine wpAny_holding (wpAny_bind (wpAny_bind (wpAny_bind (I.type.here ((looks_findIn X hs).here ?_)))))
  simp only [hb]
  refine wpAny_bind (wpAny_askSetting (wpAny_ite ?_))
  have last : wpAny M A (call (.builtin id) ([.ref x] ++ args) >>= fun v => pure (some v)) Q E s := wpAny_bind (wpAny_mono h (fun v s' q => wpAny_pure q) fun _ _ q => q)
  split
  · exact wpAny_bind (wpAny_pure (wpAny_pure last))
  · exact wpAny_tryCatch (wpAny_bind (wpAny_pure (wpAny_pure last)))
/-- != of two instances of one class with an own == -/
theorem ne_own {Q : Value → Shared → Prop} (hu : A.units + 1 < cLine) (X : K.In s.heap) (I : InstAt s.heap x ox C od) (J : InstAt s.heap y oy C od')
    (hne : findIn K (.ref C) "__ne__" = some (some (.builtin "object.__ne__"))) (heq : findIn K (.ref C) "__eq__" = some (some (.ref f))) (hf : isFn K (.ref f) = true) (hsub : subIn K (.ref C) (.type "object") = some true)
    (h : wpAny (model prog w) A.in1 (call (.ref f) [.ref x, .ref y]) (fun v s' => ∃ b, v = .bool b ∧ Q (.bool (!b)) s') E s) : wpAny (model prog w) A (compareOp .NotEq (.ref x) (.ref y)) Q E s := by
  refine cmp_ofNotEq ?_
  have inner : wpAny (model prog w) A (call (.builtin "object.__ne__") [.ref x, .ref y]) (fun v s' => ∃ b, v = .bool b ∧ Q (.bool b) s') E s := by
    refine wpAny_call (codeAny_call_builtin F.cmp_object.ne.plain F.cmpEntry_ne (check_slot F.cmpKind_ne F.cmpSplit_ne (I.type.andThen (looks_subIn X hsub)) (F.cmpArgs_ne _ _) ?_))
    unfold Builtin.«object.__ne__»
    obtain ⟨hp, g, d, tk, os⟩ := s
    repeat (first
      | with_reducible refine wpAny_cRoomFor hu ?_
      | (refine wpAny_bind (m := callSpecialIfBound? (.ref x) (Str.ofString "__eq__") [.ref y])
          (ifBound_K X I heq hf (wpAny_mono h (fun r s' hr => by
            obtain ⟨b, rfl, hq⟩ := hr
            repeat (first | exact ⟨_, rfl, hq⟩ | exact wpAny_pure ⟨_, rfl, hq⟩ | exact wpAny_truthy_bool ⟨_, rfl, hq⟩ | (refine wpAny_bind (m := truthy (.bool _)) (wpAny_truthy_bool ?_)) | wp_step)) fun _ _ e => e)))
      | wp_step)
  have one : wpAny (model prog w) A (tryCompare (.ref x) "__ne__" (.ref y)) (fun r s' => ∃ b, r = some (.bool b) ∧ Q (.bool b) s') E s := by
    unfold tryCompare
    refine wpAny_bind (special_built X I hne (F.cmp_object.ne.bind _) (wpAny_mono inner (fun v s' hv => ?_) fun _ _ e => e))
    obtain ⟨b, rfl, q⟩ := hv
    exact wpAny_pure ⟨b, rfl, q⟩
  unfold richCompare
  simp only [oneThing_ref]
  refine wpAny_holding (wpAny_bind (wpAny_cRoomFor (Nat.lt_of_succ_lt hu) ?_))
  rw [cmpInfo_NotEq]
  dsimp only
  refine wpAny_bind (I.type.here (wpAny_bind (J.type.here ?_)))
  rw [show (Value.ref C != Value.ref C) = false from by simp]
  simp only [Bool.false_eq_true, if_false]
  refine wpAny_bind (wpAny_pure ?_)
  simp only [Bool.false_eq_true, if_false]
  refine wpAny_bind (wpAny_mono one (fun r s' z => ?_) fun _ _ e => e)
  obtain ⟨b, rfl, hq⟩ := z
  exact wpAny_pure hq
end
end RS
namespace RS
open PySem PySem.Spec PyProof.Rows L2
section
variable {X : Cx}
/-- what != of two instances asks: the promise of the own == -/
def rNeI (C : Addr) (sp : Sp) : R2 := fun x y H Q => ∃ a b dx dy fs gs, x = .ref a ∧ y = .ref b ∧ H a = some (.ins C dx fs) ∧ H b = some (.ins C dy gs) ∧ sp [.ref a, .ref b] H (fun v H' => ∃ k, v = .bl k ∧ Q (.bl (!k)) H') E0
theorem op_neI {n : Nat} {C f : Addr} {fd : FuncData} {ps : List Str} {sp : Sp} (hr : Room (n + 1) X.A) (F : FnOk X.prog X.w X.K X.mg X.base CX0 n f fd ps sp) (hb : Binds X.K fd ps [])
    (hne : PySem.W.findIn X.K (.ref C) "__ne__" = some (some (.builtin "object.__ne__"))) (heq : PySem.W.findIn X.K (.ref C) "__eq__" = some (some (.ref f))) (hf : PySem.W.isFn X.K (.ref f) = true) (hsub : PySem.W.subIn X.K (.ref C) (.type "object") = some true) :
    OpR X (compareOp .NotEq) (rNeI C sp) := by
  intro pins s σ H x y v u Q I rx ry h
  obtain ⟨a, b, dx, dy, fs, gs, rfl, rfl, ha, hb', hsp⟩ := h
  obtain rfl : v = Value.ref a := rx
  obtain rfl : u = Value.ref b := ry
  obtain ⟨mA, J, _⟩ := ins_get I.hok ha
  obtain ⟨mB, J', _⟩ := ins_get I.hok hb'
  obtain ⟨od, J, _⟩ := J.look
  obtain ⟨od', J', _⟩ := J'.look
  refine ne_own (by have := hr.un; omega) I.kIn J J' hne heq hf hsub ?_
  have ev0 := I.env0
  have e0 : Env0 X.prog X.w X.K X.mg X.base X.A.in1 X.stack s H := ev0.in1
  have hl := F.len _ _ _ _ hsp
  have r2 : Vals [V.ref a, V.ref b] [Value.ref a, Value.ref b] := .cons rfl (.cons rfl .nil)
  refine wpAny_call (codeAny_mono (F.run X.A.in1 X.stack s H ⟨[.ref a, .ref b], []⟩ [.ref a, .ref b] [.ref a, .ref b] _ E0 hr.in1 e0 (by
    have := hb s [.ref a, .ref b] I.kIn (by simpa using hl)
    simpa using this) r2 hsp) fun r s' hq => ?_)
  cases r with
  | error e => exact hq.elim
  | ok fl =>
    cases fl with
    | ret w =>
      obtain ⟨z, H', I', rz, k, ez, q⟩ := I.after hq
      subst ez
      cases rz
      exact ⟨k, rfl, .bl (!k), H', I', rfl, q⟩
    | next => exact False.elim hq
    | brk => exact False.elim hq
    | cont => exact False.elim hq
end
end RS
namespace RS
open PySem PySem.Spec PyProof.Rows L2
open C8 (Cal Mak Met pe_c pe_mk pe_mt pe_mt0 pe_gc)
open LiI (pe_listItems)
def top (i : Nat) : Stmt := PySem.Challenge.pw_ruleshadows_k48_whole_shadows_and_fit_of.main.body.getD i (.Pass ⟨0, 0, 0, 0⟩)
/-- the addresses: the class Rules, the class Rungs, the tuple PRIMES -/
structure Ad where
  C : Addr
  R : Addr
  P : Addr
def primes : List Int := [2, 3, 5, 7, 11, 13, 17, 19, 23, 29, 31, 37, 41, 43, 47, 53, 59, 61, 67, 71, 73, 79, 83, 89, 97]
/-- what the walk asks of the module behind its top -/
structure Tx (K : PySem.W.Frag) (mg : Str → Option Value) (d : Ad) : Prop where
  isinstance : mg "isinstance" = none
  len : mg "len" = none
  all : mg "all" = none
  range : mg "range" = none
  enumerate : mg "enumerate" = none
  zip : mg "zip" = none
  sorted : mg "sorted" = none
  min : mg "min" = none
  abs : mg "abs" = none
  repr : mg "repr" = none
  int_ : mg "int" = none
  bool_ : mg "bool" = none
  list_ : mg "list" = none
  tuple_ : mg "tuple" = none
  dict_ : mg "dict" = none
  pr : mg "PRIMES" = some (.ref d.P)
  primesT : ∀ H, SqT K H d.P (primes.map V.int)
  most9 : ∃ t, mg "MOST_LETTERS" = some (.int 9 t)
  most1000 : ∃ t, mg "MOST_WORDS" = some (.int 1000 t)
  rules : mg "Rules" = some (.ref d.C)
  clR : Cls K d.C
  insC : C8.InsC K d.C
  nP : NoAttr K d.C "prime"
  nL : NoAttr K d.C "letters"
  nR : NoAttr K d.C "rules"
  neR : PySem.W.findIn K (.ref d.C) "__ne__" = some (some (.builtin "object.__ne__"))
  subR : PySem.W.subIn K (.ref d.C) (.type "object") = some true
  rungs : mg "Rungs" = some (.ref d.R)
  clU : Cls K d.R
  nU : ∀ f ∈ (["prime", "letters", "many", "heads", "places", "commons"] : List Str), NoAttr K d.R f
/-- a def of the module as it stands behind the top -/
structure Df (K : PySem.W.Frag) (mg : Str → Option Value) (x : Str) (st : Stmt) : Prop where
  ex : ∃ (f : Addr) (fd : FuncData), FunD K x x (defArgs st) (defBody st) (defScope st) [] [] f fd ∧ mg x = some (.ref f)
section
variable {P : Program} {w : World} {K : PySem.W.Frag} {mg : Str → Option Value} {base : Heap} {d : Ad}
theorem mkCal {x : Str} {st : Stmt} {N ps : List Str} {k : Nat} {sp : Sp} (D : Df K mg x st) (S : FnScope N ps (defScope st)) (len : ∀ vs H Q E, sp vs H Q E → vs.length = ps.length)
    (hb : ∀ (kV doc pm : Value) (an : Option Addr) (cdv ct : Value) (us : List Value), us.length = ps.length → bindArgs (PySem.W.fnOf x x (defArgs st) (defBody st) (defScope st) .none kV doc pm an cdv ct) ⟨us, []⟩ = pure (ps.zip us))
    (hbody : ∀ (f : Addr) (cdv : Value) (A : Around) (outer : List Env) (s : Shared) (H : Hp) (vs : List V) (Q : VK) (E : XK), Room k (A.deeper (envOfC x (defScope st) s.heap.objs.size f cdv)) → sp vs H Q E →
      ∃ t, PSs (cxOf CX0 P w K mg base N x (defScope st) f cdv A outer s H E).nox (defBody st) t ∧ t { nx := fun _ H' => Q .non H', rt := Q } (start N vs) H) : Cal P w K mg base (k + 1) x sp [] := by
  obtain ⟨f, fd, F, hm⟩ := D.ex
  refine ⟨⟨f, fd, ps, [], F.ok S len fun cdv A outer s H vs Q E hr hs => ?_, hm, F.kp, F.bindsN hb, .nil⟩⟩
  obtain ⟨t, h1, h2⟩ := hbody f cdv A outer s H vs Q E hr hs
  exact ⟨t, h1.nox, h2⟩
section
variable {X : Cx}
theorem g_PRIMES (T : Tx X.K X.mg d) {pos : Pos} (hg : Gl X "PRIMES" := by rfl) : PE X (.Name "PRIMES" pos) (tC (.ref d.P)) := pe_gc hg ⟨_, T.pr, rfl⟩
theorem g_MOST_LETTERS (T : Tx X.K X.mg d) {pos : Pos} (hg : Gl X "MOST_LETTERS" := by rfl) : PE X (.Name "MOST_LETTERS" pos) (tC (.int 9)) := pe_gc hg (let ⟨t, h⟩ := T.most9; ⟨_, h, t, rfl⟩)
theorem g_MOST_WORDS (T : Tx X.K X.mg d) {pos : Pos} (hg : Gl X "MOST_WORDS" := by rfl) : PE X (.Name "MOST_WORDS" pos) (tC (.int 1000)) := pe_gc hg (let ⟨t, h⟩ := T.most1000; ⟨_, h, t, rfl⟩)
theorem g_Rules (T : Tx X.K X.mg d) {pos : Pos} (hg : Gl X "Rules" := by rfl) : PE X (.Name "Rules" pos) (tC (.ref d.C)) := pe_gc hg ⟨_, T.rules, rfl⟩
end
/-! ### what is only read -/
/-- all that may be read may still be read -/
def RdE (H H' : Hp) : Prop := ∀ a u, Rd H a u → Rd H' a u
theorem RdE.refl (H : Hp) : RdE H H := fun _ _ h => h
theorem RdE.trans {H H1 H2 : Hp} (a : RdE H H1) (b : RdE H1 H2) : RdE H H2 := fun x u h => b x u (a x u h)
theorem Same.rd {H H' : Hp} (e : Same H H') : RdE H H' := fun a u h => h.elim (fun h => .inl (e a _ h)) fun ⟨o, h⟩ => .inr ⟨o, e a _ h⟩
theorem Same.new {H : Hp} {p : Addr} {o : HO} (h : H p = none) : Same H (upd H p o) := fun b u e => by rw [upd_ne (ne_of_none e h)]; exact e
theorem Same.mut {H H' : Hp} {p : Addr} {o : HO} (e : Same H H') (h : H p = none) : Same H (upd H' p o) := fun b u hb => by rw [upd_ne (ne_of_none hb h)]; exact e b u hb
/-- a dict locked for a walk may still be read -/
theorem RdE.lock {H : Hp} {d : Addr} {kvs : List (Key × V)} {o : Obj} (h : H d = some (.dK kvs)) : RdE H (upd H d (.frz o (.dK kvs))) := fun a z hz => by
  by_cases e : a = d
  · subst e
    rcases hz with hz | ⟨o', hz⟩
    · rw [h] at hz
      cases hz
      exact .inr ⟨o, upd_same⟩
    · rw [h] at hz
      cases hz
  · rcases hz with hz | ⟨o', hz⟩
    · exact .inl (by rw [upd_ne e]; exact hz)
    · exact .inr ⟨o', by rw [upd_ne e]; exact hz⟩
/-- .. and all is as it was when it is let go -/
theorem Same.unlock {H H' : Hp} {d : Addr} {u z : HO} (h : H d = some u) (e : Same (upd H d z) H') : Same H (upd H' d u) := fun b v hb => by
  by_cases q : b = d
  · subst q
    rw [h] at hb
    cases hb
    exact upd_same
  · rw [upd_ne q]
    exact e b v (by rw [upd_ne q]; exact hb)
theorem SqL.rdE {H H' : Hp} {a : Addr} {xs : List V} (e : RdE H H') (h : SqL K H a xs) : SqL K H' a xs := h.elim (fun h => .inl (e a _ h)) .inr
theorem SqT.rdE {H H' : Hp} {a : Addr} {xs : List V} (e : RdE H H') (h : SqT K H a xs) : SqT K H' a xs := h.elim (fun h => .inl (e a _ h)) .inr
end
end RS
set_option maxHeartbeats 0
namespace RS
open PySem PySem.Spec PyProof.Rows L2
/-! ### what the top leaves -/
def dd__law_begun : He.DefD := ⟨("_law_begun", none), "_law_begun", "_law_begun", defArgs (top 59), defBody (top 59), defScope (top 59), [], []⟩
def dd__law_mixed : He.DefD := ⟨("_law_mixed", none), "_law_mixed", "_law_mixed", defArgs (top 60), defBody (top 60), defScope (top 60), [], []⟩
def dd__law_take : He.DefD := ⟨("_law_take", none), "_law_take", "_law_take", defArgs (top 61), defBody (top 61), defScope (top 61), [], []⟩
def dd__law_pick : He.DefD := ⟨("_law_pick", none), "_law_pick", "_law_pick", defArgs (top 62), defBody (top 62), defScope (top 62), [], []⟩
def dd__law_field : He.DefD := ⟨("_law_field", none), "_law_field", "_law_field", defArgs (top 66), defBody (top 66), defScope (top 66), [], []⟩
def dd__law_pairs : He.DefD := ⟨("_law_pairs", none), "_law_pairs", "_law_pairs", defArgs (top 78), defBody (top 78), defScope (top 78), [], []⟩
def dd__law_at_words : He.DefD := ⟨("_law_at_words", none), "_law_at_words", "_law_at_words", defArgs (top 77), defBody (top 77), defScope (top 77), [], []⟩
def dd__law_single : He.DefD := ⟨("_law_single", none), "_law_single", "_law_single", defArgs (top 67), defBody (top 67), defScope (top 67), [], []⟩
def dd__law_web_rules : He.DefD := ⟨("_law_web_rules", none), "_law_web_rules", "_law_web_rules", defArgs (top 79), defBody (top 79), defScope (top 79), [], []⟩
def dd__law_family_rules : He.DefD := ⟨("_law_family_rules", none), "_law_family_rules", "_law_family_rules", defArgs (top 80), defBody (top 80), defScope (top 80), [], []⟩
def dd__law_loose_rules : He.DefD := ⟨("_law_loose_rules", none), "_law_loose_rules", "_law_loose_rules", defArgs (top 81), defBody (top 81), defScope (top 81), [], []⟩
def dd__law_undone : He.DefD := ⟨("_law_undone", none), "_law_undone", "_law_undone", defArgs (top 65), defBody (top 65), defScope (top 65), [], []⟩
def dd__law_whole : He.DefD := ⟨("_law_whole", none), "_law_whole", "_law_whole", defArgs (top 70), defBody (top 70), defScope (top 70), [], []⟩
def dd__law_word_here : He.DefD := ⟨("_law_word_here", none), "_law_word_here", "_law_word_here", defArgs (top 72), defBody (top 72), defScope (top 72), [], []⟩
def dd__law_followed : He.DefD := ⟨("_law_followed", none), "_law_followed", "_law_followed", defArgs (top 73), defBody (top 73), defScope (top 73), [], []⟩
def dd__law_letters_led : He.DefD := ⟨("_law_letters_led", none), "_law_letters_led", "_law_letters_led", defArgs (top 74), defBody (top 74), defScope (top 74), [], []⟩
def dd__law_cleared : He.DefD := ⟨("_law_cleared", none), "_law_cleared", "_law_cleared", defArgs (top 68), defBody (top 68), defScope (top 68), [], []⟩
def dd__law_tidied : He.DefD := ⟨("_law_tidied", none), "_law_tidied", "_law_tidied", defArgs (top 75), defBody (top 75), defScope (top 75), [], []⟩
def dd__law_case_of : He.DefD := ⟨("_law_case_of", none), "_law_case_of", "_law_case_of", defArgs (top 82), defBody (top 82), defScope (top 82), [], []⟩
def dd__law_case_over : He.DefD := ⟨("_law_case_over", none), "_law_case_over", "_law_case_over", defArgs (top 86), defBody (top 86), defScope (top 86), [], []⟩
def dd__law_two_cases : He.DefD := ⟨("_law_two_cases", none), "_law_two_cases", "_law_two_cases", defArgs (top 87), defBody (top 87), defScope (top 87), [], []⟩
def dd__law_shuffled : He.DefD := ⟨("_law_shuffled", none), "_law_shuffled", "_law_shuffled", defArgs (top 63), defBody (top 63), defScope (top 63), [], []⟩
def dd__law_raw : He.DefD := ⟨("_law_raw", none), "_law_raw", "_law_raw", defArgs (top 71), defBody (top 71), defScope (top 71), [], []⟩
def dd_is_number : He.DefD := ⟨("is_number", none), "is_number", "is_number", defArgs (top 11), defBody (top 11), defScope (top 11), [], []⟩
def dd_need_prime : He.DefD := ⟨("need_prime", none), "need_prime", "need_prime", defArgs (top 16), defBody (top 16), defScope (top 16), [], []⟩
def dd_is_between : He.DefD := ⟨("is_between", none), "is_between", "is_between", defArgs (top 12), defBody (top 12), defScope (top 12), [], []⟩
def dd_need_letters : He.DefD := ⟨("need_letters", none), "need_letters", "need_letters", defArgs (top 17), defBody (top 17), defScope (top 17), [], []⟩
def dd_is_list : He.DefD := ⟨("is_list", none), "is_list", "is_list", defArgs (top 13), defBody (top 13), defScope (top 13), [], []⟩
def dd_is_row : He.DefD := ⟨("is_row", none), "is_row", "is_row", defArgs (top 14), defBody (top 14), defScope (top 14), [], []⟩
def dd_are_rows : He.DefD := ⟨("are_rows", none), "are_rows", "are_rows", defArgs (top 15), defBody (top 15), defScope (top 15), [], []⟩
def dd_need_rows : He.DefD := ⟨("need_rows", none), "need_rows", "need_rows", defArgs (top 20), defBody (top 20), defScope (top 20), [], []⟩
def dd_few : He.DefD := ⟨("few", none), "few", "few", defArgs (top 23), defBody (top 23), defScope (top 23), [], []⟩
def dd_lessened : He.DefD := ⟨("lessened", none), "lessened", "lessened", defArgs (top 25), defBody (top 25), defScope (top 25), [], []⟩
def dd_cleared : He.DefD := ⟨("cleared", none), "cleared", "cleared", defArgs (top 26), defBody (top 26), defScope (top 26), [], []⟩
def dd_undone : He.DefD := ⟨("undone", none), "undone", "undone", defArgs (top 22), defBody (top 22), defScope (top 22), [], []⟩
def dd_heads_of : He.DefD := ⟨("heads_of", none), "heads_of", "heads_of", defArgs (top 27), defBody (top 27), defScope (top 27), [], []⟩
def dd_whole_row : He.DefD := ⟨("whole_row", none), "whole_row", "whole_row", defArgs (top 24), defBody (top 24), defScope (top 24), [], []⟩
def dd_tidy_rows : He.DefD := ⟨("tidy_rows", none), "tidy_rows", "tidy_rows", defArgs (top 28), defBody (top 28), defScope (top 28), [], []⟩
def dd_Rules___init__ : He.DefD := ⟨("Rules", some "__init__"), "__init__", "Rules.__init__", defArgs (inClass (top 31) 0), defBody (inClass (top 31) 0), defScope (inClass (top 31) 0), [], []⟩
def dd__law_made_rules : He.DefD := ⟨("_law_made_rules", none), "_law_made_rules", "_law_made_rules", defArgs (top 83), defBody (top 83), defScope (top 83), [], []⟩
def dd_need_book : He.DefD := ⟨("need_book", none), "need_book", "need_book", defArgs (top 32), defBody (top 32), defScope (top 32), [], []⟩
def dd_dark_rows : He.DefD := ⟨("dark_rows", none), "dark_rows", "dark_rows", defArgs (top 29), defBody (top 29), defScope (top 29), [], []⟩
def dd_shadow_of : He.DefD := ⟨("shadow_of", none), "shadow_of", "shadow_of", defArgs (top 56), defBody (top 56), defScope (top 56), [], []⟩
def dd_shadow : He.DefD := ⟨("shadow", none), "shadow", "shadow", defArgs (top 57), defBody (top 57), defScope (top 57), [], []⟩
def dd_need_one_prime : He.DefD := ⟨("need_one_prime", none), "need_one_prime", "need_one_prime", defArgs (top 34), defBody (top 34), defScope (top 34), [], []⟩
def dd_need_made : He.DefD := ⟨("need_made", none), "need_made", "need_made", defArgs (top 35), defBody (top 35), defScope (top 35), [], []⟩
def dd_widened : He.DefD := ⟨("widened", none), "widened", "widened", defArgs (top 36), defBody (top 36), defScope (top 36), [], []⟩
def dd_crossed : He.DefD := ⟨("crossed", none), "crossed", "crossed", defArgs (top 37), defBody (top 37), defScope (top 37), [], []⟩
def dd_sides_of : He.DefD := ⟨("sides_of", none), "sides_of", "sides_of", defArgs (top 38), defBody (top 38), defScope (top 38), [], []⟩
def dd_free_sides : He.DefD := ⟨("free_sides", none), "free_sides", "free_sides", defArgs (top 39), defBody (top 39), defScope (top 39), [], []⟩
def dd_shut_sides : He.DefD := ⟨("shut_sides", none), "shut_sides", "shut_sides", defArgs (top 40), defBody (top 40), defScope (top 40), [], []⟩
def dd_ahead_sides : He.DefD := ⟨("ahead_sides", none), "ahead_sides", "ahead_sides", defArgs (top 41), defBody (top 41), defScope (top 41), [], []⟩
def dd_behind_sides : He.DefD := ⟨("behind_sides", none), "behind_sides", "behind_sides", defArgs (top 42), defBody (top 42), defScope (top 42), [], []⟩
def dd_weighed_sides : He.DefD := ⟨("weighed_sides", none), "weighed_sides", "weighed_sides", defArgs (top 43), defBody (top 43), defScope (top 43), [], []⟩
def dd_Rules___eq__ : He.DefD := ⟨("Rules", some "__eq__"), "__eq__", "Rules.__eq__", defArgs (inClass (top 31) 1), defBody (inClass (top 31) 1), defScope (inClass (top 31) 1), [], []⟩
def dd__law_is_rules : He.DefD := ⟨("_law_is_rules", none), "_law_is_rules", "_law_is_rules", defArgs (top 84), defBody (top 84), defScope (top 84), [], []⟩
def dd__law_still : He.DefD := ⟨("_law_still", none), "_law_still", "_law_still", defArgs (top 69), defBody (top 69), defScope (top 69), [], []⟩
def dd__law_dark : He.DefD := ⟨("_law_dark", none), "_law_dark", "_law_dark", defArgs (top 76), defBody (top 76), defScope (top 76), [], []⟩
def dd__law_shadowed : He.DefD := ⟨("_law_shadowed", none), "_law_shadowed", "_law_shadowed", defArgs (top 85), defBody (top 85), defScope (top 85), [], []⟩
def dd__law_short : He.DefD := ⟨("_law_short", none), "_law_short", "_law_short", defArgs (top 88), defBody (top 88), defScope (top 88), [], []⟩
def dd__law_is_truth : He.DefD := ⟨("_law_is_truth", none), "_law_is_truth", "_law_is_truth", defArgs (top 64), defBody (top 64), defScope (top 64), [], []⟩
def dd_need_from : He.DefD := ⟨("need_from", none), "need_from", "need_from", defArgs (top 18), defBody (top 18), defScope (top 18), [], []⟩
def dd_many_words : He.DefD := ⟨("many_words", none), "many_words", "many_words", defArgs (top 19), defBody (top 19), defScope (top 19), [], []⟩
def dd_placed_few : He.DefD := ⟨("placed_few", none), "placed_few", "placed_few", defArgs (top 45), defBody (top 45), defScope (top 45), [], []⟩
def dd_nothing_heads : He.DefD := ⟨("nothing_heads", none), "nothing_heads", "nothing_heads", defArgs (top 46), defBody (top 46), defScope (top 46), [], []⟩
def dd_shared_rows : He.DefD := ⟨("shared_rows", none), "shared_rows", "shared_rows", defArgs (top 48), defBody (top 48), defScope (top 48), [], []⟩
def dd_next_common : He.DefD := ⟨("next_common", none), "next_common", "next_common", defArgs (top 49), defBody (top 49), defScope (top 49), [], []⟩
def dd_commons_to : He.DefD := ⟨("commons_to", none), "commons_to", "commons_to", defArgs (top 50), defBody (top 50), defScope (top 50), [], []⟩
def dd_Rungs___init__ : He.DefD := ⟨("Rungs", some "__init__"), "__init__", "Rungs.__init__", defArgs (inClass (top 51) 0), defBody (inClass (top 51) 0), defScope (inClass (top 51) 0), [], []⟩
def dd_Rungs_parts_off : He.DefD := ⟨("Rungs", some "parts_off"), "parts_off", "Rungs.parts_off", defArgs (inClass (top 51) 2), defBody (inClass (top 51) 2), defScope (inClass (top 51) 2), [], []⟩
def dd_Rungs_letter_rests : He.DefD := ⟨("Rungs", some "letter_rests"), "letter_rests", "Rungs.letter_rests", defArgs (inClass (top 51) 3), defBody (inClass (top 51) 3), defScope (inClass (top 51) 3), [], []⟩
def dd_Rungs_step : He.DefD := ⟨("Rungs", some "step"), "step", "Rungs.step", defArgs (inClass (top 51) 4), defBody (inClass (top 51) 4), defScope (inClass (top 51) 4), [], []⟩
def dd_Rungs_size : He.DefD := ⟨("Rungs", some "size"), "size", "Rungs.size", defArgs (inClass (top 51) 1), defBody (inClass (top 51) 1), defScope (inClass (top 51) 1), [], []⟩
def dd_Rungs_losses : He.DefD := ⟨("Rungs", some "losses"), "losses", "Rungs.losses", defArgs (inClass (top 51) 5), defBody (inClass (top 51) 5), defScope (inClass (top 51) 5), [], []⟩
def dd_first_of : He.DefD := ⟨("first_of", none), "first_of", "first_of", defArgs (top 52), defBody (top 52), defScope (top 52), [], []⟩
def dd_first_lost : He.DefD := ⟨("first_lost", none), "first_lost", "first_lost", defArgs (top 53), defBody (top 53), defScope (top 53), [], []⟩
def dd_fits : He.DefD := ⟨("fits", none), "fits", "fits", defArgs (top 54), defBody (top 54), defScope (top 54), [], []⟩
def dd_law : He.DefD := ⟨("law", none), "law", "law", defArgs (top 89), defBody (top 89), defScope (top 89), [], []⟩
def fnL0 : List He.DefD := [dd__law_begun, dd__law_mixed, dd__law_take, dd__law_pick, dd__law_field, dd__law_pairs, dd__law_at_words, dd__law_single, dd__law_web_rules, dd__law_family_rules, dd__law_loose_rules, dd__law_undone, dd__law_whole, dd__law_word_here, dd__law_followed, dd__law_letters_led, dd__law_cleared, dd__law_tidied, dd__law_case_of, dd__law_case_over, dd__law_two_cases, dd__law_shuffled, dd__law_raw, dd_is_number, dd_need_prime]
def fnL1 : List He.DefD := [dd_is_between, dd_need_letters, dd_is_list, dd_is_row, dd_are_rows, dd_need_rows, dd_few, dd_lessened, dd_cleared, dd_undone, dd_heads_of, dd_whole_row, dd_tidy_rows, dd_Rules___init__, dd__law_made_rules, dd_need_book, dd_dark_rows, dd_shadow_of, dd_shadow, dd_need_one_prime, dd_need_made, dd_widened, dd_crossed, dd_sides_of, dd_free_sides]
def fnL2 : List He.DefD := [dd_shut_sides, dd_ahead_sides, dd_behind_sides, dd_weighed_sides, dd_Rules___eq__, dd__law_is_rules, dd__law_still, dd__law_dark, dd__law_shadowed, dd__law_short, dd__law_is_truth, dd_need_from, dd_many_words, dd_placed_few, dd_nothing_heads, dd_shared_rows, dd_next_common, dd_commons_to, dd_Rungs___init__, dd_Rungs_parts_off, dd_Rungs_letter_rests, dd_Rungs_step, dd_Rungs_size, dd_Rungs_losses, dd_first_of]
def fnL3 : List He.DefD := [dd_first_lost, dd_fits, dd_law]
def fnL : List He.DefD := fnL0 ++ fnL1 ++ fnL2 ++ fnL3
def faL0 : List He.Fa := [.free "isinstance", .free "len", .free "all", .free "range", .free "enumerate", .free "zip", .free "sorted", .free "min", .free "abs", .free "repr", .free "int", .free "bool", .free "list", .free "tuple", .free "dict", .glo "PRIMES", .int "MOST_LETTERS" 9, .int "MOST_WORDS" 1000, .glo "Rules", .glo "Rungs", .cls "Rules", .cls "Rungs", .noat "Rules" "prime", .noat "Rules" "letters", .noat "Rules" "rules"]
def faL1 : List He.Fa := [.noat "Rungs" "prime", .noat "Rungs" "letters", .noat "Rungs" "many", .noat "Rungs" "heads", .noat "Rungs" "places", .noat "Rungs" "commons", .mkr "Rules", .mkr "Rungs", .meth "Rules" "__eq__", .meth "Rungs" "size", .meth "Rungs" "parts_off", .meth "Rungs" "letter_rests", .meth "Rungs" "step", .meth "Rungs" "losses", .glo "_law_begun", .glo "_law_mixed", .glo "_law_take", .glo "_law_pick", .glo "_law_field", .glo "_law_pairs", .glo "_law_at_words", .glo "_law_single", .glo "_law_web_rules", .glo "_law_family_rules", .glo "_law_loose_rules"]
def faL2 : List He.Fa := [.glo "_law_undone", .glo "_law_whole", .glo "_law_word_here", .glo "_law_followed", .glo "_law_letters_led", .glo "_law_cleared", .glo "_law_tidied", .glo "_law_case_of", .glo "_law_case_over", .glo "_law_two_cases", .glo "_law_shuffled", .glo "_law_raw", .glo "is_number", .glo "need_prime", .glo "is_between", .glo "need_letters", .glo "is_list", .glo "is_row", .glo "are_rows", .glo "need_rows", .glo "few", .glo "lessened", .glo "cleared", .glo "undone", .glo "heads_of"]
def faL3 : List He.Fa := [.glo "whole_row", .glo "tidy_rows", .glo "_law_made_rules", .glo "need_book", .glo "dark_rows", .glo "shadow_of", .glo "shadow", .glo "need_one_prime", .glo "need_made", .glo "widened", .glo "crossed", .glo "sides_of", .glo "free_sides", .glo "shut_sides", .glo "ahead_sides", .glo "behind_sides", .glo "weighed_sides", .glo "_law_is_rules", .glo "_law_still", .glo "_law_dark", .glo "_law_shadowed", .glo "_law_short", .glo "_law_is_truth", .glo "need_from", .glo "many_words"]
def faL4 : List He.Fa := [.glo "placed_few", .glo "nothing_heads", .glo "shared_rows", .glo "next_common", .glo "commons_to", .glo "first_of", .glo "first_lost", .glo "fits", .glo "law"]
def faL : List He.Fa := faL0 ++ faL1 ++ faL2 ++ faL3 ++ faL4
def exB (K : PySem.W.Frag) : Bool := He.tupB K "PRIMES" (primes.map He.Dv.int) && (He.eqO (PySem.W.findIn K (.ref (He.ga K "Rules")) "__class__") (some (some (.builtin "object.__class__"))) && (He.eqO (PySem.W.specialIn K (.builtin "object.__class__") "__get__") (some (some (.builtin "getset_descriptor.__get__"))) &&
  (decide (PySem.W.takesIn K (.builtin "object.__class__") = some true) && (decide (PySem.W.mroIn K (He.ga K "Rules") (.type "object") = some true) && (decide (PySem.W.kitOne K (.ref (He.ga K "Rules")) (.ref (He.ga K "Rules")) = some true) &&
  (He.eqO (PySem.W.findIn K (.ref (He.ga K "Rules")) "__ne__") (some (some (.builtin "object.__ne__"))) && decide (PySem.W.subIn K (.ref (He.ga K "Rules")) (.type "object") = some true)))))))
abbrev R : PySem.W.OpenRow := PySem.W.OpenLaw.row PySem.Challenge.rw_ruleshadows_k48_whole_shadows_and_fit_of
/-! the addresses that are looked at: the module's names, the code of its defs, its classes' methods -/
def cdR (g : Addr → Option Obj) (a : Addr) : List Addr := match g a with
  | some o => (match o.data with
    | .func fd => a :: He.refV fd.code
    | _ => [a])
  | none => []
def dcR (g : Addr → Option Obj) (a : Addr) : List Addr := match g a with
  | some o => (match o.data with
    | .dict es _ => es.toList.flatMap fun e => He.refV e.val
    | _ => [])
  | none => []
def clR (g : Addr → Option Obj) (a : Addr) : List Addr := match g a with
  | some o => (match o.data with
    | .func fd => a :: He.refV fd.code
    | .cls cd => a :: cd.ns :: (dcR g cd.ns).flatMap (cdR g)
    | _ => [a])
  | none => []
def asC (g : Addr → Option Obj) : List Addr := mainGlobals :: (dcR g mainGlobals).flatMap (clR g)
def obsC (g : Addr → Option Obj) (K : PySem.W.Frag) : He.AlD × Bool := (He.obsD faL fnL K, exB K)
def hkX : PySem.W.Hook where
  α := He.AlD × Bool
  obs := fun s => obsC s.heap.get? (He.frG s.heap.get? (asC s.heap.get?))
  val := fun _ => (He.valD fnL, true)
  says := fun _ h => ∃ K : PySem.W.Frag, K.In h ∧ He.SaysD faL fnL K ∧ exB K = true
  of := fun _ _ e => ⟨_, He.frG_in, congrArg (fun z : He.AlD × Bool => z.1) e, congrArg (fun z : He.AlD × Bool => z.2) e⟩
  keeps := fun _ _ _ ⟨K, hK, c⟩ k => ⟨K, PySem.W.Frag.In.keeps hK k, c⟩
def ob (s : PySem.W.SharedT) : He.AlD × Bool := obsC (HandSHeadRun.getT s) (He.frG (HandSHeadRun.getT s) (asC (HandSHeadRun.getT s)))
theorem ob_eq (s : PySem.W.SharedT) : ob s = hkX.obs s.abs := by
  have e : HandSHeadRun.getT s = s.abs.heap.get? := funext (HandSHeadRun.getT_eq s)
  show obsC (HandSHeadRun.getT s) (He.frG (HandSHeadRun.getT s) (asC (HandSHeadRun.getT s))) = _
  rw [e]
  rfl
def looseL0 : List PySem.Str := ["RuleError", "BadPrime", "BadNumber", "BadRow", "BadBook", "TooMany", "PRIMES", "MOST_LETTERS", "MOST_WORDS", "is_number", "is_between", "is_list", "is_row", "are_rows", "need_prime", "need_letters", "need_from", "many_words", "need_rows", "undone", "few", "whole_row", "lessened", "cleared", "heads_of"]
def looseL1 : List PySem.Str := ["tidy_rows", "dark_rows", "Rules", "need_book", "need_one_prime", "need_made", "widened", "crossed", "sides_of", "free_sides", "shut_sides", "ahead_sides", "behind_sides", "weighed_sides", "placed_few", "nothing_heads", "shared_rows", "next_common", "commons_to", "Rungs", "first_of", "first_lost", "fits", "shadow_of", "shadow"]
def looseL2 : List PySem.Str := ["_law_begun", "_law_mixed", "_law_take", "_law_pick", "_law_shuffled", "_law_is_truth", "_law_undone", "_law_field", "_law_single", "_law_cleared", "_law_still", "_law_whole", "_law_raw", "_law_word_here", "_law_followed", "_law_letters_led", "_law_tidied", "_law_dark", "_law_at_words", "_law_pairs", "_law_web_rules", "_law_family_rules", "_law_loose_rules", "_law_case_of", "_law_made_rules"]
def looseL3 : List PySem.Str := ["_law_is_rules", "_law_shadowed", "_law_case_over", "_law_two_cases", "_law_short"]
def looseL : List PySem.Str := looseL0 ++ looseL1 ++ looseL2 ++ looseL3
abbrev qv : Program := PySem.W.view R.prog [89]
theorem run (w : World) : HandSHeadRun.RunEq R qv hkX ob 30000 looseL w := by
  intro os
  kernel_rfl
end RS
set_option maxHeartbeats 4000000
namespace RS
/-! ### the field of the numbers below a prime -/
class Pr (p : Nat) : Prop where
  mem : p ∈ [2, 3, 5, 7, 11, 13, 97]
theorem Pr.ge {p : Nat} [h : Pr p] : 2 ≤ p := by
  have := h.mem
  simp only [List.mem_cons, List.not_mem_nil, or_false] at this
  omega
theorem Pr.le {p : Nat} [h : Pr p] : p ≤ 97 := by
  have := h.mem
  simp only [List.mem_cons, List.not_mem_nil, or_false] at this
  omega
instance {p : Nat} [Pr p] : NeZero p := ⟨by have := Pr.ge (p := p); omega⟩
section
variable {p : Nat} [Pr p]
/-- an element as an int; an int as an element -/
def iv (x : Fin p) : Int := (x.val : Int)
def md (i : Int) : Fin p := ⟨(i % (p : Int)).toNat, by
  have h1 := Pr.ge (p := p)
  have h2 := Int.emod_lt_of_pos i (show (0 : Int) < p by omega)
  have h3 := Int.emod_nonneg i (show (p : Int) ≠ 0 by omega)
  omega⟩
theorem p_pos : (0 : Int) < (p : Int) := by have := Pr.ge (p := p); omega
theorem iv_md (i : Int) : iv (md i : Fin p) = i % (p : Int) := by
  have h3 := Int.emod_nonneg i (show (p : Int) ≠ 0 by have := Pr.ge (p := p); omega)
  show (((i % (p : Int)).toNat : Nat) : Int) = _
  omega
theorem iv_nonneg (x : Fin p) : 0 ≤ iv x := Int.natCast_nonneg _
theorem iv_lt (x : Fin p) : iv x < p := by have := x.isLt; show ((x.val : Nat) : Int) < _; omega
theorem iv_small (x : Fin p) : -(2 ^ 64) < iv x ∧ iv x < 2 ^ 64 := by
  have h1 := iv_nonneg x
  have h2 := iv_lt x
  have h3 := Pr.le (p := p)
  constructor <;> omega
theorem iv_inj {x y : Fin p} (h : iv x = iv y) : x = y := by
  apply Fin.ext
  have : ((x.val : Nat) : Int) = y.val := h
  omega
theorem iv_mod (x : Fin p) : iv x % (p : Int) = iv x := Int.emod_eq_of_lt (iv_nonneg x) (iv_lt x)
theorem md_iv (x : Fin p) : md (iv x) = x := iv_inj (by rw [iv_md, iv_mod])
theorem md_eq {i j : Int} (h : i % (p : Int) = j % (p : Int)) : (md i : Fin p) = md j := iv_inj (by rw [iv_md, iv_md, h])
theorem iv_zero : iv (0 : Fin p) = 0 := rfl
theorem iv_add (x y : Fin p) : iv (x + y) = (iv x + iv y) % (p : Int) := by
  show (((x + y).val : Nat) : Int) = _
  rw [Fin.val_add]
  show ((((x.val + y.val) % p : Nat)) : Int) = _
  rw [Int.natCast_emod, Int.natCast_add]
  rfl
theorem iv_mul (x y : Fin p) : iv (x * y) = (iv x * iv y) % (p : Int) := by
  show (((x * y).val : Nat) : Int) = _
  rw [Fin.val_mul, Int.natCast_emod, Int.natCast_mul]
  rfl
theorem md_add (i j : Int) : (md (i + j) : Fin p) = md i + md j := iv_inj (by rw [iv_md, iv_add, iv_md, iv_md, ← Int.add_emod])
theorem md_mul (i j : Int) : (md (i * j) : Fin p) = md i * md j := iv_inj (by rw [iv_md, iv_mul, iv_md, iv_md, ← Int.mul_emod])
theorem md_zero : (md 0 : Fin p) = 0 := iv_inj (by rw [iv_md, iv_zero]; simp)
theorem md_one : (md 1 : Fin p) = 1 := by
  apply iv_inj
  rw [iv_md]
  show _ = (((1 : Fin p).val : Nat) : Int)
  have h1 := Pr.ge (p := p)
  have : (1 : Fin p).val = 1 % p := rfl
  rw [this, Nat.mod_eq_of_lt (by omega), Int.emod_eq_of_lt (by omega) (by omega)]
  rfl
theorem md_sub (i j : Int) : (md (i - j) : Fin p) = md i - md j := by
  have h : (md (i - j) : Fin p) + md j = md i := by rw [← md_add, Int.sub_add_cancel]
  grind
theorem md_neg (i : Int) : (md (-i) : Fin p) = -md i := by
  have h : (md (-i) : Fin p) = md (0 - i) := by rw [Int.zero_sub]
  rw [h, md_sub, md_zero]
  grind
theorem md_eq_zero {i : Int} : (md i : Fin p) = 0 ↔ i % (p : Int) = 0 := by
  rw [← iv_md (p := p) i]
  exact ⟨fun h => by rw [h]; rfl, fun h => iv_inj (by rw [h]; rfl)⟩
theorem iv_eq_zero {x : Fin p} : iv x = 0 ↔ x = 0 := ⟨fun h => iv_inj (h.trans iv_zero.symm), fun h => by rw [h]; rfl⟩
/-! ### inverses -/
def invAll (p : Nat) : Bool := (List.range p).all fun x => x == 0 || (List.range p).any fun y => x * y % p == 1
theorem inv_all : invAll p = true := by
  have h := (inferInstance : Pr p).mem
  simp only [List.mem_cons, List.not_mem_nil, or_false] at h
  rcases h with h | h | h | h | h | h | h <;> (rw [h]; decide +kernel)
theorem inv_ex {x : Fin p} (hx : x ≠ 0) : ∃ y : Fin p, x * y = 1 := by
  have h := List.all_eq_true.mp (inv_all (p := p)) x.val (List.mem_range.mpr x.isLt)
  rcases Bool.or_eq_true_iff.mp h with h | h
  · exact absurd (Fin.ext (beq_iff_eq.mp h)) hx
  · obtain ⟨y, hy, e⟩ := List.any_eq_true.mp h
    refine ⟨⟨y, List.mem_range.mp hy⟩, Fin.ext ?_⟩
    rw [Fin.val_mul]
    have e1 : (1 : Fin p).val = 1 % p := rfl
    have h1 := Pr.ge (p := p)
    rw [e1, Nat.mod_eq_of_lt (show 1 < p by omega)]
    exact beq_iff_eq.mp e
theorem mul_cancel {x y z : Fin p} (h : x ≠ 0) (e : x * y = x * z) : y = z := by
  obtain ⟨u, hu⟩ := inv_ex h
  grind
theorem mul_ne {x y : Fin p} (hx : x ≠ 0) (hy : y ≠ 0) : x * y ≠ 0 := fun e => hy (mul_cancel hx (by grind))
theorem one_ne : (1 : Fin p) ≠ 0 := fun e => by
  have h1 := Pr.ge (p := p)
  have : (1 : Fin p).val = (0 : Fin p).val := by rw [e]
  have e1 : (1 : Fin p).val = 1 % p := rfl
  rw [e1, Nat.mod_eq_of_lt (by omega)] at this
  exact absurd this (by show ¬ 1 = 0; omega)
end
abbrev Vec (p : Nat) := Nat → Fin p
/-- f lives below n -/
def Bd {p : Nat} [Pr p] (f : Vec p) (n : Nat) : Prop := ∀ k, n ≤ k → f k = 0
end RS
namespace RS
section
variable {p : Nat} [Pr p]
/-! ### sums of multiples -/
def axp (f : Vec p) (c : Fin p) (g : Vec p) : Vec p := fun k => f k + c * g k
def zv : Vec p := fun _ => 0
inductive Span (A : Vec p → Prop) : Vec p → Prop
  | zero : Span A zv
  | step {f g : Vec p} (c : Fin p) : Span A f → A g → Span A (axp f c g)
/-- closed under sums of multiples -/
structure Sub (S : Vec p → Prop) : Prop where
  z : S zv
  a : ∀ {f g : Vec p} (c : Fin p), S f → S g → S (axp f c g)
theorem vext {f g : Vec p} (h : ∀ k, f k = g k) : f = g := funext h
theorem axp_one_zero (g : Vec p) : axp zv 1 g = g := vext fun k => by show (0 : Fin p) + 1 * g k = g k; grind
theorem Sub.of_mul {S : Vec p → Prop} (h : Sub S) {g : Vec p} (c : Fin p) (hg : S g) : S (fun k => c * g k) := by
  have e : (fun k => c * g k) = axp zv c g := vext fun k => by show c * g k = 0 + c * g k; grind
  rw [e]
  exact h.a c h.z hg
theorem Sub.sub {S : Vec p → Prop} (h : Sub S) {f g : Vec p} (c : Fin p) (hf : S f) (hg : S g) : S (fun k => f k - c * g k) := by
  have e : (fun k => f k - c * g k) = axp f (-c) g := vext fun k => by show f k - c * g k = f k + -c * g k; grind
  rw [e]
  exact h.a _ hf hg
theorem Sub.add {S : Vec p → Prop} (h : Sub S) {f g : Vec p} (hf : S f) (hg : S g) : S (fun k => f k + g k) := by
  have e : (fun k => f k + g k) = axp f 1 g := vext fun k => by show f k + g k = f k + 1 * g k; grind
  rw [e]
  exact h.a _ hf hg
theorem Span.into {A S : Vec p → Prop} (hS : Sub S) (h : ∀ g, A g → S g) {f : Vec p} (s : Span A f) : S f := by
  induction s with
  | zero => exact hS.z
  | step c _ ha ih => exact hS.a c ih (h _ ha)
theorem Span.isSub (A : Vec p → Prop) : Sub (Span A) := by
  refine ⟨.zero, fun {f g} c hf hg => ?_⟩
  induction hg with
  | zero =>
    have e : axp f c zv = f := vext fun k => by show f k + c * 0 = f k; grind
    rw [e]
    exact hf
  | @step f1 g1 d h1 ha ih =>
    have e : axp f c (axp f1 d g1) = axp (axp f c f1) (c * d) g1 := vext fun k => by show f k + c * (f1 k + d * g1 k) = f k + c * f1 k + c * d * g1 k; grind
    rw [e]
    exact .step _ ih ha
theorem Span.of {A : Vec p → Prop} {g : Vec p} (h : A g) : Span A g := by
  have := Span.step (A := A) 1 .zero h
  rw [axp_one_zero] at this
  exact this
theorem Span.mono {A B : Vec p → Prop} (h : ∀ g, A g → Span B g) {f : Vec p} (s : Span A f) : Span B f := s.into (Span.isSub B) h
theorem sub_bd (n : Nat) : Sub (p := p) (fun f => ∀ k, n ≤ k → f k = 0) := ⟨fun _ _ => rfl, fun {f g} c hf hg k hk => by
  show f k + c * g k = 0
  rw [hf k hk, hg k hk]
  grind⟩
theorem nd_inj {α β : Type} {f : α → β} : ∀ {l : List α}, (l.map f).Nodup → ∀ {a b : α}, a ∈ l → b ∈ l → f a = f b → a = b
  | x :: r, h, a, b, ha, hb, e => by
    rw [List.map_cons, List.nodup_cons] at h
    rcases List.mem_cons.mp ha with qa | qa <;> rcases List.mem_cons.mp hb with qb | qb
    · rw [qa, qb]
    · exact absurd (List.mem_map.mpr ⟨b, qb, by rw [← e, qa]⟩) h.1
    · exact absurd (List.mem_map.mpr ⟨a, qa, by rw [e, qb]⟩) h.1
    · exact nd_inj h.2 qa qb e
/-! ### tidy rows -/
abbrev Hd (p : Nat) := Nat × Vec p
structure Red (hs : List (Hd p)) : Prop where
  nd : (hs.map (·.1)).Nodup
  one : ∀ e ∈ hs, e.2 e.1 = 1
  low : ∀ e ∈ hs, ∀ j, j < e.1 → e.2 j = 0
  off : ∀ e ∈ hs, ∀ e' ∈ hs, e'.1 ≠ e.1 → e.2 e'.1 = 0
def SpanH (hs : List (Hd p)) : Vec p → Prop := Span fun g => ∃ e ∈ hs, e.2 = g
/-- the sum of the rows of hs times what f has at their places -/
def pr (hs : List (Hd p)) (f : Vec p) : Vec p := fun j => (hs.map fun e => f e.1 * e.2 j).sum
theorem pr_cons (e : Hd p) (hs : List (Hd p)) (f : Vec p) (j : Nat) : pr (e :: hs) f j = f e.1 * e.2 j + pr hs f j := by
  show ((e :: hs).map _).sum = _
  rw [List.map_cons, List.sum_cons]
  rfl
theorem pr_axp (hs : List (Hd p)) (f g : Vec p) (c : Fin p) (j : Nat) : pr hs (axp f c g) j = pr hs f j + c * pr hs g j := by
  induction hs with
  | nil => show (0 : Fin p) = 0 + c * 0; grind
  | cons e r ih =>
    rw [pr_cons, pr_cons, pr_cons, ih]
    show (f e.1 + c * g e.1) * e.2 j + _ = _
    grind
theorem pr_zero (hs : List (Hd p)) {f : Vec p} (h : ∀ e ∈ hs, f e.1 = 0) (j : Nat) : pr hs f j = 0 := by
  induction hs with
  | nil => rfl
  | cons e r ih =>
    rw [pr_cons, ih fun x hx => h x (List.mem_cons_of_mem _ hx), h e List.mem_cons_self]
    grind
theorem pr_single {hs : List (Hd p)} (hn : (hs.map (·.1)).Nodup) {e : Hd p} (he : e ∈ hs) {f : Vec p} (h0 : ∀ x ∈ hs, x.1 ≠ e.1 → f x.1 = 0) (j : Nat) : pr hs f j = f e.1 * e.2 j := by
  induction hs with
  | nil => cases he
  | cons a r ih =>
    rw [pr_cons]
    rw [List.map_cons, List.nodup_cons] at hn
    rcases List.mem_cons.mp he with q | q
    · subst q
      rw [pr_zero r fun x hx => h0 x (List.mem_cons_of_mem _ hx) fun z => hn.1 (z ▸ List.mem_map.mpr ⟨x, hx, rfl⟩)]
      grind
    · have ha : a.1 ≠ e.1 := fun z => hn.1 (z ▸ List.mem_map.mpr ⟨e, q, rfl⟩)
      rw [h0 a List.mem_cons_self ha, ih hn.2 q fun x hx => h0 x (List.mem_cons_of_mem _ hx)]
      grind
theorem pr_mem (hs : List (Hd p)) (f : Vec p) : SpanH hs (pr hs f) := by
  have H : ∀ l : List (Hd p), (∀ e ∈ l, e ∈ hs) → SpanH hs (pr l f) := by
    intro l
    induction l with
    | nil => intro _; exact .zero
    | cons e r ih =>
      intro h
      have e1 : pr (e :: r) f = axp (pr r f) (f e.1) e.2 := vext fun j => by rw [pr_cons]; show _ = pr r f j + f e.1 * e.2 j; grind
      rw [e1]
      exact .step _ (ih fun x hx => h x (List.mem_cons_of_mem _ hx)) ⟨e, h e List.mem_cons_self, rfl⟩
  exact H hs fun _ h => h
section
variable {hs : List (Hd p)}
theorem Red.pr_row (R : Red hs) {e : Hd p} (he : e ∈ hs) (j : Nat) : pr hs e.2 j = e.2 j := by
  rw [pr_single R.nd he (fun x hx hne => R.off e he x hx hne), R.one e he]
  grind
/-- what is a sum of multiples is told by its numbers at the places -/
theorem Red.eq_pr (R : Red hs) {f : Vec p} (h : SpanH hs f) : f = pr hs f := by
  refine vext fun j => ?_
  induction h with
  | zero => rw [pr_zero]; rfl; exact fun _ _ => rfl
  | @step f g c _ hg ih =>
    obtain ⟨e, he, rfl⟩ := hg
    rw [pr_axp, ← ih, R.pr_row he]
    rfl
theorem Red.zero (R : Red hs) {f : Vec p} (h : SpanH hs f) (h0 : ∀ e ∈ hs, f e.1 = 0) : f = zv := by
  rw [R.eq_pr h]
  exact vext fun j => pr_zero hs h0 j
open Classical in
/-- what is left when the places are cleared -/
theorem Red.rest (R : Red hs) (f : Vec p) : ∀ e ∈ hs, f e.1 - pr hs f e.1 = 0 := fun e he => by
  have h1 : pr hs f e.1 = f e.1 := by
    have H : ∀ l : List (Hd p), (∀ x ∈ l, x ∈ hs) → (l.map (·.1)).Nodup → pr l f e.1 = if e ∈ l then f e.1 else 0 := by
      intro l
      induction l with
      | nil => intro _ _; rfl
      | cons a r ih =>
        intro h hn
        rw [List.map_cons, List.nodup_cons] at hn
        rw [pr_cons, ih (fun x hx => h x (List.mem_cons_of_mem _ hx)) hn.2]
        by_cases q : a.1 = e.1
        · have hae : a = e := by
            have hnd := R.nd
            exact nd_inj hnd (h a List.mem_cons_self) he q
          subst hae
          have hr : ¬ a ∈ r := fun m => hn.1 (List.mem_map.mpr ⟨a, m, rfl⟩)
          rw [if_neg hr, if_pos List.mem_cons_self, R.one a he]
          grind
        · have hne : e ≠ a := fun z => q (by rw [z])
          have := R.off a (h a List.mem_cons_self) e he (fun z => q z.symm)
          rw [this]
          by_cases m : e ∈ r
          · rw [if_pos m, if_pos (List.mem_cons_of_mem _ m)]; grind
          · rw [if_neg m, if_neg (by simp [hne, m])]; grind
    rw [H hs (fun _ h => h) R.nd, if_pos he]
  rw [h1]
  grind
/-- the first place of what is not 0 is one of the places -/
theorem Red.lead (R : Red hs) {f : Vec p} (h : SpanH hs f) {k : Nat} (hk : f k ≠ 0) (hl : ∀ j, j < k → f j = 0) : ∃ e ∈ hs, e.1 = k := by
  refine Classical.byContradiction fun q => hk ?_
  rw [R.eq_pr h]
  have H : ∀ l : List (Hd p), (∀ x ∈ l, x ∈ hs) → pr l f k = 0 := by
    intro l
    induction l with
    | nil => intro _; rfl
    | cons a r ih =>
      intro hm
      rw [pr_cons, ih fun x hx => hm x (List.mem_cons_of_mem _ hx)]
      have ha := hm a List.mem_cons_self
      rcases Nat.lt_trichotomy a.1 k with z | z | z
      · rw [hl _ z]; grind
      · exact absurd ⟨a, ha, z⟩ q
      · rw [R.low a ha k z]; grind
  exact H hs fun _ h => h
end
theorem Red.mem_of {hs hs' : List (Hd p)} (R : Red hs) (R' : Red hs') (h1 : ∀ f, SpanH hs f → SpanH hs' f) (h2 : ∀ f, SpanH hs' f → SpanH hs f) {e : Hd p} (he : e ∈ hs) : e ∈ hs' := by
  have key : ∀ {a b : List (Hd p)}, Red a → Red b → (∀ f, SpanH a f → SpanH b f) → ∀ x ∈ a, ∃ y ∈ b, y.1 = x.1 := fun {a b} Ra Rb h x hx =>
    Rb.lead (h _ (.of ⟨x, hx, rfl⟩)) (by rw [Ra.one x hx]; exact one_ne) (Ra.low x hx)
  obtain ⟨e', he', hk⟩ := key R R' h1 e he
  have d0 : (fun k => e.2 k - 1 * e'.2 k) = zv := by
    refine R'.zero ((Span.isSub _).sub 1 (h1 _ (.of ⟨e, he, rfl⟩)) (.of ⟨e', he', rfl⟩)) fun x hx => ?_
    by_cases q : x.1 = e'.1
    · show e.2 x.1 - 1 * e'.2 x.1 = 0
      rw [q, R'.one e' he', hk, R.one e he]
      grind
    · show e.2 x.1 - 1 * e'.2 x.1 = 0
      obtain ⟨y, hy, hyx⟩ := key R' R h2 x hx
      have h3 := R.off e he y hy (by rw [hyx, ← hk]; exact q)
      rw [hyx] at h3
      rw [h3, R'.off e' he' x hx q]
      grind
  have : e = e' := by
    obtain ⟨k, f⟩ := e
    obtain ⟨k', f'⟩ := e'
    have h3 : k' = k := hk
    subst h3
    refine congrArg (Prod.mk k') (vext fun j => ?_)
    have := congrFun d0 j
    have h4 : f j - 1 * f' j = 0 := this
    grind
  rw [this]
  exact he'
end
end RS
namespace RS
section
variable {p : Nat} [Pr p]
/-! ### one more row -/
def addH (hs : List (Hd p)) (k : Nat) (g : Vec p) : List (Hd p) := (hs.map fun e => (e.1, fun j => e.2 j - e.2 k * g j)) ++ [(k, g)]
theorem mem_addH {hs : List (Hd p)} {k : Nat} {g : Vec p} {x : Hd p} : x ∈ addH hs k g ↔ (∃ e ∈ hs, x = (e.1, fun j => e.2 j - e.2 k * g j)) ∨ x = (k, g) := by
  unfold addH
  rw [List.mem_append, List.mem_singleton, List.mem_map]
  constructor
  · rintro (⟨e, h, rfl⟩ | h)
    · exact .inl ⟨e, h, rfl⟩
    · exact .inr h
  · rintro (⟨e, h, rfl⟩ | h)
    · exact .inl ⟨e, h, rfl⟩
    · exact .inr h
section
variable {hs : List (Hd p)} {k : Nat} {g : Vec p}
theorem Red.nokey (R : Red hs) (h0 : ∀ e ∈ hs, g e.1 = 0) (h1 : g k = 1) : ∀ e ∈ hs, e.1 ≠ k := fun e he q => by
  have := h0 e he
  rw [q, h1] at this
  exact one_ne this
theorem Red.add (R : Red hs) (h0 : ∀ e ∈ hs, g e.1 = 0) (h1 : g k = 1) (hl : ∀ j, j < k → g j = 0) : Red (addH hs k g) := by
  have nk := R.nokey h0 h1
  refine ⟨?_, fun x hx => ?_, fun x hx j hj => ?_, fun x hx y hy hne => ?_⟩
  · unfold addH
    rw [List.map_append, List.map_map]
    have e : (fun x : Hd p => x.1) ∘ (fun e : Hd p => (e.1, fun j => e.2 j - e.2 k * g j)) = fun e => e.1 := rfl
    rw [e]
    refine List.nodup_append.mpr ⟨R.nd, by simp, fun a ha b hb => ?_⟩
    obtain ⟨z, hz, rfl⟩ := List.mem_map.mp ha
    have : b = k := by simpa using hb
    rw [this]
    exact nk z hz
  · rcases mem_addH.mp hx with ⟨e, he, rfl⟩ | rfl
    · show e.2 e.1 - e.2 k * g e.1 = 1
      rw [R.one e he, h0 e he]
      grind
    · exact h1
  · rcases mem_addH.mp hx with ⟨e, he, rfl⟩ | rfl
    · have hj : j < e.1 := hj
      show e.2 j - e.2 k * g j = 0
      rw [R.low e he j hj]
      by_cases q : e.1 < k
      · rw [hl j (by omega)]; grind
      · rw [R.low e he k (by have := nk e he; omega)]; grind
    · exact hl j hj
  · rcases mem_addH.mp hx with ⟨e, he, rfl⟩ | rfl
    · rcases mem_addH.mp hy with ⟨e', he', rfl⟩ | rfl
      · show e.2 e'.1 - e.2 k * g e'.1 = 0
        rw [R.off e he e' he' hne, h0 e' he']
        grind
      · show e.2 k - e.2 k * g k = 0
        rw [h1]
        grind
    · rcases mem_addH.mp hy with ⟨e', he', rfl⟩ | rfl
      · exact h0 e' he'
      · exact absurd rfl hne
theorem addH_span {f : Vec p} : SpanH (addH hs k g) f ↔ ∃ c : Fin p, SpanH hs (fun j => f j - c * g j) := by
  have hg : SpanH (addH hs k g) g := .of ⟨(k, g), mem_addH.mpr (.inr rfl), rfl⟩
  constructor
  · intro h
    induction h with
    | zero => exact ⟨0, by
        have : (fun j => zv j - 0 * g j) = (zv : Vec p) := vext fun j => by show (0 : Fin p) - 0 * g j = 0; grind
        rw [this]; exact .zero⟩
    | @step f g' c _ hx ih =>
      obtain ⟨d, ih⟩ := ih
      obtain ⟨x, hx, rfl⟩ := hx
      rcases mem_addH.mp hx with ⟨e, he, rfl⟩ | rfl
      · refine ⟨d - c * e.2 k, ?_⟩
        have : (fun j => axp f c (fun j => e.2 j - e.2 k * g j) j - (d - c * e.2 k) * g j) = axp (fun j => f j - d * g j) c e.2 := vext fun j => by
          show f j + c * (e.2 j - e.2 k * g j) - (d - c * e.2 k) * g j = f j - d * g j + c * e.2 j
          grind
        rw [this]
        exact .step _ ih ⟨e, he, rfl⟩
      · refine ⟨d + c, ?_⟩
        have : (fun j => axp f c g j - (d + c) * g j) = fun j => f j - d * g j := vext fun j => by
          show f j + c * g j - (d + c) * g j = f j - d * g j
          grind
        rw [this]
        exact ih
  · rintro ⟨c, h⟩
    have h2 : SpanH (addH hs k g) (fun j => f j - c * g j) := Span.mono (fun x hx => by
      obtain ⟨e, he, rfl⟩ := hx
      have h3 : SpanH (addH hs k g) (fun j => e.2 j - e.2 k * g j) := .of ⟨(e.1, _), mem_addH.mpr (.inl ⟨e, he, rfl⟩), rfl⟩
      have h4 := (Span.isSub _).a (e.2 k) h3 hg
      have : axp (fun j => e.2 j - e.2 k * g j) (e.2 k) g = e.2 := vext fun j => by
        show e.2 j - e.2 k * g j + e.2 k * g j = e.2 j
        grind
      rw [this] at h4
      exact h4) h
    have h5 := (Span.isSub _).a c h2 hg
    have : axp (fun j => f j - c * g j) c g = f := vext fun j => by
      show f j - c * g j + c * g j = f j
      grind
    rw [this] at h5
    exact h5
end
/-! ### rows in a list -/
def SpanL (l : List (Vec p)) : Vec p → Prop := Span fun g => g ∈ l
theorem SpanL.nil {f : Vec p} : SpanL [] f ↔ f = zv := by
  constructor
  · intro h
    induction h with
    | zero => rfl
    | step _ _ h _ => exact absurd h (by simp)
  · rintro rfl
    exact .zero
theorem SpanL.snoc {l : List (Vec p)} {r f : Vec p} : SpanL (l ++ [r]) f ↔ ∃ c : Fin p, SpanL l (fun j => f j - c * r j) := by
  constructor
  · intro h
    induction h with
    | zero => exact ⟨0, by
        have : (fun j => zv j - 0 * r j) = (zv : Vec p) := vext fun j => by show (0 : Fin p) - 0 * r j = 0; grind
        rw [this]; exact .zero⟩
    | @step f g' c _ hx ih =>
      obtain ⟨d, ih⟩ := ih
      rcases List.mem_append.mp hx with hx | hx
      · refine ⟨d, ?_⟩
        have : (fun j => axp f c g' j - d * r j) = axp (fun j => f j - d * r j) c g' := vext fun j => by
          show f j + c * g' j - d * r j = f j - d * r j + c * g' j
          grind
        rw [this]
        exact .step _ ih hx
      · rw [List.mem_singleton.mp hx]
        refine ⟨d + c, ?_⟩
        have : (fun j => axp f c r j - (d + c) * r j) = fun j => f j - d * r j := vext fun j => by
          show f j + c * r j - (d + c) * r j = f j - d * r j
          grind
        rw [this]
        exact ih
  · rintro ⟨c, h⟩
    have h2 : SpanL (l ++ [r]) (fun j => f j - c * r j) := Span.mono (fun x hx => .of (List.mem_append_left _ hx)) h
    have h5 := (Span.isSub _).a c h2 (Span.of (A := fun g => g ∈ l ++ [r]) (g := r) (List.mem_append_right _ (List.mem_singleton.mpr rfl)))
    have : axp (fun j => f j - c * r j) c r = f := vext fun j => by
      show f j - c * r j + c * r j = f j
      grind
    rw [this] at h5
    exact h5
theorem Red.nil : Red ([] : List (Hd p)) := ⟨List.nodup_nil, fun _ h => (by cases h), fun _ h => (by cases h), fun _ h => (by cases h)⟩
/-- the row is nothing new -/
theorem heads_old {hs : List (Hd p)} {l : List (Vec p)} {r c : Vec p} (h : ∀ f, SpanH hs f ↔ SpanL l f) (hc : SpanH hs (fun j => r j - c j)) (hz : ∀ j, c j = 0) : ∀ f, SpanH hs f ↔ SpanL (l ++ [r]) f := fun f => by
  have hr : SpanL l r := by
    have : (fun j => r j - c j) = r := vext fun j => by rw [hz]; grind
    rw [this] at hc
    exact (h _).mp hc
  rw [SpanL.snoc, h]
  constructor
  · intro hf
    refine ⟨0, ?_⟩
    have : (fun j => f j - 0 * r j) = f := vext fun j => by grind
    rw [this]
    exact hf
  · rintro ⟨d, hd⟩
    have h5 := (Span.isSub _).a d hd hr
    have : axp (fun j => f j - d * r j) d r = f := vext fun j => by
      show f j - d * r j + d * r j = f j
      grind
    rw [this] at h5
    exact h5
/-- a row more -/
theorem heads_new {hs : List (Hd p)} {l : List (Vec p)} {r c : Vec p} {k : Nat} {b : Fin p} (h : ∀ f, SpanH hs f ↔ SpanL l f) (hc : SpanH hs (fun j => r j - c j)) (hb : b ≠ 0) :
    ∀ f, SpanH (addH hs k fun j => c j * b) f ↔ SpanL (l ++ [r]) f := fun f => by
  rw [addH_span, SpanL.snoc]
  obtain ⟨y, hy⟩ := inv_ex hb
  constructor
  · rintro ⟨d, hd⟩
    refine ⟨d * b, (h _).mp ?_⟩
    have h5 := (Span.isSub _).a (-(d * b)) hd hc
    have : axp (fun j => f j - d * (c j * b)) (-(d * b)) (fun j => r j - c j) = fun j => f j - d * b * r j := vext fun j => by
      show f j - d * (c j * b) + -(d * b) * (r j - c j) = f j - d * b * r j
      grind
    rw [this] at h5
    exact h5
  · rintro ⟨d, hd⟩
    refine ⟨d * y, ?_⟩
    have h5 := (Span.isSub _).a d ((h _).mpr hd) hc
    have : axp (fun j => f j - d * r j) d (fun j => r j - c j) = fun j => f j - d * y * (c j * b) := vext fun j => by
      show f j - d * r j + d * (r j - c j) = f j - d * y * (c j * b)
      have : d * y * (c j * b) = d * c j * (b * y) := by grind
      rw [this, hy]
      grind
    rw [this] at h5
    exact h5
end
end RS
namespace RS
section
variable {p : Nat} [Pr p]
/-! ### sums over the numbers below n -/
def sg : Nat → (Nat → Fin p) → Fin p
  | 0, _ => 0
  | n + 1, x => sg n x + x n
theorem sg_congr : ∀ {n : Nat} {x y : Nat → Fin p}, (∀ i, i < n → x i = y i) → sg n x = sg n y
  | 0, _, _, _ => rfl
  | n + 1, x, y, h => by
    show sg n x + x n = sg n y + y n
    rw [sg_congr fun i hi => h i (by omega), h n (by omega)]
theorem sg_zero : ∀ {n : Nat} {x : Nat → Fin p}, (∀ i, i < n → x i = 0) → sg n x = 0
  | 0, _, _ => rfl
  | n + 1, x, h => by
    show sg n x + x n = 0
    rw [sg_zero fun i hi => h i (by omega), h n (by omega)]
    grind
theorem sg_add : ∀ (n : Nat) (x y : Nat → Fin p), sg n (fun i => x i + y i) = sg n x + sg n y
  | 0, _, _ => by show (0 : Fin p) = 0 + 0; grind
  | n + 1, x, y => by
    show sg n _ + (x n + y n) = sg n x + x n + (sg n y + y n)
    rw [sg_add]
    grind
theorem sg_mul : ∀ (n : Nat) (c : Fin p) (x : Nat → Fin p), sg n (fun i => c * x i) = c * sg n x
  | 0, c, _ => by show (0 : Fin p) = c * 0; grind
  | n + 1, c, x => by
    show sg n _ + c * x n = c * (sg n x + x n)
    rw [sg_mul]
    grind
theorem sg_one : ∀ {n : Nat} {x : Nat → Fin p} {k : Nat}, k < n → (∀ i, i < n → i ≠ k → x i = 0) → sg n x = x k
  | n + 1, x, k, hk, h => by
    show sg n x + x n = x k
    by_cases e : k = n
    · subst e
      rw [sg_zero fun i hi => h i (by omega) (by omega)]
      grind
    · rw [sg_one (k := k) (by omega) fun i hi hne => h i (by omega) hne, h n (by omega) (fun z => e z.symm)]
      grind
theorem sg_split : ∀ (n m : Nat) (x : Nat → Fin p), sg (n + m) x = sg n x + sg m (fun i => x (n + i))
  | n, 0, x => by show sg n x = sg n x + 0; grind
  | n, m + 1, x => by
    show sg (n + m) x + x (n + m) = sg n x + (sg m _ + x (n + m))
    rw [sg_split n m x]
    grind
theorem sg_comm : ∀ (n m : Nat) (x : Nat → Nat → Fin p), sg n (fun i => sg m (x i)) = sg m (fun j => sg n fun i => x i j)
  | 0, m, x => (sg_zero fun _ _ => rfl).symm
  | n + 1, m, x => by
    show sg n _ + sg m (x n) = _
    rw [sg_comm n m x, ← sg_add]
    rfl
/-- the numbers but k -/
def skip (k i : Nat) : Nat := if i < k then i else i + 1
theorem sg_skip : ∀ {n : Nat} {k : Nat} (x : Nat → Fin p), k ≤ n → sg (n + 1) x = sg n (fun i => x (skip k i)) + x k
  | 0, k, x, hk => by
    have : k = 0 := by omega
    subst this
    rfl
  | n + 1, k, x, hk => by
    by_cases e : k = n + 1
    · subst e
      show sg (n + 1) x + x (n + 1) = _
      rw [sg_congr (x := fun i => x (skip (n + 1) i)) (y := x) fun i hi => by unfold skip; rw [if_pos hi]]
    · show sg (n + 1) x + x (n + 1) = sg n _ + x (skip k n) + x k
      rw [sg_skip x (show k ≤ n by omega)]
      have : skip k n = n + 1 := by unfold skip; rw [if_neg (by omega)]
      rw [this]
      grind
/-! ### more unknowns than equations -/
theorem homog : ∀ (m n : Nat) (A : Nat → Nat → Fin p), m < n → ∃ c : Nat → Fin p, (∃ i, i < n ∧ c i ≠ 0) ∧ ∀ j, j < m → sg n (fun i => c i * A i j) = 0
  | 0, n, _, h => ⟨fun _ => 1, ⟨0, h, one_ne⟩, fun j hj => by omega⟩
  | m + 1, 0, _, h => by omega
  | m + 1, n + 1, A, h => by
    by_cases q : ∃ k, k ≤ n ∧ A k m ≠ 0
    · obtain ⟨k, hk, hA⟩ := q
      obtain ⟨y, hy⟩ := inv_ex hA
      obtain ⟨c, ⟨i0, hi0, hc0⟩, hc⟩ := homog m n (fun i j => A (skip k i) j - A (skip k i) m * y * A k j) (by omega)
      -- the k-th number from the others
      let ck : Fin p := -(y * sg n fun i => c i * A (skip k i) m)
      let C : Nat → Fin p := fun i => if i = k then ck else if i < k then c i else c (i - 1)
      have hCk : C k = ck := if_pos rfl
      have hCs : ∀ i, C (skip k i) = c i := fun i => by
        show (if skip k i = k then _ else _) = _
        unfold skip
        by_cases z : i < k
        · rw [if_pos z, if_neg (by omega), if_pos z]
        · rw [if_neg z, if_neg (by omega), if_neg (by omega)]
          rfl
      refine ⟨C, ⟨skip k i0, ?_, by rw [hCs]; exact hc0⟩, fun j hj => ?_⟩
      · unfold skip
        split <;> omega
      · rw [sg_skip (k := k) _ hk, hCk]
        rw [sg_congr (y := fun i => c i * A (skip k i) j) fun i _ => by rw [hCs]]
        by_cases e : j = m
        · subst e
          show _ + -(y * _) * A k j = 0
          have : A k j * y = 1 := hy
          generalize sg n (fun i => c i * A (skip k i) j) = S
          have e2 : -(y * S) * A k j = -(S * (A k j * y)) := by grind
          rw [e2, this]
          grind
        · have h1 := hc j (by omega)
          have h2 : sg n (fun i => c i * (A (skip k i) j - A (skip k i) m * y * A k j)) = sg n (fun i => c i * A (skip k i) j) + -(y * A k j) * sg n (fun i => c i * A (skip k i) m) := by
            rw [← sg_mul, ← sg_add]
            exact sg_congr fun i _ => by grind
          rw [h2] at h1
          show _ + -(y * _) * A k j = 0
          grind
    · obtain ⟨c, ⟨i0, hi0, hc0⟩, hc⟩ := homog m (n + 1) A (by omega)
      refine ⟨c, ⟨i0, hi0, hc0⟩, fun j hj => ?_⟩
      by_cases e : j = m
      · subst e
        refine sg_zero fun i hi => ?_
        have : A i j = 0 := Classical.byContradiction fun z => q ⟨i, by omega, z⟩
        rw [this]
        grind
      · exact hc j (by omega)
/-! ### families -/
def lin (n : Nat) (c : Nat → Fin p) (v : Nat → Vec p) : Vec p := fun k => sg n fun i => c i * v i k
def Ind (n : Nat) (v : Nat → Vec p) : Prop := ∀ c : Nat → Fin p, (∀ k, lin n c v k = 0) → ∀ i, i < n → c i = 0
theorem ind_le {n m : Nat} {v u : Nat → Vec p} (h : Ind n v) (hs : ∀ i, i < n → ∃ c : Nat → Fin p, ∀ k, v i k = lin m c u k) : n ≤ m := by
  refine Nat.le_of_not_lt fun hlt => ?_
  have hc : ∃ A : Nat → Nat → Fin p, ∀ i, i < n → ∀ k, v i k = lin m (A i) u k := by
    refine ⟨fun i => if hi : i < n then Classical.choose (hs i hi) else fun _ => 0, fun i hi => ?_⟩
    dsimp only
    rw [dif_pos hi]
    exact Classical.choose_spec (hs i hi)
  obtain ⟨A, hA⟩ := hc
  obtain ⟨c, ⟨i, hi, hne⟩, he⟩ := homog m n A hlt
  refine hne (h c (fun k => ?_) i hi)
  show sg n (fun i => c i * v i k) = 0
  rw [sg_congr (y := fun i => sg m fun j => c i * (A i j * u j k)) fun i hi => by rw [hA i hi k]; unfold lin; rw [sg_mul]]
  rw [sg_comm]
  refine sg_zero fun j hj => ?_
  rw [sg_congr (y := fun i => u j k * (c i * A i j)) fun i _ => by grind, sg_mul, he j hj]
  grind
/-- a basis of n -/
structure Bas (S : Vec p → Prop) (n : Nat) (v : Nat → Vec p) : Prop where
  mem : ∀ i, i < n → S (v i)
  ind : Ind n v
  gen : ∀ f, S f → ∃ c : Nat → Fin p, ∀ k, f k = lin n c v k
def Dim (S : Vec p → Prop) (n : Nat) : Prop := ∃ v, Bas S n v
theorem lin_mem {S : Vec p → Prop} (hS : Sub S) {n : Nat} {v : Nat → Vec p} (h : ∀ i, i < n → S (v i)) (c : Nat → Fin p) : S (lin n c v) := by
  induction n with
  | zero => exact hS.z
  | succ n ih =>
    have h1 := hS.a (c n) (ih fun i hi => h i (by omega)) (h n (by omega))
    exact h1
theorem Dim.le {S T : Vec p → Prop} {n m : Nat} (a : Dim S n) (b : Dim T m) (h : ∀ f, S f → T f) : n ≤ m := by
  obtain ⟨v, hv⟩ := a
  obtain ⟨u, hu⟩ := b
  exact ind_le hv.ind fun i hi => hu.gen _ (h _ (hv.mem i hi))
theorem Dim.uniq {S : Vec p → Prop} {n m : Nat} (a : Dim S n) (b : Dim S m) : n = m := Nat.le_antisymm (a.le b fun _ h => h) (b.le a fun _ h => h)
theorem Dim.iff {S T : Vec p → Prop} {n : Nat} (a : Dim S n) (h : ∀ f, S f ↔ T f) : Dim T n := by
  have : S = T := funext fun f => propext (h f)
  rw [← this]
  exact a
/-- rooms of one size, one within the other -/
theorem Dim.eq {S T : Vec p → Prop} {n : Nat} (hS : Sub S) (a : Dim S n) (b : Dim T n) (h : ∀ f, S f → T f) : ∀ f, T f → S f := fun f hf => by
  refine Classical.byContradiction fun hn => ?_
  obtain ⟨v, hv⟩ := a
  obtain ⟨u, hu⟩ := b
  have : n + 1 ≤ n := by
    refine ind_le (n := n + 1) (m := n) (v := fun i => if i = n then f else v i) (u := u) (fun c hc => ?_) fun i hi => ?_
    · have h0 : ∀ k, lin n c v k + c n * f k = 0 := fun k => by
        have := hc k
        have e : lin (n + 1) c (fun i => if i = n then f else v i) k = sg n (fun i => c i * (if i = n then f else v i) k) + c n * (if n = n then f else v n) k := rfl
        rw [e, if_pos rfl, sg_congr (y := fun i => c i * v i k) fun i hi => by rw [if_neg (by omega)]] at this
        exact this
      have hcn : c n = 0 := by
        refine Classical.byContradiction fun z => hn ?_
        obtain ⟨y, hy⟩ := inv_ex z
        have e : f = fun k => -y * lin n c v k := vext fun k => by
          have h1 := h0 k
          have h2 : -y * lin n c v k = (c n * y) * f k := by grind
          rw [h2, hy]
          grind
        rw [e]
        exact hS.of_mul _ (lin_mem hS hv.mem c)
      intro i hi
      by_cases e : i = n
      · rw [e, hcn]
      · refine hv.ind c (fun k => ?_) i (by omega)
        have := h0 k
        rw [hcn] at this
        grind
    · by_cases e : i = n
      · rw [if_pos e]
        exact hu.gen _ hf
      · rw [if_neg e]
        exact hu.gen _ (h _ (hv.mem i (by omega)))
  omega
/-- a room and m rows more that are independent of it -/
theorem Dim.more {S T : Vec p → Prop} {n m : Nat} {u : Nat → Vec p} (a : Dim S n) (hST : ∀ f, S f → T f) (hu : ∀ i, i < m → T (u i)) (hi : ∀ c : Nat → Fin p, S (lin m c u) → ∀ i, i < m → c i = 0) (hsub : Sub S)
    (hg : ∀ f, T f → ∃ c : Nat → Fin p, S (fun k => f k - lin m c u k)) : Dim T (n + m) := by
  obtain ⟨v, hv⟩ := a
  have e : ∀ (c : Nat → Fin p) (k : Nat), lin (n + m) c (fun i => if i < n then v i else u (i - n)) k = lin n c v k + lin m (fun i => c (n + i)) u k := fun c k => by
    show sg (n + m) _ = _
    rw [sg_split]
    refine congr (congrArg _ (sg_congr fun i hi => ?_)) (sg_congr fun i hi => ?_)
    · dsimp only
      rw [if_pos hi]
    · dsimp only
      rw [if_neg (by omega), show n + i - n = i by omega]
  refine ⟨fun i => if i < n then v i else u (i - n), fun i hi => ?_, fun c hc => ?_, fun f hf => ?_⟩
  · by_cases z : i < n
    · rw [if_pos z]
      exact hST _ (hv.mem i z)
    · rw [if_neg z]
      exact hu _ (by omega)
  · have h1 : ∀ k, lin m (fun i => c (n + i)) u k = -1 * lin n c v k := fun k => by
      have := hc k
      rw [e] at this
      grind
    have h2 := hi (fun i => c (n + i)) (by
      have q := hsub.of_mul (-1) (lin_mem hsub hv.mem c)
      have z : (fun k => -1 * lin n c v k) = lin m (fun i => c (n + i)) u := vext fun k => (h1 k).symm
      rw [z] at q
      exact q)
    have h3 := hv.ind c (fun k => by
      have h4 : lin m (fun i => c (n + i)) u k = 0 := sg_zero fun i hi => by dsimp only; rw [h2 i hi]; grind
      have := h1 k
      rw [h4] at this
      grind)
    intro i hi
    by_cases z : i < n
    · exact h3 i z
    · have := h2 (i - n) (by omega)
      rw [show n + (i - n) = i by omega] at this
      exact this
  · obtain ⟨c, hc⟩ := hg f hf
    obtain ⟨b, hb⟩ := hv.gen _ hc
    refine ⟨fun i => if i < n then b i else c (i - n), fun k => ?_⟩
    rw [e]
    have h1 := hb k
    have h2 : lin n (fun i => if i < n then b i else c (i - n)) v k = lin n b v k := sg_congr fun i hi => by dsimp only; rw [if_pos hi]
    have h3 : lin m (fun i => if n + i < n then b (n + i) else c (n + i - n)) u k = lin m c u k := sg_congr fun i hi => by dsimp only; rw [if_neg (by omega), show n + i - n = i by omega]
    rw [h2, h3, ← h1]
    grind
/-! ### tidy rows are a basis -/
theorem sg_front : ∀ (n : Nat) (x : Nat → Fin p), sg (n + 1) x = x 0 + sg n (fun i => x (i + 1))
  | 0, x => by show (0 : Fin p) + x 0 = x 0 + 0; grind
  | n + 1, x => by
    show sg (n + 1) x + x (n + 1) = x 0 + (sg n _ + x (n + 1))
    rw [sg_front n x]
    grind
def hk (hs : List (Hd p)) (i : Nat) : Nat := (hs.getD i (0, zv)).1
def hv (hs : List (Hd p)) (i : Nat) : Vec p := (hs.getD i (0, zv)).2
theorem pr_lin : ∀ (hs : List (Hd p)) (f : Vec p) (j : Nat), pr hs f j = lin hs.length (fun i => f (hk hs i)) (hv hs) j
  | [], _, _ => rfl
  | e :: r, f, j => by
    rw [pr_cons, pr_lin r f j]
    show _ = sg (r.length + 1) _
    rw [sg_front]
    rfl
theorem hmem {hs : List (Hd p)} {i : Nat} (hi : i < hs.length) : (hk hs i, hv hs i) ∈ hs := by
  have : hs.getD i (0, zv) = hs[i] := by rw [List.getD_eq_getElem?_getD, List.getElem?_eq_getElem hi]; rfl
  unfold hk hv
  rw [this]
  exact List.getElem_mem hi
theorem hk_inj {hs : List (Hd p)} (R : Red hs) {i j : Nat} (hi : i < hs.length) (hj : j < hs.length) (e : hk hs i = hk hs j) : i = j := by
  have h1 : (hs.map (·.1))[i]? = some (hk hs i) := by unfold hk; rw [List.getElem?_map, List.getD_eq_getElem?_getD, List.getElem?_eq_getElem hi]; rfl
  have h2 : (hs.map (·.1))[j]? = some (hk hs j) := by unfold hk; rw [List.getElem?_map, List.getD_eq_getElem?_getD, List.getElem?_eq_getElem hj]; rfl
  obtain ⟨a1, b1⟩ := List.getElem?_eq_some_iff.mp h1
  obtain ⟨a2, b2⟩ := List.getElem?_eq_some_iff.mp h2
  exact (List.getElem_inj R.nd).mp (b1.trans (e.trans b2.symm))
theorem Red.bas {hs : List (Hd p)} (R : Red hs) : Bas (SpanH hs) hs.length (hv hs) := by
  refine ⟨fun i hi => .of ⟨_, hmem hi, rfl⟩, fun c hc i hi => ?_, fun f hf => ⟨fun i => f (hk hs i), fun k => ?_⟩⟩
  · have h1 := hc (hk hs i)
    have h2 : lin hs.length c (hv hs) (hk hs i) = c i * hv hs i (hk hs i) := sg_one hi fun j hj hne => by
      have := R.off _ (hmem hj) _ (hmem hi) (fun z => hne (hk_inj R hj hi z.symm))
      show c j * hv hs j (hk hs i) = 0
      have h3 : hv hs j (hk hs i) = 0 := this
      rw [h3]
      grind
    have h3 : hv hs i (hk hs i) = 1 := R.one _ (hmem hi)
    rw [h2, h3] at h1
    grind
  · rw [← pr_lin, ← R.eq_pr hf]
theorem Red.dim {hs : List (Hd p)} (R : Red hs) : Dim (SpanH hs) hs.length := ⟨_, R.bas⟩
end
end RS
namespace RS
section
variable {p : Nat} [Pr p]
def rowOf (hs : List (Hd p)) (k : Nat) : Vec p := ((hs.find? fun e => decide (e.1 = k)).map (·.2)).getD zv
theorem rowOf_mem : ∀ {hs : List (Hd p)}, (hs.map (·.1)).Nodup → ∀ {k : Nat} {f : Vec p}, (k, f) ∈ hs → rowOf hs k = f
  | e :: hs, hn, k, f, h => by
    rw [List.map_cons, List.nodup_cons] at hn
    unfold rowOf
    rw [List.find?_cons]
    rcases List.mem_cons.mp h with q | q
    · subst q
      simp
    · have : ¬ e.1 = k := fun z => hn.1 (z ▸ List.mem_map.mpr ⟨_, q, rfl⟩)
      simp only [this, decide_false]
      exact rowOf_mem hn.2 q
theorem rowOf_none {hs : List (Hd p)} {k : Nat} (h : ∀ e ∈ hs, e.1 ≠ k) : rowOf hs k = zv := by
  unfold rowOf
  rw [List.find?_eq_none.mpr fun e he => by simpa using h e he]
  rfl
/-! ### what is at right angles to a room -/
def Ann (n : Nat) (S : Vec p → Prop) : Vec p → Prop := fun f => Bd f n ∧ ∀ g, S g → sg n (fun k => f k * g k) = 0
theorem ann_sub (n : Nat) (S : Vec p → Prop) : Sub (Ann n S) := ⟨⟨fun _ _ => rfl, fun g _ => sg_zero fun i _ => by show (0 : Fin p) * g i = 0; grind⟩, fun {f g} c hf hg => ⟨fun k hk => by
    show f k + c * g k = 0
    rw [hf.1 k hk, hg.1 k hk]
    grind, fun h hh => by
    have e : sg n (fun k => axp f c g k * h k) = sg n (fun k => f k * h k) + c * sg n (fun k => g k * h k) := by
      rw [← sg_mul, ← sg_add]
      refine sg_congr fun i _ => ?_
      show (f i + c * g i) * h i = _
      grind
    rw [e, hf.2 h hh, hg.2 h hh]
    grind⟩⟩
/-- it is enough to look at what spans the room -/
theorem ann_span {n : Nat} {A : Vec p → Prop} {f : Vec p} : Ann n (Span A) f ↔ Bd f n ∧ ∀ g, A g → sg n (fun k => f k * g k) = 0 := by
  constructor
  · exact fun h => ⟨h.1, fun g hg => h.2 g (.of hg)⟩
  · refine fun h => ⟨h.1, fun g hg => ?_⟩
    refine hg.into (S := fun g => sg n (fun k => f k * g k) = 0) ⟨sg_zero fun i _ => by show f i * 0 = 0; grind, fun {u v} c hu hv => ?_⟩ h.2
    have e : sg n (fun k => f k * axp u c v k) = sg n (fun k => f k * u k) + c * sg n (fun k => f k * v k) := by
      rw [← sg_mul, ← sg_add]
      refine sg_congr fun i _ => ?_
      show f i * (u i + c * v i) = _
      grind
    rw [e, hu, hv]
    grind
theorem ann_congr {n : Nat} {S T : Vec p → Prop} (h : ∀ f, S f ↔ T f) (f : Vec p) : Ann n S f ↔ Ann n T f := by
  have : S = T := funext fun f => propext (h f)
  rw [this]
theorem ann_anti {n : Nat} {S T : Vec p → Prop} (h : ∀ f, S f → T f) {f : Vec p} (a : Ann n T f) : Ann n S f := ⟨a.1, fun g hg => a.2 g (h g hg)⟩
/-- the rows at right angles to tidy rows -/
def dkv (hs : List (Hd p)) (s : Nat) : Vec p := fun k => if k = s then 1 else -(rowOf hs k s)
section
variable {hs : List (Hd p)} {n : Nat}
theorem Red.key_lt (R : Red hs) (b : ∀ e ∈ hs, Bd e.2 n) : ∀ e ∈ hs, e.1 < n := fun e he => by
  rcases Nat.lt_or_ge e.1 n with z | z
  · exact z
  · have h1 := b e he e.1 z
    rw [R.one e he] at h1
    exact absurd h1 one_ne
theorem sg_two {x y z : Nat → Fin p} {i j : Nat} (hi : i < n) (hj : j < n) (h : ∀ k, z k = x k + y k) (hx : ∀ k, k ≠ i → x k = 0) (hy : ∀ k, k ≠ j → y k = 0) : sg n z = x i + y j := by
  rw [sg_congr (y := fun k => x k + y k) fun k _ => h k, sg_add, sg_one hi fun k _ hk => hx k hk, sg_one hj fun k _ hk => hy k hk]
theorem dkv_bd (R : Red hs) (b : ∀ e ∈ hs, Bd e.2 n) {s : Nat} (hs' : s < n) : Bd (dkv hs s) n := fun k hk => by
  unfold dkv
  rw [if_neg (by omega), rowOf_none fun e he z => by have := R.key_lt b e he; omega]
  show -(0 : Fin p) = 0
  grind
theorem dkv_pair (R : Red hs) (b : ∀ e ∈ hs, Bd e.2 n) {s : Nat} (hsn : s < n) (hk : ∀ e ∈ hs, e.1 ≠ s) {e : Hd p} (he : e ∈ hs) : sg n (fun k => dkv hs s k * e.2 k) = 0 := by
  have h := sg_two (n := n) (x := fun k => if k = s then e.2 s else 0) (y := fun k => if k = e.1 then -(e.2 s) else 0) (z := fun k => dkv hs s k * e.2 k) (i := s) (j := e.1) hsn (R.key_lt b e he) (fun k => ?_) (fun k hk => if_neg hk) (fun k hk => if_neg hk)
  · rw [h, if_pos rfl, if_pos rfl]
    grind
  · unfold dkv
    by_cases q : k = s
    · subst q
      rw [if_pos rfl, if_pos rfl, if_neg fun z => hk e he z.symm]
      grind
    · rw [if_neg q, if_neg q]
      by_cases z : k = e.1
      · subst z
        rw [if_pos rfl, rowOf_mem R.nd (show (e.1, e.2) ∈ hs from he), R.one e he]
        grind
      · rw [if_neg z]
        by_cases y : ∃ e' ∈ hs, e'.1 = k
        · obtain ⟨e', he', rfl⟩ := y
          rw [R.off e he e' he' z]
          grind
        · rw [rowOf_none fun e' he' z => y ⟨e', he', z⟩]
          show -(0 : Fin p) * e.2 k = 0 + 0
          grind
theorem dkv_ann (R : Red hs) (b : ∀ e ∈ hs, Bd e.2 n) {s : Nat} (hsn : s < n) (hk : ∀ e ∈ hs, e.1 ≠ s) : Ann n (SpanH hs) (dkv hs s) := by
  refine ann_span.mpr ⟨dkv_bd R b hsn, fun g hg => ?_⟩
  obtain ⟨e, he, rfl⟩ := hg
  exact dkv_pair R b hsn hk he
theorem dkv_other {s s' : Nat} (hk : ∀ e ∈ hs, e.1 ≠ s') (h : s' ≠ s) : dkv hs s s' = 0 := by
  unfold dkv
  rw [if_neg h, rowOf_none hk]
  show -(0 : Fin p) = 0
  grind
/-- clear the places ss -/
theorem dkv_clear (f : Vec p) : ∀ ss : List Nat, ss.Nodup → (∀ s ∈ ss, ∀ e ∈ hs, e.1 ≠ s) → ∃ h : Vec p, SpanL (ss.map (dkv hs)) h ∧ ∀ s ∈ ss, f s - h s = 0
  | [], _, _ => ⟨zv, .zero, fun s h => by cases h⟩
  | s :: r, hn, hk => by
    rw [List.nodup_cons] at hn
    obtain ⟨h, h1, h2⟩ := dkv_clear f r hn.2 fun x hx => hk x (List.mem_cons_of_mem _ hx)
    refine ⟨axp h (f s - h s) (dkv hs s), .step _ (h1.mono fun g hg => .of (List.mem_cons_of_mem _ hg)) List.mem_cons_self, fun x hx => ?_⟩
    show f x - (h x + (f s - h s) * dkv hs s x) = 0
    rcases List.mem_cons.mp hx with rfl | q
    · have : dkv hs x x = 1 := if_pos rfl
      rw [this]
      grind
    · have hne : x ≠ s := fun z => hn.1 (z ▸ q)
      rw [dkv_other (hk x hx) hne]
      have := h2 x q
      grind
theorem ann_zero (R : Red hs) (b : ∀ e ∈ hs, Bd e.2 n) {f : Vec p} (h : Ann n (SpanH hs) f) (h0 : ∀ s, s < n → (∀ e ∈ hs, e.1 ≠ s) → f s = 0) : f = zv := vext fun k => by
  rcases Nat.lt_or_ge k n with hk | hk
  · by_cases y : ∃ e ∈ hs, e.1 = k
    · obtain ⟨e, he, rfl⟩ := y
      have h1 := h.2 e.2 (.of ⟨e, he, rfl⟩)
      rw [sg_one hk fun i hi hne => ?_, R.one e he] at h1
      · show f e.1 = 0
        grind
      · by_cases y : ∃ e' ∈ hs, e'.1 = i
        · obtain ⟨e', he', rfl⟩ := y
          rw [R.off e he e' he' hne]
          grind
        · rw [h0 i hi fun e' he' z => y ⟨e', he', z⟩]
          grind
    · exact h0 k hk fun e he z => y ⟨e, he, z⟩
  · exact h.1 k hk
theorem dark_ann (R : Red hs) (b : ∀ e ∈ hs, Bd e.2 n) {ss : List Nat} (hn : ss.Nodup) (hm : ∀ s, s ∈ ss ↔ s < n ∧ ∀ e ∈ hs, e.1 ≠ s) (f : Vec p) : SpanL (ss.map (dkv hs)) f ↔ Ann n (SpanH hs) f := by
  have sub : ∀ g, SpanL (ss.map (dkv hs)) g → Ann n (SpanH hs) g := fun g h => h.into (ann_sub n _) fun g hg => by
    obtain ⟨s, hs', rfl⟩ := List.mem_map.mp hg
    exact dkv_ann R b ((hm s).mp hs').1 ((hm s).mp hs').2
  refine ⟨sub f, fun h => ?_⟩
  obtain ⟨g, h1, h2⟩ := dkv_clear (hs := hs) f ss hn fun s hs' => ((hm s).mp hs').2
  have h3 := (ann_sub n (SpanH hs)).sub 1 h (sub g h1)
  have h4 := ann_zero R b h3 fun s hsn hk => by
    have := h2 s ((hm s).mpr ⟨hsn, hk⟩)
    show f s - 1 * g s = 0
    grind
  have : f = g := vext fun k => by
    have h5 : f k - 1 * g k = 0 := congrFun h4 k
    grind
  rw [this]
  exact h1
theorem ann_ann (R : Red hs) (b : ∀ e ∈ hs, Bd e.2 n) (f : Vec p) : Ann n (Ann n (SpanH hs)) f ↔ SpanH hs f := by
  have sub : ∀ g, SpanH hs g → Ann n (Ann n (SpanH hs)) g := fun g hg => ⟨hg.into (sub_bd n) fun g ⟨e, he, q⟩ => q ▸ b e he, fun u hu => by
    rw [sg_congr (y := fun k => u k * g k) fun i _ => by grind]
    exact hu.2 g hg⟩
  refine ⟨fun h => ?_, sub f⟩
  have h1 := pr_mem hs f
  have h2 := (ann_sub n (Ann n (SpanH hs))).sub 1 h (sub _ h1)
  have hz : ∀ k, f k - 1 * pr hs f k = 0 := fun k => by
    rcases Nat.lt_or_ge k n with hk | hk
    · by_cases y : ∃ e ∈ hs, e.1 = k
      · obtain ⟨e, he, rfl⟩ := y
        have := R.rest f e he
        grind
      · have hky : ∀ e ∈ hs, e.1 ≠ k := fun e he z => y ⟨e, he, z⟩
        have h3 := h2.2 _ (dkv_ann R b hk hky)
        rw [sg_one hk fun i hi hne => ?_] at h3
        · have h4 : dkv hs k k = 1 := if_pos rfl
          rw [h4] at h3
          grind
        · by_cases y : ∃ e ∈ hs, e.1 = i
          · obtain ⟨e, he, rfl⟩ := y
            have := R.rest f e he
            show (f e.1 - 1 * pr hs f e.1) * _ = 0
            grind
          · rw [dkv_other (fun e he z => y ⟨e, he, z⟩) hne]
            grind
    · exact h2.1 k hk
  have : f = pr hs f := vext fun k => by have := hz k; grind
  rw [this]
  exact h1
end
end
end RS
namespace RS
section
variable {p : Nat} [Pr p]
/-! ### numbers moved to other places -/
def mvv (w : Nat) (φ : Nat → Nat) (v : Vec p) : Vec p := fun m => ((List.range w).find? fun k => decide (φ k = m)).elim 0 v
theorem mvv_at {w : Nat} {φ : Nat → Nat} {v : Vec p} (inj : ∀ k k', k < w → k' < w → φ k = φ k' → k = k') {k : Nat} (hk : k < w) : mvv w φ v (φ k) = v k := by
  unfold mvv
  cases h : (List.range w).find? fun j => decide (φ j = φ k) with
  | none => exact absurd (List.find?_eq_none.mp h k (List.mem_range.mpr hk)) (by simp)
  | some j =>
    have h1 := List.find?_some h
    have h2 := List.mem_range.mp (List.mem_of_find?_eq_some h)
    have : j = k := inj j k h2 hk (of_decide_eq_true h1)
    rw [this]
    rfl
theorem mvv_out {w : Nat} {φ : Nat → Nat} {v : Vec p} {m : Nat} (h : ∀ k, k < w → φ k ≠ m) : mvv w φ v m = 0 := by
  unfold mvv
  rw [List.find?_eq_none.mpr fun k hk => by simpa using h k (List.mem_range.mp hk)]
  rfl
theorem mvv_cases {w : Nat} {φ : Nat → Nat} (m : Nat) : (∃ k, k < w ∧ φ k = m) ∨ ∀ k, k < w → φ k ≠ m := by
  by_cases h : ∃ k, k < w ∧ φ k = m
  · exact .inl h
  · exact .inr fun k hk e => h ⟨k, hk, e⟩
theorem mvv_axp {w : Nat} {φ : Nat → Nat} (inj : ∀ k k', k < w → k' < w → φ k = φ k' → k = k') (u v : Vec p) (c : Fin p) : mvv w φ (axp u c v) = axp (mvv w φ u) c (mvv w φ v) := vext fun m => by
  rcases mvv_cases (w := w) (φ := φ) m with ⟨k, hk, rfl⟩ | h
  · show _ = mvv w φ u (φ k) + c * mvv w φ v (φ k)
    rw [mvv_at inj hk, mvv_at inj hk, mvv_at inj hk]
    rfl
  · show _ = mvv w φ u m + c * mvv w φ v m
    rw [mvv_out h, mvv_out h, mvv_out h]
    grind
theorem mvv_zero {w : Nat} {φ : Nat → Nat} : mvv w φ (zv : Vec p) = zv := vext fun m => by
  unfold mvv
  cases (List.range w).find? fun k => decide (φ k = m) <;> rfl
theorem mvv_bd {w n : Nat} {φ : Nat → Nat} (h : ∀ k, k < w → φ k < n) (v : Vec p) : Bd (mvv w φ v) n := fun m hm => mvv_out fun k hk e => by have := h k hk; omega
/-! ### what two rooms share -/
def dbl (size : Nat) (r : Vec p) : Vec p := fun k => r k + (if size ≤ k then r (k - size) else 0)
def shf (size : Nat) (f : Vec p) : Vec p := fun k => f (k + size)
def cut (size : Nat) (f : Vec p) : Vec p := fun k => if k < size then f k else 0
theorem cut_bd (size : Nat) (f : Vec p) : Bd (cut size f) size := fun k hk => if_neg (by omega)
/-- what spans one and other, told of halves -/
theorem shared_mem {size : Nat} {one other : List (Vec p)} (b1 : ∀ f ∈ one, Bd f size) (b2 : ∀ f ∈ other, Bd f size) {f : Vec p} (h : SpanL (other ++ one.map (dbl size)) f) :
    SpanL one (shf size f) ∧ SpanL other (fun k => cut size f k - shf size f k) := by
  refine h.into (S := fun f => SpanL one (shf size f) ∧ SpanL other (fun k => cut size f k - shf size f k)) ⟨⟨.zero, ?_⟩, fun {u v} c hu hv => ⟨?_, ?_⟩⟩ fun g hg => ?_
  · have : (fun k => cut size (zv : Vec p) k - shf size (zv : Vec p) k) = zv := vext fun k => by
      unfold cut shf
      show (if k < size then (0 : Fin p) else 0) - 0 = 0
      split <;> grind
    rw [this]
    exact .zero
  · exact (Span.isSub _).a c hu.1 hv.1
  · have := (Span.isSub _).a c hu.2 hv.2
    have e : axp (fun k => cut size u k - shf size u k) c (fun k => cut size v k - shf size v k) = fun k => cut size (axp u c v) k - shf size (axp u c v) k := vext fun k => by
      unfold cut shf
      show (if k < size then u k else 0) - u (k + size) + c * ((if k < size then v k else 0) - v (k + size)) = (if k < size then u k + c * v k else 0) - (u (k + size) + c * v (k + size))
      split <;> grind
    rw [e] at this
    exact this
  · rcases List.mem_append.mp hg with hg | hg
    · have bg := b2 g hg
      have e1 : shf size g = zv := vext fun k => bg _ (by omega)
      have e2 : (fun k => cut size g k - shf size g k) = g := vext fun k => by
        rw [e1]
        unfold cut
        show (if k < size then g k else 0) - 0 = g k
        by_cases q : k < size
        · rw [if_pos q]; grind
        · rw [if_neg q, bg k (by omega)]; grind
      rw [e2, e1]
      exact ⟨.zero, .of hg⟩
    · obtain ⟨r, hr, rfl⟩ := List.mem_map.mp hg
      have br := b1 r hr
      have e1 : shf size (dbl size r) = r := vext fun k => by
        unfold shf dbl
        rw [br _ (by omega), if_pos (by omega), Nat.add_sub_cancel]
        grind
      have e2 : (fun k => cut size (dbl size r) k - shf size (dbl size r) k) = zv := vext fun k => by
        rw [e1]
        unfold cut dbl
        show (if k < size then r k + (if size ≤ k then r (k - size) else 0) else 0) - r k = 0
        by_cases q : k < size
        · rw [if_pos q, if_neg (by omega)]; grind
        · rw [if_neg q, br k (by omega)]; grind
      rw [e2, e1]
      exact ⟨.of hr, .zero⟩
theorem dbl_span {size : Nat} {one other : List (Vec p)} {u : Vec p} (h : SpanL one u) : SpanL (other ++ one.map (dbl size)) (dbl size u) := by
  induction h with
  | zero =>
    have : dbl size (zv : Vec p) = zv := vext fun k => by
      unfold dbl
      show (0 : Fin p) + (if size ≤ k then 0 else 0) = 0
      split <;> grind
    rw [this]
    exact .zero
  | @step f g c _ hg ih =>
    have : dbl size (axp f c g) = axp (dbl size f) c (dbl size g) := vext fun k => by
      unfold dbl
      show f k + c * g k + (if size ≤ k then f (k - size) + c * g (k - size) else 0) = f k + (if size ≤ k then f (k - size) else 0) + c * (g k + (if size ≤ k then g (k - size) else 0))
      split <;> grind
    rw [this]
    exact .step c ih (List.mem_append_right _ (List.mem_map.mpr ⟨g, hg, rfl⟩))
theorem span_bd {l : List (Vec p)} {n : Nat} (b : ∀ f ∈ l, Bd f n) {f : Vec p} (h : SpanL l f) : Bd f n := h.into (sub_bd n) b
def upH (size : Nat) (hs : List (Hd p)) : List (Hd p) := (hs.filter fun e => decide (size ≤ e.1)).map fun e => (e.1 - size, shf size e.2)
theorem shared_red {size : Nat} {hs : List (Hd p)} (R : Red hs) : Red (upH size hs) := by
  have hm : ∀ x ∈ upH size hs, ∃ e ∈ hs, size ≤ e.1 ∧ x = (e.1 - size, shf size e.2) := fun x hx => by
    obtain ⟨e, he, rfl⟩ := List.mem_map.mp hx
    obtain ⟨h1, h2⟩ := List.mem_filter.mp he
    exact ⟨e, h1, of_decide_eq_true h2, rfl⟩
  refine ⟨?_, fun x hx => ?_, fun x hx j hj => ?_, fun x hx y hy hne => ?_⟩
  · unfold upH
    rw [List.map_map]
    refine List.pairwise_map.mpr (List.Pairwise.imp_of_mem (R := fun a b => a.1 ≠ b.1) (fun {a b} ha hb h => ?_) ((List.pairwise_map.mp R.nd).sublist List.filter_sublist))
    have h1 := of_decide_eq_true (List.mem_filter.mp ha).2
    have h2 := of_decide_eq_true (List.mem_filter.mp hb).2
    show a.1 - size ≠ b.1 - size
    omega
  · obtain ⟨e, he, h, rfl⟩ := hm x hx
    show e.2 (e.1 - size + size) = 1
    rw [Nat.sub_add_cancel h, R.one e he]
  · obtain ⟨e, he, h, rfl⟩ := hm x hx
    have hj : j < e.1 - size := hj
    exact R.low e he _ (by omega)
  · obtain ⟨e, he, h, rfl⟩ := hm x hx
    obtain ⟨e', he', h', rfl⟩ := hm y hy
    have hne : e'.1 - size ≠ e.1 - size := hne
    show e.2 (e'.1 - size + size) = 0
    rw [Nat.sub_add_cancel h', R.off e he e' he' (by omega)]
theorem shared_span {size : Nat} {one other : List (Vec p)} (b1 : ∀ f ∈ one, Bd f size) (b2 : ∀ f ∈ other, Bd f size) {hs : List (Hd p)} (R : Red hs) (h : ∀ f, SpanH hs f ↔ SpanL (other ++ one.map (dbl size)) f) (u : Vec p) :
    SpanH (upH size hs) u ↔ SpanL one u ∧ SpanL other u := by
  constructor
  · intro hu
    refine hu.into (S := fun u => SpanL one u ∧ SpanL other u) ⟨⟨.zero, .zero⟩, fun c a b => ⟨(Span.isSub _).a c a.1 b.1, (Span.isSub _).a c a.2 b.2⟩⟩ fun g hg => ?_
    obtain ⟨x, hx, rfl⟩ := hg
    obtain ⟨e, he, rfl⟩ := List.mem_map.mp hx
    obtain ⟨h1, h2⟩ := List.mem_filter.mp he
    have h2 := of_decide_eq_true h2
    obtain ⟨k1, k2⟩ := shared_mem b1 b2 ((h e.2).mp (.of ⟨e, h1, rfl⟩))
    refine ⟨k1, ?_⟩
    have e0 : (fun k => cut size e.2 k - shf size e.2 k) = fun k => -1 * shf size e.2 k := vext fun k => by
      unfold cut
      have : (if k < size then e.2 k else 0) = 0 := by
        by_cases q : k < size
        · rw [if_pos q, R.low e h1 k (by omega)]
        · rw [if_neg q]
      rw [this]
      grind
    rw [e0] at k2
    have := (Span.isSub _).of_mul (-1) k2
    have e1 : (fun k => -1 * (-1 * shf size e.2 k)) = shf size e.2 := vext fun k => by grind
    rw [e1] at this
    exact this
  · rintro ⟨h1, h2⟩
    -- the vector (0, u)
    have bu := span_bd b1 h1
    have hm : SpanH hs (fun k => dbl size u k - 1 * u k) := (Span.isSub _).sub 1 ((h _).mpr (dbl_span h1)) ((h u).mpr (h2.mono fun g hg => .of (List.mem_append_left _ hg)))
    have hz : ∀ k, k < size → dbl size u k - 1 * u k = 0 := fun k hk => by
      unfold dbl
      rw [if_neg (by omega)]
      grind
    have hp := R.eq_pr hm
    have e2 : u = pr (upH size hs) u := vext fun j => by
      have h4 : dbl size u (j + size) - 1 * u (j + size) = u j := by
        unfold dbl
        rw [if_pos (by omega), Nat.add_sub_cancel]
        grind
      have h3 : dbl size u (j + size) - 1 * u (j + size) = pr hs (fun k => dbl size u k - 1 * u k) (j + size) := congrFun hp (j + size)
      rw [h4] at h3
      refine h3.trans ?_
      clear h3 h4 hp hm h R
      induction hs with
      | nil => rfl
      | cons e r ih =>
        rw [pr_cons, ih]
        unfold upH
        rw [List.filter_cons]
        by_cases q : size ≤ e.1
        · rw [if_pos (decide_eq_true q), List.map_cons, pr_cons]
          have : dbl size u e.1 - 1 * u e.1 = u (e.1 - size) := by
            unfold dbl
            rw [if_pos q]
            grind
          rw [this]
          rfl
        · rw [if_neg (by simpa using q), hz e.1 (by omega)]
          grind
    rw [e2]
    exact pr_mem _ _
end
end RS
namespace RS
section
variable {p : Nat} [Pr p]
/-! ### rule books and what they span: plain -/
theorem nodup_len : ∀ {n : Nat} {ks : List Nat}, ks.Nodup → (∀ k ∈ ks, k < n) → ks.length ≤ n
  | 0, [], _, _ => Nat.le_refl _
  | 0, k :: _, _, h => absurd (h k List.mem_cons_self) (by omega)
  | n + 1, ks, hn, h => by
    have h1 := nodup_len (n := n) (ks := ks.erase n) (hn.erase n) (fun k hk => by
      have h2 := h k (List.mem_of_mem_erase hk)
      have h3 : k ≠ n := fun e => by
        subst e
        exact (List.Nodup.not_mem_erase hn) hk
      omega)
    have := List.length_erase_le (a := n) (l := ks)
    by_cases q : n ∈ ks
    · rw [List.length_erase_of_mem q] at h1
      omega
    · rw [List.erase_of_not_mem q] at h1
      omega
theorem Red.len {hs : List (Hd p)} (R : Red hs) {n : Nat} (b : ∀ e ∈ hs, Bd e.2 n) : hs.length ≤ n := by
  have := nodup_len (n := n) R.nd fun k hk => by
    obtain ⟨e, he, rfl⟩ := List.mem_map.mp hk
    rcases Nat.lt_or_ge e.1 n with z | z
    · exact z
    · have h1 := b e he e.1 z
      rw [R.one e he] at h1
      exact absurd h1 one_ne
  rw [List.length_map] at this
  exact this
theorem cell_inj {n a b c e : Nat} (hb : b < n) (he : e < n) (h : a * n + b = c * n + e) : a = c ∧ b = e := by
  have h1 : (a * n + b) / n = a := by rw [Nat.mul_comm, Nat.mul_add_div (by omega), Nat.div_eq_of_lt hb, Nat.add_zero]
  have h2 : (c * n + e) / n = c := by rw [Nat.mul_comm, Nat.mul_add_div (by omega), Nat.div_eq_of_lt he, Nat.add_zero]
  have h3 : a = c := by rw [← h1, h, h2]
  subst h3
  exact ⟨rfl, by omega⟩
theorem cell_lt {n a b : Nat} (ha : a < n) (hb : b < n) : a * n + b < n * n := by
  have : a * n + n ≤ n * n := by
    have := Nat.mul_le_mul_right n (show a + 1 ≤ n from ha)
    rw [Nat.add_mul, Nat.one_mul] at this
    exact this
  omega
theorem cell_div {n a b : Nat} (hb : b < n) : (a * n + b) / n = a ∧ (a * n + b) % n = b := by
  constructor
  · rw [Nat.mul_comm, Nat.mul_add_div (by omega), Nat.div_eq_of_lt hb, Nat.add_zero]
  · rw [Nat.mul_comm, Nat.mul_add_mod, Nat.mod_eq_of_lt hb]
theorem fm_len {α β : Type} (f : α → List β) (c : Nat) : ∀ l : List α, (∀ x ∈ l, (f x).length = c) → (l.flatMap f).length = l.length * c
  | [], _ => by simp
  | x :: r, h => by rw [List.flatMap_cons, List.length_append, fm_len f c r fun y hy => h y (List.mem_cons_of_mem _ hy), h x List.mem_cons_self, List.length_cons, Nat.add_mul, Nat.one_mul]; omega
theorem fm_snoc {β : Type} (f : Nat → List β) (c : Nat) : (List.range (c + 1)).flatMap f = (List.range c).flatMap f ++ f c := by
  rw [List.range_succ, List.flatMap_append]
  simp
structure Bk (p : Nat) [Pr p] where
  L : Nat
  hs : List (Hd p)
  red : Red hs
  srt : (hs.map (·.1)).Pairwise (· < ·)
  bd : ∀ e ∈ hs, Bd e.2 (L * L)
  lo : 1 ≤ L
  hi : L ≤ 9
def Bk.rv (B : Bk p) : List (Vec p) := B.hs.map (·.2)
def plcF (w bh a b : Nat) (s : Nat) : Nat := (a * w + s) * bh + b
theorem plcF_inj {w bh a b k k' : Nat} (hb : b < bh) (h : plcF w bh a b k = plcF w bh a b k') : k = k' := by
  unfold plcF at h
  have := (cell_inj hb hb h).1
  omega
def placeA (w bh a : Nat) (v : Vec p) : List (Vec p) := (List.range bh).map fun b => mvv w (plcF w bh a b) v
def placeB (w bh a : Nat) (rs : List (Vec p)) : List (Vec p) := rs.flatMap fun v => placeA w bh a v
def placeL (w ah bh : Nat) (rs : List (Vec p)) : List (Vec p) := (List.range ah).flatMap fun a => placeB w bh a rs
theorem placeA_len (w bh a : Nat) (v : Vec p) : (placeA w bh a v).length = bh := by unfold placeA; simp
theorem placeB_len (w bh a : Nat) (rs : List (Vec p)) : (placeB w bh a rs).length = rs.length * bh := fm_len _ _ _ fun x _ => placeA_len _ _ _ _
theorem placeL_len (w ah bh : Nat) (rs : List (Vec p)) : (placeL w ah bh rs).length = ah * (rs.length * bh) := by
  unfold placeL
  rw [fm_len _ (rs.length * bh) _ fun x _ => placeB_len _ _ _ _, List.length_range]
def nothL (B : Bk p) (n c : Nat) : List (Vec p) := (List.range c).flatMap fun m => placeL (B.L * B.L) (B.L ^ m) (B.L ^ (n - m - 2)) B.rv
theorem plc_lt {w bh a b s ah : Nat} (ha : a < ah) (hb : b < bh) (hs : s < w) : plcF w bh a b s < ah * (w * bh) := by
  unfold plcF
  have h1 := Nat.mul_le_mul_right w (show a + 1 ≤ ah from ha)
  rw [Nat.add_mul, Nat.one_mul] at h1
  have h2 := Nat.mul_le_mul_right bh (show a * w + s + 1 ≤ ah * w by omega)
  rw [Nat.add_mul, Nat.one_mul, Nat.mul_assoc ah w bh] at h2
  omega
theorem noth_pow {L n m : Nat} (h : m + 2 ≤ n) : L ^ m * (L * L * L ^ (n - m - 2)) = L ^ n := by
  rw [← Nat.pow_two, ← Nat.pow_add, ← Nat.pow_add]
  exact congrArg _ (by omega)
theorem noth_bd (B : Bk p) {n c : Nat} (hc : c + 1 ≤ n) : ∀ f ∈ nothL B n c, Bd f (B.L ^ n) := fun f hf => by
  obtain ⟨m, hm, hf⟩ := List.mem_flatMap.mp hf
  have hm := List.mem_range.mp hm
  obtain ⟨a, ha, hf⟩ := List.mem_flatMap.mp hf
  obtain ⟨v, hv, hf⟩ := List.mem_flatMap.mp hf
  obtain ⟨b, hb, rfl⟩ := List.mem_map.mp hf
  rw [← noth_pow (L := B.L) (show m + 2 ≤ n by omega)]
  exact mvv_bd (fun s hs => plc_lt (List.mem_range.mp ha) (List.mem_range.mp hb) hs) v
def ahA (m a : Nat) (rs : List (Vec p)) : List (Vec p) := rs.map fun v => mvv m (fun k => a * m + k) v
def beA (q m a : Nat) (rs : List (Vec p)) : List (Vec p) := rs.map fun v => mvv m (fun k => k * q + a) v
def ahL (m c : Nat) (rs : List (Vec p)) : List (Vec p) := (List.range c).flatMap fun a => ahA m a rs
def beL (q m c : Nat) (rs : List (Vec p)) : List (Vec p) := (List.range c).flatMap fun a => beA q m a rs
theorem ahL_len (m c : Nat) (rs : List (Vec p)) : (ahL m c rs).length = c * rs.length := by
  unfold ahL
  rw [fm_len _ rs.length _ fun a _ => by unfold ahA; simp, List.length_range]
theorem beL_len (q m c : Nat) (rs : List (Vec p)) : (beL q m c rs).length = c * rs.length := by
  unfold beL
  rw [fm_len _ rs.length _ fun a _ => by unfold beA; simp, List.length_range]
theorem ahL_bd {m q : Nat} {rs : List (Vec p)} : ∀ f ∈ ahL m q rs, Bd f (m * q) := fun f hf => by
  obtain ⟨a, ha, hf⟩ := List.mem_flatMap.mp hf
  obtain ⟨v, hv, rfl⟩ := List.mem_map.mp hf
  refine mvv_bd (fun k hk => ?_) v
  have h1 := Nat.mul_le_mul_right m (show a + 1 ≤ q from List.mem_range.mp ha)
  rw [Nat.add_mul, Nat.one_mul, Nat.mul_comm q m] at h1
  omega
theorem beL_bd {m q : Nat} {rs : List (Vec p)} : ∀ f ∈ beL q m q rs, Bd f (m * q) := fun f hf => by
  obtain ⟨a, ha, hf⟩ := List.mem_flatMap.mp hf
  obtain ⟨v, hv, rfl⟩ := List.mem_map.mp hf
  refine mvv_bd (fun k hk => ?_) v
  have h1 := Nat.mul_le_mul_right q (show k + 1 ≤ m from hk)
  rw [Nat.add_mul, Nat.one_mul] at h1
  have := List.mem_range.mp ha
  omega
def unit (a : Nat) : Vec p := fun k => if k = a then 1 else 0
def c1s (B : Bk p) : List (Hd p) := (List.range B.L).map fun a => (a, unit a)
/-- the shared rooms, length by length -/
structure Com (B : Bk p) (cs : List (List (Hd p))) : Prop where
  c0 : cs[0]? = some [(0, unit 0)]
  c1 : cs[1]? = some (c1s B)
  c2 : cs[2]? = some B.hs
  step : ∀ s c, cs[s + 3]? = some c → ∃ b, cs[s + 2]? = some b ∧ Red c ∧ (c.map (·.1)).Pairwise (· < ·) ∧ (∀ e ∈ c, Bd e.2 (B.L ^ (s + 3))) ∧ ∀ f, SpanH c f ↔ SpanL (ahL (B.L ^ (s + 2)) B.L (b.map (·.2))) f ∧ SpanL (beL B.L (B.L ^ (s + 2)) B.L (b.map (·.2))) f
def rws (cs : List (List (Hd p))) : List (List (Vec p)) := cs.map fun c => c.map (·.2)
theorem Bk.len (B : Bk p) : B.hs.length ≤ B.L * B.L := B.red.len B.bd
end
end RS
namespace RS
section
variable {p : Nat} [Pr p]
/-! ### the ladders: plain -/
def nokey (hs : List (Hd p)) (s : Nat) : Bool := !decide (∃ e ∈ hs, e.1 = s)
def pls (hs : List (Hd p)) (N : Nat) : List Nat := (List.range N).filter (nokey hs)
def rest (hs : List (Hd p)) (f : Vec p) : Vec p := fun j => f j - pr hs f j
def pick (l : List Nat) (g : Vec p) : Vec p := fun i => if i < l.length then g (l.getD i 0) else 0
/-- the number a row of the shared rooms has at letter a and the i-th lead -/
def numb (w : Nat) (lo : List (Hd p)) (e : Vec p) (a i : Nat) : Fin p := e (a * w + hk lo i)
def stepV (q w : Nat) (pl : List Nat) (lo : List (Hd p)) (ra : Nat → Vec p) (e : Vec p) : Vec p := fun j =>
  if j < pl.length * lo.length then sg q (fun a => pick pl (ra a) (j / lo.length) * numb w lo e a (j % lo.length)) else 0
def stepL (B : Bk p) (Ih : Nat → List (Hd p)) (cs : List (List (Hd p))) (n s : Nat) : List (Vec p) :=
  (pls (Ih (n - s)) (B.L ^ (n - s))).flatMap fun t => (cs.getD s []).map fun e =>
    stepV B.L (B.L ^ (s - 1)) (pls (Ih (n - s + 1)) (B.L ^ (n - s + 1))) (cs.getD (s - 1) []) (fun a => rest (Ih (n - s + 1)) (unit (t * B.L + a))) e.2
structure IhOk (B : Bk p) (n : Nat) (hs : List (Hd p)) : Prop where
  red : Red hs
  bd : ∀ e ∈ hs, Bd e.2 (B.L ^ n)
  sp : ∀ f, SpanH hs f ↔ SpanL (nothL B n (n - 1)) f
def Exact (B : Bk p) (Ih : Nat → List (Hd p)) (cs : List (List (Hd p))) (n : Nat) : Prop := ∃ r : Nat → Nat, r 0 = 0 ∧ r (n + 1) = 0 ∧
  (∀ s, 1 ≤ s → s ≤ n → ∀ hs, Red hs → (∀ f, SpanH hs f ↔ SpanL (stepL B Ih cs n s) f) → hs.length = r s) ∧
  ∀ s, s ≤ n → (pls (Ih (n - s)) (B.L ^ (n - s))).length * (cs.getD s []).length = r s + r (s + 1)
theorem unit_same (a : Nat) : (unit a : Vec p) a = 1 := by unfold unit; rw [if_pos rfl]
theorem unit_ne {a j : Nat} (h : j ≠ a) : (unit a : Vec p) j = 0 := by unfold unit; rw [if_neg h]
theorem unit_red0 : Red [((0 : Nat), (unit 0 : Vec p))] := by
  refine ⟨by simp, fun e he => ?_, fun e he j hj => ?_, fun e he e' he' h => ?_⟩
  · rw [List.mem_singleton.mp he]; exact unit_same 0
  · rw [List.mem_singleton.mp he] at hj; exact absurd hj (Nat.not_lt_zero j)
  · rw [List.mem_singleton.mp he, List.mem_singleton.mp he'] at h; exact absurd rfl h
theorem c1s_red (B : Bk p) : Red (c1s B) := by
  have hm : ∀ e ∈ c1s B, ∃ a, a < B.L ∧ e = (a, unit a) := fun e he => by
    obtain ⟨a, ha, rfl⟩ := List.mem_map.mp he
    exact ⟨a, List.mem_range.mp ha, rfl⟩
  refine ⟨?_, fun e he => ?_, fun e he j hj => ?_, fun e he e' he' h => ?_⟩
  · unfold c1s
    rw [List.map_map]
    have : (fun x : Hd p => x.1) ∘ (fun a : Nat => (a, (unit a : Vec p))) = id := rfl
    rw [this, List.map_id]
    exact List.nodup_range
  · obtain ⟨a, _, rfl⟩ := hm e he
    exact unit_same a
  · obtain ⟨a, _, rfl⟩ := hm e he
    have hj : j < a := hj
    exact unit_ne (by omega)
  · obtain ⟨a, _, rfl⟩ := hm e he
    obtain ⟨b, _, rfl⟩ := hm e' he'
    exact unit_ne h
theorem unit_bd {a n : Nat} (h : a < n) : Bd (unit a : Vec p) n := fun k hk => unit_ne (by omega)
theorem com_red {B : Bk p} {cs : List (List (Hd p))} (C : Com B cs) {s : Nat} {c : List (Hd p)} (h : cs[s]? = some c) : Red c ∧ ∀ e ∈ c, Bd e.2 (B.L ^ s) := by
  match s with
  | 0 =>
    rw [C.c0] at h
    cases h
    refine ⟨unit_red0, fun e he => ?_⟩
    rw [List.mem_singleton.mp he]
    exact unit_bd (by simp)
  | 1 =>
    rw [C.c1] at h
    cases h
    refine ⟨c1s_red B, fun e he => ?_⟩
    obtain ⟨a, ha, rfl⟩ := List.mem_map.mp he
    rw [Nat.pow_one]
    exact unit_bd (List.mem_range.mp ha)
  | 2 =>
    rw [C.c2] at h
    cases h
    refine ⟨B.red, ?_⟩
    rw [Nat.pow_two]
    exact B.bd
  | s + 3 =>
    obtain ⟨b, _, h1, _, h2, _⟩ := C.step s c h
    exact ⟨h1, h2⟩
theorem mem_pls {hs : List (Hd p)} {N s : Nat} : s ∈ pls hs N ↔ s < N ∧ ∀ e ∈ hs, e.1 ≠ s := by
  unfold pls
  rw [List.mem_filter, List.mem_range]
  refine and_congr_right fun _ => ?_
  unfold nokey
  rw [Bool.not_eq_true', decide_eq_false_iff_not]
  exact ⟨fun h e he z => h ⟨e, he, z⟩, fun h ⟨e, he, z⟩ => h e he z⟩
theorem pls_nodup (hs : List (Hd p)) (N : Nat) : (pls hs N).Nodup := List.nodup_range.sublist List.filter_sublist
theorem pls_len (hs : List (Hd p)) (N : Nat) : (pls hs N).length ≤ N := by
  have := List.length_filter_le (nokey hs) (List.range N)
  rw [List.length_range] at this
  exact this
/-- what is left when cleared is the rest -/
theorem rest_uniq {hs : List (Hd p)} (R : Red hs) {f g : Vec p} (h : SpanH hs (fun j => f j - g j)) (h0 : ∀ e ∈ hs, g e.1 = 0) : g = rest hs f := by
  have h1 := (Span.isSub _).sub 1 (pr_mem hs f) h
  have h2 := R.zero h1 fun e he => by
    have := R.rest f e he
    have h3 := h0 e he
    show pr hs f e.1 - 1 * (f e.1 - g e.1) = 0
    rw [h3]
    grind
  refine vext fun j => ?_
  have h3 : pr hs f j - 1 * (f j - g j) = 0 := congrFun h2 j
  show g j = f j - pr hs f j
  grind
theorem rest_key {hs : List (Hd p)} (R : Red hs) (f : Vec p) : ∀ e ∈ hs, rest hs f e.1 = 0 := fun e he => R.rest f e he
theorem pr_bd {hs : List (Hd p)} {n : Nat} (b : ∀ e ∈ hs, Bd e.2 n) (f : Vec p) : Bd (pr hs f) n := (pr_mem hs f).into (sub_bd n) fun g ⟨e, he, q⟩ => q ▸ b e he
theorem rest_bd {hs : List (Hd p)} {n : Nat} (b : ∀ e ∈ hs, Bd e.2 n) {f : Vec p} (hf : Bd f n) : Bd (rest hs f) n := fun k hk => by
  show f k - pr hs f k = 0
  rw [hf k hk, pr_bd b f k hk]
  grind
end
end RS
namespace RS
section
variable {p : Nat} [Pr p]
/-! ### clearing column by column -/
/-- what stands behind the first i columns: done hs, left ls -/
structure Clr (n i : Nat) (gs : List (Vec p)) (hs : List (Hd p)) (ls : List (Vec p)) : Prop where
  red : Red hs
  srt : (hs.map (·.1)).Pairwise (· < ·)
  key : ∀ e ∈ hs, e.1 < i
  bd : ∀ e ∈ hs, Bd e.2 n
  lbd : ∀ l ∈ ls, Bd l n
  low : ∀ l ∈ ls, ∀ j, j < i → l j = 0
  sp : ∀ f, SpanL (hs.map (·.2) ++ ls) f ↔ SpanL gs f
theorem Clr.start {n : Nat} {gs : List (Vec p)} (h : ∀ g ∈ gs, Bd g n) : Clr n 0 gs [] gs :=
  ⟨Red.nil, List.Pairwise.nil, fun e he => (by cases he), fun e he => (by cases he), h, fun l _ j hj => absurd hj (Nat.not_lt_zero j), fun f => (by rw [List.map_nil, List.nil_append])⟩
theorem Clr.skip {n i : Nat} {gs : List (Vec p)} {hs : List (Hd p)} {ls : List (Vec p)} (C : Clr n i gs hs ls) (h : ∀ l ∈ ls, l i = 0) : Clr n (i + 1) gs hs ls :=
  ⟨C.red, C.srt, fun e he => by have := C.key e he; omega, C.bd, C.lbd, fun l hl j hj => by
    by_cases q : j < i
    · exact C.low l hl j q
    · rw [show j = i by omega]; exact h l hl, C.sp⟩
def less (i : Nat) (g l : Vec p) : Vec p := fun j => l j - l i * g j
theorem Clr.take {n i k : Nat} {gs : List (Vec p)} {hs : List (Hd p)} {ls : List (Vec p)} {c : Vec p} {z : Fin p} (C : Clr n i gs hs ls) (hk : ls[k]? = some c) (hc : c i ≠ 0) (hz : z * c i = 1) (hi : i < n) :
    Clr n (i + 1) gs (addH hs i fun j => c j * z) ((ls.eraseIdx k).map (less i fun j => c j * z)) := by
  have hcm : c ∈ ls := List.mem_of_getElem? hk
  have g1 : (fun j => c j * z) i = 1 := by show c i * z = 1; grind
  have glow : ∀ j, j < i → (fun j => c j * z) j = 0 := fun j hj => by show c j * z = 0; rw [C.low c hcm j hj]; grind
  have g0 : ∀ e ∈ hs, (fun j => c j * z) e.1 = 0 := fun e he => glow _ (C.key e he)
  have gbd : Bd (fun j => c j * z) n := fun j hj => by show c j * z = 0; rw [C.lbd c hcm j hj]; grind
  have hm : ∀ l ∈ ls.eraseIdx k, l ∈ ls := fun l hl => List.mem_of_mem_eraseIdx hl
  refine ⟨C.red.add g0 g1 glow, ?_, fun e he => ?_, fun e he => ?_, fun l hl => ?_, fun l hl j hj => ?_, fun f => ?_⟩
  · unfold addH
    rw [List.map_append, List.map_map]
    refine List.pairwise_append.mpr ⟨C.srt, by simp, fun a ha b hb => ?_⟩
    obtain ⟨e, he, rfl⟩ := List.mem_map.mp ha
    have : b = i := by simpa using hb
    rw [this]
    exact C.key e he
  · rcases mem_addH.mp he with ⟨e', he', rfl⟩ | rfl
    · have := C.key e' he'
      show e'.1 < i + 1
      omega
    · show i < i + 1
      omega
  · rcases mem_addH.mp he with ⟨e', he', rfl⟩ | rfl
    · intro j hj
      show e'.2 j - e'.2 i * (c j * z) = 0
      rw [C.bd e' he' j hj, C.lbd c hcm j hj]
      grind
    · exact gbd
  · obtain ⟨l', hl', rfl⟩ := List.mem_map.mp hl
    intro j hj
    show l' j - l' i * (c j * z) = 0
    rw [C.lbd l' (hm l' hl') j hj, C.lbd c hcm j hj]
    grind
  · obtain ⟨l', hl', rfl⟩ := List.mem_map.mp hl
    show l' j - l' i * (c j * z) = 0
    by_cases q : j < i
    · rw [C.low l' (hm l' hl') j q, C.low c hcm j q]
      grind
    · rw [show j = i by omega]
      have : c i * z = 1 := g1
      rw [this]
      grind
  · rw [← C.sp f]
    have hg : ∀ A : Vec p → Prop, Sub A → A c → A (fun j => c j * z) := fun A hA h => by
      have := hA.of_mul z h
      have e : (fun k => z * c k) = fun j => c j * z := vext fun j => by grind
      rw [e] at this
      exact this
    have hgi : ∀ A : Vec p → Prop, Sub A → A (fun j => c j * z) → A c := fun A hA h => by
      have := hA.of_mul (c i) h
      have e : (fun k => c i * (c k * z)) = c := vext fun j => by
        have : c i * (c j * z) = (z * c i) * c j := by grind
        rw [this, hz]
        grind
      rw [e] at this
      exact this
    constructor
    · refine Span.mono fun x hx => ?_
      have sub := Span.isSub (p := p) fun g => g ∈ hs.map (·.2) ++ ls
      have hcs : Span (fun g => g ∈ hs.map (·.2) ++ ls) c := .of (List.mem_append_right _ hcm)
      have hgs := hg _ sub hcs
      rcases List.mem_append.mp hx with hx | hx
      · obtain ⟨e, he, rfl⟩ := List.mem_map.mp hx
        rcases mem_addH.mp he with ⟨e', he', rfl⟩ | rfl
        · exact sub.sub (e'.2 i) (.of (List.mem_append_left _ (List.mem_map.mpr ⟨e', he', rfl⟩))) hgs
        · exact hgs
      · obtain ⟨l', hl', rfl⟩ := List.mem_map.mp hx
        exact sub.sub (l' i) (.of (List.mem_append_right _ (hm l' hl'))) hgs
    · refine Span.mono fun x hx => ?_
      have sub := Span.isSub (p := p) fun g => g ∈ (addH hs i fun j => c j * z).map (·.2) ++ (ls.eraseIdx k).map (less i fun j => c j * z)
      have hgs : Span (fun g => g ∈ (addH hs i fun j => c j * z).map (·.2) ++ (ls.eraseIdx k).map (less i fun j => c j * z)) (fun j => c j * z) := .of (List.mem_append_left _ (List.mem_map.mpr ⟨_, mem_addH.mpr (.inr rfl), rfl⟩))
      rcases List.mem_append.mp hx with hx | hx
      · obtain ⟨e, he, rfl⟩ := List.mem_map.mp hx
        have h1 : Span (fun g => g ∈ (addH hs i fun j => c j * z).map (·.2) ++ (ls.eraseIdx k).map (less i fun j => c j * z)) (fun j => e.2 j - e.2 i * (c j * z)) := .of (List.mem_append_left _ (List.mem_map.mpr ⟨_, mem_addH.mpr (.inl ⟨e, he, rfl⟩), rfl⟩))
        have := sub.a (e.2 i) h1 hgs
        have e2 : axp (fun j => e.2 j - e.2 i * (c j * z)) (e.2 i) (fun j => c j * z) = e.2 := vext fun j => by
          show e.2 j - e.2 i * (c j * z) + e.2 i * (c j * z) = e.2 j
          grind
        rw [e2] at this
        exact this
      · by_cases q : x = c
        · rw [q]
          exact hgi _ sub hgs
        · have hxe : x ∈ ls.eraseIdx k := by
            obtain ⟨j, hj, rfl⟩ := List.getElem_of_mem hx
            refine List.mem_eraseIdx_iff_getElem.mpr ⟨j, hj, fun z => q ?_, rfl⟩
            subst z
            rw [List.getElem?_eq_getElem hj] at hk
            exact Option.some.inj hk
          have h1 : Span (fun g => g ∈ (addH hs i fun j => c j * z).map (·.2) ++ (ls.eraseIdx k).map (less i fun j => c j * z)) (less i (fun j => c j * z) x) := .of (List.mem_append_right _ (List.mem_map.mpr ⟨x, hxe, rfl⟩))
          have := sub.a (x i) h1 hgs
          have e2 : axp (less i (fun j => c j * z) x) (x i) (fun j => c j * z) = x := vext fun j => by
            show x j - x i * (c j * z) + x i * (c j * z) = x j
            grind
          rw [e2] at this
          exact this
theorem Clr.done {n : Nat} {gs : List (Vec p)} {hs : List (Hd p)} {ls : List (Vec p)} (C : Clr n n gs hs ls) (f : Vec p) : SpanH hs f ↔ SpanL gs f := by
  rw [← C.sp f]
  constructor
  · exact Span.mono fun g ⟨e, he, q⟩ => .of (List.mem_append_left _ (List.mem_map.mpr ⟨e, he, q⟩))
  · refine Span.mono fun g hg => ?_
    rcases List.mem_append.mp hg with hg | hg
    · obtain ⟨e, he, q⟩ := List.mem_map.mp hg
      exact .of ⟨e, he, q⟩
    · have : g = zv := vext fun j => by
        by_cases q : j < n
        · exact C.low g hg j q
        · exact C.lbd g hg j (by omega)
      rw [this]
      exact .zero
end
end RS
namespace RS
section
variable {p : Nat} [Pr p]
/-! ### slices of words -/
def suf (m v : Nat) (f : Vec p) : Vec p := fun u => f (u * m + v)
def pre (m u : Nat) (f : Vec p) : Vec p := fun v => if v < m then f (u * m + v) else 0
theorem suf_axp (m v : Nat) (f g : Vec p) (c : Fin p) : suf m v (axp f c g) = axp (suf m v f) c (suf m v g) := rfl
theorem pre_axp (m u : Nat) (f g : Vec p) (c : Fin p) : pre m u (axp f c g) = axp (pre m u f) c (pre m u g) := vext fun v => by
  unfold pre axp
  dsimp only
  split <;> grind
theorem pre_bd (m u : Nat) (f : Vec p) : Bd (pre m u f) m := fun k hk => if_neg (by omega)
theorem suf_bd {M m v : Nat} {f : Vec p} (h : Bd f (M * m)) : Bd (suf m v f) M := fun k hk => h _ (by
  have := Nat.mul_le_mul_right m hk
  omega)
theorem suf_zv (m v : Nat) : suf m v (zv : Vec p) = zv := rfl
theorem pre_zv (m v : Nat) : pre m v (zv : Vec p) = zv := vext fun k => by unfold pre zv; split <;> rfl
theorem ub_lt {M m u v : Nat} (hu : u < M) (hv : v < m) : u * m + v < M * m := by
  have := Nat.mul_le_mul_right m (show u + 1 ≤ M from hu)
  rw [Nat.add_mul, Nat.one_mul] at this
  omega
/-- a word put behind, a word put ahead -/
def extS (m v M : Nat) (g : Vec p) : Vec p := mvv M (fun u => u * m + v) g
def extP (m u : Nat) (g : Vec p) : Vec p := mvv m (fun v => u * m + v) g
theorem injS {m v : Nat} (hv : v < m) (M : Nat) : ∀ k k', k < M → k' < M → k * m + v = k' * m + v → k = k' := fun k k' _ _ h => (cell_inj hv hv h).1
theorem injP (m u : Nat) : ∀ k k', k < m → k' < m → u * m + k = u * m + k' → k = k' := fun k k' _ _ h => by omega
theorem extS_axp {m v : Nat} (hv : v < m) (M : Nat) (f g : Vec p) (c : Fin p) : extS m v M (axp f c g) = axp (extS m v M f) c (extS m v M g) := mvv_axp (injS hv M) f g c
theorem extP_axp (m u : Nat) (f g : Vec p) (c : Fin p) : extP m u (axp f c g) = axp (extP m u f) c (extP m u g) := mvv_axp (injP m u) f g c
theorem extS_zv (m v M : Nat) : extS m v M (zv : Vec p) = zv := mvv_zero
theorem extP_zv (m u : Nat) : extP m u (zv : Vec p) = zv := mvv_zero
theorem suf_extS {m v v' M : Nat} (hv : v < m) (hv' : v' < m) {g : Vec p} (hg : Bd g M) : suf m v (extS m v' M g) = if v = v' then g else zv := vext fun u => by
  unfold suf extS
  by_cases e : v = v'
  · subst e
    rw [if_pos rfl]
    by_cases h : u < M
    · exact mvv_at (injS hv M) h
    · rw [hg u (by omega)]
      exact mvv_out fun k hk q => h (by have := (cell_inj hv hv q).1; omega)
  · rw [if_neg e]
    exact mvv_out fun k hk q => e (cell_inj hv' hv q).2.symm
theorem pre_extP {m u u' : Nat} {g : Vec p} (hg : Bd g m) : pre m u (extP m u' g) = if u = u' then g else zv := vext fun v => by
  unfold pre extP
  by_cases h : v < m
  · rw [if_pos h]
    by_cases e : u = u'
    · subst e
      rw [if_pos rfl]
      exact mvv_at (injP m u) h
    · rw [if_neg e]
      exact mvv_out fun k hk q => e (cell_inj hk h q).1.symm
  · rw [if_neg h]
    by_cases e : u = u'
    · rw [if_pos e, hg v (by omega)]
    · rw [if_neg e]; rfl
theorem extS_bd {m v M : Nat} (hv : v < m) (g : Vec p) : Bd (extS m v M g) (M * m) := mvv_bd (fun k hk => ub_lt hk hv) g
theorem extP_bd {m u M : Nat} (hu : u < M) (g : Vec p) : Bd (extP m u g) (M * m) := mvv_bd (fun k hk => ub_lt hu hk) g
theorem div_back (k m : Nat) : k / m * m + k % m = k := by
  have := Nat.div_add_mod k m
  rw [Nat.mul_comm]
  omega
/-- from its slices -/
theorem recP {S : Vec p → Prop} (hS : Sub S) {M m : Nat} {f : Vec p} (hf : Bd f (M * m)) (h : ∀ u, u < M → S (extP m u (pre m u f))) : S f := by
  have e : f = lin M (fun _ => 1) (fun u => extP m u (pre m u f)) := vext fun k => by
    show f k = sg M fun u => 1 * extP m u (pre m u f) k
    rcases Nat.lt_or_ge k (M * m) with hk | hk
    · have hm : 0 < m := Nat.pos_of_ne_zero fun z => by rw [z, Nat.mul_zero] at hk; omega
      have hkm := Nat.mod_lt k hm
      have hkM : k / m < M := Nat.div_lt_of_lt_mul (by rw [Nat.mul_comm]; exact hk)
      have hb := div_back k m
      rw [sg_one hkM fun i hi hne => ?_]
      · have h1 : extP m (k / m) (pre m (k / m) f) (k / m * m + k % m) = pre m (k / m) f (k % m) := mvv_at (injP m _) hkm
        rw [hb] at h1
        rw [h1]
        unfold pre
        rw [if_pos hkm, hb]
        grind
      · have h1 : extP m i (pre m i f) k = 0 := mvv_out fun j hj q => hne (by
          rw [← hb] at q
          exact (cell_inj hj hkm q).1)
        rw [h1]
        grind
    · rw [hf k hk]
      refine (sg_zero fun i hi => ?_).symm
      have := extP_bd hi (pre m i f) k hk
      rw [this]
      grind
  rw [e]
  exact lin_mem hS h _
theorem recS {S : Vec p → Prop} (hS : Sub S) {M m : Nat} {f : Vec p} (hf : Bd f (M * m)) (h : ∀ v, v < m → S (extS m v M (suf m v f))) : S f := by
  have e : f = lin m (fun _ => 1) (fun v => extS m v M (suf m v f)) := vext fun k => by
    show f k = sg m fun v => 1 * extS m v M (suf m v f) k
    rcases Nat.lt_or_ge k (M * m) with hk | hk
    · have hm : 0 < m := Nat.pos_of_ne_zero fun z => by rw [z, Nat.mul_zero] at hk; omega
      have hkm := Nat.mod_lt k hm
      have hkM : k / m < M := Nat.div_lt_of_lt_mul (by rw [Nat.mul_comm]; exact hk)
      have hb := div_back k m
      rw [sg_one hkm fun i hi hne => ?_]
      · have h1 : extS m (k % m) M (suf m (k % m) f) (k / m * m + k % m) = suf m (k % m) f (k / m) := mvv_at (injS hkm M) hkM
        rw [hb] at h1
        rw [h1]
        unfold suf
        rw [hb]
        grind
      · have h1 : extS m i M (suf m i f) k = 0 := mvv_out fun j hj q => hne (by
          rw [← hb] at q
          exact (cell_inj hi hkm q).2)
        rw [h1]
        grind
    · rw [hf k hk]
      refine (sg_zero fun i hi => ?_).symm
      have := extS_bd (M := M) hi (suf m i f) k hk
      rw [this]
      grind
  rw [e]
  exact lin_mem hS h _
theorem mvv_comp {w M : Nat} {φ ψ : Nat → Nat} (iψ : ∀ k k', k < w → k' < w → ψ k = ψ k' → k = k') (hψ : ∀ k, k < w → ψ k < M) (iφ : ∀ k k', k < M → k' < M → φ k = φ k' → k = k') (v : Vec p) :
    mvv M φ (mvv w ψ v) = mvv w (fun k => φ (ψ k)) v := vext fun m => by
  have ic : ∀ k k', k < w → k' < w → φ (ψ k) = φ (ψ k') → k = k' := fun k k' h h' e => iψ k k' h h' (iφ _ _ (hψ k h) (hψ k' h') e)
  rcases mvv_cases (w := w) (φ := fun k => φ (ψ k)) m with ⟨k, hk, rfl⟩ | h
  · rw [mvv_at iφ (hψ k hk), mvv_at iψ hk]
    exact (mvv_at ic hk).symm
  · rw [mvv_out h]
    rcases mvv_cases (w := M) (φ := φ) m with ⟨j, hj, rfl⟩ | h2
    · rw [mvv_at iφ hj]
      exact mvv_out fun k hk e => h k hk (congrArg φ e)
    · exact mvv_out h2
/-- placed rows: told by their slices -/
def PR (S : Vec p → Prop) (w ah bh : Nat) (f : Vec p) : Prop := Bd f (ah * w * bh) ∧ ∀ a b, a < ah → b < bh → S (pre w a (suf bh b f))
theorem PR.sub {S : Vec p → Prop} (hS : Sub S) (w ah bh : Nat) : Sub (PR S w ah bh) := ⟨⟨fun _ _ => rfl, fun a b _ _ => by rw [suf_zv, pre_zv]; exact hS.z⟩, fun {f g} c hf hg => ⟨(sub_bd _).a c hf.1 hg.1, fun a b ha hb => by
  rw [suf_axp, pre_axp]
  exact hS.a c (hf.2 a b ha hb) (hg.2 a b ha hb)⟩⟩
theorem place_iff {w ah bh : Nat} {rs : List (Vec p)} (hr : ∀ v ∈ rs, Bd v w) (f : Vec p) : SpanL (placeL w ah bh rs) f ↔ PR (SpanL rs) w ah bh f := by
  constructor
  · refine Span.into (PR.sub (Span.isSub _) w ah bh) fun g hg => ?_
    obtain ⟨a0, ha0, hg⟩ := List.mem_flatMap.mp hg
    obtain ⟨v, hv, hg⟩ := List.mem_flatMap.mp hg
    obtain ⟨b0, hb0, rfl⟩ := List.mem_map.mp hg
    have ha0 := List.mem_range.mp ha0
    have hb0 := List.mem_range.mp hb0
    refine ⟨mvv_bd (fun k hk => ub_lt (ub_lt ha0 hk) hb0) v, fun a b ha hb => ?_⟩
    by_cases e : a = a0 ∧ b = b0
    · obtain ⟨rfl, rfl⟩ := e
      have : pre w a (suf bh b (mvv w (plcF w bh a b) v)) = v := vext fun s => by
        unfold pre suf
        by_cases h : s < w
        · rw [if_pos h]
          exact mvv_at (fun k k' _ _ q => plcF_inj hb q) h
        · rw [if_neg h, hr v hv s (by omega)]
      rw [this]
      exact .of hv
    · have : pre w a (suf bh b (mvv w (plcF w bh a0 b0) v)) = zv := vext fun s => by
        unfold pre suf
        by_cases h : s < w
        · rw [if_pos h]
          refine mvv_out fun k hk q => e ?_
          obtain ⟨q1, q2⟩ := cell_inj hb0 hb q
          exact ⟨(cell_inj hk h q1).1.symm, q2.symm⟩
        · rw [if_neg h]; rfl
      rw [this]
      exact .zero
  · rintro ⟨hf, h⟩
    have hS := Span.isSub (p := p) fun g => g ∈ placeL w ah bh rs
    refine recS hS hf fun b hb => ?_
    refine recP (S := fun g => Span (fun g => g ∈ placeL w ah bh rs) (extS bh b (ah * w) g)) ⟨by rw [extS_zv]; exact hS.z, fun {f g} c h1 h2 => by rw [extS_axp hb]; exact hS.a c h1 h2⟩ (suf_bd hf) fun a ha => ?_
    refine (h a b ha hb).into (S := fun v => Span (fun g => g ∈ placeL w ah bh rs) (extS bh b (ah * w) (extP w a v))) ⟨by rw [extP_zv, extS_zv]; exact hS.z, fun {f g} c h1 h2 => by rw [extP_axp, extS_axp hb]; exact hS.a c h1 h2⟩ fun v hv => ?_
    have : extS bh b (ah * w) (extP w a v) = mvv w (plcF w bh a b) v := mvv_comp (injP w a) (fun k hk => ub_lt ha hk) (injS hb _) v
    rw [this]
    exact .of (List.mem_flatMap.mpr ⟨a, List.mem_range.mpr ha, List.mem_flatMap.mpr ⟨v, hv, List.mem_map.mpr ⟨b, List.mem_range.mpr hb, rfl⟩⟩⟩)
/-! ### the rooms of a rule at one place of the words of a length -/
def RR (B : Bk p) (n i : Nat) : Vec p → Prop := PR (SpanH B.hs) (B.L * B.L) (B.L ^ i) (B.L ^ (n - i - 2))
theorem RR.sub (B : Bk p) (n i : Nat) : Sub (RR B n i) := PR.sub (Span.isSub _) _ _ _
theorem Bk.rv_bd (B : Bk p) : ∀ v ∈ B.rv, Bd v (B.L * B.L) := fun v hv => by
  obtain ⟨e, he, rfl⟩ := List.mem_map.mp hv
  exact B.bd e he
theorem spanHL (hs : List (Hd p)) (f : Vec p) : SpanL (hs.map (·.2)) f ↔ SpanH hs f := by
  constructor
  · exact Span.mono fun g hg => let ⟨e, he, q⟩ := List.mem_map.mp hg; .of ⟨e, he, q⟩
  · exact Span.mono fun g ⟨e, he, q⟩ => .of (List.mem_map.mpr ⟨e, he, q⟩)
theorem PR.congr {S T : Vec p → Prop} (h : ∀ f, S f ↔ T f) {w ah bh : Nat} {f : Vec p} : PR S w ah bh f ↔ PR T w ah bh f := by
  have : S = T := funext fun f => propext (h f)
  rw [this]
theorem rr_iff (B : Bk p) (n i : Nat) (f : Vec p) : SpanL (placeL (B.L * B.L) (B.L ^ i) (B.L ^ (n - i - 2)) B.rv) f ↔ RR B n i f :=
  (place_iff B.rv_bd f).trans (PR.congr (spanHL B.hs))
theorem rr_pow {L n i : Nat} (h : i + 2 ≤ n) : L ^ i * (L * L) * L ^ (n - i - 2) = L ^ n := by
  rw [← Nat.pow_two, ← Nat.pow_add, ← Nat.pow_add]
  congr 1
  omega
theorem RR.bd {B : Bk p} {n i : Nat} {f : Vec p} (h : RR B n i f) (hi : i + 2 ≤ n) : Bd f (B.L ^ n) := by
  have := h.1
  rw [rr_pow hi] at this
  exact this
/-- sums -/
def XX (B : Bk p) (n c : Nat) : Vec p → Prop := SpanL (nothL B n c)
theorem XX.sub (B : Bk p) (n c : Nat) : Sub (XX B n c) := Span.isSub _
theorem SpanL.app {l l' : List (Vec p)} {f : Vec p} : SpanL (l ++ l') f ↔ ∃ g, SpanL l g ∧ SpanL l' (fun k => f k - 1 * g k) := by
  constructor
  · refine Span.into (S := fun f => ∃ g, SpanL l g ∧ SpanL l' (fun k => f k - 1 * g k)) ⟨⟨zv, .zero, ?_⟩, fun {f g} c hf hg => ?_⟩ fun g hg => ?_
    · have : (fun k => (zv : Vec p) k - 1 * (zv : Vec p) k) = zv := vext fun k => by show (0 : Fin p) - 1 * 0 = 0; grind
      rw [this]
      exact .zero
    · obtain ⟨f1, a1, a2⟩ := hf
      obtain ⟨g1, b1, b2⟩ := hg
      refine ⟨axp f1 c g1, (Span.isSub _).a c a1 b1, ?_⟩
      have := (Span.isSub _).a c a2 b2
      have e : axp (fun k => f k - 1 * f1 k) c (fun k => g k - 1 * g1 k) = fun k => axp f c g k - 1 * axp f1 c g1 k := vext fun k => by
        show f k - 1 * f1 k + c * (g k - 1 * g1 k) = f k + c * g k - 1 * (f1 k + c * g1 k)
        grind
      rw [e] at this
      exact this
    · rcases List.mem_append.mp hg with h | h
      · refine ⟨g, .of h, ?_⟩
        have : (fun k => g k - 1 * g k) = zv := vext fun k => by show g k - 1 * g k = 0; grind
        rw [this]
        exact .zero
      · refine ⟨zv, .zero, ?_⟩
        have : (fun k => g k - 1 * (zv : Vec p) k) = g := vext fun k => by show g k - 1 * 0 = g k; grind
        rw [this]
        exact .of h
  · rintro ⟨g, h1, h2⟩
    have a1 : SpanL (l ++ l') g := h1.mono fun x hx => .of (List.mem_append_left _ hx)
    have a2 : SpanL (l ++ l') (fun k => f k - 1 * g k) := h2.mono fun x hx => .of (List.mem_append_right _ hx)
    have := (Span.isSub _).add a1 a2
    have e : (fun k => g k + (f k - 1 * g k)) = f := vext fun k => by grind
    rw [e] at this
    exact this
theorem XX.succ {B : Bk p} {n c : Nat} {f : Vec p} : XX B n (c + 1) f ↔ ∃ g, XX B n c g ∧ RR B n c (fun k => f k - 1 * g k) := by
  unfold XX
  have e : nothL B n (c + 1) = nothL B n c ++ placeL (B.L * B.L) (B.L ^ c) (B.L ^ (n - c - 2)) B.rv := fm_snoc _ c
  rw [e, SpanL.app]
  refine exists_congr fun g => and_congr_right fun _ => rr_iff B n c _
theorem XX.le {B : Bk p} {n c d : Nat} (h : c ≤ d) {f : Vec p} (hf : XX B n c f) : XX B n d f := by
  refine hf.mono fun g hg => .of ?_
  obtain ⟨m, hm, hg⟩ := List.mem_flatMap.mp hg
  exact List.mem_flatMap.mpr ⟨m, List.mem_range.mpr (by have := List.mem_range.mp hm; omega), hg⟩
theorem XX.of {B : Bk p} {n c i : Nat} (h : i < c) {f : Vec p} (hf : RR B n i f) : XX B n c f := by
  refine Span.mono (A := fun g => g ∈ placeL (B.L * B.L) (B.L ^ i) (B.L ^ (n - i - 2)) B.rv) (fun g hg => .of ?_) ((rr_iff B n i f).mpr hf)
  exact List.mem_flatMap.mpr ⟨i, List.mem_range.mpr h, hg⟩
/-- it is enough to look at the rooms of the places -/
theorem XX.into {B : Bk p} {n c : Nat} {S : Vec p → Prop} (hS : Sub S) (h : ∀ i, i < c → ∀ f, RR B n i f → S f) {f : Vec p} (hf : XX B n c f) : S f :=
  Span.into hS (fun g hg => by
    obtain ⟨m, hm, hg⟩ := List.mem_flatMap.mp hg
    exact h m (List.mem_range.mp hm) g ((rr_iff B n m g).mp (.of hg))) hf
theorem XX.zero {B : Bk p} {n : Nat} {f : Vec p} (h : XX B n 0 f) : f = zv := SpanL.nil.mp h
theorem XX.bd {B : Bk p} {n c : Nat} (h : c + 1 ≤ n) {f : Vec p} (hf : XX B n c f) : Bd f (B.L ^ n) := hf.into (sub_bd _) fun i hi f h => h.bd (by omega)
/-! slices of the rooms -/
theorem ix3 (u m v m' v' : Nat) : (u * m + v) * m' + v' = u * (m * m') + (v * m' + v') := by
  rw [Nat.add_mul, Nat.mul_assoc, Nat.add_assoc]
/-- cut behind: a place that lies ahead of the cut -/
theorem rr_suf {B : Bk p} {n t i : Nat} (hi : i + 2 ≤ n) (f : Vec p) : RR B (n + t) i f ↔ Bd f (B.L ^ (n + t)) ∧ ∀ v, v < B.L ^ t → RR B n i (suf (B.L ^ t) v f) := by
  have hL := B.lo
  have hp : B.L ^ (n + t - i - 2) = B.L ^ (n - i - 2) * B.L ^ t := by rw [← Nat.pow_add]; congr 1; omega
  have hn : B.L ^ (n + t) = B.L ^ n * B.L ^ t := Nat.pow_add ..
  constructor
  · intro h
    have hb := h.bd (by omega)
    refine ⟨hb, fun v hv => ⟨?_, fun a b ha hb => ?_⟩⟩
    · rw [rr_pow hi]
      exact suf_bd (by rw [← hn]; exact hb)
    · have h1 := h.2 a (b * B.L ^ t + v) ha (by rw [hp]; exact ub_lt hb hv)
      have e : suf (B.L ^ (n + t - i - 2)) (b * B.L ^ t + v) f = suf (B.L ^ (n - i - 2)) b (suf (B.L ^ t) v f) := vext fun u => by
        unfold suf
        rw [hp, ix3]
      rw [e] at h1
      exact h1
  · rintro ⟨hb, h⟩
    refine ⟨by rw [rr_pow (by omega)]; exact hb, fun a b ha hb' => ?_⟩
    have hLt : 0 < B.L ^ t := Nat.pow_pos (by omega)
    have e := div_back b (B.L ^ t)
    have h1 : b / B.L ^ t < B.L ^ (n - i - 2) := Nat.div_lt_of_lt_mul (by rw [Nat.mul_comm, ← hp]; exact hb')
    have h2 := (h (b % B.L ^ t) (Nat.mod_lt _ hLt)).2 a (b / B.L ^ t) ha h1
    have e2 : suf (B.L ^ (n + t - i - 2)) b f = suf (B.L ^ (n - i - 2)) (b / B.L ^ t) (suf (B.L ^ t) (b % B.L ^ t) f) := vext fun u => by
      unfold suf
      rw [hp, ix3, e]
    rw [e2]
    exact h2
/-- cut ahead: a place that lies behind the cut -/
theorem rr_pre {B : Bk p} {n t i : Nat} (hi : i + 2 ≤ n) (f : Vec p) : RR B (t + n) (t + i) f ↔ Bd f (B.L ^ (t + n)) ∧ ∀ u, u < B.L ^ t → RR B n i (pre (B.L ^ n) u f) := by
  have hL := B.lo
  have hk : t + n - (t + i) - 2 = n - i - 2 := by omega
  have hn : B.L ^ (t + n) = B.L ^ t * B.L ^ n := Nat.pow_add ..
  have hti : B.L ^ (t + i) = B.L ^ t * B.L ^ i := Nat.pow_add ..
  have key : ∀ u a b, a < B.L ^ i → b < B.L ^ (n - i - 2) → pre (B.L * B.L) (u * B.L ^ i + a) (suf (B.L ^ (n - i - 2)) b f) = pre (B.L * B.L) a (suf (B.L ^ (n - i - 2)) b (pre (B.L ^ n) u f)) := fun u a b ha hb => vext fun s => by
    unfold pre suf
    dsimp only
    by_cases q : s < B.L * B.L
    · rw [if_pos q, if_pos q, if_pos (by rw [← rr_pow hi]; exact ub_lt (ub_lt ha q) hb)]
      congr 1
      rw [ix3 u, ix3 u]
      congr 2
      exact rr_pow hi
    · rw [if_neg q, if_neg q]
  constructor
  · intro h
    have hb := h.bd (by omega)
    refine ⟨hb, fun u hu => ⟨?_, fun a b ha hb' => ?_⟩⟩
    · rw [rr_pow hi]
      exact pre_bd _ _ _
    · rw [← key u a b ha hb']
      have := h.2 (u * B.L ^ i + a) b (by rw [hti]; exact ub_lt hu ha) (by rw [hk]; exact hb')
      rw [hk] at this
      exact this
  · rintro ⟨hb, h⟩
    refine ⟨by rw [rr_pow (by omega)]; exact hb, fun a b ha hb' => ?_⟩
    rw [hk] at hb' ⊢
    have hLi : 0 < B.L ^ i := Nat.pow_pos (by omega)
    have e := div_back a (B.L ^ i)
    have h1 : a / B.L ^ i < B.L ^ t := Nat.div_lt_of_lt_mul (by rw [Nat.mul_comm, ← hti]; exact ha)
    have h2 := (h (a / B.L ^ i) h1).2 (a % B.L ^ i) b (Nat.mod_lt _ hLi) hb'
    rw [← key _ _ b (Nat.mod_lt _ hLi) hb', e] at h2
    exact h2
theorem xx_suf {B : Bk p} {n t c : Nat} (hc : c + 1 ≤ n ∨ c = 0) (f : Vec p) : XX B (n + t) c f ↔ Bd f (B.L ^ (n + t)) ∧ ∀ v, v < B.L ^ t → XX B n c (suf (B.L ^ t) v f) := by
  have hn : B.L ^ (n + t) = B.L ^ n * B.L ^ t := Nat.pow_add ..
  constructor
  · intro h
    refine XX.into (S := fun f => Bd f (B.L ^ (n + t)) ∧ ∀ v, v < B.L ^ t → XX B n c (suf (B.L ^ t) v f)) ⟨⟨fun _ _ => rfl, fun v _ => (XX.sub B n c).z⟩, fun {f g} d h1 h2 => ⟨(sub_bd _).a d h1.1 h2.1, fun v hv => (XX.sub B n c).a d (h1.2 v hv) (h2.2 v hv)⟩⟩ (fun i hi f hf => ?_) h
    have := (rr_suf (B := B) (n := n) (t := t) (i := i) (by omega) f).mp hf
    exact ⟨this.1, fun v hv => .of hi (this.2 v hv)⟩
  · rintro ⟨hb, h⟩
    refine recS (XX.sub B (n + t) c) (M := B.L ^ n) (m := B.L ^ t) (by rw [← hn]; exact hb) fun v hv => ?_
    refine XX.into (S := fun g => XX B (n + t) c (extS (B.L ^ t) v (B.L ^ n) g)) ⟨by rw [extS_zv]; exact (XX.sub B (n + t) c).z, fun {f g} d h1 h2 => by rw [extS_axp hv]; exact (XX.sub B (n + t) c).a d h1 h2⟩ (fun i hi g hg => ?_) (h v hv)
    refine .of hi ((rr_suf (by omega) _).mpr ⟨by rw [hn]; exact extS_bd hv g, fun v' hv' => ?_⟩)
    rw [suf_extS hv' hv (hg.bd (by omega))]
    split
    · exact hg
    · exact (RR.sub B n i).z
end
end RS
namespace RS
section
variable {p : Nat} [Pr p]
/-! ### what the rooms of the last places share -/
def YY (B : Bk p) (n c : Nat) (f : Vec p) : Prop := Bd f (B.L ^ n) ∧ ∀ i, c ≤ i → i + 2 ≤ n → RR B n i f
theorem YY.sub (B : Bk p) (n c : Nat) : Sub (YY B n c) := ⟨⟨fun _ _ => rfl, fun i _ _ => (RR.sub B n i).z⟩, fun {f g} d hf hg => ⟨(sub_bd _).a d hf.1 hg.1, fun i h1 h2 => (RR.sub B n i).a d (hf.2 i h1 h2) (hg.2 i h1 h2)⟩⟩
theorem ah_iff {m c : Nat} {rs : List (Vec p)} (hr : ∀ v ∈ rs, Bd v m) (f : Vec p) : SpanL (ahL m c rs) f ↔ Bd f (c * m) ∧ ∀ a, a < c → SpanL rs (pre m a f) := by
  have hS := Span.isSub (p := p) fun g => g ∈ rs
  constructor
  · refine Span.into (S := fun f => Bd f (c * m) ∧ ∀ a, a < c → Span (fun g => g ∈ rs) (pre m a f)) ⟨⟨fun _ _ => rfl, fun a _ => by rw [pre_zv]; exact hS.z⟩, fun {f g} d h1 h2 => ⟨(sub_bd _).a d h1.1 h2.1, fun a ha => by rw [pre_axp]; exact hS.a d (h1.2 a ha) (h2.2 a ha)⟩⟩ fun g hg => ?_
    obtain ⟨a0, ha0, hg⟩ := List.mem_flatMap.mp hg
    obtain ⟨v, hv, rfl⟩ := List.mem_map.mp hg
    have ha0 := List.mem_range.mp ha0
    refine ⟨extP_bd ha0 v, fun a ha => ?_⟩
    show Span _ (pre m a (extP m a0 v))
    rw [pre_extP (hr v hv)]
    split
    · exact .of hv
    · exact .zero
  · rintro ⟨hb, h⟩
    refine recP (Span.isSub _) hb fun a ha => ?_
    refine (h a ha).into (S := fun g => Span (fun g => g ∈ ahL m c rs) (extP m a g)) ⟨by rw [extP_zv]; exact .zero, fun {f g} d h1 h2 => by rw [extP_axp]; exact (Span.isSub _).a d h1 h2⟩ fun v hv => ?_
    exact .of (List.mem_flatMap.mpr ⟨a, List.mem_range.mpr ha, List.mem_map.mpr ⟨v, hv, rfl⟩⟩)
theorem be_iff {m q : Nat} {rs : List (Vec p)} (hr : ∀ v ∈ rs, Bd v m) (f : Vec p) : SpanL (beL q m q rs) f ↔ Bd f (m * q) ∧ ∀ a, a < q → SpanL rs (suf q a f) := by
  have hS := Span.isSub (p := p) fun g => g ∈ rs
  constructor
  · refine Span.into (S := fun f => Bd f (m * q) ∧ ∀ a, a < q → Span (fun g => g ∈ rs) (suf q a f)) ⟨⟨fun _ _ => rfl, fun a _ => by rw [suf_zv]; exact hS.z⟩, fun {f g} d h1 h2 => ⟨(sub_bd _).a d h1.1 h2.1, fun a ha => by rw [suf_axp]; exact hS.a d (h1.2 a ha) (h2.2 a ha)⟩⟩ fun g hg => ?_
    obtain ⟨a0, ha0, hg⟩ := List.mem_flatMap.mp hg
    obtain ⟨v, hv, rfl⟩ := List.mem_map.mp hg
    have ha0 := List.mem_range.mp ha0
    refine ⟨extS_bd ha0 v, fun a ha => ?_⟩
    show Span _ (suf q a (extS q a0 m v))
    rw [suf_extS ha ha0 (hr v hv)]
    split
    · exact .of hv
    · exact .zero
  · rintro ⟨hb, h⟩
    refine recS (Span.isSub _) hb fun a ha => ?_
    refine (h a ha).into (S := fun g => Span (fun g => g ∈ beL q m q rs) (extS q a m g)) ⟨by rw [extS_zv]; exact .zero, fun {f g} d h1 h2 => by rw [extS_axp ha]; exact (Span.isSub _).a d h1 h2⟩ fun v hv => ?_
    exact .of (List.mem_flatMap.mpr ⟨a, List.mem_range.mpr ha, List.mem_map.mpr ⟨v, hv, rfl⟩⟩)
/-- rows of the first units: all that is short -/
theorem unit_span {n : Nat} {f : Vec p} {S : Vec p → Prop} (hS : Sub S) (h : ∀ i, i < n → S (unit i)) (hf : Bd f n) : S f := by
  have e : f = lin n f unit := vext fun k => by
    show f k = sg n fun i => f i * unit i k
    by_cases hk : k < n
    · rw [sg_one hk fun i hi hne => by rw [unit_ne (fun z => hne z.symm)]; grind, unit_same]
      grind
    · rw [hf k (by omega), sg_zero fun i hi => by rw [unit_ne (by omega)]; grind]
  rw [e]
  exact lin_mem hS h f
theorem yy_com {B : Bk p} {cs : List (List (Hd p))} (C : Com B cs) : ∀ (s : Nat) (c : List (Hd p)), cs[s]? = some c → ∀ f, SpanH c f ↔ YY B s 0 f := by
  intro s
  induction s using Nat.strongRecOn with
  | _ s ih =>
  intro c hc f
  match s, ih, hc with
  | 0, _, hc =>
    rw [C.c0] at hc
    cases hc
    constructor
    · intro h
      refine ⟨h.into (sub_bd _) fun g ⟨e, he, q⟩ => ?_, fun i _ hi => by omega⟩
      rw [← q, List.mem_singleton.mp he]
      exact unit_bd (by simp)
    · intro h
      refine unit_span (n := 1) (Span.isSub _) (fun i hi => ?_) (by have := h.1; rw [Nat.pow_zero] at this; exact this)
      have : i = 0 := by omega
      subst this
      exact .of ⟨_, List.mem_singleton.mpr rfl, rfl⟩
  | 1, _, hc =>
    rw [C.c1] at hc
    cases hc
    constructor
    · intro h
      refine ⟨h.into (sub_bd _) fun g ⟨e, he, q⟩ => ?_, fun i _ hi => by omega⟩
      obtain ⟨a, ha, rfl⟩ := List.mem_map.mp he
      rw [← q, Nat.pow_one]
      exact unit_bd (List.mem_range.mp ha)
    · intro h
      refine unit_span (n := B.L) (Span.isSub _) (fun i hi => ?_) (by have := h.1; rw [Nat.pow_one] at this; exact this)
      exact .of ⟨_, List.mem_map.mpr ⟨i, List.mem_range.mpr hi, rfl⟩, rfl⟩
  | 2, _, hc =>
    rw [C.c2] at hc
    cases hc
    have key : ∀ f : Vec p, Bd f (B.L * B.L) → pre (B.L * B.L) 0 (suf (B.L ^ (2 - 0 - 2)) 0 f) = f := fun f hf => vext fun s => by
      unfold pre suf
      by_cases q : s < B.L * B.L
      · rw [if_pos q]
        congr 1
        simp
      · rw [if_neg q, hf s (by omega)]
    constructor
    · intro h
      have hb : Bd f (B.L * B.L) := h.into (sub_bd _) fun g ⟨e, he, q⟩ => q ▸ B.bd e he
      refine ⟨by rw [Nat.pow_two]; exact hb, fun i _ hi => ?_⟩
      obtain rfl : i = 0 := by omega
      refine ⟨by rw [rr_pow (by omega), Nat.pow_two]; exact hb, fun a b ha hb' => ?_⟩
      obtain rfl : a = 0 := by simpa using ha
      obtain rfl : b = 0 := by simpa using hb'
      rw [key f hb]
      exact h
    · intro h
      have hb : Bd f (B.L * B.L) := by have := h.1; rw [Nat.pow_two] at this; exact this
      have := (h.2 0 (Nat.le_refl _) (by omega)).2 0 0 (by simp) (by simp)
      rw [key f hb] at this
      exact this
  | s + 3, ih, hc =>
    obtain ⟨b, hb, R, _, _, hsp⟩ := C.step s c hc
    have ihb := ih (s + 2) (by omega) b hb
    have bb : ∀ v ∈ b.map (·.2), Bd v (B.L ^ (s + 2)) := fun v hv => by
      obtain ⟨e, he, rfl⟩ := List.mem_map.mp hv
      exact (com_red C hb).2 e he
    have hn1 : B.L * B.L ^ (s + 2) = B.L ^ (s + 3) := by rw [Nat.pow_succ (n := B.L) (m := s + 2), Nat.mul_comm]
    have hn2 : B.L ^ (s + 2) * B.L = B.L ^ (s + 3) := (Nat.pow_succ ..).symm
    rw [hsp, ah_iff bb, be_iff bb, hn1, hn2]
    constructor
    · rintro ⟨⟨h0, h1⟩, _, h2⟩
      refine ⟨h0, fun i _ hi => ?_⟩
      by_cases q : i = 0
      · subst q
        refine (rr_suf (n := s + 2) (t := 1) (by omega) f).mpr ⟨h0, fun v hv => ?_⟩
        rw [Nat.pow_one] at hv ⊢
        exact ((ihb _).mp ((spanHL _ _).mp (h2 v hv))).2 0 (Nat.le_refl _) (by omega)
      · have := (rr_pre (B := B) (n := s + 2) (t := 1) (i := i - 1) (by omega) f).mpr ⟨by rw [show 1 + (s + 2) = s + 3 by omega]; exact h0, fun u hu => by
          rw [Nat.pow_one] at hu
          exact ((ihb _).mp ((spanHL _ _).mp (h1 u hu))).2 (i - 1) (by omega) (by omega)⟩
        rw [show 1 + (s + 2) = s + 3 by omega, show 1 + (i - 1) = i by omega] at this
        exact this
    · rintro ⟨h0, h⟩
      refine ⟨⟨h0, fun a ha => ?_⟩, h0, fun a ha => ?_⟩
      · refine (spanHL _ _).mpr ((ihb _).mpr ⟨pre_bd _ _ _, fun i _ hi => ?_⟩)
        have h3 := h (1 + i) (by omega) (by omega)
        rw [show s + 3 = 1 + (s + 2) by omega] at h3
        exact ((rr_pre (B := B) (n := s + 2) (t := 1) (i := i) hi f).mp h3).2 a (by rw [Nat.pow_one]; exact ha)
      · refine (spanHL _ _).mpr ((ihb _).mpr ⟨suf_bd (by rw [hn2]; exact h0), fun i _ hi => ?_⟩)
        have h3 := h i (by omega) (by omega)
        have := ((rr_suf (B := B) (n := s + 2) (t := 1) (i := i) hi f).mp h3).2 a (by rw [Nat.pow_one]; exact ha)
        rw [Nat.pow_one] at this
        exact this
theorem yy_pre {B : Bk p} {n s : Nat} (hs : s ≤ n) (f : Vec p) : YY B n (n - s) f ↔ Bd f (B.L ^ n) ∧ ∀ u, u < B.L ^ (n - s) → YY B s 0 (pre (B.L ^ s) u f) := by
  constructor
  · rintro ⟨h0, h⟩
    refine ⟨h0, fun u hu => ⟨pre_bd _ _ _, fun i _ hi => ?_⟩⟩
    have h3 := h (n - s + i) (by omega) (by omega)
    rw [show n = n - s + s by omega, show n - s + s - s = n - s by omega] at h3
    exact ((rr_pre (B := B) (n := s) (t := n - s) (i := i) hi f).mp h3).2 u hu
  · rintro ⟨h0, h⟩
    refine ⟨h0, fun i h1 h2 => ?_⟩
    have := (rr_pre (B := B) (n := s) (t := n - s) (i := i - (n - s)) (by omega) f).mpr ⟨by rw [show n - s + s = n by omega]; exact h0, fun u hu => (h u hu).2 _ (Nat.zero_le _) (by omega)⟩
    rw [show n - s + s = n by omega, show n - s + (i - (n - s)) = i by omega] at this
    exact this
/-! ### spans of lists, told by numbers -/
theorem lin_axp (n : Nat) (c d : Nat → Fin p) (x : Fin p) (v : Nat → Vec p) (k : Nat) : lin n (axp c x d) v k = lin n c v k + x * lin n d v k := by
  unfold lin
  rw [← sg_mul, ← sg_add]
  exact sg_congr fun i _ => by unfold axp; grind
theorem getD_cons {α : Type} (a d : α) (l : List α) (i : Nat) : (a :: l).getD (i + 1) d = l.getD i d := rfl
theorem spanL_lin {l : List (Vec p)} {f : Vec p} : SpanL l f ↔ ∃ c : Vec p, Bd c l.length ∧ f = lin l.length c (fun i => l.getD i zv) := by
  constructor
  · refine Span.into (S := fun f => ∃ c : Vec p, Bd c l.length ∧ f = lin l.length c (fun i => l.getD i zv)) ⟨⟨zv, fun _ _ => rfl, vext fun k => (sg_zero fun i _ => by show (0 : Fin p) * _ = 0; grind).symm⟩, fun {f g} x hf hg => ?_⟩ fun g hg => ?_
    · obtain ⟨c, b1, rfl⟩ := hf
      obtain ⟨d, b2, rfl⟩ := hg
      exact ⟨axp c x d, (sub_bd _).a x b1 b2, vext fun k => (lin_axp _ c d x _ k).symm⟩
    · obtain ⟨i, hi, rfl⟩ := List.getElem_of_mem hg
      refine ⟨unit i, unit_bd hi, vext fun k => ?_⟩
      unfold lin
      rw [sg_one hi fun j hj hne => by rw [unit_ne hne]; grind, unit_same]
      dsimp only
      have : l.getD i zv = l[i] := by rw [List.getD_eq_getElem?_getD, List.getElem?_eq_getElem hi]; rfl
      rw [this]
      grind
  · rintro ⟨c, _, rfl⟩
    refine lin_mem (Span.isSub _) (fun i hi => .of ?_) c
    have : l.getD i zv = l[i] := by rw [List.getD_eq_getElem?_getD, List.getElem?_eq_getElem hi]; rfl
    rw [this]
    exact List.getElem_mem hi
theorem fm_get {α β γ : Type} (g : α → γ → β) (lo : List γ) : ∀ (pl : List α) (i k : Nat) (t : α) (e : γ), pl[i]? = some t → lo[k]? = some e → (pl.flatMap fun t => lo.map (g t))[i * lo.length + k]? = some (g t e)
  | [], i, k, t, e, h1, _ => by simp at h1
  | a :: r, 0, k, t, e, h1, h2 => by
    cases h1
    rw [List.flatMap_cons, Nat.zero_mul, Nat.zero_add]
    have hk := (List.getElem?_eq_some_iff.mp h2).1
    rw [List.getElem?_append_left (by rw [List.length_map]; exact hk), List.getElem?_map, h2]
    rfl
  | a :: r, i + 1, k, t, e, h1, h2 => by
    rw [List.flatMap_cons, List.getElem?_append_right (by rw [List.length_map, Nat.add_mul, Nat.one_mul]; omega), List.length_map]
    have : (i + 1) * lo.length + k - lo.length = i * lo.length + k := by rw [Nat.add_mul, Nat.one_mul]; omega
    rw [this]
    exact fm_get g lo r i k t e h1 h2
/-! ### rank and kernel -/
theorem lin_lin (m a : Nat) (c : Nat → Fin p) (u v : Nat → Vec p) (k : Nat) : lin m (lin a c u) v k = lin a c (fun j => lin m (u j) v) k := by
  unfold lin
  rw [sg_congr (y := fun i => sg a fun j => c j * (u j i * v i k)) fun i _ => ?_]
  · rw [sg_comm]
    exact sg_congr fun j _ => by rw [sg_mul]
  · have : (sg a fun i_1 => c i_1 * u i_1 i) * v i k = v i k * sg a fun i_1 => c i_1 * u i_1 i := by grind
    rw [this, ← sg_mul]
    exact sg_congr fun j _ => by grind
theorem lin_sub (n : Nat) (c d : Nat → Fin p) (v : Nat → Vec p) (k : Nat) : lin n (fun i => c i - d i) v k = lin n c v k - lin n d v k := by
  have h := lin_axp n c d (-1) v k
  have e : (fun i => c i - d i) = axp c (-1) d := funext fun i => by unfold axp; grind
  rw [e, h]
  grind
theorem bd_dim (m : Nat) : Dim (fun c : Vec p => Bd c m) m := by
  refine ⟨unit, fun i hi => unit_bd hi, fun c hc i hi => ?_, fun f hf => ⟨f, fun k => ?_⟩⟩
  · have := hc i
    unfold lin at this
    rw [sg_one hi fun j hj hne => by rw [unit_ne (fun z => hne z.symm)]; grind, unit_same] at this
    grind
  · unfold lin
    by_cases hk : k < m
    · rw [sg_one hk fun i hi hne => by rw [unit_ne (fun z => hne z.symm)]; grind, unit_same]
      grind
    · rw [hf k (by omega), sg_zero fun i hi => by rw [unit_ne (by omega)]; grind]
theorem rank_null {m a b : Nat} {v : Nat → Vec p} (hR : Dim (fun f => ∃ c : Vec p, Bd c m ∧ f = lin m c v) a) (hK : Dim (fun c : Vec p => Bd c m ∧ ∀ k, lin m c v k = 0) b) : m = b + a := by
  obtain ⟨w, hw⟩ := hR
  have hc : ∃ u : Nat → Vec p, ∀ i, i < a → Bd (u i) m ∧ w i = lin m (u i) v := by
    refine ⟨fun i => if hi : i < a then Classical.choose (hw.mem i hi) else zv, fun i hi => ?_⟩
    dsimp only
    rw [dif_pos hi]
    exact Classical.choose_spec (hw.mem i hi)
  obtain ⟨u, hu⟩ := hc
  have elin : ∀ (c : Nat → Fin p) k, lin m (lin a c u) v k = lin a c w k := fun c k => by
    rw [lin_lin]
    exact sg_congr fun j hj => by rw [(hu j hj).2]
  have hsub : Sub (fun c : Vec p => Bd c m ∧ ∀ k, lin m c v k = 0) := ⟨⟨fun _ _ => rfl, fun k => sg_zero fun i _ => by show (0 : Fin p) * _ = 0; grind⟩, fun {f g} x hf hg => ⟨(sub_bd _).a x hf.1 hg.1, fun k => by rw [lin_axp, hf.2, hg.2]; grind⟩⟩
  have := Dim.more (T := fun c : Vec p => Bd c m) (m := a) (u := u) hK (fun f h => h.1) (fun i hi => (hu i hi).1) (fun c hc i hi => ?_) hsub (fun f hf => ?_)
  · exact (bd_dim m).uniq this
  · exact hw.ind c (fun k => by rw [← elin]; exact hc.2 k) i hi
  · obtain ⟨c, hc⟩ := hw.gen _ ⟨f, hf, rfl⟩
    refine ⟨c, ?_, fun k => ?_⟩
    · have := (sub_bd m).sub 1 hf (lin_mem (S := fun f : Vec p => ∀ k, m ≤ k → f k = 0) (sub_bd m) (fun i hi => (hu i hi).1) c)
      intro k hk
      have h := this k hk
      dsimp only at h
      grind
    · rw [lin_sub, elin, hc k]
      grind
/-! ### tidy rows of any rows -/
theorem least_of {f : Vec p} (h : f ≠ zv) : ∃ k, f k ≠ 0 ∧ ∀ j, j < k → f j = 0 := by
  have h1 : ∃ k, f k ≠ 0 := Classical.byContradiction fun q => h (vext fun k => Classical.byContradiction fun z => q ⟨k, z⟩)
  obtain ⟨k, hk⟩ := h1
  induction k using Nat.strongRecOn with
  | _ k ih =>
    by_cases q : ∃ j, j < k ∧ f j ≠ 0
    · obtain ⟨j, hj, hf⟩ := q
      exact ih j hj hf
    · exact ⟨k, hk, fun j hj => Classical.byContradiction fun z => q ⟨j, hj, z⟩⟩
theorem tidy_rev : ∀ l : List (Vec p), ∃ hs : List (Hd p), Red hs ∧ ∀ f, SpanH hs f ↔ SpanL l.reverse f
  | [] => ⟨[], Red.nil, fun f => by
    rw [List.reverse_nil, SpanL.nil, ← spanHL]
    exact SpanL.nil⟩
  | r :: l => by
    obtain ⟨hs, R, sp⟩ := tidy_rev l
    rw [List.reverse_cons]
    have hrest : SpanH hs (fun j => r j - rest hs r j) := by
      have e : (fun j => r j - rest hs r j) = pr hs r := vext fun j => by unfold rest; grind
      rw [e]
      exact pr_mem hs r
    by_cases q : rest hs r = zv
    · exact ⟨hs, R, heads_old sp hrest fun j => congrFun q j⟩
    · obtain ⟨k, hk, hl⟩ := least_of q
      obtain ⟨b, hb⟩ := inv_ex hk
      have hb0 : b ≠ 0 := fun z => by rw [z] at hb; exact one_ne (p := p) (by grind)
      refine ⟨addH hs k fun j => rest hs r j * b, R.add (fun e he => ?_) hb (fun j hj => ?_), heads_new sp hrest hb0⟩
      · rw [rest_key R r e he]; grind
      · rw [hl j hj]; grind
theorem tidy_ex (l : List (Vec p)) : ∃ hs : List (Hd p), Red hs ∧ ∀ f, SpanH hs f ↔ SpanL l f := by
  have := tidy_rev l.reverse
  rw [List.reverse_reverse] at this
  exact this
end
end RS
namespace RS
section
variable {p : Nat} [Pr p]
/-! ### normal forms -/
def nf (pl : List Nat) (hs : List (Hd p)) (m : Nat) (lo : List (Hd p)) (f : Vec p) : Vec p := fun j => if j < pl.length * lo.length then rest hs (suf m (hk lo (j % lo.length)) f) (pl.getD (j / lo.length) 0) else 0
def tn (pl : List Nat) (m : Nat) (lo : List (Hd p)) (j : Nat) : Vec p := extP m (pl.getD (j / lo.length) 0) (hv lo (j % lo.length))
def xc (pl : List Nat) (m : Nat) (lo : List (Hd p)) (c : Vec p) : Vec p := lin (pl.length * lo.length) c (tn pl m lo)
theorem rest_axp (hs : List (Hd p)) (f g : Vec p) (c : Fin p) : rest hs (axp f c g) = axp (rest hs f) c (rest hs g) := vext fun j => by
  show axp f c g j - pr hs (axp f c g) j = f j - pr hs f j + c * (g j - pr hs g j)
  rw [pr_axp]
  show f j + c * g j - _ = _
  grind
theorem rest_zv (hs : List (Hd p)) : rest hs (zv : Vec p) = zv := vext fun j => by
  show (0 : Fin p) - pr hs zv j = 0
  rw [pr_zero hs fun _ _ => rfl]
  grind
theorem rest_lin (hs : List (Hd p)) (c : Nat → Fin p) (v : Nat → Vec p) : ∀ n, rest hs (lin n c v) = lin n c (fun i => rest hs (v i))
  | 0 => rest_zv hs
  | n + 1 => by
    have e : lin (n + 1) c v = axp (lin n c v) (c n) (v n) := rfl
    rw [e, rest_axp, rest_lin hs c v n]
    rfl
theorem nf_axp (pl : List Nat) (hs : List (Hd p)) (m : Nat) (lo : List (Hd p)) (f g : Vec p) (c : Fin p) : nf pl hs m lo (axp f c g) = axp (nf pl hs m lo f) c (nf pl hs m lo g) := vext fun j => by
  unfold nf
  by_cases q : j < pl.length * lo.length
  · rw [if_pos q, suf_axp, rest_axp]
    show _ = (if _ then _ else _) + c * (if _ then _ else _)
    rw [if_pos q, if_pos q]
    rfl
  · rw [if_neg q]
    show _ = (if _ then _ else _) + c * (if _ then _ else _)
    rw [if_neg q, if_neg q]
    grind
theorem nf_zv (pl : List Nat) (hs : List (Hd p)) (m : Nat) (lo : List (Hd p)) : nf pl hs m lo (zv : Vec p) = zv := vext fun j => by
  unfold nf
  rw [suf_zv, rest_zv]
  split <;> rfl
theorem nf_lin (pl : List Nat) (hs : List (Hd p)) (m : Nat) (lo : List (Hd p)) (c : Nat → Fin p) (v : Nat → Vec p) : ∀ n, nf pl hs m lo (lin n c v) = lin n c (fun i => nf pl hs m lo (v i))
  | 0 => nf_zv pl hs m lo
  | n + 1 => by
    have e : lin (n + 1) c v = axp (lin n c v) (c n) (v n) := rfl
    rw [e, nf_axp, nf_lin pl hs m lo c v n]
    rfl
theorem nf_sub (pl : List Nat) (hs : List (Hd p)) (m : Nat) (lo : List (Hd p)) (f g : Vec p) : nf pl hs m lo (fun k => f k - 1 * g k) = fun k => nf pl hs m lo f k - 1 * nf pl hs m lo g k := by
  have e : (fun k => f k - 1 * g k) = axp f (-1) g := vext fun k => by unfold axp; grind
  rw [e, nf_axp]
  exact vext fun k => by unfold axp; grind
theorem nf_bd (pl : List Nat) (hs : List (Hd p)) (m : Nat) (lo : List (Hd p)) (f : Vec p) : Bd (nf pl hs m lo f) (pl.length * lo.length) := fun k hk => if_neg (by omega)
structure Sit (pl : List Nat) (hs : List (Hd p)) (m : Nat) (lo : List (Hd p)) (M : Nat) : Prop where
  pl_eq : pl = pls hs M
  R : Red hs
  b : ∀ e ∈ hs, Bd e.2 M
  Rl : Red lo
  bl : ∀ e ∈ lo, Bd e.2 m
def InX (hs : List (Hd p)) (M m : Nat) (f : Vec p) : Prop := Bd f (M * m) ∧ ∀ v, v < m → SpanH hs (suf m v f)
def InY (lo : List (Hd p)) (M m : Nat) (f : Vec p) : Prop := Bd f (M * m) ∧ ∀ u, u < M → SpanH lo (pre m u f)
theorem InY.sub (lo : List (Hd p)) (M m : Nat) : Sub (InY lo M m) := ⟨⟨fun _ _ => rfl, fun u _ => by rw [pre_zv]; exact .zero⟩, fun {f g} c hf hg => ⟨(sub_bd _).a c hf.1 hg.1, fun u hu => by rw [pre_axp]; exact (Span.isSub _).a c (hf.2 u hu) (hg.2 u hu)⟩⟩
theorem InX.sub (hs : List (Hd p)) (M m : Nat) : Sub (InX hs M m) := ⟨⟨fun _ _ => rfl, fun u _ => by rw [suf_zv]; exact .zero⟩, fun {f g} c hf hg => ⟨(sub_bd _).a c hf.1 hg.1, fun u hu => by rw [suf_axp]; exact (Span.isSub _).a c (hf.2 u hu) (hg.2 u hu)⟩⟩
theorem rest_in {hs : List (Hd p)} (R : Red hs) {f : Vec p} (h : SpanH hs f) : rest hs f = zv := vext fun j => by
  show f j - pr hs f j = 0
  have := congrFun (R.eq_pr h) j
  grind
theorem rest_out {hs : List (Hd p)} {f : Vec p} (h : rest hs f = zv) : SpanH hs f := by
  have e : f = pr hs f := vext fun j => by
    have h1 : f j - pr hs f j = 0 := congrFun h j
    grind
  rw [e]
  exact pr_mem hs f
theorem getD_lt {α : Type} {l : List α} {i : Nat} (h : i < l.length) (d : α) : l.getD i d = l[i] := by rw [List.getD_eq_getElem?_getD, List.getElem?_eq_getElem h]; rfl
theorem getD_of {α : Type} {l : List α} {d : α} {i : Nat} {f : α} (h : l[i]? = some f) : l.getD i d = f := by rw [List.getD_eq_getElem?_getD, h]; rfl
theorem dm {P C j : Nat} (h : j < P * C) : j / C < P ∧ j % C < C ∧ j / C * C + j % C = j := by
  have hC : 0 < C := Nat.pos_of_ne_zero fun z => by rw [z, Nat.mul_zero] at h; omega
  exact ⟨Nat.div_lt_of_lt_mul (by rw [Nat.mul_comm]; exact h), Nat.mod_lt _ hC, div_back j C⟩
section
variable {pl : List Nat} {hs : List (Hd p)} {m : Nat} {lo : List (Hd p)} {M : Nat}
theorem Sit.hk_lt (S : Sit pl hs m lo M) {k : Nat} (h : k < lo.length) : hk lo k < m := S.Rl.key_lt S.bl _ (hmem h)
theorem Sit.pl_mem (S : Sit pl hs m lo M) {i : Nat} (h : i < pl.length) : pl.getD i 0 < M ∧ ∀ e ∈ hs, e.1 ≠ pl.getD i 0 := by
  have h1 : pl.getD i 0 ∈ pl := by rw [getD_lt h]; exact List.getElem_mem h
  exact mem_pls.mp (Eq.mp (congrArg (fun l => pl.getD i 0 ∈ l) S.pl_eq) h1)
theorem Sit.pl_inj (S : Sit pl hs m lo M) {i j : Nat} (hi : i < pl.length) (hj : j < pl.length) (h : pl.getD i 0 = pl.getD j 0) : i = j := by
  rw [getD_lt hi, getD_lt hj] at h
  have hn : pl.Nodup := by rw [S.pl_eq]; exact pls_nodup _ _
  exact (List.getElem_inj hn).mp h
theorem nf_of_X (S : Sit pl hs m lo M) {f : Vec p} (h : InX hs M m f) : nf pl hs m lo f = zv := vext fun j => by
  unfold nf
  by_cases q : j < pl.length * lo.length
  · rw [if_pos q, rest_in S.R (h.2 _ (S.hk_lt (dm q).2.1))]
    rfl
  · rw [if_neg q]; rfl
theorem X_of_nf (S : Sit pl hs m lo M) {f : Vec p} (h : InY lo M m f) (h0 : nf pl hs m lo f = zv) : InX hs M m f := by
  refine ⟨h.1, fun v hv' => ?_⟩
  have h1 : ∀ k, k < lo.length → SpanH hs (suf m (hk lo k) f) := fun k hk' => by
    refine rest_out (vext fun t => ?_)
    rcases Nat.lt_or_ge t M with ht | ht
    · by_cases y : ∃ e ∈ hs, e.1 = t
      · obtain ⟨e, he, rfl⟩ := y
        exact rest_key S.R _ e he
      · have hm : t ∈ pl := by rw [S.pl_eq]; exact mem_pls.mpr ⟨ht, fun e he z => y ⟨e, he, z⟩⟩
        obtain ⟨i, hi, rfl⟩ := List.getElem_of_mem hm
        have h2 := congrFun h0 (i * lo.length + k)
        unfold nf at h2
        have hlt : i * lo.length + k < pl.length * lo.length := ub_lt hi hk'
        rw [if_pos hlt, (cell_div hk').1, (cell_div hk').2, getD_lt hi] at h2
        exact h2
    · exact rest_bd S.b (suf_bd h.1) t ht
  have e : suf m v f = lin lo.length (fun k => hv lo k v) (fun k => suf m (hk lo k) f) := vext fun u => by
    rcases Nat.lt_or_ge u M with hu | hu
    · have h3 := congrFun (S.Rl.eq_pr (h.2 u hu)) v
      rw [pr_lin] at h3
      unfold pre at h3
      rw [if_pos hv'] at h3
      show f (u * m + v) = _
      rw [h3]
      refine sg_congr fun k hk' => ?_
      dsimp only
      rw [if_pos (S.hk_lt hk')]
      show f (u * m + hk lo k) * hv lo k v = hv lo k v * f (u * m + hk lo k)
      grind
    · rw [suf_bd h.1 u hu]
      refine (sg_zero fun k _ => ?_).symm
      dsimp only
      rw [suf_bd h.1 u hu]
      grind
  rw [e]
  exact lin_mem (Span.isSub _) h1 _
theorem tn_Y (S : Sit pl hs m lo M) {j : Nat} (hj : j < pl.length * lo.length) : InY lo M m (tn pl m lo j) := by
  obtain ⟨h1, h2, _⟩ := dm hj
  have hb : Bd (hv lo (j % lo.length)) m := S.bl _ (hmem h2)
  refine ⟨extP_bd (S.pl_mem h1).1 _, fun u hu => ?_⟩
  unfold tn
  rw [pre_extP hb]
  split
  · exact .of ⟨_, hmem h2, rfl⟩
  · exact .zero
theorem xc_Y (S : Sit pl hs m lo M) (c : Vec p) : InY lo M m (xc pl m lo c) := lin_mem (InY.sub lo M m) (fun j hj => tn_Y S hj) c
theorem nf_tn (S : Sit pl hs m lo M) {j : Nat} (hj : j < pl.length * lo.length) : nf pl hs m lo (tn pl m lo j) = unit j := vext fun j' => by
  unfold nf
  by_cases q : j' < pl.length * lo.length
  · rw [if_pos q]
    obtain ⟨h1, h2, h3⟩ := dm hj
    obtain ⟨k1, k2, k3⟩ := dm q
    obtain ⟨ht, hnk⟩ := S.pl_mem h1
    have hb : Bd (hv lo (j % lo.length)) m := S.bl _ (hmem h2)
    have e1 : suf m (hk lo (j' % lo.length)) (tn pl m lo j) = fun u => hv lo (j % lo.length) (hk lo (j' % lo.length)) * unit (pl.getD (j / lo.length) 0) u := vext fun u => by
      unfold suf tn extP
      by_cases e : u = pl.getD (j / lo.length) 0
      · subst e
        rw [unit_same, mvv_at (injP m _) (S.hk_lt k2)]
        grind
      · rw [unit_ne e, mvv_out fun k hk' z => e (cell_inj hk' (S.hk_lt k2) z).1.symm]
        grind
    have e2 : rest hs (fun u => hv lo (j % lo.length) (hk lo (j' % lo.length)) * unit (pl.getD (j / lo.length) 0) u) = fun u => hv lo (j % lo.length) (hk lo (j' % lo.length)) * unit (pl.getD (j / lo.length) 0) u := vext fun u => by
      unfold rest
      rw [pr_zero hs fun e he => by rw [unit_ne (hnk e he)]; grind]
      grind
    rw [e1, e2]
    dsimp only
    by_cases e : j' = j
    · subst e
      have h4 : hv lo (j' % lo.length) (hk lo (j' % lo.length)) = 1 := S.Rl.one _ (hmem h2)
      rw [unit_same, unit_same, h4]
      grind
    · rw [unit_ne e]
      by_cases e3 : j' % lo.length = j % lo.length
      · have : pl.getD (j' / lo.length) 0 ≠ pl.getD (j / lo.length) 0 := fun z => e (by rw [← k3, ← h3, S.pl_inj k1 h1 z, e3])
        rw [unit_ne this]
        grind
      · have := S.Rl.off _ (hmem h2) _ (hmem k2) (fun z => e3 (hk_inj S.Rl k2 h2 z))
        have h4 : hv lo (j % lo.length) (hk lo (j' % lo.length)) = 0 := this
        rw [h4]
        grind
  · rw [if_neg q, unit_ne (by omega)]
theorem nf_xc (S : Sit pl hs m lo M) {c : Vec p} (hc : Bd c (pl.length * lo.length)) : nf pl hs m lo (xc pl m lo c) = c := by
  unfold xc
  rw [nf_lin]
  refine vext fun k => ?_
  unfold lin
  rw [sg_congr (y := fun j => c j * unit j k) fun j hj => by dsimp only; rw [nf_tn S hj]]
  by_cases h : k < pl.length * lo.length
  · rw [sg_one h fun i hi hne => by rw [unit_ne fun z => hne z.symm]; grind, unit_same]
    grind
  · rw [hc k (by omega), sg_zero fun i hi => by rw [unit_ne (by omega)]; grind]
end
/-- a step's row -/
theorem stepV_nf {L m' t : Nat} {pl' : List Nat} {hs' lo' : List (Hd p)} {M' : Nat} (S : Sit pl' hs' m' lo' M') {e : Vec p} (he : Bd e (L * m')) :
    stepV L m' pl' lo' (fun a => rest hs' (unit (t * L + a))) e = nf pl' hs' m' lo' (extP (L * m') t e) := vext fun j => by
  unfold stepV nf
  by_cases q : j < pl'.length * lo'.length
  · rw [if_pos q, if_pos q]
    obtain ⟨h1, h2, h3⟩ := dm q
    have hlt := S.hk_lt h2
    have e1 : suf m' (hk lo' (j % lo'.length)) (extP (L * m') t e) = lin L (fun a => e (a * m' + hk lo' (j % lo'.length))) (fun a => unit (t * L + a)) := vext fun u => by
      unfold suf extP lin
      by_cases y : ∃ a, a < L ∧ u = t * L + a
      · obtain ⟨a, ha, rfl⟩ := y
        rw [sg_one ha fun i hi hne => by dsimp only; rw [unit_ne (fun z => hne (by omega))]; grind, ix3]
        dsimp only
        rw [unit_same, mvv_at (injP (L * m') t) (ub_lt ha hlt)]
        grind
      · rw [sg_zero fun i hi => by dsimp only; rw [unit_ne (fun z => y ⟨i, hi, z⟩)]; grind]
        refine mvv_out fun k hk' z => y ⟨k / m', Nat.div_lt_of_lt_mul (by rw [Nat.mul_comm]; exact hk'), ?_⟩
        have hm : 0 < m' := Nat.pos_of_ne_zero fun z => by rw [z] at hlt; omega
        have z2 : (t * L + k / m') * m' + k % m' = u * m' + hk lo' (j % lo'.length) := by rw [ix3, div_back, z]
        exact (cell_inj (Nat.mod_lt k hm) hlt z2).1.symm
    rw [e1, rest_lin]
    refine sg_congr fun a ha => ?_
    unfold pick numb
    rw [if_pos h1]
    grind
  · rw [if_neg q, if_neg q]
/-! ### exactness -/
section
variable {B : Bk p} {Ih : Nat → List (Hd p)} {cs : List (List (Hd p))} {n : Nat}
def Ps (B : Bk p) (Ih : Nat → List (Hd p)) (n s : Nat) : List Nat := pls (Ih (n - s)) (B.L ^ (n - s))
theorem sit_of (hI : ∀ k, k ≤ n → IhOk B k (Ih k)) (C : Com B cs) (hn : n < cs.length) {s : Nat} (hs : s ≤ n) : Sit (Ps B Ih n s) (Ih (n - s)) (B.L ^ s) (cs.getD s []) (B.L ^ (n - s)) := by
  have h := List.getElem?_eq_getElem (show s < cs.length by omega)
  have I := hI (n - s) (by omega)
  have hg : cs.getD s [] = cs[s] := getD_lt (by omega) _
  rw [hg]
  exact ⟨rfl, I.red, I.bd, (com_red C h).1, (com_red C h).2⟩
theorem inX_iff (hI : ∀ k, k ≤ n → IhOk B k (Ih k)) {s : Nat} (hs : s ≤ n) (f : Vec p) : InX (Ih (n - s)) (B.L ^ (n - s)) (B.L ^ s) f ↔ XX B n (n - s - 1) f := by
  have h := xx_suf (B := B) (n := n - s) (t := s) (c := n - s - 1) (by omega) f
  rw [show n - s + s = n by omega] at h
  rw [h]
  unfold InX
  rw [← Nat.pow_add, show n - s + s = n by omega]
  refine and_congr_right fun _ => forall_congr' fun v => forall_congr' fun _ => ?_
  rw [(hI (n - s) (by omega)).sp]
  exact Iff.rfl
theorem inY_iff (C : Com B cs) (hn : n < cs.length) {s : Nat} (hs : s ≤ n) (f : Vec p) : InY (cs.getD s []) (B.L ^ (n - s)) (B.L ^ s) f ↔ YY B n (n - s) f := by
  have h := List.getElem?_eq_getElem (show s < cs.length by omega)
  have hg : cs.getD s [] = cs[s] := getD_lt (by omega) _
  rw [yy_pre hs, hg]
  unfold InY
  rw [← Nat.pow_add, show n - s + s = n by omega]
  exact and_congr_right fun _ => forall_congr' fun u => forall_congr' fun _ => yy_com C s _ h _
theorem stepL_len (B : Bk p) (Ih : Nat → List (Hd p)) (cs : List (List (Hd p))) (n s : Nat) : (stepL B Ih cs n s).length = (Ps B Ih n s).length * (cs.getD s []).length := by
  unfold stepL
  exact fm_len _ _ _ fun x _ => by rw [List.length_map]
theorem stepL_at (hI : ∀ k, k ≤ n → IhOk B k (Ih k)) (C : Com B cs) (hn : n < cs.length) {s : Nat} (h1 : 1 ≤ s) (hs : s ≤ n) {j : Nat} (hj : j < (Ps B Ih n s).length * (cs.getD s []).length) :
    (stepL B Ih cs n s).getD j zv = nf (Ps B Ih n (s - 1)) (Ih (n - (s - 1))) (B.L ^ (s - 1)) (cs.getD (s - 1) []) (tn (Ps B Ih n s) (B.L ^ s) (cs.getD s []) j) := by
  obtain ⟨q1, q2, q3⟩ := dm hj
  have S := sit_of hI C hn hs
  have S' := sit_of hI C hn (s := s - 1) (by omega)
  have e1 := fm_get (fun t (e : Hd p) => stepV B.L (B.L ^ (s - 1)) (pls (Ih (n - s + 1)) (B.L ^ (n - s + 1))) (cs.getD (s - 1) []) (fun a => rest (Ih (n - s + 1)) (unit (t * B.L + a))) e.2) (cs.getD s []) (Ps B Ih n s) _ _ _ _ (List.getElem?_eq_getElem q1) (List.getElem?_eq_getElem q2)
  rw [q3] at e1
  have e2 : (stepL B Ih cs n s).getD j zv = _ := getD_of e1
  rw [e2]
  have hL : B.L * B.L ^ (s - 1) = B.L ^ s := by rw [Nat.mul_comm, ← Nat.pow_succ]; congr 1; omega
  have he : Bd (hv (cs.getD s []) (j % (cs.getD s []).length)) (B.L * B.L ^ (s - 1)) := by rw [hL]; exact S.bl _ (hmem q2)
  have e3 := stepV_nf (t := (Ps B Ih n s).getD (j / (cs.getD s []).length) 0) S' he
  rw [show n - s + 1 = n - (s - 1) by omega]
  unfold tn
  rw [← hL]
  rw [← e3, getD_lt q1]
  have : hv (cs.getD s []) (j % (cs.getD s []).length) = ((cs.getD s [])[j % (cs.getD s []).length]).2 := by unfold hv; rw [getD_lt q2]
  rw [this]
  rfl
theorem stepL_lin (hI : ∀ k, k ≤ n → IhOk B k (Ih k)) (C : Com B cs) (hn : n < cs.length) {s : Nat} (h1 : 1 ≤ s) (hs : s ≤ n) (c : Vec p) :
    lin (stepL B Ih cs n s).length c (fun i => (stepL B Ih cs n s).getD i zv) = nf (Ps B Ih n (s - 1)) (Ih (n - (s - 1))) (B.L ^ (s - 1)) (cs.getD (s - 1) []) (xc (Ps B Ih n s) (B.L ^ s) (cs.getD s []) c) := by
  unfold xc
  rw [nf_lin, stepL_len]
  exact vext fun k => sg_congr fun j hj => by dsimp only; rw [stepL_at hI C hn h1 hs hj]
/-- the rows of a step that tell nothing are those of the next one -/
theorem ker_im (hI : ∀ k, k ≤ n → IhOk B k (Ih k)) (C : Com B cs) (hn : n < cs.length)
    (hD : ∀ s, 1 ≤ s → s + 1 ≤ n → ∀ f, YY B n (n - s) f → XX B n (n - s) f → ∃ g, XX B n (n - s - 1) g ∧ YY B n (n - s) g ∧ YY B n (n - s - 1) (fun k => f k - 1 * g k))
    {s : Nat} (h1 : 1 ≤ s) (hs : s + 1 ≤ n) (c : Vec p) : SpanL (stepL B Ih cs n (s + 1)) c ↔ Bd c (stepL B Ih cs n s).length ∧ ∀ k, lin (stepL B Ih cs n s).length c (fun i => (stepL B Ih cs n s).getD i zv) k = 0 := by
  have S := sit_of hI C hn (s := s) (by omega)
  have S1 := sit_of hI C hn (s := s + 1) (by omega)
  have S0 := sit_of hI C hn (s := s - 1) (by omega)
  have e1 : n - (s + 1) = n - s - 1 := by omega
  rw [spanL_lin, stepL_lin hI C hn h1 (by omega) c]
  constructor
  · rintro ⟨c', hc', rfl⟩
    rw [stepL_lin hI C hn (by omega) hs c', stepL_len]
    simp only [Nat.add_sub_cancel]
    refine ⟨nf_bd _ _ _ _ _, ?_⟩
    have hy := (inY_iff C hn (s := s + 1) (by omega) _).mp (xc_Y S1 c')
    generalize hx' : xc (Ps B Ih n (s + 1)) (B.L ^ (s + 1)) (cs.getD (s + 1) []) c' = x' at *
    have hyS : YY B n (n - s) x' := ⟨hy.1, fun i h1 h2 => hy.2 i (by omega) h2⟩
    generalize hcc : nf (Ps B Ih n s) (Ih (n - s)) (B.L ^ s) (cs.getD s []) x' = c at *
    have hcb : Bd c ((Ps B Ih n s).length * (cs.getD s []).length) := by rw [← hcc]; exact nf_bd _ _ _ _ _
    -- x_c - x'
    have hd : InX (Ih (n - s)) (B.L ^ (n - s)) (B.L ^ s) (fun k => xc (Ps B Ih n s) (B.L ^ s) (cs.getD s []) c k - 1 * x' k) := by
      refine X_of_nf S ((InY.sub _ _ _).sub 1 (xc_Y S c) ((inY_iff C hn (by omega) _).mpr hyS)) ?_
      rw [nf_sub, nf_xc S hcb, hcc]
      exact vext fun k => by show c k - 1 * c k = 0; grind
    have h2 := XX.le (d := n - s) (by omega) ((inX_iff hI (by omega) _).mp hd)
    have h3 : XX B n (n - s) x' := XX.of (i := n - s - 1) (by omega) (hy.2 (n - s - 1) (by omega) (by omega))
    have h4 : XX B n (n - s) (xc (Ps B Ih n s) (B.L ^ s) (cs.getD s []) c) := by
      have := (XX.sub B n (n - s)).add h2 h3
      have e : (fun k => xc (Ps B Ih n s) (B.L ^ s) (cs.getD s []) c k - 1 * x' k + x' k) = xc (Ps B Ih n s) (B.L ^ s) (cs.getD s []) c := vext fun k => by grind
      rw [e] at this
      exact this
    have h5 := nf_of_X S0 ((inX_iff hI (s := s - 1) (by omega) _).mpr (by rw [show n - (s - 1) - 1 = n - s by omega]; exact h4))
    exact fun k => congrFun h5 k
  · rintro ⟨hcb, h0⟩
    rw [stepL_len] at hcb
    have hy := (inY_iff C hn (s := s) (by omega) _).mp (xc_Y S c)
    have hy0 : YY B n (n - (s - 1)) (xc (Ps B Ih n s) (B.L ^ s) (cs.getD s []) c) := ⟨hy.1, fun i h1 h2 => hy.2 i (by omega) h2⟩
    have hx0 := (inX_iff hI (s := s - 1) (by omega) _).mp (X_of_nf S0 ((inY_iff C hn (by omega) _).mpr hy0) (vext fun k => h0 k))
    rw [show n - (s - 1) - 1 = n - s by omega] at hx0
    obtain ⟨g, g1, g2, g3⟩ := hD s h1 hs _ hy hx0
    generalize hx2 : (fun k => xc (Ps B Ih n s) (B.L ^ s) (cs.getD s []) c k - 1 * g k) = x2 at *
    rw [← e1] at g3
    have hY1 := (inY_iff C hn (s := s + 1) (by omega) _).mpr g3
    refine ⟨nf (Ps B Ih n (s + 1)) (Ih (n - (s + 1))) (B.L ^ (s + 1)) (cs.getD (s + 1) []) x2, by rw [stepL_len]; exact nf_bd _ _ _ _ _, ?_⟩
    rw [stepL_lin hI C hn (by omega) hs]
    simp only [Nat.add_sub_cancel]
    generalize hc' : nf (Ps B Ih n (s + 1)) (Ih (n - (s + 1))) (B.L ^ (s + 1)) (cs.getD (s + 1) []) x2 = c'
    have hc'b : Bd c' ((Ps B Ih n (s + 1)).length * (cs.getD (s + 1) []).length) := by rw [← hc']; exact nf_bd _ _ _ _ _
    have hd : InX (Ih (n - (s + 1))) (B.L ^ (n - (s + 1))) (B.L ^ (s + 1)) (fun k => xc (Ps B Ih n (s + 1)) (B.L ^ (s + 1)) (cs.getD (s + 1) []) c' k - 1 * x2 k) := by
      refine X_of_nf S1 ((InY.sub _ _ _).sub 1 (xc_Y S1 c') hY1) ?_
      rw [nf_sub, nf_xc S1 hc'b, hc']
      exact vext fun k => by show c' k - 1 * c' k = 0; grind
    have h2 := XX.le (d := n - s - 1) (by omega) ((inX_iff hI (by omega) _).mp hd)
    have h3 := nf_of_X S ((inX_iff hI (s := s) (by omega) _).mpr h2)
    have h4 := nf_of_X S ((inX_iff hI (s := s) (by omega) _).mpr g1)
    rw [nf_sub] at h3
    have h5 : nf (Ps B Ih n s) (Ih (n - s)) (B.L ^ s) (cs.getD s []) x2 = fun k => c k - 1 * (zv : Vec p) k := by
      rw [← hx2, nf_sub, nf_xc S hcb, h4]
    refine vext fun k => ?_
    have h6 := congrFun h3 k
    rw [h5] at h6
    have h7 : nf (Ps B Ih n s) (Ih (n - s)) (B.L ^ s) (cs.getD s []) (xc (Ps B Ih n (s + 1)) (B.L ^ (s + 1)) (cs.getD (s + 1) []) c') k - 1 * (c k - 1 * 0) = 0 := h6
    grind
theorem exact_of (hI : ∀ k, k ≤ n → IhOk B k (Ih k)) (C : Com B cs) (hn : n < cs.length) (hn1 : 1 ≤ n)
    (hD : ∀ s, 1 ≤ s → s + 1 ≤ n → ∀ f, YY B n (n - s) f → XX B n (n - s) f → ∃ g, XX B n (n - s - 1) g ∧ YY B n (n - s) g ∧ YY B n (n - s - 1) (fun k => f k - 1 * g k)) : Exact B Ih cs n := by
  have hT : ∃ T : Nat → List (Hd p), ∀ s, Red (T s) ∧ ∀ f, SpanH (T s) f ↔ SpanL (stepL B Ih cs n s) f :=
    ⟨fun s => Classical.choose (tidy_ex (stepL B Ih cs n s)), fun s => Classical.choose_spec (tidy_ex (stepL B Ih cs n s))⟩
  obtain ⟨T, hT⟩ := hT
  have dT : ∀ s, Dim (SpanL (stepL B Ih cs n s)) (T s).length := fun s => (hT s).1.dim.iff (hT s).2
  have dI : ∀ s, Dim (fun f => ∃ c : Vec p, Bd c (stepL B Ih cs n s).length ∧ f = lin (stepL B Ih cs n s).length c (fun i => (stepL B Ih cs n s).getD i zv)) (T s).length := fun s => (dT s).iff fun f => spanL_lin
  have h0 : (stepL B Ih cs n 0).length = (T 1).length := by
    have S := sit_of hI C hn (s := 0) (by omega)
    have S1 := sit_of hI C hn (s := 1) (by omega)
    have : ∀ c : Vec p, SpanL (stepL B Ih cs n 1) c ↔ Bd c (stepL B Ih cs n 0).length := fun c => by
      rw [spanL_lin]
      constructor
      · rintro ⟨c', _, rfl⟩
        rw [stepL_lin hI C hn (by omega) hn1, stepL_len]
        exact nf_bd _ _ _ _ _
      · intro hb
        rw [stepL_len] at hb
        have hy := (inY_iff C hn (s := 0) (by omega) _).mp (xc_Y S c)
        have hy1 := (inY_iff C hn (s := 1) hn1 (xc (Ps B Ih n 0) (B.L ^ 0) (cs.getD 0 []) c)).mpr ⟨hy.1, fun i h1 h2 => by omega⟩
        refine ⟨nf (Ps B Ih n 1) (Ih (n - 1)) (B.L ^ 1) (cs.getD 1 []) (xc (Ps B Ih n 0) (B.L ^ 0) (cs.getD 0 []) c), by rw [stepL_len]; exact nf_bd _ _ _ _ _, ?_⟩
        rw [stepL_lin hI C hn (by omega) hn1]
        generalize hc' : nf (Ps B Ih n 1) (Ih (n - 1)) (B.L ^ 1) (cs.getD 1 []) (xc (Ps B Ih n 0) (B.L ^ 0) (cs.getD 0 []) c) = c'
        have hc'b : Bd c' ((Ps B Ih n 1).length * (cs.getD 1 []).length) := by rw [← hc']; exact nf_bd _ _ _ _ _
        have hd : InX (Ih (n - 1)) (B.L ^ (n - 1)) (B.L ^ 1) (fun k => xc (Ps B Ih n 1) (B.L ^ 1) (cs.getD 1 []) c' k - 1 * xc (Ps B Ih n 0) (B.L ^ 0) (cs.getD 0 []) c k) := by
          refine X_of_nf S1 ((InY.sub _ _ _).sub 1 (xc_Y S1 c') hy1) ?_
          rw [nf_sub, nf_xc S1 hc'b, hc']
          exact vext fun k => by show c' k - 1 * c' k = 0; grind
        have h2 := XX.le (d := n - 0 - 1) (by omega) ((inX_iff hI hn1 _).mp hd)
        have h3 := nf_of_X S ((inX_iff hI (s := 0) (by omega) _).mpr h2)
        rw [nf_sub, nf_xc S hb] at h3
        refine vext fun k => ?_
        have h6 : nf (Ps B Ih n 0) (Ih (n - 0)) (B.L ^ 0) (cs.getD 0 []) (xc (Ps B Ih n 1) (B.L ^ 1) (cs.getD 1 []) c') k - 1 * c k = 0 := congrFun h3 k
        show c k = nf (Ps B Ih n 0) (Ih (n - 0)) (B.L ^ 0) (cs.getD 0 []) (xc (Ps B Ih n 1) (B.L ^ 1) (cs.getD 1 []) c') k
        grind
    exact (bd_dim _).uniq ((dT 1).iff this)
  have hmid : ∀ s, 1 ≤ s → s + 1 ≤ n → (stepL B Ih cs n s).length = (T (s + 1)).length + (T s).length := fun s h1 h2 =>
    rank_null (dI s) ((dT (s + 1)).iff fun f => ker_im hI C hn hD h1 h2 f)
  have hlast : (stepL B Ih cs n n).length = (T n).length := by
    have S := sit_of hI C hn (s := n) (by omega)
    have S0 := sit_of hI C hn (s := n - 1) (by omega)
    have hz : Dim (fun c : Vec p => Bd c (stepL B Ih cs n n).length ∧ ∀ k, lin (stepL B Ih cs n n).length c (fun i => (stepL B Ih cs n n).getD i zv) k = 0) 0 := by
      refine ⟨fun _ => zv, fun i hi => by omega, fun c _ i hi => by omega, fun c hc => ⟨zv, fun k => ?_⟩⟩
      obtain ⟨hcb, h0⟩ := hc
      rw [stepL_lin hI C hn hn1 (Nat.le_refl _)] at h0
      rw [stepL_len] at hcb
      have hy := (inY_iff C hn (s := n) (by omega) _).mp (xc_Y S c)
      have hy0 : YY B n (n - (n - 1)) (xc (Ps B Ih n n) (B.L ^ n) (cs.getD n []) c) := ⟨hy.1, fun i h1 h2 => hy.2 i (by omega) h2⟩
      have hx0 := (inX_iff hI (s := n - 1) (by omega) _).mp (X_of_nf S0 ((inY_iff C hn (by omega) _).mpr hy0) (vext fun k => h0 k))
      rw [show n - (n - 1) - 1 = 0 by omega] at hx0
      have h2 := nf_xc S hcb
      rw [XX.zero hx0, nf_zv] at h2
      exact (congrFun h2 k).symm
    have := rank_null (dI n) hz
    omega
  refine ⟨fun s => if s = 0 ∨ s = n + 1 then 0 else (T s).length, if_pos (.inl rfl), if_pos (.inr rfl), fun s h1 h2 hs R sp => ?_, fun s hs => ?_⟩
  · dsimp only
    rw [if_neg (by omega)]
    exact R.dim.uniq ((dT s).iff fun f => (sp f).symm)
  · dsimp only
    have e := stepL_len B Ih cs n s
    unfold Ps at e
    rw [← e]
    by_cases q0 : s = 0
    · subst q0
      rw [if_pos (.inl rfl), if_neg (by omega), h0, Nat.zero_add]
    · rw [if_neg (by omega)]
      by_cases qn : s = n
      · subst qn
        rw [if_pos (.inr rfl), hlast, Nat.add_zero]
      · rw [if_neg (by omega), hmid s (by omega) (by omega)]
        omega
end
end
end RS
namespace RS
section
variable {p : Nat} [Pr p]
/-! ### the lattice of the rooms: what exactness asks -/
def Lat (B : Bk p) (n : Nat) : Prop := ∀ s, 1 ≤ s → s + 1 ≤ n → ∀ f, YY B n (n - s) f → XX B n (n - s) f → ∃ g, XX B n (n - s - 1) g ∧ YY B n (n - s) g ∧ YY B n (n - s - 1) (fun k => f k - 1 * g k)
theorem sub_self (f : Vec p) : (fun k => f k - 1 * f k) = zv := vext fun k => by show f k - 1 * f k = 0; grind
theorem sub_zv (f : Vec p) : (fun k => f k - 1 * (zv : Vec p) k) = f := vext fun k => by show f k - 1 * 0 = f k; grind
/-- every book up to length 3 -/
theorem lat3 (B : Bk p) {n : Nat} (hn : n ≤ 3) : Lat B n := fun s h1 h2 f hy hx => by
  by_cases q : s = 1
  · subst q
    rw [show n - 1 = n - 1 - 1 + 1 by omega] at hx
    obtain ⟨g, hg, hr⟩ := XX.succ.mp hx
    refine ⟨g, hg, ⟨hg.bd (by omega), fun i h3 h4 => by omega⟩, hr.bd (by omega), fun i h3 h4 => ?_⟩
    have : i = n - 1 - 1 := by omega
    rw [this]
    exact hr
  · have : n - s = 0 + 1 := by omega
    rw [this] at hx
    obtain ⟨g, hg, hr⟩ := XX.succ.mp hx
    rw [XX.zero hg, sub_zv] at hr
    refine ⟨zv, (XX.sub _ _ _).z, (YY.sub _ _ _).z, ?_⟩
    rw [sub_zv]
    refine ⟨hy.1, fun i h3 h4 => ?_⟩
    by_cases z : i = 0
    · rw [z]; exact hr
    · exact hy.2 i (by omega) h4
/-! ### a basis with leads -/
structure Tri (N : Nat) (b : Nat → Vec p) : Prop where
  one : ∀ w, w < N → b w w = 1
  low : ∀ w, w < N → ∀ j, w < j → b w j = 0
theorem Tri.ind {N : Nat} {b : Nat → Vec p} (T : Tri N b) : ∀ n, n ≤ N → Ind n b
  | 0, _ => fun c _ i hi => by omega
  | n + 1, h => fun c hc => by
    have h1 : c n = 0 := by
      have h2 := hc n
      have e : lin (n + 1) c b n = sg n (fun i => c i * b i n) + c n * b n n := rfl
      rw [e, sg_zero fun i hi => by rw [T.low i (by omega) n hi]; grind, T.one n (by omega)] at h2
      grind
    have h2 := T.ind n (by omega) c (fun k => by
      have h3 := hc k
      have e : lin (n + 1) c b k = lin n c b k + c n * b n k := rfl
      rw [e, h1] at h3
      grind)
    intro i hi
    by_cases q : i = n
    · rw [q, h1]
    · exact h2 i (by omega)
/-- what is spanned by the basis at the words of a kind -/
def Sp' (N : Nat) (b : Nat → Vec p) (P : Nat → Prop) (f : Vec p) : Prop := ∃ c : Vec p, Bd c N ∧ (∀ w, c w ≠ 0 → P w) ∧ f = lin N c b
theorem lin_zv (N : Nat) (b : Nat → Vec p) : lin N (zv : Vec p) b = zv := vext fun k => sg_zero fun i _ => by show (0 : Fin p) * _ = 0; grind
theorem Sp'.sub (N : Nat) (b : Nat → Vec p) (P : Nat → Prop) : Sub (Sp' N b P) := ⟨⟨zv, fun _ _ => rfl, fun w h => absurd rfl h, (lin_zv N b).symm⟩, fun {f g} x hf hg => by
  obtain ⟨c, c1, c2, rfl⟩ := hf
  obtain ⟨d, d1, d2, rfl⟩ := hg
  refine ⟨axp c x d, (sub_bd _).a x c1 d1, fun w h => ?_, vext fun k => (lin_axp N c d x b k).symm⟩
  by_cases z : c w = 0
  · refine d2 w fun z2 => h ?_
    show c w + x * d w = 0
    rw [z, z2]; grind
  · exact c2 w z⟩
theorem Sp'.mono {N : Nat} {b : Nat → Vec p} {P Q : Nat → Prop} (h : ∀ w, w < N → P w → Q w) {f : Vec p} (hf : Sp' N b P f) : Sp' N b Q f := by
  obtain ⟨c, c1, c2, rfl⟩ := hf
  refine ⟨c, c1, fun w hw => h w (Nat.lt_of_not_le fun z => hw (c1 w z)) (c2 w hw), rfl⟩
theorem Sp'.mem {N : Nat} {b : Nat → Vec p} {P : Nat → Prop} {w : Nat} (hw : w < N) (h : P w) : Sp' N b P (b w) := by
  refine ⟨unit w, unit_bd hw, fun j hj => ?_, vext fun k => ?_⟩
  · by_cases e : j = w
    · rw [e]; exact h
    · exact absurd (unit_ne e) hj
  · unfold lin
    rw [sg_one hw fun i hi hne => by rw [unit_ne hne]; grind, unit_same]
    grind
theorem Sp'.into {N : Nat} {b : Nat → Vec p} {P : Nat → Prop} {S : Vec p → Prop} (hS : Sub S) (h : ∀ w, w < N → P w → S (b w)) {f : Vec p} (hf : Sp' N b P f) : S f := by
  obtain ⟨c, c1, c2, rfl⟩ := hf
  have e : lin N c b = lin N c (fun w => if c w = 0 then zv else b w) := vext fun k => sg_congr fun i hi => by
    dsimp only
    by_cases z : c i = 0
    · rw [if_pos z, z]; grind
    · rw [if_neg z]
  rw [e]
  refine lin_mem hS (fun w hw => ?_) c
  by_cases z : c w = 0
  · rw [if_pos z]; exact hS.z
  · rw [if_neg z]; exact h w hw (c2 w z)
/-- a room is spanned by the basis if its leads are -/
theorem Tri.room {N : Nat} {b : Nat → Vec p} (T : Tri N b) {R : Vec p → Prop} (hR : Sub R) (hb : ∀ f, R f → Bd f N) {P : Nat → Prop} (h1 : ∀ w, w < N → P w → R (b w)) (h2 : ∀ f, R f → ∀ w, w < N → f w ≠ 0 → (∀ j, w < j → f j = 0) → P w) (f : Vec p) :
    R f ↔ Sp' N b P f := by
  constructor
  · have key : ∀ n, n ≤ N → ∀ f, R f → Bd f n → Sp' N b P f := by
      intro n
      induction n with
      | zero =>
        intro _ f _ hf
        have : f = zv := vext fun k => hf k (Nat.zero_le _)
        rw [this]
        exact (Sp'.sub N b P).z
      | succ n ih =>
        intro hn f hf hfb
        by_cases z : f n = 0
        · exact ih (by omega) f hf fun k hk => by
            by_cases e : k = n
            · rw [e, z]
            · exact hfb k (by omega)
        · have hP := h2 f hf n (by omega) z fun j hj => hfb j (by omega)
          have h3 := hR.sub (f n) hf (h1 n (by omega) hP)
          have h4 := ih (by omega) _ h3 fun k hk => by
            by_cases e : k = n
            · rw [e, T.one n (by omega)]; grind
            · rw [hfb k (by omega), T.low n (by omega) k (by omega)]; grind
          have h5 := (Sp'.sub N b P).a (f n) h4 (Sp'.mem (b := b) (show n < N by omega) hP)
          have e : axp (fun k => f k - f n * b n k) (f n) (b n) = f := vext fun k => by
            show f k - f n * b n k + f n * b n k = f k
            grind
          rw [e] at h5
          exact h5
    exact fun h => key N (Nat.le_refl _) f h (hb f h)
  · exact Sp'.into hR h1
/-- .. then the lattice is as asked -/
theorem lat_tri {B : Bk p} {n : Nat} {b : Nat → Vec p} (T : Tri (B.L ^ n) b) (S : Nat → Nat → Prop) (h : ∀ i, i + 2 ≤ n → ∀ f, RR B n i f ↔ Sp' (B.L ^ n) b (S i) f) : Lat B n := fun s h1 h2 f hy hx => by
  have hx1 : Sp' (B.L ^ n) b (fun w => ∃ i, i < n - s ∧ S i w) f :=
    hx.into (Sp'.sub _ _ _) fun i hi g hg => ((h i (by omega) g).mp hg).mono fun w _ hw => ⟨i, hi, hw⟩
  obtain ⟨a, a1, a2, rfl⟩ := hx1
  have hya : ∀ i, n - s ≤ i → i + 2 ≤ n → ∀ w, a w ≠ 0 → S i w := fun i h3 h4 w hw => by
    obtain ⟨c, c1, c2, c3⟩ := (h i h4 _).mp (hy.2 i h3 h4)
    have hwN : w < B.L ^ n := Nat.lt_of_not_le fun z => hw (a1 w z)
    have h5 := T.ind _ (Nat.le_refl _) (fun i => a i - c i) (fun k => by
      rw [lin_sub, c3]
      grind) w hwN
    refine c2 w fun z => hw ?_
    rw [z] at h5
    grind
  have hp : ∀ c : Vec p, Bd c (B.L ^ n) → (∀ w, c w ≠ 0 → a w ≠ 0) → YY B n (n - s) (lin (B.L ^ n) c b) := fun c hc hca =>
    ⟨lin_mem (sub_bd _) (fun w hw j hj => T.low w hw j (by omega)) c, fun i h3 h4 => (h i h4 _).mpr ⟨c, hc, fun w hw => hya i h3 h4 w (hca w hw), rfl⟩⟩
  open Classical in
  refine ⟨lin (B.L ^ n) (fun w => if ∃ i, i < n - s - 1 ∧ S i w then a w else 0) b, ?_, hp _ (fun k hk => ?_) (fun w hw z => hw ?_), ?_⟩
  · refine Sp'.into (N := B.L ^ n) (b := b) (P := fun w => ∃ i, i < n - s - 1 ∧ S i w) (XX.sub B n _) (fun w hw ⟨i, hi, hS⟩ => .of hi ((h i (by omega) _).mpr (Sp'.mem hw hS))) ⟨_, fun k hk => ?_, fun w hw => ?_, rfl⟩
    · rw [a1 k hk]
      split <;> rfl
    · refine Classical.byContradiction fun z => hw ?_
      rw [if_neg z]
  · rw [a1 k hk]
    split <;> rfl
  · rw [z]
    split <;> rfl
  · have e : (fun k => lin (B.L ^ n) a b k - 1 * lin (B.L ^ n) (fun w => if ∃ i, i < n - s - 1 ∧ S i w then a w else 0) b k) = lin (B.L ^ n) (fun w => if ∃ i, i < n - s - 1 ∧ S i w then 0 else a w) b := vext fun k => by
      have h3 := lin_sub (B.L ^ n) a (fun w => if ∃ i, i < n - s - 1 ∧ S i w then a w else 0) b k
      have h4 : lin (B.L ^ n) (fun i => a i - (fun w => if ∃ i, i < n - s - 1 ∧ S i w then a w else 0) i) b k = lin (B.L ^ n) (fun w => if ∃ i, i < n - s - 1 ∧ S i w then 0 else a w) b k := sg_congr fun w hw => by
        dsimp only
        split <;> grind
      rw [← h4, h3]
      grind
    rw [e]
    have hbd : Bd (fun w => if ∃ i, i < n - s - 1 ∧ S i w then 0 else a w) (B.L ^ n) := fun k hk => by
      dsimp only
      rw [a1 k hk]
      split <;> rfl
    have hy2 := hp _ hbd fun w hw z => hw (by rw [z]; split <;> rfl)
    refine ⟨hy2.1, fun i h3 h4 => ?_⟩
    by_cases q : i = n - s - 1
    · refine (h i h4 _).mpr ⟨_, hbd, fun w hw => ?_, rfl⟩
      by_cases z : ∃ i, i < n - s - 1 ∧ S i w
      · rw [if_pos z] at hw
        exact absurd rfl hw
      · rw [if_neg z] at hw
        obtain ⟨j, hj, hS⟩ := a2 w hw
        have : j = i := Classical.byContradiction fun y => z ⟨j, by omega, hS⟩
        rw [← this]
        exact hS
    · exact hy2.2 i (by omega) h4
/-- a book of one letter -/
theorem lat_one {B : Bk p} (hL : B.L = 1) (n : Nat) : Lat B n := by
  have hN : B.L ^ n = 1 := by rw [hL, Nat.one_pow]
  have T : Tri (B.L ^ n) (unit (p := p)) := ⟨fun w _ => unit_same w, fun w _ j hj => unit_ne (by omega)⟩
  have sl : ∀ i (f : Vec p), pre (B.L * B.L) 0 (suf (B.L ^ (n - i - 2)) 0 f) = fun k => f 0 * unit 0 k := fun i f => vext fun k => by
    unfold pre suf
    rw [hL, Nat.one_pow]
    by_cases e : k = 0
    · subst e; rw [if_pos (by omega), unit_same]; grind
    · rw [if_neg (by omega), unit_ne e]; grind
  have hsub := Span.isSub (p := p) fun g => ∃ e ∈ B.hs, e.2 = g
  refine lat_tri T (fun _ _ => SpanH B.hs (unit 0)) fun i hi f => T.room (RR.sub B n i) (fun f hf => hf.bd hi) (fun w hw h => ?_) (fun f hf w hw hfw _ => ?_) f
  · have : w = 0 := by omega
    subst this
    refine ⟨by rw [rr_pow hi]; exact unit_bd hw, fun a b ha hb => ?_⟩
    have h1 : a = 0 := by rw [hL, Nat.one_pow] at ha; omega
    have h2 : b = 0 := by rw [hL, Nat.one_pow] at hb; omega
    subst h1 h2
    rw [sl, unit_same]
    have e : (fun k => (1 : Fin p) * unit 0 k) = unit 0 := vext fun k => by grind
    rw [e]
    exact h
  · have : w = 0 := by omega
    subst this
    have h1 := hf.2 0 0 (Nat.pow_pos B.lo) (Nat.pow_pos B.lo)
    rw [sl] at h1
    obtain ⟨y, hy⟩ := inv_ex hfw
    have h2 := hsub.of_mul y h1
    have e : (fun k => y * (f 0 * unit 0 k)) = (unit 0 : Vec p) := vext fun k => by
      have : y * (f 0 * unit 0 k) = (f 0 * y) * unit 0 k := by grind
      rw [this, hy]
      grind
    rw [e] at h2
    exact h2
end
end RS
namespace RS
section
variable {p : Nat} [Pr p]
/-! ### two books side by side: plain -/
def phi (l n s k : Nat) : Nat := (s + k / l) * n + (s + k % l)
def blk (l n s : Nat) (f : Vec p) : Vec p := fun k => if k < l * l then f (phi l n s k) else 0
def upv (l n s : Nat) (g : Vec p) : Vec p := mvv (l * l) (phi l n s) g
def crv (n v w : Nat) (x y : Fin p) : Vec p := fun k => if k = w * n + v then y else if k = v * n + w then x else 0
def two (x y : Fin p) : Vec p := fun k => if k = 0 then x else if k = 1 then y else 0
def CS (ps : List (Fin p × Fin p)) (x y : Fin p) : Prop := SpanL (ps.map fun xy => two xy.1 xy.2) (two x y)
def crossV (m m' : Nat) (x y : Fin p) : List (Vec p) := (List.range m).flatMap fun v => (List.range m').map fun w => crv (m + m') v (m + w) x y
def sideV (B B' : Bk p) (ps : List (Fin p × Fin p)) : List (Vec p) := B.rv.map (upv B.L (B.L + B'.L) 0) ++ B'.rv.map (upv B'.L (B.L + B'.L) B.L) ++ ps.flatMap fun xy => crossV B.L B'.L xy.1 xy.2
theorem phi_lt {l n s k : Nat} (h : s + l ≤ n) (hk : k < l * l) : phi l n s k < n * n := by
  obtain ⟨h1, h2, _⟩ := dm hk
  exact cell_lt (by omega) (by omega)
theorem phi_inj {l n s : Nat} (h : s + l ≤ n) : ∀ k k', k < l * l → k' < l * l → phi l n s k = phi l n s k' → k = k' := fun k k' hk hk' e => by
  obtain ⟨h1, h2, h3⟩ := dm hk
  obtain ⟨k1, k2, k3⟩ := dm hk'
  obtain ⟨q1, q2⟩ := cell_inj (n := n) (by omega) (by omega) e
  have e1 : k / l = k' / l := by omega
  have e2 : k % l = k' % l := by omega
  rw [← h3, ← k3, e1, e2]
theorem phi_at {l n s a b : Nat} (hb : b < l) : phi l n s (a * l + b) = (s + a) * n + (s + b) := by
  unfold phi
  rw [(cell_div hb).1, (cell_div hb).2]
theorem blk_axp (l n s : Nat) (f g : Vec p) (c : Fin p) : blk l n s (axp f c g) = axp (blk l n s f) c (blk l n s g) := vext fun k => by
  unfold blk axp
  dsimp only
  split <;> grind
theorem blk_zv (l n s : Nat) : blk l n s (zv : Vec p) = zv := vext fun k => by unfold blk zv; split <;> rfl
theorem blk_bd (l n s : Nat) (f : Vec p) : Bd (blk l n s f) (l * l) := fun k hk => if_neg (by omega)
theorem upv_axp {l n s : Nat} (h : s + l ≤ n) (f g : Vec p) (c : Fin p) : upv l n s (axp f c g) = axp (upv l n s f) c (upv l n s g) := mvv_axp (phi_inj h) f g c
theorem two_axp (x y x' y' c : Fin p) : two (x + c * x') (y + c * y') = axp (two x y) c (two x' y') := vext fun k => by
  unfold two axp
  dsimp only
  split
  · rfl
  · split
    · rfl
    · grind
theorem two_zv : two (0 : Fin p) 0 = zv := vext fun k => by unfold two zv; split <;> (try rfl); split <;> rfl
theorem two_inj {x y x' y' : Fin p} (h : two x y = two x' y') : x = x' ∧ y = y' := ⟨congrFun h 0, congrFun h 1⟩
theorem CS.z (ps : List (Fin p × Fin p)) : CS ps 0 0 := by unfold CS; rw [two_zv]; exact .zero
theorem CS.a {ps : List (Fin p × Fin p)} {x y x' y' : Fin p} (c : Fin p) (h : CS ps x y) (h' : CS ps x' y') : CS ps (x + c * x') (y + c * y') := by
  unfold CS
  rw [two_axp]
  exact (Span.isSub _).a c h h'
/-- the room of two books side by side -/
structure Sd (m m' : Nat) (S S' : Vec p → Prop) (C : Fin p → Fin p → Prop) (f : Vec p) : Prop where
  bd : Bd f ((m + m') * (m + m'))
  one : S (blk m (m + m') 0 f)
  two : S' (blk m' (m + m') m f)
  cr : ∀ v w, v < m → w < m' → C (f (v * (m + m') + (m + w))) (f ((m + w) * (m + m') + v))
theorem side_iff (B B' : Bk p) (ps : List (Fin p × Fin p)) (f : Vec p) : SpanL (sideV B B' ps) f ↔ Sd B.L B'.L (SpanH B.hs) (SpanH B'.hs) (CS ps) f := by
  generalize hm : B.L = m
  generalize hm' : B'.L = m'
  have hb1 : ∀ v ∈ B.rv, Bd v (m * m) := by rw [← hm]; exact B.rv_bd
  have hb2 : ∀ v ∈ B'.rv, Bd v (m' * m') := by rw [← hm']; exact B'.rv_bd
  have s1 : ∀ f, SpanL B.rv f ↔ SpanH B.hs f := spanHL B.hs
  have s2 : ∀ f, SpanL B'.rv f ↔ SpanH B'.hs f := spanHL B'.hs
  have i0 := phi_inj (l := m) (n := m + m') (s := 0) (by omega)
  have i1 := phi_inj (l := m') (n := m + m') (s := m) (by omega)
  unfold sideV
  rw [hm, hm']
  constructor
  · refine Span.into (S := Sd m m' (SpanH B.hs) (SpanH B'.hs) (CS ps)) ⟨⟨fun _ _ => rfl, by rw [blk_zv]; exact .zero, by rw [blk_zv]; exact .zero, fun v w _ _ => CS.z ps⟩, fun {f g} c hf hg =>
      ⟨(sub_bd _).a c hf.bd hg.bd, by rw [blk_axp]; exact (Span.isSub _).a c hf.one hg.one, by rw [blk_axp]; exact (Span.isSub _).a c hf.two hg.two, fun v w hv hw => CS.a c (hf.cr v w hv hw) (hg.cr v w hv hw)⟩⟩ fun g hg => ?_
    rcases List.mem_append.mp hg with hg | hg
    · rcases List.mem_append.mp hg with hg | hg
      · obtain ⟨r, hr, rfl⟩ := List.mem_map.mp hg
        have ho : ∀ j, (¬ ∃ a b, a < m ∧ b < m ∧ j = a * (m + m') + b) → upv m (m + m') 0 r j = 0 := fun j hj => mvv_out fun k hk e => hj ⟨k / m, k % m, (dm hk).1, (dm hk).2.1, by rw [← e]; unfold phi; rw [Nat.zero_add, Nat.zero_add]⟩
        refine ⟨mvv_bd (fun k hk => phi_lt (by omega) hk) r, ?_, ?_, fun v w hv hw => ?_⟩
        · have : blk m (m + m') 0 (upv m (m + m') 0 r) = r := vext fun k => by
            unfold blk upv
            by_cases q : k < m * m
            · rw [if_pos q, mvv_at i0 q]
            · rw [if_neg q, hb1 r hr k (by omega)]
          rw [this]
          exact (s1 _).mp (.of hr)
        · have : blk m' (m + m') m (upv m (m + m') 0 r) = zv := vext fun k => by
            unfold blk
            by_cases q : k < m' * m'
            · rw [if_pos q]
              refine ho _ fun ⟨a, b, ha, hb, e⟩ => ?_
              have := (cell_inj (n := m + m') (by have := (dm q).2.1; omega) (by omega) e).1
              have h9 := Nat.le_add_right m (k / m')
              rw [this] at h9
              omega
            · rw [if_neg q]; rfl
          rw [this]
          exact .zero
        · rw [ho _ fun ⟨a, b, ha, hb, e⟩ => by have := (cell_inj (n := m + m') (by omega) (by omega) e).2; omega, ho _ fun ⟨a, b, ha, hb, e⟩ => by have := (cell_inj (n := m + m') (by omega) (by omega) e).1; omega]
          exact CS.z ps
      · obtain ⟨r, hr, rfl⟩ := List.mem_map.mp hg
        have ho : ∀ j, (¬ ∃ a b, a < m' ∧ b < m' ∧ j = (m + a) * (m + m') + (m + b)) → upv m' (m + m') m r j = 0 := fun j hj => mvv_out fun k hk e => hj ⟨k / m', k % m', (dm hk).1, (dm hk).2.1, by rw [← e]; rfl⟩
        refine ⟨mvv_bd (fun k hk => phi_lt (by omega) hk) r, ?_, ?_, fun v w hv hw => ?_⟩
        · have : blk m (m + m') 0 (upv m' (m + m') m r) = zv := vext fun k => by
            unfold blk
            by_cases q : k < m * m
            · rw [if_pos q]
              refine ho _ fun ⟨a, b, ha, hb, e⟩ => ?_
              have h1 := (dm q).1
              have h2 := (dm q).2.1
              have := (cell_inj (n := m + m') (by omega) (by omega) e).1
              omega
            · rw [if_neg q]; rfl
          rw [this]
          exact .zero
        · have : blk m' (m + m') m (upv m' (m + m') m r) = r := vext fun k => by
            unfold blk upv
            by_cases q : k < m' * m'
            · rw [if_pos q, mvv_at i1 q]
            · rw [if_neg q, hb2 r hr k (by omega)]
          rw [this]
          exact (s2 _).mp (.of hr)
        · rw [ho _ fun ⟨a, b, ha, hb, e⟩ => by have := (cell_inj (n := m + m') (by omega) (by omega) e).1; omega, ho _ fun ⟨a, b, ha, hb, e⟩ => by have := (cell_inj (n := m + m') (by omega) (by omega) e).2; omega]
          exact CS.z ps
    · obtain ⟨xy, hxy, hg⟩ := List.mem_flatMap.mp hg
      obtain ⟨v0, hv0, hg⟩ := List.mem_flatMap.mp hg
      obtain ⟨w0, hw0, rfl⟩ := List.mem_map.mp hg
      have hv0 := List.mem_range.mp hv0
      have hw0 := List.mem_range.mp hw0
      have c1 : v0 * (m + m') + (m + w0) < (m + m') * (m + m') := cell_lt (by omega) (by omega)
      have c2 : (m + w0) * (m + m') + v0 < (m + m') * (m + m') := cell_lt (by omega) (by omega)
      refine ⟨fun k hk => ?_, ?_, ?_, fun v w hv hw => ?_⟩
      · unfold crv
        rw [if_neg (by omega), if_neg (by omega)]
      · have : blk m (m + m') 0 (crv (m + m') v0 (m + w0) xy.1 xy.2) = zv := vext fun k => by
          unfold blk crv
          by_cases q : k < m * m
          · have h1 := (dm q).1
            have h2 := (dm q).2.1
            rw [if_pos q]
            unfold phi
            rw [if_neg fun e => by have := (cell_inj (n := m + m') (by omega) (by omega) e).1; omega, if_neg fun e => by have := (cell_inj (n := m + m') (by omega) (by omega) e).2; omega]
            rfl
          · rw [if_neg q]; rfl
        rw [this]
        exact .zero
      · have : blk m' (m + m') m (crv (m + m') v0 (m + w0) xy.1 xy.2) = zv := vext fun k => by
          unfold blk crv
          by_cases q : k < m' * m'
          · have h1 := (dm q).1
            have h2 := (dm q).2.1
            rw [if_pos q]
            unfold phi
            rw [if_neg fun e => by have := (cell_inj (n := m + m') (by omega) (by omega) e).2; omega, if_neg fun e => by have := (cell_inj (n := m + m') (by omega) (by omega) e).1; have h9 := Nat.le_add_right m (k / m'); rw [this] at h9; omega]
            rfl
          · rw [if_neg q]; rfl
        rw [this]
        exact .zero
      · by_cases q : v = v0 ∧ w = w0
        · obtain ⟨rfl, rfl⟩ := q
          have e1 : crv (m + m') v (m + w) xy.1 xy.2 (v * (m + m') + (m + w)) = xy.1 := by
            unfold crv
            rw [if_neg fun e => by have := (cell_inj (n := m + m') (by omega) (by omega) e).1; omega, if_pos rfl]
          have e2 : crv (m + m') v (m + w) xy.1 xy.2 ((m + w) * (m + m') + v) = xy.2 := by
            unfold crv
            rw [if_pos rfl]
          rw [e1, e2]
          exact .of (List.mem_map.mpr ⟨xy, hxy, rfl⟩)
        · have e1 : crv (m + m') v0 (m + w0) xy.1 xy.2 (v * (m + m') + (m + w)) = 0 := by
            unfold crv
            rw [if_neg fun e => by have := (cell_inj (n := m + m') (by omega) (by omega) e).1; omega, if_neg fun e => q (by have := cell_inj (n := m + m') (by omega) (by omega) e; omega)]
          have e2 : crv (m + m') v0 (m + w0) xy.1 xy.2 ((m + w) * (m + m') + v) = 0 := by
            unfold crv
            rw [if_neg fun e => q (by have := cell_inj (n := m + m') (by omega) (by omega) e; omega), if_neg fun e => by have := (cell_inj (n := m + m') (by omega) (by omega) e).1; omega]
          rw [e1, e2]
          exact CS.z ps
  · rintro ⟨hb, h1, h2, h3⟩
    have hS := Span.isSub (p := p) fun g => g ∈ B.rv.map (upv m (m + m') 0) ++ B'.rv.map (upv m' (m + m') m) ++ ps.flatMap fun xy => crossV m m' xy.1 xy.2
    have a1 : Span (fun g => g ∈ B.rv.map (upv m (m + m') 0) ++ B'.rv.map (upv m' (m + m') m) ++ ps.flatMap fun xy => crossV m m' xy.1 xy.2) (upv m (m + m') 0 (blk m (m + m') 0 f)) := by
      refine ((s1 _).mpr h1).into (S := fun g => Span (fun g => g ∈ B.rv.map (upv m (m + m') 0) ++ B'.rv.map (upv m' (m + m') m) ++ ps.flatMap fun xy => crossV m m' xy.1 xy.2) (upv m (m + m') 0 g)) ⟨?_, fun {f g} c hf hg => ?_⟩ fun g hg => ?_
      · unfold upv; rw [mvv_zero]; exact hS.z
      · rw [upv_axp (by omega)]; exact hS.a c hf hg
      · exact .of (List.mem_append_left _ (List.mem_append_left _ (List.mem_map.mpr ⟨g, hg, rfl⟩)))
    have a2 : Span (fun g => g ∈ B.rv.map (upv m (m + m') 0) ++ B'.rv.map (upv m' (m + m') m) ++ ps.flatMap fun xy => crossV m m' xy.1 xy.2) (upv m' (m + m') m (blk m' (m + m') m f)) := by
      refine ((s2 _).mpr h2).into (S := fun g => Span (fun g => g ∈ B.rv.map (upv m (m + m') 0) ++ B'.rv.map (upv m' (m + m') m) ++ ps.flatMap fun xy => crossV m m' xy.1 xy.2) (upv m' (m + m') m g)) ⟨?_, fun {f g} c hf hg => ?_⟩ fun g hg => ?_
      · unfold upv; rw [mvv_zero]; exact hS.z
      · rw [upv_axp (by omega)]; exact hS.a c hf hg
      · exact .of (List.mem_append_left _ (List.mem_append_right _ (List.mem_map.mpr ⟨g, hg, rfl⟩)))
    have a3 : ∀ v w, v < m → w < m' → Span (fun g => g ∈ B.rv.map (upv m (m + m') 0) ++ B'.rv.map (upv m' (m + m') m) ++ ps.flatMap fun xy => crossV m m' xy.1 xy.2) (crv (m + m') v (m + w) (f (v * (m + m') + (m + w))) (f ((m + w) * (m + m') + v))) := fun v w hv hw => by
      have key : ∀ t : Vec p, SpanL (ps.map fun xy => two xy.1 xy.2) t → Span (fun g => g ∈ B.rv.map (upv m (m + m') 0) ++ B'.rv.map (upv m' (m + m') m) ++ ps.flatMap fun xy => crossV m m' xy.1 xy.2) (crv (m + m') v (m + w) (t 0) (t 1)) := fun t ht => by
        refine ht.into (S := fun t => Span (fun g => g ∈ B.rv.map (upv m (m + m') 0) ++ B'.rv.map (upv m' (m + m') m) ++ ps.flatMap fun xy => crossV m m' xy.1 xy.2) (crv (m + m') v (m + w) (t 0) (t 1))) ⟨?_, fun {f g} c hf hg => ?_⟩ fun g hg => ?_
        · have : crv (m + m') v (m + w) ((zv : Vec p) 0) ((zv : Vec p) 1) = zv := vext fun k => by unfold crv zv; split <;> (try rfl); split <;> rfl
          rw [this]
          exact hS.z
        · have : crv (m + m') v (m + w) (axp f c g 0) (axp f c g 1) = axp (crv (m + m') v (m + w) (f 0) (f 1)) c (crv (m + m') v (m + w) (g 0) (g 1)) := vext fun k => by
            unfold crv axp
            dsimp only
            split
            · rfl
            · split
              · rfl
              · grind
          rw [this]
          exact hS.a c hf hg
        · obtain ⟨xy, hxy, rfl⟩ := List.mem_map.mp hg
          exact .of (List.mem_append_right _ (List.mem_flatMap.mpr ⟨xy, hxy, List.mem_flatMap.mpr ⟨v, List.mem_range.mpr hv, List.mem_map.mpr ⟨w, List.mem_range.mpr hw, rfl⟩⟩⟩))
      exact key _ (h3 v w hv hw)
    have a4 := lin_mem hS (n := m * m') (v := fun i => crv (m + m') (i / m') (m + i % m') (f ((i / m') * (m + m') + (m + i % m'))) (f ((m + i % m') * (m + m') + i / m'))) (fun i hi => a3 _ _ (dm hi).1 (dm hi).2.1) (fun _ => 1)
    have e : f = fun k => (upv m (m + m') 0 (blk m (m + m') 0 f) k + upv m' (m + m') m (blk m' (m + m') m f) k) + lin (m * m') (fun _ => 1) (fun i => crv (m + m') (i / m') (m + i % m') (f ((i / m') * (m + m') + (m + i % m'))) (f ((m + i % m') * (m + m') + i / m'))) k := vext fun k => by
      rcases Nat.lt_or_ge k ((m + m') * (m + m')) with hk | hk
      · obtain ⟨k1, k2, k3⟩ := dm hk
        generalize k / (m + m') = a at *
        generalize k % (m + m') = b at *
        subst k3
        have o1 : ¬ (a < m ∧ b < m) → upv m (m + m') 0 (blk m (m + m') 0 f) (a * (m + m') + b) = 0 := fun q => mvv_out fun k hk e => q (by
          have h1 := (dm hk).1
          have h2 := (dm hk).2.1
          have := cell_inj (n := m + m') (by omega) k2 e
          omega)
        have o2 : ¬ (m ≤ a ∧ m ≤ b) → upv m' (m + m') m (blk m' (m + m') m f) (a * (m + m') + b) = 0 := fun q => mvv_out fun k hk e => q (by
          have h1 := (dm hk).1
          have h2 := (dm hk).2.1
          have := cell_inj (n := m + m') (by omega) k2 e
          exact ⟨this.1 ▸ Nat.le_add_right m _, this.2 ▸ Nat.le_add_right m _⟩)
        have o3 : ∀ i, i < m * m' → ¬ (a = i / m' ∧ b = m + i % m') → ¬ (a = m + i % m' ∧ b = i / m') → crv (m + m') (i / m') (m + i % m') (f ((i / m') * (m + m') + (m + i % m'))) (f ((m + i % m') * (m + m') + i / m')) (a * (m + m') + b) = 0 := fun i hi q1 q2 => by
          have h1 := (dm hi).1
          have h2 := (dm hi).2.1
          unfold crv
          rw [if_neg fun e => q2 (by have := cell_inj (n := m + m') (by omega) (by omega) e; omega), if_neg fun e => q1 (by have := cell_inj (n := m + m') (by omega) (by omega) e; omega)]
        by_cases qa : a < m <;> by_cases qb : b < m
        · have hab : a * m + b < m * m := cell_lt qa qb
          have e1 : upv m (m + m') 0 (blk m (m + m') 0 f) (a * (m + m') + b) = f (a * (m + m') + b) := by
            have h5 : phi m (m + m') 0 (a * m + b) = a * (m + m') + b := by rw [phi_at qb, Nat.zero_add, Nat.zero_add]
            have h4 : upv m (m + m') 0 (blk m (m + m') 0 f) (phi m (m + m') 0 (a * m + b)) = blk m (m + m') 0 f (a * m + b) := mvv_at i0 hab
            rw [h5] at h4
            rw [h4]
            unfold blk
            rw [if_pos hab, h5]
          rw [e1, o2 (by omega)]
          have e3 : lin (m * m') (fun _ => 1) (fun i => crv (m + m') (i / m') (m + i % m') (f ((i / m') * (m + m') + (m + i % m'))) (f ((m + i % m') * (m + m') + i / m'))) (a * (m + m') + b) = 0 := sg_zero fun i hi => by
            dsimp only
            rw [o3 i hi (by omega) (by omega)]; grind
          rw [e3]
          grind
        · have hi : a * m' + (b - m) < m * m' := ub_lt qa (by omega)
          have d1 := (cell_div (n := m') (a := a) (b := b - m) (by omega)).1
          have d2 := (cell_div (n := m') (a := a) (b := b - m) (by omega)).2
          rw [o1 (by omega), o2 (by omega)]
          have e3 : lin (m * m') (fun _ => 1) (fun i => crv (m + m') (i / m') (m + i % m') (f ((i / m') * (m + m') + (m + i % m'))) (f ((m + i % m') * (m + m') + i / m'))) (a * (m + m') + b) = f (a * (m + m') + b) := by
            unfold lin
            rw [sg_one hi fun i hi2 hne => ?_]
            · dsimp only
              rw [d1, d2, show m + (b - m) = b by omega]
              unfold crv
              rw [if_neg fun e => by have := (cell_inj (n := m + m') (by omega) (by omega) e).1; omega, if_pos rfl]
              grind
            · dsimp only
              have h1 := (dm hi2).2.2
              rw [o3 i hi2 (fun ⟨z1, z2⟩ => hne (by rw [← h1, ← z1, show b - m = i % m' by omega])) (fun ⟨z1, z2⟩ => by have := (dm hi2).1; omega)]; grind
          rw [e3]
          grind
        · have hi : b * m' + (a - m) < m * m' := ub_lt qb (by omega)
          have d1 := (cell_div (n := m') (a := b) (b := a - m) (by omega)).1
          have d2 := (cell_div (n := m') (a := b) (b := a - m) (by omega)).2
          rw [o1 (by omega), o2 (by omega)]
          have e3 : lin (m * m') (fun _ => 1) (fun i => crv (m + m') (i / m') (m + i % m') (f ((i / m') * (m + m') + (m + i % m'))) (f ((m + i % m') * (m + m') + i / m'))) (a * (m + m') + b) = f (a * (m + m') + b) := by
            unfold lin
            rw [sg_one hi fun i hi2 hne => ?_]
            · dsimp only
              rw [d1, d2, show m + (a - m) = a by omega]
              unfold crv
              rw [if_pos rfl]
              grind
            · dsimp only
              have h1 := (dm hi2).2.2
              rw [o3 i hi2 (fun ⟨z1, z2⟩ => by have := (dm hi2).1; omega) (fun ⟨z1, z2⟩ => hne (by rw [← h1, ← z2, show a - m = i % m' by omega]))]; grind
          rw [e3]
          grind
        · have hab : (a - m) * m' + (b - m) < m' * m' := cell_lt (by omega) (by omega)
          have e1 : upv m' (m + m') m (blk m' (m + m') m f) (a * (m + m') + b) = f (a * (m + m') + b) := by
            have h5 : phi m' (m + m') m ((a - m) * m' + (b - m)) = a * (m + m') + b := by rw [phi_at (by omega), show m + (a - m) = a by omega, show m + (b - m) = b by omega]
            have h4 : upv m' (m + m') m (blk m' (m + m') m f) (phi m' (m + m') m ((a - m) * m' + (b - m))) = blk m' (m + m') m f ((a - m) * m' + (b - m)) := mvv_at i1 hab
            rw [h5] at h4
            rw [h4]
            unfold blk
            rw [if_pos hab, h5]
          rw [e1, o1 (by omega)]
          have e3 : lin (m * m') (fun _ => 1) (fun i => crv (m + m') (i / m') (m + i % m') (f ((i / m') * (m + m') + (m + i % m'))) (f ((m + i % m') * (m + m') + i / m'))) (a * (m + m') + b) = 0 := sg_zero fun i hi => by
            dsimp only
            have h1 := (dm hi).1
            rw [o3 i hi (by omega) (by omega)]; grind
          rw [e3]
          grind
      · have o1 : upv m (m + m') 0 (blk m (m + m') 0 f) k = 0 := mvv_out fun j hj e => by have := phi_lt (n := m + m') (s := 0) (by omega) hj; omega
        have o2 : upv m' (m + m') m (blk m' (m + m') m f) k = 0 := mvv_out fun j hj e => by have := phi_lt (n := m + m') (s := m) (by omega) hj; omega
        rw [hb k hk, o1, o2]
        have e3 : lin (m * m') (fun _ => 1) (fun i => crv (m + m') (i / m') (m + i % m') (f ((i / m') * (m + m') + (m + i % m'))) (f ((m + i % m') * (m + m') + i / m'))) k = 0 := sg_zero fun i hi => by
          dsimp only
          have h1 := (dm hi).1
          have h2 := (dm hi).2.1
          have c1 : (i / m') * (m + m') + (m + i % m') < (m + m') * (m + m') := cell_lt (by omega) (by omega)
          have c2 : (m + i % m') * (m + m') + i / m' < (m + m') * (m + m') := cell_lt (by omega) (by omega)
          unfold crv
          rw [if_neg (by omega), if_neg (by omega)]; grind
        rw [e3]
        grind
    rw [e]
    exact hS.add (hS.add a1 a2) a4
/-! ### shadows -/
theorem mvv_lin {M : Nat} {φ : Nat → Nat} (inj : ∀ k k', k < M → k' < M → φ k = φ k' → k = k') (g : Vec p) : mvv M φ g = lin M g (fun k => unit (φ k)) := vext fun j => by
  unfold lin
  rcases mvv_cases (w := M) (φ := φ) j with ⟨k, hk, rfl⟩ | h
  · rw [mvv_at inj hk, sg_one hk fun i hi hne => by dsimp only; rw [unit_ne (fun z => hne (inj _ _ hi hk z.symm))]; grind]
    dsimp only
    rw [unit_same]
    grind
  · rw [mvv_out h, sg_zero fun i hi => by dsimp only; rw [unit_ne (fun z => h i hi z.symm)]; grind]
theorem pair_mvv {M N : Nat} {φ : Nat → Nat} (inj : ∀ k k', k < M → k' < M → φ k = φ k' → k = k') (hlt : ∀ k, k < M → φ k < N) (f g : Vec p) : sg N (fun j => f j * mvv M φ g j) = sg M (fun k => f (φ k) * g k) := by
  rw [mvv_lin inj]
  unfold lin
  rw [sg_congr (y := fun j => sg M fun i => f j * (g i * unit (φ i) j)) fun j _ => by rw [sg_mul], sg_comm]
  refine sg_congr fun i hi => ?_
  rw [sg_one (hlt i hi) fun j hj hne => by rw [unit_ne hne]; grind, unit_same]
  grind
theorem pair_crv {n v w N : Nat} (hne : v * n + w ≠ w * n + v) (h1 : v * n + w < N) (h2 : w * n + v < N) (f : Vec p) (x y : Fin p) : sg N (fun j => f j * crv n v w x y j) = f (v * n + w) * x + f (w * n + v) * y := by
  have h := sg_two (n := N) (x := fun k => if k = v * n + w then f k * x else 0) (y := fun k => if k = w * n + v then f k * y else 0) (z := fun j => f j * crv n v w x y j) h1 h2 (fun k => ?_) (fun k hk => if_neg hk) (fun k hk => if_neg hk)
  · rw [h, if_pos rfl, if_pos rfl]
  · unfold crv
    by_cases q : k = w * n + v
    · subst q
      rw [if_pos rfl, if_pos rfl, if_neg hne.symm]; grind
    · rw [if_neg q, if_neg q]
      by_cases z : k = v * n + w
      · rw [if_pos z, if_pos z]; grind
      · rw [if_neg z, if_neg z]; grind
theorem ann_rv (B : Bk p) {N : Nat} {f : Vec p} : Ann N (SpanH B.hs) f ↔ Bd f N ∧ ∀ g ∈ B.rv, sg N (fun k => f k * g k) = 0 := by
  rw [← ann_congr (spanHL B.hs)]
  exact ann_span
theorem ann_side (B B' : Bk p) (ps : List (Fin p × Fin p)) (f : Vec p) : Ann ((B.L + B'.L) * (B.L + B'.L)) (SpanL (sideV B B' ps)) f ↔
    Sd B.L B'.L (Ann (B.L * B.L) (SpanH B.hs)) (Ann (B'.L * B'.L) (SpanH B'.hs)) (fun x y => ∀ xy ∈ ps, x * xy.1 + y * xy.2 = 0) f := by
  have hann : ∀ f : Vec p, Ann ((B.L + B'.L) * (B.L + B'.L)) (SpanL (sideV B B' ps)) f ↔ Bd f ((B.L + B'.L) * (B.L + B'.L)) ∧ ∀ g ∈ sideV B B' ps, sg ((B.L + B'.L) * (B.L + B'.L)) (fun k => f k * g k) = 0 := fun f => ann_span
  rw [hann]
  have p1 : ∀ r, sg ((B.L + B'.L) * (B.L + B'.L)) (fun j => f j * upv B.L (B.L + B'.L) 0 r j) = sg (B.L * B.L) (fun k => blk B.L (B.L + B'.L) 0 f k * r k) := fun r => by
    unfold upv
    rw [pair_mvv (phi_inj (by omega)) (fun k hk => phi_lt (by omega) hk)]
    exact sg_congr fun k hk => by unfold blk; rw [if_pos hk]
  have p2 : ∀ r, sg ((B.L + B'.L) * (B.L + B'.L)) (fun j => f j * upv B'.L (B.L + B'.L) B.L r j) = sg (B'.L * B'.L) (fun k => blk B'.L (B.L + B'.L) B.L f k * r k) := fun r => by
    unfold upv
    rw [pair_mvv (phi_inj (by omega)) (fun k hk => phi_lt (by omega) hk)]
    exact sg_congr fun k hk => by unfold blk; rw [if_pos hk]
  have p3 : ∀ v w x y, v < B.L → w < B'.L → sg ((B.L + B'.L) * (B.L + B'.L)) (fun j => f j * crv (B.L + B'.L) v (B.L + w) x y j) = f (v * (B.L + B'.L) + (B.L + w)) * x + f ((B.L + w) * (B.L + B'.L) + v) * y := fun v w x y hv hw =>
    pair_crv (fun e => by have := (cell_inj (n := B.L + B'.L) (by omega) (by omega) e).1; omega) (cell_lt (by omega) (by omega)) (cell_lt (by omega) (by omega)) f x y
  constructor
  · rintro ⟨hb, h⟩
    refine ⟨hb, (ann_rv B).mpr ⟨blk_bd _ _ _ _, fun g hg => ?_⟩, (ann_rv B').mpr ⟨blk_bd _ _ _ _, fun g hg => ?_⟩, fun v w hv hw xy hxy => ?_⟩
    · rw [← p1]
      exact h _ (List.mem_append_left _ (List.mem_append_left _ (List.mem_map.mpr ⟨g, hg, rfl⟩)))
    · rw [← p2]
      exact h _ (List.mem_append_left _ (List.mem_append_right _ (List.mem_map.mpr ⟨g, hg, rfl⟩)))
    · rw [← p3 v w _ _ hv hw]
      exact h _ (List.mem_append_right _ (List.mem_flatMap.mpr ⟨xy, hxy, List.mem_flatMap.mpr ⟨v, List.mem_range.mpr hv, List.mem_map.mpr ⟨w, List.mem_range.mpr hw, rfl⟩⟩⟩))
  · rintro ⟨hb, h1, h2, h3⟩
    refine ⟨hb, fun g hg => ?_⟩
    rcases List.mem_append.mp hg with hg | hg
    · rcases List.mem_append.mp hg with hg | hg
      · obtain ⟨r, hr, rfl⟩ := List.mem_map.mp hg
        rw [p1]
        exact ((ann_rv B).mp h1).2 r hr
      · obtain ⟨r, hr, rfl⟩ := List.mem_map.mp hg
        rw [p2]
        exact ((ann_rv B').mp h2).2 r hr
    · obtain ⟨xy, hxy, hg⟩ := List.mem_flatMap.mp hg
      obtain ⟨v, hv, hg⟩ := List.mem_flatMap.mp hg
      obtain ⟨w, hw, rfl⟩ := List.mem_map.mp hg
      rw [p3 v w _ _ (List.mem_range.mp hv) (List.mem_range.mp hw)]
      exact h3 v w (List.mem_range.mp hv) (List.mem_range.mp hw) xy hxy
theorem Sd.imp {m m' : Nat} {S S' T T' : Vec p → Prop} {C D : Fin p → Fin p → Prop} (h1 : ∀ f, S f → T f) (h2 : ∀ f, S' f → T' f) (h3 : ∀ x y, C x y → D x y) {f : Vec p} (h : Sd m m' S S' C f) : Sd m m' T T' D f :=
  ⟨h.bd, h1 _ h.one, h2 _ h.two, fun v w hv hw => h3 _ _ (h.cr v w hv hw)⟩
/-- the shadow of two books side by side -/
theorem shadow_side {B B' Bs Bs' : Bk p} (hL : Bs.L = B.L) (hL' : Bs'.L = B'.L) (h : ∀ f, SpanH Bs.hs f ↔ Ann (B.L * B.L) (SpanH B.hs) f) (h' : ∀ f, SpanH Bs'.hs f ↔ Ann (B'.L * B'.L) (SpanH B'.hs) f) {ps ps' : List (Fin p × Fin p)}
    (hc : ∀ x y, CS ps' x y ↔ ∀ xy ∈ ps, x * xy.1 + y * xy.2 = 0) (f : Vec p) : SpanL (sideV Bs Bs' ps') f ↔ Ann ((B.L + B'.L) * (B.L + B'.L)) (SpanL (sideV B B' ps)) f := by
  rw [side_iff, ann_side, hL, hL']
  exact ⟨Sd.imp (fun f => (h f).mp) (fun f => (h' f).mp) fun x y => (hc x y).mp, Sd.imp (fun f => (h f).mpr) (fun f => (h' f).mpr) fun x y => (hc x y).mpr⟩
theorem cs_nil {x y : Fin p} : CS [] x y ↔ x = 0 ∧ y = 0 := by
  unfold CS
  rw [List.map_nil, SpanL.nil]
  constructor
  · intro h; exact two_inj (h.trans two_zv.symm)
  · rintro ⟨rfl, rfl⟩; exact two_zv
theorem cs_one {a b x y : Fin p} : CS [(a, b)] x y ↔ ∃ c, x = c * a ∧ y = c * b := by
  unfold CS
  have h : SpanL ([(a, b)].map fun xy => two xy.1 xy.2) (two x y) ↔ ∃ c : Fin p, SpanL [] (fun j => two x y j - c * two a b j) := SpanL.snoc (l := []) (r := two a b)
  rw [h]
  refine exists_congr fun c => ?_
  rw [SpanL.nil]
  constructor
  · intro h
    have h0 : x - c * a = 0 := congrFun h 0
    have h1 : y - c * b = 0 := congrFun h 1
    constructor <;> grind
  · rintro ⟨rfl, rfl⟩
    refine vext fun k => ?_
    show two (c * a) (c * b) k - c * two a b k = 0
    unfold two
    split
    · grind
    · split <;> grind
theorem cs_all {x y : Fin p} : CS [(1, 0), (0, 1)] x y := by
  have h1 : CS [(1, 0), (0, 1)] (1 : Fin p) 0 := .of (List.mem_map.mpr ⟨(1, 0), by simp, rfl⟩)
  have h2 : CS [(1, 0), (0, 1)] (0 : Fin p) 1 := .of (List.mem_map.mpr ⟨(0, 1), by simp, rfl⟩)
  have := CS.a y (CS.a x (CS.z _) h1) h2
  have e1 : 0 + x * 1 + y * 0 = x := by grind
  have e2 : 0 + x * 0 + y * 1 = y := by grind
  rw [e1, e2] at this
  exact this
end
end RS
namespace RS
section
variable {p : Nat} [Pr p]
/-! ### books told by words: a basis of words -/
/-- the two letters of a word at a place -/
def pairAt (w D k : Nat) : Nat := k / D % w
theorem pairAt_of {w D u r v : Nat} (hr : r < w) (hv : v < D) : pairAt w D ((u * w + r) * D + v) = r := by
  unfold pairAt
  rw [(cell_div hv).1, (cell_div hr).2]
theorem split3 {w ah D k : Nat} (h : k < ah * w * D) : ∃ u r v, u < ah ∧ r < w ∧ v < D ∧ k = (u * w + r) * D + v ∧ pairAt w D k = r := by
  obtain ⟨h1, h2, h3⟩ := dm h
  obtain ⟨k1, k2, k3⟩ := dm h1
  exact ⟨k / D / w, k / D % w, k % D, k1, k2, h2, by rw [k3, h3], rfl⟩
theorem slice_at (w u D v : Nat) (f : Vec p) {s : Nat} (hs : s < w) : pre w u (suf D v f) s = f ((u * w + s) * D + v) := by
  unfold pre suf
  rw [if_pos hs]
theorem lat_words {B : Bk p} (T : Nat → Prop) (h : ∀ g, SpanH B.hs g ↔ Bd g (B.L * B.L) ∧ ∀ r, r < B.L * B.L → ¬ T r → g r = 0) (n : Nat) : Lat B n := by
  refine lat_tri (b := unit) ⟨fun w _ => unit_same w, fun w _ j hj => unit_ne (by omega)⟩ (fun i w => T (pairAt (B.L * B.L) (B.L ^ (n - i - 2)) w)) fun i hi f => Tri.room ⟨fun w _ => unit_same w, fun w _ j hj => unit_ne (by omega)⟩ (RR.sub B n i) (fun f hf => hf.bd hi) (fun w hw hT => ?_) (fun f hf w hw hfw _ => ?_) f
  · refine ⟨by rw [rr_pow hi]; exact unit_bd hw, fun a b ha hb => (h _).mpr ⟨pre_bd _ _ _, fun r hr hn => ?_⟩⟩
    rw [slice_at _ _ _ _ _ hr]
    refine unit_ne fun e => hn ?_
    rw [← e, pairAt_of hr hb] at hT
    exact hT
  · obtain ⟨u, r, v, hu, hr, hv, e, hp⟩ := split3 (w := B.L * B.L) (ah := B.L ^ i) (D := B.L ^ (n - i - 2)) (k := w) (by rw [rr_pow hi]; exact hw)
    rw [hp]
    refine Classical.byContradiction fun hn => hfw ?_
    have := ((h _).mp (hf.2 u v hu hv)).2 r hr hn
    rw [slice_at _ _ _ _ _ hr, ← e] at this
    exact this
/-! ### two letters, exchanged with a weight -/
def pc : Nat → Nat → Nat
  | 0, _ => 0
  | k + 1, x => x % 2 + pc k (x / 2)
def inv : Nat → Nat → Nat → Nat
  | 0, _, _ => 0
  | k + 1, x, z => if x % 2 = 0 then inv k (x / 2) (z + 1) else z + inv k (x / 2) z
def isR (fa fb : Bool) (r : Nat) : Bool := if r = 0 then fa else if r = 3 then fb else if r = 2 then true else false
/-- the power of the weight that the word j has in the row of the word w -/
def ex (fa fb : Bool) (n w j : Nat) : Option Nat :=
  if (pc n w == pc n j && (List.range (n - 1)).all fun i => isR fa fb (pairAt 4 (2 ^ (n - i - 2)) w) || pc n (w / 2 ^ (n - i - 1)) == pc n (j / 2 ^ (n - i - 1))) = true then some (inv n w 0 - inv n j 0) else none
def upEq : Option Nat → Option Nat → Bool
  | none, none => true
  | some a, some b => a == b + 1
  | _, _ => false
def isNo : Option Nat → Bool
  | none => true
  | some _ => false
def chkRow (fa fb : Bool) (n w i : Nat) : Bool :=
  (List.range (2 ^ i)).all fun u => (List.range (2 ^ (n - i - 2))).all fun v =>
    (fa || isNo (ex fa fb n w ((u * 4 + 0) * 2 ^ (n - i - 2) + v))) && (fb || isNo (ex fa fb n w ((u * 4 + 3) * 2 ^ (n - i - 2) + v))) &&
    upEq (ex fa fb n w ((u * 4 + 1) * 2 ^ (n - i - 2) + v)) (ex fa fb n w ((u * 4 + 2) * 2 ^ (n - i - 2) + v))
def chk (fa fb : Bool) (n : Nat) : Bool :=
  (List.range (2 ^ n)).all fun w => (ex fa fb n w w == some 0) && ((List.range (2 ^ n)).all fun j => decide (j ≤ w) || isNo (ex fa fb n w j)) &&
    (List.range (n - 1)).all fun i => !isR fa fb (pairAt 4 (2 ^ (n - i - 2)) w) || chkRow fa fb n w i
theorem chk_ok (fa fb : Bool) {n : Nat} (h : n = 4 ∨ n = 5) : chk fa fb n = true := by
  rcases h with rfl | rfl <;> cases fa <;> cases fb <;> decide +kernel
def pwr (m : Fin p) : Nat → Fin p
  | 0 => 1
  | k + 1 => pwr m k * m
def exV (m : Fin p) : Option Nat → Fin p
  | none => 0
  | some k => pwr m k
theorem exV_up {m : Fin p} {a b : Option Nat} (h : upEq a b = true) : exV m a = m * exV m b := by
  cases a <;> cases b
  · show (0 : Fin p) = m * 0; grind
  · cases h
  · cases h
  · have e := beq_iff_eq.mp h
    subst e
    show pwr m _ * m = m * pwr m _
    grind
theorem exV_no {m : Fin p} {a : Option Nat} (h : isNo a = true) : exV m a = 0 := by
  cases a
  · rfl
  · cases h
theorem all_range {n : Nat} {f : Nat → Bool} (h : (List.range n).all f = true) {k : Nat} (hk : k < n) : f k = true := List.all_eq_true.mp h k (List.mem_range.mpr hk)
theorem or_not {a b : Bool} (h : (a || b) = true) (ha : a = false) : b = true := by rw [ha] at h; simpa using h
/-- the books of two letters that are exchanged with a weight -/
theorem lat_weigh {B : Bk p} (hL : B.L = 2) (fa fb : Bool) (m : Fin p) (h : ∀ g, SpanH B.hs g ↔ Bd g 4 ∧ (fa = false → g 0 = 0) ∧ (fb = false → g 3 = 0) ∧ g 1 = m * g 2) {n : Nat} (hn : n = 4 ∨ n = 5) : Lat B n := by
  have hc := chk_ok fa fb hn
  unfold chk at hc
  have hN : B.L ^ n = 2 ^ n := by rw [hL]
  have h4 : B.L * B.L = 4 := by rw [hL]
  have T : Tri (B.L ^ n) (fun w j => if j < 2 ^ n then exV m (ex fa fb n w j) else 0) := by
    refine ⟨fun w hw => ?_, fun w hw j hj => ?_⟩
    · rw [hN] at hw
      have h1 := all_range hc hw
      simp only [Bool.and_eq_true] at h1
      rw [if_pos hw, beq_iff_eq.mp h1.1.1]
      rfl
    · rw [hN] at hw
      by_cases q : j < 2 ^ n
      · have h1 := all_range hc hw
        simp only [Bool.and_eq_true] at h1
        have h2 := or_not (all_range h1.1.2 q) (decide_eq_false (by omega))
        rw [if_pos q]
        exact exV_no h2
      · rw [if_neg q]
  refine lat_tri T (fun i w => isR fa fb (pairAt 4 (2 ^ (n - i - 2)) w) = true) fun i hi f => T.room (RR.sub B n i) (fun f hf => hf.bd hi) (fun w hw hS => ?_) (fun f hf w hw hfw hlow => ?_) f
  · rw [hN] at hw
    have h1 := all_range hc hw
    simp only [Bool.and_eq_true] at h1
    have h2 := or_not (all_range h1.2 (show i < n - 1 by omega)) (by rw [hS]; rfl)
    refine ⟨by rw [rr_pow hi, hN]; exact fun k hk => if_neg (by omega), fun a b ha hb => ?_⟩
    rw [hL] at ha hb
    have h3 := all_range (all_range h2 ha) hb
    simp only [Bool.and_eq_true] at h3
    rw [hL]
    have hlt : ∀ s, s < 4 → (a * 4 + s) * 2 ^ (n - i - 2) + b < 2 ^ n := fun s hs => by
      have := ub_lt (ub_lt ha hs) hb
      have e := rr_pow (L := 2) hi
      rw [show (2 : Nat) * 2 = 4 from rfl] at e
      rw [e] at this
      exact this
    refine (h _).mpr ⟨pre_bd _ _ _, fun q => ?_, fun q => ?_, ?_⟩
    · rw [slice_at _ _ _ _ _ (by omega), if_pos (hlt 0 (by omega))]
      exact exV_no (or_not h3.1.1 q)
    · rw [slice_at _ _ _ _ _ (by omega), if_pos (hlt 3 (by omega))]
      exact exV_no (or_not h3.1.2 q)
    · rw [slice_at _ _ _ _ _ (by omega), slice_at _ _ _ _ _ (by omega), if_pos (hlt 1 (by omega)), if_pos (hlt 2 (by omega))]
      exact exV_up h3.2
  · obtain ⟨u, r, v, hu, hr, hv, e, hp⟩ := split3 (w := B.L * B.L) (ah := B.L ^ i) (D := B.L ^ (n - i - 2)) (k := w) (by rw [rr_pow hi]; exact hw)
    have hg := (h _).mp (hf.2 u v hu hv)
    have h0 := hg.2.1
    have h3 := hg.2.2.1
    have h1 := hg.2.2.2
    rw [slice_at _ _ _ _ _ (by omega)] at h0 h3
    rw [slice_at _ _ _ _ _ (by omega), slice_at _ _ _ _ _ (by omega)] at h1
    have hp' : pairAt 4 (2 ^ (n - i - 2)) w = r := by rw [← hp, hL]
    rw [hp']
    rw [h4] at hr
    match r, hr with
    | 0, _ =>
      refine Classical.byContradiction fun q => hfw ?_
      rw [e]
      refine h0 ?_
      cases hfa : fa
      · rfl
      · exact absurd (by unfold isR; rw [if_pos rfl]; exact hfa) q
    | 1, _ =>
      refine absurd ?_ hfw
      rw [e, h1, hlow]
      · grind
      · have : 0 < B.L ^ (n - i - 2) := Nat.pow_pos B.lo
        rw [e]
        have := Nat.mul_lt_mul_of_pos_right (show u * (B.L * B.L) + 1 < u * (B.L * B.L) + 2 by omega) this
        omega
    | 2, _ => rfl
    | 3, _ =>
      refine Classical.byContradiction fun q => hfw ?_
      rw [e]
      refine h3 ?_
      cases hfb : fb
      · rfl
      · exact absurd (by unfold isR; rw [if_neg (by omega), if_pos rfl]; exact hfb) q
/-! ### two books of one letter each -/
theorem one_letter {B : Bk p} (g : Vec p) (h0 : ∀ k, 1 ≤ k → g k = 0) : SpanH B.hs g ↔ (¬ SpanH B.hs (unit 0) → g 0 = 0) := by
  have hsub := Span.isSub (p := p) fun g => ∃ e ∈ B.hs, e.2 = g
  have e : ∀ x : Fin p, g 0 = x → g = fun k => x * unit 0 k := fun x hx => vext fun k => by
    by_cases q : k = 0
    · subst q; rw [hx, unit_same]; grind
    · rw [h0 k (by omega), unit_ne q]; grind
  constructor
  · intro h hn
    refine Classical.byContradiction fun z => hn ?_
    obtain ⟨y, hy⟩ := inv_ex z
    have h2 := hsub.of_mul y h
    have e2 : (fun k => y * g k) = (unit 0 : Vec p) := vext fun k => by
      have e3 : g k = g 0 * unit 0 k := congrFun (e _ rfl) k
      rw [e3]
      have : y * (g 0 * unit 0 k) = (g 0 * y) * unit 0 k := by grind
      rw [this, hy]
      grind
    rw [e2] at h2
    exact h2
  · intro h
    by_cases q : SpanH B.hs (unit 0)
    · rw [e _ rfl]
      exact hsub.of_mul _ q
    · have : g = zv := vext fun k => by
        rw [e 0 (h q)]
        show (0 : Fin p) * _ = 0
        grind
      rw [this]
      exact .zero
/-- the book of two books of one letter -/
theorem two_ones {B B' B2 : Bk p} (hL : B.L = 1) (hL' : B'.L = 1) {ps : List (Fin p × Fin p)} (h : ∀ f, SpanH B2.hs f ↔ SpanL (sideV B B' ps) f) (g : Vec p) :
    SpanH B2.hs g ↔ Bd g 4 ∧ (¬ SpanH B.hs (unit 0) → g 0 = 0) ∧ (¬ SpanH B'.hs (unit 0) → g 3 = 0) ∧ CS ps (g 1) (g 2) := by
  rw [h, side_iff, hL, hL']
  have b1 : ∀ s k, 1 ≤ k → blk 1 (1 + 1) s g k = 0 := fun s k hk => blk_bd 1 _ s g k (by omega)
  have c0 : blk 1 (1 + 1) 0 g 0 = g 0 := rfl
  have c1 : blk 1 (1 + 1) 1 g 0 = g 3 := rfl
  constructor
  · rintro ⟨hb, h1, h2, h3⟩
    rw [one_letter _ (b1 0), c0] at h1
    rw [one_letter _ (b1 1), c1] at h2
    exact ⟨hb, h1, h2, h3 0 0 (by omega) (by omega)⟩
  · rintro ⟨hb, h1, h2, h3⟩
    refine ⟨hb, (one_letter _ (b1 0)).mpr (by rw [c0]; exact h1), (one_letter _ (b1 1)).mpr (by rw [c1]; exact h2), fun v w hv hw => ?_⟩
    obtain rfl : v = 0 := by omega
    obtain rfl : w = 0 := by omega
    exact h3
/-- the relations of letters of both -/
inductive Way (p : Nat) [Pr p] : List (Fin p × Fin p) → Prop
  | free : Way p []
  | shut : Way p [(1, 0), (0, 1)]
  | ahead : Way p [(0, 1)]
  | behind : Way p [(1, 0)]
  | weighed (m : Fin p) : Way p [(m, 1)]
theorem lat_two {B B' B2 : Bk p} (hL : B.L = 1) (hL' : B'.L = 1) (hL2 : B2.L = 2) {ps : List (Fin p × Fin p)} (h : ∀ f, SpanH B2.hs f ↔ SpanL (sideV B B' ps) f) (hw : Way p ps) {n : Nat} (hn : n ≤ 5) : Lat B2 n := by
  rcases Nat.lt_or_ge n 4 with h3 | h3
  · exact lat3 B2 (by omega)
  have hm := two_ones hL hL' h
  have words : ∀ (s1 s2 : Prop), (∀ x y, CS ps x y ↔ (¬ s1 → x = 0) ∧ (¬ s2 → y = 0)) → Lat B2 n := fun s1 s2 hc => by
    refine lat_words (fun r => match r with | 0 => SpanH B.hs (unit 0) | 1 => s1 | 2 => s2 | _ => SpanH B'.hs (unit 0)) (fun g => ?_) n
    rw [hm, hc, hL2]
    constructor
    · rintro ⟨a, b, c, d, e⟩
      refine ⟨a, fun r hr hn => ?_⟩
      match r, hr, hn with
      | 0, _, hn => exact b hn
      | 1, _, hn => exact d hn
      | 2, _, hn => exact e hn
      | 3, _, hn => exact c hn
    · rintro ⟨a, b⟩
      exact ⟨a, fun q => b 0 (by omega) q, fun q => b 3 (by omega) q, fun q => b 1 (by omega) q, fun q => b 2 (by omega) q⟩
  cases hw with
  | free => exact words False False fun x y => by rw [cs_nil]; simp
  | shut => exact words True True fun x y => by simp [cs_all]
  | ahead =>
    exact words False True fun x y => by
      rw [cs_one]
      simp only [not_false_eq_true, forall_const, not_true_eq_false, false_implies, and_true]
      constructor
      · rintro ⟨c, h1, _⟩; rw [h1]; grind
      · intro h1; exact ⟨y, by rw [h1]; grind, by grind⟩
  | behind =>
    exact words True False fun x y => by
      rw [cs_one]
      simp only [not_false_eq_true, forall_const, not_true_eq_false, false_implies, true_and]
      constructor
      · rintro ⟨c, _, h1⟩; rw [h1]; grind
      · intro h1; exact ⟨x, by grind, by rw [h1]; grind⟩
  | weighed m =>
    open Classical in
    refine lat_weigh hL2 (decide (SpanH B.hs (unit 0))) (decide (SpanH B'.hs (unit 0))) m (fun g => ?_) (by omega)
    rw [hm, cs_one]
    constructor
    · rintro ⟨a, b, c, d, e1, e2⟩
      refine ⟨a, fun q => b (of_decide_eq_false q), fun q => c (of_decide_eq_false q), ?_⟩
      rw [e1, e2]
      grind
    · rintro ⟨a, b, c, d⟩
      exact ⟨a, fun q => b (decide_eq_false q), fun q => c (decide_eq_false q), g 2, by rw [d]; grind, by grind⟩
end
end RS
namespace RS
open PySem PySem.Spec PyProof.Rows L2
open C8 (Cal Mak Met pe_c pe_mk pe_mt pe_mt0 pe_gc)
/-- a promise for every prime of the list -/
def U (sp : ∀ p : Nat, Pr p → Sp) : Sp := fun vs H Q E => ∃ (p : Nat) (hp : Pr p), sp p hp vs H Q E
theorem r_U {sp : ∀ p : Nat, Pr p → Sp} {vs : List V} {H : Hp} {Q : VK} {E : XK} {p : Nat} (hp : Pr p) (h : sp p hp vs H Q E) : U sp vs H Q E := ⟨p, hp, h⟩
section
variable {P : Program} {w : World} {K : PySem.W.Frag} {mg : Str → Option Value} {base : Heap}
theorem mkCalU {x : Str} {st : Stmt} {N ps : List Str} {k : Nat} {sp : ∀ p : Nat, Pr p → Sp} (D : Df K mg x st) (S : FnScope N ps (defScope st)) (len : ∀ p hp vs H Q E, sp p hp vs H Q E → vs.length = ps.length)
    (hb : ∀ (kV doc pm : Value) (an : Option Addr) (cdv ct : Value) (us : List Value), us.length = ps.length → bindArgs (PySem.W.fnOf x x (defArgs st) (defBody st) (defScope st) .none kV doc pm an cdv ct) ⟨us, []⟩ = pure (ps.zip us))
    (hbody : ∀ (p : Nat) (hp : Pr p) (f : Addr) (cdv : Value) (A : Around) (outer : List Env) (s : Shared) (H : Hp) (vs : List V) (Q : VK) (E : XK), Room k (A.deeper (envOfC x (defScope st) s.heap.objs.size f cdv)) → sp p hp vs H Q E →
      ∃ t, PSs (cxOf CX0 P w K mg base N x (defScope st) f cdv A outer s H E).nox (defBody st) t ∧ t { nx := fun _ H' => Q .non H', rt := Q } (start N vs) H) : Cal P w K mg base (k + 1) x (U sp) [] :=
  mkCal D S (fun vs H Q E ⟨p, hp, h⟩ => len p hp vs H Q E h) hb fun f cdv A outer s H vs Q E hr ⟨p, hp, h⟩ => hbody p hp f cdv A outer s H vs Q E hr h
end
end RS
namespace RS
open PySem PySem.Spec PyProof.Rows L2
section
variable {p : Nat} [Pr p]
def ent (f : Vec p) (k : Nat) : Key × V := (Sum.inl (k : Int), V.int (iv (f k)))
/-- the pairs of a dict of the numbers of f that are not 0 -/
def SpK (kvs : List (Key × V)) (f : Vec p) : Prop := ∃ ks : List Nat, ks.Nodup ∧ kvs = ks.map (ent f) ∧ ∀ k, k ∈ ks ↔ f k ≠ 0
theorem key_inj {a b : Nat} : (Sum.inl (a : Int) : Key) = Sum.inl (b : Int) ↔ a = b := by
  constructor
  · intro h
    have := Sum.inl.inj h
    omega
  · intro h
    rw [h]
theorem valV_ent (f : Vec p) (k : Nat) : ∀ ks : List Nat, valV (ks.map (ent f)) (Sum.inl (k : Int) : Key) = if k ∈ ks then some (V.int (iv (f k))) else none
  | [] => rfl
  | a :: r => by
    have ih := valV_ent f k r
    unfold valV at ih ⊢
    rw [List.map_cons, List.find?_cons]
    by_cases e : a = k
    · subst e
      simp [ent]
    · have e1 : decide ((ent f a).1 = (Sum.inl (k : Int) : Key)) = false := decide_eq_false fun h => e (key_inj.mp h)
      rw [e1]
      simp only [List.mem_cons, Ne.symm e, false_or]
      exact ih
theorem SpK.get {kvs : List (Key × V)} {f : Vec p} (h : SpK kvs f) (k : Nat) : valV kvs (Sum.inl (k : Int) : Key) = if f k = 0 then none else some (V.int (iv (f k))) := by
  obtain ⟨ks, hn, rfl, hk⟩ := h
  rw [valV_ent]
  by_cases q : f k = 0
  · rw [if_pos q, if_neg fun m => (hk k).mp m q]
  · rw [if_neg q, if_pos ((hk k).mpr q)]
theorem SpK.len {kvs : List (Key × V)} {f : Vec p} {n : Nat} (h : SpK kvs f) (hb : Bd f n) : kvs.length ≤ n := by
  obtain ⟨ks, hn, rfl, hk⟩ := h
  rw [List.length_map]
  exact nodup_len hn fun k m => by
    have q := (hk k).mp m
    rcases Nat.lt_or_ge k n with z | z
    · exact z
    · exact absurd (hb k z) q
/-- one number set -/
def set1 (f : Vec p) (k : Nat) (x : Fin p) : Vec p := fun j => if j = k then x else f j
theorem map_ent_congr {f g : Vec p} {ks : List Nat} (h : ∀ k ∈ ks, f k = g k) : ks.map (ent f) = ks.map (ent g) := List.map_congr_left fun k m => by
  unfold ent
  rw [h k m]
theorem SpK.pop {kvs : List (Key × V)} {f : Vec p} (h : SpK kvs f) (k : Nat) : SpK (dropK kvs (Sum.inl (k : Int))) (set1 f k 0) := by
  obtain ⟨ks, hn, rfl, hk⟩ := h
  refine ⟨ks.erase k, hn.erase k, ?_, fun j => ?_⟩
  · rw [hn.erase_eq_filter]
    unfold dropK
    rw [List.filter_map]
    have e : ((fun kv : Key × V => decide (kv.1 ≠ (Sum.inl (k : Int) : Key))) ∘ ent f) = fun j => j != k := by
      funext j
      show (decide ((Sum.inl (j : Int) : Key) ≠ Sum.inl (k : Int))) = (j != k)
      by_cases e : j = k
      · subst e; simp
      · have : ¬ (Sum.inl (j : Int) : Key) = Sum.inl (k : Int) := fun q => e (key_inj.mp q)
        simp [this, e]
    rw [e]
    refine map_ent_congr fun j hj => ?_
    have := (List.mem_filter.mp hj).2
    have hne : j ≠ k := by simpa using this
    unfold set1
    rw [if_neg hne]
  · rw [hn.mem_erase_iff]
    unfold set1
    by_cases e : j = k
    · subst e; simp
    · rw [if_neg e]
      exact ⟨fun q => (hk j).mp q.2, fun q => ⟨e, (hk j).mpr q⟩⟩
theorem SpK.same {kvs : List (Key × V)} {f g : Vec p} (h : SpK kvs f) (e : ∀ k, f k = g k) : SpK kvs g := by
  have : f = g := funext e
  rw [← this]
  exact h
theorem SpK.put {kvs : List (Key × V)} {f : Vec p} (h : SpK kvs f) {k : Nat} (h0 : f k = 0) {x : Fin p} (hx : x ≠ 0) : SpK (putK kvs (Sum.inl (k : Int)) (V.int (iv x))) (set1 f k x) := by
  have hv : valV kvs (Sum.inl (k : Int) : Key) = none := by rw [h.get, if_pos h0]
  obtain ⟨ks, hn, rfl, hk⟩ := h
  have hnk : ¬ k ∈ ks := fun m => (hk k).mp m h0
  rw [putK_new _ hv]
  refine ⟨ks ++ [k], nd_snoc hn hnk, ?_, fun j => ?_⟩
  · rw [List.map_append]
    refine congr (congrArg _ (map_ent_congr fun j hj => ?_)) ?_
    · unfold set1
      rw [if_neg fun e : j = k => hnk (e ▸ hj)]
    · show [((Sum.inl (k : Int) : Key), V.int (iv x))] = [ent (set1 f k x) k]
      unfold ent set1
      rw [if_pos rfl]
  · rw [List.mem_append, List.mem_singleton]
    unfold set1
    by_cases e : j = k
    · subst e; simp [hx]
    · rw [if_neg e, hk j]
      simp [e]
theorem SpK.nil : SpK [] (fun _ => (0 : Fin p)) := ⟨[], List.nodup_nil, rfl, by simp⟩
theorem SpK.emp {kvs : List (Key × V)} {f : Vec p} (h : SpK kvs f) : kvs = [] ↔ ∀ k, f k = 0 := by
  obtain ⟨ks, hn, rfl, hk⟩ := h
  constructor
  · intro e k
    have e2 : ks = [] := List.map_eq_nil_iff.mp e
    subst e2
    refine Classical.byContradiction fun q => ?_
    have := (hk k).mpr q
    simp at this
  · intro e
    cases ks with
    | nil => rfl
    | cons a r => exact absurd (e a) ((hk a).mp List.mem_cons_self)
/-- a dict of the numbers of f, to be read; as it is -/
def RowAt (H : Hp) (a : Addr) (f : Vec p) : Prop := ∃ kvs, Rd H a (.dK kvs) ∧ SpK kvs f
def RowX (H : Hp) (a : Addr) (f : Vec p) : Prop := ∃ kvs, H a = some (.dK kvs) ∧ SpK kvs f
theorem RowX.at_ {H : Hp} {a : Addr} {f : Vec p} (h : RowX H a f) : RowAt H a f := let ⟨kvs, e, s⟩ := h; ⟨kvs, .inl e, s⟩
theorem RowAt.rd {H H' : Hp} {a : Addr} {f : Vec p} (e : RdE H H') (h : RowAt H a f) : RowAt H' a f := let ⟨kvs, r, s⟩ := h; ⟨kvs, e a _ r, s⟩
theorem RowX.same {H H' : Hp} {a : Addr} {f : Vec p} (e : Same H H') (h : RowX H a f) : RowX H' a f := let ⟨kvs, r, s⟩ := h; ⟨kvs, e a _ r, s⟩
theorem SpK.inj {kvs : List (Key × V)} {f g : Vec p} (h : SpK kvs f) (h' : SpK kvs g) : f = g := by
  funext k
  have e := (h.get k).symm.trans (h'.get k)
  by_cases a : f k = 0 <;> by_cases b : g k = 0
  · rw [a, b]
  · rw [if_pos a, if_neg b] at e; cases e
  · rw [if_neg a, if_pos b] at e; cases e
  · rw [if_neg a, if_neg b] at e
    exact iv_inj (V.int.inj (Option.some.inj e))
end
end RS
namespace RS
open PySem PySem.Spec PyProof.Rows L2
/-- all but a is as it was -/
def Off (a : Addr) (H H' : Hp) : Prop := ∀ b, b ≠ a → H' b = H b
theorem Off.refl (a : Addr) (H : Hp) : Off a H H := fun _ _ => rfl
theorem Off.upd {a : Addr} {H : Hp} {o : HO} : Off a H (upd H a o) := fun _ h => upd_ne h
theorem Off.same {a : Addr} {H0 H H' : Hp} (o : Off a H H') (e : Same H0 H) (n : H0 a = none) : Same H0 H' := fun b u hb => by
  rw [o b (ne_of_none hb n)]
  exact e b u hb
theorem keyd (a : Nat) : kV (Sum.inl (a : Int)) = V.int (a : Int) := rfl
section
variable {p : Nat} [Pr p] {σ : L2.St} {H : Hp} {Q : VK} {i j : Nat} {a : Addr} {k : Nat} {F : Vec p}
theorem s_pop (h1 : σ[i]? = some (some (.ref a))) (h2 : σ[j]? = some (some (.int (k : Int)))) (h : RowX H a F) (q : ∀ H', Off a H H' → RowX H' a (set1 F k 0) → Q (.int (iv (F k))) H') :
    tDPop2 (tVar i) (tVar j) (tC (.int 0)) σ H Q := by
  obtain ⟨kvs, h, sp⟩ := h
  refine ⟨_, h1, a, rfl, .inl ⟨kvs, .inl h⟩, _, h2, kvs, Sum.inl (k : Int), h, rfl, fun v hv => ?_, fun hv => ?_⟩
  · rw [sp.get] at hv
    by_cases z : F k = 0
    · rw [if_pos z] at hv
      cases hv
    · rw [if_neg z] at hv
      cases hv
      exact q _ Off.upd ⟨_, upd_same, sp.pop k⟩
  · rw [sp.get] at hv
    by_cases z : F k = 0
    · have e : iv (F k) = 0 := iv_eq_zero.mpr z
      rw [← e]
      refine q H (Off.refl a H) ⟨kvs, h, sp.same fun m => ?_⟩
      unfold set1
      by_cases y : m = k
      · subst y
        rw [if_pos rfl, z]
      · rw [if_neg y]
    · rw [if_neg z] at hv
      cases hv
theorem s_get0 {td ty : TE} (h1 : ∀ Q : VK, Q (.ref a) H → td σ H Q) (h2 : ∀ Q : VK, Q (.int (k : Int)) H → ty σ H Q) (h : RowAt H a F) (q : Q (.int (iv (F k))) H) :
    tDGet2 td ty (tC (.int 0)) σ H Q := by
  obtain ⟨kvs, h, sp⟩ := h
  refine h1 _ ⟨a, rfl, .inl ⟨kvs, h⟩, h2 _ ⟨_, .inl ⟨kvs, Sum.inl (k : Int), h, rfl, rfl⟩, ?_⟩⟩
  rw [sp.get]
  by_cases z : F k = 0
  · rw [if_pos z]
    rw [z] at q
    exact q
  · rw [if_neg z]
    exact q
theorem DGet.row (h : RowAt H a F) (z : F k ≠ 0) : DGet H a (.int (k : Int)) (some (.int (iv (F k)))) := by
  obtain ⟨kvs, h, sp⟩ := h
  refine .inl ⟨kvs, Sum.inl (k : Int), h, rfl, ?_⟩
  rw [sp.get, if_neg z]
theorem DPut.row {x : Fin p} (h : RowX H a F) (z : F k = 0) (hx : x ≠ 0) {n : Nat} (hb : Bd F n) (hn : n ≤ 2000) : ∃ H', DPut H a (.int (k : Int)) (.int (iv x)) H' ∧ Off a H H' ∧ RowX H' a (set1 F k x) := by
  obtain ⟨kvs, h, sp⟩ := h
  exact ⟨_, .inl ⟨kvs, Sum.inl (k : Int), h, rfl, Nat.lt_of_le_of_lt (Nat.le_trans (sp.len hb) hn) (by decide), rfl⟩, Off.upd, _, upd_same, sp.put z hx⟩
end
/-- tests of ints -/
theorem t_ne {i j : Int} {A B : Prop} (h1 : i ≠ j → A) (h2 : i = j → B) : if (!decide (V.int i = V.int j)) = true then A else B := by
  by_cases e : i = j
  · rw [e, decide_eq_true rfl]
    exact iteF (h2 e)
  · rw [decide_eq_false fun q => e (V.int.inj q)]
    exact iteT (h1 e)
theorem t_eq {i j : Int} {A B : Prop} (h1 : i = j → A) (h2 : i ≠ j → B) : if decide (V.int i = V.int j) = true then A else B := by
  by_cases e : i = j
  · rw [e, decide_eq_true rfl]
    exact iteT (h1 e)
  · rw [decide_eq_false fun q => e (V.int.inj q)]
    exact iteF (h2 e)
theorem take_succ_nodup {α : Type} {l : List α} (hn : l.Nodup) {i : Nat} {x : α} (h : l[i]? = some x) : l.take (i + 1) = l.take i ++ [x] ∧ ¬ x ∈ l.take i := by
  have e : l.take (i + 1) = l.take i ++ [x] := by rw [List.take_succ, h]; rfl
  refine ⟨e, fun m => ?_⟩
  have h1 := hn.sublist (List.take_sublist (i + 1) l)
  rw [e] at h1
  exact (List.nodup_append.mp h1).2.2 x m x (List.mem_singleton.mpr rfl) rfl
/-! ### readings, step by step -/
section
variable {σ : L2.St} {H : Hp} {Q : VK} {D : Ends} {t u : TS} {te ta tb tc : TE} {g : TG} {v x : V} {i j l : Nat} {tA : TA} {tt : TT} {QA : List V → Hp → Prop} {QB : Bool → Hp → Prop} {r : R2}
theorem r_seq (h : t { D with nx := u D } σ H) : tSeq t u D σ H := h
theorem r_next (h : D.nx σ H) : tNext D σ H := h
theorem r_asg (h : te σ H fun x H1 => g x σ H1 D.nx) : tAsg te g D σ H := h
theorem r_drop (h : te σ H fun _ H1 => D.nx σ H1) : tDrop te D σ H := h
theorem r_ret (h : te σ H D.rt) : tRet te D σ H := h
theorem r_ifS (h : tt σ H fun b H1 => if b = true then t D σ H1 else u D σ H1) : tIfS tt t u D σ H := h
theorem r_name {Q : L2.St → Hp → Prop} (h : Q (σ.set i (some v)) H) : gName i v σ H Q := h
theorem r_var (e : σ[i]? = some (some v)) (h : Q v H) : tVar i σ H Q := ⟨v, e, h⟩
theorem r_var0 {l : L2.St} (h : Q v H) : tVar 0 (some v :: l) H Q := ⟨v, rfl, h⟩
theorem r_varS {l : L2.St} {y : Option V} (h : tVar i l H Q) : tVar (i + 1) (y :: l) H Q := let ⟨v, e, q⟩ := h; ⟨v, e, q⟩
theorem r_c (h : Q v H) : tC v σ H Q := h
theorem r_op (h : ta σ H fun x H1 => tb σ H1 fun y H2 => r x y H2 Q) : tOp r ta tb σ H Q := h
theorem r_un {r : V → Hp → VK → Prop} (h : ta σ H fun x H1 => r x H1 Q) : tUn r ta σ H Q := h
theorem r_I0 {g : Int → Int → V} {a b : Int} (h : Q (g a b) H) : rI0 g (.int a) (.int b) H Q := ⟨a, b, rfl, rfl, h⟩
theorem r_I {C : Int → Int → Prop} {g : Int → Int → V} {a b : Int} (hc : C a b) (h : Q (g a b) H) : rI C g (.int a) (.int b) H Q := ⟨a, b, rfl, rfl, hc, h⟩
theorem r_neg {a : Int} (h : Q (.int (-a)) H) : rU (fun i => .int (-i)) (.int a) H Q := ⟨a, rfl, h⟩
theorem r_cb {r : List V → Hp → VK → Prop} (h : tA σ H fun vs H1 => r vs H1 Q) : tCB r tA σ H Q := h
theorem r_nil (h : QA [] H) : tNil σ H QA := h
theorem r_cons {tr : TA} (h : ta σ H fun x H1 => tr σ H1 fun xs H2 => QA (x :: xs) H2) : tCons ta tr σ H QA := h
theorem r_test (h : te σ H fun x H' => ∃ k, x = .bl k ∧ QB k H') : tTest te σ H QB := h
theorem r_B (h : te σ H fun x H' => ∃ k, x = .bl k ∧ QB k H') : tB te σ H QB := h
theorem r_bl {b : Bool} {q : Bool → Prop} (h : q b) : ∃ k, V.bl b = .bl k ∧ q k := ⟨b, rfl, h⟩
theorem r_not (h : tt σ H fun c H1 => QB (!c) H1) : tNot tt σ H QB := h
theorem r_eqI {a b : Int} (h : Q (.bl (decide (a = b))) H) : rEq (.int a) (.int b) H Q := ⟨rfl, by
  have e : decide (V.int a = V.int b) = decide (a = b) := decide_eq_decide.mpr ⟨V.int.inj, fun h => by rw [h]⟩
  rw [e]
  exact h⟩
theorem r_neI {a b : Int} (h : Q (.bl (!decide (a = b))) H) : rNe (.int a) (.int b) H Q := ⟨rfl, by
  have e : decide (V.int a = V.int b) = decide (a = b) := decide_eq_decide.mpr ⟨V.int.inj, fun h => by rw [h]⟩
  rw [e]
  exact h⟩
theorem r_call {sp : Sp} {dvs : List V} {E : XK} (h : tA σ H fun vs H1 => sp (vs ++ dvs) H1 Q E) : tCall sp dvs E tA σ H Q := h
theorem r_dget (h : ta σ H fun x H1 => tb σ H1 fun y H2 => ∃ a v, x = .ref a ∧ DGet H2 a y (some v) ∧ Q v H2) : tDGet ta tb σ H Q := h
theorem r_din (h : ta σ H fun y H1 => tb σ H1 fun x H2 => ∃ a o, x = .ref a ∧ DGet H2 a y o ∧ Q (.bl o.isSome) H2) : tDIn ta tb σ H Q := h
theorem r_dnotin (h : ta σ H fun y H1 => tb σ H1 fun x H2 => ∃ a o, x = .ref a ∧ DGet H2 a y o ∧ Q (.bl (!o.isSome)) H2) : tDNotIn ta tb σ H Q := h
theorem r_dput (h : tc σ H fun v H1 => ta σ H1 fun x H2 => tb σ H2 fun y H3 => ∃ a H4, x = .ref a ∧ DPut H3 a y v H4 ∧ D.nx σ H4) : sDPut ta tb tc D σ H := h
theorem r_ite (h : tt σ H fun c H1 => if c = true then ta σ H1 Q else tb σ H1 Q) : tIf tt ta tb σ H Q := h
theorem r_tup (h : tA σ H fun xs H1 => xs.length ≤ sizeLine ∧ ∀ p, H1 p = none → Q (.ref p) (upd H1 p (.tup xs))) : tTup tA σ H Q := h
theorem r_lst (h : tA σ H fun xs H1 => xs.length ≤ sizeLine ∧ ∀ p, H1 p = none → Q (.ref p) (upd H1 p (.lst xs))) : tLst tA σ H Q := h
theorem r_bm {K : PySem.W.Frag} {T : String} {r : V → List V → Hp → VK → Prop} (h : ta σ H fun x H1 => tyV K T x H1 ∧ tA σ H1 fun xs H2 => r x xs H2 Q) : tBM K T r ta tA σ H Q := h
theorem r_fld {K : PySem.W.Frag} {f : Str} (h : ta σ H fun x H1 => ∃ a C dx fs v, x = .ref a ∧ H1 a = some (.ins C dx fs) ∧ Cls K C ∧ NoAttr K C f ∧ fs.lookup f = some v ∧ Q v H1) : tFld K ta f σ H Q := h
theorem r_par (h : tA σ H fun vs H1 => ∃ v w, vs = [v, w] ∧ D.nx ((σ.set i (some v)).set j (some w)) H1) : tPar i j tA D σ H := h
theorem r_par2 {q : V → V → Prop} {a b : V} (h : q a b) : ∃ v w, [a, b] = [v, w] ∧ q v w := ⟨a, b, rfl, h⟩
theorem r_par3 (h : tA σ H fun vs H1 => ∃ u v w, vs = [u, v, w] ∧ D.nx (((σ.set i (some u)).set j (some v)).set l (some w)) H1) : tPar3 i j l tA D σ H := h
theorem r_par3' {q : V → V → V → Prop} {a b c : V} (h : q a b c) : ∃ u v w, [a, b, c] = [u, v, w] ∧ q u v w := ⟨a, b, c, rfl, h⟩
theorem r_andV (h : ta σ H fun x H1 => ∃ c, x = .bl c ∧ if c = true then tb σ H1 Q else Q (.bl false) H1) : tAndV ta tb σ H Q := h
theorem r_orV (h : ta σ H fun x H1 => ∃ c, x = .bl c ∧ if c = true then Q (.bl true) H1 else tb σ H1 Q) : tOrV ta tb σ H Q := h
theorem r_notV (h : ta σ H fun x H1 => ∃ c, x = .bl c ∧ Q (.bl (!c)) H1) : tNotV ta σ H Q := h
theorem r_and {uu : TT} (h : tt σ H fun c H1 => if c = true then uu σ H1 QB else QB false H1) : tAnd tt uu σ H QB := h
theorem r_or {uu : TT} (h : tt σ H fun c H1 => if c = true then QB true H1 else uu σ H1 QB) : tOr tt uu σ H QB := h
theorem r_rng1 {R : It → Hp → Prop} (h : tA σ H fun vs H1 => ∃ j : Int, vs = [.int j] ∧ -(2 ^ 62) ≤ j ∧ j < 2 ^ 62 ∧ R (Itr 0 j.toNat) H1) : iRng1 tA σ H R := h
theorem r_rng1' {a : Int} {R : It → Prop} (h1 : -(2 ^ 62) ≤ a ∧ a < 2 ^ 62) (h : R (Itr 0 a.toNat)) : ∃ j : Int, [V.int a] = [.int j] ∧ -(2 ^ 62) ≤ j ∧ j < 2 ^ 62 ∧ R (Itr 0 j.toNat) := ⟨a, rfl, h1.1, h1.2, h⟩
theorem r_aug {ti : TIp} (h : tVar i σ H fun x _ => te σ H fun y H1 => ti x y H1 fun z H2 => D.nx (σ.set i (some z)) H2) : tAug i te ti D σ H := let ⟨x, e, h⟩ := h; ⟨x, e, h⟩
theorem r_lc {wi : TI} {vs : List Nat} (h : wi σ H fun J H1 => ∀ D, H1 D = none → ∃ W : Nat → Nat → Hp → Prop, (∃ m, W 0 m (upd H1 D (.lst []))) ∧ ∀ i m H, W i m H → (J.stop i H ∧ Q (.ref D) H) ∨ (J.go i H ∧ ∃ Nx : Hp → Prop, (∀ H', Nx H' → ∃ m', m' < m ∧ W (i + 1) m' H') ∧ ∀ x H', J.yld i H x H' → g x (wipe σ vs) H' fun σ2 H2 => wipe σ2 vs = wipe σ vs ∧ tt σ2 H2 fun b H3 => if b = true then te σ2 H3 fun y H4 => ∃ acc, H4 D = some (.lst acc) ∧ acc.length < sizeLine ∧ Nx (upd H4 D (.lst (acc ++ [y]))) else Nx H3)) : tLc wi g tt te vs σ H Q := h
theorem r_iL {K : PySem.W.Frag} {R : It → Hp → Prop} (h : te σ H fun x H1 => ∃ a, x = .ref a ∧ (∃ xs, SqL K H1 a xs) ∧ R (Itl K a) H1) : iList K te σ H R := h
theorem r_for {wi : TI} (h : wi σ H fun J H1 => ∃ W : Nat → Nat → L2.St → Hp → Prop, (∃ m, W 0 m σ H1) ∧ ∀ i m σ H, W i m σ H →
  (J.stop i H ∧ D.nx σ H) ∨ (J.go i H ∧ ∃ N : L2.St → Hp → Prop, (∀ σ' H', N σ' H' → ∃ m', m' < m ∧ W (i + 1) m' σ' H') ∧ ∀ x H', J.yld i H x H' → g x σ H' fun σ2 H2 => t { D with nx := N, ct := N, bk := D.nx } σ2 H2)) : tFor wi g t D σ H := h
theorem r_tYes (h : QB true H) : tYes σ H QB := h
theorem r_true {A B : Prop} (h : A) : if true = true then A else B := by rw [if_pos rfl]; exact h
theorem r_false {A B : Prop} (h : B) : if false = true then A else B := iteF h
theorem r_dec {c A B : Prop} [Decidable c] (h1 : c → A) (h2 : ¬ c → B) : if decide c = true then A else B := by
  by_cases h : c
  · rw [decide_eq_true h]; exact iteT (h1 h)
  · rw [decide_eq_false h]; exact iteF (h2 h)
theorem r_ndec {c A B : Prop} [Decidable c] (h1 : ¬ c → A) (h2 : c → B) : if (!decide c) = true then A else B := by
  by_cases h : c
  · rw [decide_eq_true h]; exact iteF (h2 h)
  · rw [decide_eq_false h]; exact iteT (h1 h)
theorem r_decT {c A B : Prop} [Decidable c] (h : c) (h1 : A) : if decide c = true then A else B := r_dec (fun _ => h1) fun q => absurd h q
theorem r_decF {c A B : Prop} [Decidable c] (h : ¬ c) (h1 : B) : if decide c = true then A else B := r_dec (fun q => absurd q h) fun _ => h1
end
end RS
namespace RS
open PySem PySem.Spec PyProof.Rows L2
/-- the turns below n that pass a test -/
def tk (n : Nat) (f : Nat → Bool) : List Nat := (List.range n).filter f
theorem tk_all (n : Nat) : tk n (fun _ => true) = List.range n := List.filter_eq_self.mpr fun _ _ => rfl
theorem tk_yes {n : Nat} {f : Nat → Bool} (h : f n = true) : tk (n + 1) f = tk n f ++ [n] := by
  unfold tk
  rw [List.range_succ, List.filter_append, List.filter_cons, if_pos h]
  rfl
theorem tk_no {n : Nat} {f : Nat → Bool} (h : f n = false) : tk (n + 1) f = tk n f := by
  unfold tk
  rw [List.range_succ, List.filter_append, List.filter_cons, if_neg (by rw [h]; decide)]
  show _ ++ [] = _
  rw [List.append_nil]
theorem tk_len (n : Nat) (f : Nat → Bool) : (tk n f).length ≤ n := by
  have h := List.length_filter_le f (List.range n)
  rw [List.length_range] at h
  exact h
/-- what the turns of idx have made -/
structure Mad (R : Nat → V → Hp → Prop) (idx : List Nat) (ys : List V) (H : Hp) : Prop where
  len : ys.length = idx.length
  at_ : ∀ (j : Nat) (i : Nat) (y : V), idx[j]? = some i → ys[j]? = some y → R i y H
theorem Mad.mono {R : Nat → V → Hp → Prop} (mono : ∀ i y H H', Same H H' → R i y H → R i y H') {idx : List Nat} {ys : List V} {H H' : Hp} (e : Same H H') (m : Mad R idx ys H) : Mad R idx ys H' :=
  ⟨m.len, fun j i y h1 h2 => mono i y H H' e (m.at_ j i y h1 h2)⟩
theorem Mad.snoc {R : Nat → V → Hp → Prop} {idx : List Nat} {ys : List V} {H : Hp} {i : Nat} {y : V} (m : Mad R idx ys H) (h : R i y H) : Mad R (idx ++ [i]) (ys ++ [y]) H := by
  refine ⟨by rw [List.length_append, List.length_append, m.len]; rfl, fun j a b h1 h2 => ?_⟩
  by_cases q : j < idx.length
  · rw [List.getElem?_append_left q] at h1
    rw [List.getElem?_append_left (by rw [m.len]; exact q)] at h2
    exact m.at_ j a b h1 h2
  · rw [List.getElem?_append_right (by omega)] at h1
    rw [List.getElem?_append_right (by rw [m.len]; omega)] at h2
    have h3 : j - idx.length = 0 := by
      have := (List.getElem?_eq_some_iff.mp h1).1
      simp at this
      omega
    rw [h3] at h1
    rw [m.len, h3] at h2
    cases h1
    cases h2
    exact h
/-- the heap without what stands at d -/
def hide (d : Addr) (H : Hp) : Hp := fun b => if b = d then none else H b
theorem hide_ne {d b : Addr} {H : Hp} (h : b ≠ d) : hide d H b = H b := if_neg h
theorem hide_upd {d : Addr} {H : Hp} {o : HO} : hide d (upd H d o) = hide d H := funext fun b => by
  unfold hide
  by_cases e : b = d
  · rw [if_pos e, if_pos e]
  · rw [if_neg e, if_neg e, upd_ne e]
theorem hide_same {d : Addr} {H H' : Hp} (e : Same H H') : Same (hide d H) (hide d H') := fun b o h => by
  unfold hide at h ⊢
  by_cases q : b = d
  · rw [if_pos q] at h
    cases h
  · rw [if_neg q] at h ⊢
    exact e b o h
theorem hide_le {d : Addr} {H : Hp} : Same (hide d H) H := fun b o h => by
  unfold hide at h
  by_cases q : b = d
  · rw [if_pos q] at h
    cases h
  · rw [if_neg q] at h
    exact h
theorem hide_base {d : Addr} {Hb H : Hp} (h : Hb d = none) (e : Same Hb H) : Same Hb (hide d H) := fun b o hb => by
  rw [hide_ne (ne_of_none hb h)]
  exact e b o hb
/-- a new object is none of those that stood -/
theorem ne_new {H : Hp} {a d : Addr} (h : H a = none) (hd : H d ≠ none) : a ≠ d := fun e => hd (e ▸ h)
/-- a comprehension: what each turn makes, told by R -/
theorem lc_rel {J : It} {n : Nat} {G : Hp → Prop} {Y : Nat → Hp → V → Hp → Prop} (w : Walk J n G Y) {g : TG} {tt : TT} {te : TE} {vs : List Nat} {σ : L2.St} {Hb : Hp} {Q : Addr → Hp → Prop} (f : Nat → Bool) (R : Nat → V → Hp → Prop)
    (mono : ∀ i y H H', Same H H' → R i y H → R i y H') (hG : ∀ H, Same Hb H → G H) (hn : n ≤ 100000)
    (hs : ∀ i x H H' (kY : V → Hp → Prop) (kN : Hp → Prop), i < n → Same Hb H → Y i H x H' → (∀ y H4, f i = true → Same H H4 → (∀ d, Hb d = none → H d ≠ none → R i y (hide d H4)) → kY y H4) → (∀ H4, f i = false → Same H H4 → kN H4) →
      g x (wipe σ vs) H' fun σ2 H2 => wipe σ2 vs = wipe σ vs ∧ tt σ2 H2 fun b H3 => if b = true then te σ2 H3 kY else kN H3)
    (hq : ∀ D H' ys, Hb D = none → Same Hb H' → H' D = some (.lst ys) → Mad R (tk n f) ys H' → Q D H') :
    ∀ D, Hb D = none → ∃ W : Nat → Nat → Hp → Prop, (∃ m, W 0 m (upd Hb D (.lst []))) ∧ ∀ i m H, W i m H →
      (J.stop i H ∧ Q D H) ∨ (J.go i H ∧ ∃ Nx : Hp → Prop, (∀ H', Nx H' → ∃ m', m' < m ∧ W (i + 1) m' H') ∧ ∀ x H', J.yld i H x H' → g x (wipe σ vs) H' fun σ2 H2 => wipe σ2 vs = wipe σ vs ∧ tt σ2 H2 fun b H3 =>
        if b = true then te σ2 H3 fun y H4 => ∃ acc, H4 D = some (.lst acc) ∧ acc.length < sizeLine ∧ Nx (upd H4 D (.lst (acc ++ [y]))) else Nx H3) := fun D hD =>
  lc_it w (Qd := fun H => Q D H) (fun i H => Same Hb H ∧ ∃ ys, H D = some (.lst ys) ∧ Mad R (tk i f) ys (hide D H))
    ⟨Same.new hD, [], upd_same, rfl, fun j i y h1 _ => by simp [tk] at h1⟩ (fun i H _ h => hG H h.1)
    (fun i x H H' hi ⟨e, ys, hy, m⟩ y => by
      have hDn : H D ≠ none := by rw [hy]; exact fun z => nomatch z
      refine hs i x H H' _ _ hi e y (fun z H4 hf e4 r4 => ?_) (fun H4 hf e4 => ?_)
      · refine ⟨ys, e4 D _ hy, ?_, Same.mut (Same.trans e e4) hD, _, upd_same, ?_⟩
        · have := m.len
          have := tk_len i f
          have : (100000 : Nat) < sizeLine := by decide
          omega
        · rw [tk_yes hf, hide_upd]
          exact (m.mono mono (hide_same e4)).snoc (r4 D hD hDn)
      · refine ⟨Same.trans e e4, ys, e4 D _ hy, ?_⟩
        rw [tk_no hf]
        exact m.mono mono (hide_same e4))
    (fun H ⟨e, ys, hy, m⟩ => hq D H ys hD e hy (m.mono mono hide_le))
/-- .. and what is made is not the list itself -/
theorem lc_relH {J : It} {n : Nat} {G : Hp → Prop} {Y : Nat → Hp → V → Hp → Prop} (w : Walk J n G Y) {g : TG} {tt : TT} {te : TE} {vs : List Nat} {σ : L2.St} {Hb : Hp} {Q : Addr → Hp → Prop} (f : Nat → Bool) (R : Nat → V → Hp → Prop)
    (mono : ∀ i y H H', Same H H' → R i y H → R i y H') (hG : ∀ H, Same Hb H → G H) (hn : n ≤ 100000)
    (hs : ∀ i x H H' (kY : V → Hp → Prop) (kN : Hp → Prop), i < n → Same Hb H → Y i H x H' → (∀ y H4, f i = true → Same H H4 → (∀ d, Hb d = none → H d ≠ none → R i y (hide d H4)) → kY y H4) → (∀ H4, f i = false → Same H H4 → kN H4) →
      g x (wipe σ vs) H' fun σ2 H2 => wipe σ2 vs = wipe σ vs ∧ tt σ2 H2 fun b H3 => if b = true then te σ2 H3 kY else kN H3)
    (hq : ∀ D H' ys, Hb D = none → Same Hb H' → H' D = some (.lst ys) → Mad R (tk n f) ys (hide D H') → Q D H') :
    ∀ D, Hb D = none → ∃ W : Nat → Nat → Hp → Prop, (∃ m, W 0 m (upd Hb D (.lst []))) ∧ ∀ i m H, W i m H →
      (J.stop i H ∧ Q D H) ∨ (J.go i H ∧ ∃ Nx : Hp → Prop, (∀ H', Nx H' → ∃ m', m' < m ∧ W (i + 1) m' H') ∧ ∀ x H', J.yld i H x H' → g x (wipe σ vs) H' fun σ2 H2 => wipe σ2 vs = wipe σ vs ∧ tt σ2 H2 fun b H3 =>
        if b = true then te σ2 H3 fun y H4 => ∃ acc, H4 D = some (.lst acc) ∧ acc.length < sizeLine ∧ Nx (upd H4 D (.lst (acc ++ [y]))) else Nx H3) := fun D hD =>
  lc_it w (Qd := fun H => Q D H) (fun i H => Same Hb H ∧ ∃ ys, H D = some (.lst ys) ∧ Mad R (tk i f) ys (hide D H))
    ⟨Same.new hD, [], upd_same, rfl, fun j i y h1 _ => by simp [tk] at h1⟩ (fun i H _ h => hG H h.1)
    (fun i x H H' hi ⟨e, ys, hy, m⟩ y => by
      have hDn : H D ≠ none := by rw [hy]; exact fun z => nomatch z
      refine hs i x H H' _ _ hi e y (fun z H4 hf e4 r4 => ?_) (fun H4 hf e4 => ?_)
      · refine ⟨ys, e4 D _ hy, ?_, Same.mut (Same.trans e e4) hD, _, upd_same, ?_⟩
        · have := m.len
          have := tk_len i f
          have : (100000 : Nat) < sizeLine := by decide
          omega
        · rw [tk_yes hf, hide_upd]
          exact (m.mono mono (hide_same e4)).snoc (r4 D hD hDn)
      · refine ⟨Same.trans e e4, ys, e4 D _ hy, ?_⟩
        rw [tk_no hf]
        exact m.mono mono (hide_same e4))
    (fun H ⟨e, ys, hy, m⟩ => hq D H ys hD e hy m)
end RS
namespace RS
open PySem PySem.Spec PyProof.Rows L2
/-- what is told of values by a heap; it stands when the heap grows -/
class Mon {α : Type} (R : α → V → Hp → Prop) : Prop where
  mono : ∀ {f : α} {y : V} {H H' : Hp}, Same H H' → R f y H → R f y H'
/-- one by one -/
structure Each {α : Type} (R : α → V → Hp → Prop) (fs : List α) (ys : List V) (H : Hp) : Prop where
  len : ys.length = fs.length
  at_ : ∀ (i : Nat) (f : α) (y : V), fs[i]? = some f → ys[i]? = some y → R f y H
section
variable {α β : Type} {R : α → V → Hp → Prop} {fs gs : List α} {ys zs : List V} {H H' : Hp}
theorem Each.mono [Mon R] (e : Same H H') (h : Each R fs ys H) : Each R fs ys H' := ⟨h.len, fun i f y h1 h2 => Mon.mono e (h.at_ i f y h1 h2)⟩
theorem Each.nil : Each R [] [] H := ⟨rfl, fun i f y h _ => by simp at h⟩
theorem Each.get (h : Each R fs ys H) {i : Nat} {f : α} (hf : fs[i]? = some f) : ∃ y, ys[i]? = some y ∧ R f y H := by
  have hi : i < ys.length := by rw [h.len]; exact (List.getElem?_eq_some_iff.mp hf).1
  exact ⟨ys[i], List.getElem?_eq_getElem hi, h.at_ i f _ hf (List.getElem?_eq_getElem hi)⟩
theorem Each.yet (h : Each R fs ys H) {i : Nat} {y : V} (hy : ys[i]? = some y) : ∃ f, fs[i]? = some f ∧ R f y H := by
  have hi : i < fs.length := by rw [← h.len]; exact (List.getElem?_eq_some_iff.mp hy).1
  exact ⟨fs[i], List.getElem?_eq_getElem hi, h.at_ i _ y (List.getElem?_eq_getElem hi) hy⟩
theorem Each.append (h : Each R fs ys H) (h' : Each R gs zs H) : Each R (fs ++ gs) (ys ++ zs) H := by
  refine ⟨by rw [List.length_append, List.length_append, h.len, h'.len], fun i f y h1 h2 => ?_⟩
  by_cases q : i < fs.length
  · rw [List.getElem?_append_left q] at h1
    rw [List.getElem?_append_left (by rw [h.len]; exact q)] at h2
    exact h.at_ i f y h1 h2
  · rw [List.getElem?_append_right (by omega)] at h1
    rw [List.getElem?_append_right (by rw [h.len]; omega), h.len] at h2
    exact h'.at_ _ f y h1 h2
theorem Each.one {f : α} {y : V} (h : R f y H) : Each R [f] [y] H := ⟨rfl, fun i a b h1 h2 => by
  cases i with
  | zero => cases h1; cases h2; exact h
  | succ i => simp at h1⟩
theorem Each.snoc {f : α} {y : V} (h : Each R fs ys H) (r : R f y H) : Each R (fs ++ [f]) (ys ++ [y]) H := h.append (Each.one r)
theorem Each.cons {f : α} {y : V} (h : Each R fs ys H) (r : R f y H) : Each R (f :: fs) (y :: ys) H := (Each.one r).append h
theorem Each.imp {S : β → V → Hp → Prop} {g : α → β} (h : Each R fs ys H) (k : ∀ f ∈ fs, ∀ y, R f y H → S (g f) y H) : Each S (fs.map g) ys H := ⟨by rw [h.len, List.length_map], fun i b y h1 h2 => by
  rw [List.getElem?_map] at h1
  obtain ⟨f, hf, r⟩ := h.yet h2
  rw [hf] at h1
  cases h1
  exact k f (List.mem_of_getElem? hf) y r⟩
theorem Each.conv {S : α → V → Hp → Prop} {Hx : Hp} (h : Each R fs ys H) (k : ∀ f ∈ fs, ∀ y, R f y H → S f y Hx) : Each S fs ys Hx := ⟨h.len, fun i f y h1 h2 => k f (List.mem_of_getElem? h1) y (h.at_ i f y h1 h2)⟩
theorem Mad.each {S : Nat → V → Hp → Prop} {g : Nat → α} {idx : List Nat} {Hx : Hp} (m : Mad S idx ys H) (k : ∀ i ∈ idx, ∀ y, S i y H → R (g i) y Hx) : Each R (idx.map g) ys Hx := ⟨by rw [m.len, List.length_map], fun j f y h1 h2 => by
  rw [List.getElem?_map] at h1
  have hi : j < idx.length := by rw [← m.len]; exact (List.getElem?_eq_some_iff.mp h2).1
  rw [List.getElem?_eq_getElem hi] at h1
  cases h1
  exact k _ (List.getElem_mem hi) y (m.at_ j _ y (List.getElem?_eq_getElem hi) h2)⟩
/-- the list made of f's turns -/
theorem map_range_get (fs : List α) (d : α) : (List.range fs.length).map (fun i => fs.getD i d) = fs := by
  refine List.ext_getElem? fun i => ?_
  rw [List.getElem?_map]
  by_cases q : i < fs.length
  · rw [List.getElem?_range q, List.getElem?_eq_getElem q]
    show some (fs.getD i d) = _
    rw [List.getD_eq_getElem?_getD, List.getElem?_eq_getElem q]
    rfl
  · rw [List.getElem?_eq_none (by simp; omega), List.getElem?_eq_none (by omega)]
    rfl
theorem getD_some {d : α} {i : Nat} {f : α} (h : fs[i]? = some f) : fs.getD i d = f := by
  rw [List.getD_eq_getElem?_getD, h]
  rfl
end
/-! ### kinds of values -/
def IntV (i : Int) (y : V) (_ : Hp) : Prop := y = .int i
instance : Mon IntV := ⟨fun _ h => h⟩
def RefTo {α : Type} (R : α → HO → Hp → Prop) (f : α) (y : V) (H : Hp) : Prop := ∃ b u, y = .ref b ∧ H b = some u ∧ R f u H
def LstOf {α : Type} (R : α → V → Hp → Prop) (fs : List α) (y : V) (H : Hp) : Prop := ∃ b ys, y = .ref b ∧ H b = some (.lst ys) ∧ Each R fs ys H
def TupOf {α : Type} (R : α → V → Hp → Prop) (fs : List α) (y : V) (H : Hp) : Prop := ∃ b ys, y = .ref b ∧ H b = some (.tup ys) ∧ Each R fs ys H
def SeqOf {α : Type} (R : α → V → Hp → Prop) (fs : List α) (y : V) (H : Hp) : Prop := LstOf R fs y H ∨ TupOf R fs y H
instance {α : Type} {R : α → V → Hp → Prop} [Mon R] : Mon (LstOf R) := ⟨fun e ⟨b, ys, h1, h2, h3⟩ => ⟨b, ys, h1, e b _ h2, h3.mono e⟩⟩
instance {α : Type} {R : α → V → Hp → Prop} [Mon R] : Mon (TupOf R) := ⟨fun e ⟨b, ys, h1, h2, h3⟩ => ⟨b, ys, h1, e b _ h2, h3.mono e⟩⟩
instance {α : Type} {R : α → V → Hp → Prop} [Mon R] : Mon (SeqOf R) := ⟨fun e h => h.elim (fun h => .inl (Mon.mono e h)) fun h => .inr (Mon.mono e h)⟩
section
variable {p : Nat} [Pr p]
/-- a new dict of the numbers of f -/
def RowV (f : Vec p) (y : V) (H : Hp) : Prop := ∃ b, y = .ref b ∧ RowX H b f
instance : Mon (RowV (p := p)) := ⟨fun e ⟨b, h1, h2⟩ => ⟨b, h1, h2.same e⟩⟩
/-- the first n numbers of f, as ints -/
def rowI (n : Nat) (f : Vec p) : List Int := (List.range n).map fun k => iv (f k)
theorem rowI_len (n : Nat) (f : Vec p) : (rowI n f).length = n := by unfold rowI; rw [List.length_map, List.length_range]
def vecI (ns : List Int) : Vec p := fun k => md (ns.getD k 0)
theorem vecI_bd (ns : List Int) : Bd (vecI (p := p) ns) ns.length := fun k hk => by
  unfold vecI
  rw [List.getD_eq_getElem?_getD, List.getElem?_eq_none hk]
  exact md_zero
theorem vecI_rowI {n : Nat} {f : Vec p} (h : Bd f n) : vecI (rowI n f) = f := funext fun k => by
  unfold vecI rowI
  by_cases q : k < n
  · rw [List.getD_eq_getElem?_getD, List.getElem?_map, List.getElem?_range q]
    exact md_iv _
  · rw [List.getD_eq_getElem?_getD, List.getElem?_eq_none (by simp; omega), h k (by omega)]
    exact md_zero
end
theorem each_int {ns : List Int} {ys : List V} {H : Hp} (h : Each IntV ns ys H) : ys = ns.map V.int := by
  refine List.ext_getElem? fun j => ?_
  rw [List.getElem?_map]
  by_cases q : j < ns.length
  · obtain ⟨y, hy, r⟩ := h.get (List.getElem?_eq_getElem q)
    rw [hy, List.getElem?_eq_getElem q]
    exact congrArg some r
  · rw [List.getElem?_eq_none (by rw [h.len]; omega), List.getElem?_eq_none (by omega)]
    rfl
theorem int_each {ns : List Int} {H : Hp} : Each IntV ns (ns.map V.int) H := ⟨by rw [List.length_map], fun i f y h1 h2 => by
  rw [List.getElem?_map, h1] at h2
  cases h2
  rfl⟩
/-! ### dicts with int keys -/
structure DicK {α : Type} (R : α → V → Hp → Prop) (l : List (Nat × α)) (kvs : List (Key × V)) (H : Hp) : Prop where
  len : kvs.length = l.length
  at_ : ∀ (i : Nat) (e : Nat × α) (kv : Key × V), l[i]? = some e → kvs[i]? = some kv → kv.1 = Sum.inl (e.1 : Int) ∧ R e.2 kv.2 H
section
variable {α : Type} {R : α → V → Hp → Prop} {l : List (Nat × α)} {kvs : List (Key × V)} {H H' : Hp}
theorem DicK.mono [Mon R] (e : Same H H') (h : DicK R l kvs H) : DicK R l kvs H' := ⟨h.len, fun i f y h1 h2 => ⟨(h.at_ i f y h1 h2).1, Mon.mono e (h.at_ i f y h1 h2).2⟩⟩
theorem DicK.nil : DicK R [] [] H := ⟨rfl, fun i f y h _ => by simp at h⟩
theorem DicK.tail {e : Nat × α} {kv : Key × V} (h : DicK R (e :: l) (kv :: kvs) H) : DicK R l kvs H := ⟨by have := h.len; simpa using this, fun i f y h1 h2 => h.at_ (i + 1) f y h1 h2⟩
theorem DicK.keys : ∀ {l : List (Nat × α)} {kvs : List (Key × V)}, DicK R l kvs H → kvs.map (·.1) = l.map fun e => (Sum.inl (e.1 : Int) : Key)
  | [], [], _ => rfl
  | [], _ :: _, h => by have := h.len; simp at this
  | _ :: _, [], h => by have := h.len; simp at this
  | e :: l, kv :: kvs, h => by
    rw [List.map_cons, List.map_cons, h.tail.keys, (h.at_ 0 e kv rfl rfl).1]
theorem DicK.none : ∀ {l : List (Nat × α)} {kvs : List (Key × V)}, DicK R l kvs H → ∀ {k : Nat}, (∀ e ∈ l, e.1 ≠ k) → valV kvs (Sum.inl (k : Int) : Key) = Option.none
  | [], [], _, _, _ => rfl
  | [], _ :: _, h, _, _ => by have := h.len; simp at this
  | _ :: _, [], h, _, _ => by have := h.len; simp at this
  | e :: l, kv :: kvs, h, k, hk => by
    rw [valV_neg, h.tail.none fun e he => hk e (List.mem_cons_of_mem _ he)]
    rw [(h.at_ 0 e kv rfl rfl).1]
    exact fun q => hk e List.mem_cons_self (key_inj.mp q)
theorem DicK.get : ∀ {l : List (Nat × α)} {kvs : List (Key × V)}, DicK R l kvs H → (l.map (·.1)).Nodup → ∀ {k : Nat} {f : α}, (k, f) ∈ l → ∃ v, valV kvs (Sum.inl (k : Int) : Key) = some v ∧ R f v H
  | [], _, _, _, _, _, m => by cases m
  | _ :: _, [], h, _, _, _, _ => by have := h.len; simp at this
  | e :: l, kv :: kvs, h, hn, k, f, m => by
    rw [List.map_cons, List.nodup_cons] at hn
    have h0 := h.at_ 0 e kv rfl rfl
    rcases List.mem_cons.mp m with q | q
    · subst q
      exact ⟨kv.2, valV_pos h0.1, h0.2⟩
    · obtain ⟨v, h1, h2⟩ := h.tail.get hn.2 q
      refine ⟨v, ?_, h2⟩
      rw [valV_neg, h1]
      rw [h0.1]
      intro z
      have z2 := key_inj.mp z
      exact hn.1 (z2 ▸ List.mem_map.mpr ⟨_, q, rfl⟩)
theorem DicK.snoc {k : Nat} {f : α} {v : V} (h : DicK R l kvs H) (hk : ∀ e ∈ l, e.1 ≠ k) (r : R f v H) : DicK R (l ++ [(k, f)]) (putK kvs (Sum.inl (k : Int)) v) H := by
  rw [putK_new _ (h.none hk)]
  refine ⟨by rw [List.length_append, List.length_append, h.len]; rfl, fun i e kv h1 h2 => ?_⟩
  by_cases q : i < l.length
  · rw [List.getElem?_append_left q] at h1
    rw [List.getElem?_append_left (by rw [h.len]; exact q)] at h2
    exact h.at_ i e kv h1 h2
  · rw [List.getElem?_append_right (by omega)] at h1
    rw [List.getElem?_append_right (by rw [h.len]; omega), h.len] at h2
    have h3 : i - l.length = 0 := by
      have := (List.getElem?_eq_some_iff.mp h1).1
      simp at this
      omega
    rw [h3] at h1 h2
    cases h1
    cases h2
    exact ⟨rfl, r⟩
/-- the value at a key anew -/
theorem DicK.set {k : Nat} {f : α} {v : V} (h : DicK R l kvs H) (hk : ∃ e ∈ l, e.1 = k) (r : R f v H) : DicK R (l.map fun e => if e.1 = k then (e.1, f) else e) (putK kvs (Sum.inl (k : Int)) v) H := by
  have ha : (kvs.any fun kv => decide (kv.1 = (Sum.inl (k : Int) : Key))) = true := by
    obtain ⟨e, he, hek⟩ := hk
    obtain ⟨i, hi, e1⟩ := List.getElem_of_mem he
    have hi2 : i < kvs.length := by rw [h.len]; exact hi
    refine List.any_eq_true.mpr ⟨kvs[i], List.getElem_mem hi2, decide_eq_true ?_⟩
    rw [(h.at_ i e kvs[i] (by rw [List.getElem?_eq_getElem hi, e1]) (List.getElem?_eq_getElem hi2)).1, hek]
  unfold putK
  rw [if_pos ha]
  refine ⟨by rw [List.length_map, List.length_map, h.len], fun i e kv h1 h2 => ?_⟩
  rw [List.getElem?_map] at h1 h2
  cases hl : l[i]? with
  | none => rw [hl] at h1; cases h1
  | some e0 =>
    cases hv : kvs[i]? with
    | none => rw [hv] at h2; cases h2
    | some kv0 =>
      rw [hl] at h1
      rw [hv] at h2
      cases h1
      cases h2
      obtain ⟨q1, q2⟩ := h.at_ i e0 kv0 hl hv
      by_cases z : e0.1 = k
      · have z2 : kv0.1 = (Sum.inl (k : Int) : Key) := by rw [q1, z]
        dsimp only
        rw [if_pos z, if_pos z2]
        exact ⟨q1, r⟩
      · have z2 : ¬ kv0.1 = (Sum.inl (k : Int) : Key) := by rw [q1]; exact fun w => z (key_inj.mp w)
        dsimp only
        rw [if_neg z, if_neg z2]
        exact ⟨q1, q2⟩
end
/-! ### dict of a list of pairs -/
def PairV (kv : Nat × V) (y : V) (H : Hp) : Prop := ∃ b, y = .ref b ∧ H b = some (.tup [.int (kv.1 : Int), kv.2])
instance : Mon PairV := ⟨fun e ⟨b, h1, h2⟩ => ⟨b, h1, e b _ h2⟩⟩
theorem paired_of {K : PySem.W.Frag} {H : Hp} : ∀ {l : List (Nat × V)} {ys : List V}, Each PairV l ys H → ∃ ps : List Addr, ys = ps.map V.ref ∧ Paired (fun q (kv : Key × V) => SqT K H q [kV kv.1, kv.2]) ps (l.map fun e => (Sum.inl (e.1 : Int), e.2))
  | [], [], _ => ⟨[], rfl, .nil⟩
  | [], _ :: _, h => by have := h.len; simp at this
  | _ :: _, [], h => by have := h.len; simp at this
  | e :: l, y :: ys, h => by
    have ht : Each PairV l ys H := ⟨by have := h.len; simpa using this, fun i f z h1 h2 => h.at_ (i + 1) f z h1 h2⟩
    obtain ⟨ps, rfl, hp⟩ := paired_of (K := K) ht
    obtain ⟨b, rfl, hb⟩ := h.at_ 0 e y rfl rfl
    exact ⟨b :: ps, rfl, .cons (.inl (.inl hb)) hp⟩
theorem putK_fresh {kvs : List (Key × V)} {k : Key} {v : V} (h : ∀ kv ∈ kvs, kv.1 ≠ k) : putK kvs k v = kvs ++ [(k, v)] := by
  unfold putK
  rw [if_neg]
  intro q
  obtain ⟨kv, h1, h2⟩ := List.any_eq_true.mp q
  exact h kv h1 (of_decide_eq_true h2)
theorem merge_nd : ∀ (more kvs : List (Key × V)), ((kvs ++ more).map (·.1)).Nodup → mergeK kvs more = kvs ++ more
  | [], kvs, _ => (List.append_nil _).symm
  | kv :: r, kvs, h => by
    have e : kvs ++ kv :: r = (kvs ++ [(kv.1, kv.2)]) ++ r := by simp
    show mergeK (putK kvs kv.1 kv.2) r = _
    rw [putK_fresh fun x hx q => ?_, merge_nd r _ (by rw [← e]; exact h), e]
    rw [List.map_append, List.map_cons] at h
    have := (List.nodup_append.mp h).2.2 x.1 (List.mem_map.mpr ⟨x, hx, rfl⟩) kv.1 List.mem_cons_self
    exact this q
theorem merge_keys {l : List (Nat × V)} (h : (l.map (·.1)).Nodup) : mergeK [] (l.map fun e => ((Sum.inl (e.1 : Int) : Key), e.2)) = l.map fun e => (Sum.inl (e.1 : Int), e.2) := by
  rw [merge_nd]
  · rfl
  · rw [List.nil_append, List.map_map]
    have : (fun e : Key × V => e.1) ∘ (fun e : Nat × V => ((Sum.inl (e.1 : Int) : Key), e.2)) = (fun k : Nat => (Sum.inl (k : Int) : Key)) ∘ fun e => e.1 := rfl
    rw [this, ← List.map_map]
    exact List.Pairwise.map _ (fun a b hab q => hab (key_inj.mp q)) h
/-- the dict of a comprehension of pairs -/
theorem dict_pairs {K : PySem.W.Frag} {H : Hp} {l : List (Nat × V)} {ys : List V} (hy : Each PairV l ys H) (hn : (l.map (·.1)).Nodup) {D : Addr} (hD : H D = some (.lst ys)) {Q : VK}
    (q : ∀ a, H a = none → Q (.ref a) (upd H a (.dK (l.map fun e => (Sum.inl (e.1 : Int), e.2))))) :
    ∃ (a : Addr) (ps : List Addr) (kvs : List (Key × V)), [V.ref D] = [.ref a] ∧ SqL K H a (ps.map V.ref) ∧ Paired (fun p kv => SqT K H p [kV kv.1, kv.2]) ps kvs ∧ ∀ p, H p = none → Q (.ref p) (upd H p (.dK (mergeK [] kvs))) := by
  obtain ⟨ps, rfl, hp⟩ := paired_of (K := K) hy
  refine ⟨D, ps, _, rfl, .inl (.inl hD), hp, fun a ha => ?_⟩
  rw [merge_keys hn]
  exact q a ha
section
variable {p : Nat} [Pr p]
theorem spK_of {l : List (Nat × V)} {f : Vec p} (hn : (l.map (·.1)).Nodup) (hv : ∀ e ∈ l, e.2 = .int (iv (f e.1))) (hk : ∀ k, f k ≠ 0 ↔ k ∈ l.map (·.1)) : SpK (l.map fun e => (Sum.inl (e.1 : Int), e.2)) f := by
  refine ⟨l.map (·.1), hn, ?_, fun k => (hk k).symm⟩
  rw [List.map_map]
  refine List.map_congr_left fun e he => ?_
  show _ = (Sum.inl (e.1 : Int), V.int (iv (f e.1)))
  rw [hv e he]
end
end RS
namespace RS
open PySem PySem.Spec PyProof.Rows L2
section
variable {K : PySem.W.Frag} {σ : L2.St} {H0 H : Hp} {α β : Type} {R : α → V → Hp → Prop} {S : β → V → Hp → Prop} {fs : List α} {gs : List β} {y z : V} {W : It → Hp → Prop} {ta : TA} {te : TE}
theorem sameL {b : Addr} {ys : List V} (h : H b = some (.lst ys)) : ∀ H', Same H H' → SqL K H' b ys := fun H' e => .inl (.inl (e b _ h))
theorem sameT {b : Addr} {ys : List V} (h : H b = some (.tup ys)) : ∀ H', Same H H' → SqT K H' b ys := fun H' e => .inl (.inl (e b _ h))
theorem r_enumL (h : LstOf R fs y H0) (e0 : Same H0 H) (ht : ∀ QA : List V → Hp → Prop, QA [y] H → ta σ H QA) (hR : ∀ J ys, Each R fs ys H0 → Walk J fs.length (fun H' => Same H0 H') (YPair (fun i => some (.int (i : Nat))) (fun i => ys[i]?)) → W J H) : iEnum K ta σ H W := by
  obtain ⟨b, ys, rfl, hb, he⟩ := h
  refine ht _ ⟨b, ys, rfl, sameL hb _ e0, hR _ ys he ?_⟩
  rw [← he.len]
  exact walk_enum.mono (sameL hb) fun _ _ _ _ _ _ h => h
theorem r_enumT (h : TupOf R fs y H0) (e0 : Same H0 H) (ht : ∀ QA : List V → Hp → Prop, QA [y] H → ta σ H QA) (hR : ∀ J ys, Each R fs ys H0 → Walk J fs.length (fun H' => Same H0 H') (YPair (fun i => some (.int (i : Nat))) (fun i => ys[i]?)) → W J H) : iEnumT K ta σ H W := by
  obtain ⟨b, ys, rfl, hb, he⟩ := h
  refine ht _ ⟨b, ys, rfl, sameT hb _ e0, hR _ ys he ?_⟩
  rw [← he.len]
  exact walk_enumT.mono (sameT hb) fun _ _ _ _ _ _ h => h
theorem r_enumS (h : SeqOf R fs y H0) (e0 : Same H0 H) (ht : ∀ QA : List V → Hp → Prop, QA [y] H → ta σ H QA) (hR : ∀ J ys, Each R fs ys H0 → Walk J fs.length (fun H' => Same H0 H') (YPair (fun i => some (.int (i : Nat))) (fun i => ys[i]?)) → W J H) : iOr (iEnum K ta) (iEnumT K ta) σ H W :=
  h.elim (fun h => .inl (r_enumL h e0 ht hR)) fun h => .inr (r_enumT h e0 ht hR)
theorem r_itL (h : LstOf R fs y H0) (e0 : Same H0 H) (ht : ∀ Q : VK, Q y H → te σ H Q) (hR : ∀ J ys, Each R fs ys H0 → Walk J fs.length (fun H' => Same H0 H') (YAt ys) → W J H) : iList K te σ H W := by
  obtain ⟨b, ys, rfl, hb, he⟩ := h
  refine ht _ ⟨b, rfl, ⟨ys, sameL hb _ e0⟩, hR _ ys he ?_⟩
  rw [← he.len]
  exact walk_list.mono (sameL hb) fun _ _ _ _ _ _ h => h
theorem r_itT (h : TupOf R fs y H0) (e0 : Same H0 H) (ht : ∀ Q : VK, Q y H → te σ H Q) (hR : ∀ J ys, Each R fs ys H0 → Walk J fs.length (fun H' => Same H0 H') (YAt ys) → W J H) : iTup K te σ H W := by
  obtain ⟨b, ys, rfl, hb, he⟩ := h
  refine ht _ ⟨b, rfl, ⟨ys, sameT hb _ e0⟩, hR _ ys he ?_⟩
  rw [← he.len]
  exact walk_tup.mono (sameT hb) fun _ _ _ _ _ _ h => h
theorem r_itS (h : SeqOf R fs y H0) (e0 : Same H0 H) (ht : ∀ Q : VK, Q y H → te σ H Q) (hR : ∀ J ys, Each R fs ys H0 → Walk J fs.length (fun H' => Same H0 H') (YAt ys) → W J H) : iOr (iList K te) (iTup K te) σ H W :=
  h.elim (fun h => .inl (r_itL h e0 ht hR)) fun h => .inr (r_itT h e0 ht hR)
theorem SeqOf.sq (h : SeqOf R fs y H0) : ∃ k b ys, y = .ref b ∧ Each R fs ys H0 ∧ ∀ H', Same H0 H' → SqK K k H' b ys := by
  rcases h with ⟨b, ys, rfl, hb, he⟩ | ⟨b, ys, rfl, hb, he⟩
  · exact ⟨.l, b, ys, rfl, he, sameL hb⟩
  · exact ⟨.t, b, ys, rfl, he, sameT hb⟩
theorem r_zipS (h : SeqOf R fs y H0) (e0 : Same H0 H) (h' : SeqOf S gs z H0) (ht : ∀ QA : List V → Hp → Prop, QA [y, z] H → ta σ H QA)
    (hR : ∀ J ys zs, Each R fs ys H0 → Each S gs zs H0 → Walk J (min fs.length gs.length) (fun H' => Same H0 H') (YPair (fun i => ys[i]?) (fun i => zs[i]?)) → W J H) : iZipK K ta σ H W := by
  obtain ⟨k1, b, ys, rfl, he, q⟩ := h.sq (K := K)
  obtain ⟨k2, c, zs, rfl, he', q'⟩ := h'.sq (K := K)
  refine ht _ ⟨k1, k2, b, c, ys, zs, rfl, q _ e0, q' _ e0, hR _ ys zs he he' ?_⟩
  refine (walk_zipK (n := min fs.length gs.length) (by rw [he.len, he'.len])).mono (fun H' e => ⟨q H' e, q' H' e⟩) fun _ _ _ _ _ _ h => h
/-! targets -/
theorem r_gtup {n : Nat} {t : TGs} {T : Addr} {xs : List V} {Q : L2.St → Hp → Prop} (hx : xs.length = n) (h : t xs σ (upd H T (.tup xs)) Q) : gTup K n t (.ref T) σ (upd H T (.tup xs)) Q := ⟨T, xs, rfl, .inl (.inl upd_same), hx, h⟩
theorem r_gtupH {n : Nat} {t : TGs} {T : Addr} {xs : List V} {Q : L2.St → Hp → Prop} (hT : H T = some (.tup xs)) (hx : xs.length = n) (h : t xs σ H Q) : gTup K n t (.ref T) σ H Q := ⟨T, xs, rfl, .inl (.inl hT), hx, h⟩
theorem r_gcons {t : TG} {u : TGs} {x : V} {r : List V} {Q : L2.St → Hp → Prop} (h : t x σ H fun σ' H' => u r σ' H' Q) : gCons t u (x :: r) σ H Q := ⟨x, r, rfl, h⟩
theorem r_gnil {Q : L2.St → Hp → Prop} (h : Q σ H) : gNil [] σ H Q := ⟨rfl, h⟩
end
/-- what is new of H' beside H -/
def New (H H' : Hp) : Hp := fun b => if (H b).isNone = true then H' b else none
theorem New.at_ {H H' : Hp} {b : Addr} (h : H b = none) : New H H' b = H' b := by
  unfold New
  rw [h]
  rfl
theorem New.le {H H' : Hp} : Same (New H H') H' := fun b u h => by
  unfold New at h
  split at h
  · exact h
  · cases h
theorem New.old {H H' : Hp} {b : Addr} {u : HO} (h : New H H' b = some u) : H b = none := by
  unfold New at h
  split at h
  · rename_i q
    exact Option.isNone_iff_eq_none.mp q
  · cases h
theorem New.hide {H H' : Hp} {d : Addr} (h : H d ≠ none) : Same (New H H') (hide d H') := fun b u hb => by
  have hne : b ≠ d := fun e => h (by rw [← e]; exact New.old hb)
  rw [hide_ne hne]
  exact New.le b u hb
theorem New.both {H0 H H' : Hp} {d : Addr} (e : Same H0 H) (hd : H d ≠ none) : Same (New H H') (New H0 (RS.hide d H')) := fun b u hb => by
  have h := New.old hb
  have h0 : H0 b = none := by
    cases q : H0 b with
    | none => rfl
    | some v => rw [e b v q] at h; cases h
  rw [New.at_ h0]
  exact New.hide hd b u hb
theorem New.anti {H0 H H' : Hp} (e : Same H0 H) : Same (New H H') (New H0 H') := fun b u hb => by
  have h := New.old hb
  have h0 : H0 b = none := by
    cases q : H0 b with
    | none => rfl
    | some v => rw [e b v q] at h; cases h
  rw [New.at_ h0]
  rw [New.at_ h] at hb
  exact hb
theorem New.mono {H H' H2 : Hp} (e : Same H' H2) : Same (New H H') (New H H2) := fun b u hb => by
  have h := New.old hb
  rw [New.at_ h] at hb ⊢
  exact e b u hb
theorem RowX.new {p : Nat} [Pr p] {H H' : Hp} {q : Addr} {f : Vec p} (h : H q = none) (r : RowX H' q f) : RowV f (.ref q) (New H H') := ⟨q, rfl, let ⟨kv, a, b⟩ := r; ⟨kv, by rw [New.at_ h]; exact a, b⟩⟩
/-- a comprehension of new things -/
theorem lc_new {α : Type} {R : α → V → Hp → Prop} [Mon R] {J : It} {n : Nat} {G : Hp → Prop} {Y : Nat → Hp → V → Hp → Prop} (w : Walk J n G Y) {g : TG} {tt : TT} {te : TE} {vs : List Nat} {σ : L2.St} {Hb : Hp} {Q : Addr → Hp → Prop} (f : Nat → Bool) (v : Nat → α)
    (hG : ∀ H, Same Hb H → G H) (hn : n ≤ 100000)
    (hs : ∀ i x H H' (kY : V → Hp → Prop) (kN : Hp → Prop), i < n → Same Hb H → Y i H x H' → (∀ y H4, f i = true → Same H H4 → R (v i) y (New H H4) → kY y H4) → (∀ H4, f i = false → Same H H4 → kN H4) →
      g x (wipe σ vs) H' fun σ2 H2 => wipe σ2 vs = wipe σ vs ∧ tt σ2 H2 fun b H3 => if b = true then te σ2 H3 kY else kN H3)
    (hq : ∀ D H' ys, Hb D = none → Same Hb H' → H' D = some (.lst ys) → Each R ((tk n f).map v) ys (New Hb H') → Q D H') :
    ∀ D, Hb D = none → ∃ W : Nat → Nat → Hp → Prop, (∃ m, W 0 m (upd Hb D (.lst []))) ∧ ∀ i m H, W i m H →
      (J.stop i H ∧ Q D H) ∨ (J.go i H ∧ ∃ Nx : Hp → Prop, (∀ H', Nx H' → ∃ m', m' < m ∧ W (i + 1) m' H') ∧ ∀ x H', J.yld i H x H' → g x (wipe σ vs) H' fun σ2 H2 => wipe σ2 vs = wipe σ vs ∧ tt σ2 H2 fun b H3 =>
        if b = true then te σ2 H3 fun y H4 => ∃ acc, H4 D = some (.lst acc) ∧ acc.length < sizeLine ∧ Nx (upd H4 D (.lst (acc ++ [y]))) else Nx H3) :=
  lc_rel w f (fun i y H => R (v i) y (New Hb H)) (fun i y H H' e h => Mon.mono (New.mono e) h) hG hn (fun i x H H' kY kN hi e y hY hN => hs i x H H' kY kN hi e y (fun z H4 hf e4 r4 => hY z H4 hf e4 fun d hd hdn => by
      refine Mon.mono (fun b u hb => ?_) r4
      have h := New.old hb
      have h0 := by
        cases q : Hb b with
        | none => exact q
        | some v => rw [e b v q] at h; cases h
      have hne : b ≠ d := fun z => hdn (by rw [← z]; exact h)
      rw [New.at_ h0, hide_ne hne]
      exact New.le b u hb) hN) (fun D H' ys hD e hy m => hq D H' ys hD e hy (m.each fun _ _ _ h => h))
/-- .. the list itself apart -/
theorem lc_newH {α : Type} {R : α → V → Hp → Prop} [Mon R] {J : It} {n : Nat} {G : Hp → Prop} {Y : Nat → Hp → V → Hp → Prop} (w : Walk J n G Y) {g : TG} {tt : TT} {te : TE} {vs : List Nat} {σ : L2.St} {Hb : Hp} {Q : Addr → Hp → Prop} (f : Nat → Bool) (v : Nat → α)
    (hG : ∀ H, Same Hb H → G H) (hn : n ≤ 100000)
    (hs : ∀ i x H H' (kY : V → Hp → Prop) (kN : Hp → Prop), i < n → Same Hb H → Y i H x H' → (∀ y H4, f i = true → Same H H4 → R (v i) y (New H H4) → kY y H4) → (∀ H4, f i = false → Same H H4 → kN H4) →
      g x (wipe σ vs) H' fun σ2 H2 => wipe σ2 vs = wipe σ vs ∧ tt σ2 H2 fun b H3 => if b = true then te σ2 H3 kY else kN H3)
    (hq : ∀ D H' ys, Hb D = none → Same Hb H' → H' D = some (.lst ys) → Each R ((tk n f).map v) ys (New Hb (hide D H')) → Q D H') :
    ∀ D, Hb D = none → ∃ W : Nat → Nat → Hp → Prop, (∃ m, W 0 m (upd Hb D (.lst []))) ∧ ∀ i m H, W i m H →
      (J.stop i H ∧ Q D H) ∨ (J.go i H ∧ ∃ Nx : Hp → Prop, (∀ H', Nx H' → ∃ m', m' < m ∧ W (i + 1) m' H') ∧ ∀ x H', J.yld i H x H' → g x (wipe σ vs) H' fun σ2 H2 => wipe σ2 vs = wipe σ vs ∧ tt σ2 H2 fun b H3 =>
        if b = true then te σ2 H3 fun y H4 => ∃ acc, H4 D = some (.lst acc) ∧ acc.length < sizeLine ∧ Nx (upd H4 D (.lst (acc ++ [y]))) else Nx H3) :=
  lc_relH w f (fun i y H => R (v i) y (New Hb H)) (fun i y H H' e h => Mon.mono (New.mono e) h) hG hn (fun i x H H' kY kN hi e y hY hN => hs i x H H' kY kN hi e y (fun z H4 hf e4 r4 => hY z H4 hf e4 fun d hd hdn => by
      refine Mon.mono (fun b u hb => ?_) r4
      have h := New.old hb
      have h0 := by
        cases q : Hb b with
        | none => exact q
        | some v => rw [e b v q] at h; cases h
      have hne : b ≠ d := fun z => hdn (by rw [← z]; exact h)
      rw [New.at_ h0, hide_ne hne]
      exact New.le b u hb) hN) (fun D H' ys hD e hy m => hq D H' ys hD e hy (m.each fun _ _ _ h => h))
/-- the list of a comprehension -/
theorem lst_new {α : Type} {R : α → V → Hp → Prop} {Hb H' : Hp} {D : Addr} {ys : List V} {fs : List α} (h : Hb D = none) (hy : H' D = some (.lst ys)) (e : Each R fs ys (New Hb H')) : LstOf R fs (.ref D) (New Hb H') := ⟨D, ys, rfl, by rw [New.at_ h]; exact hy, e⟩
theorem none_of {H H' : Hp} {a : Addr} (e : Same H H') (h : H' a = none) : H a = none := by
  cases q : H a with
  | none => rfl
  | some u => rw [e a u q] at h; cases h
theorem pow_small {i : Int} (h : -100000 ≤ i ∧ i ≤ 100000) : -(2 ^ 64) < i ∧ i < 2 ^ 64 := by constructor <;> omega
end RS
namespace RS
open PySem PySem.Spec PyProof.Rows L2
theorem mad_eq {idx : List Nat} {ys : List V} {H : Hp} {g : Nat → V} (m : Mad (fun i y _ => y = g i) idx ys H) : ys = idx.map g := by
  refine List.ext_getElem? fun j => ?_
  rw [List.getElem?_map]
  by_cases q : j < idx.length
  · have h2 : j < ys.length := by rw [m.len]; exact q
    have h3 := m.at_ j _ _ (List.getElem?_eq_getElem q) (List.getElem?_eq_getElem h2)
    rw [List.getElem?_eq_getElem h2, List.getElem?_eq_getElem q, h3]
    rfl
  · rw [List.getElem?_eq_none (by rw [m.len]; omega), List.getElem?_eq_none (by omega)]
    rfl
theorem mem_tk {n k : Nat} {f : Nat → Bool} : k ∈ tk n f ↔ k < n ∧ f k = true := by unfold tk; rw [List.mem_filter, List.mem_range]
theorem tk_nodup {n : Nat} {f : Nat → Bool} : (tk n f).Nodup := (List.nodup_range).sublist List.filter_sublist
theorem perm_nat {ys : List Int} {kk : List Nat} (h : ys.Perm (kk.map fun (k : Nat) => (k : Int))) : ∃ yl : List Nat, ys = yl.map (fun (k : Nat) => (k : Int)) ∧ yl.Perm kk := by
  refine ⟨ys.map Int.toNat, ?_, ?_⟩
  · rw [List.map_map]
    refine (List.map_id' ys).symm.trans (List.map_congr_left fun y hy => ?_)
    obtain ⟨k, _, rfl⟩ := List.mem_map.mp ((h.mem_iff).mp hy)
    rfl
  · have := h.map Int.toNat
    rw [List.map_map] at this
    have e : (Int.toNat ∘ fun (k : Nat) => (k : Int)) = id := funext fun k => by simp
    rw [e, List.map_id] at this
    exact this
section
variable {α : Type} {R : α → V → Hp → Prop} {l : List (Nat × α)} {kvs : List (Key × V)} {H H' : Hp} {a : Addr}
theorem mem_key {l : List (Nat × α)} {k : Nat} (hn : (l.map (·.1)).Nodup) (h : ∃ e ∈ l, e.1 = k) : ∃ f, (k, f) ∈ l := by
  obtain ⟨⟨k', f⟩, he, rfl⟩ := h
  exact ⟨f, he⟩
theorem DicK.din {Hx : Hp} (h : DicK R l kvs Hx) (hn : (l.map (·.1)).Nodup) (hr : Rd H a (.dK kvs)) (k : Nat) : ∃ o, DGet H a (.int (k : Int)) o ∧ o.isSome = decide (∃ e ∈ l, e.1 = k) := by
  refine ⟨_, .inl ⟨kvs, Sum.inl (k : Int), hr, rfl, rfl⟩, ?_⟩
  by_cases q : ∃ e ∈ l, e.1 = k
  · obtain ⟨f, hf⟩ := mem_key hn q
    obtain ⟨v, hv, _⟩ := h.get hn hf
    rw [hv, decide_eq_true q]
    rfl
  · rw [h.none fun e he hk => q ⟨e, he, hk⟩, decide_eq_false q]
    rfl
theorem DicK.dgot {Hx : Hp} (h : DicK R l kvs Hx) (hn : (l.map (·.1)).Nodup) (hr : Rd H a (.dK kvs)) {k : Nat} {f : α} (m : (k, f) ∈ l) : ∃ v, DGet H a (.int (k : Int)) (some v) ∧ R f v Hx := by
  obtain ⟨v, hv, r⟩ := h.get hn m
  exact ⟨v, .inl ⟨kvs, Sum.inl (k : Int), hr, rfl, hv.symm⟩, r⟩
theorem DicK.dput_new {k : Nat} {f : α} {v : V} {Hx : Hp} (h : DicK R l kvs Hx) (hH : H a = some (.dK kvs)) (hk : ∀ e ∈ l, e.1 ≠ k) (r : R f v Hx) (hl : l.length ≤ 100000) : ∃ kvs', DPut H a (.int (k : Int)) v (upd H a (.dK kvs')) ∧ DicK R (l ++ [(k, f)]) kvs' Hx := by
  refine ⟨_, .inl ⟨kvs, Sum.inl (k : Int), hH, rfl, ?_, rfl⟩, h.snoc hk r⟩
  have : (100000 : Nat) < sizeLine := by decide
  have := h.len
  omega
theorem DicK.dput_old {k : Nat} {f : α} {v : V} {Hx : Hp} (h : DicK R l kvs Hx) (hH : H a = some (.dK kvs)) (hk : ∃ e ∈ l, e.1 = k) (r : R f v Hx) (hl : l.length ≤ 100000) : ∃ kvs', DPut H a (.int (k : Int)) v (upd H a (.dK kvs')) ∧ DicK R (l.map fun e => if e.1 = k then (e.1, f) else e) kvs' Hx := by
  refine ⟨_, .inl ⟨kvs, Sum.inl (k : Int), hH, rfl, ?_, rfl⟩, h.set hk r⟩
  have : (100000 : Nat) < sizeLine := by decide
  have := h.len
  omega
end
theorem count_lt {α : Type} {P P' : α → Bool} : ∀ {l : List α}, (∀ e ∈ l, P' e = true → P e = true) → ∀ {e0 : α}, e0 ∈ l → P e0 = true → P' e0 = false → (l.filter P').length < (l.filter P).length
  | a :: r, h, e0, hm, h1, h2 => by
    have le : (r.filter P').length ≤ (r.filter P).length := by
      have : ∀ l : List α, (∀ e ∈ l, P' e = true → P e = true) → (l.filter P').length ≤ (l.filter P).length := by
        intro l
        induction l with
        | nil => intro _; exact Nat.le_refl _
        | cons x t ih =>
          intro hh
          have ih := ih fun e he => hh e (List.mem_cons_of_mem _ he)
          rw [List.filter_cons, List.filter_cons]
          by_cases q : P' x = true
          · rw [if_pos q, if_pos (hh x List.mem_cons_self q)]
            simp only [List.length_cons]
            omega
          · rw [if_neg q]
            split
            · simp only [List.length_cons]; omega
            · exact ih
      exact this r fun e he => h e (List.mem_cons_of_mem _ he)
    rw [List.filter_cons, List.filter_cons]
    rcases List.mem_cons.mp hm with q | q
    · subst q
      rw [if_pos h1, if_neg (by rw [h2]; decide)]
      simp only [List.length_cons]
      omega
    · have ih := count_lt (l := r) (fun e he => h e (List.mem_cons_of_mem _ he)) q h1 h2
      by_cases z : P' a = true
      · rw [if_pos z, if_pos (h a List.mem_cons_self z)]
        simp only [List.length_cons]
        omega
      · rw [if_neg z]
        split
        · simp only [List.length_cons]; omega
        · exact ih
theorem at_nat {α : Type} {xs : List α} {i : Nat} {x : α} (h : xs[i]? = some x) : atI xs (i : Int) = some x := by
  have hi := (List.getElem?_eq_some_iff.mp h).1
  unfold atI ixN
  rw [if_pos (by omega), if_pos (by omega)]
  exact h
/-- dict of a list of pairs -/
def rDictP (K : PySem.W.Frag) : List V → Hp → VK → Prop := fun xs H Q => ∃ (a : Addr) (ps : List Addr) (kvs : List (Key × V)), xs = [.ref a] ∧ SqL K H a (ps.map V.ref) ∧ Paired (fun p kv => SqT K H p [kV kv.1, kv.2]) ps kvs ∧ ∀ p, H p = none → Q (.ref p) (upd H p (.dK (mergeK [] kvs)))
theorem cr_dictP {X : Cx} (hcalm : X.calm = true) : CallR X (.type "dict") (rDictP X.K) := call_dictP hcalm
theorem dict_pairsR {K : PySem.W.Frag} {H : Hp} {l : List (Nat × V)} {ys : List V} (hy : Each PairV l ys H) (hn : (l.map (·.1)).Nodup) {D : Addr} (hD : H D = some (.lst ys)) {Q : VK}
    (q : ∀ a, H a = none → Q (.ref a) (upd H a (.dK (l.map fun e => (Sum.inl (e.1 : Int), e.2))))) : rDictP K [V.ref D] H Q := dict_pairs hy hn hD q
def tDictP (K : PySem.W.Frag) (ta : TA) : TE := tCB (rDictP K) ta
theorem r_dictP {K : PySem.W.Frag} {ta : TA} {σ : L2.St} {H : Hp} {Q : VK} (h : tDictP K ta σ H Q) : tCB (rDictP K) ta σ H Q := h
theorem r_dictP' {K : PySem.W.Frag} {ta : TA} {σ : L2.St} {H : Hp} {Q : VK} (h : ta σ H fun vs H1 => rDictP K vs H1 Q) : tDictP K ta σ H Q := h
/-- the first of a list -/
theorem r_ix0 {K : PySem.W.Frag} {H : Hp} {Q : VK} {a : Addr} {x : V} {xs : List V} (h : SqL K H a (x :: xs)) (q : Q x H) : rIxL K (.ref a) (.int 0) H Q := ⟨a, x :: xs, 0, x, rfl, rfl, h, at_nat (i := 0) rfl, q⟩
theorem r_neNil {K : PySem.W.Frag} {H : Hp} {Q : VK} {a b : Addr} {xs : List V} (h1 : SqL K H a xs) (h2 : SqL K H b []) (q : Q (.bl (!xs.isEmpty)) H) : rNeNil K (.ref a) (.ref b) H Q := ⟨a, b, xs, rfl, rfl, h1, h2, q⟩
end RS
namespace RS
open PySem PySem.Spec PyProof.Rows L2
section
variable {p : Nat} [Pr p]
/-- dict([(t1, t2) for k in row]) -/
theorem r_dictKeys {K : PySem.W.Frag} {σ : L2.St} {H : Hp} {Q : VK} {td t1 t2 : TE} {j : Nat} {a : Addr} {f : Vec p} {n : Nat} (hx : RowX H a f) (bf : Bd f n) (hn : n ≤ 2000) (φ : Nat → Nat) (g : Vec p)
    (hφ : ∀ k k', f k ≠ 0 → f k' ≠ 0 → φ k = φ k' → k = k') (h1 : ∀ k, f k ≠ 0 → g (φ k) ≠ 0) (h2 : ∀ m, g m ≠ 0 → ∃ k, f k ≠ 0 ∧ φ k = m)
    (ht : ∀ H' (Q : VK), RdE H H' → Q (.ref a) H' → td σ H' Q)
    (hw : ∀ x, wipe ((wipe σ [j]).set j x) [j] = wipe σ [j])
    (e1 : ∀ k H' (Q : VK), f k ≠ 0 → RdE H H' → Same (hide a H) H' → Q (.int (φ k : Nat)) H' → t1 ((wipe σ [j]).set j (some (.int (k : Nat)))) H' Q)
    (e2 : ∀ k H' (Q : VK), f k ≠ 0 → RdE H H' → Same (hide a H) H' → Q (.int (iv (g (φ k)))) H' → t2 ((wipe σ [j]).set j (some (.int (k : Nat)))) H' Q)
    (hq : ∀ q H', Same H H' → H q = none → RowX H' q g → Q (.ref q) H') :
    tDictP K (tCons (tLockE (tLc (iKeys td) (gName j) tYes (tTup (tCons t1 (tCons t2 tNil))) [j])) tNil) σ H Q := by
  obtain ⟨kv, hkv, ks, hkn, rfl, hks⟩ := hx
  have hlen : ks.length ≤ 2000 := by
    have := SpK.len (f := f) ⟨ks, hkn, rfl, hks⟩ bf
    rw [List.length_map] at this
    omega
  refine r_dictP' (r_cons ⟨a, .dK (ks.map (ent f)), hkv, trivial, fun od => ?_⟩)
  have rl := RdE.lock (o := od) hkv
  have haL : (upd H a (.frz od (.dK (ks.map (ent f))))) a = some (.frz od (.dK (ks.map (ent f)))) := upd_same
  refine r_lc (ht _ _ rl ⟨a, od, rfl, .inl ⟨_, haL, ?_⟩⟩)
  have key : ∀ i, i < ks.length → ks.getD i 0 ∈ ks := fun i hi => by rw [getD_some (List.getElem?_eq_getElem hi)]; exact List.getElem_mem hi
  refine lc_rel (walk_keys.mono (n := (ks.map (ent f)).length) (G' := fun H' => Same (upd H a (.frz od (.dK (ks.map (ent f))))) H') (fun H' e => e a _ haL) fun _ _ _ _ _ _ h => h) (fun _ => true)
    (fun i y H' => PairV (φ (ks.getD i 0), .int (iv (g (φ (ks.getD i 0))))) y (hide a H')) (fun i y H H' e h => Mon.mono (hide_same e) h) (fun _ h => h) (by rw [List.length_map]; omega) (fun i x H1 H2 kY kN hi e y hY hN => ?_) (fun D H' ys hD e hy m => ?_)
  · obtain ⟨rfl, k, v, hk, rfl⟩ := y
    rw [List.length_map] at hi
    rw [List.getElem?_map, List.getElem?_eq_getElem hi] at hk
    obtain ⟨rfl, rfl⟩ : (Sum.inl ((ks[i] : Nat) : Int) : Key) = k ∧ V.int (iv (f ks[i])) = v := by
      have := Option.some.inj hk
      exact ⟨congrArg Prod.fst this, congrArg Prod.snd this⟩
    have hgd : ks.getD i 0 = ks[i] := getD_some (List.getElem?_eq_getElem hi)
    have hfk : f ks[i] ≠ 0 := (hks _).mp (List.getElem_mem hi)
    have rd : RdE H H2 := rl.trans (Same.rd e)
    have sh : Same (hide a H) H2 := fun b u hb => by
      have hba : b ≠ a := fun z => by rw [z] at hb; simp [hide] at hb
      rw [hide_ne hba] at hb
      exact e b u (by rw [upd_ne hba]; exact hb)
    refine ⟨hw _, r_tYes (r_true (r_tup (r_cons (e1 _ _ _ hfk rd sh (r_cons (e2 _ _ _ hfk rd sh (r_nil ?_)))))))⟩
    refine ⟨by show 2 ≤ sizeLine; decide, fun q hq => hY _ _ rfl (Same.new hq) fun d hd hdn => ?_⟩
    have hqd : q ≠ d := ne_new hq hdn
    have hqa : q ≠ a := ne_new hq (by rw [e a _ haL]; simp)
    refine ⟨q, rfl, ?_⟩
    rw [hide_ne hqa, hide_ne hqd, upd_same, hgd]
  · have hDa : D ≠ a := ne_new hD (by rw [haL]; simp)
    have hHD : H D = none := by rw [upd_ne hDa] at hD; exact hD
    have eu : Same H (upd H' a (.dK (ks.map (ent f)))) := Same.unlock hkv e
    refine ⟨e a _ haL, r_nil ?_⟩
    have ey2 : Each PairV ((tk (ks.map (ent f)).length fun _ => true).map fun i => (φ (ks.getD i 0), V.int (iv (g (φ (ks.getD i 0)))))) ys (upd H' a (.dK (ks.map (ent f)))) := by
      refine ⟨by rw [m.len]; simp, fun i f' y q1 q2 => ?_⟩
      rw [List.getElem?_map] at q1
      have hi : i < (tk (ks.map (ent f)).length fun _ => true).length := by rw [← m.len]; exact (List.getElem?_eq_some_iff.mp q2).1
      rw [List.getElem?_eq_getElem hi] at q1
      cases q1
      have := m.at_ i _ y (List.getElem?_eq_getElem hi) q2
      refine Mon.mono ?_ this
      have e2 : hide a H' = hide a (upd H' a (.dK (ks.map (ent f)))) := hide_upd.symm
      rw [e2]
      exact hide_le
    have hkeys : ((tk (ks.map (ent f)).length fun _ => true).map fun i => (φ (ks.getD i 0), V.int (iv (g (φ (ks.getD i 0)))))).map (·.1) = ks.map φ := by
      rw [tk_all, List.map_map, List.length_map]
      have := map_range_get ks 0
      have e3 : ks.map φ = ((List.range ks.length).map fun i => ks.getD i 0).map φ := by rw [this]
      rw [e3, List.map_map]
      rfl
    have hnd : (ks.map φ).Nodup := by
      refine List.pairwise_map.mpr (List.Pairwise.imp_of_mem (fun {x y} hx hy hne h => hne ?_) hkn)
      exact hφ x y ((hks x).mp hx) ((hks y).mp hy) h
    refine dict_pairs ey2 (by rw [hkeys]; exact hnd) (by rw [upd_ne hDa]; exact hy) fun b hb => ?_
    refine hq b _ (Same.trans eu (Same.new hb)) (none_of eu hb) ⟨_, upd_same, spK_of (by rw [hkeys]; exact hnd) (fun e he => ?_) fun m => ?_⟩
    · obtain ⟨i, _, rfl⟩ := List.mem_map.mp he
      rfl
    · rw [hkeys, List.mem_map]
      constructor
      · intro hm
        obtain ⟨k, hk, e⟩ := h2 m hm
        exact ⟨k, (hks k).mpr hk, e⟩
      · rintro ⟨k, hk, rfl⟩
        exact h1 k ((hks k).mp hk)
/-- [(t1, t2) for k in row] -/
theorem r_lcPairs {σ : L2.St} {H : Hp} {Q : VK} {td t1 t2 : TE} {j : Nat} {a : Addr} {f : Vec p} {ks : List Nat} (hkv : H a = some (.dK (ks.map (ent f)))) (hlen : ks.length ≤ 2000) (φ : Nat → Nat) (ψ : Nat → V)
    (ht : ∀ H' (Q : VK), RdE H H' → Q (.ref a) H' → td σ H' Q)
    (hw : ∀ x, wipe ((wipe σ [j]).set j x) [j] = wipe σ [j])
    (e1 : ∀ k H' (Q : VK), k ∈ ks → RdE H H' → Q (.int (φ k : Nat)) H' → t1 ((wipe σ [j]).set j (some (.int (k : Nat)))) H' Q)
    (e2 : ∀ k H' (Q : VK), k ∈ ks → RdE H H' → Q (ψ k) H' → t2 ((wipe σ [j]).set j (some (.int (k : Nat)))) H' Q)
    (hq : ∀ D ys H', Same H H' → H D = none → H' D = some (.lst ys) → Each PairV (ks.map fun k => (φ k, ψ k)) ys H' → Q (.ref D) H') :
    tLockE (tLc (iKeys td) (gName j) tYes (tTup (tCons t1 (tCons t2 tNil))) [j]) σ H Q := by
  refine ⟨a, .dK (ks.map (ent f)), hkv, trivial, fun od => ?_⟩
  have rl := RdE.lock (o := od) hkv
  have haL : (upd H a (.frz od (.dK (ks.map (ent f))))) a = some (.frz od (.dK (ks.map (ent f)))) := upd_same
  refine r_lc (ht _ _ rl ⟨a, od, rfl, .inl ⟨_, haL, ?_⟩⟩)
  refine lc_rel (walk_keys.mono (n := (ks.map (ent f)).length) (G' := fun H' => Same (upd H a (.frz od (.dK (ks.map (ent f))))) H') (fun H' e => e a _ haL) fun _ _ _ _ _ _ h => h) (fun _ => true)
    (fun i y H' => PairV (φ (ks.getD i 0), ψ (ks.getD i 0)) y (hide a H')) (fun i y H H' e h => Mon.mono (hide_same e) h) (fun _ h => h) (by rw [List.length_map]; omega) (fun i x H1 H2 kY kN hi e y hY hN => ?_) (fun D H' ys hD e hy m => ?_)
  · obtain ⟨rfl, k, v, hk, rfl⟩ := y
    rw [List.length_map] at hi
    rw [List.getElem?_map, List.getElem?_eq_getElem hi] at hk
    obtain ⟨rfl, rfl⟩ : (Sum.inl ((ks[i] : Nat) : Int) : Key) = k ∧ V.int (iv (f ks[i])) = v := by
      have := Option.some.inj hk
      exact ⟨congrArg Prod.fst this, congrArg Prod.snd this⟩
    have hgd : ks.getD i 0 = ks[i] := getD_some (List.getElem?_eq_getElem hi)
    have hfk : ks[i] ∈ ks := List.getElem_mem hi
    have rd : RdE H H2 := rl.trans (Same.rd e)
    have sh : Same (hide a H) H2 := fun b u hb => by
      have hba : b ≠ a := fun z => by rw [z] at hb; simp [hide] at hb
      rw [hide_ne hba] at hb
      exact e b u (by rw [upd_ne hba]; exact hb)
    refine ⟨hw _, r_tYes (r_true (r_tup (r_cons (e1 _ _ _ hfk rd (r_cons (e2 _ _ _ hfk rd (r_nil ?_)))))))⟩
    refine ⟨by show 2 ≤ sizeLine; decide, fun q hq => hY _ _ rfl (Same.new hq) fun d hd hdn => ?_⟩
    have hqd : q ≠ d := ne_new hq hdn
    have hqa : q ≠ a := ne_new hq (by rw [e a _ haL]; simp)
    refine ⟨q, rfl, ?_⟩
    rw [hide_ne hqa, hide_ne hqd, upd_same, hgd]
  · have hDa : D ≠ a := ne_new hD (by rw [haL]; simp)
    have hHD : H D = none := by rw [upd_ne hDa] at hD; exact hD
    have eu : Same H (upd H' a (.dK (ks.map (ent f)))) := Same.unlock hkv e
    refine ⟨e a _ haL, hq D ys _ eu hHD (by rw [upd_ne hDa]; exact hy) ?_⟩
    have hk2 : (ks.map fun k => (φ k, ψ k)) = (tk (ks.map (ent f)).length fun _ => true).map fun i => (φ (ks.getD i 0), ψ (ks.getD i 0)) := by
      rw [tk_all, List.length_map]
      have := congrArg (List.map fun k => (φ k, ψ k)) (map_range_get ks 0)
      rw [List.map_map] at this
      exact this.symm
    rw [hk2]
    refine m.each fun i _ y h => Mon.mono ?_ h
    have e2 : hide a H' = hide a (upd H' a (.dK (ks.map (ent f)))) := hide_upd.symm
    rw [e2]
    exact hide_le
theorem DGet.rowo {H : Hp} {a : Addr} {f : Vec p} (h : RowAt H a f) (k : Nat) : ∃ o, DGet H a (.int (k : Int)) o ∧ o.isSome = decide (f k ≠ 0) := by
  obtain ⟨kvs, h, sp⟩ := h
  refine ⟨_, .inl ⟨kvs, Sum.inl (k : Int), h, rfl, rfl⟩, ?_⟩
  rw [sp.get]
  by_cases q : f k = 0
  · rw [if_pos q, decide_eq_false (fun z => z q)]
    rfl
  · rw [if_neg q, decide_eq_true q]
    rfl
end
/-- {k: v} -/
theorem r_disp1 {tk tv : TE} {σ : L2.St} {H : Hp} {Q : VK} {k : Int} {v : V} (hk : ∀ H' (Q : VK), Q (.int k) H' → tk σ H' Q) (hv : ∀ H' (Q : VK), Q v H' → tv σ H' Q) (q : ∀ a, H a = none → Q (.ref a) (upd H a (.dK [(Sum.inl k, v)]))) : tDisp [(tk, tv)] σ H Q := by
  intro a ha
  refine hk _ _ (hv _ _ ⟨upd_same, [(Sum.inl k, v)], rfl, by simp, ?_⟩)
  rw [upd_upd]
  exact q a ha
theorem r_app {K : PySem.W.Frag} {ta : TE} {tA : TA} {σ : L2.St} {H : Hp} {Q : VK} {l : Addr} {xs : List V} (hl : H l = some (.lst xs)) (h1 : ∀ Q : VK, Q (.ref l) H → ta σ H Q)
    (h2 : tA σ H fun ys H2 => ∃ l' xs y, V.ref l = .ref l' ∧ ys = [y] ∧ H2 l' = some (.lst xs) ∧ xs.length < sizeLine ∧ Q .non (upd H2 l' (.lst (xs ++ [y])))) : tBM K "list" rAppend ta tA σ H Q :=
  r_bm (h1 _ ⟨.inl ⟨rfl, _, SqL.of hl⟩, h2⟩)
theorem sl (n : Nat) (h : n ≤ 100000) : n < sizeLine := by
  have : (100000 : Nat) < sizeLine := by decide
  omega
theorem tk_mem_len (n : Nat) (f : Nat → Bool) : (tk n f).length ≤ n := tk_len n f
theorem r_rng {ta : TA} {σ : L2.St} {H : Hp} {W : It → Hp → Prop} (n : Nat) (hn : n ≤ 100000) (ht : ∀ QA : List V → Hp → Prop, QA [.int (n : Int)] H → ta σ H QA)
    (hR : ∀ J, Walk J n (fun _ => True) (fun i H x H' => H' = H ∧ x = .int (i : Nat)) → W J H) : iRng1 ta σ H W := by
  refine ht _ ⟨_, rfl, by omega, by omega, ?_⟩
  rw [Int.toNat_natCast]
  refine hR _ (walk_range.mono (fun _ h => h) fun i H x H' _ _ y => ⟨y.1, ?_⟩)
  rw [y.2]
  show V.int (0 + (i : Int)) = _
  rw [Int.zero_add]
theorem r_rng2 {ta : TA} {σ : L2.St} {H : Hp} {W : It → Hp → Prop} (lo n : Nat) (hn : lo + n ≤ 100000) (ht : ∀ QA : List V → Hp → Prop, QA [.int (lo : Int), .int ((lo + n : Nat) : Int)] H → ta σ H QA)
    (hR : ∀ J, Walk J n (fun _ => True) (fun i H x H' => H' = H ∧ x = .int ((lo + i : Nat) : Int)) → W J H) : iRng2 ta σ H W := by
  refine ht _ ⟨_, _, rfl, ⟨by omega, by omega, by omega, by omega⟩, ?_⟩
  have : (((lo + n : Nat) : Int) - (lo : Int)).toNat = n := by omega
  rw [this]
  refine hR _ (walk_range.mono (fun _ h => h) fun i H x H' _ _ y => ⟨y.1, ?_⟩)
  rw [y.2]
  rfl
theorem same_lock_new {H : Hp} {a r : Addr} {z o : HO} (h : H r = none) : Same (upd H a z) (upd (upd H r o) a z) := fun x v hx => by
  by_cases e : x = a
  · subst e; rw [upd_same] at hx ⊢; exact hx
  · rw [upd_ne e] at hx ⊢
    rw [upd_ne (ne_of_none hx h)]
    exact hx
theorem r_dnew {σ : L2.St} {H : Hp} {Q : VK} (h : ∀ p, H p = none → Q (.ref p) (upd H p (.dK []))) : tDNewK σ H Q := h
end RS
namespace RS
open PySem PySem.Spec PyProof.Rows L2
open C8 (Cal Mak Met pe_c pe_mk pe_mt pe_mt0 pe_gc)
section
variable {X : Cx} {K : PySem.W.Frag}
theorem pe_fldK {e : Expr} {ta : TE} {f : Str} {pos : Pos} (he : PE X e ta) (hb : attributeBase e f X.env (eval e X.env) = eval e X.env) (hK : X.K = K := by rfl) : PE X (.Attribute e f pos) (tFld K ta f) := by subst hK; exact pe_fld he hb
theorem ix_listK (hK : X.K = K := by rfl) : IxR X (rIxL K) := by subst hK; exact ix_list
theorem ix_tupK (hK : X.K = K := by rfl) : IxR X (rIxT K) := by subst hK; exact ix_tup
theorem call_lenK (hK : X.K = K := by rfl) : CallR X (.builtin "len") (fun xs H Q => ∃ p ys, xs = [.ref p] ∧ (SqL K H p ys ∨ SqT K H p ys) ∧ Q (.int ys.length) H) := by subst hK; exact call_len_seq
theorem pi_listK {tg l : Expr} {tl : TE} (hl : PE X l tl) (hK : X.K = K := by rfl) : PI X tg l (iList K tl) := by subst hK; exact pi_list hl
theorem pi_tupK {tg l : Expr} {tl : TE} (hl : PE X l tl) (hK : X.K = K := by rfl) : PI X tg l (iTup K tl) := by subst hK; exact pi_tup hl
theorem pi_zipKK {e e2 : Expr} {ta : TA} {p pos tpos : Pos} {elts : List Expr} {kk : Nat} (hg : Gl X "zip") (hm : X.mg "zip" = none) (ha : PA X [e, e2] ta)
    (hs : starEach [e, e2] X.env = (false, eval e X.env) :: starEach [e2] X.env := by rfl) (hpl : (backTo pos (starEach [e2] X.env)).any (·.1) = false := by rfl) (hK : X.K = K := by rfl) :
    PI X (.Tuple elts kk tpos) (.Call (.Name "zip" p) [e, e2] [] pos) (iZipK K ta) := by subst hK; exact pi_zipK hg hm ha hs hpl
theorem pi_enumK {e : Expr} {ta : TA} {p pos tpos : Pos} {elts : List Expr} {kk : Nat} (hg : Gl X "enumerate") (hm : X.mg "enumerate" = none) (ha : PA X [e] ta) (hs : starEach [e] X.env = [(false, eval e X.env)] := by rfl) (hK : X.K = K := by rfl) :
    PI X (.Tuple elts kk tpos) (.Call (.Name "enumerate" p) [e] [] pos) (iEnum K ta) := by subst hK; exact pi_enum hg hm ha hs
theorem pi_enumTK {e : Expr} {ta : TA} {p pos tpos : Pos} {elts : List Expr} {kk : Nat} (hg : Gl X "enumerate") (hm : X.mg "enumerate" = none) (ha : PA X [e] ta) (hs : starEach [e] X.env = [(false, eval e X.env)] := by rfl) (hK : X.K = K := by rfl) :
    PI X (.Tuple elts kk tpos) (.Call (.Name "enumerate" p) [e] [] pos) (iEnumT K ta) := by subst hK; exact pi_enumT hg hm ha hs
theorem call_tupK (hK : X.K = K := by rfl) : CallR X (.type "tuple") (fun xs H Q => ∃ p ys, xs = [.ref p] ∧ ((SqL K H p ys ∧ ∀ l, H l = none → Q (.ref l) (upd H l (.tup ys))) ∨ (SqT K H p ys ∧ Q (.ref p) H))) := by subst hK; exact call_tuple_of
end
/-- a def of a class; Pf: what is told of it -/
structure DfM (K : PySem.W.Frag) (nm qual : Str) (st : Stmt) (Pf : Addr → Prop) : Prop where
  ex : ∃ (f : Addr) (fd : FuncData), FunD K nm qual (defArgs st) (defBody st) (defScope st) [] [] f fd ∧ Pf f
structure FnB (P : Program) (w : World) (K : PySem.W.Frag) (mg : Str → Option Value) (base : Heap) (k : Nat) (Pf : Addr → Prop) (sp : Sp) : Prop where
  ex : ∃ (f : Addr) (fd : FuncData) (ps : List Str), Pf f ∧ FnOk P w K mg base CX0 k f fd ps sp ∧ Binds K fd ps []
section
variable {P : Program} {w : World} {K : PySem.W.Frag} {mg : Str → Option Value} {base : Heap}
theorem mkFn {nm qual : Str} {st : Stmt} {N ps : List Str} {k : Nat} {sp : Sp} {Pf : Addr → Prop} (D : DfM K nm qual st Pf) (S : FnScope N ps (defScope st)) (len : ∀ vs H Q E, sp vs H Q E → vs.length = ps.length)
    (hb : ∀ (kV doc pm : Value) (an : Option Addr) (cdv ct : Value) (us : List Value), us.length = ps.length → bindArgs (PySem.W.fnOf nm qual (defArgs st) (defBody st) (defScope st) .none kV doc pm an cdv ct) ⟨us, []⟩ = pure (ps.zip us))
    (hbody : ∀ (f : Addr) (cdv : Value) (A : Around) (outer : List Env) (s : Shared) (H : Hp) (vs : List V) (Q : VK) (E : XK), Room k (A.deeper (envOfC qual (defScope st) s.heap.objs.size f cdv)) → sp vs H Q E →
      ∃ t, PSs (cxOf CX0 P w K mg base N qual (defScope st) f cdv A outer s H E).nox (defBody st) t ∧ t { nx := fun _ H' => Q .non H', rt := Q } (start N vs) H) : FnB P w K mg base (k + 1) Pf sp := by
  obtain ⟨f, fd, F, hp⟩ := D.ex
  refine ⟨⟨f, fd, ps, hp, F.ok S len fun cdv A outer s H vs Q E hr hs => ?_, F.bindsN hb⟩⟩
  obtain ⟨t, h1, h2⟩ := hbody f cdv A outer s H vs Q E hr hs
  exact ⟨t, h1.nox, h2⟩
theorem mkFnU {nm qual : Str} {st : Stmt} {N ps : List Str} {k : Nat} {sp : ∀ p : Nat, Pr p → Sp} {Pf : Addr → Prop} (D : DfM K nm qual st Pf) (S : FnScope N ps (defScope st)) (len : ∀ p hp vs H Q E, sp p hp vs H Q E → vs.length = ps.length)
    (hb : ∀ (kV doc pm : Value) (an : Option Addr) (cdv ct : Value) (us : List Value), us.length = ps.length → bindArgs (PySem.W.fnOf nm qual (defArgs st) (defBody st) (defScope st) .none kV doc pm an cdv ct) ⟨us, []⟩ = pure (ps.zip us))
    (hbody : ∀ (p : Nat) (hp : Pr p) (f : Addr) (cdv : Value) (A : Around) (outer : List Env) (s : Shared) (H : Hp) (vs : List V) (Q : VK) (E : XK), Room k (A.deeper (envOfC qual (defScope st) s.heap.objs.size f cdv)) → sp p hp vs H Q E →
      ∃ t, PSs (cxOf CX0 P w K mg base N qual (defScope st) f cdv A outer s H E).nox (defBody st) t ∧ t { nx := fun _ H' => Q .non H', rt := Q } (start N vs) H) : FnB P w K mg base (k + 1) Pf (U sp) :=
  mkFn D S (fun vs H Q E ⟨p, hp, h⟩ => len p hp vs H Q E h) hb fun f cdv A outer s H vs Q E hr ⟨p, hp, h⟩ => hbody p hp f cdv A outer s H vs Q E hr h
theorem FnB.mak {k : Nat} {C : Addr} {x : Str} {sp : Sp} (F : FnB P w K mg base k (Mk K C) sp) (hm : mg x = some (.ref C)) : Mak P w K mg base k x C sp [] :=
  let ⟨f, fd, ps, hp, F, b⟩ := F.ex; ⟨f, fd, ps, [], hp, F, hm, b, .nil⟩
theorem FnB.met {k : Nat} {C : Addr} {m : Str} {sp : Sp} (F : FnB P w K mg base k (Meth K C m) sp) (hc : Cls K C) : Met P w K mg base k C m sp [] :=
  let ⟨f, fd, ps, hp, F, b⟩ := F.ex; ⟨f, fd, ps, [], hc, hp, F, b, .nil⟩
/-- told of the def of __eq__ -/
structure EqF (K : PySem.W.Frag) (C f : Addr) : Prop where
  eq : PySem.W.findIn K (.ref C) "__eq__" = some (some (.ref f))
  fn : PySem.W.isFn K (.ref f) = true
end
theorem r_sfld {K : PySem.W.Frag} {ta tv : TE} {f : Str} {D : Ends} {σ : L2.St} {H : Hp} (h : tv σ H fun y H1 => ta σ H1 fun x H2 => ∃ a C dx fs, x = .ref a ∧ H2 a = some (.ins C dx fs) ∧ Cls K C ∧ NoAttr K C f ∧ fs.length < 1000 ∧
  D.nx σ (upd H2 a (.ins C dx (putF f y fs)))) : sFld K ta tv f D σ H := h
theorem r_chain {r r' : R2} {ta tb tc : TE} {σ : L2.St} {H : Hp} {Q : VK} (h : ta σ H fun x H1 => tb σ H1 fun y H2 => r x y H2 fun z H3 => ∃ k, z = .bl k ∧ (if k = true then tc σ H3 fun w' H4 => r' y w' H4 Q else Q (.bl false) H3)) : tChain r r' ta tb tc σ H Q := h
theorem r_make {C : Addr} {sp : Sp} {dvs : List V} {E : XK} {t : TA} {σ : L2.St} {H : Hp} {Q : VK} (h : t σ H fun vs H1 => ∀ x dx, H1 x = none → H1 dx = none → dx ≠ x →
  sp (.ref x :: (vs ++ dvs)) (upd (upd H1 dx (.own x)) x (.ins C dx [])) (fun v H2 => v = .non ∧ Q (.ref x) H2) E) : tMake C sp dvs E t σ H Q := h
theorem r_meth {C : Addr} {m : Str} {sp : Sp} {dvs : List V} {E : XK} {ta : TE} {t : TA} {σ : L2.St} {H : Hp} {Q : VK} (h : ta σ H fun x H1 => ∃ a dx fs, x = .ref a ∧ H1 a = some (.ins C dx fs) ∧ fs.lookup m = none ∧
  t σ H1 fun vs H2 => sp (x :: (vs ++ dvs)) H2 Q E) : tMeth C m sp dvs E ta t σ H Q := h
theorem it_of_lst {K : PySem.W.Frag} {α : Type} {R : α → V → Hp → Prop} {fs : List α} {y : V} {H0 H : Hp} {W : It → Hp → Prop} (h : LstOf R fs y H0) (e0 : Same H0 H) (hR : ∀ J ys, Each R fs ys H0 → Walk J fs.length (fun H' => Same H0 H') (YAt ys) → W J H) :
    ∃ a, y = .ref a ∧ (∃ xs, SqL K H a xs) ∧ W (Itl K a) H := by
  obtain ⟨b, ys, rfl, hb, he⟩ := h
  refine ⟨b, rfl, ⟨ys, sameL hb _ e0⟩, hR _ ys he ?_⟩
  rw [← he.len]
  exact walk_list.mono (sameL hb) fun _ _ _ _ _ _ h => h
theorem same_lock {H H' : Hp} {a : Addr} {z : HO} (e : Same H H') : Same (upd H a z) (upd H' a z) := fun b u hb => by
  by_cases q : b = a
  · subst q; rw [upd_same] at hb ⊢; exact hb
  · rw [upd_ne q] at hb ⊢; exact e b u hb
theorem r_pcons {tk tv : TE} {r : List (TE × TE)} {σ : L2.St} {H : Hp} {Q : List (V × V) → Hp → Prop} (h : tk σ H fun x H1 => tv σ H1 fun y H2 => tPairs r σ H2 fun ps H3 => Q ((x, y) :: ps) H3) : tPairs ((tk, tv) :: r) σ H Q := h
theorem r_pnil {σ : L2.St} {H : Hp} {Q : List (V × V) → Hp → Prop} (h : Q [] H) : tPairs [] σ H Q := h
theorem r_gsub {to ti : TE} {t : TSet} {v : V} {σ : L2.St} {H : Hp} {Q : L2.St → Hp → Prop} (h : to σ H fun o H1 => ti σ H1 fun i H2 => t o i v H2 fun H3 => Q σ H3) : gSub to ti t v σ H Q := h
theorem r_set {p : Addr} {xs : List V} {j : Nat} {v : V} {H : Hp} {Q : Hp → Prop} (hp : H p = some (.lst xs)) (hj : j < xs.length) (q : Q (upd H p (.lst (xs.set j v)))) : rSetL (.ref p) (.int (j : Int)) v H Q :=
  ⟨p, xs, j, j, rfl, rfl, hp, by unfold ixN; rw [if_pos (by omega), if_pos (by omega)]; rfl, q⟩
theorem r_ixT {K : PySem.W.Frag} {H : Hp} {Q : VK} {a : Addr} {x : V} {xs : List V} {i : Nat} (h : SqT K H a xs) (hx : xs[i]? = some x) (q : Q x H) : rIxT K (.ref a) (.int (i : Int)) H Q := ⟨a, xs, i, x, rfl, rfl, h, at_nat hx, q⟩
theorem r_ixL {K : PySem.W.Frag} {H : Hp} {Q : VK} {a : Addr} {x : V} {xs : List V} {i : Nat} (h : SqL K H a xs) (hx : xs[i]? = some x) (q : Q x H) : rIxL K (.ref a) (.int (i : Int)) H Q := ⟨a, xs, i, x, rfl, rfl, h, at_nat hx, q⟩
/-! lists of the ints of a function -/
def intL (n : Nat) (F : Nat → Int) : List V := (List.range n).map fun k => V.int (F k)
theorem intL_len (n : Nat) (F : Nat → Int) : (intL n F).length = n := by unfold intL; simp
theorem intL_get {n i : Nat} (F : Nat → Int) (h : i < n) : (intL n F)[i]? = some (.int (F i)) := by
  unfold intL
  rw [List.getElem?_map, List.getElem?_range h]
  rfl
theorem intL_set (n : Nat) (F : Nat → Int) (j : Nat) (v : Int) : (intL n F).set j (.int v) = intL n (fun k => if k = j then v else F k) := by
  refine List.ext_getElem? fun i => ?_
  rw [List.getElem?_set]
  by_cases h : i < n
  · rw [intL_get _ h, intL_get _ h, intL_len]
    by_cases e : j = i
    · subst e
      rw [if_pos rfl, if_pos h, if_pos rfl]
    · rw [if_neg e, if_neg fun z => e z.symm]
  · have h1 : (intL n F)[i]? = none := List.getElem?_eq_none (by rw [intL_len]; omega)
    have h2 : (intL n (fun k => if k = j then v else F k))[i]? = none := List.getElem?_eq_none (by rw [intL_len]; omega)
    rw [h1, h2, intL_len]
    by_cases e : j = i
    · subst e
      rw [if_pos rfl, if_neg h]
    · rw [if_neg e]
theorem intL_zero (n : Nat) : (List.replicate n [V.int 0]).flatten = intL n (fun _ => 0) := by
  unfold intL
  refine List.ext_getElem? fun i => ?_
  have e : (List.replicate n [V.int 0]).flatten = List.replicate n (V.int 0) := by
    induction n with
    | zero => rfl
    | succ n ih => rw [List.replicate_succ, List.flatten_cons, ih]; rfl
  rw [e, List.getElem?_map]
  by_cases h : i < n
  · rw [List.getElem?_replicate, if_pos h, List.getElem?_range h]
    rfl
  · rw [List.getElem?_replicate, if_neg h, List.getElem?_eq_none (by simp; omega)]
    rfl
theorem intL_each {n : Nat} {F : Nat → Int} {H : Hp} : Each IntV ((List.range n).map F) (intL n F) H := by
  have e : intL n F = ((List.range n).map F).map V.int := by unfold intL; rw [List.map_map]; rfl
  rw [e]
  exact int_each
theorem op_neF {X : Cx} {n j : Nat} {C : Addr} {sp : Sp} (F : FnB X.prog X.w X.K X.mg X.base n (EqF X.K C) sp) (hr : Room j X.A) (hn : n + 1 ≤ j) (hne : PySem.W.findIn X.K (.ref C) "__ne__" = some (some (.builtin "object.__ne__")))
    (hsub : PySem.W.subIn X.K (.ref C) (.type "object") = some true) : OpR X (compareOp .NotEq) (rNeI C sp) :=
  let ⟨_, _, _, hp, F, b⟩ := F.ex; op_neI (hr.mono hn) F b hne hp.eq hp.fn hsub
end RS
namespace RS
open PySem PySem.Spec PyProof.Rows L2
open C8 (Cal Mak Met pe_c pe_mk pe_mt pe_mt0 pe_gc call_isC InsC)
open LiI (pe_listItems tListItems rItemsL)
-- PRELUDE BEGIN
local macro_rules | `(tactic| walk_at "side") => `(tactic| (first | assumption | exact p_pos | exact .inl (iv_small _) | exact .inr (iv_small _) | (show (0 : Int) < _; omega) | (refine .inl ⟨?_, ?_⟩ <;> omega) | (refine .inr ⟨?_, ?_⟩ <;> omega) | (refine ⟨?_, ?_⟩ <;> omega) | omega))
local macro_rules | `(tactic| walk_at "s1") => `(tactic| (first
  | with_reducible refine r_seq ?_ | with_reducible refine r_asg ?_ | with_reducible refine r_drop ?_ | with_reducible refine r_ret ?_ | with_reducible refine r_ifS ?_ | with_reducible refine r_next ?_
  | ((with_reducible refine r_name ?_); try dsimp only [List.set_cons_succ, List.set_cons_zero])
  | with_reducible refine r_var0 ?_ | with_reducible refine r_varS ?_
  | with_reducible refine r_c ?_ | with_reducible refine r_op ?_ | with_reducible refine r_un ?_ | with_reducible refine r_I0 ?_ | with_reducible refine r_neg ?_
  | ((with_reducible refine r_I ?hsd ?_); (case hsd => walk_at "side"))
  | with_reducible refine r_dictP ?_ | with_reducible refine r_cb ?_ | with_reducible refine r_cons ?_ | with_reducible refine r_nil ?_ | with_reducible refine r_test ?_ | with_reducible refine r_B ?_ | with_reducible refine r_bl ?_ | with_reducible refine r_not ?_
  | with_reducible refine r_eqI ?_ | with_reducible refine r_neI ?_ | with_reducible refine r_call ?_ | with_reducible refine r_dget ?_ | with_reducible refine r_dput ?_ | with_reducible refine r_ite ?_ | with_reducible refine r_tup ?_ | with_reducible refine r_lst ?_
  | with_reducible refine r_bm ?_ | with_reducible refine r_fld ?_ | with_reducible refine r_par ?_ | with_reducible refine r_par3 ?_
  | ((with_reducible refine r_par2 ?_); try dsimp only [List.set_cons_succ, List.set_cons_zero]) | ((with_reducible refine r_par3' ?_); try dsimp only [List.set_cons_succ, List.set_cons_zero])
  | with_reducible refine r_andV ?_ | with_reducible refine r_orV ?_ | with_reducible refine r_notV ?_ | with_reducible refine r_and ?_ | with_reducible refine r_or ?_
  | with_reducible refine r_true ?_ | with_reducible refine r_false ?_
  | with_reducible refine r_rng1 ?_
  | with_reducible refine r_gtup rfl ?_ | with_reducible refine r_gcons ?_ | with_reducible refine r_gnil ?_ | with_reducible refine r_dnew ?_ | with_reducible refine r_din ?_ | with_reducible refine r_dnotin ?_ | with_reducible refine r_aug ?_ | with_reducible refine r_tYes ?_ | with_reducible refine r_gsub ?_ | with_reducible refine r_U (by assumption) ?_ | with_reducible refine r_pcons ?_ | with_reducible refine r_pnil ?_ | with_reducible refine r_meth ?_ | with_reducible refine r_make ?_ | with_reducible refine r_sfld ?_ | with_reducible refine r_chain ?_))
local macro_rules | `(tactic| walk_at "go") => `(tactic| repeat walk_at "s1")
local macro_rules | `(tactic| walk_at "st") => `(tactic| (simp only [L2.start, List.map_cons, List.map_nil, List.length_cons, List.length_nil, Nat.reduceAdd, Nat.reduceSub, List.replicate, List.cons_append, List.nil_append]))
local macro_rules | `(tactic| walk_at "lc") => `(tactic| (simp only [List.map_cons, List.map_nil, wipe, List.set_cons_succ, List.set_cons_zero, Int.toNat_natCast]))
-- PRELUDE END
section
variable {P : Program} {w : World} {K : PySem.W.Frag} {mg : Str → Option Value} {base : Heap} {d : Ad} {p : Nat} [Pr p]
abbrev s_lessened : Stmt := top 25
theorem sc_lessened : FnScope ["prime", "row", "other", "many", "found", "k", "item"] ["prime", "row", "other", "many"] (defScope s_lessened) := ⟨rfl, rfl, rfl, by decide +kernel, rfl, by decide +kernel, by decide +kernel⟩
def spLess (p : Nat) [Pr p] : Sp := fun vs H Q _ => ∃ (a b : Addr) (f g : Vec p) (c : Fin p) (n : Nat), vs = [.int p, .ref a, .ref b, .int (iv c)] ∧ RowAt H a f ∧ RowX H b g ∧ Bd f n ∧ Bd g n ∧ n ≤ 2000 ∧
  ∀ q H', Same H H' → H q = none → RowX H' q (fun k => f k - c * g k) → Q (.ref q) H'
theorem ok_lessened (T : Tx K mg d) (D : Df K mg "lessened" s_lessened) : Cal P w K mg base 1 "lessened" (U fun p _ => spLess p) [] := by
  have nd := sc_lessened.nd
  refine mkCalU D sc_lessened (fun p hp vs H Q E h => ?_) (fun _ _ _ _ _ _ us hl => match us, hl with | [_, _, _, _], _ => rfl) (fun p hp f0 cdv A outer s H vs Q E hr h => ?_)
  · obtain ⟨a, b, f, g, c, n, rfl, _⟩ := h
    rfl
  obtain ⟨a, b, f, g, c, n, rfl, ⟨kf, ha, hf⟩, ⟨kg, hb, hg⟩, bf, bg, hn, k⟩ := h
  have hu := hu_of hr
  refine ⟨_, (pss_cons (ps_set (i := 4) nd rfl (Or.inl rfl) (pe_callTy call_dictD (by rfl) T.dict_ (by decide +kernel) (pa_cons (pv 1) pa_nil)))
    (pss_cons (ps_lock (ps_for PassesOwn.never rfl (pi_keys (pv 2)) (pg_name (i := 5) nd rfl (Or.inl rfl)) 
      (pss_cons (ps_set (i := 6) nd rfl (Or.inl rfl) (pe_op op_mod (pe_op op_sub (pe_dpop2 (pv 4) (pv 5) pe_int ⟨rfl, rfl, rfl, rfl⟩) (pe_op op_mul (pv 3) (pe_dget hu (pv 2) (pv 5) (fun _ _ => rfl)))) (pv 0)))
      (pss_one (ps_if (pt_cmpR op_ne (pv 6) pe_int (nomark _)) 
        (pss_one (ps_dput hu (pv 4) (pv 5) (pv 6) rfl)) pss_nil)))))
    (pss_one (ps_ret (pv 4))))), ?_⟩
  walk_at "st"
  walk_at "go"
  refine ⟨a, kf, rfl, ha, fun q hq => ?_⟩
  walk_at "go"
  have nbq : b ≠ q := ne_of_none hb hq
  obtain ⟨kg', hkn, rfl, hkg⟩ := id hg
  refine ⟨b, .dK (kg'.map (ent g)), by rw [upd_ne nbq]; exact hb, trivial, fun od => ⟨_, rfl, b, od, rfl, .inl ⟨_, upd_same, ?_⟩⟩⟩
  have S0 : Same (upd H b (.frz od (.dK (kg'.map (ent g))))) (upd (upd H q (.dK kf)) b (.frz od (.dK (kg'.map (ent g))))) := fun x v hx => by
    by_cases e : x = b
    · subst e; rw [upd_same] at hx ⊢; exact hx
    · rw [upd_ne e] at hx ⊢
      rw [upd_ne (ne_of_none hx hq)]
      exact hx
  have hqL : (upd H b (.frz od (.dK (kg'.map (ent g))))) q = none := by rw [upd_ne nbq.symm]; exact hq
  refine for_it walk_keys (fun i σ H' => (∃ v5 v6, σ = [some (.int p), some (.ref a), some (.ref b), some (.int (iv c)), some (.ref q), v5, v6]) ∧ Same (upd H b (.frz od (.dK (kg'.map (ent g))))) H' ∧ RowX H' q (fun k => if k ∈ kg'.take i then f k - c * g k else f k)) ?_ ?_ ?_ ?_
  · refine ⟨⟨none, none, rfl⟩, S0, kf, by rw [upd_ne nbq.symm, upd_same], hf.same fun k => by simp⟩
  · rintro i σ H' hi ⟨_, e, _⟩
    exact e b _ upd_same
  · rintro i x σ H' H'' hi ⟨⟨v5, v6, rfl⟩, e, kq, hq', sq⟩ ⟨rfl, k, v, hk, rfl⟩
    rw [List.length_map] at hi
    rw [List.getElem?_map, List.getElem?_eq_getElem hi] at hk
    obtain ⟨rfl, rfl⟩ : (Sum.inl ((kg'[i] : Nat) : Int) : Key) = k ∧ V.int (iv (g kg'[i])) = v := by
      have := Option.some.inj hk
      exact ⟨congrArg Prod.fst this, congrArg Prod.snd this⟩
    have hj := List.getElem?_eq_getElem hi
    generalize kg'[i] = j at *
    have hjm : j ∈ kg' := List.mem_of_getElem? hj
    have hgj : g j ≠ 0 := (hkg j).mp hjm
    obtain ⟨htk, hjt⟩ := take_succ_nodup hkn hj
    have heb : H'' b = some (.frz od (.dK (kg'.map (ent g)))) := e b _ upd_same
    walk_at "go"
    refine s_pop (by rfl) (by rfl) (by exact ⟨kq, hq', sq⟩) fun H3 o3 r3 => ?_
    have e3 := o3.same e hqL
    have gb : RowAt H3 b g := ⟨_, .inr ⟨od, e3 b _ upd_same⟩, hg⟩
    walk_at "go"
    refine ⟨b, _, rfl, DGet.row gb hgj, ?_⟩
    walk_at "go"
    have val : (iv (if j ∈ kg'.take i then f j - c * g j else f j) - iv c * iv (g j)) % (p : Int) = iv (f j - c * g j) := by
      rw [if_neg hjt, ← iv_md (p := p), md_sub, md_mul, md_iv, md_iv, md_iv]
    rw [val]
    have nxt : (fun k => if k ∈ kg'.take (i + 1) then f k - c * g k else f k) = set1 (set1 (fun k => if k ∈ kg'.take i then f k - c * g k else f k) j 0) j (f j - c * g j) := by
      funext m
      rw [htk]
      unfold set1
      by_cases y : m = j
      · subst y; simp
      · simp [y]
    refine r_ndec (fun z => ?_) (fun z => ?_)
    · have hb3 : Bd (set1 (fun k => if k ∈ kg'.take i then f k - c * g k else f k) j 0) n := fun m hm => by
        unfold set1
        have h1 := bf m hm
        have h2 := bg m hm
        by_cases y : m = j
        · rw [if_pos y]
        · rw [if_neg y]
          dsimp only
          rw [h1, h2]
          split <;> grind
      obtain ⟨H4, p4, o4, r4⟩ := DPut.row (k := j) r3 (by unfold set1; rw [if_pos rfl]) (fun h => z (iv_eq_zero.mpr h)) hb3 hn
      walk_at "go"
      refine ⟨q, H4, rfl, p4, ⟨_, _, rfl⟩, o4.same e3 hqL, ?_⟩
      rw [nxt]
      exact r4
    · walk_at "go"
      refine ⟨⟨_, _, rfl⟩, e3, ?_⟩
      rw [nxt, iv_eq_zero.mp z]
      obtain ⟨kv, r, sp⟩ := r3
      refine ⟨kv, r, sp.same fun m => ?_⟩
      unfold set1
      by_cases y : m = j
      · rw [if_pos y, if_pos y]
      · rw [if_neg y, if_neg y]
  · rintro σ H' ⟨⟨v5, v6, rfl⟩, e, hq'⟩
    refine ⟨e b _ upd_same, _, rfl, k q _ (Same.unlock hb e) hq ?_⟩
    obtain ⟨kv, r, sp⟩ := hq'
    refine ⟨kv, by rw [upd_ne nbq.symm]; exact r, sp.same fun m => ?_⟩
    rw [List.length_map, List.take_length]
    by_cases y : m ∈ kg'
    · rw [if_pos y]
    · rw [if_neg y]
      have : g m = 0 := Classical.byContradiction fun h => y ((hkg m).mpr h)
      rw [this]
      grind
end
section
variable {P : Program} {w : World} {K : PySem.W.Frag} {mg : Str → Option Value} {base : Heap} {d : Ad} {p : Nat} [Pr p]
/-! ### whole_row -/
abbrev s_whole_row : Stmt := top 24
theorem sc_whole_row : FnScope ["size", "sparse", "k"] ["size", "sparse"] (defScope s_whole_row) := ⟨rfl, rfl, rfl, by decide +kernel, rfl, by decide +kernel, by decide +kernel⟩
def spWhole (p : Nat) [Pr p] : Sp := fun vs H Q _ => ∃ (n : Nat) (a : Addr) (f : Vec p), vs = [.int n, .ref a] ∧ RowAt H a f ∧ n ≤ 2000 ∧ ∀ y H', Same H H' → TupOf IntV (rowI n f) y (New H H') → Q y H'
theorem ok_whole_row (T : Tx K mg d) (D : Df K mg "whole_row" s_whole_row) : Cal P w K mg base 1 "whole_row" (U fun p _ => spWhole p) [] := by
  have nd := sc_whole_row.nd
  refine mkCalU D sc_whole_row (fun p hp vs H Q E h => ?_) (fun _ _ _ _ _ _ us hl => match us, hl with | [_, _], _ => rfl) (fun p hp f0 cdv A outer s H vs Q E hr h => ?_)
  · obtain ⟨n, a, f, rfl, _⟩ := h
    rfl
  obtain ⟨n, a, f, rfl, ha, hn, k⟩ := h
  have hu := hu_of hr
  refine ⟨_, (pss_one (ps_ret (pe_callTy (call_tupK (K := K)) (by rfl) T.tuple_ (by decide +kernel) (pa_cons (pe_lc (own := [("k", 2)]) (g := gName 2) (tt := tYes) rfl nd (pi_range1 rfl T.range (pa_cons (pv 0) pa_nil)) (blkOk_by (by kernel_rfl)) (fun _ _ _ _ _ => (pg_name (i := 2) nd rfl (Or.inl rfl))) (fun _ _ _ _ _ => pts_nil) (fun _ _ _ _ _ => (pe_dget2 hu (pv 1) (pv 2) pe_int ⟨rfl, rfl, rfl, rfl⟩))) pa_nil)))), ?_⟩
  walk_at "st"
  walk_at "go"
  refine r_lc ?_
  walk_at "go"
  refine ⟨_, rfl, by omega, by omega, ?_⟩
  rw [Int.toNat_natCast]
  refine lc_new (R := IntV) (walk_range (lo := 0) (n := n)) (fun _ => true) (fun i => iv (f i)) (fun _ _ => trivial) (by omega) (fun i x H1 H2 kY kN hi e y hY hN => ?_) (fun D H' ys hD e hy m => ?_)
  · obtain ⟨rfl, rfl⟩ := y
    walk_at "lc"
    walk_at "go"
    refine ⟨rfl, ?_⟩
    walk_at "go"
    refine s_get0 (k := i) (fun Q q => ?_) (fun Q q => ?_) (ha.rd (Same.rd e)) ?_
    · walk_at "go"; exact q
    · walk_at "go"; rw [Int.zero_add]; exact q
    · exact hY _ _ rfl (Same.refl _) rfl
  · walk_at "go"
    refine ⟨D, ys, rfl, .inl ⟨SqL.of hy, fun l hl => ?_⟩⟩
    rw [tk_all] at m
    exact k _ _ (Same.trans e (Same.new hl)) ⟨l, ys, rfl, by rw [New.at_ (none_of e hl)]; exact upd_same, m.mono (New.mono (Same.new hl))⟩
/-! ### few -/
abbrev s_few : Stmt := top 23
theorem sc_few : FnScope ["prime", "row", "k", "item"] ["prime", "row"] (defScope s_few) := ⟨rfl, rfl, rfl, by decide +kernel, rfl, by decide +kernel, by decide +kernel⟩
def spFew (p : Nat) [Pr p] : Sp := fun vs H Q _ => ∃ (y : V) (ns : List Int), vs = [.int p, y] ∧ SeqOf IntV ns y H ∧ ns.length ≤ 2000 ∧ ∀ y H', Same H H' → RowV (vecI (p := p) ns) y (New H H') → Q y H'
theorem ok_few (T : Tx K mg d) (D : Df K mg "few" s_few) : Cal P w K mg base 1 "few" (U fun p _ => spFew p) [] := by
  have nd := sc_few.nd
  refine mkCalU D sc_few (fun p hp vs H Q E h => ?_) (fun _ _ _ _ _ _ us hl => match us, hl with | [_, _], _ => rfl) (fun p hp f0 cdv A outer s H vs Q E hr h => ?_)
  · obtain ⟨n, a, rfl, _⟩ := h
    rfl
  obtain ⟨y, ns, rfl, ha, hn, k⟩ := h
  have hu := hu_of hr
  refine ⟨_, (pss_one (ps_ret (pe_callTy (cr_dictP rfl) (by rfl) T.dict_ (by decide +kernel) (pa_cons (pe_lc (own := [("k", 2), ("item", 3)]) (g := gTup K 2 (gCons (gName 2) (gCons (gName 3) gNil)))  rfl nd (pi_or (pi_enumK (K := K) rfl T.enumerate (pa_cons (pv 1) pa_nil)) (pi_enumTK (K := K) rfl T.enumerate (pa_cons (pv 1) pa_nil))) (blkOk_by (by kernel_rfl)) (fun _ _ _ _ _ => (pg_tup rfl (pgs_cons (pg_name (i := 2) nd rfl (Or.inl rfl)) (pgs_cons (pg_name (i := 3) nd rfl (Or.inl rfl)) pgs_nil)))) (fun _ _ _ _ _ => (pts_one (pt_cmpR op_ne (pe_op op_mod (pv 3) (pv 0)) pe_int (nomark _)))) (fun _ _ _ _ _ => (pe_tup (pa_cons (pv 2) (pa_cons (pe_op op_mod (pv 3) (pv 0)) pa_nil))))) pa_nil)))), ?_⟩
  walk_at "st"
  walk_at "go"
  refine r_dictP' (r_cons (r_lc ?_))
  refine r_enumS ha (Same.refl _) (fun QA q => by walk_at "go"; exact q) fun J ys hy wk => ?_
  refine lc_new wk (R := PairV) (fun i => decide (vecI (p := p) ns i ≠ 0)) (fun i => (i, V.int (iv (vecI (p := p) ns i)))) (fun _ h => h) (by omega) (fun i x H1 H2 kY kN hi e y hY hN => ?_) (fun D H' ys hD e hy m => ?_)
  · obtain ⟨T, x1, z, rfl, hT, rfl, h1, h2⟩ := y
    cases h1
    obtain ⟨ni, hni, rfl⟩ := hy.yet h2
    have hv : ni % (p : Int) = iv (vecI (p := p) ns i) := by
      unfold vecI
      rw [getD_some hni, iv_md]
    walk_at "lc"
    walk_at "go"
    refine ⟨rfl, ?_⟩
    walk_at "go"
    rw [hv]
    refine r_ndec (fun z => ?_) fun z => ?_
    · walk_at "go"
      refine ⟨by show 2 ≤ sizeLine; decide, fun q hq => hY _ _ (decide_eq_true fun h => z (iv_eq_zero.mpr h)) (Same.trans (Same.new hT) (Same.new hq)) ?_⟩
      exact ⟨q, rfl, by rw [New.at_ (none_of (Same.new hT) hq), upd_same, hv]⟩
    · exact hN _ (decide_eq_false fun h => h (iv_eq_zero.mp z)) (Same.new hT)
  · walk_at "go"
    have e1 := m.mono New.le
    have e2 : (((tk ns.length fun i => decide (vecI (p := p) ns i ≠ 0)).map fun i => (i, V.int (iv (vecI (p := p) ns i)))).map (·.1)) = tk ns.length fun i => decide (vecI (p := p) ns i ≠ 0) := by
      rw [List.map_map]
      exact List.map_id _
    refine dict_pairs e1 (by rw [e2]; exact tk_nodup) hy fun a ha => ?_
    refine k _ _ (Same.trans e (Same.new ha)) (RowX.new (none_of e ha) ⟨_, upd_same, spK_of (by rw [e2]; exact tk_nodup) (fun e he => ?_) fun k => ?_⟩)
    · obtain ⟨i, _, rfl⟩ := List.mem_map.mp he
      rfl
    · rw [e2, mem_tk]
      constructor
      · intro h
        exact ⟨Nat.lt_of_not_le fun z => h (vecI_bd ns k z), decide_eq_true h⟩
      · intro h
        exact of_decide_eq_true h.2
/-! ### undone -/
abbrev s_undone : Stmt := top 22
theorem sc_undone : FnScope ["prime", "number", "found", "base", "left"] ["prime", "number"] (defScope s_undone) := ⟨rfl, rfl, rfl, by decide +kernel, rfl, by decide +kernel, by decide +kernel⟩
def pw (x : Fin p) : Nat → Fin p
  | 0 => 1
  | n + 1 => pw x n * x
theorem pw_val (x : Fin p) : ∀ n, (pw x n).val = x.val ^ n % p
  | 0 => rfl
  | n + 1 => by
    show (pw x n * x).val = _
    rw [Fin.val_mul, pw_val x n, Nat.pow_succ, Nat.mod_mul_mod]
theorem pw_add (x : Fin p) (m : Nat) : ∀ n, pw x (m + n) = pw x m * pw x n
  | 0 => by show pw x m = pw x m * 1; grind
  | n + 1 => by
    show pw x (m + n) * x = pw x m * (pw x n * x)
    rw [pw_add x m n]
    grind
theorem pw_sq (x : Fin p) : ∀ n, pw (x * x) n = pw x (n + n)
  | 0 => rfl
  | n + 1 => by
    show pw (x * x) n * (x * x) = pw x (n + 1 + (n + 1))
    rw [pw_sq x n, show n + 1 + (n + 1) = (n + n) + 2 by omega, pw_add x (n + n) 2]
    show _ = _ * (1 * x * x)
    have : pw x (n + n) = pw x n * pw x n := pw_add x n n
    rw [this]
    grind
def fermat (p : Nat) : Bool := (List.range p).all fun x => x == 0 || x * x ^ (p - 2) % p == 1
theorem fermat_ok : fermat p = true := by
  have h := (inferInstance : Pr p).mem
  simp only [List.mem_cons, List.not_mem_nil, or_false] at h
  rcases h with h | h | h | h | h | h | h <;> (rw [h]; decide +kernel)
theorem pw_inv {x : Fin p} (hx : x ≠ 0) : x * pw x (p - 2) = 1 := by
  have h := List.all_eq_true.mp (fermat_ok (p := p)) x.val (List.mem_range.mpr x.isLt)
  rcases Bool.or_eq_true_iff.mp h with h | h
  · exact absurd (Fin.ext (beq_iff_eq.mp h)) hx
  · apply Fin.ext
    rw [Fin.val_mul, pw_val, Nat.mul_mod_mod, beq_iff_eq.mp h]
    have e1 : (1 : Fin p).val = 1 % p := rfl
    have h1 := Pr.ge (p := p)
    rw [e1, Nat.mod_eq_of_lt (by omega)]
def spUndone (p : Nat) [Pr p] : Sp := fun vs H Q _ => ∃ (x : Fin p), vs = [.int p, .int (iv x)] ∧ x ≠ 0 ∧ ∀ z : Fin p, x * z = 1 → Q (.int (iv z)) H
theorem ok_undone (T : Tx K mg d) (D : Df K mg "undone" s_undone) : Cal P w K mg base 1 "undone" (U fun p _ => spUndone p) [] := by
  have nd := sc_undone.nd
  refine mkCalU D sc_undone (fun p hp vs H Q E h => ?_) (fun _ _ _ _ _ _ us hl => match us, hl with | [_, _], _ => rfl) (fun p hp f0 cdv A outer s H vs Q E hr h => ?_)
  · obtain ⟨n, rfl, _⟩ := h
    rfl
  obtain ⟨x, rfl, hx, k⟩ := h
  have hu := hu_of hr
  refine ⟨_, (pss_cons (ps_par3 (i := 2) (j := 3) (l := 4) rfl nd rfl rfl rfl (by decide) (by decide) (by decide) rfl rfl rfl (pa_cons pe_int (pa_cons (pe_op op_mod (pv 1) (pv 0)) (pa_cons (pe_op op_sub (pv 0) pe_int) pa_nil))) (by rfl))
    (pss_cons (ps_while PassesOwn.never (pt_cmpR op_gt (pv 4) pe_int (nomark _)) 
      (pss_cons (ps_if (pt_cmpR op_eq (pe_op op_mod (pv 4) pe_int) pe_int (nomark _)) 
        (pss_one (ps_set (i := 2) nd rfl (Or.inl rfl) (pe_op op_mod (pe_op op_mul (pv 2) (pv 3)) (pv 0)))) pss_nil)
      (pss_one (ps_par (i := 3) (j := 4) rfl nd rfl rfl (by decide) rfl rfl (pa_cons (pe_op op_mod (pe_op op_mul (pv 3) (pv 3)) (pv 0)) (pa_cons (pe_op op_fdiv (pv 4) pe_int) pa_nil)) (by rfl)))))
    (pss_one (ps_ret (pv 2))))), ?_⟩
  walk_at "st"
  walk_at "go"
  have hp := Pr.ge (p := p)
  refine ⟨fun m σ H' => H' = H ∧ ∃ f b : Fin p, σ = [some (.int p), some (.int (iv x)), some (.int (iv f)), some (.int (iv b)), some (.int (m : Nat))] ∧ f * pw b m = pw x (p - 2), ⟨p - 2, rfl, 1, x, ?_, ?_⟩, ?_⟩
  · rw [iv_mod]
    have e : ((p - 2 : Nat) : Int) = (p : Int) - 2 := by omega
    rw [e]
    have e1 : iv (1 : Fin p) = 1 := by
      have := iv_md (p := p) 1
      rw [md_one] at this
      rw [this, Int.emod_eq_of_lt (by omega) (by omega)]
    rw [e1]
  · grind
  rintro m σ H' ⟨rfl, f, b, rfl, inv⟩
  walk_at "go"
  have fb : ∀ f b : Fin p, iv f * iv b % (p : Int) = iv (f * b) := fun f b => (iv_mul f b).symm
  have hd : ((m : Nat) : Int) / 2 = ((m / 2 : Nat) : Int) := by omega
  refine r_dec (fun z => ⟨_, fun _ _ h => h, ?_⟩) fun z => ?_
  · have hm : m / 2 < m := by omega
    walk_at "go"
    refine r_dec (fun q => ?_) fun q => ?_
    · walk_at "go"
      rw [hd, fb, fb]
      refine ⟨m / 2, hm, rfl, _, _, rfl, ?_⟩
      rw [pw_sq]
      have : m = (m / 2 + m / 2) + 1 := by omega
      rw [this, pw_add] at inv
      have e1 : pw b 1 = b := by show 1 * b = b; grind
      rw [e1] at inv
      grind
    · walk_at "go"
      rw [hd, fb]
      refine ⟨m / 2, hm, rfl, _, _, rfl, ?_⟩
      rw [pw_sq]
      have : m / 2 + m / 2 = m := by omega
      rw [this]
      exact inv
  · have : m = 0 := by omega
    subst this
    walk_at "go"
    have e1 : pw b 0 = 1 := rfl
    rw [e1] at inv
    refine k f ?_
    have := pw_inv hx
    rw [← inv] at this
    grind
end
section
variable {P : Program} {w : World} {K : PySem.W.Frag} {mg : Str → Option Value} {base : Heap} {d : Ad} {p : Nat} [Pr p]
/-! ### cleared -/
abbrev s_cleared : Stmt := top 26
theorem sc_cleared : FnScope ["prime", "row", "heads", "found", "spots", "k"] ["prime", "row", "heads"] (defScope s_cleared) := ⟨rfl, rfl, rfl, by decide +kernel, rfl, by decide +kernel, by decide +kernel⟩
def spCleared (p : Nat) [Pr p] : Sp := fun vs H Q _ => ∃ (a hd : Addr) (f : Vec p) (hs : List (Hd p)) (kvs : List (Key × V)) (n : Nat), vs = [.int p, .ref a, .ref hd] ∧ RowAt H a f ∧ H hd = some (.dK kvs) ∧ DicK RowV hs kvs H ∧ Red hs ∧ Bd f n ∧ (∀ e ∈ hs, Bd e.2 n) ∧ n ≤ 2000 ∧
  ∀ q H' g, Same H H' → H q = none → RowX H' q g → Bd g n → (∀ e ∈ hs, g e.1 = 0) → SpanH hs (fun j => f j - g j) → Q (.ref q) H'
theorem map_two (f : Nat → Nat) (l : List Nat) : l.map (fun i => V.int (f i : Nat)) = (l.map f).map fun (k : Nat) => V.int (k : Int) := (List.map_map (l := l) (f := f) (g := fun (k : Nat) => V.int (k : Int))).symm
/-- [k for k in sorted(found) if k in heads] -/
theorem t_spots {x0 x1 x4 x5 : Option V} {q hd : Addr} {g : Vec p} {hs : List (Hd p)} {kvs : List (Key × V)} {n : Nat} {H : Hp} {Q : VK} (hq : RowX H q g) (hh : H hd = some (.dK kvs)) (dk : DicK RowV hs kvs H) (R : Red hs) (bg : Bd g n) (hn : n ≤ 2000)
    (k : ∀ D H' (sl : List Nat), Same H H' → H D = none → H' D = some (.lst (sl.map fun (k : Nat) => V.int (k : Int))) → (∀ k, k ∈ sl ↔ g k ≠ 0 ∧ ∃ e ∈ hs, e.1 = k) → Q (.ref D) H') :
    tLc (iList K (tCB rSortedDK (tCons (tVar 3) tNil))) (gName 5) (tB (tDIn (tVar 5) (tVar 2))) (tVar 5) [5] [x0, x1, some (.ref hd), some (.ref q), x4, x5] H Q := by
  obtain ⟨kg, hkg, kk, hkn, rfl, hkk⟩ := hq
  refine r_lc ?_
  show (tCB rSortedDK (tCons (tVar 3) tNil)) _ _ _
  walk_at "go"
  have hlen : kk.length ≤ 2000 := by
    have := SpK.len (f := g) ⟨kk, hkn, rfl, hkk⟩ bg
    rw [List.length_map] at this
    omega
  refine ⟨q, kk.map (ent g), kk.map fun (k : Nat) => (k : Int), rfl, .inl hkg, by rw [List.map_map, List.map_map]; rfl, by rw [List.length_map]; omega, fun ys s hp _ hs0 => ?_⟩
  obtain ⟨yl, rfl, hyp⟩ := perm_nat hp
  refine ⟨s, rfl, ⟨_, SqL.of upd_same⟩, ?_⟩
  have hyl : yl.length = kk.length := hyp.length_eq
  have hL : ∀ H', Same (upd H s (.lst ((yl.map fun (k : Nat) => (k : Int)).map V.int))) H' → SqL K H' s ((yl.map fun (k : Nat) => (k : Int)).map V.int) := fun H' e => SqL.of (e s _ upd_same)
  refine lc_rel (walk_list.mono (n := ((yl.map fun (k : Nat) => (k : Int)).map V.int).length) hL fun _ _ _ _ _ _ h => h) (fun i => decide (∃ e ∈ hs, e.1 = yl.getD i 0)) (fun i y H => y = .int (yl.getD i 0 : Nat)) (fun i y H H' e h => h) (fun _ h => h) (by simp; omega) (fun i x H1 H2 kY kN hi e y hY hN => ?_) (fun D H' ys hD e hy m => ?_)
  · obtain ⟨rfl, hx⟩ := y
    rw [List.map_map, List.getElem?_map] at hx
    simp only [List.length_map] at hi
    rw [List.getElem?_eq_getElem hi] at hx
    cases hx
    have hgd : yl.getD i 0 = yl[i] := getD_some (List.getElem?_eq_getElem hi)
    walk_at "lc"
    walk_at "go"
    refine ⟨rfl, ?_⟩
    walk_at "go"
    have e1 := Same.trans (Same.new hs0) e
    obtain ⟨o, h1, h2⟩ := (dk.mono e1).din R.nd (.inl (e1 hd _ hh)) yl[i]
    refine ⟨hd, o, rfl, h1, ?_⟩
    rw [h2]
    refine r_bl ?_
    refine r_dec (fun z => ?_) fun z => ?_
    · walk_at "go"
      exact hY _ _ (by rw [hgd]; exact decide_eq_true z) (Same.refl _) fun _ _ _ => by rw [hgd]; rfl
    · exact hN _ (by rw [hgd]; exact decide_eq_false z) (Same.refl _)
  · have := mad_eq m
    refine k D H' ((tk ((yl.map fun (k : Nat) => (k : Int)).map V.int).length fun i => decide (∃ e ∈ hs, e.1 = yl.getD i 0)).map fun i => yl.getD i 0) (Same.trans (Same.new hs0) e) (none_of (Same.new hs0) hD) (by rw [hy, this, map_two]) fun k => ?_
    rw [List.mem_map]
    constructor
    · rintro ⟨i, hi, rfl⟩
      obtain ⟨h1, h2⟩ := mem_tk.mp hi
      simp only [List.length_map] at h1
      refine ⟨?_, of_decide_eq_true h2⟩
      rw [getD_some (List.getElem?_eq_getElem h1)]
      exact (hkk _).mp (hyp.mem_iff.mp (List.getElem_mem h1))
    · rintro ⟨h1, h2⟩
      obtain ⟨i, hi, rfl⟩ := List.getElem_of_mem (hyp.mem_iff.mpr ((hkk _).mpr h1))
      refine ⟨i, mem_tk.mpr ⟨by simpa using hi, ?_⟩, getD_some (List.getElem?_eq_getElem hi)⟩
      rw [getD_some (List.getElem?_eq_getElem hi)]
      exact decide_eq_true h2
theorem ok_cleared (T : Tx K mg d) (D : Df K mg "cleared" s_cleared) (c_lessened : Cal P w K mg base 1 "lessened" (U fun p _ => spLess p) []) : Cal P w K mg base 2 "cleared" (U fun p _ => spCleared p) [] := by
  have nd := sc_cleared.nd
  refine mkCalU D sc_cleared (fun p hp vs H Q E h => ?_) (fun _ _ _ _ _ _ us hl => match us, hl with | [_, _, _], _ => rfl) (fun p hp f0 cdv A outer s H vs Q E hr h => ?_)
  · obtain ⟨a, hd, f, hs, kvs, n, rfl, _⟩ := h
    rfl
  obtain ⟨a, hd, f, hs, kvs, n, rfl, ⟨kf, ha, hf⟩, hh, dk, R, bf, bh, hn, k⟩ := h
  have hu := hu_of hr
  refine ⟨_, (pss_cons (ps_set (i := 3) nd rfl (Or.inl rfl) (pe_callTy call_dictD (by rfl) T.dict_ (by decide +kernel) (pa_cons (pv 1) pa_nil)))
    (pss_cons (ps_setLc (own := [("k", 5)]) (g := gName 5)  (i := 4) rfl nd rfl rfl (sw_true rfl rfl rfl (by decide +kernel)) (pi_listK (K := K) (pe_callB (cr_sortedDK rfl) (by rfl) T.sorted (by decide +kernel) (pa_cons (pv 3) pa_nil))) (blkOk_by (by kernel_rfl)) (fun _ _ _ _ _ => (pg_name (i := 5) nd rfl (Or.inl rfl))) (fun _ _ _ _ _ => (pts_one (pt_cmp (pc_din hu (pv 5) (pv 2))))) (fun _ _ _ _ _ => (pv 5)))
    (pss_cons (ps_while PassesOwn.never (pt_cmpR (op_neNil hr.units0) (pv 4) (pe_lst pa_nil) (nomark _)) 
      (pss_cons (ps_set (i := 3) nd rfl (Or.inl rfl) (pe_c c_lessened hr (by decide) rfl (pa_cons (pv 0) (pa_cons (pv 3) (pa_cons (pe_dget hu (pv 2) (pe_ix (ix_listK (K := K)) (pv 4) pe_int (fun _ _ => rfl)) (fun _ _ => rfl)) (pa_cons (pe_dget hu (pv 3) (pe_ix (ix_listK (K := K)) (pv 4) pe_int (fun _ _ => rfl)) (fun _ _ => rfl)) pa_nil))))))
      (pss_one (ps_setLc (own := [("k", 5)]) (g := gName 5)  (i := 4) rfl nd rfl rfl (sw_true rfl rfl rfl (by decide +kernel)) (pi_listK (K := K) (pe_callB (cr_sortedDK rfl) (by rfl) T.sorted (by decide +kernel) (pa_cons (pv 3) pa_nil))) (blkOk_by (by kernel_rfl)) (fun _ _ _ _ _ => (pg_name (i := 5) nd rfl (Or.inl rfl))) (fun _ _ _ _ _ => (pts_one (pt_cmp (pc_din hu (pv 5) (pv 2))))) (fun _ _ _ _ _ => (pv 5))))))
    (pss_one (ps_ret (pv 3)))))), ?_⟩
  walk_at "st"
  walk_at "go"
  refine ⟨a, kf, rfl, ha, fun q hq => ?_⟩
  walk_at "go"
  have e0 : Same H (upd H q (.dK kf)) := Same.new hq
  refine t_spots (g := f) ⟨kf, upd_same, hf⟩ (e0 hd _ hh) (dk.mono e0) R bf hn fun D H1 sl e1 hD hDl hsl => ?_
  walk_at "go"
  refine ⟨fun m σ H' => Same H H' ∧ ∃ (q D : Addr) (g : Vec p) (sl : List Nat) (v5 : Option V), σ = [some (.int p), some (.ref a), some (.ref hd), some (.ref q), some (.ref D), v5] ∧ H q = none ∧ RowX H' q g ∧ Bd g n ∧ SpanH hs (fun j => f j - g j) ∧
    H' D = some (.lst (sl.map fun (k : Nat) => V.int (k : Int))) ∧ (∀ k, k ∈ sl ↔ g k ≠ 0 ∧ ∃ e ∈ hs, e.1 = k) ∧ m = (hs.filter fun e => decide (g e.1 ≠ 0)).length, ⟨_, Same.trans e0 e1, q, D, f, sl, _, rfl, hq, ⟨kf, e1 q _ upd_same, hf⟩, bf, ?_, hDl, hsl, rfl⟩, ?_⟩
  · have : (fun j => f j - f j) = (zv : Vec p) := vext fun j => by show f j - f j = 0; grind
    rw [this]
    exact .zero
  rintro m σ H' ⟨e2, q, D, g, sl, v5, rfl, hq, rq, bg, sp, hDl, hsl, rfl⟩
  walk_at "go"
  refine ⟨by show 0 ≤ sizeLine; omega, fun nl hnl => ?_⟩
  have e3 : Same H' (upd H' nl (.lst [])) := Same.new hnl
  refine r_neNil (SqL.of (e3 D _ hDl)) (SqL.of upd_same) ?_
  have rq3 := rq.same e3
  cases sl with
  | nil =>
    refine r_bl (r_false ?_)
    walk_at "go"
    refine k q _ g (Same.trans e2 e3) hq rq3 bg (fun e he => Classical.byContradiction fun z => ?_) sp
    have := (hsl e.1).mpr ⟨z, e, he, rfl⟩
    simp at this
  | cons k0 sl =>
    refine r_bl (r_true ?_)
    refine ⟨_, fun _ _ h => h, ?_⟩
    walk_at "go"
    obtain ⟨hg0, ⟨k1, f0⟩, hm0, rfl⟩ := (hsl k0).mp List.mem_cons_self
    have e03 := Same.trans e2 e3
    have hD3 : SqL K (upd H' nl (.lst [])) D (V.int (k1 : Int) :: sl.map fun (k : Nat) => V.int (k : Int)) := SqL.of (e3 D _ hDl)
    refine r_ix0 hD3 ?_
    obtain ⟨v, hv, b, rfl, rb⟩ := (dk.mono e03).dgot R.nd (.inl (e03 hd _ hh)) hm0
    refine ⟨hd, _, rfl, hv, ?_⟩
    walk_at "go"
    refine r_ix0 hD3 ?_
    refine ⟨q, _, rfl, DGet.row rq3.at_ hg0, ?_⟩
    walk_at "go"
    refine ⟨q, b, g, f0, g k1, n, rfl, rq3.at_, rb, bg, bh _ hm0, hn, fun q' H4 e4 hq' rq' => ?_⟩
    walk_at "go"
    have e04 := Same.trans e03 e4
    have bg' : Bd (fun k => g k - g k1 * f0 k) n := fun j hj => by
      show g j - g k1 * f0 j = 0
      have h2 : f0 j = 0 := bh _ hm0 j hj
      rw [bg j hj, h2]
      grind
    refine t_spots (g := fun k => g k - g k1 * f0 k) rq' (e04 hd _ hh) (dk.mono e04) R bg' hn fun D' H5 sl' e5 hD' hDl' hsl' => ?_
    walk_at "go"
    have sp' : SpanH hs (fun j => f j - (g j - g k1 * f0 j)) := by
      have := (Span.isSub _).a (g k1) sp (.of ⟨_, hm0, rfl⟩)
      have z : axp (fun j => f j - g j) (g k1) (k1, f0).2 = fun j => f j - (g j - g k1 * f0 j) := vext fun j => by
        show f j - g j + g k1 * f0 j = f j - (g j - g k1 * f0 j)
        grind
      rw [z] at this
      exact this
    refine ⟨_, ?_, Same.trans e04 e5, q', D', _, sl', _, rfl, none_of e03 hq', rq'.same e5, bg', sp', hDl', hsl', rfl⟩
    refine count_lt (fun e he h => ?_) hm0 (decide_eq_true hg0) ?_
    · refine decide_eq_true fun z => of_decide_eq_true h ?_
      by_cases y : e.1 = k1
      · exfalso
        rw [y] at z
        exact hg0 z
      · have h3 : f0 e.1 = 0 := R.off _ hm0 _ he y
        show g e.1 - g k1 * f0 e.1 = 0
        rw [z, h3]
        grind
    · refine decide_eq_false fun z => z ?_
      have h3 : f0 k1 = 1 := R.one _ hm0
      show g k1 - g k1 * f0 k1 = 0
      rw [h3]
      grind
end
section
variable {P : Program} {w : World} {K : PySem.W.Frag} {mg : Str → Option Value} {base : Heap} {d : Ad} {p : Nat} [Pr p]
/-! ### heads_of -/
abbrev s_heads_of : Stmt := top 27
theorem sc_heads_of : FnScope ["prime", "rows", "heads", "row", "fresh", "spot", "back", "other", "k"] ["prime", "rows"] (defScope s_heads_of) := ⟨rfl, rfl, rfl, by decide +kernel, rfl, by decide +kernel, by decide +kernel⟩
def spHeads (p : Nat) [Pr p] : Sp := fun vs H Q _ => ∃ (y : V) (fs : List (Vec p)) (n : Nat), vs = [.int p, y] ∧ LstOf RowV fs y H ∧ (∀ f ∈ fs, Bd f n) ∧ n ≤ 2000 ∧
  ∀ a kvs hs H', Same H H' → H a = none → H' a = some (.dK kvs) → DicK RowV hs kvs (New H H') → Red hs → (∀ e ∈ hs, Bd e.2 n) → (∀ f, SpanH hs f ↔ SpanL fs f) → Q (.ref a) H'
/-- the rows as they stand behind the first turns -/
def mid (hs : List (Hd p)) (k : Nat) (g : Vec p) (ks : List Nat) : List (Hd p) := hs.map fun e => if e.1 ∈ ks then (e.1, fun j => e.2 j - e.2 k * g j) else e
theorem mid_keys (hs : List (Hd p)) (k : Nat) (g : Vec p) (ks : List Nat) : (mid hs k g ks).map (·.1) = hs.map (·.1) := by
  unfold mid
  rw [List.map_map]
  refine List.map_congr_left fun e _ => ?_
  show (if e.1 ∈ ks then (e.1, fun j => e.2 j - e.2 k * g j) else e).1 = _
  split <;> rfl
theorem mid_nil (hs : List (Hd p)) (k : Nat) (g : Vec p) : mid hs k g [] = hs := by
  unfold mid
  refine (List.map_congr_left fun e _ => ?_).trans (List.map_id hs)
  simp
theorem mid_all (hs : List (Hd p)) (k : Nat) (g : Vec p) : mid hs k g (hs.map (·.1)) ++ [(k, g)] = addH hs k g := by
  unfold mid addH
  refine congrArg (· ++ [(k, g)]) (List.map_congr_left fun e he => ?_)
  rw [if_pos (List.mem_map.mpr ⟨e, he, rfl⟩)]
theorem mid_mem {hs : List (Hd p)} (hn : (hs.map (·.1)).Nodup) {k : Nat} {g : Vec p} {ks : List Nat} {e : Hd p} (he : e ∈ hs) (hk : ¬ e.1 ∈ ks) : e ∈ mid hs k g ks := by
  unfold mid
  exact List.mem_map.mpr ⟨e, he, if_neg hk⟩
theorem mid_set {hs : List (Hd p)} (hn : (hs.map (·.1)).Nodup) {k : Nat} {g : Vec p} {ks : List Nat} {e0 : Hd p} (he : e0 ∈ hs) :
    ((mid hs k g ks).map fun e => if e.1 = e0.1 then (e.1, fun j => e0.2 j - e0.2 k * g j) else e) = mid hs k g (ks ++ [e0.1]) := by
  unfold mid
  rw [List.map_map]
  refine List.map_congr_left fun e hm => ?_
  dsimp only [Function.comp]
  by_cases q : e.1 = e0.1
  · have := nd_inj hn hm he q
    subst this
    by_cases z : e.1 ∈ ks <;> simp [z]
  · by_cases z : e.1 ∈ ks <;> simp [z, q]
theorem mid_skip {hs : List (Hd p)} (hn : (hs.map (·.1)).Nodup) {k : Nat} {g : Vec p} {ks : List Nat} {e0 : Hd p} (he : e0 ∈ hs) (h0 : e0.2 k = 0) : mid hs k g ks = mid hs k g (ks ++ [e0.1]) := by
  unfold mid
  refine List.map_congr_left fun e hm => ?_
  by_cases z : e.1 ∈ ks
  · rw [if_pos z, if_pos (List.mem_append_left _ z)]
  · rw [if_neg z]
    by_cases q : e.1 = e0.1
    · have := nd_inj hn hm he q
      subst this
      rw [if_pos (by simp)]
      have : (fun j => e.2 j - e.2 k * g j) = e.2 := vext fun j => by
        rw [h0]
        grind
      rw [this]
    · rw [if_neg (by simp [z, q])]
theorem ok_heads_of (T : Tx K mg d) (D : Df K mg "heads_of" s_heads_of) (c_lessened : Cal P w K mg base 1 "lessened" (U fun p _ => spLess p) []) (c_cleared : Cal P w K mg base 2 "cleared" (U fun p _ => spCleared p) []) (c_undone : Cal P w K mg base 1 "undone" (U fun p _ => spUndone p) []) : Cal P w K mg base 3 "heads_of" (U fun p _ => spHeads p) [] := by
  have nd := sc_heads_of.nd
  refine mkCalU D sc_heads_of (fun p hp vs H Q E h => ?_) (fun _ _ _ _ _ _ us hl => match us, hl with | [_, _], _ => rfl) (fun p hp f0 cdv A outer s H vs Q E hr h => ?_)
  · obtain ⟨y, fs, n, rfl, _⟩ := h
    rfl
  obtain ⟨y, fs, n, rfl, hy, bf, hn, k⟩ := h
  have hu := hu_of hr
  refine ⟨_, (pss_cons (ps_set (i := 2) nd rfl (Or.inl rfl) pe_dnewK)
    (pss_cons (ps_for PassesOwn.never rfl (pi_listK (K := K) (pv 1)) (pg_name (i := 3) nd rfl (Or.inl rfl)) 
      (pss_cons (ps_set (i := 4) nd rfl (Or.inr rfl) (pe_c c_cleared hr (by decide) rfl (pa_cons (pv 0) (pa_cons (pv 3) (pa_cons (pv 2) pa_nil)))))
      (pss_one (ps_if (pt_cmpR (op_neNilD hr.units0) (pv 4) pe_dnewK (nomark _)) 
        (pss_cons (ps_set (i := 5) nd rfl (Or.inl rfl) (pe_callB (cr_minK rfl) (by rfl) T.min (by decide +kernel) (pa_cons (pv 4) pa_nil)))
        (pss_cons (ps_set (i := 6) nd rfl (Or.inr rfl) (pe_c c_undone hr (by decide) rfl (pa_cons (pv 0) (pa_cons (pe_dget hu (pv 4) (pv 5) (fun _ _ => rfl)) pa_nil))))
        (pss_cons (ps_set (i := 4) nd rfl (Or.inr rfl) (pe_callTy (cr_dictP rfl) (by rfl) T.dict_ (by decide +kernel) (pa_cons (pe_lock (pe_lc (own := [("k", 8)]) (g := gName 8) (tt := tYes) rfl nd (pi_keys (pv 4)) (blkOk_by (by kernel_rfl)) (fun _ _ _ _ _ => (pg_name (i := 8) nd rfl (Or.inl rfl))) (fun _ _ _ _ _ => pts_nil) (fun _ _ _ _ _ => (pe_tup (pa_cons (pv 8) (pa_cons (pe_op op_mod (pe_op op_mul (pe_dget hu (pv 4) (pv 8) (fun _ _ => rfl)) (pv 6)) (pv 0)) pa_nil)))))) pa_nil)))
        (pss_cons (ps_for PassesOwn.never rfl (pi_listK (K := K) (pe_callTy (call_listD rfl) (by rfl) T.list_ (by decide +kernel) (pa_cons (pv 2) pa_nil))) (pg_name (i := 7) nd rfl (Or.inl rfl)) 
          (pss_one (ps_if (pt_cmp (pc_din hu (pv 5) (pe_dget hu (pv 2) (pv 7) (fun _ _ => rfl)))) 
            (pss_one (ps_dput hu (pv 2) (pv 7) (pe_c c_lessened hr (by decide) rfl (pa_cons (pv 0) (pa_cons (pe_dget hu (pv 2) (pv 7) (fun _ _ => rfl)) (pa_cons (pv 4) (pa_cons (pe_dget hu (pe_dget hu (pv 2) (pv 7) (fun _ _ => rfl)) (pv 5) (fun _ _ => rfl)) pa_nil))))) rfl)) pss_nil)))
        (pss_one (ps_dput hu (pv 2) (pv 5) (pv 4) rfl)))))) pss_nil))))
    (pss_one (ps_ret (pv 2))))), ?_⟩
  walk_at "st"
  walk_at "go"
  intro hd hhd
  walk_at "go"
  have e0 : Same H (upd H hd (.dK [])) := Same.new hhd
  refine r_itL hy e0 (fun Q q => by walk_at "go"; exact q) fun J ys hys wk => ?_
  refine for_it wk (fun i σ H' => Same H H' ∧ ∃ (v3 v4 v5 v6 v7 v8 : Option V) (kvs : List (Key × V)) (hs : List (Hd p)), σ = [some (.int p), some y, some (.ref hd), v3, v4, v5, v6, v7, v8] ∧ H' hd = some (.dK kvs) ∧ DicK RowV hs kvs (New H (hide hd H')) ∧ Red hs ∧
    (∀ e ∈ hs, Bd e.2 n) ∧ ∀ f, SpanH hs f ↔ SpanL (fs.take i) f) ?_ ?_ ?_ ?_
  · refine ⟨e0, _, _, _, _, _, _, [], [], rfl, upd_same, DicK.nil, Red.nil, by simp, fun f => ?_⟩
    rw [List.take_zero, SpanL.nil]
    constructor
    · intro h
      induction h with
      | zero => rfl
      | step c _ h _ => obtain ⟨e, he, _⟩ := h; cases he
    · rintro rfl
      exact .zero
  · rintro i σ H' hi ⟨e, _⟩
    exact e
  · rintro i x σ Hx H1 hi ⟨e1, v3, v4, v5, v6, v7, v8, kvs, hs, rfl, hH, dk, R, bh, sp⟩ ⟨rfl, hx⟩
    obtain ⟨f, hf, b, rfl, rf⟩ := hys.yet hx
    have bff := bf f (List.mem_of_getElem? hf)
    have hlen := R.len bh
    have htk : fs.take (i + 1) = fs.take i ++ [f] := by rw [List.take_succ, hf]; rfl
    walk_at "go"
    refine ⟨b, hd, f, hs, kvs, n, rfl, (rf.same e1).at_, hH, dk.mono (Same.trans New.le hide_le), R, bff, bh, hn, fun q H3 g e3 hq rq bg hz hsp => ?_⟩
    walk_at "go"
    intro eD heD
    have e4 : Same H1 (upd H3 eD (.dK [])) := Same.trans e3 (Same.new heD)
    obtain ⟨kg, hkg, kk, hkn, rfl, hkk⟩ := id (rq.same (Same.new heD (o := .dK [])))
    refine ⟨q, eD, _, rfl, rfl, hkg, upd_same, ?_⟩
    refine r_bl ?_
    cases kk with
    | nil =>
      refine r_false ?_
      walk_at "go"
      have hg0 : ∀ k, g k = 0 := fun k => Classical.byContradiction fun h => by
        have := (hkk k).mpr h
        simp at this
      refine ⟨Same.trans e1 e4, _, _, _, _, _, _, kvs, hs, rfl, e4 hd _ hH, dk.mono (New.mono (hide_same e4)), R, bh, ?_⟩
      rw [htk]
      exact heads_old sp hsp hg0
    | cons k0 kk =>
      refine r_true ?_
      walk_at "go"
      have rq4 := rq.same (Same.new heD (o := .dK []))
      refine ⟨q, _, (k0 :: kk).map fun (k : Nat) => (k : Int), rfl, hkg, by rw [List.map_map, List.map_map]; rfl, by simp, fun m hm hmin => ?_⟩
      obtain ⟨k1, hk1, rfl⟩ := List.mem_map.mp hm
      have hgk : g k1 ≠ 0 := (hkk k1).mp hk1
      have hlow : ∀ j, j < k1 → g j = 0 := fun j hj => Classical.byContradiction fun z => by
        have := hmin (j : Int) (List.mem_map.mpr ⟨j, (hkk j).mpr z, rfl⟩)
        omega
      walk_at "go"
      refine ⟨q, _, rfl, DGet.row rq4.at_ hgk, ?_⟩
      walk_at "go"
      refine ⟨g k1, rfl, hgk, fun z hz1 => ?_⟩
      walk_at "go"
      have hz0 : z ≠ 0 := fun h => by
        rw [h] at hz1
        have : (0 : Fin p) = 1 := by grind
        exact one_ne this.symm
      refine r_dictKeys rq4 bg hn id (fun j => g j * z) (fun _ _ _ _ h => h) (fun k hk => mul_ne hk hz0) (fun m hm => ⟨m, fun h => hm (by show g m * z = 0; rw [h]; grind), rfl⟩) (fun H' Q _ q => by walk_at "go"; exact q) (fun _ => rfl) (fun k H' Q _ _ _ q => by walk_at "lc"; walk_at "go"; exact q)
        (fun k H' Q hk rd _ q => ?_) fun q' H5 e5 hq' rq' => ?_
      · walk_at "lc"
        walk_at "go"
        refine ⟨_, _, rfl, DGet.row (rq4.at_.rd rd) hk, ?_⟩
        walk_at "go"
        rw [← iv_mul]
        exact q
      · have e15 := Same.trans e4 e5
        have bg' : Bd (fun j => g j * z) n := fun j hj => by show g j * z = 0; rw [bg j hj]; grind
        walk_at "go"
        refine r_for (r_iL ?_)
        walk_at "go"
        refine ⟨hd, kvs, rfl, .inl (e15 hd _ hH), fun lk hlk => ?_⟩
        have e16 : Same H1 (upd H5 lk (.lst (kvs.map fun kv => kV kv.1))) := Same.trans e15 (Same.new hlk)
        refine ⟨lk, rfl, ⟨_, SqL.of upd_same⟩, ?_⟩
        have nd := R.nd
        have hlkd : lk ≠ hd := ne_new hlk (by rw [e15 hd _ hH]; simp)
        have hqd : q' ≠ hd := ne_new hq' (by rw [e4 hd _ hH]; simp)
        have hkeys : (kvs.map fun kv => kV kv.1) = hs.map fun e => V.int (e.1 : Nat) := by
          have := congrArg (List.map kV) dk.keys
          rw [List.map_map, List.map_map] at this
          exact this
        have hg1 : (fun j => g j * z) k1 = 1 := hz1
        have hg0 : ∀ e ∈ hs, (fun j => g j * z) e.1 = 0 := fun e he => by show g e.1 * z = 0; rw [hz e he]; grind
        have nk := R.nokey (g := fun j => g j * z) (k := k1) hg0 hg1
        refine for_it (n := hs.length) (G := fun H' => Same (hide hd (upd H5 lk (.lst (kvs.map fun kv => kV kv.1)))) H') (Walk.mono (by have := walk_list (K := K) (a := lk) (xs := kvs.map fun kv => kV kv.1); rw [List.length_map, dk.len] at this; exact this) (fun H' e => SqL.of (e lk _ (by rw [hide_ne hlkd]; exact upd_same))) fun _ _ _ _ _ _ h => h)
          (fun i σ H' => Same (hide hd (upd H5 lk (.lst (kvs.map fun kv => kV kv.1)))) H' ∧ ∃ (v7 : Option V) (kvs' : List (Key × V)), σ = [some (.int p), some y, some (.ref hd), some (.ref b), some (.ref q'), some (.int (k1 : Nat)), some (.int (iv z)), v7, v8] ∧ H' hd = some (.dK kvs') ∧
            DicK RowV (mid hs k1 (fun j => g j * z) ((hs.map (·.1)).take i)) kvs' (New H (hide hd H'))) ?_ ?_ ?_ ?_
        · refine ⟨hide_le, _, kvs, rfl, e16 hd _ hH, ?_⟩
          rw [List.take_zero, mid_nil]
          exact dk.mono (New.mono (hide_same e16))
        · rintro i σ H' hi ⟨e, _⟩
          exact e
        · rintro i2 x σ Hx H7 hi2 ⟨e6, v7, kvs', rfl, hH6, dk6⟩ ⟨rfl, hx2⟩
          rw [hkeys, List.getElem?_map, List.getElem?_eq_getElem hi2] at hx2
          cases hx2
          have hm2 : hs[i2] ∈ hs := List.getElem_mem hi2
          have hk2 : (hs.map (·.1))[i2]? = some hs[i2].1 := by rw [List.getElem?_map, List.getElem?_eq_getElem hi2]; rfl
          obtain ⟨htk2, hnk2⟩ := take_succ_nodup nd hk2
          have hnd6 : ((mid hs k1 (fun j => g j * z) ((hs.map (·.1)).take i2)).map (·.1)).Nodup := by rw [mid_keys]; exact nd
          generalize hs[i2] = e0 at *
          obtain ⟨k2, f2⟩ := e0
          have e67 := dk6.mono (Same.trans New.le (hide_le (d := hd) (H := H7)))
          obtain ⟨v, hv, b2, rfl, rb2⟩ := e67.dgot hnd6 (a := hd) (.inl hH6) (mid_mem nd hm2 hnk2)
          have rq7 : RowX H7 q' (fun j => g j * z) := by
            obtain ⟨kv, r, sk⟩ := rq'
            refine ⟨kv, e6 q' _ ?_, sk⟩
            rw [hide_ne hqd, upd_ne (ne_of_none r hlk)]
            exact r
          walk_at "go"
          refine ⟨hd, _, rfl, hv, ?_⟩
          obtain ⟨o, ho1, ho2⟩ := DGet.rowo rb2.at_ k1
          refine ⟨b2, o, rfl, ho1, ?_⟩
          rw [ho2]
          refine r_bl (r_dec (fun hne => ?_) fun heq => ?_)
          · walk_at "go"
            refine ⟨hd, _, rfl, hv, ?_⟩
            walk_at "go"
            refine ⟨hd, _, rfl, hv, ?_⟩
            walk_at "go"
            refine ⟨b2, _, rfl, DGet.row rb2.at_ hne, ?_⟩
            walk_at "go"
            refine ⟨b2, q', f2, _, f2 k1, n, rfl, rb2.at_, rq7, bh _ hm2, bg', hn, fun q2 H8 e8 hq2 rq2 => ?_⟩
            walk_at "go"
            have hq2d : q2 ≠ hd := ne_new hq2 (by rw [hH6]; simp)
            have eH7 : Same H H7 := Same.trans (hide_base hhd (Same.trans e1 e16)) e6
            have rq2h : RowV (fun k => f2 k - f2 k1 * (g k * z)) (.ref q2) (New H (hide hd H8)) := by
              obtain ⟨kv, r, sk⟩ := rq2
              exact ⟨q2, rfl, kv, by rw [New.at_ (none_of eH7 hq2), hide_ne hq2d]; exact r, sk⟩
            have hml : (mid hs k1 (fun j => g j * z) ((hs.map (·.1)).take i2)).length = hs.length := by
              have := congrArg List.length (mid_keys hs k1 (fun j => g j * z) ((hs.map (·.1)).take i2))
              rw [List.length_map, List.length_map] at this
              exact this
            obtain ⟨kvs2, hp2, dk2⟩ := DicK.dput_old (H := H8) (a := hd) (k := k2) (dk6.mono (New.mono (hide_same e8))) (e8 hd _ hH6) ⟨_, mid_mem nd hm2 hnk2, rfl⟩ rq2h (by rw [hml]; omega)
            refine ⟨hd, _, rfl, hp2, ?_⟩
            refine ⟨Same.mut (Same.trans e6 e8) (if_pos rfl), _, kvs2, rfl, upd_same, ?_⟩
            rw [hide_upd, htk2, ← mid_set nd hm2]
            exact dk2
          · walk_at "go"
            refine ⟨e6, _, kvs', rfl, hH6, ?_⟩
            rw [htk2, ← mid_skip nd hm2 (Classical.byContradiction heq)]
            exact dk6
        · rintro σ H' ⟨e6, v7, kvs', rfl, hH6, dk6⟩
          walk_at "go"
          rw [List.take_of_length_le (by rw [List.length_map]; exact Nat.le_refl _)] at dk6
          have hml : (mid hs k1 (fun j => g j * z) (hs.map (·.1))).length = hs.length := by
            have := congrArg List.length (mid_keys hs k1 (fun j => g j * z) (hs.map (·.1)))
            rw [List.length_map, List.length_map] at this
            exact this
          have rq6 : RowV (fun j => g j * z) (.ref q') (New H (hide hd H')) := by
            obtain ⟨kv, r, sk⟩ := rq'
            refine ⟨q', rfl, kv, ?_, sk⟩
            rw [New.at_ (none_of (Same.trans e1 e4) hq'), hide_ne hqd]
            refine e6 q' _ ?_
            rw [hide_ne hqd, upd_ne (ne_of_none r hlk)]
            exact r
          obtain ⟨kvs2, hp2, dk2⟩ := DicK.dput_new (H := H') (a := hd) (k := k1) dk6 hH6 (fun e he hk => by
            have : e.1 ∈ (mid hs k1 (fun j => g j * z) (hs.map (·.1))).map (·.1) := List.mem_map.mpr ⟨e, he, rfl⟩
            rw [mid_keys, hk] at this
            obtain ⟨e', he', hk'⟩ := List.mem_map.mp this
            exact nk e' he' hk') rq6 (by rw [hml]; omega)
          rw [mid_all] at dk2
          refine ⟨hd, _, rfl, hp2, ?_⟩
          have eB : Same H (hide hd (upd H5 lk (.lst (kvs.map fun kv => kV kv.1)))) := hide_base hhd (Same.trans e1 e16)
          refine ⟨Same.mut (Same.trans eB e6) hhd, _, _, _, _, _, _, kvs2, _, rfl, upd_same, ?_, R.add hg0 hg1 (fun j hj => by show g j * z = 0; rw [hlow j hj]; grind), fun e he => ?_, ?_⟩
          · rw [hide_upd]
            exact dk2
          · rcases mem_addH.mp he with ⟨e', he', rfl⟩ | rfl
            · intro j hj
              show e'.2 j - e'.2 k1 * (g j * z) = 0
              rw [bh e' he' j hj, bg j hj]
              grind
            · exact bg'
          · rw [htk]
            exact heads_new sp hsp hz0
  · rintro σ H' ⟨e, v3, v4, v5, v6, v7, v8, kvs, hs, rfl, hH, dk, R, bh, sp⟩
    walk_at "go"
    refine k hd kvs hs H' e hhd hH (dk.mono (New.mono hide_le)) R bh fun f => ?_
    rw [sp f, List.take_of_length_le (Nat.le_refl _)]
end
section
variable {P : Program} {w : World} {K : PySem.W.Frag} {mg : Str → Option Value} {base : Heap} {d : Ad} {p : Nat} [Pr p]
/-! ### tidy_rows -/
/-- the same rows in the order of yl -/
theorem sortH {hs : List (Hd p)} (R : Red hs) {yl : List Nat} (hp : yl.Perm (hs.map (·.1))) (hs' : List (Hd p)) (e : hs' = yl.map fun k => (k, rowOf hs k)) : (∀ x, x ∈ hs' ↔ x ∈ hs) ∧ Red hs' := by
  have hm : ∀ x, x ∈ hs' ↔ x ∈ hs := fun x => by
    rw [e, List.mem_map]
    constructor
    · rintro ⟨k, hk, rfl⟩
      obtain ⟨⟨k', f⟩, hf, rfl⟩ := List.mem_map.mp (hp.mem_iff.mp hk)
      rw [rowOf_mem R.nd hf]
      exact hf
    · intro hx
      obtain ⟨k, f⟩ := x
      exact ⟨k, hp.mem_iff.mpr (List.mem_map.mpr ⟨_, hx, rfl⟩), by rw [rowOf_mem R.nd hx]⟩
  refine ⟨hm, ?_, fun x hx => R.one x ((hm x).mp hx), fun x hx => R.low x ((hm x).mp hx), fun x hx y hy => R.off x ((hm x).mp hx) y ((hm y).mp hy)⟩
  rw [e, List.map_map]
  have : (fun x : Hd p => x.1) ∘ (fun k => (k, rowOf hs k)) = id := rfl
  rw [this, List.map_id]
  exact hp.nodup_iff.mpr R.nd
theorem spanH_congr {hs hs' : List (Hd p)} (h : ∀ x, x ∈ hs' ↔ x ∈ hs) (f : Vec p) : SpanH hs' f ↔ SpanH hs f := by
  constructor
  · exact Span.mono fun g ⟨e, he, q⟩ => .of ⟨e, (h e).mp he, q⟩
  · exact Span.mono fun g ⟨e, he, q⟩ => .of ⟨e, (h e).mpr he, q⟩
abbrev s_tidy_rows : Stmt := top 28
theorem sc_tidy_rows : FnScope ["prime", "size", "rows", "heads", "spot", "row"] ["prime", "size", "rows"] (defScope s_tidy_rows) := ⟨rfl, rfl, rfl, by decide +kernel, rfl, by decide +kernel, by decide +kernel⟩
def spTidy (p : Nat) [Pr p] : Sp := fun vs H Q _ => ∃ (n : Nat) (y : V) (nss : List (List Int)), vs = [.int p, .int n, y] ∧ SeqOf (SeqOf IntV) nss y H ∧ (∀ ns ∈ nss, ns.length = n) ∧ n ≤ 2000 ∧ nss.length ≤ 5000 ∧
  ∀ y' H' hs, Same H H' → Red hs → (hs.map (·.1)).Pairwise (· < ·) → (∀ e ∈ hs, Bd e.2 n) → (∀ f, SpanH hs f ↔ SpanL (nss.map (vecI (p := p))) f) → LstOf (TupOf IntV) (hs.map fun e => rowI n e.2) y' (New H H') → Q y' H'
theorem ok_tidy_rows (T : Tx K mg d) (D : Df K mg "tidy_rows" s_tidy_rows) (c_few : Cal P w K mg base 1 "few" (U fun p _ => spFew p) []) (c_heads_of : Cal P w K mg base 3 "heads_of" (U fun p _ => spHeads p) []) (c_whole_row : Cal P w K mg base 1 "whole_row" (U fun p _ => spWhole p) []) : Cal P w K mg base 4 "tidy_rows" (U fun p _ => spTidy p) [] := by
  have nd := sc_tidy_rows.nd
  refine mkCalU D sc_tidy_rows (fun p hp vs H Q E h => ?_) (fun _ _ _ _ _ _ us hl => match us, hl with | [_, _, _], _ => rfl) (fun p hp f0 cdv A outer s H vs Q E hr h => ?_)
  · obtain ⟨n, y, nss, rfl, _⟩ := h
    rfl
  obtain ⟨n, y, nss, rfl, hy, hns, hn, hl, k⟩ := h
  have hu := hu_of hr
  refine ⟨_, (pss_cons (ps_set (i := 3) nd rfl (Or.inr rfl) (pe_c c_heads_of hr (by decide) rfl (pa_cons (pv 0) (pa_cons (pe_lc (own := [("row", 5)]) (g := gName 5) (tt := tYes) rfl nd (pi_or (pi_listK (K := K) (pv 2)) (pi_tupK (K := K) (pv 2))) (blkOk_by (by kernel_rfl)) (fun _ _ _ _ _ => (pg_name (i := 5) nd rfl (Or.inl rfl))) (fun _ _ _ _ _ => pts_nil) (fun _ _ _ _ _ => (pe_c c_few hr (by decide) rfl (pa_cons (pv 0) (pa_cons (pv 5) pa_nil))))) pa_nil))))
    (pss_one (ps_ret (pe_lc (own := [("spot", 4)]) (g := gName 4) (tt := tYes) rfl nd (pi_listK (K := K) (pe_callB (cr_sortedDK rfl) (by rfl) T.sorted (by decide +kernel) (pa_cons (pv 3) pa_nil))) (blkOk_by (by kernel_rfl)) (fun _ _ _ _ _ => (pg_name (i := 4) nd rfl (Or.inl rfl))) (fun _ _ _ _ _ => pts_nil) (fun _ _ _ _ _ => (pe_c c_whole_row hr (by decide) rfl (pa_cons (pv 1) (pa_cons (pe_dget hu (pv 3) (pv 4) (fun _ _ => rfl)) pa_nil)))))))), ?_⟩
  walk_at "st"
  walk_at "go"
  refine r_lc (r_itS hy (Same.refl _) (fun Q q => by walk_at "go"; exact q) fun J ys hys wk => ?_)
  refine lc_new wk (R := RowV) (fun _ => true) (fun i => vecI (p := p) (nss.getD i [])) (fun _ h => h) (by omega) (fun i x H1 H2 kY kN hi e z hY hN => ?_) (fun D H' ys hD e hy hrows => ?_)
  · obtain ⟨rfl, hx⟩ := z
    obtain ⟨ns, hn2, hx2⟩ := hys.yet hx
    walk_at "lc"
    walk_at "go"
    refine ⟨rfl, ?_⟩
    walk_at "go"
    refine ⟨x, ns, rfl, Mon.mono e hx2, by rw [hns ns (List.mem_of_getElem? hn2)]; exact hn, fun y3 H3 e3 r3 => hY _ _ rfl e3 ?_⟩
    rw [getD_some hn2]
    exact r3
  · walk_at "go"
    rw [tk_all] at hrows
    have e1 : (List.range nss.length).map (fun i => vecI (p := p) (nss.getD i [])) = nss.map vecI := by
      have := congrArg (List.map (vecI (p := p))) (map_range_get nss [])
      rw [List.map_map] at this
      exact this
    rw [e1] at hrows
    refine ⟨.ref D, _, n, rfl, ⟨D, ys, rfl, hy, hrows.mono New.le⟩, fun f hf => ?_, hn, fun a kvs hs H2 e2 ha hH dk0 R bh sp => ?_⟩
    · obtain ⟨ns, hm, rfl⟩ := List.mem_map.mp hf
      rw [← hns ns hm]
      exact vecI_bd ns
    have dk := dk0.mono New.le
    have hlen := R.len bh
    walk_at "go"
    refine r_lc (r_iL ?_)
    walk_at "go"
    have e02 := Same.trans e e2
    refine ⟨a, kvs, hs.map fun e => (e.1 : Int), rfl, .inl hH, by rw [dk.keys, List.map_map]; rfl, by rw [List.length_map]; omega, fun ys' s hp hsrt hs0 => ?_⟩
    have ekk : (hs.map fun e => (e.1 : Int)) = (hs.map (·.1)).map fun (k : Nat) => (k : Int) := by rw [List.map_map]; rfl
    rw [ekk] at hp
    obtain ⟨yl, rfl, hyp⟩ := perm_nat hp
    obtain ⟨hmem, R'⟩ := sortH R hyp _ rfl
    have hyl : yl.length = hs.length := by have := hyp.length_eq; rw [List.length_map] at this; exact this
    refine ⟨s, rfl, ⟨_, SqL.of upd_same⟩, ?_⟩
    have e3 : Same H2 (upd H2 s (.lst ((yl.map fun (k : Nat) => (k : Int)).map V.int))) := Same.new hs0
    refine lc_new (R := TupOf IntV) (walk_list.mono (n := ((yl.map fun (k : Nat) => (k : Int)).map V.int).length) (G' := fun H' => Same (upd H2 s (.lst ((yl.map fun (k : Nat) => (k : Int)).map V.int))) H') (fun H' e => SqL.of (e s _ upd_same)) fun _ _ _ _ _ _ h => h) (fun _ => true)
      (fun i => rowI n (rowOf hs (yl.getD i 0))) (fun _ h => h) (by simp; omega) (fun i x H3 H4 kY kN hi e4 z hY hN => ?_) (fun D' H5 ys5 hD5 e5 hy5 m5 => ?_)
    · obtain ⟨rfl, hx⟩ := z
      rw [List.map_map, List.getElem?_map] at hx
      simp only [List.length_map] at hi
      rw [List.getElem?_eq_getElem hi] at hx
      cases hx
      have hgd : yl.getD i 0 = yl[i] := getD_some (List.getElem?_eq_getElem hi)
      walk_at "lc"
      walk_at "go"
      refine ⟨rfl, ?_⟩
      walk_at "go"
      have e34 := Same.trans e3 e4
      obtain ⟨⟨k0, f0⟩, hm0, hk0⟩ := List.mem_map.mp (hyp.mem_iff.mp (List.getElem_mem hi))
      have hk0 : k0 = yl[i] := hk0
      obtain ⟨v, hv, b, rfl, rb⟩ := (dk.mono e34).dgot R.nd (.inl (e34 a _ hH)) hm0
      refine ⟨a, _, rfl, hk0 ▸ hv, ?_⟩
      walk_at "go"
      refine ⟨n, b, f0, rfl, rb.at_, hn, fun y6 H6 e6 t6 => ?_⟩
      refine hY _ _ rfl e6 ?_
      rw [hgd, ← hk0, rowOf_mem R.nd hm0]
      exact t6
    · refine k (.ref D') H5 (yl.map fun k => (k, rowOf hs k)) (Same.trans e02 (Same.trans e3 e5)) R' ?_ (fun x hx => bh x ((hmem x).mp hx)) (fun f => (spanH_congr hmem f).trans (sp f)) ?_
      · rw [List.map_map]
        have e8 : (fun x : Hd p => x.1) ∘ (fun k => (k, rowOf hs k)) = id := rfl
        rw [e8, List.map_id]
        refine List.Pairwise.imp_of_mem (R := fun a b => a ≤ b ∧ a ≠ b) (fun {a b} _ _ h => by omega) (List.Pairwise.and ?_ (hyp.nodup_iff.mpr R.nd))
        exact (List.pairwise_map.mp hsrt).imp fun h => by omega
      · rw [tk_all, List.length_map, List.length_map] at m5
        have e7 : (List.range yl.length).map (fun i => rowI n (rowOf hs (yl.getD i 0))) = (yl.map fun k => (k, rowOf hs k)).map fun e => rowI n e.2 := by
          have := congrArg (List.map (fun k => rowI n (rowOf hs k))) (map_range_get yl 0)
          rw [List.map_map] at this
          rw [List.map_map]
          exact this
        rw [e7] at m5
        refine Mon.mono (New.anti (Same.trans e02 e3)) (lst_new hD5 hy5 m5)
/-! ### dark_rows -/
abbrev s_dark_rows : Stmt := top 29
theorem sc_dark_rows : FnScope ["prime", "size", "rows", "row", "heads", "found", "spot", "head"] ["prime", "size", "rows"] (defScope s_dark_rows) := ⟨rfl, rfl, rfl, by decide +kernel, rfl, by decide +kernel, by decide +kernel⟩
def spDark (p : Nat) [Pr p] : Sp := fun vs H Q _ => ∃ (n : Nat) (y : V) (nss : List (List Int)), vs = [.int p, .int n, y] ∧ SeqOf (SeqOf IntV) nss y H ∧ (∀ ns ∈ nss, ns.length = n) ∧ n ≤ 2000 ∧ nss.length ≤ 5000 ∧
  ∀ y' H' hs, Same H H' → Red hs → (hs.map (·.1)).Pairwise (· < ·) → (∀ e ∈ hs, Bd e.2 n) → (∀ f, SpanH hs f ↔ Ann n (SpanL (nss.map (vecI (p := p)))) f) → LstOf (TupOf IntV) (hs.map fun e => rowI n e.2) y' (New H H') → Q y' H'
theorem iv_sub {x : Fin p} (hx : x ≠ 0) : (p : Int) - iv x = iv (-x) := by
  have h1 := iv_lt x
  have h2 := iv_nonneg x
  have h3 : iv x ≠ 0 := fun h => hx (iv_eq_zero.mp h)
  have h4 : (md ((p : Int) - iv x) : Fin p) = -x := by
    rw [md_sub, md_iv]
    have : (md (p : Int) : Fin p) = 0 := md_eq_zero.mpr (Int.emod_self)
    rw [this]
    grind
  rw [← h4, iv_md, Int.emod_eq_of_lt (by omega) (by omega)]
/-- the row as it stands behind the first heads -/
def dkm (hs : List (Hd p)) (s : Nat) (ks : List Nat) : Vec p := fun k => if k = s then 1 else if k ∈ ks then -(rowOf hs k s) else 0
theorem ok_dark_rows (T : Tx K mg d) (D : Df K mg "dark_rows" s_dark_rows) (c_few : Cal P w K mg base 1 "few" (U fun p _ => spFew p) []) (c_heads_of : Cal P w K mg base 3 "heads_of" (U fun p _ => spHeads p) []) (c_whole_row : Cal P w K mg base 1 "whole_row" (U fun p _ => spWhole p) []) (c_tidy_rows : Cal P w K mg base 4 "tidy_rows" (U fun p _ => spTidy p) []) : Cal P w K mg base 5 "dark_rows" (U fun p _ => spDark p) [] := by
  have nd := sc_dark_rows.nd
  refine mkCalU D sc_dark_rows (fun p hp vs H Q E h => ?_) (fun _ _ _ _ _ _ us hl => match us, hl with | [_, _, _], _ => rfl) (fun p hp f0 cdv A outer s H vs Q E hr h => ?_)
  · obtain ⟨n, y, nss, rfl, _⟩ := h
    rfl
  obtain ⟨n, y, nss, rfl, hy, hns, hn, hl, k⟩ := h
  have hu := hu_of hr
  refine ⟨_, (pss_cons (ps_set (i := 4) nd rfl (Or.inl rfl) (pe_c c_heads_of hr (by decide) rfl (pa_cons (pv 0) (pa_cons (pe_lc (own := [("row", 3)]) (g := gName 3) (tt := tYes) rfl nd (pi_or (pi_listK (K := K) (pv 2)) (pi_tupK (K := K) (pv 2))) (blkOk_by (by kernel_rfl)) (fun _ _ _ _ _ => (pg_name (i := 3) nd rfl (Or.inl rfl))) (fun _ _ _ _ _ => pts_nil) (fun _ _ _ _ _ => (pe_c c_few hr (by decide) rfl (pa_cons (pv 0) (pa_cons (pv 3) pa_nil))))) pa_nil))))
    (pss_cons (ps_set (i := 5) nd rfl (Or.inl rfl) (pe_lst pa_nil))
    (pss_cons (ps_for PassesOwn.never rfl (pi_range1 rfl T.range (pa_cons (pv 1) pa_nil)) (pg_name (i := 6) nd rfl (Or.inl rfl)) 
      (pss_one (ps_if (pt_cmp (pc_dnotin hu (pv 6) (pv 4))) 
        (pss_cons (ps_set (i := 3) nd rfl (Or.inl rfl) (pe_disp (pps_cons (pv 6) pe_int pps_nil) rfl rfl (by simp) (by decide)))
        (pss_cons (ps_lock (ps_for PassesOwn.never rfl (pi_keys (pv 4)) (pg_name (i := 7) nd rfl (Or.inl rfl)) 
          (pss_one (ps_if (pt_cmp (pc_din hu (pv 6) (pe_dget hu (pv 4) (pv 7) (fun _ _ => rfl)))) 
            (pss_one (ps_dput hu (pv 3) (pv 7) (pe_op op_sub (pv 0) (pe_dget hu (pe_dget hu (pv 4) (pv 7) (fun _ _ => rfl)) (pv 6) (fun _ _ => rfl))) rfl)) pss_nil))))
        (pss_one (ps_expr (pe_bm PySem.F.plainAttrs_list PySem.F.slot_list_append PySem.F.type_list_append mt_append (pv 5) (pa_cons (pe_c c_whole_row hr (by decide) rfl (pa_cons (pv 1) (pa_cons (pv 3) pa_nil))) pa_nil)))))) pss_nil)))
    (pss_one (ps_ret (pe_c c_tidy_rows hr (by decide) rfl (pa_cons (pv 0) (pa_cons (pv 1) (pa_cons (pv 5) pa_nil))))))))), ?_⟩
  walk_at "st"
  walk_at "go"
  refine r_lc (r_itS hy (Same.refl _) (fun Q q => by walk_at "go"; exact q) fun J ys hys wk => ?_)
  refine lc_new wk (R := RowV) (fun _ => true) (fun i => vecI (p := p) (nss.getD i [])) (fun _ h => h) (by omega) (fun i x H1 H2 kY kN hi e z hY hN => ?_) (fun D H' ys hD e hy hrows => ?_)
  · obtain ⟨rfl, hx⟩ := z
    obtain ⟨ns, hn2, hx2⟩ := hys.yet hx
    walk_at "lc"
    walk_at "go"
    refine ⟨rfl, ?_⟩
    walk_at "go"
    refine ⟨x, ns, rfl, Mon.mono e hx2, by rw [hns ns (List.mem_of_getElem? hn2)]; exact hn, fun y3 H3 e3 r3 => hY _ _ rfl e3 ?_⟩
    rw [getD_some hn2]
    exact r3
  · walk_at "go"
    rw [tk_all] at hrows
    have e1 : (List.range nss.length).map (fun i => vecI (p := p) (nss.getD i [])) = nss.map vecI := by
      have := congrArg (List.map (vecI (p := p))) (map_range_get nss [])
      rw [List.map_map] at this
      exact this
    rw [e1] at hrows
    refine ⟨.ref D, _, n, rfl, ⟨D, ys, rfl, hy, hrows.mono New.le⟩, fun f hf => ?_, hn, fun a kvs hs H2 e2 ha hH dk0 R bh sp => ?_⟩
    · obtain ⟨ns, hm, rfl⟩ := List.mem_map.mp hf
      rw [← hns ns hm]
      exact vecI_bd ns
    have dk := dk0.mono New.le
    have hlen := R.len bh
    have e02 := Same.trans e e2
    walk_at "go"
    refine ⟨by show 0 ≤ sizeLine; omega, fun fl hfl => ?_⟩
    walk_at "go"
    refine r_for (r_rng n (by omega) (fun QA q => by walk_at "go"; exact q) fun J wk => ?_)
    have hkl := R.key_lt bh
    let B := fun s : Nat => !decide (∃ e ∈ hs, e.1 = s)
    refine for_it wk (fun i σ H' => Same H2 H' ∧ ∃ (v3 v6 v7 : Option V) (zs : List V), σ = [some (.int p), some (.int n), some y, v3, some (.ref a), some (.ref fl), v6, v7] ∧ H' fl = some (.lst zs) ∧ Each (TupOf IntV) ((tk i B).map fun s => rowI n (dkv hs s)) zs (hide fl H')) ?_ (fun _ _ _ _ _ => trivial) ?_ ?_
    · exact ⟨Same.new hfl, _, _, _, [], rfl, upd_same, Each.nil⟩
    · rintro s x σ Hx H3 hs3 ⟨e3, v3, v6, v7, zs, rfl, hH3, hz⟩ ⟨rfl, rfl⟩
      walk_at "go"
      obtain ⟨o, ho1, ho2⟩ := (dk.mono e3).din R.nd (.inl (e3 a _ hH)) s
      refine ⟨a, o, rfl, ho1, ?_⟩
      rw [ho2]
      refine r_bl (r_ndec (fun hno => ?_) fun hyes => ?_)
      · walk_at "go"
        refine r_disp1 (k := (s : Int)) (v := .int 1) (fun H' Q q => by walk_at "go"; exact q) (fun H' Q q => by walk_at "go"; exact q) fun r hr0 => ?_
        walk_at "go"
        have hk0 : ∀ e ∈ hs, e.1 ≠ s := fun e he z => hno ⟨e, he, z⟩
        have dk3 := dk.mono e3
        have ha3 := e3 a _ hH
        have nra : r ≠ a := ne_new hr0 (by rw [ha3]; simp)
        refine ⟨a, .dK kvs, by rw [upd_ne nra.symm]; exact ha3, trivial, fun od => ⟨_, rfl, a, od, rfl, .inl ⟨_, upd_same, ?_⟩⟩⟩
        refine for_it (walk_keys.mono (n := kvs.length) (G' := fun H' => Same (upd H3 a (.frz od (.dK kvs))) H') (fun H' e => e a _ upd_same) fun _ _ _ _ _ _ h => h) (fun i σ H' => (∃ v7, σ = [some (.int p), some (.int n), some y, some (.ref r), some (.ref a), some (.ref fl), some (.int (s : Nat)), v7]) ∧
          Same (upd H3 a (.frz od (.dK kvs))) H' ∧ RowX H' r (dkm hs s ((hs.map (·.1)).take i))) ?_ ?_ ?_ ?_
        · refine ⟨⟨_, rfl⟩, same_lock_new hr0, _, by rw [upd_ne nra]; exact upd_same, [s], by simp, ?_, fun k => ?_⟩
          · show _ = [ent _ s]
            unfold ent dkm
            rw [if_pos rfl]
            have e1 : iv (1 : Fin p) = 1 := by
              have := iv_md (p := p) 1
              have h2 := Pr.ge (p := p)
              rw [md_one] at this
              rw [this, Int.emod_eq_of_lt (by omega) (by omega)]
            rw [e1]
          · unfold dkm
            rw [List.mem_singleton]
            by_cases q : k = s
            · rw [if_pos q]
              exact ⟨fun _ => one_ne, fun _ => q⟩
            · rw [if_neg q, List.take_zero, if_neg (by simp)]
              exact ⟨fun h => absurd h q, fun h => absurd rfl h⟩
        · rintro i σ H' hi ⟨_, e, _⟩
          exact e
        · rintro i x σ Hx H5 hi ⟨⟨v7, rfl⟩, e5, r5⟩ ⟨rfl, k0, v0, hk0', rfl⟩
          have hi2 : i < hs.length := by rw [← dk.len]; exact hi
          have hk2 := (dk.at_ i _ _ (List.getElem?_eq_getElem hi2) hk0').1
          have hm2 : hs[i] ∈ hs := List.getElem_mem hi2
          have hkk : (hs.map (·.1))[i]? = some hs[i].1 := by rw [List.getElem?_map, List.getElem?_eq_getElem hi2]; rfl
          obtain ⟨htk2, hnk2⟩ := take_succ_nodup R.nd hkk
          generalize hs[i] = e0 at *
          obtain ⟨k2, f2⟩ := e0
          have hk2 : k0 = Sum.inl (k2 : Int) := hk2
          subst hk2
          have ha5 := e5 a _ upd_same
          obtain ⟨v, hv, b2, rfl, rb2⟩ := dk3.dgot R.nd (H := H5) (a := a) (.inr ⟨od, ha5⟩) hm2
          have rb5 : RowAt H5 b2 f2 := (rb2.at_.rd (RdE.lock ha3)).rd (Same.rd e5)
          walk_at "go"
          refine ⟨a, _, rfl, hv, ?_⟩
          obtain ⟨o, ho1, ho2⟩ := DGet.rowo rb5 s
          refine ⟨b2, o, rfl, ho1, ?_⟩
          rw [ho2]
          have hks : k2 ≠ s := hk0 _ hm2
          have hro : rowOf hs k2 = f2 := rowOf_mem R.nd hm2
          have nxt : dkm hs s ((hs.map (·.1)).take (i + 1)) = set1 (dkm hs s ((hs.map (·.1)).take i)) k2 (-(f2 s)) := by
            funext m
            simp only [dkm, set1]
            rw [htk2]
            by_cases y : m = k2
            · subst y
              rw [if_neg hks, if_pos (by simp), if_pos rfl, hro]
            · rw [if_neg y]
              by_cases z : m = s
              · rw [if_pos z, if_pos z]
              · rw [if_neg z, if_neg z]
                by_cases u : m ∈ (hs.map (·.1)).take i
                · rw [if_pos u, if_pos (List.mem_append_left _ u)]
                · rw [if_neg u, if_neg (by simp only [List.mem_append, List.mem_singleton]; exact fun h => h.elim u y)]
          have h0 : dkm hs s ((hs.map (·.1)).take i) k2 = 0 := by
            unfold dkm
            rw [if_neg hks, if_neg hnk2]
          refine r_bl (r_dec (fun hne => ?_) fun heq => ?_)
          · walk_at "go"
            refine ⟨a, _, rfl, hv, ?_⟩
            walk_at "go"
            refine ⟨b2, _, rfl, DGet.row rb5 hne, ?_⟩
            walk_at "go"
            rw [iv_sub hne]
            have hb5 : Bd (dkm hs s ((hs.map (·.1)).take i)) n := fun m hm => by
              unfold dkm
              rw [if_neg (by omega), if_neg fun u => ?_]
              obtain ⟨e', he', rfl⟩ := List.mem_map.mp (List.mem_of_mem_take u)
              have := hkl e' he'
              omega
            obtain ⟨H6, p6, o6, r6⟩ := DPut.row (k := k2) (x := -(f2 s)) r5 h0 (fun z => hne (by grind)) hb5 hn
            refine ⟨r, H6, rfl, p6, ⟨_, rfl⟩, o6.same e5 (by rw [upd_ne nra]; exact hr0), ?_⟩
            rw [nxt]
            exact r6
          · walk_at "go"
            refine ⟨⟨_, rfl⟩, e5, ?_⟩
            have hz : f2 s = 0 := Classical.byContradiction heq
            have : set1 (dkm hs s ((hs.map (·.1)).take i)) k2 (-(f2 s)) = dkm hs s ((hs.map (·.1)).take i) := by
              funext m
              unfold set1
              by_cases y : m = k2
              · subst y
                rw [if_pos rfl, h0, hz]
                grind
              · rw [if_neg y]
            rw [nxt, this]
            exact r5
        · rintro σ H' ⟨⟨v7, rfl⟩, e5, r5⟩
          refine ⟨e5 a _ upd_same, ?_⟩
          have e35 : Same H3 (upd H' a (.dK kvs)) := Same.unlock ha3 e5
          rw [List.take_of_length_le (by rw [List.length_map, dk.len]; exact Nat.le_refl _)] at r5
          have hdk : dkm hs s (hs.map (·.1)) = dkv hs s := by
            funext m
            unfold dkm dkv
            by_cases z : m = s
            · rw [if_pos z, if_pos z]
            · rw [if_neg z, if_neg z]
              by_cases u : m ∈ hs.map (·.1)
              · rw [if_pos u]
              · rw [if_neg u, rowOf_none fun e he z => u (List.mem_map.mpr ⟨e, he, z⟩)]
                show (0 : Fin p) = -(0 : Fin p)
                grind
          rw [hdk] at r5
          have r6 : RowX (upd H' a (.dK kvs)) r (dkv hs s) := by
            obtain ⟨kv, h1, h2⟩ := r5
            exact ⟨kv, by rw [upd_ne nra]; exact h1, h2⟩
          walk_at "go"
          refine ⟨.inl ⟨rfl, _, SqL.of (e35 fl _ hH3)⟩, ?_⟩
          walk_at "go"
          refine ⟨n, r, dkv hs s, rfl, r6.at_, hn, fun y7 H7 e7 t7 => ?_⟩
          walk_at "go"
          have e37 := Same.trans e35 e7
          refine ⟨fl, zs, y7, rfl, rfl, e37 fl _ hH3, sl _ ?_, ?_⟩
          · rw [hz.len, List.length_map]
            have := tk_len s B
            omega
          refine ⟨Same.mut (Same.trans e3 e37) hfl, _, _, _, _, rfl, upd_same, ?_⟩
          rw [hide_upd, tk_yes (show B s = true by show (!decide _) = true; rw [decide_eq_false hno]; rfl), List.map_append]
          refine (hz.mono (hide_same e37)).snoc (Mon.mono (New.hide ?_) t7)
          rw [e35 fl _ hH3]
          simp
      · walk_at "go"
        refine ⟨e3, _, _, _, zs, rfl, hH3, ?_⟩
        rw [tk_no (show B s = false by show (!decide _) = false; rw [decide_eq_true hyes]; rfl)]
        exact hz
    · rintro σ H' ⟨e3, v3, v6, v7, zs, rfl, hH3, hz⟩
      walk_at "go"
      have e03 := Same.trans e02 e3
      have hlz : ((tk n B).map fun s => rowI n (dkv hs s)).length ≤ 5000 := by rw [List.length_map]; have := tk_len n B; omega
      refine ⟨n, .ref fl, (tk n B).map fun s => rowI n (dkv hs s), rfl, .inl ⟨fl, zs, rfl, hH3, hz.conv fun f _ y h => .inr (Mon.mono hide_le h)⟩, fun ns h => ?_, hn, hlz, fun y' H4 hs4 e4 R4 p4 b4 s4 r4 => ?_⟩
      · obtain ⟨s, _, rfl⟩ := List.mem_map.mp h
        exact rowI_len _ _
      · refine k y' H4 hs4 (Same.trans e03 e4) R4 p4 b4 (fun f => ?_) (Mon.mono (New.anti e03) r4)
        rw [s4 f, ← ann_congr sp, ← dark_ann R bh (ss := tk n B) tk_nodup (fun s => ?_) f, List.map_map]
        · have : (tk n B).map (vecI (p := p) ∘ fun s => rowI n (dkv hs s)) = (tk n B).map (dkv hs) := List.map_congr_left fun s hs' => vecI_rowI (dkv_bd R bh (mem_tk.mp hs').1)
          rw [this]
        · rw [mem_tk]
          refine and_congr_right fun _ => ?_
          show (!decide _) = true ↔ _
          rw [Bool.not_eq_true', decide_eq_false_iff_not]
          exact ⟨fun h e he z => h ⟨e, he, z⟩, fun h ⟨e, he, z⟩ => h e he z⟩
end
section
variable {P : Program} {w : World} {K : PySem.W.Frag} {mg : Str → Option Value} {base : Heap} {d : Ad} {p : Nat} [Pr p]
def one1 : iv (1 : Fin p) = 1 := by
  have := iv_md (p := p) 1
  have h2 := Pr.ge (p := p)
  rw [md_one] at this
  rw [this, Int.emod_eq_of_lt (by omega) (by omega)]
theorem r_tNotB {tt : TT} {σ : L2.St} {H : Hp} {QB : Bool → Hp → Prop} (h : tt σ H fun c H1 => QB (!c) H1) : tNot tt σ H QB := h
/-! ### is_number .. need_rows -/
abbrev s_is_number : Stmt := top 11
theorem sc_is_number : FnScope ["thing"] ["thing"] (defScope s_is_number) := ⟨rfl, rfl, rfl, by decide +kernel, rfl, by decide +kernel, by decide +kernel⟩
def spIsNum : Sp := fun vs H Q _ => ∃ i : Int, vs = [.int i] ∧ Q (.bl true) H
theorem isi_int {K : PySem.W.Frag} {H : Hp} {Q : VK} {i : Int} (q : Q (.bl true) H) : rIsi K [.int i, .ty "int"] H Q := ⟨_, _, _, _, true, rfl, .ty "int", .base (.int i), by rfl, q⟩
theorem isi_bool {K : PySem.W.Frag} {H : Hp} {Q : VK} {i : Int} (q : Q (.bl false) H) : rIsi K [.int i, .ty "bool"] H Q := ⟨_, _, _, _, false, rfl, .ty "bool", .base (.int i), by rfl, q⟩
theorem ok_is_number (T : Tx K mg d) (D : Df K mg "is_number" s_is_number) : Cal P w K mg base 1 "is_number" (spIsNum) [] := by
  have nd := sc_is_number.nd
  refine mkCal D sc_is_number (fun vs H Q E h => ?_) (fun _ _ _ _ _ _ us hl => match us, hl with | [_], _ => rfl) (fun f0 cdv A outer s H vs Q E hr h => ?_)
  · obtain ⟨i, rfl, _⟩ := h
    rfl
  obtain ⟨i, rfl, k⟩ := h
  refine ⟨_, (pss_one (ps_ret (pe_and (pe_callB call_isi (by rfl) T.isinstance (by decide +kernel) (pa_cons (pv 0) (pa_cons (pe_bltn (v := .ty "int") rfl T.int_ (by decide +kernel) rfl) pa_nil))) (pe_one (pe_not (pe_callB call_isi (by rfl) T.isinstance (by decide +kernel) (pa_cons (pv 0) (pa_cons (pe_bltn (v := .ty "bool") rfl T.bool_ (by decide +kernel) rfl) pa_nil)))))))), ?_⟩
  walk_at "st"
  walk_at "go"
  refine isi_int ?_
  refine r_bl (r_true ?_)
  walk_at "go"
  refine isi_bool ?_
  exact ⟨_, rfl, k⟩
abbrev s_is_between : Stmt := top 12
theorem sc_is_between : FnScope ["thing", "low", "high"] ["thing", "low", "high"] (defScope s_is_between) := ⟨rfl, rfl, rfl, by decide +kernel, rfl, by decide +kernel, by decide +kernel⟩
def spBetw : Sp := fun vs H Q _ => ∃ i lo hi : Int, vs = [.int i, .int lo, .int hi] ∧ lo ≤ i ∧ i ≤ hi ∧ Q (.bl true) H
theorem ok_is_between (T : Tx K mg d) (D : Df K mg "is_between" s_is_between) (c_is_number : Cal P w K mg base 1 "is_number" spIsNum []) : Cal P w K mg base 2 "is_between" (spBetw) [] := by
  have nd := sc_is_between.nd
  refine mkCal D sc_is_between (fun vs H Q E h => ?_) (fun _ _ _ _ _ _ us hl => match us, hl with | [_, _, _], _ => rfl) (fun f0 cdv A outer s H vs Q E hr h => ?_)
  · obtain ⟨i, lo, hi, rfl, _⟩ := h
    rfl
  obtain ⟨i, lo, hi, rfl, h1, h2, k⟩ := h
  refine ⟨_, (pss_one (ps_ret (pe_and (pe_c c_is_number hr (by decide) rfl (pa_cons (pv 0) pa_nil)) (pe_one (pe_chain op_le op_le (pv 1) (pv 0) (pv 2)))))), ?_⟩
  walk_at "st"
  walk_at "go"
  refine ⟨i, rfl, r_bl (r_true ?_)⟩
  walk_at "go"
  refine r_decT h1 ?_
  walk_at "go"
  rw [decide_eq_true h2]
  exact k
abbrev s_is_list : Stmt := top 13
theorem sc_is_list : FnScope ["thing"] ["thing"] (defScope s_is_list) := ⟨rfl, rfl, rfl, by decide +kernel, rfl, by decide +kernel, by decide +kernel⟩
def spIsList : Sp := fun vs H Q _ => ∃ y : V, vs = [y] ∧ (∃ b ys, y = .ref b ∧ (H b = some (.lst ys) ∨ H b = some (.tup ys))) ∧ ∀ H', Same H H' → Q (.bl true) H'
theorem ok_is_list (T : Tx K mg d) (D : Df K mg "is_list" s_is_list) : Cal P w K mg base 1 "is_list" (spIsList) [] := by
  have nd := sc_is_list.nd
  refine mkCal D sc_is_list (fun vs H Q E h => ?_) (fun _ _ _ _ _ _ us hl => match us, hl with | [_], _ => rfl) (fun f0 cdv A outer s H vs Q E hr h => ?_)
  · obtain ⟨i, rfl, _⟩ := h
    rfl
  obtain ⟨y, rfl, ⟨b, ys, rfl, hb⟩, k⟩ := h
  refine ⟨_, (pss_one (ps_ret (pe_callB call_isiT (by rfl) T.isinstance (by decide +kernel) (pa_cons (pv 0) (pa_cons (pe_tup (pa_cons (pe_bltn (v := .ty "list") rfl T.list_ (by decide +kernel) rfl) (pa_cons (pe_bltn (v := .ty "tuple") rfl T.tuple_ (by decide +kernel) rfl) pa_nil))) pa_nil))))), ?_⟩
  walk_at "st"
  walk_at "go"
  refine ⟨by show 2 ≤ sizeLine; decide, fun q hq => ?_⟩
  walk_at "go"
  have e := Same.new (o := .tup [.ty "list", .ty "tuple"]) hq
  rcases hb with hb | hb
  · exact ⟨.ref b, q, _, .type "list", [.type "list", .type "tuple"], true, rfl, upd_same, .cons (.ty _) (.cons (.ty _) .nil), .base (.lst (e b _ hb)), by rfl, k _ e⟩
  · exact ⟨.ref b, q, _, .type "tuple", [.type "list", .type "tuple"], true, rfl, upd_same, .cons (.ty _) (.cons (.ty _) .nil), .base (.tup (e b _ hb)), by rfl, k _ e⟩
theorem SeqOf.isL {α : Type} {R : α → V → Hp → Prop} {fs : List α} {y : V} {H : Hp} (h : SeqOf R fs y H) : ∃ b ys, y = .ref b ∧ (H b = some (.lst ys) ∨ H b = some (.tup ys)) := by
  rcases h with ⟨b, ys, rfl, hb, he⟩ | ⟨b, ys, rfl, hb, he⟩
  · exact ⟨b, ys, rfl, .inl hb⟩
  · exact ⟨b, ys, rfl, .inr hb⟩
abbrev s_is_row : Stmt := top 14
theorem sc_is_row : FnScope ["thing", "size", "item"] ["thing", "size"] (defScope s_is_row) := ⟨rfl, rfl, rfl, by decide +kernel, rfl, by decide +kernel, by decide +kernel⟩
def spIsRow : Sp := fun vs H Q _ => ∃ (y : V) (ns : List Int), vs = [y, .int (ns.length : Nat)] ∧ SeqOf IntV ns y H ∧ ns.length ≤ 2000 ∧ ∀ H', Same H H' → Q (.bl true) H'
theorem all_true {ys : List V} {n : Nat} {H : Hp} (m : Each (fun (b : Bool) y _ => y = V.bl b) ((tk n fun _ => true).map fun _ => true) ys H) : ys = (List.replicate ys.length true).map V.bl ∧ (List.replicate ys.length true).all id = true := by
  refine ⟨List.ext_getElem? fun i => ?_, by simp⟩
  rw [List.getElem?_map]
  by_cases q : i < ys.length
  · have hi : i < ((tk n fun _ => true).map fun _ => true).length := by rw [← m.len]; exact q
    have := m.at_ i _ _ (List.getElem?_eq_getElem hi) (List.getElem?_eq_getElem q)
    rw [List.getElem?_eq_getElem q, this]
    simp [q]
  · rw [List.getElem?_eq_none (by omega), List.getElem?_eq_none (by simp; omega)]
    rfl
instance : Mon (fun (b : Bool) (y : V) (_ : Hp) => y = V.bl b) := ⟨fun _ h => h⟩
theorem ok_is_row (T : Tx K mg d) (D : Df K mg "is_row" s_is_row) (c_is_list : Cal P w K mg base 1 "is_list" spIsList []) (c_is_number : Cal P w K mg base 1 "is_number" spIsNum []) : Cal P w K mg base 2 "is_row" (spIsRow) [] := by
  have nd := sc_is_row.nd
  refine mkCal D sc_is_row (fun vs H Q E h => ?_) (fun _ _ _ _ _ _ us hl => match us, hl with | [_, _], _ => rfl) (fun f0 cdv A outer s H vs Q E hr h => ?_)
  · obtain ⟨y, ns, rfl, _⟩ := h
    rfl
  obtain ⟨y, ns, rfl, hy, hn, k⟩ := h
  refine ⟨_, (pss_one (ps_ret (pe_and (pe_c c_is_list hr (by decide) rfl (pa_cons (pv 0) pa_nil)) (pe_and (pe_cmpR op_eq (pe_callB (call_lenK (K := K)) (by rfl) T.len (by decide +kernel) (pa_cons (pv 0) pa_nil)) (pv 1) (nomark _)) (pe_one (pe_callB (cr_all rfl) (by rfl) T.all (by decide +kernel) (pa_cons (pe_lc (own := [("item", 2)]) (g := gName 2) (tt := tYes) rfl nd (pi_or (pi_listK (K := K) (pv 0)) (pi_tupK (K := K) (pv 0))) (blkOk_by (by kernel_rfl)) (fun _ _ _ _ _ => (pg_name (i := 2) nd rfl (Or.inl rfl))) (fun _ _ _ _ _ => pts_nil) (fun _ _ _ _ _ => (pe_c c_is_number hr (by decide) rfl (pa_cons (pv 2) pa_nil)))) pa_nil))))))), ?_⟩
  walk_at "st"
  walk_at "go"
  refine ⟨y, rfl, hy.isL, fun H1 e1 => r_bl (r_true ?_)⟩
  walk_at "go"
  have hlen : ∃ p ys, [y] = [.ref p] ∧ (SqL K H1 p ys ∨ SqT K H1 p ys) ∧ ys.length = ns.length := by
    rcases (Mon.mono e1 hy : SeqOf IntV ns y H1) with ⟨b, ys, rfl, hb, he⟩ | ⟨b, ys, rfl, hb, he⟩
    · exact ⟨b, ys, rfl, .inl (SqL.of hb), he.len⟩
    · exact ⟨b, ys, rfl, .inr (.inl (.inl hb)), he.len⟩
  obtain ⟨b, ys, hb, hs, hl⟩ := hlen
  refine ⟨b, ys, hb, hs, ?_⟩
  walk_at "go"
  rw [hl]
  refine r_decT rfl ?_
  walk_at "go"
  refine r_lc (r_itS hy e1 (fun Q q => by walk_at "go"; exact q) fun J ys hys wk => ?_)
  refine lc_new (R := fun (b : Bool) y _ => y = V.bl b) (wk.mono (fun H' (e : Same H1 H') => Same.trans e1 e) fun _ _ _ _ _ _ h => h) (fun _ => true) (fun _ => true) (fun _ h => h) (by omega) (fun i x H3 H2 kY kN hi e z hY hN => ?_) (fun D H' ys hD e hy m => ?_)
  · obtain ⟨rfl, hx⟩ := z
    obtain ⟨ni, hni, rfl⟩ := hys.yet hx
    walk_at "lc"
    walk_at "go"
    refine ⟨rfl, ?_⟩
    walk_at "go"
    exact ⟨ni, rfl, hY _ _ rfl (Same.refl _) rfl⟩
  · walk_at "go"
    obtain ⟨h1, h2⟩ := all_true m
    refine ⟨D, _, rfl, h1 ▸ SqL.of hy, ?_⟩
    rw [h2]
    exact k _ (Same.trans e1 e)
abbrev s_are_rows : Stmt := top 15
theorem sc_are_rows : FnScope ["thing", "size", "row"] ["thing", "size"] (defScope s_are_rows) := ⟨rfl, rfl, rfl, by decide +kernel, rfl, by decide +kernel, by decide +kernel⟩
def spAreRows : Sp := fun vs H Q _ => ∃ (y : V) (nss : List (List Int)) (n : Nat), vs = [y, .int n] ∧ SeqOf (SeqOf IntV) nss y H ∧ (∀ ns ∈ nss, ns.length = n) ∧ n ≤ 2000 ∧ nss.length ≤ 5000 ∧ ∀ H', Same H H' → Q (.bl true) H'
theorem ok_are_rows (T : Tx K mg d) (D : Df K mg "are_rows" s_are_rows) (c_is_list : Cal P w K mg base 1 "is_list" spIsList []) (c_is_row : Cal P w K mg base 2 "is_row" spIsRow []) : Cal P w K mg base 3 "are_rows" (spAreRows) [] := by
  have nd := sc_are_rows.nd
  refine mkCal D sc_are_rows (fun vs H Q E h => ?_) (fun _ _ _ _ _ _ us hl => match us, hl with | [_, _], _ => rfl) (fun f0 cdv A outer s H vs Q E hr h => ?_)
  · obtain ⟨y, ns, n, rfl, _⟩ := h
    rfl
  obtain ⟨y, nss, n, rfl, hy, hns, hn, hl, k⟩ := h
  refine ⟨_, (pss_one (ps_ret (pe_and (pe_c c_is_list hr (by decide) rfl (pa_cons (pv 0) pa_nil)) (pe_one (pe_callB (cr_all rfl) (by rfl) T.all (by decide +kernel) (pa_cons (pe_lc (own := [("row", 2)]) (g := gName 2) (tt := tYes) rfl nd (pi_or (pi_listK (K := K) (pv 0)) (pi_tupK (K := K) (pv 0))) (blkOk_by (by kernel_rfl)) (fun _ _ _ _ _ => (pg_name (i := 2) nd rfl (Or.inl rfl))) (fun _ _ _ _ _ => pts_nil) (fun _ _ _ _ _ => (pe_c c_is_row hr (by decide) rfl (pa_cons (pv 2) (pa_cons (pv 1) pa_nil))))) pa_nil)))))), ?_⟩
  walk_at "st"
  walk_at "go"
  refine ⟨y, rfl, hy.isL, fun H1 e1 => r_bl (r_true ?_)⟩
  walk_at "go"
  refine r_lc (r_itS hy e1 (fun Q q => by walk_at "go"; exact q) fun J ys hys wk => ?_)
  refine lc_new (R := fun (b : Bool) y _ => y = V.bl b) (wk.mono (fun H' (e : Same H1 H') => Same.trans e1 e) fun _ _ _ _ _ _ h => h) (fun _ => true) (fun _ => true) (fun _ h => h) (by omega) (fun i x H3 H2 kY kN hi e z hY hN => ?_) (fun D H' ys hD e hy m => ?_)
  · obtain ⟨rfl, hx⟩ := z
    obtain ⟨ni, hni, hxx⟩ := hys.yet hx
    walk_at "lc"
    walk_at "go"
    refine ⟨rfl, ?_⟩
    walk_at "go"
    have hln := hns ni (List.mem_of_getElem? hni)
    refine ⟨x, ni, by rw [hln]; rfl, Mon.mono (Same.trans e1 e) hxx, by omega, fun H4 e4 => hY _ _ rfl e4 rfl⟩
  · walk_at "go"
    obtain ⟨h1, h2⟩ := all_true m
    refine ⟨D, _, rfl, h1 ▸ SqL.of hy, ?_⟩
    rw [h2]
    exact k _ (Same.trans e1 e)
abbrev s_need_prime : Stmt := top 16
theorem sc_need_prime : FnScope ["prime"] ["prime"] (defScope s_need_prime) := ⟨rfl, rfl, rfl, by decide +kernel, rfl, by decide +kernel, by decide +kernel⟩
def spNeedP (p : Nat) : Sp := fun vs H Q _ => vs = [.int p] ∧ Q .non H
theorem ok_need_prime (T : Tx K mg d) (D : Df K mg "need_prime" s_need_prime) (c_is_number : Cal P w K mg base 1 "is_number" spIsNum []) : Cal P w K mg base 2 "need_prime" (U fun p _ => spNeedP p) [] := by
  have nd := sc_need_prime.nd
  refine mkCalU D sc_need_prime (fun p hp vs H Q E h => ?_) (fun _ _ _ _ _ _ us hl => match us, hl with | [_], _ => rfl) (fun p hp f0 cdv A outer s H vs Q E hr h => ?_)
  · obtain ⟨rfl, _⟩ := h
    rfl
  obtain ⟨rfl, k⟩ := h
  refine ⟨_, (pss_one (ps_if (PW.pt (pw_or (pt_not (pt_val (pe_c c_is_number hr (by decide) rfl (pa_cons (pv 0) pa_nil)))) (pw_or1 (pt_cmpR op_notIn_seq (pv 0) (g_PRIMES T) rfl)))) 
      (pss_one ps_never) pss_nil)), ?_⟩
  walk_at "st"
  walk_at "go"
  refine ⟨p, rfl, r_bl (r_false ?_)⟩
  walk_at "go"
  refine ⟨d.P, primes.map V.int, rfl, .inr (T.primesT _), rfl, by decide +kernel, ?_⟩
  have e : inV (.int (p : Int)) (primes.map V.int) = true := by
    have h := (inferInstance : Pr p).mem
    simp only [List.mem_cons, List.not_mem_nil, or_false] at h
    rcases h with h | h | h | h | h | h | h <;> (rw [h]; decide +kernel)
  rw [if_pos rfl, e]
  refine r_bl (r_false ?_)
  exact k
abbrev s_need_letters : Stmt := top 17
theorem sc_need_letters : FnScope ["letters"] ["letters"] (defScope s_need_letters) := ⟨rfl, rfl, rfl, by decide +kernel, rfl, by decide +kernel, by decide +kernel⟩
def spNeedL : Sp := fun vs H Q _ => ∃ L : Int, vs = [.int L] ∧ 1 ≤ L ∧ L ≤ 9 ∧ Q .non H
theorem ok_need_letters (T : Tx K mg d) (D : Df K mg "need_letters" s_need_letters) (c_is_between : Cal P w K mg base 2 "is_between" spBetw []) : Cal P w K mg base 3 "need_letters" (spNeedL) [] := by
  have nd := sc_need_letters.nd
  refine mkCal D sc_need_letters (fun vs H Q E h => ?_) (fun _ _ _ _ _ _ us hl => match us, hl with | [_], _ => rfl) (fun f0 cdv A outer s H vs Q E hr h => ?_)
  · obtain ⟨L, rfl, _⟩ := h
    rfl
  obtain ⟨L, rfl, h1, h2, k⟩ := h
  refine ⟨_, (pss_one (ps_if (pt_not (pt_val (pe_c c_is_between hr (by decide) rfl (pa_cons (pv 0) (pa_cons pe_int (pa_cons (g_MOST_LETTERS T) pa_nil)))))) 
      (pss_one ps_never) pss_nil)), ?_⟩
  walk_at "st"
  walk_at "go"
  refine ⟨L, 1, 9, rfl, h1, h2, r_bl (r_false ?_)⟩
  exact k
abbrev s_need_made : Stmt := top 35
theorem sc_need_made : FnScope ["letters"] ["letters"] (defScope s_need_made) := ⟨rfl, rfl, rfl, by decide +kernel, rfl, by decide +kernel, by decide +kernel⟩
theorem ok_need_made (T : Tx K mg d) (D : Df K mg "need_made" s_need_made) (c_is_between : Cal P w K mg base 2 "is_between" spBetw []) : Cal P w K mg base 3 "need_made" (spNeedL) [] := by
  have nd := sc_need_made.nd
  refine mkCal D sc_need_made (fun vs H Q E h => ?_) (fun _ _ _ _ _ _ us hl => match us, hl with | [_], _ => rfl) (fun f0 cdv A outer s H vs Q E hr h => ?_)
  · obtain ⟨L, rfl, _⟩ := h
    rfl
  obtain ⟨L, rfl, h1, h2, k⟩ := h
  refine ⟨_, (pss_one (ps_if (pt_not (pt_val (pe_c c_is_between hr (by decide) rfl (pa_cons (pv 0) (pa_cons pe_int (pa_cons (g_MOST_LETTERS T) pa_nil)))))) 
      (pss_one ps_never) pss_nil)), ?_⟩
  walk_at "st"
  walk_at "go"
  refine ⟨L, 1, 9, rfl, h1, h2, r_bl (r_false ?_)⟩
  exact k
abbrev s_need_from : Stmt := top 18
theorem sc_need_from : FnScope ["number", "part"] ["number", "part"] (defScope s_need_from) := ⟨rfl, rfl, rfl, by decide +kernel, rfl, by decide +kernel, by decide +kernel⟩
def spNeedF : Sp := fun vs H Q _ => ∃ (i : Int) (x : V), vs = [.int i, x] ∧ 0 ≤ i ∧ Q .non H
theorem ok_need_from (T : Tx K mg d) (D : Df K mg "need_from" s_need_from) (c_is_number : Cal P w K mg base 1 "is_number" spIsNum []) : Cal P w K mg base 2 "need_from" (spNeedF) [] := by
  have nd := sc_need_from.nd
  refine mkCal D sc_need_from (fun vs H Q E h => ?_) (fun _ _ _ _ _ _ us hl => match us, hl with | [_, _], _ => rfl) (fun f0 cdv A outer s H vs Q E hr h => ?_)
  · obtain ⟨i, x, rfl, _⟩ := h
    rfl
  obtain ⟨i, x, rfl, h1, k⟩ := h
  refine ⟨_, (pss_one (ps_if (PW.pt (pw_or (pt_not (pt_val (pe_c c_is_number hr (by decide) rfl (pa_cons (pv 0) pa_nil)))) (pw_or1 (pt_cmpR op_lt (pv 0) pe_int (nomark _))))) 
      (pss_one ps_never) pss_nil)), ?_⟩
  walk_at "st"
  walk_at "go"
  refine ⟨i, rfl, r_bl (r_false ?_)⟩
  walk_at "go"
  refine r_decF (by omega) ?_
  exact k
abbrev s_need_rows : Stmt := top 20
theorem sc_need_rows : FnScope ["thing", "size"] ["thing", "size"] (defScope s_need_rows) := ⟨rfl, rfl, rfl, by decide +kernel, rfl, by decide +kernel, by decide +kernel⟩
def spNeedR : Sp := fun vs H Q _ => ∃ (y : V) (nss : List (List Int)) (n : Nat), vs = [y, .int n] ∧ SeqOf (SeqOf IntV) nss y H ∧ (∀ ns ∈ nss, ns.length = n) ∧ n ≤ 2000 ∧ nss.length ≤ 5000 ∧ ∀ H', Same H H' → Q .non H'
theorem ok_need_rows (T : Tx K mg d) (D : Df K mg "need_rows" s_need_rows) (c_are_rows : Cal P w K mg base 3 "are_rows" spAreRows []) : Cal P w K mg base 4 "need_rows" (spNeedR) [] := by
  have nd := sc_need_rows.nd
  refine mkCal D sc_need_rows (fun vs H Q E h => ?_) (fun _ _ _ _ _ _ us hl => match us, hl with | [_, _], _ => rfl) (fun f0 cdv A outer s H vs Q E hr h => ?_)
  · obtain ⟨y, ns, n, rfl, _⟩ := h
    rfl
  obtain ⟨y, nss, n, rfl, hy, hns, hn, hl, k⟩ := h
  refine ⟨_, (pss_one (ps_if (pt_not (pt_val (pe_c c_are_rows hr (by decide) rfl (pa_cons (pv 0) (pa_cons (pv 1) pa_nil))))) 
      (pss_one ps_never) pss_nil)), ?_⟩
  walk_at "st"
  walk_at "go"
  refine ⟨y, nss, n, rfl, hy, hns, hn, hl, fun H' e => r_bl (r_false ?_)⟩
  exact k _ e
abbrev s_many_words : Stmt := top 19
theorem sc_many_words : FnScope ["letters", "length", "found", "lap"] ["letters", "length"] (defScope s_many_words) := ⟨rfl, rfl, rfl, by decide +kernel, rfl, by decide +kernel, by decide +kernel⟩
def spMany : Sp := fun vs H Q _ => ∃ L n : Nat, vs = [.int L, .int n] ∧ 1 ≤ L ∧ n ≤ 1000 ∧ L ^ n ≤ 1000 ∧ Q (.int ((L ^ n : Nat) : Int)) H
theorem ok_many_words (T : Tx K mg d) (D : Df K mg "many_words" s_many_words) : Cal P w K mg base 1 "many_words" (spMany) [] := by
  have nd := sc_many_words.nd
  refine mkCal D sc_many_words (fun vs H Q E h => ?_) (fun _ _ _ _ _ _ us hl => match us, hl with | [_, _], _ => rfl) (fun f0 cdv A outer s H vs Q E hr h => ?_)
  · obtain ⟨L, n, rfl, _⟩ := h
    rfl
  obtain ⟨L, n, rfl, hL, hn, hb, k⟩ := h
  refine ⟨_, (pss_cons (ps_set (i := 2) nd rfl (Or.inl rfl) pe_int)
    (pss_cons (ps_for PassesOwn.never rfl (pi_range1 rfl T.range (pa_cons (pe_ifExp (pt_cmpR op_gt (pv 0) pe_int (nomark _)) (pv 1) pe_int) pa_nil)) (pg_name (i := 3) nd rfl (Or.inl rfl)) 
      (pss_cons (ps_aug (i := 2) nd rfl (Or.inl rfl) (pv 0) ip_mul)
      (pss_one (ps_if (pt_cmpR op_gt (pv 2) (g_MOST_WORDS T) (nomark _)) 
        (pss_one ps_never) pss_nil))))
    (pss_one (ps_ret (pv 2))))), ?_⟩
  walk_at "st"
  walk_at "go"
  have hpow : ∀ i, i ≤ n → L ^ i ≤ 1000 := fun i hi => Nat.le_trans (Nat.pow_le_pow_right hL hi) hb
  obtain ⟨m, hm, he, ht⟩ : ∃ m, m ≤ n ∧ L ^ m = L ^ n ∧ ∀ QA : List V → Hp → Prop, QA [.int (m : Int)] H → (tCons (tIf (tTest (tOp (rI0 fun i j => V.bl (decide (j < i))) (tVar 0) (tC (.int 1)))) (tVar 1) (tC (.int 0))) tNil) [some (.int (L : Int)), some (.int (n : Int)), some (.int 1), none] H QA := by
    by_cases h1 : 1 < L
    · refine ⟨n, Nat.le_refl _, rfl, fun QA q => ?_⟩
      walk_at "go"
      refine r_decT (by omega) ?_
      walk_at "go"
      exact q
    · have : L = 1 := by omega
      subst this
      refine ⟨0, Nat.zero_le _, by simp, fun QA q => ?_⟩
      walk_at "go"
      refine r_decF (by omega) ?_
      walk_at "go"
      exact q
  refine r_for (r_rng m (by omega) ht fun J wk => ?_)
  refine for_it wk (fun i σ H' => H' = H ∧ ∃ v, σ = [some (.int (L : Int)), some (.int (n : Int)), some (.int ((L ^ i : Nat) : Int)), v]) ⟨rfl, _, rfl⟩ (fun _ _ _ _ _ => trivial) ?_ ?_
  · rintro i x σ Hx H3 hi ⟨rfl, v, rfl⟩ ⟨rfl, rfl⟩
    have hp1 := hpow i (by omega)
    have hp2 := hpow (i + 1) (by omega)
    have hmul : ((L ^ i : Nat) : Int) * (L : Int) = ((L ^ (i + 1) : Nat) : Int) := by rw [Nat.pow_succ]; exact (Int.natCast_mul _ _).symm
    walk_at "go"
    refine ⟨_, _, rfl, rfl, ⟨by omega, by omega⟩, ?_⟩
    rw [hmul]
    dsimp only [List.set_cons_succ, List.set_cons_zero]
    walk_at "go"
    refine r_decF (by omega) ?_
    walk_at "go"
    exact ⟨rfl, _, rfl⟩
  · rintro σ H' ⟨rfl, v, rfl⟩
    walk_at "go"
    rw [he]
    exact k
end
section
variable {P : Program} {w : World} {K : PySem.W.Frag} {mg : Str → Option Value} {base : Heap} {d : Ad} {p : Nat} [Pr p]
/-! ### rule books -/
def Bk.rows (B : Bk p) : List (List Int) := B.hs.map fun e => rowI (B.L * B.L) e.2
/-- an instance of Rules at y -/
def BookV (d : Ad) (B : Bk p) (y : V) (H : Hp) : Prop := ∃ a dx t, y = .ref a ∧ H a = some (.ins d.C dx [("prime", .int p), ("letters", .int (B.L : Nat)), ("rules", .ref t)]) ∧ TupOf (TupOf IntV) B.rows (.ref t) H
instance : Mon (BookV (p := p) d) := ⟨fun e ⟨a, dx, t, h1, h2, h3⟩ => ⟨a, dx, t, h1, e a _ h2, Mon.mono e h3⟩⟩
def spInit (p : Nat) [Pr p] (d : Ad) : Sp := fun vs H Q _ => ∃ (a dx : Addr) (L : Nat) (y : V) (nss : List (List Int)), vs = [.ref a, .int p, .int L, y] ∧ H a = some (.ins d.C dx []) ∧ SeqOf (SeqOf IntV) nss y (hide a H) ∧ (∀ ns ∈ nss, ns.length = L * L) ∧ nss.length ≤ 5000 ∧ 1 ≤ L ∧ L ≤ 9 ∧
  ∀ (B : Bk p) t H', B.L = L → (∀ f, SpanH B.hs f ↔ SpanL (nss.map (vecI (p := p))) f) → Same (hide a H) H' → H' a = some (.ins d.C dx [("prime", .int p), ("letters", .int (B.L : Nat)), ("rules", .ref t)]) → TupOf (TupOf IntV) B.rows (.ref t) (New H H') → Q .non H'
theorem hide_hide {d : Addr} {H : Hp} : hide d (hide d H) = hide d H := funext fun b => by
  unfold hide
  by_cases e : b = d
  · rw [if_pos e, if_pos e]
  · rw [if_neg e, if_neg e]
theorem same_hide_upd {d : Addr} {H H' : Hp} {o : HO} (e : Same (hide d H) H') : Same (hide d H) (upd H' d o) := Same.mut e (if_pos rfl)
abbrev s_Rules___init__ : Stmt := inClass (top 31) 0
theorem sc_Rules___init__ : FnScope ["self", "prime", "letters", "rows"] ["self", "prime", "letters", "rows"] (defScope s_Rules___init__) := ⟨rfl, rfl, rfl, by decide +kernel, rfl, by decide +kernel, by decide +kernel⟩
theorem ok_Rules___init__ {Pf : Addr → Prop} (T : Tx K mg d) (D : DfM K "__init__" "Rules.__init__" s_Rules___init__ Pf) (c_need_prime : Cal P w K mg base 2 "need_prime" (U fun p _ => spNeedP p) []) (c_need_letters : Cal P w K mg base 3 "need_letters" spNeedL []) (c_need_rows : Cal P w K mg base 4 "need_rows" spNeedR []) (c_tidy_rows : Cal P w K mg base 4 "tidy_rows" (U fun p _ => spTidy p) []) : FnB P w K mg base 5 Pf (U fun p _ => spInit p d) := by
  have nd := sc_Rules___init__.nd
  refine mkFnU D sc_Rules___init__ (fun p hp vs H Q E h => ?_) (fun _ _ _ _ _ _ us hl => match us, hl with | [_, _, _, _], _ => rfl) (fun p hp f0 cdv A outer s H vs Q E hr h => ?_)
  · obtain ⟨a, dx, L, y, nss, rfl, _⟩ := h
    rfl
  obtain ⟨a, dx, L, y, nss, rfl, ha, hy, hns, hl, h1, h9, k⟩ := h
  have hLL : ((L : Nat) : Int) * (L : Int) = ((L * L : Nat) : Int) := (Int.natCast_mul _ _).symm
  have hL2 : L * L ≤ 81 := Nat.mul_le_mul h9 h9
  have hsm : (-(2 ^ 64) < (L : Int) ∧ (L : Int) < 2 ^ 64) ∨ (-(2 ^ 64) < (L : Int) ∧ (L : Int) < 2 ^ 64) := .inl ⟨by omega, by omega⟩
  refine ⟨_, (pss_cons (ps_expr (pe_c c_need_prime hr (by decide) rfl (pa_cons (pv 1) pa_nil)))
    (pss_cons (ps_expr (pe_c c_need_letters hr (by decide) rfl (pa_cons (pv 2) pa_nil)))
    (pss_cons (ps_expr (pe_c c_need_rows hr (by decide) rfl (pa_cons (pv 3) (pa_cons (pe_op op_mul (pv 2) (pv 2)) pa_nil))))
    (pss_cons (ps_fld (pv 0) (pv 1) rfl)
    (pss_cons (ps_fld (pv 0) (pv 2) rfl)
    (pss_one (ps_fld (pv 0) (pe_callTy (call_tupK (K := K)) (by rfl) T.tuple_ (by decide +kernel) (pa_cons (pe_c c_tidy_rows hr (by decide) rfl (pa_cons (pv 1) (pa_cons (pe_op op_mul (pv 2) (pv 2)) (pa_cons (pv 3) pa_nil)))) pa_nil)) rfl))))))), ?_⟩
  walk_at "st"
  walk_at "go"
  refine ⟨rfl, ?_⟩
  walk_at "go"
  refine ⟨L, rfl, by omega, by omega, ?_⟩
  walk_at "go"
  rw [hLL]
  refine ⟨y, nss, L * L, rfl, Mon.mono hide_le hy, hns, by omega, hl, fun H1 e1 => ?_⟩
  walk_at "go"
  refine ⟨a, d.C, dx, [], rfl, e1 a _ ha, T.clR, T.nP, by show (0 : Nat) < 1000; omega, ?_⟩
  walk_at "go"
  refine ⟨a, d.C, dx, _, rfl, upd_same, T.clR, T.nL, by show (1 : Nat) < 1000; omega, ?_⟩
  rw [upd_upd]
  walk_at "go"
  rw [hLL]
  have e2 : Same (hide a H) (upd H1 a (.ins d.C dx (putF "letters" (.int (L : Nat)) (putF "prime" (.int p) [])))) := same_hide_upd (Same.trans hide_le e1)
  refine ⟨L * L, y, nss, rfl, Mon.mono e2 hy, hns, by omega, hl, fun y' H2 hs e3 R hsrt hbd hsp hr2 => ?_⟩
  walk_at "go"
  obtain ⟨b, ys, rfl, hb, hys⟩ := hr2
  have hb2 := New.le b _ hb
  refine ⟨b, ys, rfl, .inl ⟨SqL.of hb2, fun t ht => ?_⟩⟩
  walk_at "go"
  have hat := e3 a _ upd_same
  have hta : t ≠ a := ne_new ht (by rw [hat]; simp)
  refine ⟨a, d.C, dx, _, rfl, by rw [upd_ne hta.symm]; exact hat, T.clR, T.nR, by show 2 < 1000; omega, ?_⟩
  have B : Bk p := ⟨L, hs, R, hsrt, hbd, h1, h9⟩
  refine k ⟨L, hs, R, hsrt, hbd, h1, h9⟩ t _ rfl hsp ?_ ?_ ?_
  · exact same_hide_upd (Same.trans e2 (Same.trans e3 (Same.new ht)))
  · rw [upd_same]
    rfl
  · have hnH : ∀ b, b ≠ a → (upd H1 a (.ins d.C dx (putF "letters" (.int (L : Nat)) (putF "prime" (.int p) [])))) b = none → H b = none := fun b hba hb0 => by
      have := none_of e2 hb0
      rw [hide_ne hba] at this
      exact this
    have ht0 : H t = none := hnH t hta (none_of e3 ht)
    refine ⟨t, ys, rfl, by rw [New.at_ ht0, upd_ne hta, upd_same], hys.mono fun b u hb => ?_⟩
    have hb1 := New.old hb
    have hba : b ≠ a := fun z => by rw [z, upd_same] at hb1; cases hb1
    rw [New.at_ (hnH b hba hb1), upd_ne hba, upd_ne (ne_of_none (New.le b u hb) ht)]
    exact New.le b u hb
/-- Rules(prime, letters, rows) -/
theorem r_mkRules {H : Hp} {Q : VK} {L : Nat} {y : V} {nss : List (List Int)} (hy : SeqOf (SeqOf IntV) nss y H) (hns : ∀ ns ∈ nss, ns.length = L * L) (hl : nss.length ≤ 5000) (h1 : 1 ≤ L) (h9 : L ≤ 9)
    (k : ∀ (B : Bk p) y' H', Same H H' → B.L = L → (∀ f, SpanH B.hs f ↔ SpanL (nss.map (vecI (p := p))) f) → BookV d B y' (New H H') → Q y' H') :
    ∀ x dx, H x = none → H dx = none → dx ≠ x → U (fun p _ => spInit p d) (.ref x :: ([.int p, .int L, y] ++ [])) (upd (upd H dx (.own x)) x (.ins d.C dx [])) (fun v H2 => v = .non ∧ Q (.ref x) H2) E0 := fun x dx hx hdx hne => by
  have e0 : Same H (hide x (upd (upd H dx (.own x)) x (.ins d.C dx []))) := fun b u hb => by
    rw [hide_ne (ne_of_none hb hx), upd_ne (ne_of_none hb hx), upd_ne (ne_of_none hb hdx)]
    exact hb
  refine r_U (by assumption) ⟨x, dx, L, y, nss, rfl, upd_same, Mon.mono e0 hy, hns, hl, h1, h9, fun B t H' hB hsp e ha ht => ⟨rfl, k B _ H' (Same.trans e0 e) hB hsp ?_⟩⟩
  have hs : Same (New (upd (upd H dx (.own x)) x (.ins d.C dx [])) H') (New H H') := New.anti fun b u hb => by
    rw [upd_ne (ne_of_none hb hx), upd_ne (ne_of_none hb hdx)]
    exact hb
  exact ⟨x, dx, t, rfl, by rw [New.at_ hx]; exact ha, Mon.mono hs ht⟩
theorem Bk.rows_len (B : Bk p) : ∀ ns ∈ B.rows, ns.length = B.L * B.L := fun ns h => by
  obtain ⟨e, _, rfl⟩ := List.mem_map.mp h
  exact rowI_len _ _
theorem Bk.vec (B : Bk p) : B.rows.map (vecI (p := p)) = B.hs.map (·.2) := by
  unfold Bk.rows
  rw [List.map_map]
  exact List.map_congr_left fun e he => vecI_rowI (B.bd e he)
theorem spanH_L (hs : List (Hd p)) (f : Vec p) : SpanL (hs.map (·.2)) f ↔ SpanH hs f := by
  constructor
  · exact Span.mono fun g hg => let ⟨e, he, q⟩ := List.mem_map.mp hg; .of ⟨e, he, q⟩
  · exact Span.mono fun g ⟨e, he, q⟩ => .of (List.mem_map.mpr ⟨e, he, q⟩)
/-- the same room: the same book -/
theorem Bk.rows_eq {B B' : Bk p} (hL : B.L = B'.L) (h : ∀ f, SpanH B.hs f ↔ SpanH B'.hs f) : B.rows = B'.rows := by
  have hm : ∀ x, x ∈ B.hs ↔ x ∈ B'.hs := fun x => ⟨fun hx => B.red.mem_of B'.red (fun f => (h f).mp) (fun f => (h f).mpr) hx, fun hx => B'.red.mem_of B.red (fun f => (h f).mpr) (fun f => (h f).mp) hx⟩
  have e : B.hs = B'.hs := by
    have key : ∀ {l l' : List (Hd p)}, (l.map (·.1)).Pairwise (· < ·) → (l'.map (·.1)).Pairwise (· < ·) → (∀ x, x ∈ l ↔ x ∈ l') → l = l' := by
      intro l
      induction l with
      | nil =>
        intro l' _ _ hm
        cases l' with
        | nil => rfl
        | cons b r => have := (hm b).mpr List.mem_cons_self; cases this
      | cons a r ih =>
        intro l' h1 h2 hm
        cases l' with
        | nil => have := (hm a).mp List.mem_cons_self; cases this
        | cons b r' =>
          rw [List.map_cons, List.pairwise_cons] at h1 h2
          have hab : a = b := by
            rcases List.mem_cons.mp ((hm a).mp List.mem_cons_self) with q | q
            · exact q
            · rcases List.mem_cons.mp ((hm b).mpr List.mem_cons_self) with z | z
              · exact z.symm
              · have k1 := h2.1 a.1 (List.mem_map.mpr ⟨a, q, rfl⟩)
                have k2 := h1.1 b.1 (List.mem_map.mpr ⟨b, z, rfl⟩)
                omega
          subst hab
          refine congrArg (a :: ·) (ih h1.2 h2.2 fun x => ⟨fun hx => ?_, fun hx => ?_⟩)
          · rcases List.mem_cons.mp ((hm x).mp (List.mem_cons_of_mem _ hx)) with q | q
            · subst q
              have := h1.1 x.1 (List.mem_map.mpr ⟨x, hx, rfl⟩)
              omega
            · exact q
          · rcases List.mem_cons.mp ((hm x).mpr (List.mem_cons_of_mem _ hx)) with q | q
            · subst q
              have := h2.1 x.1 (List.mem_map.mpr ⟨x, hx, rfl⟩)
              omega
            · exact q
    exact key B.srt B'.srt hm
  unfold Bk.rows
  rw [e, hL]
/-! data -/
def datI (ns : List Int) : PyData := .tuple (ns.map .int)
theorem dpAll_int {H : Hp} : ∀ ns : List Int, DpAll K H (ns.map V.int) (ns.map PyData.int)
  | [] => .nil
  | n :: r => .cons (.int n) (dpAll_int r)
theorem dpAll_of {α : Type} {R : α → V → Hp → Prop} {g : α → PyData} {H : Hp} (k : ∀ f y, R f y H → Dp K H y (g f)) : ∀ {fs : List α} {ys : List V}, Each R fs ys H → DpAll K H ys (fs.map g)
  | [], [], _ => .nil
  | [], _ :: _, h => by have := h.len; simp at this
  | _ :: _, [], h => by have := h.len; simp at this
  | f :: fs, y :: ys, h => .cons (k _ _ (h.at_ 0 f y rfl rfl)) (dpAll_of k ⟨by have := h.len; simpa using this, fun i a b h1 h2 => h.at_ (i + 1) a b h1 h2⟩)
theorem dp_int {H : Hp} {ns : List Int} {y : V} (h : TupOf IntV ns y H) : Dp K H y (datI ns) := by
  obtain ⟨b, ys, rfl, hb, he⟩ := h
  exact .tup (.inl (.inl hb)) (dpAll_of (g := PyData.int) (fun f y h => by rw [show y = V.int f from h]; exact .int f) he)
def datR (nss : List (List Int)) : PyData := .tuple (nss.map datI)
theorem dp_rows {H : Hp} {nss : List (List Int)} {y : V} (h : TupOf (TupOf IntV) nss y H) : Dp K H y (datR nss) := by
  obtain ⟨b, ys, rfl, hb, he⟩ := h
  exact .tup (.inl (.inl hb)) (dpAll_of (g := datI) (fun f y h => dp_int h) he)
theorem can_ints : ∀ ns : List Int, PyData.canLayAll0 (ns.map PyData.int) = true
  | [] => rfl
  | n :: r => by rw [List.map_cons, PyData.canLayAll0, can_ints r]; rfl
theorem can_rows : ∀ nss : List (List Int), PyData.canLayAll0 (nss.map datI) = true
  | [] => rfl
  | n :: r => by
    rw [List.map_cons, PyData.canLayAll0, can_rows r]
    show (PyData.canLayAll0 (n.map PyData.int) && true) = true
    rw [can_ints]
    rfl
theorem dep_ints : ∀ ns : List Int, PyData.depthAll (ns.map PyData.int) ≤ 1
  | [] => by simp [PyData.depthAll]
  | n :: r => by
    have := dep_ints r
    rw [List.map_cons, PyData.depthAll]
    have h1 : (PyData.int n).depth ≤ 1 := by simp [PyData.depth]
    omega
theorem dep_rows : ∀ nss : List (List Int), PyData.depthAll (nss.map datI) ≤ 3
  | [] => by simp [PyData.depthAll]
  | n :: r => by
    have := dep_rows r
    rw [List.map_cons, PyData.depthAll]
    have h1 : (datI n).depth ≤ 3 := by
      have := dep_ints n
      unfold datI
      rw [PyData.depth]
      omega
    omega
theorem shaped_rows (nss : List (List Int)) : SeqAt.shaped (datR nss) = true := by
  unfold SeqAt.shaped
  refine Bool.and_eq_true_iff.mpr ⟨can_rows nss, decide_eq_true ?_⟩
  have := dep_rows nss
  unfold datR
  rw [PyData.depth]
  omega
theorem eqv_rows (nss : List (List Int)) : PyData.eqv (datR nss) (datR nss) = true := SeqAt.eqv_refl _ (can_rows nss)
abbrev s_Rules___eq__ : Stmt := inClass (top 31) 1
theorem sc_Rules___eq__ : FnScope ["self", "other"] ["self", "other"] (defScope s_Rules___eq__) := ⟨rfl, rfl, rfl, by decide +kernel, rfl, by decide +kernel, by decide +kernel⟩
def spEq (p : Nat) [Pr p] (d : Ad) : Sp := fun vs H Q _ => ∃ (y z : V) (B B' : Bk p), vs = [y, z] ∧ BookV d B y H ∧ BookV d B' z H ∧ B.L = B'.L ∧ B.rows = B'.rows ∧ Q (.bl true) H
theorem ok_Rules___eq__ {Pf : Addr → Prop} (T : Tx K mg d) (D : DfM K "__eq__" "Rules.__eq__" s_Rules___eq__ Pf) : FnB P w K mg base 1 Pf (U fun p _ => spEq p d) := by
  have nd := sc_Rules___eq__.nd
  refine mkFnU D sc_Rules___eq__ (fun p hp vs H Q E h => ?_) (fun _ _ _ _ _ _ us hl => match us, hl with | [_, _], _ => rfl) (fun p hp f0 cdv A outer s H vs Q E hr h => ?_)
  · obtain ⟨y, z, B, B', rfl, _⟩ := h
    rfl
  obtain ⟨y, z, B, B', rfl, ⟨a, dx, t, rfl, ha, ht⟩, ⟨b, dy, t', rfl, hb, ht'⟩, hL, hR, k⟩ := h
  refine ⟨_, (pss_cons (ps_if (PW.pt (pw_or (pt_not (pt_val (pe_callB (call_isC T.insC) (by rfl) T.isinstance (by decide +kernel) (pa_cons (pv 1) (pa_cons (g_Rules T) pa_nil))))) (pw_or1 (pt_cmpR op_ne (pe_fldK (K := K) (pv 0) rfl) (pe_fldK (K := K) (pv 1) rfl) (nomark _))))) 
      (pss_one (ps_ret pe_bl)) pss_nil)
    (pss_one (ps_ret (pe_and (pe_cmpR op_eq (pe_fldK (K := K) (pv 0) rfl) (pe_fldK (K := K) (pv 1) rfl) (nomark _)) (pe_one (pe_cmpR (op_eqD hr.units) (pe_fldK (K := K) (pv 0) rfl) (pe_fldK (K := K) (pv 1) rfl) (nomark _))))))), ?_⟩
  walk_at "st"
  walk_at "go"
  refine ⟨b, dy, _, rfl, hb, r_bl (r_false ?_)⟩
  walk_at "go"
  refine ⟨a, d.C, dx, _, _, rfl, ha, T.clR, T.nP, rfl, ?_⟩
  walk_at "go"
  refine ⟨b, d.C, dy, _, _, rfl, hb, T.clR, T.nP, rfl, ?_⟩
  walk_at "go"
  refine r_ndec (fun h => absurd rfl h) fun _ => ?_
  walk_at "go"
  refine ⟨a, d.C, dx, _, _, rfl, ha, T.clR, T.nL, rfl, ?_⟩
  walk_at "go"
  refine ⟨b, d.C, dy, _, _, rfl, hb, T.clR, T.nL, rfl, ?_⟩
  walk_at "go"
  refine r_decT (by rw [hL]) ?_
  walk_at "go"
  refine ⟨a, d.C, dx, _, _, rfl, ha, T.clR, T.nR, rfl, ?_⟩
  walk_at "go"
  refine ⟨b, d.C, dy, _, _, rfl, hb, T.clR, T.nR, rfl, ?_⟩
  refine ⟨_, _, dp_rows ht, dp_rows ht', shaped_rows _, shaped_rows _, ?_⟩
  rw [hR, eqv_rows]
  exact k
abbrev s_need_book : Stmt := top 32
theorem sc_need_book : FnScope ["thing"] ["thing"] (defScope s_need_book) := ⟨rfl, rfl, rfl, by decide +kernel, rfl, by decide +kernel, by decide +kernel⟩
def spNeedB (p : Nat) [Pr p] (d : Ad) : Sp := fun vs H Q _ => ∃ (y : V) (B : Bk p), vs = [y] ∧ BookV d B y H ∧ Q .non H
theorem ok_need_book (T : Tx K mg d) (D : Df K mg "need_book" s_need_book) : Cal P w K mg base 1 "need_book" (U fun p _ => spNeedB p d) [] := by
  have nd := sc_need_book.nd
  refine mkCalU D sc_need_book (fun p hp vs H Q E h => ?_) (fun _ _ _ _ _ _ us hl => match us, hl with | [_], _ => rfl) (fun p hp f0 cdv A outer s H vs Q E hr h => ?_)
  · obtain ⟨y, B, rfl, _⟩ := h
    rfl
  obtain ⟨y, B, rfl, ⟨a, dx, t, rfl, ha, ht⟩, k⟩ := h
  refine ⟨_, (pss_one (ps_if (pt_not (pt_val (pe_callB (call_isC T.insC) (by rfl) T.isinstance (by decide +kernel) (pa_cons (pv 0) (pa_cons (g_Rules T) pa_nil))))) 
      (pss_one ps_never) pss_nil)), ?_⟩
  walk_at "st"
  walk_at "go"
  refine ⟨a, dx, _, rfl, ha, r_bl (r_false ?_)⟩
  exact k
abbrev s_need_one_prime : Stmt := top 34
theorem sc_need_one_prime : FnScope ["one", "other"] ["one", "other"] (defScope s_need_one_prime) := ⟨rfl, rfl, rfl, by decide +kernel, rfl, by decide +kernel, by decide +kernel⟩
def spOneP (p : Nat) [Pr p] (d : Ad) : Sp := fun vs H Q _ => ∃ (y z : V) (B B' : Bk p), vs = [y, z] ∧ BookV d B y H ∧ BookV d B' z H ∧ Q .non H
theorem ok_need_one_prime (T : Tx K mg d) (D : Df K mg "need_one_prime" s_need_one_prime) (c_need_book : Cal P w K mg base 1 "need_book" (U fun p _ => spNeedB p d) []) : Cal P w K mg base 2 "need_one_prime" (U fun p _ => spOneP p d) [] := by
  have nd := sc_need_one_prime.nd
  refine mkCalU D sc_need_one_prime (fun p hp vs H Q E h => ?_) (fun _ _ _ _ _ _ us hl => match us, hl with | [_, _], _ => rfl) (fun p hp f0 cdv A outer s H vs Q E hr h => ?_)
  · obtain ⟨y, z, B, B', rfl, _⟩ := h
    rfl
  obtain ⟨y, z, B, B', rfl, hy, hz, k⟩ := h
  obtain ⟨a, dx, t, rfl, ha, ht⟩ := id hy
  obtain ⟨b, dy, t', rfl, hb, ht'⟩ := id hz
  refine ⟨_, (pss_cons (ps_expr (pe_c c_need_book hr (by decide) rfl (pa_cons (pv 0) pa_nil)))
    (pss_cons (ps_expr (pe_c c_need_book hr (by decide) rfl (pa_cons (pv 1) pa_nil)))
    (pss_one (ps_if (pt_cmpR op_ne (pe_fldK (K := K) (pv 0) rfl) (pe_fldK (K := K) (pv 1) rfl) (nomark _)) 
      (pss_one ps_never) pss_nil)))), ?_⟩
  walk_at "st"
  walk_at "go"
  refine ⟨_, B, rfl, hy, ?_⟩
  walk_at "go"
  refine ⟨_, B', rfl, hz, ?_⟩
  walk_at "go"
  refine ⟨a, d.C, dx, _, _, rfl, ha, T.clR, T.nP, rfl, ?_⟩
  walk_at "go"
  refine ⟨b, d.C, dy, _, _, rfl, hb, T.clR, T.nP, rfl, ?_⟩
  walk_at "go"
  refine r_ndec (fun h => absurd rfl h) fun _ => ?_
  exact k
end
section
variable {P : Program} {w : World} {K : PySem.W.Frag} {mg : Str → Option Value} {base : Heap} {d : Ad} {p : Nat} [Pr p]
/-! ### sides -/
abbrev s_widened : Stmt := top 36
theorem sc_widened : FnScope ["row", "letters", "many", "first", "found", "a", "b"] ["row", "letters", "many", "first"] (defScope s_widened) := ⟨rfl, rfl, rfl, by decide +kernel, rfl, by decide +kernel, by decide +kernel⟩
def WideP (l n f : Nat) (ns : List Int) (F : Nat → Int) : Prop := (∀ a b, a < l → b < l → F ((f + a) * n + f + b) = ns.getD (a * l + b) 0) ∧ ∀ k, (∀ a b, a < l → b < l → k ≠ (f + a) * n + f + b) → F k = 0
/-- as it stands: the rows before a, and of row a what is before b -/
def WideM (l n f : Nat) (ns : List Int) (F : Nat → Int) (a b : Nat) : Prop := (∀ a' b', a' < l → b' < l → (a' < a ∨ (a' = a ∧ b' < b)) → F ((f + a') * n + f + b') = ns.getD (a' * l + b') 0) ∧
  ∀ k, (∀ a' b', a' < l → b' < l → (a' < a ∨ (a' = a ∧ b' < b)) → k ≠ (f + a') * n + f + b') → F k = 0
theorem wide_step {l n f : Nat} {ns : List Int} {F : Nat → Int} {a b : Nat} (ha : a < l) (hb : b < l) (hf : f + l ≤ n) (h : WideM l n f ns F a b) : WideM l n f ns (fun k => if k = (f + a) * n + f + b then ns.getD (a * l + b) 0 else F k) a (b + 1) := by
  refine ⟨fun a' b' h1 h2 h3 => ?_, fun k hk => ?_⟩
  · dsimp only
    by_cases e : (f + a') * n + f + b' = (f + a) * n + f + b
    · have := cell_inj (n := n) (a := f + a') (b := f + b') (c := f + a) (e := f + b) (by omega) (by omega) (by omega)
      obtain ⟨rfl, rfl⟩ : a' = a ∧ b' = b := by omega
      rw [if_pos rfl]
    · rw [if_neg e]
      refine h.1 a' b' h1 h2 ?_
      rcases h3 with h3 | ⟨rfl, h3⟩
      · exact .inl h3
      · refine .inr ⟨rfl, ?_⟩
        by_cases q : b' = b
        · subst q; exact absurd rfl e
        · omega
  · dsimp only
    rw [if_neg (hk a b ha hb (.inr ⟨rfl, by omega⟩))]
    exact h.2 k fun a' b' h1 h2 h3 => hk a' b' h1 h2 (by omega)
theorem wide_row {l n f : Nat} {ns : List Int} {F : Nat → Int} {a : Nat} (h : WideM l n f ns F a l) : WideM l n f ns F (a + 1) 0 :=
  ⟨fun a' b' h1 h2 h3 => h.1 a' b' h1 h2 (by omega), fun k hk => h.2 k fun a' b' h1 h2 h3 => hk a' b' h1 h2 (by omega)⟩
def widF (l n f : Nat) (ns : List Int) : Nat → Int := fun k => if f ≤ k / n ∧ k / n < f + l ∧ f ≤ k % n ∧ k % n < f + l then ns.getD ((k / n - f) * l + (k % n - f)) 0 else 0
theorem wide_eq {l n f : Nat} {ns : List Int} {F : Nat → Int} (hf : f + l ≤ n) (h : WideP l n f ns F) : F = widF l n f ns := funext fun k => by
  unfold widF
  by_cases q : f ≤ k / n ∧ k / n < f + l ∧ f ≤ k % n ∧ k % n < f + l
  · rw [if_pos q]
    have h1 := h.1 (k / n - f) (k % n - f) (by omega) (by omega)
    have e : (f + (k / n - f)) * n + f + (k % n - f) = k := by
      have := Nat.div_add_mod k n
      rw [show f + (k / n - f) = k / n by omega, Nat.mul_comm]
      omega
    rw [e] at h1
    exact h1
  · rw [if_neg q]
    refine h.2 k fun a b ha hb e => q ?_
    have := cell_div (n := n) (a := f + a) (b := f + b) (by omega)
    rw [← Nat.add_assoc, ← e] at this
    omega
def spWide : Sp := fun vs H Q _ => ∃ (y : V) (ns : List Int) (l n f : Nat), vs = [y, .int l, .int n, .int f] ∧ TupOf IntV ns y H ∧ ns.length = l * l ∧ f + l ≤ n ∧ n ≤ 9 ∧
  ∀ y' H', Same H H' → LstOf IntV ((List.range (n * n)).map (widF l n f ns)) y' (New H H') → Q y' H'
theorem ok_widened (T : Tx K mg d) (D : Df K mg "widened" s_widened) : Cal P w K mg base 1 "widened" (spWide) [] := by
  have nd := sc_widened.nd
  refine mkCal D sc_widened (fun vs H Q E h => ?_) (fun _ _ _ _ _ _ us hl => match us, hl with | [_, _, _, _], _ => rfl) (fun f0 cdv A outer s H vs Q E hr h => ?_)
  · obtain ⟨y, ns, l, n, f, rfl, _⟩ := h
    rfl
  obtain ⟨y, ns, l, n, f, rfl, hy, hns, hf, hn, k⟩ := h
  have hnn : n * n ≤ 81 := Nat.mul_le_mul hn hn
  refine ⟨_, (pss_cons (ps_set (i := 4) nd rfl (Or.inl rfl) (pe_op op_rep (pe_lst (pa_cons pe_int pa_nil)) (pe_op op_mul (pv 2) (pv 2))))
    (pss_cons (ps_for PassesOwn.never rfl (pi_range1 rfl T.range (pa_cons (pv 1) pa_nil)) (pg_name (i := 5) nd rfl (Or.inl rfl)) 
      (pss_one (ps_for PassesOwn.never rfl (pi_range1 rfl T.range (pa_cons (pv 1) pa_nil)) (pg_name (i := 6) nd rfl (Or.inl rfl)) 
        (pss_one (ps_asg (pe_ix (ix_tupK (K := K)) (pv 0) (pe_op op_add (pe_op op_mul (pv 5) (pv 1)) (pv 6)) (fun _ _ => rfl)) (pg_sub (pv 4) (pe_op op_add (pe_op op_add (pe_op op_mul (pe_op op_add (pv 3) (pv 5)) (pv 2)) (pv 3)) (pv 6)) set_list))))))
    (pss_one (ps_ret (pv 4))))), ?_⟩
  walk_at "st"
  walk_at "go"
  refine ⟨by show 1 ≤ sizeLine; decide, fun z hz => ?_⟩
  walk_at "go"
  rw [show ((n : Nat) : Int) * (n : Int) = ((n * n : Nat) : Int) from (Int.natCast_mul _ _).symm]
  refine ⟨z, _, _, rfl, rfl, upd_same, by omega, by omega, ?_, fun fl hfl => ?_⟩
  · rw [Int.toNat_natCast]
    have : (100000 : Nat) < sizeLine := by decide
    show 1 * (n * n) ≤ sizeLine
    omega
  rw [Int.toNat_natCast, intL_zero]
  have ez : Same H (upd H z (.lst [.int 0])) := Same.new hz
  have hfl0 := none_of ez hfl
  obtain ⟨t, ys, rfl, ht, hys⟩ := hy
  have hyi := each_int hys
  walk_at "go"
  refine r_for (r_rng l (by omega) (fun QA q => by walk_at "go"; exact q) fun J wk => ?_)
  refine for_it wk (fun a σ H' => Same H H' ∧ ∃ (v5 v6 : Option V) (F : Nat → Int), σ = [some (.ref t), some (.int l), some (.int n), some (.int f), some (.ref fl), v5, v6] ∧ H' fl = some (.lst (intL (n * n) F)) ∧ WideM l n f ns F a 0) ?_ (fun _ _ _ _ _ => trivial) ?_ ?_
  · exact ⟨Same.trans ez (Same.new hfl), _, _, _, rfl, upd_same, fun a' b' h1 h2 h3 => by omega, fun _ _ => rfl⟩
  · rintro a x σ Hx H1 ha ⟨e1, v5, v6, F, rfl, hF, hm⟩ ⟨rfl, rfl⟩
    walk_at "go"
    refine r_for (r_rng l (by omega) (fun QA q => by walk_at "go"; exact q) fun J wk2 => ?_)
    refine for_it wk2 (fun b σ H' => Same H H' ∧ ∃ (v6 : Option V) (F : Nat → Int), σ = [some (.ref t), some (.int l), some (.int n), some (.int f), some (.ref fl), some (.int (a : Nat)), v6] ∧ H' fl = some (.lst (intL (n * n) F)) ∧ WideM l n f ns F a b) ⟨e1, _, F, rfl, hF, hm⟩ (fun _ _ _ _ _ => trivial) ?_ ?_
    · rintro b x σ Hx H2 hb ⟨e2, v6, F, rfl, hF, hm⟩ ⟨rfl, rfl⟩
      walk_at "go"
      rw [show ((a : Nat) : Int) * (l : Int) + (b : Int) = ((a * l + b : Nat) : Int) by push_cast; rfl]
      have hi : a * l + b < l * l := cell_lt ha hb
      refine r_ixT (.inl (.inl (e2 t _ ht))) (x := .int (ns.getD (a * l + b) 0)) ?_ ?_
      · rw [hyi, List.getElem?_map, List.getElem?_eq_getElem (by omega), List.getD_eq_getElem?_getD, List.getElem?_eq_getElem (by omega)]
        rfl
      walk_at "go"
      rw [show (((f : Nat) : Int) + (a : Int)) * (n : Int) + (f : Int) + (b : Int) = (((f + a) * n + f + b : Nat) : Int) by push_cast; rfl]
      have hj : (f + a) * n + f + b < n * n := by have := cell_lt (n := n) (a := f + a) (b := f + b) (by omega) (by omega); omega
      refine r_set hF (by rw [intL_len]; exact hj) ?_
      rw [intL_set]
      exact ⟨Same.mut e2 hfl0, _, _, rfl, upd_same, wide_step ha hb hf hm⟩
    · rintro σ H' ⟨e2, v6, F, rfl, hF, hm⟩
      exact ⟨e2, _, _, F, rfl, hF, wide_row hm⟩
  · rintro σ H' ⟨e1, v5, v6, F, rfl, hF, hm⟩
    walk_at "go"
    have hw : F = widF l n f ns := wide_eq hf ⟨fun a b h1 h2 => hm.1 a b h1 h2 (.inl h1), fun k hk => hm.2 k fun a' b' h1 h2 _ => hk a' b' h1 h2⟩
    subst hw
    exact k _ H' e1 ⟨fl, _, rfl, by rw [New.at_ hfl0]; exact hF, intL_each⟩
abbrev s_crossed : Stmt := top 37
theorem sc_crossed : FnScope ["one", "other", "numbers", "many", "found", "v", "w", "row"] ["one", "other", "numbers"] (defScope s_crossed) := ⟨rfl, rfl, rfl, by decide +kernel, rfl, by decide +kernel, by decide +kernel⟩
def crF (n v w : Nat) (x y : Int) : Nat → Int := fun k => if k = w * n + v then y else if k = v * n + w then x else 0
def crI (m n v : Nat) (x y : Int) (c : Nat) : List (List Int) := (List.range c).map fun w => (List.range (n * n)).map (crF n v (m + w) x y)
def crR (m n : Nat) (x y : Int) (c : Nat) : List (List Int) := (List.range c).flatMap fun v => crI m n v x y (n - m)
theorem crI_succ (m n v : Nat) (x y : Int) (c : Nat) : crI m n v x y (c + 1) = crI m n v x y c ++ [(List.range (n * n)).map (crF n v (m + c) x y)] := by
  unfold crI
  rw [List.range_succ, List.map_append]
  rfl
theorem crR_succ (m n : Nat) (x y : Int) (c : Nat) : crR m n x y (c + 1) = crR m n x y c ++ crI m n c x y (n - m) := by
  unfold crR
  rw [List.range_succ, List.flatMap_append]
  simp
theorem crI_len (m n v : Nat) (x y : Int) (c : Nat) : (crI m n v x y c).length = c := by unfold crI; simp
theorem crR_len (m n : Nat) (x y : Int) : ∀ c : Nat, (crR m n x y c).length = c * (n - m)
  | 0 => by simp [crR]
  | c + 1 => by rw [crR_succ, List.length_append, crR_len m n x y c, crI_len, Nat.add_mul, Nat.one_mul]
def spCross (p : Nat) [Pr p] (d : Ad) : Sp := fun vs H Q _ => ∃ (y z u : V) (B B' : Bk p) (i j : Int), vs = [y, z, u] ∧ BookV d B y H ∧ BookV d B' z H ∧ TupOf IntV [i, j] u H ∧ B.L + B'.L ≤ 9 ∧
  ∀ y' H', Same H H' → LstOf (LstOf IntV) (crR B.L (B.L + B'.L) i j B.L) y' (New H H') → Q y' H'
theorem ok_crossed (T : Tx K mg d) (D : Df K mg "crossed" s_crossed) : Cal P w K mg base 1 "crossed" (U fun p _ => spCross p d) [] := by
  have nd := sc_crossed.nd
  refine mkCalU D sc_crossed (fun p hp vs H Q E h => ?_) (fun _ _ _ _ _ _ us hl => match us, hl with | [_, _, _], _ => rfl) (fun p hp f0 cdv A outer s H vs Q E hr h => ?_)
  · obtain ⟨y, z, u, B, B', i, j, rfl, _⟩ := h
    rfl
  obtain ⟨y, z, u, B, B', x, y0, rfl, ⟨a, dx, t, rfl, ha, ht⟩, ⟨b, dy, t', rfl, hb, ht'⟩, ⟨c, us, rfl, hc, hus⟩, h9, k⟩ := h
  have hui := each_int hus
  generalize hn : B.L + B'.L = n at *
  have hnn : n * n ≤ 81 := Nat.mul_le_mul h9 h9
  have hm0 := B.lo
  have hm1 := B'.lo
  generalize hm : B.L = m at *
  have hcast : ((m : Nat) : Int) + ((B'.L : Nat) : Int) = (n : Int) := by omega
  refine ⟨_, (pss_cons (ps_par (i := 3) (j := 4) rfl nd rfl rfl (by decide) rfl rfl (pa_cons (pe_op op_add (pe_fldK (K := K) (pv 0) rfl) (pe_fldK (K := K) (pv 1) rfl)) (pa_cons (pe_lst pa_nil) pa_nil)) (by rfl))
    (pss_cons (ps_for PassesOwn.never rfl (pi_range1 rfl T.range (pa_cons (pe_fldK (K := K) (pv 0) rfl) pa_nil)) (pg_name (i := 5) nd rfl (Or.inl rfl)) 
      (pss_one (ps_for PassesOwn.never rfl (pi_range2 rfl T.range (pa_cons (pe_fldK (K := K) (pv 0) rfl) (pa_cons (pv 3) pa_nil))) (pg_name (i := 6) nd rfl (Or.inl rfl)) 
        (pss_cons (ps_set (i := 7) nd rfl (Or.inl rfl) (pe_op op_rep (pe_lst (pa_cons pe_int pa_nil)) (pe_op op_mul (pv 3) (pv 3))))
        (pss_cons (ps_asg (pe_ix (ix_tupK (K := K)) (pv 2) pe_int (fun _ _ => rfl)) (pg_sub (pv 7) (pe_op op_add (pe_op op_mul (pv 5) (pv 3)) (pv 6)) set_list))
        (pss_cons (ps_asg (pe_ix (ix_tupK (K := K)) (pv 2) pe_int (fun _ _ => rfl)) (pg_sub (pv 7) (pe_op op_add (pe_op op_mul (pv 6) (pv 3)) (pv 5)) set_list))
        (pss_one (ps_expr (pe_bm PySem.F.plainAttrs_list PySem.F.slot_list_append PySem.F.type_list_append mt_append (pv 4) (pa_cons (pv 7) pa_nil))))))))))
    (pss_one (ps_ret (pv 4))))), ?_⟩
  walk_at "st"
  walk_at "go"
  refine ⟨a, d.C, dx, _, _, rfl, ha, T.clR, T.nL, rfl, ?_⟩
  walk_at "go"
  refine ⟨b, d.C, dy, _, _, rfl, hb, T.clR, T.nL, rfl, ?_⟩
  walk_at "go"
  rw [hcast]
  refine ⟨by show 0 ≤ sizeLine; omega, fun fl hfl => ?_⟩
  walk_at "go"
  refine r_for (r_rng m (by omega) (fun QA q => ?_) fun J wk => ?_)
  · walk_at "go"
    refine ⟨a, d.C, dx, _, _, rfl, Same.new hfl a _ ha, T.clR, T.nL, rfl, ?_⟩
    walk_at "go"
    exact q
  refine for_it wk (fun v σ H' => Same H H' ∧ ∃ (v5 v6 v7 : Option V) (zs : List V), σ = [some (.ref a), some (.ref b), some (.ref c), some (.int n), some (.ref fl), v5, v6, v7] ∧ H' fl = some (.lst zs) ∧ Each (LstOf IntV) (crR m n x y0 v) zs (New H (hide fl H'))) ?_ (fun _ _ _ _ _ => trivial) ?_ ?_
  · exact ⟨Same.new hfl, _, _, _, [], rfl, upd_same, Each.nil⟩
  · rintro v x1 σ Hx H1 hv ⟨e1, v5, v6, v7, zs, rfl, hz, hE⟩ ⟨rfl, rfl⟩
    walk_at "go"
    refine r_for (r_rng2 m (n - m) (by omega) (fun QA q => ?_) fun J wk2 => ?_)
    · walk_at "go"
      refine ⟨a, d.C, dx, _, _, rfl, e1 a _ ha, T.clR, T.nL, rfl, ?_⟩
      walk_at "go"
      rw [show (n : Int) = ((m + (n - m) : Nat) : Int) by omega]
      exact q
    refine for_it wk2 (fun w σ H' => Same H H' ∧ ∃ (v6 v7 : Option V) (zs : List V), σ = [some (.ref a), some (.ref b), some (.ref c), some (.int n), some (.ref fl), some (.int (v : Nat)), v6, v7] ∧ H' fl = some (.lst zs) ∧ Each (LstOf IntV) (crR m n x y0 v ++ crI m n v x y0 w) zs (New H (hide fl H'))) ?_ (fun _ _ _ _ _ => trivial) ?_ ?_
    · refine ⟨e1, _, _, zs, rfl, hz, ?_⟩
      have : crR m n x y0 v ++ crI m n v x y0 0 = crR m n x y0 v := by simp [crI]
      rw [this]
      exact hE
    · rintro w x2 σ Hx H2 hw ⟨e2, v6, v7, zs, rfl, hz, hE⟩ ⟨rfl, rfl⟩
      walk_at "go"
      refine ⟨by show 1 ≤ sizeLine; decide, fun z0 hz0 => ?_⟩
      walk_at "go"
      rw [show ((n : Nat) : Int) * (n : Int) = ((n * n : Nat) : Int) from (Int.natCast_mul _ _).symm]
      refine ⟨z0, _, _, rfl, rfl, upd_same, by omega, by omega, ?_, fun r hr0 => ?_⟩
      · rw [Int.toNat_natCast]
        have : (100000 : Nat) < sizeLine := by decide
        show 1 * (n * n) ≤ sizeLine
        omega
      rw [Int.toNat_natCast, intL_zero]
      have e3 : Same H2 (upd H2 z0 (.lst [.int 0])) := Same.new hz0
      have hrn : H2 r = none := none_of e3 hr0
      have hrH : H r = none := none_of e2 hrn
      have hrf : r ≠ fl := ne_new hrn (by rw [hz]; simp)
      have e4 : Same H2 (upd (upd H2 z0 (.lst [.int 0])) r (.lst (intL (n * n) fun _ => 0))) := Same.trans e3 (Same.new hr0)
      have hcT : ∀ H', Same H2 H' → SqT K H' c us := fun H' e => .inl (.inl (e c _ (e2 c _ hc)))
      have c1 : v * n + (m + w) < n * n := cell_lt (by omega) (by omega)
      have c2 : (m + w) * n + v < n * n := cell_lt (by omega) (by omega)
      walk_at "go"
      refine r_ixT (i := 0) (hcT _ e4) (x := .int x) (by rw [hui]; rfl) ?_
      walk_at "go"
      rw [show ((v : Nat) : Int) * (n : Int) + ((m + w : Nat) : Int) = ((v * n + (m + w) : Nat) : Int) by push_cast; rfl]
      refine r_set upd_same (by rw [intL_len]; exact c1) ?_
      rw [intL_set, upd_upd]
      walk_at "go"
      refine r_ixT (i := 1) (hcT _ (Same.trans e3 (Same.new hr0))) (x := .int y0) (by rw [hui]; rfl) ?_
      walk_at "go"
      rw [show ((m + w : Nat) : Int) * (n : Int) + ((v : Nat) : Int) = (((m + w) * n + v : Nat) : Int) by push_cast; rfl]
      refine r_set upd_same (by rw [intL_len]; exact c2) ?_
      rw [intL_set, upd_upd]
      walk_at "go"
      have e5 : Same H2 (upd (upd H2 z0 (.lst [.int 0])) r (.lst (intL (n * n) (crF n v (m + w) x y0)))) := Same.trans e3 (Same.new hr0)
      refine ⟨.inl ⟨rfl, _, SqL.of (e5 fl _ hz)⟩, ?_⟩
      walk_at "go"
      refine ⟨fl, zs, _, rfl, rfl, e5 fl _ hz, sl _ ?_, ?_⟩
      · have h1 := hE.len
        rw [List.length_append, crR_len, crI_len] at h1
        have : v * (n - m) ≤ 9 * 9 := Nat.mul_le_mul (by omega) (by omega)
        omega
      refine ⟨Same.mut (Same.trans e2 e5) hfl, _, _, _, rfl, upd_same, ?_⟩
      rw [crI_succ, ← List.append_assoc, hide_upd]
      refine (hE.mono (New.mono (hide_same e5))).snoc ⟨r, _, rfl, ?_, intL_each⟩
      rw [New.at_ hrH, hide_ne hrf, upd_same]
    · rintro σ H' ⟨e2, v6, v7, zs, rfl, hz, hE⟩
      refine ⟨e2, _, _, _, zs, rfl, hz, ?_⟩
      rw [crR_succ]
      exact hE
  · rintro σ H' ⟨e1, v5, v6, v7, zs, rfl, hz, hE⟩
    walk_at "go"
    exact k _ H' e1 ⟨fl, zs, rfl, by rw [New.at_ hfl]; exact hz, hE.mono (New.mono hide_le)⟩
/-! the rows of two books side by side -/
def sideR (B B' : Bk p) (ps : List (Int × Int)) : List (List Int) :=
  B.rows.map (fun ns => (List.range ((B.L + B'.L) * (B.L + B'.L))).map (widF B.L (B.L + B'.L) 0 ns)) ++ B'.rows.map (fun ns => (List.range ((B.L + B'.L) * (B.L + B'.L))).map (widF B'.L (B.L + B'.L) B.L ns)) ++
    ps.flatMap fun xy => crR B.L (B.L + B'.L) xy.1 xy.2 B.L
theorem sideR_len (B B' : Bk p) (ps : List (Int × Int)) : ∀ ns ∈ sideR B B' ps, ns.length = (B.L + B'.L) * (B.L + B'.L) := fun ns h => by
  unfold sideR at h
  rcases List.mem_append.mp h with h | h
  · rcases List.mem_append.mp h with h | h
    · obtain ⟨_, _, rfl⟩ := List.mem_map.mp h
      simp
    · obtain ⟨_, _, rfl⟩ := List.mem_map.mp h
      simp
  · obtain ⟨xy, _, h⟩ := List.mem_flatMap.mp h
    obtain ⟨v, _, h⟩ := List.mem_flatMap.mp h
    obtain ⟨w, _, rfl⟩ := List.mem_map.mp h
    simp
theorem flat_len (m n : Nat) : ∀ l : List (Int × Int), (l.flatMap fun xy => crR m n xy.1 xy.2 m).length = l.length * (m * (n - m))
  | [] => by simp
  | c :: r => by rw [List.flatMap_cons, List.length_append, flat_len m n r, crR_len, List.length_cons, Nat.add_mul, Nat.one_mul]; omega
def pairs2 (ps : List (Int × Int)) : List (List Int) := ps.map fun xy => [xy.1, xy.2]
abbrev s_sides_of : Stmt := top 38
theorem sc_sides_of : FnScope ["one", "other", "pairs", "many", "rows", "pair", "rule"] ["one", "other", "pairs"] (defScope s_sides_of) := ⟨rfl, rfl, rfl, by decide +kernel, rfl, by decide +kernel, by decide +kernel⟩
def spSides (p : Nat) [Pr p] (d : Ad) : Sp := fun vs H Q _ => ∃ (y z u : V) (B B' : Bk p) (ps : List (Int × Int)), vs = [y, z, u] ∧ BookV d B y H ∧ BookV d B' z H ∧ LstOf (TupOf IntV) (pairs2 ps) u H ∧ B.L + B'.L ≤ 9 ∧ ps.length ≤ 2 ∧
  ∀ (B2 : Bk p) y' H', Same H H' → B2.L = B.L + B'.L → (∀ f, SpanH B2.hs f ↔ SpanL ((sideR B B' ps).map (vecI (p := p))) f) → BookV d B2 y' (New H H') → Q y' H'
theorem ok_sides_of (T : Tx K mg d) (D : Df K mg "sides_of" s_sides_of) (c_need_made : Cal P w K mg base 3 "need_made" spNeedL []) (c_widened : Cal P w K mg base 1 "widened" spWide []) (c_crossed : Cal P w K mg base 1 "crossed" (U fun p _ => spCross p d) []) (c_Rules : Mak P w K mg base 5 "Rules" d.C (U fun p _ => spInit p d) []) : Cal P w K mg base 7 "sides_of" (U fun p _ => spSides p d) [] := by
  have nd := sc_sides_of.nd
  refine mkCalU D sc_sides_of (fun p hp vs H Q E h => ?_) (fun _ _ _ _ _ _ us hl => match us, hl with | [_, _, _], _ => rfl) (fun p hp f0 cdv A outer s H vs Q E hr h => ?_)
  · obtain ⟨y, z, u, B, B', ps, rfl, _⟩ := h
    rfl
  obtain ⟨y, z, u, B, B', ps, rfl, hy, hz, hps, h9, hps2, k⟩ := h
  obtain ⟨a, dx, t, rfl, ha, ht⟩ := id hy
  obtain ⟨b, dy, t', rfl, hb, ht'⟩ := id hz
  have hm0 := B.lo
  have hm1 := B'.lo
  have hcast : ((B.L : Nat) : Int) + ((B'.L : Nat) : Int) = ((B.L + B'.L : Nat) : Int) := (Int.natCast_add _ _).symm
  have hl0 : B.rows.length ≤ 81 := by
    have := B.len
    have h3 : B.L * B.L ≤ 81 := Nat.mul_le_mul B.hi B.hi
    unfold Bk.rows
    rw [List.length_map]
    omega
  have hl1 : B'.rows.length ≤ 81 := by
    have := B'.len
    have h3 : B'.L * B'.L ≤ 81 := Nat.mul_le_mul B'.hi B'.hi
    unfold Bk.rows
    rw [List.length_map]
    omega
  refine ⟨_, (pss_cons (ps_set (i := 3) nd rfl (Or.inr rfl) (pe_op op_add (pe_fldK (K := K) (pv 0) rfl) (pe_fldK (K := K) (pv 1) rfl)))
    (pss_cons (ps_expr (pe_c c_need_made hr (by decide) rfl (pa_cons (pv 3) pa_nil)))
    (pss_cons (ps_setLc (own := [("rule", 6)]) (g := gName 6) (tt := tYes) (i := 4) rfl nd rfl rfl (sw_true rfl rfl rfl (by decide +kernel)) (pi_tupK (K := K) (pe_fldK (K := K) (pv 0) rfl)) (blkOk_by (by kernel_rfl)) (fun _ _ _ _ _ => (pg_name (i := 6) nd rfl (Or.inl rfl))) (fun _ _ _ _ _ => pts_nil) (fun _ _ _ _ _ => (pe_c c_widened hr (by decide) rfl (pa_cons (pv 6) (pa_cons (pe_fldK (K := K) (pv 0) rfl) (pa_cons (pv 3) (pa_cons pe_int pa_nil)))))))
    (pss_cons (ps_set (i := 4) nd rfl (Or.inl rfl) (pe_op op_cat (pv 4) (pe_lc (own := [("rule", 6)]) (g := gName 6) (tt := tYes) rfl nd (pi_tupK (K := K) (pe_fldK (K := K) (pv 1) rfl)) (blkOk_by (by kernel_rfl)) (fun _ _ _ _ _ => (pg_name (i := 6) nd rfl (Or.inl rfl))) (fun _ _ _ _ _ => pts_nil) (fun _ _ _ _ _ => (pe_c c_widened hr (by decide) rfl (pa_cons (pv 6) (pa_cons (pe_fldK (K := K) (pv 1) rfl) (pa_cons (pv 3) (pa_cons (pe_fldK (K := K) (pv 0) rfl) pa_nil)))))))))
    (pss_cons (ps_for PassesOwn.never rfl (pi_listK (K := K) (pv 2)) (pg_name (i := 5) nd rfl (Or.inl rfl)) 
      (pss_one (ps_set (i := 4) nd rfl (Or.inl rfl) (pe_op op_cat (pv 4) (pe_c c_crossed hr (by decide) rfl (pa_cons (pv 0) (pa_cons (pv 1) (pa_cons (pv 5) pa_nil))))))))
    (pss_one (ps_ret (pe_mk c_Rules hr (by decide) rfl (pa_cons (pe_fldK (K := K) (pv 0) rfl) (pa_cons (pv 3) (pa_cons (pv 4) pa_nil))))))))))), ?_⟩
  walk_at "st"
  walk_at "go"
  refine ⟨a, d.C, dx, _, _, rfl, ha, T.clR, T.nL, rfl, ?_⟩
  walk_at "go"
  refine ⟨b, d.C, dy, _, _, rfl, hb, T.clR, T.nL, rfl, ?_⟩
  walk_at "go"
  rw [hcast]
  generalize hn : B.L + B'.L = n at *
  refine ⟨n, rfl, by omega, by omega, ?_⟩
  walk_at "go"
  refine r_lc (r_itT ht (Same.refl _) (fun Q q => by walk_at "go"; exact ⟨a, d.C, dx, _, _, rfl, ha, T.clR, T.nR, rfl, q⟩) fun J ys hys wk => ?_)
  refine lc_new wk (R := LstOf IntV) (fun _ => true) (fun i => (List.range (n * n)).map (widF B.L n 0 (B.rows.getD i []))) (fun _ h => h) (by omega) (fun i x H1 H2 kY kN hi e z hY hN => ?_) (fun D1 H1 ys1 hD1 e1 hy1 hE1 => ?_)
  · obtain ⟨rfl, hx⟩ := z
    obtain ⟨ns, hn2, hx2⟩ := hys.yet hx
    walk_at "lc"
    walk_at "go"
    refine ⟨rfl, ?_⟩
    walk_at "go"
    refine ⟨a, d.C, dx, _, _, rfl, e a _ ha, T.clR, T.nL, rfl, ?_⟩
    walk_at "go"
    refine ⟨x, ns, B.L, n, 0, rfl, Mon.mono e hx2, B.rows_len ns (List.mem_of_getElem? hn2), by omega, h9, fun y3 H3 e3 r3 => hY _ _ rfl e3 ?_⟩
    rw [getD_some hn2]
    exact r3
  have hE1' := hE1.mono New.le
  rw [tk_all] at hE1'
  have em1 : (List.range B.rows.length).map (fun i => (List.range (n * n)).map (widF B.L n 0 (B.rows.getD i []))) = B.rows.map fun ns => (List.range (n * n)).map (widF B.L n 0 ns) := by
    have := congrArg (List.map fun ns => (List.range (n * n)).map (widF B.L n 0 ns)) (map_range_get B.rows [])
    rw [List.map_map] at this
    exact this
  rw [em1] at hE1'
  walk_at "go"
  refine r_lc (r_itT ht' e1 (fun Q q => by walk_at "go"; exact ⟨b, d.C, dy, _, _, rfl, e1 b _ hb, T.clR, T.nR, rfl, q⟩) fun J2 ys2 hys2 wk2 => ?_)
  refine lc_new (wk2.mono (fun H' (e : Same H1 H') => Same.trans e1 e) fun _ _ _ _ _ _ h => h) (R := LstOf IntV) (fun _ => true) (fun i => (List.range (n * n)).map (widF B'.L n B.L (B'.rows.getD i []))) (fun _ h => h) (by omega) (fun i x H1 H2 kY kN hi e z hY hN => ?_) (fun D2 H2 ys2 hD2 e2 hy2 hE2 => ?_)
  · obtain ⟨rfl, hx⟩ := z
    obtain ⟨ns, hn2, hx2⟩ := hys2.yet hx
    have e12 := Same.trans e1 e
    walk_at "lc"
    walk_at "go"
    refine ⟨rfl, ?_⟩
    walk_at "go"
    refine ⟨b, d.C, dy, _, _, rfl, e12 b _ hb, T.clR, T.nL, rfl, ?_⟩
    walk_at "go"
    refine ⟨a, d.C, dx, _, _, rfl, e12 a _ ha, T.clR, T.nL, rfl, ?_⟩
    walk_at "go"
    refine ⟨x, ns, B'.L, n, B.L, rfl, Mon.mono e12 hx2, B'.rows_len ns (List.mem_of_getElem? hn2), by omega, h9, fun y3 H3 e3 r3 => hY _ _ rfl e3 ?_⟩
    rw [getD_some hn2]
    exact r3
  have hE2' := hE2.mono New.le
  rw [tk_all] at hE2'
  have em2 : (List.range B'.rows.length).map (fun i => (List.range (n * n)).map (widF B'.L n B.L (B'.rows.getD i []))) = B'.rows.map fun ns => (List.range (n * n)).map (widF B'.L n B.L ns) := by
    have := congrArg (List.map fun ns => (List.range (n * n)).map (widF B'.L n B.L ns)) (map_range_get B'.rows [])
    rw [List.map_map] at this
    exact this
  rw [em2] at hE2'
  have hE3 := (hE1'.mono e2).append hE2'
  refine ⟨D1, D2, ys1, ys2, rfl, rfl, e2 D1 _ hy1, hy2, Nat.le_of_lt (sl _ ?_), fun q hq => ?_⟩
  · have h1 := hE1'.len
    have h2 := hE2'.len
    rw [List.length_map] at h1 h2
    omega
  walk_at "go"
  have e02 := Same.trans e1 e2
  refine r_for (r_itL hps (Same.trans e02 (Same.new hq)) (fun Q q => by walk_at "go"; exact q) fun J3 ys3 hys3 wk3 => ?_)
  refine for_it wk3 (fun i σ H' => Same H H' ∧ ∃ (v5 v6 : Option V) (l : Addr) (zs : List V), σ = [some (.ref a), some (.ref b), some u, some (.int n), some (.ref l), v5, v6] ∧ H' l = some (.lst zs) ∧
    Each (LstOf IntV) (B.rows.map (fun ns => (List.range (n * n)).map (widF B.L n 0 ns)) ++ B'.rows.map (fun ns => (List.range (n * n)).map (widF B'.L n B.L ns)) ++ (ps.take i).flatMap fun xy => crR B.L n xy.1 xy.2 B.L) zs H') ?_ ?_ ?_ ?_
  · refine ⟨Same.trans e02 (Same.new hq), _, _, q, _, rfl, upd_same, ?_⟩
    have : ((ps.take 0).flatMap fun xy => crR B.L n xy.1 xy.2 B.L) = [] := by simp
    rw [this, List.append_nil]
    exact hE3.mono (Same.new hq)
  · rintro i σ H' hi ⟨e, _⟩
    exact e
  · rintro i x σ Hx H3 hi ⟨e3, v5, v6, l, zs, rfl, hl, hE⟩ ⟨rfl, hx⟩
    obtain ⟨xy2, hxy, hxv⟩ := hys3.yet hx
    unfold pairs2 at hxy
    rw [List.getElem?_map] at hxy
    have hip : i < ps.length := by unfold pairs2 at hi; rw [List.length_map] at hi; exact hi
    rw [List.getElem?_eq_getElem hip] at hxy
    cases hxy
    walk_at "go"
    refine ⟨.ref a, .ref b, x, B, B', _, _, rfl, Mon.mono e3 hy, Mon.mono e3 hz, Mon.mono e3 hxv, by omega, fun y4 H4 e4 r4 => ?_⟩
    obtain ⟨l4, zs4, rfl, hl4, hE4⟩ := r4
    have hl4' := New.le l4 _ hl4
    rw [hn] at hE4
    have hlen : zs.length + zs4.length ≤ 1000 := by
      have h1 := hE.len
      have h2 := hE4.len
      rw [List.length_append, List.length_append, List.length_map, List.length_map] at h1
      rw [crR_len] at h2
      have h3 : B.L * (n - B.L) ≤ 9 * 9 := Nat.mul_le_mul (by omega) (by omega)
      have h4 : ((ps.take i).flatMap fun xy => crR B.L n xy.1 xy.2 B.L).length ≤ 2 * (9 * 9) := by
        rw [flat_len]
        exact Nat.mul_le_mul (by rw [List.length_take]; omega) h3
      omega
    refine ⟨l, l4, zs, zs4, rfl, rfl, e4 l _ hl, hl4', Nat.le_of_lt (sl _ (by omega)), fun q hq => ?_⟩
    walk_at "go"
    refine ⟨Same.trans e3 (Same.trans e4 (Same.new hq)), _, _, q, _, rfl, upd_same, ?_⟩
    have htk : ps.take (i + 1) = ps.take i ++ [ps[i]] := by rw [List.take_succ, List.getElem?_eq_getElem hip]; rfl
    rw [htk, List.flatMap_append, ← List.append_assoc]
    have h5 : ([ps[i]].flatMap fun xy => crR B.L n xy.1 xy.2 B.L) = crR B.L n ps[i].1 ps[i].2 B.L := by simp
    rw [h5]
    exact ((hE.mono e4).append (hE4.mono New.le)).mono (Same.new hq)
  · rintro σ H3 ⟨e3, v5, v6, l, zs, rfl, hl, hE⟩
    walk_at "go"
    refine ⟨a, d.C, dx, _, _, rfl, e3 a _ ha, T.clR, T.nP, rfl, ?_⟩
    walk_at "go"
    have hft : ps.take (pairs2 ps).length = ps := by unfold pairs2; rw [List.length_map, List.take_length]
    rw [hft] at hE
    have hse : (B.rows.map (fun ns => (List.range (n * n)).map (widF B.L n 0 ns)) ++ B'.rows.map (fun ns => (List.range (n * n)).map (widF B'.L n B.L ns)) ++ ps.flatMap fun xy => crR B.L n xy.1 xy.2 B.L) = sideR B B' ps := by
      unfold sideR
      rw [hn]
    rw [hse] at hE
    refine r_mkRules (nss := sideR B B' ps) (L := n) (.inl ⟨l, zs, rfl, hl, hE.conv fun f _ y h => .inl h⟩) (fun ns h => by rw [← hn]; exact sideR_len B B' ps ns h) ?_ (by omega) (by omega) fun B2 y' H' e' hL hsp hB => k B2 y' H' (Same.trans e3 e') hL hsp (Mon.mono (New.anti e3) hB)
    rw [← hse, List.length_append, List.length_append, List.length_map, List.length_map, flat_len]
    have h3 : B.L * (n - B.L) ≤ 9 * 9 := Nat.mul_le_mul (by omega) (by omega)
    have h4 := Nat.mul_le_mul hps2 h3
    omega
abbrev s_free_sides : Stmt := top 39
theorem sc_free_sides : FnScope ["one", "other"] ["one", "other"] (defScope s_free_sides) := ⟨rfl, rfl, rfl, by decide +kernel, rfl, by decide +kernel, by decide +kernel⟩
def spFree (p : Nat) [Pr p] (d : Ad) (ps : List (Int × Int)) : Sp := fun vs H Q _ => ∃ (y z : V) (B B' : Bk p), vs = [y, z] ∧ BookV d B y H ∧ BookV d B' z H ∧ B.L + B'.L ≤ 9 ∧
  ∀ (B2 : Bk p) y' H', Same H H' → B2.L = B.L + B'.L → (∀ f, SpanH B2.hs f ↔ SpanL ((sideR B B' ps).map (vecI (p := p))) f) → BookV d B2 y' (New H H') → Q y' H'
theorem ok_free_sides (T : Tx K mg d) (D : Df K mg "free_sides" s_free_sides) (c_need_one_prime : Cal P w K mg base 2 "need_one_prime" (U fun p _ => spOneP p d) []) (c_sides_of : Cal P w K mg base 7 "sides_of" (U fun p _ => spSides p d) []) : Cal P w K mg base 8 "free_sides" (U fun p _ => spFree p d []) [] := by
  have nd := sc_free_sides.nd
  refine mkCalU D sc_free_sides (fun p hp vs H Q E h => ?_) (fun _ _ _ _ _ _ us hl => match us, hl with | [_, _], _ => rfl) (fun p hp f0 cdv A outer s H vs Q E hr h => ?_)
  · obtain ⟨y, z, B, B', rfl, _⟩ := h
    rfl
  obtain ⟨y, z, B, B', rfl, hy, hz, h9, k⟩ := h
  refine ⟨_, (pss_cons (ps_expr (pe_c c_need_one_prime hr (by decide) rfl (pa_cons (pv 0) (pa_cons (pv 1) pa_nil))))
    (pss_one (ps_ret (pe_c c_sides_of hr (by decide) rfl (pa_cons (pv 0) (pa_cons (pv 1) (pa_cons (pe_lst pa_nil) pa_nil))))))), ?_⟩
  walk_at "st"
  walk_at "go"
  refine ⟨y, z, B, B', rfl, hy, hz, ?_⟩
  walk_at "go"
  refine ⟨by show 0 ≤ sizeLine; omega, fun u hu => ?_⟩
  walk_at "go"
  have e1 : Same H (upd H u (.lst [])) := Same.new hu
  exact ⟨y, z, _, B, B', [], rfl, Mon.mono e1 hy, Mon.mono e1 hz, ⟨u, [], rfl, upd_same, Each.nil⟩, h9, by simp, fun B2 y' H' e hL hsp hB => k B2 y' H' (Same.trans e1 e) hL hsp (Mon.mono (New.anti e1) hB)⟩
abbrev s_shut_sides : Stmt := top 40
theorem sc_shut_sides : FnScope ["one", "other"] ["one", "other"] (defScope s_shut_sides) := ⟨rfl, rfl, rfl, by decide +kernel, rfl, by decide +kernel, by decide +kernel⟩
theorem ok_shut_sides (T : Tx K mg d) (D : Df K mg "shut_sides" s_shut_sides) (c_need_one_prime : Cal P w K mg base 2 "need_one_prime" (U fun p _ => spOneP p d) []) (c_sides_of : Cal P w K mg base 7 "sides_of" (U fun p _ => spSides p d) []) : Cal P w K mg base 8 "shut_sides" (U fun p _ => spFree p d [(1, 0), (0, 1)]) [] := by
  have nd := sc_shut_sides.nd
  refine mkCalU D sc_shut_sides (fun p hp vs H Q E h => ?_) (fun _ _ _ _ _ _ us hl => match us, hl with | [_, _], _ => rfl) (fun p hp f0 cdv A outer s H vs Q E hr h => ?_)
  · obtain ⟨y, z, B, B', rfl, _⟩ := h
    rfl
  obtain ⟨y, z, B, B', rfl, hy, hz, h9, k⟩ := h
  refine ⟨_, (pss_cons (ps_expr (pe_c c_need_one_prime hr (by decide) rfl (pa_cons (pv 0) (pa_cons (pv 1) pa_nil))))
    (pss_one (ps_ret (pe_c c_sides_of hr (by decide) rfl (pa_cons (pv 0) (pa_cons (pv 1) (pa_cons (pe_lst (pa_cons (pe_tup (pa_cons pe_int (pa_cons pe_int pa_nil))) (pa_cons (pe_tup (pa_cons pe_int (pa_cons pe_int pa_nil))) pa_nil))) pa_nil))))))), ?_⟩
  walk_at "st"
  walk_at "go"
  refine ⟨y, z, B, B', rfl, hy, hz, ?_⟩
  walk_at "go"
  refine ⟨by show 2 ≤ sizeLine; decide, fun t1 ht1 => ?_⟩
  walk_at "go"
  refine ⟨by show 2 ≤ sizeLine; decide, fun t2 ht2 => ?_⟩
  walk_at "go"
  refine ⟨by show 2 ≤ sizeLine; decide, fun u hu => ?_⟩
  walk_at "go"
  have ea : Same H (upd H t1 (.tup [.int 1, .int 0])) := Same.new ht1
  have eb := Same.trans ea (Same.new (o := .tup [.int 0, .int 1]) ht2)
  have e1 := Same.trans eb (Same.new (o := .lst [.ref t1, .ref t2]) hu)
  have w1 : TupOf IntV [1, 0] (.ref t1) (upd (upd (upd H t1 (.tup [.int 1, .int 0])) t2 (.tup [.int 0, .int 1])) u (.lst [.ref t1, .ref t2])) :=
    ⟨t1, _, rfl, Same.new hu _ _ (Same.new ht2 _ _ upd_same), int_each (ns := [1, 0])⟩
  have w2 : TupOf IntV [0, 1] (.ref t2) (upd (upd (upd H t1 (.tup [.int 1, .int 0])) t2 (.tup [.int 0, .int 1])) u (.lst [.ref t1, .ref t2])) :=
    ⟨t2, _, rfl, Same.new hu _ _ upd_same, int_each (ns := [0, 1])⟩
  exact ⟨y, z, _, B, B', [(1, 0), (0, 1)], rfl, Mon.mono e1 hy, Mon.mono e1 hz, ⟨u, _, rfl, upd_same, (Each.one w1).snoc w2⟩, h9, by simp, fun B2 y' H' e hL hsp hB => k B2 y' H' (Same.trans e1 e) hL hsp (Mon.mono (New.anti e1) hB)⟩
abbrev s_ahead_sides : Stmt := top 41
theorem sc_ahead_sides : FnScope ["one", "other"] ["one", "other"] (defScope s_ahead_sides) := ⟨rfl, rfl, rfl, by decide +kernel, rfl, by decide +kernel, by decide +kernel⟩
theorem ok_ahead_sides (T : Tx K mg d) (D : Df K mg "ahead_sides" s_ahead_sides) (c_need_one_prime : Cal P w K mg base 2 "need_one_prime" (U fun p _ => spOneP p d) []) (c_sides_of : Cal P w K mg base 7 "sides_of" (U fun p _ => spSides p d) []) : Cal P w K mg base 8 "ahead_sides" (U fun p _ => spFree p d [(0, 1)]) [] := by
  have nd := sc_ahead_sides.nd
  refine mkCalU D sc_ahead_sides (fun p hp vs H Q E h => ?_) (fun _ _ _ _ _ _ us hl => match us, hl with | [_, _], _ => rfl) (fun p hp f0 cdv A outer s H vs Q E hr h => ?_)
  · obtain ⟨y, z, B, B', rfl, _⟩ := h
    rfl
  obtain ⟨y, z, B, B', rfl, hy, hz, h9, k⟩ := h
  refine ⟨_, (pss_cons (ps_expr (pe_c c_need_one_prime hr (by decide) rfl (pa_cons (pv 0) (pa_cons (pv 1) pa_nil))))
    (pss_one (ps_ret (pe_c c_sides_of hr (by decide) rfl (pa_cons (pv 0) (pa_cons (pv 1) (pa_cons (pe_lst (pa_cons (pe_tup (pa_cons pe_int (pa_cons pe_int pa_nil))) pa_nil)) pa_nil))))))), ?_⟩
  walk_at "st"
  walk_at "go"
  refine ⟨y, z, B, B', rfl, hy, hz, ?_⟩
  walk_at "go"
  refine ⟨by show 2 ≤ sizeLine; decide, fun t1 ht1 => ?_⟩
  walk_at "go"
  refine ⟨by show 1 ≤ sizeLine; decide, fun u hu => ?_⟩
  walk_at "go"
  have ea : Same H (upd H t1 (.tup [.int 0, .int 1])) := Same.new ht1
  have e1 := Same.trans ea (Same.new (o := .lst [.ref t1]) hu)
  have w1 : TupOf IntV [0, 1] (.ref t1) (upd (upd H t1 (.tup [.int 0, .int 1])) u (.lst [.ref t1])) :=
    ⟨t1, _, rfl, Same.new hu _ _ upd_same, int_each (ns := [0, 1])⟩
  exact ⟨y, z, _, B, B', [(0, 1)], rfl, Mon.mono e1 hy, Mon.mono e1 hz, ⟨u, _, rfl, upd_same, Each.one w1⟩, h9, by simp, fun B2 y' H' e hL hsp hB => k B2 y' H' (Same.trans e1 e) hL hsp (Mon.mono (New.anti e1) hB)⟩
abbrev s_behind_sides : Stmt := top 42
theorem sc_behind_sides : FnScope ["one", "other"] ["one", "other"] (defScope s_behind_sides) := ⟨rfl, rfl, rfl, by decide +kernel, rfl, by decide +kernel, by decide +kernel⟩
theorem ok_behind_sides (T : Tx K mg d) (D : Df K mg "behind_sides" s_behind_sides) (c_need_one_prime : Cal P w K mg base 2 "need_one_prime" (U fun p _ => spOneP p d) []) (c_sides_of : Cal P w K mg base 7 "sides_of" (U fun p _ => spSides p d) []) : Cal P w K mg base 8 "behind_sides" (U fun p _ => spFree p d [(1, 0)]) [] := by
  have nd := sc_behind_sides.nd
  refine mkCalU D sc_behind_sides (fun p hp vs H Q E h => ?_) (fun _ _ _ _ _ _ us hl => match us, hl with | [_, _], _ => rfl) (fun p hp f0 cdv A outer s H vs Q E hr h => ?_)
  · obtain ⟨y, z, B, B', rfl, _⟩ := h
    rfl
  obtain ⟨y, z, B, B', rfl, hy, hz, h9, k⟩ := h
  refine ⟨_, (pss_cons (ps_expr (pe_c c_need_one_prime hr (by decide) rfl (pa_cons (pv 0) (pa_cons (pv 1) pa_nil))))
    (pss_one (ps_ret (pe_c c_sides_of hr (by decide) rfl (pa_cons (pv 0) (pa_cons (pv 1) (pa_cons (pe_lst (pa_cons (pe_tup (pa_cons pe_int (pa_cons pe_int pa_nil))) pa_nil)) pa_nil))))))), ?_⟩
  walk_at "st"
  walk_at "go"
  refine ⟨y, z, B, B', rfl, hy, hz, ?_⟩
  walk_at "go"
  refine ⟨by show 2 ≤ sizeLine; decide, fun t1 ht1 => ?_⟩
  walk_at "go"
  refine ⟨by show 1 ≤ sizeLine; decide, fun u hu => ?_⟩
  walk_at "go"
  have ea : Same H (upd H t1 (.tup [.int 1, .int 0])) := Same.new ht1
  have e1 := Same.trans ea (Same.new (o := .lst [.ref t1]) hu)
  have w1 : TupOf IntV [1, 0] (.ref t1) (upd (upd H t1 (.tup [.int 1, .int 0])) u (.lst [.ref t1])) :=
    ⟨t1, _, rfl, Same.new hu _ _ upd_same, int_each (ns := [1, 0])⟩
  exact ⟨y, z, _, B, B', [(1, 0)], rfl, Mon.mono e1 hy, Mon.mono e1 hz, ⟨u, _, rfl, upd_same, Each.one w1⟩, h9, by simp, fun B2 y' H' e hL hsp hB => k B2 y' H' (Same.trans e1 e) hL hsp (Mon.mono (New.anti e1) hB)⟩
abbrev s_weighed_sides : Stmt := top 43
theorem sc_weighed_sides : FnScope ["one", "other", "weight"] ["one", "other", "weight"] (defScope s_weighed_sides) := ⟨rfl, rfl, rfl, by decide +kernel, rfl, by decide +kernel, by decide +kernel⟩
def spWeigh (p : Nat) [Pr p] (d : Ad) : Sp := fun vs H Q _ => ∃ (y z : V) (B B' : Bk p) (i : Int), vs = [y, z, .int i] ∧ BookV d B y H ∧ BookV d B' z H ∧ B.L + B'.L ≤ 9 ∧ i % (p : Int) ≠ 0 ∧
  ∀ (B2 : Bk p) y' H', Same H H' → B2.L = B.L + B'.L → (∀ f, SpanH B2.hs f ↔ SpanL ((sideR B B' [(0 - i, 1)]).map (vecI (p := p))) f) → BookV d B2 y' (New H H') → Q y' H'
theorem ok_weighed_sides (T : Tx K mg d) (D : Df K mg "weighed_sides" s_weighed_sides) (c_need_one_prime : Cal P w K mg base 2 "need_one_prime" (U fun p _ => spOneP p d) []) (c_need_made : Cal P w K mg base 3 "need_made" spNeedL []) (c_is_number : Cal P w K mg base 1 "is_number" spIsNum []) (c_sides_of : Cal P w K mg base 7 "sides_of" (U fun p _ => spSides p d) []) : Cal P w K mg base 8 "weighed_sides" (U fun p _ => spWeigh p d) [] := by
  have nd := sc_weighed_sides.nd
  refine mkCalU D sc_weighed_sides (fun p hp vs H Q E h => ?_) (fun _ _ _ _ _ _ us hl => match us, hl with | [_, _, _], _ => rfl) (fun p hp f0 cdv A outer s H vs Q E hr h => ?_)
  · obtain ⟨y, z, B, B', i, rfl, _⟩ := h
    rfl
  obtain ⟨y, z, B, B', i, rfl, hy, hz, h9, hi, k⟩ := h
  obtain ⟨a, dx, t, rfl, ha, ht⟩ := id hy
  obtain ⟨b, dy, t', rfl, hb, ht'⟩ := id hz
  have hm0 := B.lo
  have hm1 := B'.lo
  refine ⟨_, (pss_cons (ps_expr (pe_c c_need_one_prime hr (by decide) rfl (pa_cons (pv 0) (pa_cons (pv 1) pa_nil))))
    (pss_cons (ps_expr (pe_c c_need_made hr (by decide) rfl (pa_cons (pe_op op_add (pe_fldK (K := K) (pv 0) rfl) (pe_fldK (K := K) (pv 1) rfl)) pa_nil)))
    (pss_cons (ps_if (PW.pt (pw_or (pt_not (pt_val (pe_c c_is_number hr (by decide) rfl (pa_cons (pv 2) pa_nil)))) (pw_or1 (pt_cmpR op_eq (pe_op op_mod (pv 2) (pe_fldK (K := K) (pv 0) rfl)) pe_int (nomark _))))) 
      (pss_one ps_never) pss_nil)
    (pss_one (ps_ret (pe_c c_sides_of hr (by decide) rfl (pa_cons (pv 0) (pa_cons (pv 1) (pa_cons (pe_lst (pa_cons (pe_tup (pa_cons (pe_op op_sub pe_int (pv 2)) (pa_cons pe_int pa_nil))) pa_nil)) pa_nil))))))))), ?_⟩
  walk_at "st"
  walk_at "go"
  refine ⟨_, _, B, B', rfl, hy, hz, ?_⟩
  walk_at "go"
  refine ⟨a, d.C, dx, _, _, rfl, ha, T.clR, T.nL, rfl, ?_⟩
  walk_at "go"
  refine ⟨b, d.C, dy, _, _, rfl, hb, T.clR, T.nL, rfl, ?_⟩
  walk_at "go"
  refine ⟨_, rfl, by omega, by omega, ?_⟩
  walk_at "go"
  refine ⟨i, rfl, r_bl (r_false ?_)⟩
  walk_at "go"
  refine ⟨a, d.C, dx, _, _, rfl, ha, T.clR, T.nP, rfl, ?_⟩
  walk_at "go"
  refine r_decF hi ?_
  walk_at "go"
  refine ⟨by show 2 ≤ sizeLine; decide, fun t1 ht1 => ?_⟩
  walk_at "go"
  refine ⟨by show 1 ≤ sizeLine; decide, fun u hu => ?_⟩
  walk_at "go"
  have ea : Same H (upd H t1 (.tup [.int (0 - i), .int 1])) := Same.new ht1
  have e1 := Same.trans ea (Same.new (o := .lst [.ref t1]) hu)
  have w1 : TupOf IntV [0 - i, 1] (.ref t1) (upd (upd H t1 (.tup [.int (0 - i), .int 1])) u (.lst [.ref t1])) :=
    ⟨t1, _, rfl, Same.new hu _ _ upd_same, int_each (ns := [0 - i, 1])⟩
  exact ⟨_, _, _, B, B', [(0 - i, 1)], rfl, Mon.mono e1 hy, Mon.mono e1 hz, ⟨u, _, rfl, upd_same, Each.one w1⟩, h9, by simp, fun B2 y' H' e hL hsp hB => k B2 y' H' (Same.trans e1 e) hL hsp (Mon.mono (New.anti e1) hB)⟩
abbrev s_shadow_of : Stmt := top 56
theorem sc_shadow_of : FnScope ["book"] ["book"] (defScope s_shadow_of) := ⟨rfl, rfl, rfl, by decide +kernel, rfl, by decide +kernel, by decide +kernel⟩
def spShadow (p : Nat) [Pr p] (d : Ad) : Sp := fun vs H Q _ => ∃ (y : V) (B : Bk p), vs = [y] ∧ BookV d B y H ∧
  ∀ (B2 : Bk p) y' H', Same H H' → B2.L = B.L → (∀ f, SpanH B2.hs f ↔ Ann (B.L * B.L) (SpanH B.hs) f) → BookV d B2 y' (New H H') → Q y' H'
theorem ok_shadow_of (T : Tx K mg d) (D : Df K mg "shadow_of" s_shadow_of) (c_dark_rows : Cal P w K mg base 5 "dark_rows" (U fun p _ => spDark p) []) (c_Rules : Mak P w K mg base 5 "Rules" d.C (U fun p _ => spInit p d) []) : Cal P w K mg base 7 "shadow_of" (U fun p _ => spShadow p d) [] := by
  have nd := sc_shadow_of.nd
  refine mkCalU D sc_shadow_of (fun p hp vs H Q E h => ?_) (fun _ _ _ _ _ _ us hl => match us, hl with | [_], _ => rfl) (fun p hp f0 cdv A outer s H vs Q E hr h => ?_)
  · obtain ⟨y, B, rfl, _⟩ := h
    rfl
  obtain ⟨y, B, rfl, hy, k⟩ := h
  obtain ⟨a, dx, t, rfl, ha, ht⟩ := id hy
  have hLL : ((B.L : Nat) : Int) * (B.L : Int) = ((B.L * B.L : Nat) : Int) := (Int.natCast_mul _ _).symm
  have h1 := B.lo
  have h9 := B.hi
  have hL2 : B.L * B.L ≤ 81 := Nat.mul_le_mul h9 h9
  refine ⟨_, (pss_one (ps_ret (pe_mk c_Rules hr (by decide) rfl (pa_cons (pe_fldK (K := K) (pv 0) rfl) (pa_cons (pe_fldK (K := K) (pv 0) rfl) (pa_cons (pe_c c_dark_rows hr (by decide) rfl (pa_cons (pe_fldK (K := K) (pv 0) rfl) (pa_cons (pe_op op_mul (pe_fldK (K := K) (pv 0) rfl) (pe_fldK (K := K) (pv 0) rfl)) (pa_cons (pe_fldK (K := K) (pv 0) rfl) pa_nil)))) pa_nil)))))), ?_⟩
  walk_at "st"
  walk_at "go"
  refine ⟨a, d.C, dx, _, _, rfl, ha, T.clR, T.nP, rfl, ?_⟩
  walk_at "go"
  refine ⟨a, d.C, dx, _, _, rfl, ha, T.clR, T.nL, rfl, ?_⟩
  walk_at "go"
  refine ⟨a, d.C, dx, _, _, rfl, ha, T.clR, T.nP, rfl, ?_⟩
  walk_at "go"
  refine ⟨a, d.C, dx, _, _, rfl, ha, T.clR, T.nL, rfl, ?_⟩
  walk_at "go"
  refine ⟨a, d.C, dx, _, _, rfl, ha, T.clR, T.nL, rfl, ?_⟩
  walk_at "go"
  refine ⟨a, d.C, dx, _, _, rfl, ha, T.clR, T.nR, rfl, ?_⟩
  walk_at "go"
  rw [hLL]
  have hl : B.rows.length ≤ 5000 := by
    have := B.len
    unfold Bk.rows
    rw [List.length_map]
    omega
  refine ⟨B.L * B.L, .ref t, B.rows, rfl, .inr (let ⟨b, ys, h1, h2, h3⟩ := ht; ⟨b, ys, h1, h2, h3.conv fun f _ y h => .inr h⟩), B.rows_len, by omega, hl, fun y' H1 hs e1 R hsrt hbd hsp hr2 => ?_⟩
  walk_at "go"
  have hlen := R.len hbd
  refine r_mkRules (nss := hs.map fun e => rowI (B.L * B.L) e.2) (L := B.L) (.inl (let ⟨b, ys, h1, h2, h3⟩ := hr2; ⟨b, ys, h1, New.le _ _ h2, h3.conv fun f _ y h => .inr (Mon.mono New.le h)⟩)) (fun ns h => ?_) (by rw [List.length_map]; omega) h1 h9 fun B2 y2 H2 e2 hL hsp2 hB => ?_
  · obtain ⟨e, _, rfl⟩ := List.mem_map.mp h
    exact rowI_len _ _
  · refine k B2 y2 H2 (Same.trans e1 e2) hL (fun f => ?_) (Mon.mono (New.anti e1) hB)
    have e4 : (hs.map fun e => rowI (B.L * B.L) e.2).map (vecI (p := p)) = hs.map (·.2) := by
      rw [List.map_map]
      exact List.map_congr_left fun e he => vecI_rowI (hbd e he)
    rw [hsp2, e4, spanH_L, hsp, B.vec]
    exact ann_congr (spanH_L B.hs) f
abbrev s_shadow : Stmt := top 57
theorem sc_shadow : FnScope ["book"] ["book"] (defScope s_shadow) := ⟨rfl, rfl, rfl, by decide +kernel, rfl, by decide +kernel, by decide +kernel⟩
theorem ok_shadow (T : Tx K mg d) (D : Df K mg "shadow" s_shadow) (c_need_book : Cal P w K mg base 1 "need_book" (U fun p _ => spNeedB p d) []) (c_shadow_of : Cal P w K mg base 7 "shadow_of" (U fun p _ => spShadow p d) []) : Cal P w K mg base 8 "shadow" (U fun p _ => spShadow p d) [] := by
  have nd := sc_shadow.nd
  refine mkCalU D sc_shadow (fun p hp vs H Q E h => ?_) (fun _ _ _ _ _ _ us hl => match us, hl with | [_], _ => rfl) (fun p hp f0 cdv A outer s H vs Q E hr h => ?_)
  · obtain ⟨y, B, rfl, _⟩ := h
    rfl
  obtain ⟨y, B, rfl, hy, k⟩ := h
  refine ⟨_, (pss_cons (ps_expr (pe_c c_need_book hr (by decide) rfl (pa_cons (pv 0) pa_nil)))
    (pss_one (ps_ret (pe_c c_shadow_of hr (by decide) rfl (pa_cons (pv 0) pa_nil))))), ?_⟩
  walk_at "st"
  walk_at "go"
  refine ⟨y, B, rfl, hy, ?_⟩
  walk_at "go"
  exact ⟨y, B, rfl, hy, k⟩
end
section
variable {P : Program} {w : World} {K : PySem.W.Frag} {mg : Str → Option Value} {base : Heap} {d : Ad} {p : Nat} [Pr p]
/-! ### rests -/
theorem r_dictMv {K : PySem.W.Frag} {σ : L2.St} {H : Hp} {Q : VK} {td t1 t2 : TE} {j : Nat} {a : Addr} {f : Vec p} {n : Nat} (hx : RowX H a f) (bf : Bd f n) (hn : n ≤ 2000) (φ : Nat → Nat) (inj : ∀ k k', k < n → k' < n → φ k = φ k' → k = k')
    (ht : ∀ H' (Q : VK), RdE H H' → Q (.ref a) H' → td σ H' Q)
    (hw : ∀ x, wipe ((wipe σ [j]).set j x) [j] = wipe σ [j])
    (e1 : ∀ k H' (Q : VK), f k ≠ 0 → k < n → RdE H H' → Same (hide a H) H' → Q (.int (φ k : Nat)) H' → t1 ((wipe σ [j]).set j (some (.int (k : Nat)))) H' Q)
    (e2 : ∀ k H' (Q : VK), f k ≠ 0 → RdE H H' → RowAt H' a f → Q (.int (iv (f k))) H' → t2 ((wipe σ [j]).set j (some (.int (k : Nat)))) H' Q)
    (hq : ∀ q H', Same H H' → H q = none → RowX H' q (mvv n φ f) → Q (.ref q) H') :
    tDictP K (tCons (tLockE (tLc (iKeys td) (gName j) tYes (tTup (tCons t1 (tCons t2 tNil))) [j])) tNil) σ H Q := by
  have lt : ∀ k, f k ≠ 0 → k < n := fun k hk => Nat.lt_of_not_le fun h => hk (bf k h)
  refine r_dictKeys hx bf hn φ (mvv n φ f) (fun k k' h h' => inj k k' (lt k h) (lt k' h')) (fun k hk => by rw [mvv_at inj (lt k hk)]; exact hk) (fun m hm => ?_) ht hw (fun k H' Q hk rd sh q => e1 k H' Q hk (lt k hk) rd sh q) (fun k H' Q hk rd _ q => e2 k H' Q hk rd (hx.at_.rd rd) (by rw [mvv_at inj (lt k hk)] at q; exact q)) hq
  rcases mvv_cases (w := n) (φ := φ) m with ⟨k, hk, rfl⟩ | h
  · rw [mvv_at inj hk] at hm
    exact ⟨k, hm, rfl⟩
  · exact absurd (mvv_out h) hm
theorem r_rngI {ta : TA} {σ : L2.St} {H : Hp} {W : It → Hp → Prop} (i : Int) (n : Nat) (hi : i.toNat = n) (h1 : -100000 ≤ i) (hn : n ≤ 100000) (ht : ∀ QA : List V → Hp → Prop, QA [.int i] H → ta σ H QA)
    (hR : ∀ J, Walk J n (fun _ => True) (fun i H x H' => H' = H ∧ x = .int (i : Nat)) → W J H) : iRng1 ta σ H W := by
  refine ht _ ⟨_, rfl, by omega, by omega, ?_⟩
  rw [hi]
  refine hR _ (walk_range.mono (fun _ h => h) fun i H x H' _ _ y => ⟨y.1, ?_⟩)
  rw [y.2]
  show V.int (0 + (i : Int)) = _
  rw [Int.zero_add]
abbrev s_placed_few : Stmt := top 45
theorem sc_placed_few : FnScope ["book", "length", "place", "ahead", "behind", "width", "found", "first", "rule", "sparse", "last", "spot"] ["book", "length", "place"] (defScope s_placed_few) := ⟨rfl, rfl, rfl, by decide +kernel, rfl, by decide +kernel, by decide +kernel⟩
theorem Bk.rv_get {B : Bk p} {i : Nat} {ns : List Int} (h : B.rows[i]? = some ns) : B.rv[i]? = some (vecI (p := p) ns) ∧ ns.length = B.L * B.L ∧ Bd (vecI (p := p) ns) (B.L * B.L) := by
  have hl := B.rows_len ns (List.mem_of_getElem? h)
  refine ⟨?_, hl, by have := vecI_bd (p := p) ns; rw [hl] at this; exact this⟩
  have := congrArg (fun l => l[i]?) B.vec
  simp only [List.getElem?_map, h] at this
  unfold Bk.rv
  rw [List.getElem?_map, ← this]
  rfl
theorem Bk.rv_len (B : Bk p) : B.rv.length = B.rows.length := by unfold Bk.rv Bk.rows; rw [List.length_map, List.length_map]
def spPlaced (p : Nat) [Pr p] (d : Ad) : Sp := fun vs H Q _ => ∃ (y : V) (B : Bk p) (n m : Nat), vs = [y, .int n, .int m] ∧ BookV d B y H ∧ m + 2 ≤ n ∧ n ≤ 6 ∧ B.L ^ n ≤ 1000 ∧
  ∀ y' H', Same H H' → LstOf RowV (placeL (B.L * B.L) (B.L ^ m) (B.L ^ (n - m - 2)) B.rv) y' (New H H') → Q y' H'
theorem ok_placed_few (T : Tx K mg d) (D : Df K mg "placed_few" s_placed_few) (c_many_words : Cal P w K mg base 1 "many_words" spMany []) (c_few : Cal P w K mg base 1 "few" (U fun p _ => spFew p) []) : Cal P w K mg base 2 "placed_few" (U fun p _ => spPlaced p d) [] := by
  have nd := sc_placed_few.nd
  refine mkCalU D sc_placed_few (fun p hp vs H Q E h => ?_) (fun _ _ _ _ _ _ us hl => match us, hl with | [_, _, _], _ => rfl) (fun p hp f0 cdv A outer s H vs Q E hr h => ?_)
  · obtain ⟨y, B, n, m, rfl, _⟩ := h
    rfl
  obtain ⟨y, B, n, m, rfl, hy, hmn, hn6, hb, k⟩ := h
  obtain ⟨a, dx, t, rfl, ha, ht⟩ := id hy
  have hu := hu_of hr
  have h1 := B.lo
  have h9 := B.hi
  have hLL : ((B.L : Nat) : Int) * (B.L : Int) = ((B.L * B.L : Nat) : Int) := (Int.natCast_mul _ _).symm
  have hL2 : B.L * B.L ≤ 81 := Nat.mul_le_mul h9 h9
  have hp1 : B.L ^ m ≤ 1000 := Nat.le_trans (Nat.pow_le_pow_right h1 (by omega)) hb
  have hp2 : B.L ^ (n - m - 2) ≤ 1000 := Nat.le_trans (Nat.pow_le_pow_right h1 (by omega)) hb
  refine ⟨_, (pss_cons (ps_set (i := 3) nd rfl (Or.inl rfl) (pe_c c_many_words hr (by decide) rfl (pa_cons (pe_fldK (K := K) (pv 0) rfl) (pa_cons (pv 2) pa_nil))))
    (pss_cons (ps_set (i := 4) nd rfl (Or.inr rfl) (pe_c c_many_words hr (by decide) rfl (pa_cons (pe_fldK (K := K) (pv 0) rfl) (pa_cons (pe_op op_sub (pe_op op_sub (pv 1) (pv 2)) pe_int) pa_nil))))
    (pss_cons (ps_asg (pe_tup (pa_cons (pe_op op_mul (pe_fldK (K := K) (pv 0) rfl) (pe_fldK (K := K) (pv 0) rfl)) (pa_cons (pe_lst pa_nil) pa_nil))) (pg_tup rfl (pgs_cons (pg_name (i := 5) nd rfl (Or.inr rfl)) (pgs_cons (pg_name (i := 6) nd rfl (Or.inl rfl)) pgs_nil))))
    (pss_cons (ps_for PassesOwn.never rfl (pi_range1 rfl T.range (pa_cons (pv 3) pa_nil)) (pg_name (i := 7) nd rfl (Or.inr rfl)) 
      (pss_one (ps_for PassesOwn.never rfl (pi_tupK (K := K) (pe_fldK (K := K) (pv 0) rfl)) (pg_name (i := 8) nd rfl (Or.inl rfl)) 
        (pss_cons (ps_set (i := 9) nd rfl (Or.inr rfl) (pe_c c_few hr (by decide) rfl (pa_cons (pe_fldK (K := K) (pv 0) rfl) (pa_cons (pv 8) pa_nil))))
        (pss_one (ps_for PassesOwn.never rfl (pi_range1 rfl T.range (pa_cons (pv 4) pa_nil)) (pg_name (i := 10) nd rfl (Or.inr rfl)) 
          (pss_one (ps_expr (pe_bm PySem.F.plainAttrs_list PySem.F.slot_list_append PySem.F.type_list_append mt_append (pv 6) (pa_cons (pe_callTy (cr_dictP rfl) (by rfl) T.dict_ (by decide +kernel) (pa_cons (pe_lock (pe_lc (own := [("spot", 11)]) (g := gName 11) (tt := tYes) rfl nd (pi_keys (pv 9)) (blkOk_by (by kernel_rfl)) (fun _ _ _ _ _ => (pg_name (i := 11) nd rfl (Or.inl rfl))) (fun _ _ _ _ _ => pts_nil) (fun _ _ _ _ _ => (pe_tup (pa_cons (pe_op op_add (pe_op op_mul (pe_op op_add (pe_op op_mul (pv 7) (pv 5)) (pv 11)) (pv 4)) (pv 10)) (pa_cons (pe_dget hu (pv 9) (pv 11) (fun _ _ => rfl)) pa_nil)))))) pa_nil)) pa_nil))))))))))
    (pss_one (ps_ret (pv 6))))))), ?_⟩
  walk_at "st"
  walk_at "go"
  refine ⟨a, d.C, dx, _, _, rfl, ha, T.clR, T.nL, rfl, ?_⟩
  walk_at "go"
  refine ⟨B.L, m, rfl, h1, by omega, hp1, ?_⟩
  walk_at "go"
  refine ⟨a, d.C, dx, _, _, rfl, ha, T.clR, T.nL, rfl, ?_⟩
  walk_at "go"
  rw [show ((n : Nat) : Int) - (m : Int) - 2 = ((n - m - 2 : Nat) : Int) by omega]
  refine ⟨B.L, n - m - 2, rfl, h1, by omega, hp2, ?_⟩
  walk_at "go"
  have hprod : B.L ^ m * (B.L * B.L * B.L ^ (n - m - 2)) ≤ 1000 := by
    have : B.L ^ m * (B.L * B.L * B.L ^ (n - m - 2)) = B.L ^ n := by
      rw [← Nat.pow_two, ← Nat.pow_add, ← Nat.pow_add]
      exact congrArg _ (by omega)
    omega
  have hrw : B.rv.length ≤ B.L * B.L := by have := B.len; unfold Bk.rv; rw [List.length_map]; exact this
  generalize B.L ^ m = ah at *
  generalize B.L ^ (n - m - 2) = bh at *
  refine ⟨a, d.C, dx, _, _, rfl, ha, T.clR, T.nL, rfl, ?_⟩
  walk_at "go"
  refine ⟨a, d.C, dx, _, _, rfl, ha, T.clR, T.nL, rfl, ?_⟩
  walk_at "go"
  rw [hLL]
  refine ⟨by show 0 ≤ sizeLine; omega, fun fl hfl => ?_⟩
  walk_at "go"
  refine ⟨by show 2 ≤ sizeLine; decide, fun t2 ht2 => ?_⟩
  walk_at "go"
  have e0 : Same H (upd (upd H fl (.lst [])) t2 (.tup [.int ((B.L * B.L : Nat) : Int), .ref fl])) := Same.trans (Same.new hfl) (Same.new ht2)
  have hft : fl ≠ t2 := fun z => by rw [z] at ht2; rw [upd_same] at ht2; cases ht2
  have hfl2 : (upd (upd H fl (.lst [])) t2 (.tup [.int ((B.L * B.L : Nat) : Int), .ref fl])) fl = some (.lst []) := by rw [upd_ne hft, upd_same]
  generalize hw : B.L * B.L = w0 at *
  generalize (upd (upd H fl (.lst [])) t2 (.tup [.int (w0 : Int), .ref fl])) = H0 at *
  have hrl : B.rv.length ≤ 81 := by have := B.len; unfold Bk.rv; rw [List.length_map]; omega
  have hrl2 := B.rv_len
  refine r_for (r_rng ah (by omega) (fun QA q => by walk_at "go"; exact q) fun J wk => ?_)
  refine for_it wk (fun i σ H' => Same H H' ∧ ∃ (v7 v8 v9 v10 v11 : Option V) (zs : List V), σ = [some (.ref a), some (.int n), some (.int m), some (.int ah), some (.int bh), some (.int (w0 : Nat)), some (.ref fl), v7, v8, v9, v10, v11] ∧ H' fl = some (.lst zs) ∧
    Each RowV ((List.range i).flatMap fun a => placeB w0 bh a B.rv) zs (New H (hide fl H'))) ?_ (fun _ _ _ _ _ => trivial) ?_ ?_
  · exact ⟨e0, _, _, _, _, _, [], rfl, hfl2, Each.nil⟩
  · rintro fi x σ Hx H1 hfi ⟨e1, v7, v8, v9, v10, v11, zs, rfl, hz, hE⟩ ⟨rfl, rfl⟩
    walk_at "go"
    refine r_for (r_itT ht e1 (fun Q q => by walk_at "go"; exact ⟨a, d.C, dx, _, _, rfl, e1 a _ ha, T.clR, T.nR, rfl, q⟩) fun J2 ys hys wk2 => ?_)
    refine for_it wk2 (fun i σ H' => Same H H' ∧ ∃ (v8 v9 v10 v11 : Option V) (zs : List V), σ = [some (.ref a), some (.int n), some (.int m), some (.int ah), some (.int bh), some (.int (w0 : Nat)), some (.ref fl), some (.int (fi : Nat)), v8, v9, v10, v11] ∧ H' fl = some (.lst zs) ∧
      Each RowV (((List.range fi).flatMap fun a => placeB w0 bh a B.rv) ++ (B.rv.take i).flatMap fun v => placeA w0 bh fi v) zs (New H (hide fl H'))) ?_ ?_ ?_ ?_
    · refine ⟨e1, _, _, _, _, zs, rfl, hz, ?_⟩
      have : ((B.rv.take 0).flatMap fun v => placeA w0 bh fi v) = [] := by simp
      rw [this, List.append_nil]
      exact hE
    · rintro i σ H' hi ⟨e, _⟩
      exact e
    · rintro i x σ Hx H2 hi ⟨e2, v8, v9, v10, v11, zs, rfl, hz, hE⟩ ⟨rfl, hx⟩
      obtain ⟨ns, hn2, hx2⟩ := hys.yet hx
      obtain ⟨hv1, hv2, hv3⟩ := B.rv_get hn2
      rw [hw] at hv2 hv3
      have htk : B.rv.take (i + 1) = B.rv.take i ++ [vecI ns] := by rw [List.take_succ, hv1]; rfl
      walk_at "go"
      refine ⟨a, d.C, dx, _, _, rfl, e2 a _ ha, T.clR, T.nP, rfl, ?_⟩
      walk_at "go"
      refine ⟨x, ns, rfl, .inr (Mon.mono e2 hx2), by omega, fun y3 H3 e3 r3 => ?_⟩
      walk_at "go"
      obtain ⟨b, rfl, rb⟩ := (Mon.mono New.le r3 : RowV _ _ H3)
      refine r_for (r_rng bh (by omega) (fun QA q => by walk_at "go"; exact q) fun J3 wk3 => ?_)
      refine for_it wk3 (fun l σ H' => Same (hide fl H3) H' ∧ Same H H' ∧ ∃ (v10 v11 : Option V) (zs : List V), σ = [some (.ref a), some (.int n), some (.int m), some (.int ah), some (.int bh), some (.int (w0 : Nat)), some (.ref fl), some (.int (fi : Nat)), some x, some (.ref b), v10, v11] ∧ H' fl = some (.lst zs) ∧
        Each RowV ((((List.range fi).flatMap fun a => placeB w0 bh a B.rv) ++ (B.rv.take i).flatMap fun v => placeA w0 bh fi v) ++ (List.range l).map fun b => mvv w0 (plcF w0 bh fi b) (vecI (p := p) ns)) zs (New H (hide fl H'))) ?_ (fun _ _ _ _ _ => trivial) ?_ ?_
      · refine ⟨hide_le, Same.trans e2 e3, _, _, zs, rfl, e3 fl _ hz, ?_⟩
        have : ((List.range 0).map fun b => mvv w0 (plcF w0 bh fi b) (vecI (p := p) ns)) = [] := rfl
        rw [this, List.append_nil]
        exact hE.mono (New.mono (hide_same e3))
      · rintro l x2 σ Hx H4 hl ⟨e34, e4, v10, v11, zs, rfl, hz4, hE4⟩ ⟨rfl, rfl⟩
        have hbf : b ≠ fl := fun z => by
          have h1 : RowV (vecI (p := p) ns) (.ref b) (New H2 H3) := r3
          obtain ⟨b', hb', kv, hk, _⟩ := h1
          cases hb'
          have := New.old hk
          rw [z, hz] at this
          cases this
        have rb4 : RowX H4 b (vecI (p := p) ns) := by
          obtain ⟨kv, h1, h2⟩ := rb
          exact ⟨kv, e34 b _ (by rw [hide_ne hbf]; exact h1), h2⟩
        walk_at "go"
        refine ⟨.inl ⟨rfl, _, SqL.of hz4⟩, ?_⟩
        walk_at "go"
        refine r_dictMv rb4 hv3 (by omega) (plcF w0 bh fi l) (fun k k' _ _ => plcF_inj hl) (fun H' Q _ q => by walk_at "go"; exact q) (fun _ => rfl) (fun k H' Q hk hkn rd _ q => ?_) (fun k H' Q hk rd ra q => ?_) fun q H5 e5 hq rq => ?_
        · walk_at "lc"
          walk_at "go"
          have : (((fi : Nat) : Int) * (w0 : Int) + (k : Int)) * (bh : Int) + (l : Int) = ((plcF w0 bh fi l k : Nat) : Int) := by unfold plcF; push_cast; rfl
          rw [this]
          exact q
        · walk_at "lc"
          walk_at "go"
          exact ⟨_, _, rfl, DGet.row ra hk, q⟩
        walk_at "go"
        have hqf : q ≠ fl := ne_new hq (by rw [hz4]; simp)
        refine ⟨fl, zs, _, rfl, rfl, e5 fl _ hz4, sl _ ?_, ?_⟩
        · have h1 := hE4.len
          rw [h1, List.length_append, List.length_append, List.length_map, List.length_range, fm_len _ (B.rv.length * bh) _ fun x _ => placeB_len _ _ _ _, fm_len _ bh _ fun x _ => placeA_len _ _ _ _, List.length_range, List.length_take]
          have c1 := Nat.mul_le_mul_right bh (show i + 1 ≤ B.rv.length by rw [hrl2]; exact hi)
          rw [Nat.add_mul, Nat.one_mul] at c1
          have c2 := Nat.mul_le_mul_right (B.rv.length * bh) (show fi + 1 ≤ ah from hfi)
          rw [Nat.add_mul, Nat.one_mul] at c2
          have c3 := Nat.mul_le_mul_left ah (Nat.mul_le_mul_right bh hrw)
          have c4 : min i B.rv.length * bh ≤ i * bh := Nat.mul_le_mul_right bh (Nat.min_le_left _ _)
          omega
        refine ⟨same_hide_upd (Same.trans e34 e5), Same.mut (Same.trans e4 e5) hfl, _, _, _, rfl, upd_same, ?_⟩
        rw [hide_upd, List.range_succ, List.map_append, ← List.append_assoc]
        exact (hE4.mono (New.mono (hide_same e5))).snoc (Mon.mono (New.both e4 (by rw [hz4]; simp)) (RowX.new hq rq))
      · rintro σ H' ⟨e34, e4, v10, v11, zs, rfl, hz4, hE4⟩
        refine ⟨e4, _, _, _, _, zs, rfl, hz4, ?_⟩
        rw [htk, List.flatMap_append, ← List.append_assoc]
        have : ([vecI (p := p) ns].flatMap fun v => placeA w0 bh fi v) = (List.range bh).map fun b => mvv w0 (plcF w0 bh fi b) (vecI (p := p) ns) := by simp [placeA]
        rw [this]
        exact hE4
    · rintro σ H' ⟨e2, v8, v9, v10, v11, zs, rfl, hz, hE⟩
      refine ⟨e2, _, _, _, _, _, zs, rfl, hz, ?_⟩
      rw [List.take_of_length_le (by omega)] at hE
      rw [fm_snoc]
      exact hE
  · rintro σ H' ⟨e1, v7, v8, v9, v10, v11, zs, rfl, hz, hE⟩
    walk_at "go"
    exact k _ H' e1 ⟨fl, zs, rfl, by rw [New.at_ hfl]; exact hz, hE.mono (New.mono hide_le)⟩
abbrev s_nothing_heads : Stmt := top 46
theorem sc_nothing_heads : FnScope ["book", "length", "some", "place"] ["book", "length"] (defScope s_nothing_heads) := ⟨rfl, rfl, rfl, by decide +kernel, rfl, by decide +kernel, by decide +kernel⟩
def HeadsV (hs : List (Hd p)) (y : V) (H : Hp) : Prop := ∃ a kvs, y = .ref a ∧ H a = some (.dK kvs) ∧ DicK RowV hs kvs H
instance : Mon (HeadsV (p := p)) := ⟨fun e ⟨a, kvs, h1, h2, h3⟩ => ⟨a, kvs, h1, e a _ h2, h3.mono e⟩⟩
def spNoth (p : Nat) [Pr p] (d : Ad) : Sp := fun vs H Q _ => ∃ (y : V) (B : Bk p) (n : Nat), vs = [y, .int n] ∧ BookV d B y H ∧ n ≤ 6 ∧ B.L ^ n ≤ 1000 ∧
  ∀ hs y' H', Same H H' → HeadsV hs y' (New H H') → Red hs → (∀ e ∈ hs, Bd e.2 (B.L ^ n)) → (∀ f, SpanH hs f ↔ SpanL (nothL B n (n - 1)) f) → Q y' H'
theorem noth_len (B : Bk p) {n : Nat} : ∀ {c : Nat}, c + 1 ≤ n → (nothL B n c).length ≤ c * B.L ^ n
  | 0, _ => by simp [nothL]
  | c + 1, h => by
    unfold nothL
    rw [fm_snoc, List.length_append, placeL_len]
    have h1 := noth_len B (n := n) (c := c) (by omega)
    unfold nothL at h1
    have h2 : B.rv.length ≤ B.L * B.L := by have := B.len; unfold Bk.rv; rw [List.length_map]; exact this
    have h3 := Nat.mul_le_mul_left (B.L ^ c) (Nat.mul_le_mul_right (B.L ^ (n - c - 2)) h2)
    rw [noth_pow (L := B.L) (show c + 2 ≤ n by omega)] at h3
    rw [Nat.add_mul, Nat.one_mul]
    omega
theorem ok_nothing_heads (T : Tx K mg d) (D : Df K mg "nothing_heads" s_nothing_heads) (c_placed_few : Cal P w K mg base 2 "placed_few" (U fun p _ => spPlaced p d) []) (c_heads_of : Cal P w K mg base 3 "heads_of" (U fun p _ => spHeads p) []) : Cal P w K mg base 4 "nothing_heads" (U fun p _ => spNoth p d) [] := by
  have nd := sc_nothing_heads.nd
  refine mkCalU D sc_nothing_heads (fun p hp vs H Q E h => ?_) (fun _ _ _ _ _ _ us hl => match us, hl with | [_, _], _ => rfl) (fun p hp f0 cdv A outer s H vs Q E hr h => ?_)
  · obtain ⟨y, B, n, rfl, _⟩ := h
    rfl
  obtain ⟨y, B, n, rfl, hy, hn6, hb, k⟩ := h
  obtain ⟨a, dx, t, rfl, ha, ht⟩ := id hy
  refine ⟨_, (pss_cons (ps_set (i := 2) nd rfl (Or.inl rfl) (pe_lst pa_nil))
    (pss_cons (ps_for PassesOwn.never rfl (pi_range1 rfl T.range (pa_cons (pe_op op_sub (pv 1) pe_int) pa_nil)) (pg_name (i := 3) nd rfl (Or.inl rfl)) 
      (pss_one (ps_set (i := 2) nd rfl (Or.inl rfl) (pe_op op_cat (pv 2) (pe_c c_placed_few hr (by decide) rfl (pa_cons (pv 0) (pa_cons (pv 1) (pa_cons (pv 3) pa_nil))))))))
    (pss_one (ps_ret (pe_c c_heads_of hr (by decide) rfl (pa_cons (pe_fldK (K := K) (pv 0) rfl) (pa_cons (pv 2) pa_nil))))))), ?_⟩
  walk_at "st"
  walk_at "go"
  refine ⟨by show 0 ≤ sizeLine; omega, fun fl hfl => ?_⟩
  walk_at "go"
  refine r_for (r_rngI ((n : Int) - 1) (n - 1) (by omega) (by omega) (by omega) (fun QA q => by walk_at "go"; exact q) fun J wk => ?_)
  refine for_it wk (fun i σ H' => Same H H' ∧ ∃ (v3 : Option V) (l : Addr) (zs : List V), σ = [some (.ref a), some (.int n), some (.ref l), v3] ∧ H l = none ∧ H' l = some (.lst zs) ∧ Each RowV (nothL B n i) zs (New H H')) ?_ (fun _ _ _ _ _ => trivial) ?_ ?_
  · exact ⟨Same.new hfl, _, fl, [], rfl, hfl, upd_same, Each.nil⟩
  · rintro m x σ Hx H1 hm ⟨e1, v3, l, zs, rfl, hl0, hl, hE⟩ ⟨rfl, rfl⟩
    walk_at "go"
    refine ⟨_, B, n, m, rfl, Mon.mono e1 hy, by omega, hn6, hb, fun y2 H2 e2 r2 => ?_⟩
    obtain ⟨l2, zs2, rfl, hl2, hE2⟩ := r2
    have hln := noth_len B (n := n) (c := m + 1) (by omega)
    have hlen : zs.length + zs2.length ≤ 10000 := by
      have h1 := hE.len
      have h2 := hE2.len
      have h3 : (nothL B n (m + 1)).length = (nothL B n m).length + (placeL (B.L * B.L) (B.L ^ m) (B.L ^ (n - m - 2)) B.rv).length := by
        unfold nothL
        rw [fm_snoc, List.length_append]
      have h4 := Nat.mul_le_mul (show m + 1 ≤ 6 by omega) hb
      omega
    refine ⟨l, l2, zs, zs2, rfl, rfl, e2 l _ hl, New.le _ _ hl2, Nat.le_of_lt (sl _ (by omega)), fun q hq => ?_⟩
    walk_at "go"
    refine ⟨Same.trans e1 (Same.trans e2 (Same.new hq)), _, q, _, rfl, none_of (Same.trans e1 e2) hq, upd_same, ?_⟩
    have h5 : nothL B n (m + 1) = nothL B n m ++ placeL (B.L * B.L) (B.L ^ m) (B.L ^ (n - m - 2)) B.rv := by
      unfold nothL
      rw [fm_snoc]
    rw [h5]
    exact ((hE.mono (New.mono e2)).append (hE2.mono (New.anti e1))).mono (New.mono (Same.new hq))
  · rintro σ H1 ⟨e1, v3, l, zs, rfl, hl0, hl, hE⟩
    walk_at "go"
    refine ⟨a, d.C, dx, _, _, rfl, e1 a _ ha, T.clR, T.nP, rfl, ?_⟩
    walk_at "go"
    refine ⟨.ref l, _, B.L ^ n, rfl, ⟨l, zs, rfl, hl, hE.mono New.le⟩, fun f hf => ?_, by omega, fun b kvs hs H2 e2 hb2 hH dk R bh sp => ?_⟩
    · by_cases h0 : n = 0
      · subst h0
        have : nothL B 0 (0 - 1) = [] := rfl
        rw [this] at hf
        cases hf
      · exact noth_bd B (by omega) f hf
    · exact k hs _ H2 (Same.trans e1 e2) ⟨b, kvs, rfl, by rw [New.at_ (none_of e1 hb2)]; exact hH, dk.mono (New.anti e1)⟩ R bh sp
end
section
variable {P : Program} {w : World} {K : PySem.W.Frag} {mg : Str → Option Value} {base : Heap} {d : Ad} {p : Nat} [Pr p]
/-! ### what two rooms share -/
theorem r_dictDbl {σ : L2.St} {H : Hp} {Q : VK} {tg td t1 t2 : TE} {j : Nat} {a : Addr} {f : Vec p} {size : Nat} (hx : RowX H a f) (bf : Bd f size) (hn : size ≤ 1000)
    (hg : ∀ Q : VK, Q (.ref a) H → tg σ H Q)
    (ht : ∀ H' (Q : VK), RdE H H' → Q (.ref a) H' → td σ H' Q)
    (hw : ∀ x, wipe ((wipe σ [j]).set j x) [j] = wipe σ [j])
    (e1 : ∀ k H' (Q : VK), RdE H H' → Q (.int ((k + size : Nat) : Int)) H' → t1 ((wipe σ [j]).set j (some (.int (k : Nat)))) H' Q)
    (e2 : ∀ k H' (Q : VK), f k ≠ 0 → RowAt H' a f → Q (.int (iv (f k))) H' → t2 ((wipe σ [j]).set j (some (.int (k : Nat)))) H' Q)
    (hq : ∀ q H', Same H H' → H q = none → RowX H' q (dbl size f) → Q (.ref q) H') :
    tDictP K (tCons (tOp rCat (tListItems tg) (tLockE (tLc (iKeys td) (gName j) tYes (tTup (tCons t1 (tCons t2 tNil))) [j]))) tNil) σ H Q := by
  obtain ⟨kv, hkv, ks, hkn, rfl, hks⟩ := id hx
  have lt : ∀ k ∈ ks, k < size := fun k hk => Nat.lt_of_not_le fun h => (hks k).mp hk (bf k h)
  have hlen : ks.length ≤ size := nodup_len hkn lt
  refine r_dictP' (r_cons (r_op (hg _ ⟨a, _, rfl, hkv, fun H1 l1 ts e1' hl1 hts hnt hH1 hp => ?_⟩)))
  have e01 : Same H H1 := e1'
  refine r_lcPairs (e01 a _ hkv) (by omega) (fun k => k + size) (fun k => .int (iv (f k))) (fun H' Q rd q => ht H' Q ((Same.rd e01).trans rd) q) hw (fun k H' Q _ rd q => e1 k H' Q ((Same.rd e01).trans rd) q) (fun k H' Q hk rd q => e2 k H' Q ((hks k).mp hk) ((hx.at_.rd (Same.rd e01)).rd rd) q) fun l2 ys H2 e12 hl2 hH2 hE => ?_
  have hE1 : Each PairV (ks.map fun k => (k, V.int (iv (f k)))) (ts.map V.ref) H1 := by
    refine ⟨?_, fun i e y h1 h2 => ?_⟩
    · have := Paired.length hp
      rw [List.length_map, List.length_map]
      rw [List.length_map] at this
      exact this
    · rw [List.getElem?_map] at h1 h2
      cases ht' : ts[i]? with
      | none => rw [ht'] at h2; cases h2
      | some t0 =>
        rw [ht'] at h2
        cases h2
        obtain ⟨kv0, hk0, hr0⟩ := LiI.paired_get hp ht'
        rw [List.getElem?_map] at hk0
        cases hk1 : ks[i]? with
        | none => rw [hk1] at hk0; cases hk0
        | some k0 =>
          rw [hk1] at hk0 h1
          cases hk0
          cases h1
          exact ⟨t0, rfl, hr0⟩
  refine ⟨l1, l2, _, ys, rfl, rfl, e12 l1 _ hH1, hH2, ?_, fun l3 hl3 => ?_⟩
  · have h1 := hE1.len
    have h2 := hE.len
    simp only [List.length_map] at h1 h2
    refine Nat.le_of_lt (sl _ ?_)
    rw [List.length_map]
    omega
  refine r_nil ?_
  have e3 := Same.new (o := .lst (ts.map V.ref ++ ys)) hl3
  have hkeys : ((ks.map fun k => (k, V.int (iv (f k)))) ++ ks.map fun k => (k + size, V.int (iv (f k)))).map (·.1) = ks ++ ks.map (· + size) := by
    rw [List.map_append, List.map_map, List.map_map]
    refine congr (congrArg _ (List.map_id _)) rfl
  have hnd : (ks ++ ks.map (· + size)).Nodup := by
    refine List.nodup_append.mpr ⟨hkn, List.pairwise_map.mpr (hkn.imp fun h => by omega), fun a ha b hb => ?_⟩
    obtain ⟨c, _, rfl⟩ := List.mem_map.mp hb
    have := lt a ha
    omega
  refine dict_pairs (((hE1.mono e12).append hE).mono e3) (by rw [hkeys]; exact hnd) upd_same fun q hq0 => ?_
  have e03 := Same.trans e01 (Same.trans e12 e3)
  refine hq q _ (Same.trans e03 (Same.new hq0)) (none_of e03 hq0) ⟨_, upd_same, spK_of (by rw [hkeys]; exact hnd) (fun e he => ?_) fun m => ?_⟩
  · rcases List.mem_append.mp he with he | he
    · obtain ⟨k, hk, rfl⟩ := List.mem_map.mp he
      show V.int (iv (f k)) = V.int (iv (dbl size f k))
      unfold dbl
      rw [if_neg (by have := lt k hk; omega)]
      have : f k + 0 = f k := by grind
      rw [this]
    · obtain ⟨k, hk, rfl⟩ := List.mem_map.mp he
      show V.int (iv (f k)) = V.int (iv (dbl size f (k + size)))
      unfold dbl
      rw [if_pos (by omega), Nat.add_sub_cancel, bf (k + size) (by omega)]
      have : 0 + f k = f k := by grind
      rw [this]
  · rw [hkeys, List.mem_append, List.mem_map]
    unfold dbl
    by_cases z : size ≤ m
    · rw [if_pos z, bf m z]
      have : 0 + f (m - size) = f (m - size) := by grind
      rw [this]
      constructor
      · intro h
        exact .inr ⟨m - size, (hks _).mpr h, by omega⟩
      · rintro (h | ⟨k, hk, rfl⟩)
        · have := lt m h; omega
        · rw [Nat.add_sub_cancel]
          exact (hks k).mp hk
    · rw [if_neg z]
      have : f m + 0 = f m := by grind
      rw [this]
      constructor
      · intro h
        exact .inl ((hks _).mpr h)
      · rintro (h | ⟨k, hk, rfl⟩)
        · exact (hks m).mp h
        · omega
abbrev s_shared_rows : Stmt := top 48
theorem sc_shared_rows : FnScope ["prime", "size", "one", "other", "some", "row", "heads", "found", "spot", "k"] ["prime", "size", "one", "other"] (defScope s_shared_rows) := ⟨rfl, rfl, rfl, by decide +kernel, rfl, by decide +kernel, by decide +kernel⟩
def spShared (p : Nat) [Pr p] : Sp := fun vs H Q _ => ∃ (size : Nat) (y z : V) (one other : List (Vec p)), vs = [.int p, .int size, y, z] ∧ LstOf RowV one y H ∧ LstOf RowV other z H ∧ (∀ f ∈ one, Bd f size) ∧ (∀ f ∈ other, Bd f size) ∧ size ≤ 1000 ∧ one.length + other.length ≤ 10000 ∧
  ∀ cs y' H', Same H H' → Red cs → (cs.map (·.1)).Pairwise (· < ·) → (∀ e ∈ cs, Bd e.2 size) → (∀ f, SpanH cs f ↔ SpanL one f ∧ SpanL other f) → LstOf RowV (cs.map (·.2)) y' (New H H') → Q y' H'
theorem ok_shared_rows (T : Tx K mg d) (D : Df K mg "shared_rows" s_shared_rows) (c_heads_of : Cal P w K mg base 3 "heads_of" (U fun p _ => spHeads p) []) : Cal P w K mg base 4 "shared_rows" (U fun p _ => spShared p) [] := by
  have nd := sc_shared_rows.nd
  refine mkCalU D sc_shared_rows (fun p hp vs H Q E h => ?_) (fun _ _ _ _ _ _ us hl => match us, hl with | [_, _, _, _], _ => rfl) (fun p hp f0 cdv A outer s H vs Q E hr h => ?_)
  · obtain ⟨size, y, z, one, other, rfl, _⟩ := h
    rfl
  obtain ⟨size, y, z, one, other, rfl, hy, hz, b1, b2, hsz, hln, k⟩ := h
  have hu := hu_of hr
  refine ⟨_, (pss_cons (ps_set (i := 4) nd rfl (Or.inl rfl) (pe_callTy call_list_of (by rfl) T.list_ (by decide +kernel) (pa_cons (pv 3) pa_nil)))
    (pss_cons (ps_for PassesOwn.never rfl (pi_listK (K := K) (pv 2)) (pg_name (i := 5) nd rfl (Or.inr rfl)) 
      (pss_one (ps_expr (pe_bm PySem.F.plainAttrs_list PySem.F.slot_list_append PySem.F.type_list_append mt_append (pv 4) (pa_cons (pe_callTy (cr_dictP rfl) (by rfl) T.dict_ (by decide +kernel) (pa_cons (pe_op op_cat (pe_listItems rfl (pv 5) rfl T.list_ (by decide +kernel)) (pe_lock (pe_lc (own := [("k", 9)]) (g := gName 9) (tt := tYes) rfl nd (pi_keys (pv 5)) (blkOk_by (by kernel_rfl)) (fun _ _ _ _ _ => (pg_name (i := 9) nd rfl (Or.inl rfl))) (fun _ _ _ _ _ => pts_nil) (fun _ _ _ _ _ => (pe_tup (pa_cons (pe_op op_add (pv 9) (pv 1)) (pa_cons (pe_dget hu (pv 5) (pv 9) (fun _ _ => rfl)) pa_nil))))))) pa_nil)) pa_nil)))))
    (pss_cons (ps_set (i := 6) nd rfl (Or.inr rfl) (pe_c c_heads_of hr (by decide) rfl (pa_cons (pv 0) (pa_cons (pv 4) pa_nil))))
    (pss_cons (ps_set (i := 7) nd rfl (Or.inl rfl) (pe_lst pa_nil))
    (pss_cons (ps_for PassesOwn.never rfl (pi_listK (K := K) (pe_callB (cr_sortedDK rfl) (by rfl) T.sorted (by decide +kernel) (pa_cons (pv 6) pa_nil))) (pg_name (i := 8) nd rfl (Or.inr rfl)) 
      (pss_one (ps_if (pt_cmpR op_ge (pv 8) (pv 1) (nomark _)) 
        (pss_one (ps_expr (pe_bm PySem.F.plainAttrs_list PySem.F.slot_list_append PySem.F.type_list_append mt_append (pv 7) (pa_cons (pe_callTy (cr_dictP rfl) (by rfl) T.dict_ (by decide +kernel) (pa_cons (pe_lock (pe_lc (own := [("k", 9)]) (g := gName 9) (tt := tYes) rfl nd (pi_keys (pe_dget hu (pv 6) (pv 8) (fun _ _ => rfl))) (blkOk_by (by kernel_rfl)) (fun _ _ _ _ _ => (pg_name (i := 9) nd rfl (Or.inl rfl))) (fun _ _ _ _ _ => pts_nil) (fun _ _ _ _ _ => (pe_tup (pa_cons (pe_op op_sub (pv 9) (pv 1)) (pa_cons (pe_dget hu (pe_dget hu (pv 6) (pv 8) (fun _ _ => rfl)) (pv 9) (fun _ _ => rfl)) pa_nil)))))) pa_nil)) pa_nil)))) pss_nil)))
    (pss_one (ps_ret (pv 7)))))))), ?_⟩
  walk_at "st"
  walk_at "go"
  obtain ⟨zb, zs0, rfl, hzb, hzE⟩ := id hz
  refine ⟨zb, zs0, rfl, .inl (SqL.of hzb), fun sm hsm => ?_⟩
  walk_at "go"
  have e0 : Same H (upd H sm (.lst zs0)) := Same.new hsm
  refine r_for (r_itL hy e0 (fun Q q => by walk_at "go"; exact q) fun J ys hys wk => ?_)
  refine for_it wk (fun i σ H' => Same H H' ∧ ∃ (v5 : Option V) (zs : List V), σ = [some (.int p), some (.int size), some y, some (.ref zb), some (.ref sm), v5, none, none, none, none] ∧ H' sm = some (.lst zs) ∧ Each RowV (other ++ (one.take i).map (dbl size)) zs (hide sm H')) ?_ ?_ ?_ ?_
  · refine ⟨e0, _, zs0, rfl, upd_same, ?_⟩
    rw [List.take_zero, List.map_nil, List.append_nil, hide_upd]
    refine hzE.mono fun b u hb => ?_
    rw [hide_ne (ne_of_none hb hsm)]
    exact hb
  · rintro i σ H' hi ⟨e, _⟩
    exact e
  · rintro i x σ Hx H1 hi ⟨e1, v5, zs, rfl, hsm1, hE⟩ ⟨rfl, hx⟩
    obtain ⟨f, hf, b, rfl, rb⟩ := hys.yet hx
    have bf := b1 f (List.mem_of_getElem? hf)
    walk_at "go"
    refine ⟨.inl ⟨rfl, _, SqL.of hsm1⟩, ?_⟩
    walk_at "go"
    refine r_dictDbl (rb.same e1) bf hsz (fun Q q => by walk_at "go"; exact q) (fun H' Q _ q => by walk_at "go"; exact q) (fun _ => rfl) (fun k H' Q rd q => ?_) (fun k H' Q hk ra q => ?_) fun q H2 e2 hq rq => ?_
    · walk_at "lc"
      walk_at "go"
      rw [show ((k : Nat) : Int) + (size : Int) = ((k + size : Nat) : Int) from (Int.natCast_add _ _).symm]
      exact q
    · walk_at "lc"
      walk_at "go"
      exact ⟨_, _, rfl, DGet.row ra hk, q⟩
    walk_at "go"
    refine ⟨sm, zs, _, rfl, rfl, e2 sm _ hsm1, sl _ ?_, ?_⟩
    · rw [hE.len, List.length_append, List.length_map, List.length_take]
      omega
    refine ⟨Same.mut (Same.trans e1 e2) hsm, _, _, rfl, upd_same, ?_⟩
    have htk : one.take (i + 1) = one.take i ++ [f] := by rw [List.take_succ, hf]; rfl
    rw [hide_upd, htk, List.map_append, ← List.append_assoc]
    exact (hE.mono (hide_same e2)).snoc (Mon.mono (New.hide (by rw [hsm1]; simp)) (RowX.new hq rq))
  rintro σ H1 ⟨e1, v5, zs, rfl, hsm1, hE⟩
  rw [List.take_of_length_le (Nat.le_refl _)] at hE
  walk_at "go"
  refine ⟨.ref sm, _, size + size, rfl, ⟨sm, zs, rfl, hsm1, hE.mono hide_le⟩, fun f hf => ?_, by omega, fun hd kvs hs H2 e2 hhd hH dk R bh sp => ?_⟩
  · rcases List.mem_append.mp hf with hf | hf
    · exact fun k hk => b2 f hf k (by omega)
    · obtain ⟨g, hg, rfl⟩ := List.mem_map.mp hf
      intro k hk
      unfold dbl
      rw [b1 g hg k (by omega), if_pos (by omega), b1 g hg _ (by omega)]
      grind
  have hlen := R.len bh
  have e02 := Same.trans e1 e2
  have dk2 := dk.mono New.le
  walk_at "go"
  refine ⟨by show 0 ≤ sizeLine; omega, fun fl hfl => ?_⟩
  walk_at "go"
  have e3 : Same H2 (upd H2 fl (.lst [])) := Same.new hfl
  refine r_for (r_iL ?_)
  walk_at "go"
  refine ⟨hd, kvs, hs.map fun e => (e.1 : Int), rfl, .inl (e3 hd _ hH), by rw [dk.keys, List.map_map]; rfl, by rw [List.length_map]; omega, fun ys' s hp hsrt hs0 => ?_⟩
  have ekk : (hs.map fun e => (e.1 : Int)) = (hs.map (·.1)).map fun (k : Nat) => (k : Int) := by rw [List.map_map]; rfl
  rw [ekk] at hp
  obtain ⟨yl, rfl, hyp⟩ := perm_nat hp
  obtain ⟨hmem, R'⟩ := sortH R hyp _ rfl
  have hyl : yl.length = hs.length := by have := hyp.length_eq; rw [List.length_map] at this; exact this
  have hsf : s ≠ fl := ne_new hs0 (by rw [upd_same]; simp)
  have hs02 : H2 s = none := none_of e3 hs0
  refine ⟨s, rfl, ⟨_, SqL.of upd_same⟩, ?_⟩
  have hbase : ∀ H', Same (upd H2 s (.lst ((yl.map fun (k : Nat) => (k : Int)).map V.int))) H' → SqL K H' s ((yl.map fun (k : Nat) => (k : Int)).map V.int) := fun H' e => SqL.of (e s _ upd_same)
  refine for_it (walk_list.mono (n := ((yl.map fun (k : Nat) => (k : Int)).map V.int).length) hbase fun _ _ _ _ _ _ h => h) (fun i σ H' => Same (upd H2 s (.lst ((yl.map fun (k : Nat) => (k : Int)).map V.int))) H' ∧ ∃ (v8 : Option V) (zs : List V), σ = [some (.int p), some (.int size), some y, some (.ref zb), some (.ref sm), v5, some (.ref hd), some (.ref fl), v8, none] ∧
    H' fl = some (.lst zs) ∧ Each RowV ((upH size ((yl.take i).map fun k => (k, rowOf hs k))).map (·.2)) zs (New H2 (hide fl H'))) ?_ (fun i σ H' _ h => h.1) ?_ ?_
  · refine ⟨fun b u hb => ?_, _, [], rfl, by rw [upd_ne hsf.symm, upd_same], ?_⟩
    · by_cases q : b = s
      · subst q
        rw [upd_same] at hb ⊢
        exact hb
      · rw [upd_ne q] at hb ⊢
        rw [upd_ne (ne_of_none hb hfl)]
        exact hb
    · exact Each.nil
  · rintro i x σ Hx H3 hi ⟨e4, v8, zs4, rfl, hfl3, hE3⟩ ⟨rfl, hx⟩
    simp only [List.length_map] at hi
    rw [List.map_map, List.getElem?_map, List.getElem?_eq_getElem hi] at hx
    cases hx
    have e23 : Same H2 H3 := fun b u hb => e4 b u (by rw [upd_ne (ne_of_none hb hs02)]; exact hb)
    obtain ⟨⟨k0, f0⟩, hm0, hk0⟩ := List.mem_map.mp (hyp.mem_iff.mp (List.getElem_mem hi))
    have hk0 : k0 = yl[i] := hk0
    have htk : yl.take (i + 1) = yl.take i ++ [k0] := by rw [List.take_succ, List.getElem?_eq_getElem hi, hk0]; rfl
    have hro : rowOf hs k0 = f0 := rowOf_mem R.nd hm0
    rw [show ((V.int ∘ fun (k : Nat) => (k : Int)) yl[i]) = V.int (k0 : Nat) by rw [hk0]; rfl]
    walk_at "go"
    have hcat : (upH size ((yl.take (i + 1)).map fun k => (k, rowOf hs k))).map (·.2) = (upH size ((yl.take i).map fun k => (k, rowOf hs k))).map (·.2) ++ if size ≤ k0 then [shf size f0] else [] := by
      unfold upH
      rw [htk, List.map_append, List.filter_append, List.map_append, List.map_append]
      refine congrArg _ ?_
      simp only [List.map_cons, List.map_nil]
      rw [hro, List.filter_cons]
      by_cases q : size ≤ k0
      · rw [if_pos q, if_pos (decide_eq_true q)]
        rfl
      · rw [if_neg q, if_neg (by simpa using q)]
        rfl
    refine r_dec (fun hge => ?_) fun hlt => ?_
    · have hge : size ≤ k0 := by omega
      obtain ⟨v, hv, b, rfl, rb⟩ := (dk2.mono e23).dgot R.nd (.inl (e23 hd _ hH)) hm0
      have b0 := bh _ hm0
      have low : ∀ k, f0 k ≠ 0 → size ≤ k := fun k hk => Nat.le_of_not_lt fun z => hk (R.low _ hm0 k (show k < k0 by omega))
      walk_at "go"
      refine ⟨.inl ⟨rfl, _, SqL.of hfl3⟩, ?_⟩
      walk_at "go"
      have hvv : ∀ H' (Q : VK), RdE H3 H' → Q (.ref b) H' → tDGet (tVar 6) (tVar 8) [some (.int p), some (.int size), some y, some (.ref zb), some (.ref sm), v5, some (.ref hd), some (.ref fl), some (.int (k0 : Nat)), none] H' Q := fun H' Q rd q => by
        walk_at "go"
        refine ⟨hd, _, rfl, .inl ⟨kvs, Sum.inl (k0 : Int), rd hd _ (.inl (e23 hd _ hH)), rfl, ?_⟩, q⟩
        obtain ⟨v', hv', b', hb', rb'⟩ := (dk2.mono e23).get R.nd hm0
        rcases hv with ⟨kvs', k', h1, h2, h3⟩ | ⟨kvs', k', b', h1, h2, h3, h4⟩
        · have e5 : kvs' = kvs := by
            rcases h1 with h1 | ⟨o, h1⟩
            · rw [e23 hd _ hH] at h1; cases h1; rfl
            · rw [e23 hd _ hH] at h1; cases h1
          subst e5
          have e6 : k' = Sum.inl (k0 : Int) := by
            cases k' with
            | inl z => exact congrArg Sum.inl (V.int.inj h2).symm
            | inr z => cases h2
          rw [← e6]
          exact h3
        · cases h2
      refine r_dictKeys rb b0 (by omega) (fun k => k - size) (shf size f0) (fun k k' h h' e => by have := low k h; have := low k' h'; omega) (fun k hk => by unfold shf; rw [Nat.sub_add_cancel (low k hk)]; exact hk) (fun m hm => ⟨m + size, hm, by omega⟩)
        hvv (fun _ => rfl) (fun k H' Q hk rd _ q => ?_) (fun k H' Q hk rd _ q => ?_) fun q H4 e34 hq rq => ?_
      · have := low k hk
        walk_at "lc"
        walk_at "go"
        rw [show ((k : Nat) : Int) - (size : Int) = ((k - size : Nat) : Int) by omega]
        exact q
      · walk_at "lc"
        walk_at "go"
        refine ⟨hd, .ref b, rfl, ?_, ?_⟩
        · rcases hv with ⟨kvs', k', h1, h2, h3⟩ | ⟨kvs', k', b', h1, h2, h3, h4⟩
          · exact .inl ⟨kvs', k', rd hd _ h1, h2, h3⟩
          · cases h2
        walk_at "go"
        refine ⟨b, _, rfl, DGet.row (rb.at_.rd rd) hk, ?_⟩
        have : shf size f0 (k - size) = f0 k := by unfold shf; rw [Nat.sub_add_cancel (low k hk)]
        rw [this] at q
        exact q
      walk_at "go"
      have hqf : q ≠ fl := ne_new hq (by rw [hfl3]; simp)
      refine ⟨fl, zs4, _, rfl, rfl, e34 fl _ hfl3, sl _ ?_, ?_⟩
      · rw [hE3.len, List.length_map]
        unfold upH
        rw [List.length_map]
        have h1 := List.length_filter_le (fun e : Hd p => decide (size ≤ e.1)) ((yl.take i).map fun k => (k, rowOf hs k))
        rw [List.length_map, List.length_take] at h1
        omega
      refine ⟨Same.mut (Same.trans e4 e34) (by rw [upd_ne hsf.symm]; exact hfl), _, _, rfl, upd_same, ?_⟩
      rw [hide_upd, hcat, if_pos hge]
      exact (hE3.mono (New.mono (hide_same e34))).snoc (Mon.mono (New.both e23 (by rw [hfl3]; simp)) (RowX.new hq rq))
    · walk_at "go"
      refine ⟨e4, _, zs4, rfl, hfl3, ?_⟩
      rw [hcat, if_neg (by omega), List.append_nil]
      exact hE3
  · rintro σ H3 ⟨e4, v8, zs4, rfl, hfl3, hE3⟩
    walk_at "go"
    have e23 : Same H2 H3 := fun b u hb => e4 b u (by rw [upd_ne (ne_of_none hb hs02)]; exact hb)
    rw [List.take_of_length_le (by simp)] at hE3
    have hfl2 : H fl = none := none_of e02 hfl
    refine k _ (.ref fl) H3 (Same.trans e02 e23) (shared_red R' (size := size)) ?_ (fun x hx => ?_) (fun f => ?_) ⟨fl, zs4, rfl, by rw [New.at_ hfl2]; exact hfl3, hE3.mono (Same.trans (New.mono hide_le) (New.anti e02))⟩
    · unfold upH
      rw [List.map_map]
      have hpw : ((yl.map fun k => (k, rowOf hs k)).map (·.1)).Pairwise (· < ·) := by
        rw [List.map_map]
        have e8 : (fun x : Hd p => x.1) ∘ (fun k => (k, rowOf hs k)) = id := rfl
        rw [e8, List.map_id]
        refine List.Pairwise.imp_of_mem (R := fun a b => a ≤ b ∧ a ≠ b) (fun {a b} _ _ h => by omega) (List.Pairwise.and ?_ (hyp.nodup_iff.mpr R.nd))
        exact (List.pairwise_map.mp hsrt).imp fun h => by omega
      refine List.pairwise_map.mpr (List.Pairwise.imp_of_mem (R := fun a b => a.1 < b.1) (fun {a b} ha hb h => ?_) ((List.pairwise_map.mp hpw).sublist List.filter_sublist))
      have h1 := of_decide_eq_true (List.mem_filter.mp ha).2
      have h2 := of_decide_eq_true (List.mem_filter.mp hb).2
      show a.1 - size < b.1 - size
      omega
    · unfold upH at hx
      obtain ⟨e, he, rfl⟩ := List.mem_map.mp hx
      have := bh e ((hmem e).mp (List.mem_filter.mp he).1)
      intro j hj
      exact this _ (by omega)
    · exact shared_span b1 b2 R' (fun f => (spanH_congr hmem f).trans (sp f)) f
end
section
variable {P : Program} {w : World} {K : PySem.W.Frag} {mg : Str → Option Value} {base : Heap} {d : Ad} {p : Nat} [Pr p]
/-! ### next_common, commons_to -/
abbrev s_next_common : Stmt := top 49
theorem sc_next_common : FnScope ["book", "size", "below", "ahead", "behind", "letter", "row", "k"] ["book", "size", "below"] (defScope s_next_common) := ⟨rfl, rfl, rfl, by decide +kernel, rfl, by decide +kernel, by decide +kernel⟩
def spNextC (p : Nat) [Pr p] (d : Ad) : Sp := fun vs H Q _ => ∃ (y z : V) (B : Bk p) (m : Nat) (rs : List (Vec p)), vs = [y, .int m, z] ∧ BookV d B y H ∧ LstOf RowV rs z H ∧ (∀ f ∈ rs, Bd f m) ∧ 1 ≤ m ∧ m * B.L ≤ 1000 ∧ rs.length ≤ m ∧
  ∀ cs y' H', Same H H' → Red cs → (cs.map (·.1)).Pairwise (· < ·) → (∀ e ∈ cs, Bd e.2 (m * B.L)) → (∀ f, SpanH cs f ↔ SpanL (ahL m B.L rs) f ∧ SpanL (beL B.L m B.L rs) f) → LstOf RowV (cs.map (·.2)) y' (New H H') → Q y' H'
theorem ok_next_common (T : Tx K mg d) (D : Df K mg "next_common" s_next_common) (c_shared_rows : Cal P w K mg base 4 "shared_rows" (U fun p _ => spShared p) []) : Cal P w K mg base 5 "next_common" (U fun p _ => spNextC p d) [] := by
  have nd := sc_next_common.nd
  refine mkCalU D sc_next_common (fun p hp vs H Q E h => ?_) (fun _ _ _ _ _ _ us hl => match us, hl with | [_, _, _], _ => rfl) (fun p hp f0 cdv A outer s H vs Q E hr h => ?_)
  · obtain ⟨y, z, B, m, rs, rfl, _⟩ := h
    rfl
  obtain ⟨y, z, B, m, rs, rfl, hy, hz, hb, hm1, hmL, hrl, k⟩ := h
  obtain ⟨a, dx, t, rfl, ha, ht⟩ := id hy
  have hu := hu_of hr
  have h1 := B.lo
  have h9 := B.hi
  have hm : m ≤ 1000 := Nat.le_trans (Nat.le_mul_of_pos_right m h1) hmL
  have hrL : B.L * rs.length ≤ 1000 := by
    have := Nat.mul_le_mul_left B.L hrl
    rw [Nat.mul_comm B.L m] at this
    omega
  refine ⟨_, (pss_cons (ps_par (i := 3) (j := 4) rfl nd rfl rfl (by decide) rfl rfl (pa_cons (pe_lst pa_nil) (pa_cons (pe_lst pa_nil) pa_nil)) (by rfl))
    (pss_cons (ps_for PassesOwn.never rfl (pi_range1 rfl T.range (pa_cons (pe_fldK (K := K) (pv 0) rfl) pa_nil)) (pg_name (i := 5) nd rfl (Or.inr rfl)) 
      (pss_one (ps_for PassesOwn.never rfl (pi_listK (K := K) (pv 2)) (pg_name (i := 6) nd rfl (Or.inr rfl)) 
        (pss_cons (ps_expr (pe_bm PySem.F.plainAttrs_list PySem.F.slot_list_append PySem.F.type_list_append mt_append (pv 3) (pa_cons (pe_callTy (cr_dictP rfl) (by rfl) T.dict_ (by decide +kernel) (pa_cons (pe_lock (pe_lc (own := [("k", 7)]) (g := gName 7) (tt := tYes) rfl nd (pi_keys (pv 6)) (blkOk_by (by kernel_rfl)) (fun _ _ _ _ _ => (pg_name (i := 7) nd rfl (Or.inl rfl))) (fun _ _ _ _ _ => pts_nil) (fun _ _ _ _ _ => (pe_tup (pa_cons (pe_op op_add (pe_op op_mul (pv 5) (pv 1)) (pv 7)) (pa_cons (pe_dget hu (pv 6) (pv 7) (fun _ _ => rfl)) pa_nil)))))) pa_nil)) pa_nil)))
        (pss_one (ps_expr (pe_bm PySem.F.plainAttrs_list PySem.F.slot_list_append PySem.F.type_list_append mt_append (pv 4) (pa_cons (pe_callTy (cr_dictP rfl) (by rfl) T.dict_ (by decide +kernel) (pa_cons (pe_lock (pe_lc (own := [("k", 7)]) (g := gName 7) (tt := tYes) rfl nd (pi_keys (pv 6)) (blkOk_by (by kernel_rfl)) (fun _ _ _ _ _ => (pg_name (i := 7) nd rfl (Or.inl rfl))) (fun _ _ _ _ _ => pts_nil) (fun _ _ _ _ _ => (pe_tup (pa_cons (pe_op op_add (pe_op op_mul (pv 7) (pe_fldK (K := K) (pv 0) rfl)) (pv 5)) (pa_cons (pe_dget hu (pv 6) (pv 7) (fun _ _ => rfl)) pa_nil)))))) pa_nil)) pa_nil))))))))
    (pss_one (ps_ret (pe_c c_shared_rows hr (by decide) rfl (pa_cons (pe_fldK (K := K) (pv 0) rfl) (pa_cons (pe_op op_mul (pv 1) (pe_fldK (K := K) (pv 0) rfl)) (pa_cons (pv 3) (pa_cons (pv 4) pa_nil))))))))), ?_⟩
  walk_at "st"
  walk_at "go"
  refine ⟨by show 0 ≤ sizeLine; omega, fun al hal => ?_⟩
  walk_at "go"
  refine ⟨by show 0 ≤ sizeLine; omega, fun bl hbl => ?_⟩
  walk_at "go"
  have e0 : Same H (upd (upd H al (.lst [])) bl (.lst [])) := Same.trans (Same.new hal) (Same.new hbl)
  have hab : bl ≠ al := ne_new hbl (by rw [upd_same]; simp)
  have hblH : H bl = none := none_of (Same.new hal) hbl
  refine r_for (r_rng B.L (by omega) (fun QA q => ?_) fun J wk => ?_)
  · walk_at "go"
    refine ⟨a, d.C, dx, _, _, rfl, e0 a _ ha, T.clR, T.nL, rfl, ?_⟩
    walk_at "go"
    exact q
  refine for_it wk (fun i σ H' => Same H H' ∧ ∃ (v5 v6 : Option V) (zs ws : List V), σ = [some (.ref a), some (.int m), some z, some (.ref al), some (.ref bl), v5, v6, none] ∧ H' al = some (.lst zs) ∧ H' bl = some (.lst ws) ∧
    Each RowV (ahL m i rs) zs (hide bl (hide al H')) ∧ Each RowV (beL B.L m i rs) ws (hide bl (hide al H'))) ?_ (fun _ _ _ _ _ => trivial) ?_ ?_
  · exact ⟨e0, _, _, [], [], rfl, by rw [upd_ne hab.symm, upd_same], upd_same, Each.nil, Each.nil⟩
  · rintro c x σ Hx H1 hc ⟨e1, v5, v6, zs, ws, rfl, hal1, hbl1, hE, hF⟩ ⟨rfl, rfl⟩
    walk_at "go"
    refine r_for (r_itL hz e1 (fun Q q => by walk_at "go"; exact q) fun J2 ys hys wk2 => ?_)
    refine for_it wk2 (fun i σ H' => Same H H' ∧ ∃ (v6 : Option V) (zs ws : List V), σ = [some (.ref a), some (.int m), some z, some (.ref al), some (.ref bl), some (.int (c : Nat)), v6, none] ∧ H' al = some (.lst zs) ∧ H' bl = some (.lst ws) ∧
      Each RowV (ahL m c rs ++ ahA m c (rs.take i)) zs (hide bl (hide al H')) ∧ Each RowV (beL B.L m c rs ++ beA B.L m c (rs.take i)) ws (hide bl (hide al H'))) ?_ ?_ ?_ ?_
    · refine ⟨e1, _, zs, ws, rfl, hal1, hbl1, ?_, ?_⟩
      · have : ahA m c (rs.take 0) = [] := rfl
        rw [this, List.append_nil]
        exact hE
      · have : beA B.L m c (rs.take 0) = [] := rfl
        rw [this, List.append_nil]
        exact hF
    · rintro i σ H' hi ⟨e, _⟩
      exact e
    · rintro i x σ Hx H2 hi ⟨e2, v6, zs, ws, rfl, hal2, hbl2, hE2, hF2⟩ ⟨rfl, hx⟩
      obtain ⟨f, hf, b, rfl, rb⟩ := hys.yet hx
      have bf := hb f (List.mem_of_getElem? hf)
      have htk : rs.take (i + 1) = rs.take i ++ [f] := by rw [List.take_succ, hf]; rfl
      have h1c := Nat.mul_le_mul_right rs.length (show c + 1 ≤ B.L from hc)
      rw [Nat.add_mul, Nat.one_mul] at h1c
      walk_at "go"
      refine ⟨.inl ⟨rfl, _, SqL.of hal2⟩, ?_⟩
      walk_at "go"
      refine r_dictMv (rb.same e2) bf (by omega) (fun k => c * m + k) (fun k k' _ _ e => by omega) (fun H' Q _ q => by walk_at "go"; exact q) (fun _ => rfl) (fun k H' Q hk hkn rd sh q => ?_) (fun k H' Q hk rd ra q => ?_) fun q H3 e3 hq rq => ?_
      · walk_at "lc"
        walk_at "go"
        rw [show ((c : Nat) : Int) * (m : Int) + (k : Int) = ((c * m + k : Nat) : Int) by push_cast; rfl]
        exact q
      · walk_at "lc"
        walk_at "go"
        exact ⟨_, _, rfl, DGet.row ra hk, q⟩
      walk_at "go"
      have hqa : q ≠ al := ne_new hq (by rw [hal2]; simp)
      have hqb : q ≠ bl := ne_new hq (by rw [hbl2]; simp)
      have h2 := hE2.len
      have h3 := hF2.len
      have hla : (ahL m c rs ++ ahA m c (rs.take i)).length ≤ 1000 := by
        rw [List.length_append, ahL_len]
        unfold ahA
        rw [List.length_map, List.length_take]
        omega
      have hlb : (beL B.L m c rs ++ beA B.L m c (rs.take i)).length ≤ 1000 := by
        rw [List.length_append, beL_len]
        unfold beA
        rw [List.length_map, List.length_take]
        omega
      refine ⟨al, zs, _, rfl, rfl, e3 al _ hal2, sl _ (by omega), ?_⟩
      walk_at "go"
      have hbl3 : (upd H3 al (.lst (zs ++ [.ref q]))) bl = some (.lst ws) := by rw [upd_ne hab]; exact e3 bl _ hbl2
      refine ⟨.inl ⟨rfl, _, SqL.of hbl3⟩, ?_⟩
      walk_at "go"
      have hba : b ≠ al := fun z => by
        obtain ⟨kv, h1, _⟩ := rb
        rw [z, hal] at h1
        cases h1
      have e4 : Same H (upd H3 al (.lst (zs ++ [.ref q]))) := Same.mut (Same.trans e2 e3) hal
      refine r_dictMv (rb.same e4) bf (by omega) (fun k => k * B.L + c) (fun k k' _ _ e => (cell_inj hc hc e).1) (fun H' Q _ q => by walk_at "go"; exact q) (fun _ => rfl) (fun k H' Q hk hkn rd sh q => ?_) (fun k H' Q hk rd ra q => ?_) fun q2 H5 e5 hq2 rq2 => ?_
      · walk_at "lc"
        walk_at "go"
        have hab2 : a ≠ b := fun z => by
          obtain ⟨kv, h1, _⟩ := rb
          rw [← z, ha] at h1
          cases h1
        refine ⟨a, d.C, dx, _, _, rfl, sh a _ (by rw [hide_ne hab2]; exact e4 a _ ha), T.clR, T.nL, rfl, ?_⟩
        walk_at "go"
        rw [show ((k : Nat) : Int) * (B.L : Int) + (c : Int) = ((k * B.L + c : Nat) : Int) by push_cast; rfl]
        exact q
      · walk_at "lc"
        walk_at "go"
        exact ⟨_, _, rfl, DGet.row ra hk, q⟩
      walk_at "go"
      have hq2b : q2 ≠ bl := ne_new hq2 (by rw [hbl3]; simp)
      have hq2a : q2 ≠ al := ne_new hq2 (by rw [upd_same]; simp)
      refine ⟨bl, ws, _, rfl, rfl, e5 bl _ hbl3, sl _ (by omega), ?_⟩
      have hal5 := e5 al _ upd_same
      have ehh : Same (hide bl (hide al H2)) (hide bl (hide al (upd H5 bl (.lst (ws ++ [.ref q2]))))) := fun u o hu => by
        by_cases z1 : u = bl
        · rw [z1] at hu; simp [hide] at hu
        · by_cases z2 : u = al
          · rw [z2, hide_ne hab.symm] at hu; simp [hide] at hu
          · rw [hide_ne z1, hide_ne z2] at hu ⊢
            rw [upd_ne z1]
            refine e5 u o ?_
            rw [upd_ne z2]
            exact e3 u o hu
      have rqa : RowV (mvv m (fun k => c * m + k) f) (.ref q) (hide bl (hide al (upd H5 bl (.lst (ws ++ [.ref q2]))))) := by
        obtain ⟨kv, h1, h2⟩ := rq
        refine ⟨q, rfl, kv, ?_, h2⟩
        rw [hide_ne hqb, hide_ne hqa, upd_ne hqb]
        refine e5 q _ ?_
        rw [upd_ne hqa]
        exact h1
      have rqb : RowV (mvv m (fun k => k * B.L + c) f) (.ref q2) (hide bl (hide al (upd H5 bl (.lst (ws ++ [.ref q2]))))) := by
        obtain ⟨kv, h1, h2⟩ := rq2
        refine ⟨q2, rfl, kv, ?_, h2⟩
        rw [hide_ne hq2b, hide_ne hq2a, upd_ne hq2b]
        exact h1
      refine ⟨Same.mut (Same.trans e4 e5) hblH, _, _, _, rfl, by rw [upd_ne hab.symm]; exact hal5, upd_same, ?_, ?_⟩
      · have : ahA m c (rs.take (i + 1)) = ahA m c (rs.take i) ++ [mvv m (fun k => c * m + k) f] := by unfold ahA; rw [htk, List.map_append]; rfl
        rw [this, ← List.append_assoc]
        exact (hE2.mono ehh).snoc rqa
      · have : beA B.L m c (rs.take (i + 1)) = beA B.L m c (rs.take i) ++ [mvv m (fun k => k * B.L + c) f] := by unfold beA; rw [htk, List.map_append]; rfl
        rw [this, ← List.append_assoc]
        exact (hF2.mono ehh).snoc rqb
    · rintro σ H2 ⟨e2, v6, zs, ws, rfl, hal2, hbl2, hE2, hF2⟩
      rw [List.take_of_length_le (Nat.le_refl _)] at hE2 hF2
      refine ⟨e2, _, _, zs, ws, rfl, hal2, hbl2, ?_, ?_⟩
      · have : ahL m (c + 1) rs = ahL m c rs ++ ahA m c rs := by unfold ahL; rw [fm_snoc]
        rw [this]
        exact hE2
      · have : beL B.L m (c + 1) rs = beL B.L m c rs ++ beA B.L m c rs := by unfold beL; rw [fm_snoc]
        rw [this]
        exact hF2
  · rintro σ H1 ⟨e1, v5, v6, zs, ws, rfl, hal1, hbl1, hE, hF⟩
    walk_at "go"
    refine ⟨a, d.C, dx, _, _, rfl, e1 a _ ha, T.clR, T.nP, rfl, ?_⟩
    walk_at "go"
    refine ⟨a, d.C, dx, _, _, rfl, e1 a _ ha, T.clR, T.nL, rfl, ?_⟩
    walk_at "go"
    rw [show ((m : Nat) : Int) * (B.L : Int) = ((m * B.L : Nat) : Int) from (Int.natCast_mul _ _).symm]
    have hh2 : Same (hide bl (hide al H1)) H1 := Same.trans hide_le hide_le
    refine ⟨m * B.L, .ref al, .ref bl, _, _, rfl, ⟨al, zs, rfl, hal1, hE.mono hh2⟩, ⟨bl, ws, rfl, hbl1, hF.mono hh2⟩, ahL_bd, beL_bd, hmL, ?_, fun cs y' H' e' R srt bd sp hL => k cs y' H' (Same.trans e1 e') R srt bd sp (Mon.mono (New.anti e1) hL)⟩
    rw [ahL_len, beL_len]
    omega
abbrev s_commons_to : Stmt := top 50
theorem sc_commons_to : FnScope ["book", "most", "found", "length", "letter", "row"] ["book", "most"] (defScope s_commons_to) := ⟨rfl, rfl, rfl, by decide +kernel, rfl, by decide +kernel, by decide +kernel⟩
theorem unit_sp (a : Nat) : SpK [((Sum.inl (a : Int) : Key), V.int 1)] (unit a : Vec p) := by
  refine ⟨[a], by simp, ?_, fun k => ?_⟩
  · show _ = [ent _ a]
    unfold ent unit
    rw [if_pos rfl, one1]
  · rw [List.mem_singleton]
    unfold unit
    by_cases q : k = a
    · rw [if_pos q]
      exact ⟨fun _ => one_ne, fun _ => q⟩
    · rw [if_neg q]
      exact ⟨fun h => absurd h q, fun h => absurd rfl h⟩
def spCommons (p : Nat) [Pr p] (d : Ad) : Sp := fun vs H Q _ => ∃ (y : V) (B : Bk p) (m : Nat), vs = [y, .int m] ∧ BookV d B y H ∧ m ≤ 6 ∧ B.L ^ m ≤ 1000 ∧
  ∀ cs y' H', Same H H' → Com B cs → cs.length = max 3 (m + 1) → LstOf (LstOf RowV) (rws cs) y' (New H H') → Q y' H'
theorem com_last {B : Bk p} {cs : List (List (Hd p))} (C : Com B cs) {s : Nat} {c : List (Hd p)} (h : cs[s + 2]? = some c) : Red c ∧ ∀ e ∈ c, Bd e.2 (B.L ^ (s + 2)) := by
  cases s with
  | zero =>
    rw [C.c2] at h
    cases h
    refine ⟨B.red, ?_⟩
    rw [show B.L ^ (0 + 2) = B.L * B.L from Nat.pow_two _]
    exact B.bd
  | succ s =>
    obtain ⟨b, _, h1, _, h2, _⟩ := C.step s c h
    exact ⟨h1, h2⟩
theorem r_rng2I {ta : TA} {σ : L2.St} {H : Hp} {W : It → Hp → Prop} (lo : Nat) (j : Int) (n : Nat) (hn : (j - (lo : Int)).toNat = n) (h1 : -1000 ≤ j) (h2 : j ≤ 100000) (h3 : lo ≤ 1000) (ht : ∀ QA : List V → Hp → Prop, QA [.int (lo : Int), .int j] H → ta σ H QA)
    (hR : ∀ J, Walk J n (fun _ => True) (fun i H x H' => H' = H ∧ x = .int ((lo + i : Nat) : Int)) → W J H) : iRng2 ta σ H W := by
  refine ht _ ⟨_, _, rfl, ⟨by omega, by omega, by omega, by omega⟩, ?_⟩
  rw [hn]
  refine hR _ (walk_range.mono (fun _ h => h) fun i H x H' _ _ y => ⟨y.1, ?_⟩)
  rw [y.2]
  rfl
theorem at_last {zs : List V} {n : Nat} {v : V} (hl : zs.length = n + 1) (h : zs[n]? = some v) : atI zs (-1) = some v := by
  unfold atI ixN
  rw [if_neg (by omega), if_pos (by omega)]
  have : ((-1 : Int) + (zs.length : Nat)).toNat = n := by omega
  show zs[((-1 : Int) + (zs.length : Nat)).toNat]? = some v
  rw [this]
  exact h
theorem com_init (B : Bk p) : Com B [[(0, unit 0)], c1s B, B.hs] := ⟨rfl, rfl, rfl, fun s c h => by simp at h⟩
theorem com_snoc {B : Bk p} {cs : List (List (Hd p))} (C : Com B cs) {i : Nat} (hl : cs.length = i + 3) {b c : List (Hd p)} (hb : cs[i + 2]? = some b) (R : Red c) (srt : (c.map (·.1)).Pairwise (· < ·)) (bd : ∀ e ∈ c, Bd e.2 (B.L ^ (i + 3)))
    (sp : ∀ f, SpanH c f ↔ SpanL (ahL (B.L ^ (i + 2)) B.L (b.map (·.2))) f ∧ SpanL (beL B.L (B.L ^ (i + 2)) B.L (b.map (·.2))) f) : Com B (cs ++ [c]) := by
  have up : ∀ {j : Nat} {x : List (Hd p)}, cs[j]? = some x → (cs ++ [c])[j]? = some x := fun {j x} h => by rw [List.getElem?_append_left (List.getElem?_eq_some_iff.mp h).1]; exact h
  refine ⟨up C.c0, up C.c1, up C.c2, fun s x h => ?_⟩
  by_cases q : s + 3 < cs.length
  · rw [List.getElem?_append_left q] at h
    obtain ⟨b', h1, h2⟩ := C.step s x h
    exact ⟨b', up h1, h2⟩
  · rw [List.getElem?_append_right (by omega)] at h
    have : s + 3 - cs.length = 0 := by
      have := (List.getElem?_eq_some_iff.mp h).1
      simp at this
      omega
    rw [this] at h
    cases h
    have : s = i := by
      have := (List.getElem?_eq_some_iff.mp hb).1
      omega
    subst this
    exact ⟨b, up hb, R, srt, bd, sp⟩
theorem ok_commons_to (T : Tx K mg d) (D : Df K mg "commons_to" s_commons_to) (c_few : Cal P w K mg base 1 "few" (U fun p _ => spFew p) []) (c_many_words : Cal P w K mg base 1 "many_words" spMany []) (c_next_common : Cal P w K mg base 5 "next_common" (U fun p _ => spNextC p d) []) : Cal P w K mg base 6 "commons_to" (U fun p _ => spCommons p d) [] := by
  have nd := sc_commons_to.nd
  refine mkCalU D sc_commons_to (fun p hp vs H Q E h => ?_) (fun _ _ _ _ _ _ us hl => match us, hl with | [_, _], _ => rfl) (fun p hp f0 cdv A outer s H vs Q E hr h => ?_)
  · obtain ⟨y, B, m, rfl, _⟩ := h
    rfl
  obtain ⟨y, B, m, rfl, hy, hm6, hb, k⟩ := h
  obtain ⟨a, dx, t, rfl, ha, ht⟩ := id hy
  have hu := hu_of hr
  have h1 := B.lo
  have h9 := B.hi
  have hL2 : B.L * B.L ≤ 81 := Nat.mul_le_mul h9 h9
  have hrl : B.rows.length ≤ 81 := by
    have := B.len
    unfold Bk.rows
    rw [List.length_map]
    omega
  refine ⟨_, (pss_cons (ps_set (i := 2) nd rfl (Or.inl rfl) (pe_lst (pa_cons (pe_lst (pa_cons (pe_disp (pps_cons pe_int pe_int pps_nil) rfl rfl (by simp) (by decide)) pa_nil)) (pa_cons (pe_lc (own := [("letter", 4)]) (g := gName 4) (tt := tYes) rfl nd (pi_range1 rfl T.range (pa_cons (pe_fldK (K := K) (pv 0) rfl) pa_nil)) (blkOk_by (by kernel_rfl)) (fun _ _ _ _ _ => (pg_name (i := 4) nd rfl (Or.inl rfl))) (fun _ _ _ _ _ => pts_nil) (fun _ _ _ _ _ => (pe_disp (pps_cons (pv 4) pe_int pps_nil) rfl rfl (by simp) (by decide)))) (pa_cons (pe_lc (own := [("row", 5)]) (g := gName 5) (tt := tYes) rfl nd (pi_tupK (K := K) (pe_fldK (K := K) (pv 0) rfl)) (blkOk_by (by kernel_rfl)) (fun _ _ _ _ _ => (pg_name (i := 5) nd rfl (Or.inl rfl))) (fun _ _ _ _ _ => pts_nil) (fun _ _ _ _ _ => (pe_c c_few hr (by decide) rfl (pa_cons (pe_fldK (K := K) (pv 0) rfl) (pa_cons (pv 5) pa_nil))))) pa_nil)))))
    (pss_cons (ps_for PassesOwn.never rfl (pi_range2 rfl T.range (pa_cons pe_int (pa_cons (pe_op op_add (pv 1) pe_int) pa_nil))) (pg_name (i := 3) nd rfl (Or.inl rfl)) 
      (pss_one (ps_expr (pe_bm PySem.F.plainAttrs_list PySem.F.slot_list_append PySem.F.type_list_append mt_append (pv 2) (pa_cons (pe_c c_next_common hr (by decide) rfl (pa_cons (pv 0) (pa_cons (pe_c c_many_words hr (by decide) rfl (pa_cons (pe_fldK (K := K) (pv 0) rfl) (pa_cons (pe_op op_sub (pv 3) pe_int) pa_nil))) (pa_cons (pe_ix (ix_listK (K := K)) (pv 2) (pe_un un_neg pe_int) (fun _ _ => rfl)) pa_nil)))) pa_nil)))))
    (pss_one (ps_ret (pv 2))))), ?_⟩
  walk_at "st"
  walk_at "go"
  refine r_disp1 (k := 0) (v := .int 1) (fun H' Q q => by walk_at "go"; exact q) (fun H' Q q => by walk_at "go"; exact q) fun u0 hu0 => ?_
  walk_at "go"
  refine ⟨by show 1 ≤ sizeLine; decide, fun l0 hl0 => ?_⟩
  have eA : Same H (upd H u0 (.dK [(Sum.inl 0, .int 1)])) := Same.new hu0
  have eB : Same H (upd (upd H u0 (.dK [(Sum.inl 0, .int 1)])) l0 (.lst [.ref u0])) := Same.trans eA (Same.new hl0)
  have v0 : LstOf RowV [unit (p := p) 0] (.ref l0) (New H (upd (upd H u0 (.dK [(Sum.inl 0, .int 1)])) l0 (.lst [.ref u0]))) := by
    refine ⟨l0, _, rfl, by rw [New.at_ (none_of eA hl0)]; exact upd_same, Each.one ⟨u0, rfl, _, ?_, unit_sp 0⟩⟩
    rw [New.at_ hu0, upd_ne (ne_of_none upd_same hl0)]
    exact upd_same
  generalize (upd (upd H u0 (.dK [(Sum.inl 0, .int 1)])) l0 (.lst [.ref u0])) = H1 at *
  walk_at "go"
  refine r_lc (r_rng B.L (by omega) (fun QA q => by walk_at "go"; refine ⟨a, d.C, dx, _, _, rfl, eB a _ ha, T.clR, T.nL, rfl, ?_⟩; walk_at "go"; exact q) fun J wk => ?_)
  refine lc_new wk (R := RowV) (fun _ => true) (fun i => (unit i : Vec p)) (fun _ _ => trivial) (by omega) (fun i x H2 H3 kY kN hi e z hY hN => ?_) (fun D1 H2 ys1 hD1 e1 hy1 hE1 => ?_)
  · obtain ⟨rfl, rfl⟩ := z
    walk_at "lc"
    walk_at "go"
    refine ⟨rfl, ?_⟩
    walk_at "go"
    refine r_disp1 (k := (i : Int)) (v := .int 1) (fun H' Q q => by walk_at "go"; exact q) (fun H' Q q => by walk_at "go"; exact q) fun u1 hu1 => ?_
    exact hY _ _ rfl (Same.new hu1) ⟨u1, rfl, _, by rw [New.at_ hu1]; exact upd_same, unit_sp i⟩
  have v1 : LstOf RowV ((c1s B).map (·.2)) (.ref D1) (New H H2) := by
    have := Mon.mono (New.anti eB) (lst_new hD1 hy1 hE1)
    rw [tk_all] at this
    have e5 : (c1s B).map (·.2) = (List.range B.L).map fun i => (unit i : Vec p) := by unfold c1s; rw [List.map_map]; rfl
    rw [e5]
    exact this
  have eC := Same.trans eB e1
  have v0' : LstOf RowV [unit (p := p) 0] (.ref l0) (New H H2) := Mon.mono (New.mono e1) v0
  walk_at "go"
  refine r_lc (r_itT ht eC (fun Q q => by walk_at "go"; exact ⟨a, d.C, dx, _, _, rfl, eC a _ ha, T.clR, T.nR, rfl, q⟩) fun J2 ys2 hys2 wk2 => ?_)
  refine lc_new (wk2.mono (fun H' (e : Same H2 H') => Same.trans eC e) fun _ _ _ _ _ _ h => h) (R := RowV) (fun _ => true) (fun i => vecI (p := p) (B.rows.getD i [])) (fun _ h => h) (by omega) (fun i x H3 H4 kY kN hi e z hY hN => ?_) (fun D2 H3 ys3 hD2 e2 hy2 hE2 => ?_)
  · obtain ⟨rfl, hx⟩ := z
    obtain ⟨ns, hn2, hx2⟩ := hys2.yet hx
    have hv2 := B.rows_len ns (List.mem_of_getElem? hn2)
    walk_at "lc"
    walk_at "go"
    refine ⟨rfl, ?_⟩
    walk_at "go"
    refine ⟨a, d.C, dx, _, _, rfl, Same.trans eC e a _ ha, T.clR, T.nP, rfl, ?_⟩
    walk_at "go"
    refine ⟨x, ns, rfl, .inr (Mon.mono (Same.trans eC e) hx2), by omega, fun y3 H5 e5 r5 => hY _ _ rfl e5 ?_⟩
    rw [getD_some hn2]
    exact r5
  have v2 : LstOf RowV (B.hs.map (·.2)) (.ref D2) (New H H3) := by
    have := Mon.mono (New.anti eC) (lst_new hD2 hy2 hE2)
    rw [tk_all] at this
    have e5 : (List.range B.rows.length).map (fun i => vecI (p := p) (B.rows.getD i [])) = B.hs.map (·.2) := by
      have := congrArg (List.map (vecI (p := p))) (map_range_get B.rows [])
      rw [List.map_map, B.vec] at this
      exact this
    rw [e5] at this
    exact this
  have eD := Same.trans eC e2
  walk_at "go"
  refine ⟨by show 3 ≤ sizeLine; decide, fun fl hfl => ?_⟩
  have hfl0 := none_of eD hfl
  walk_at "go"
  have eE := Same.trans eD (Same.new (o := .lst [.ref l0, .ref D1, .ref D2]) hfl)
  refine r_for (r_rng2I 3 ((m : Int) + 1) (m - 2) (by omega) (by omega) (by omega) (by omega) (fun QA q => by walk_at "go"; exact q) fun J3 wk3 => ?_)
  refine for_it wk3 (fun i σ H' => Same H H' ∧ ∃ (v3 : Option V) (cs : List (List (Hd p))) (zs : List V), σ = [some (.ref a), some (.int m), some (.ref fl), v3, none, none] ∧ H' fl = some (.lst zs) ∧ Com B cs ∧ cs.length = i + 3 ∧ Each (LstOf RowV) (rws cs) zs (New H (hide fl H'))) ?_ (fun _ _ _ _ _ => trivial) ?_ ?_
  · refine ⟨eE, _, _, _, rfl, upd_same, com_init B, rfl, ?_⟩
    have e6 : Same H3 (hide fl (upd H3 fl (.lst [.ref l0, .ref D1, .ref D2]))) := hide_base hfl (Same.new hfl)
    have v0'' := Mon.mono (New.mono e2) v0'
    have v1'' := Mon.mono (New.mono e2) v1
    exact ((((Each.one v0'').snoc v1'').snoc v2).mono (New.mono e6))
  · rintro i x σ Hx H4 hi ⟨e4, v3, cs, zs, rfl, hfl4, C, hcl, hE⟩ ⟨rfl, rfl⟩
    have hzl : zs.length = (i + 2) + 1 := by
      rw [hE.len]
      unfold rws
      rw [List.length_map]
      omega
    have hci : i + 2 < cs.length := by omega
    have hcb := List.getElem?_eq_getElem hci
    obtain ⟨Rb, bb⟩ := com_last C hcb
    have hwi : (rws cs)[i + 2]? = some (cs[i + 2].map (·.2)) := by unfold rws; rw [List.getElem?_map, hcb]; rfl
    obtain ⟨v, hv, rv⟩ := hE.get hwi
    generalize cs[i + 2] = cb at *
    have hp1 : B.L ^ (i + 2) ≤ 1000 := Nat.le_trans (Nat.pow_le_pow_right h1 (by omega)) hb
    have hp2 : B.L ^ (i + 3) ≤ 1000 := Nat.le_trans (Nat.pow_le_pow_right h1 (by omega)) hb
    have hp0 : 1 ≤ B.L ^ (i + 2) := Nat.one_le_pow _ _ h1
    walk_at "go"
    refine ⟨.inl ⟨rfl, _, SqL.of hfl4⟩, ?_⟩
    walk_at "go"
    refine ⟨a, d.C, dx, _, _, rfl, e4 a _ ha, T.clR, T.nL, rfl, ?_⟩
    walk_at "go"
    refine ⟨B.L, i + 2, by rw [show ((3 + i : Nat) : Int) - 1 = ((i + 2 : Nat) : Int) by omega]; rfl, h1, by omega, hp1, ?_⟩
    walk_at "go"
    refine ⟨fl, zs, -1, v, rfl, rfl, SqL.of hfl4, at_last hzl hv, ?_⟩
    walk_at "go"
    refine ⟨_, v, B, B.L ^ (i + 2), cb.map (·.2), rfl, Mon.mono e4 hy, Mon.mono (Same.trans New.le hide_le) rv, fun f hf => ?_, hp0, by rw [← Nat.pow_succ]; exact hp2, ?_, fun c y' H5 e5 R srt bd sp hL => ?_⟩
    · obtain ⟨e, he, rfl⟩ := List.mem_map.mp hf
      exact bb e he
    · rw [List.length_map]
      exact Rb.len bb
    walk_at "go"
    refine ⟨fl, zs, y', rfl, rfl, e5 fl _ hfl4, sl _ (by omega), ?_⟩
    refine ⟨Same.mut (Same.trans e4 e5) hfl0, _, cs ++ [c], _, rfl, upd_same, com_snoc C hcl hcb R srt bd sp, by rw [List.length_append, hcl]; rfl, ?_⟩
    have e7 : rws (cs ++ [c]) = rws cs ++ [c.map (·.2)] := by unfold rws; rw [List.map_append]; rfl
    rw [hide_upd, e7]
    exact (hE.mono (New.mono (hide_same e5))).snoc (Mon.mono (New.both e4 (by rw [hfl4]; simp)) hL)
  · rintro σ H4 ⟨e4, v3, cs, zs, rfl, hfl4, C, hcl, hE⟩
    walk_at "go"
    exact k cs _ H4 e4 C (by omega) ⟨fl, zs, rfl, by rw [New.at_ hfl0]; exact hfl4, hE.mono (New.mono hide_le)⟩
end
section
variable {P : Program} {w : World} {K : PySem.W.Frag} {mg : Str → Option Value} {base : Heap} {d : Ad} {p : Nat} [Pr p]
/-! ### Rungs -/
def plK (l : List Nat) : List (Key × V) := (List.range l.length).map fun i => (Sum.inl ((l.getD i 0 : Nat) : Int), V.int (i : Nat))
def PlV (l : List Nat) (y : V) (H : Hp) : Prop := ∃ b, y = .ref b ∧ H b = some (.dK (plK l))
instance : Mon PlV := ⟨fun e ⟨b, h1, h2⟩ => ⟨b, h1, e b _ h2⟩⟩
/-- .. a dict that is none of those of Hh -/
def PlW (Hh : Hp) (l : List Nat) (y : V) (H : Hp) : Prop := ∃ b, y = .ref b ∧ H b = some (.dK (plK l)) ∧ Hh b = none
instance (Hh : Hp) : Mon (PlW Hh) := ⟨fun e ⟨b, h1, h2, h3⟩ => ⟨b, h1, e b _ h2, h3⟩⟩
def RungV (d : Ad) (B : Bk p) (m : Nat) (Ih : Nat → List (Hd p)) (cs : List (List (Hd p))) (y : V) (H : Hp) : Prop := ∃ a dx l1 l2 l3 l4 Hh, y = .ref a ∧ Same Hh H ∧
  H a = some (.ins d.R dx [("prime", .int p), ("letters", .int (B.L : Nat)), ("many", .ref l1), ("heads", .ref l2), ("places", .ref l3), ("commons", .ref l4)]) ∧
  LstOf IntV ((List.range (m + 1)).map fun n => ((B.L ^ n : Nat) : Int)) (.ref l1) H ∧ LstOf HeadsV ((List.range (m + 1)).map Ih) (.ref l2) Hh ∧
  LstOf (PlW Hh) ((List.range (m + 1)).map fun n => pls (Ih n) (B.L ^ n)) (.ref l3) H ∧ LstOf (LstOf RowV) (rws cs) (.ref l4) H
def IhV (B : Bk p) (n : Nat) (y : V) (H : Hp) : Prop := ∃ hs, IhOk B n hs ∧ HeadsV hs y H
instance (B : Bk p) : Mon (IhV B) := ⟨fun e ⟨hs, h1, h2⟩ => ⟨hs, h1, Mon.mono e h2⟩⟩
theorem ih_choose {B : Bk p} {m : Nat} {ys : List V} {H : Hp} (h : Each (IhV B) (List.range (m + 1)) ys H) : ∃ Ih : Nat → List (Hd p), (∀ n, n ≤ m → IhOk B n (Ih n)) ∧ Each HeadsV ((List.range (m + 1)).map Ih) ys H := by
  have key : ∀ n, ∃ hs : List (Hd p), n ≤ m → IhOk B n hs ∧ ∀ y, ys[n]? = some y → HeadsV hs y H := fun n => by
    by_cases q : n ≤ m
    · obtain ⟨y, hy, hs, h1, h2⟩ := h.get (i := n) (f := n) (List.getElem?_range (by omega))
      exact ⟨hs, fun _ => ⟨h1, fun y' hy' => by rw [hy] at hy'; cases hy'; exact h2⟩⟩
    · exact ⟨[], fun h => absurd h q⟩
  refine ⟨fun n => Classical.choose (key n), fun n hn => (Classical.choose_spec (key n) hn).1, by rw [h.len, List.length_map], fun i f y h1 h2 => ?_⟩
  have hi : i < m + 1 := by
    have := (List.getElem?_eq_some_iff.mp h1).1
    simpa using this
  rw [List.getElem?_map, List.getElem?_range hi] at h1
  cases h1
  exact (Classical.choose_spec (key i) (by omega)).2 y h2
abbrev s_Rungs___init__ : Stmt := inClass (top 51) 0
theorem sc_Rungs___init__ : FnScope ["self", "book", "most", "many", "heads", "spots", "length", "spot", "k"] ["self", "book", "most"] (defScope s_Rungs___init__) := ⟨rfl, rfl, rfl, by decide +kernel, rfl, by decide +kernel, by decide +kernel⟩
def spRInit (p : Nat) [Pr p] (d : Ad) : Sp := fun vs H Q _ => ∃ (a dx : Addr) (y : V) (B : Bk p) (m : Nat), vs = [.ref a, y, .int m] ∧ H a = some (.ins d.R dx []) ∧ BookV d B y (hide a H) ∧ m ≤ 6 ∧ B.L ^ m ≤ 1000 ∧
  ∀ Ih cs H', (∀ n, n ≤ m → IhOk B n (Ih n)) → Com B cs → cs.length = max 3 (m + 1) → Same (hide a H) H' → RungV d B m Ih cs (.ref a) H' → Q .non H'
theorem ok_Rungs___init__ {Pf : Addr → Prop} (T : Tx K mg d) (D : DfM K "__init__" "Rungs.__init__" s_Rungs___init__ Pf) (c_many_words : Cal P w K mg base 1 "many_words" spMany []) (c_nothing_heads : Cal P w K mg base 4 "nothing_heads" (U fun p _ => spNoth p d) []) (c_commons_to : Cal P w K mg base 6 "commons_to" (U fun p _ => spCommons p d) []) : FnB P w K mg base 7 Pf (U fun p _ => spRInit p d) := by
  have nd := sc_Rungs___init__.nd
  refine mkFnU D sc_Rungs___init__ (fun p hp vs H Q E h => ?_) (fun _ _ _ _ _ _ us hl => match us, hl with | [_, _, _], _ => rfl) (fun p hp f0 cdv A outer s H vs Q E hr h => ?_)
  · obtain ⟨a, dx, y, B, m, rfl, _⟩ := h
    rfl
  obtain ⟨a, dx, y, B, m, rfl, ha, hy, hm6, hb, k⟩ := h
  obtain ⟨bk, bdx, bt, rfl, hbk, hbt⟩ := id hy
  have hu := hu_of hr
  have h1 := B.lo
  have h9 := B.hi
  have hpow : ∀ i, i ≤ m → B.L ^ i ≤ 1000 := fun i hi => Nat.le_trans (Nat.pow_le_pow_right h1 hi) hb
  have nf : ∀ f ∈ (["prime", "letters", "many", "heads", "places", "commons"] : List Str), NoAttr K d.R f := T.nU
  have hbka : bk ≠ a := fun z => by rw [z] at hbk; simp [hide] at hbk
  refine ⟨_, (pss_cons (ps_fld (pv 0) (pe_fldK (K := K) (pv 1) rfl) rfl)
    (pss_cons (ps_fld (pv 0) (pe_fldK (K := K) (pv 1) rfl) rfl)
    (pss_cons (ps_fld (pv 0) (pe_lc (own := [("length", 6)]) (g := gName 6) (tt := tYes) rfl nd (pi_range1 rfl T.range (pa_cons (pe_op op_add (pv 2) pe_int) pa_nil)) (blkOk_by (by kernel_rfl)) (fun _ _ _ _ _ => (pg_name (i := 6) nd rfl (Or.inl rfl))) (fun _ _ _ _ _ => pts_nil) (fun _ _ _ _ _ => (pe_c c_many_words hr (by decide) rfl (pa_cons (pe_fldK (K := K) (pv 1) rfl) (pa_cons (pv 6) pa_nil))))) rfl)
    (pss_cons (ps_fld (pv 0) (pe_lc (own := [("length", 6)]) (g := gName 6) (tt := tYes) rfl nd (pi_range1 rfl T.range (pa_cons (pe_op op_add (pv 2) pe_int) pa_nil)) (blkOk_by (by kernel_rfl)) (fun _ _ _ _ _ => (pg_name (i := 6) nd rfl (Or.inl rfl))) (fun _ _ _ _ _ => pts_nil) (fun _ _ _ _ _ => (pe_c c_nothing_heads hr (by decide) rfl (pa_cons (pv 1) (pa_cons (pv 6) pa_nil))))) rfl)
    (pss_cons (ps_fld (pv 0) (pe_lst pa_nil) rfl)
    (pss_cons (ps_for PassesOwn.never rfl (pi_zipKK (K := K) rfl T.zip (pa_cons (pe_fldK (K := K) (pv 0) rfl) (pa_cons (pe_fldK (K := K) (pv 0) rfl) pa_nil))) (pg_tup rfl (pgs_cons (pg_name (i := 3) nd rfl (Or.inl rfl)) (pgs_cons (pg_name (i := 4) nd rfl (Or.inr rfl)) pgs_nil))) 
      (pss_cons (ps_setLc (own := [("spot", 7)]) (g := gName 7)  (i := 5) rfl nd rfl rfl (sw_true rfl rfl rfl (by decide +kernel)) (pi_range1 rfl T.range (pa_cons (pv 3) pa_nil)) (blkOk_by (by kernel_rfl)) (fun _ _ _ _ _ => (pg_name (i := 7) nd rfl (Or.inl rfl))) (fun _ _ _ _ _ => (pts_one (pt_cmp (pc_dnotin hu (pv 7) (pv 4))))) (fun _ _ _ _ _ => (pv 7)))
      (pss_one (ps_expr (pe_bm PySem.F.plainAttrs_list PySem.F.slot_list_append PySem.F.type_list_append mt_append (pe_fldK (K := K) (pv 0) rfl) (pa_cons (pe_callTy (cr_dictP rfl) (by rfl) T.dict_ (by decide +kernel) (pa_cons (pe_lc (own := [("k", 8), ("spot", 7)]) (g := gTup K 2 (gCons (gName 8) (gCons (gName 7) gNil))) (tt := tYes) rfl nd (pi_enumK (K := K) rfl T.enumerate (pa_cons (pv 5) pa_nil)) (blkOk_by (by kernel_rfl)) (fun _ _ _ _ _ => (pg_tup rfl (pgs_cons (pg_name (i := 8) nd rfl (Or.inl rfl)) (pgs_cons (pg_name (i := 7) nd rfl (Or.inl rfl)) pgs_nil)))) (fun _ _ _ _ _ => pts_nil) (fun _ _ _ _ _ => (pe_tup (pa_cons (pv 7) (pa_cons (pv 8) pa_nil))))) pa_nil)) pa_nil))))))
    (pss_one (ps_fld (pv 0) (pe_c c_commons_to hr (by decide) rfl (pa_cons (pv 1) (pa_cons (pv 2) pa_nil))) rfl)))))))), ?_⟩
  walk_at "st"
  walk_at "go"
  refine ⟨bk, d.C, bdx, _, _, rfl, hide_le bk _ hbk, T.clR, T.nP, rfl, ?_⟩
  walk_at "go"
  refine ⟨a, d.R, dx, [], rfl, ha, T.clU, nf _ (by simp), by show (0 : Nat) < 1000; omega, ?_⟩
  walk_at "go"
  have eA : Same (hide a H) (upd H a (.ins d.R dx (putF "prime" (.int p) []))) := same_hide_upd hide_le
  refine ⟨bk, d.C, bdx, _, _, rfl, eA bk _ hbk, T.clR, T.nL, rfl, ?_⟩
  walk_at "go"
  refine ⟨a, d.R, dx, _, rfl, upd_same, T.clU, nf _ (by simp), by show (1 : Nat) < 1000; omega, ?_⟩
  rw [upd_upd]
  have eB : Same (hide a H) (upd H a (.ins d.R dx (putF "letters" (.int (B.L : Nat)) (putF "prime" (.int p) [])))) := same_hide_upd hide_le
  have haB : (upd H a (.ins d.R dx (putF "letters" (.int (B.L : Nat)) (putF "prime" (.int p) [])))) a = some (.ins d.R dx [("prime", .int p), ("letters", .int (B.L : Nat))]) := upd_same
  generalize (upd H a (.ins d.R dx (putF "letters" (.int (B.L : Nat)) (putF "prime" (.int p) [])))) = H1 at *
  walk_at "go"
  refine r_lc (r_rng (m + 1) (by omega) (fun QA q => by walk_at "go"; rw [show ((m : Nat) : Int) + 1 = ((m + 1 : Nat) : Int) by omega]; exact q) fun J wk => ?_)
  refine lc_new wk (R := IntV) (fun _ => true) (fun i => ((B.L ^ i : Nat) : Int)) (fun _ _ => trivial) (by omega) (fun i x H2 H3 kY kN hi e z hY hN => ?_) (fun D1 H2 ys1 hD1 e1 hy1 hE1 => ?_)
  · obtain ⟨rfl, rfl⟩ := z
    walk_at "lc"
    walk_at "go"
    refine ⟨rfl, ?_⟩
    walk_at "go"
    refine ⟨bk, d.C, bdx, _, _, rfl, e bk _ (eB bk _ hbk), T.clR, T.nL, rfl, ?_⟩
    walk_at "go"
    exact ⟨B.L, i, rfl, h1, by omega, hpow i (by omega), hY _ _ rfl (Same.refl _) rfl⟩
  walk_at "go"
  rw [tk_all] at hE1
  have ha2 := e1 a _ haB
  refine ⟨a, d.R, dx, _, rfl, ha2, T.clU, nf _ (by simp), by show (2 : Nat) < 1000; omega, ?_⟩
  have eC : Same (hide a H) (upd H2 a (.ins d.R dx (putF "many" (.ref D1) [("prime", .int p), ("letters", .int (B.L : Nat))]))) := same_hide_upd (Same.trans eB e1)
  have hD1a : D1 ≠ a := ne_new hD1 (by rw [haB]; simp)
  have v1 : LstOf IntV ((List.range (m + 1)).map fun i => ((B.L ^ i : Nat) : Int)) (.ref D1) (hide a (upd H2 a (.ins d.R dx (putF "many" (.ref D1) [("prime", .int p), ("letters", .int (B.L : Nat))])))) := by
    rw [hide_upd]
    exact Mon.mono (New.hide (by rw [haB]; simp)) (lst_new hD1 hy1 hE1)
  have haC : (upd H2 a (.ins d.R dx (putF "many" (.ref D1) [("prime", .int p), ("letters", .int (B.L : Nat))]))) a = some (.ins d.R dx [("prime", .int p), ("letters", .int (B.L : Nat)), ("many", .ref D1)]) := upd_same
  generalize (upd H2 a (.ins d.R dx (putF "many" (.ref D1) [("prime", .int p), ("letters", .int (B.L : Nat))]))) = H3 at *
  walk_at "go"
  refine r_lc (r_rng (m + 1) (by omega) (fun QA q => by walk_at "go"; rw [show ((m : Nat) : Int) + 1 = ((m + 1 : Nat) : Int) by omega]; exact q) fun J wk => ?_)
  refine lc_new wk (R := IhV B) (fun _ => true) (fun i => i) (fun _ _ => trivial) (by omega) (fun i x H4 H5 kY kN hi e z hY hN => ?_) (fun D2 H4 ys2 hD2 e2 hy2 hE2 => ?_)
  · obtain ⟨rfl, rfl⟩ := z
    walk_at "lc"
    walk_at "go"
    refine ⟨rfl, ?_⟩
    walk_at "go"
    exact ⟨.ref bk, B, i, rfl, Mon.mono (Same.trans eC e) hy, by omega, hpow i (by omega), fun hs y' H6 e6 hv R bd sp => hY _ _ rfl e6 ⟨hs, ⟨R, bd, sp⟩, hv⟩⟩
  walk_at "go"
  rw [tk_all, List.map_id'] at hE2
  obtain ⟨Ih, hIh, hE2'⟩ := ih_choose hE2
  have ha4 := e2 a _ haC
  refine ⟨a, d.R, dx, _, rfl, ha4, T.clU, nf _ (by simp), by show (3 : Nat) < 1000; omega, ?_⟩
  have eD : Same (hide a H) (upd H4 a (.ins d.R dx (putF "heads" (.ref D2) [("prime", .int p), ("letters", .int (B.L : Nat)), ("many", .ref D1)]))) := same_hide_upd (Same.trans eC e2)
  have v1' : LstOf IntV ((List.range (m + 1)).map fun i => ((B.L ^ i : Nat) : Int)) (.ref D1) (hide a (upd H4 a (.ins d.R dx (putF "heads" (.ref D2) [("prime", .int p), ("letters", .int (B.L : Nat)), ("many", .ref D1)])))) := by
    rw [hide_upd]
    exact Mon.mono (hide_same e2) v1
  have v2 : LstOf HeadsV ((List.range (m + 1)).map Ih) (.ref D2) (hide a (upd H4 a (.ins d.R dx (putF "heads" (.ref D2) [("prime", .int p), ("letters", .int (B.L : Nat)), ("many", .ref D1)])))) := by
    rw [hide_upd]
    exact Mon.mono (New.hide (by rw [haC]; simp)) (lst_new hD2 hy2 hE2')
  have haD : (upd H4 a (.ins d.R dx (putF "heads" (.ref D2) [("prime", .int p), ("letters", .int (B.L : Nat)), ("many", .ref D1)]))) a = some (.ins d.R dx [("prime", .int p), ("letters", .int (B.L : Nat)), ("many", .ref D1), ("heads", .ref D2)]) := upd_same
  generalize (upd H4 a (.ins d.R dx (putF "heads" (.ref D2) [("prime", .int p), ("letters", .int (B.L : Nat)), ("many", .ref D1)]))) = H5 at *
  walk_at "go"
  refine ⟨by show 0 ≤ sizeLine; omega, fun l3 hl3 => ?_⟩
  walk_at "go"
  have hl3a : l3 ≠ a := ne_new hl3 (by rw [haD]; simp)
  refine ⟨a, d.R, dx, _, rfl, Same.new hl3 a _ haD, T.clU, nf _ (by simp), by show (4 : Nat) < 1000; omega, ?_⟩
  have eE : Same (hide a H) (upd (upd H5 l3 (.lst [])) a (.ins d.R dx (putF "places" (.ref l3) [("prime", .int p), ("letters", .int (B.L : Nat)), ("many", .ref D1), ("heads", .ref D2)]))) := same_hide_upd (Same.trans eD (Same.new hl3))
  have hl30 : H l3 = none := by
    have := none_of eD hl3
    rw [hide_ne hl3a] at this
    exact this
  have w1 : LstOf IntV ((List.range (m + 1)).map fun i => ((B.L ^ i : Nat) : Int)) (.ref D1) (hide l3 (hide a (upd (upd H5 l3 (.lst [])) a (.ins d.R dx (putF "places" (.ref l3) [("prime", .int p), ("letters", .int (B.L : Nat)), ("many", .ref D1), ("heads", .ref D2)]))))) := by
    rw [hide_upd]
    refine Mon.mono (fun b u hb => ?_) v1'
    have hba : b ≠ a := fun z => by rw [z] at hb; simp [hide] at hb
    rw [hide_ne hba] at hb
    have hbl : b ≠ l3 := ne_of_none hb hl3
    rw [hide_ne hbl, hide_ne hba, upd_ne hbl]
    exact hb
  have w2 : LstOf HeadsV ((List.range (m + 1)).map Ih) (.ref D2) (hide l3 (hide a (upd (upd H5 l3 (.lst [])) a (.ins d.R dx (putF "places" (.ref l3) [("prime", .int p), ("letters", .int (B.L : Nat)), ("many", .ref D1), ("heads", .ref D2)]))))) := by
    rw [hide_upd]
    refine Mon.mono (fun b u hb => ?_) v2
    have hba : b ≠ a := fun z => by rw [z] at hb; simp [hide] at hb
    rw [hide_ne hba] at hb
    have hbl : b ≠ l3 := ne_of_none hb hl3
    rw [hide_ne hbl, hide_ne hba, upd_ne hbl]
    exact hb
  have haE : (upd (upd H5 l3 (.lst [])) a (.ins d.R dx (putF "places" (.ref l3) [("prime", .int p), ("letters", .int (B.L : Nat)), ("many", .ref D1), ("heads", .ref D2)]))) a = some (.ins d.R dx [("prime", .int p), ("letters", .int (B.L : Nat)), ("many", .ref D1), ("heads", .ref D2), ("places", .ref l3)]) := upd_same
  have hlE : (upd (upd H5 l3 (.lst [])) a (.ins d.R dx (putF "places" (.ref l3) [("prime", .int p), ("letters", .int (B.L : Nat)), ("many", .ref D1), ("heads", .ref D2)]))) l3 = some (.lst []) := by rw [upd_ne hl3a, upd_same]
  generalize (upd (upd H5 l3 (.lst [])) a (.ins d.R dx (putF "places" (.ref l3) [("prime", .int p), ("letters", .int (B.L : Nat)), ("many", .ref D1), ("heads", .ref D2)]))) = H6 at *
  walk_at "go"
  have hhl : Same (hide l3 (hide a H6)) (hide l3 H6) := hide_same hide_le
  have hae : (hide l3 H6) a = some (.ins d.R dx [("prime", .int p), ("letters", .int (B.L : Nat)), ("many", .ref D1), ("heads", .ref D2), ("places", .ref l3)]) := by rw [hide_ne hl3a.symm]; exact haE
  refine r_for (r_zipS (H0 := hide l3 H6) (.inl (Mon.mono hhl w1)) hide_le (.inl (Mon.mono hhl w2)) (fun QA q => ?_) fun J ys zs hys hzs wk => ?_)
  · walk_at "go"
    refine ⟨a, d.R, dx, _, _, rfl, haE, T.clU, nf _ (by simp), rfl, ?_⟩
    walk_at "go"
    refine ⟨a, d.R, dx, _, _, rfl, haE, T.clU, nf _ (by simp), rfl, ?_⟩
    walk_at "go"
    exact q
  have hmin : min ((List.range (m + 1)).map fun i => ((B.L ^ i : Nat) : Int)).length ((List.range (m + 1)).map Ih).length = m + 1 := by simp
  rw [hmin] at wk
  refine for_it wk (fun i σ H' => Same (hide l3 H6) H' ∧ ∃ (v3 v4 v5 : Option V) (ws : List V), σ = [some (.ref a), some (.ref bk), some (.int m), v3, v4, v5, none, none, none] ∧ H' l3 = some (.lst ws) ∧ Each (PlW (hide l3 (hide a H6))) ((List.range i).map fun n => pls (Ih n) (B.L ^ n)) ws (hide a (hide l3 H'))) ?_ ?_ ?_ ?_
  · exact ⟨hide_le, _, _, _, [], rfl, hlE, Each.nil⟩
  · rintro i σ H' hi ⟨e, _⟩
    exact e
  · rintro i x σ H7 H8 hi ⟨e7, v3, v4, v5, ws, rfl, hl7, hW⟩ ⟨T0, x1, x2, rfl, hT0, rfl, hx1, hx2⟩
    have q1 := hys.at_ i _ _ (by rw [List.getElem?_map, List.getElem?_range hi]; rfl) hx1
    have q2 := hzs.at_ i _ _ (by rw [List.getElem?_map, List.getElem?_range hi]; rfl) hx2
    obtain rfl : x1 = V.int ((B.L ^ i : Nat) : Int) := q1
    obtain ⟨hd, kvs, rfl, hhd, hdk⟩ := q2
    have hok := hIh i (by omega)
    have e78 : Same H7 (upd H7 T0 (.tup [.int ((B.L ^ i : Nat) : Int), .ref hd])) := Same.new hT0
    walk_at "go"
    generalize (upd H7 T0 (.tup [.int ((B.L ^ i : Nat) : Int), .ref hd])) = H8 at *
    have hp := hpow i (by omega)
    have hhd8 := e78 hd _ (e7 hd _ hhd)
    have ha8 := e78 a _ (e7 a _ hae)
    have hl8 := e78 l3 _ hl7
    have hdk8 := (hdk.mono e7).mono e78
    refine r_lc (r_rng (B.L ^ i) (by omega) (fun QA q => by walk_at "go"; exact q) fun J2 wk2 => ?_)
    refine lc_new wk2 (R := IntV) (nokey (Ih i)) (fun s => (s : Int)) (fun _ _ => trivial) (by omega) (fun s x H9 H10 kY kN hs e z hY hN => ?_) (fun D3 H9 ys3 hD3 e3 hy3 hE3 => ?_)
    · obtain ⟨rfl, rfl⟩ := z
      walk_at "lc"
      walk_at "go"
      refine ⟨rfl, ?_⟩
      walk_at "go"
      obtain ⟨o, ho1, ho2⟩ := hdk8.din hok.red.nd (H := H10) (.inl (e hd _ hhd8)) s
      refine ⟨hd, o, rfl, ho1, ?_⟩
      rw [ho2]
      refine r_bl (r_ndec (fun hno => ?_) fun hyes => ?_)
      · walk_at "go"
        exact hY _ _ (by unfold nokey; rw [decide_eq_false hno]; rfl) (Same.refl _) rfl
      · exact hN _ (by unfold nokey; rw [decide_eq_true hyes]; rfl) (Same.refl _)
    have hpl : (tk (B.L ^ i) (nokey (Ih i))) = pls (Ih i) (B.L ^ i) := rfl
    have hsp : LstOf IntV ((pls (Ih i) (B.L ^ i)).map fun (s : Nat) => (s : Int)) (.ref D3) H9 := ⟨D3, ys3, rfl, hy3, hE3.mono New.le⟩
    have hpn := pls_nodup (Ih i) (B.L ^ i)
    have hpln := pls_len (Ih i) (B.L ^ i)
    generalize hPdef : pls (Ih i) (B.L ^ i) = P at *
    walk_at "go"
    have ha9 := e3 a _ ha8
    have hl9 := e3 l3 _ hl8
    refine ⟨a, d.R, dx, _, _, rfl, ha9, T.clU, nf _ (by simp), rfl, ?_⟩
    refine ⟨.inl ⟨rfl, _, SqL.of hl9⟩, ?_⟩
    walk_at "go"
    refine r_dictP' (r_cons (r_lc (r_enumL hsp (Same.refl _) (fun QA q => by walk_at "go"; exact q) fun J3 ys4 hys4 wk3 => ?_)))
    have hPl : (P.map fun (s : Nat) => (s : Int)).length = P.length := List.length_map _
    rw [hPl] at wk3
    refine lc_new wk3 (R := PairV) (fun _ => true) (fun j => (P.getD j 0, V.int (j : Nat))) (fun _ h => h) (by omega) (fun j x H10 H11 kY kN hj e z hY hN => ?_) (fun D4 H10 ys5 hD4 e4 hy5 hE5 => ?_)
    · obtain ⟨T1, x1, x2, rfl, hT1, rfl, h3, h4⟩ := z
      cases h3
      have h5 := hys4.at_ j _ _ (by rw [List.getElem?_map, List.getElem?_eq_getElem hj]; rfl) h4
      obtain rfl : x2 = V.int ((P[j] : Nat) : Int) := h5
      walk_at "lc"
      walk_at "go"
      refine ⟨rfl, ?_⟩
      walk_at "go"
      refine ⟨by show 2 ≤ sizeLine; decide, fun q hq => hY _ _ rfl (Same.trans (Same.new hT1) (Same.new hq)) ⟨q, rfl, ?_⟩⟩
      rw [New.at_ (none_of (Same.new hT1) hq), upd_same, getD_some (List.getElem?_eq_getElem hj)]
    walk_at "go"
    rw [tk_all] at hE5
    have hk1 : ((List.range P.length).map fun j => (P.getD j 0, V.int (j : Nat))).map (·.1) = P := by
      rw [List.map_map]
      exact map_range_get P 0
    refine dict_pairsR (hE5.mono New.le) (by rw [hk1]; exact hpn) hy5 fun b hb5 => ?_
    walk_at "go"
    have e910 : Same H9 (upd H10 b (.dK (((List.range P.length).map fun j => (P.getD j 0, V.int (j : Nat))).map fun e => (Sum.inl (e.1 : Int), e.2)))) := Same.trans e4 (Same.new hb5)
    have hb9 : H9 b = none := none_of e4 hb5
    have hbl : b ≠ l3 := ne_new hb9 (by rw [hl9]; simp)
    have hba : b ≠ a := ne_new hb9 (by rw [ha9]; simp)
    have hv : PlW (hide l3 (hide a H6)) P (.ref b) (hide a (hide l3 (upd H10 b (.dK (((List.range P.length).map fun j => (P.getD j 0, V.int (j : Nat))).map fun e => (Sum.inl (e.1 : Int), e.2)))))) := by
      have e69 : Same (hide l3 (hide a H6)) H9 := Same.trans hhl (Same.trans e7 (Same.trans e78 e3))
      refine ⟨b, rfl, ?_, none_of e69 hb9⟩
      rw [hide_ne hba, hide_ne hbl, upd_same, List.map_map]
      rfl
    refine ⟨l3, ws, _, rfl, rfl, e910 l3 _ hl9, sl _ ?_, ?_⟩
    · rw [hW.len, List.length_map, List.length_range]
      omega
    refine ⟨Same.mut (Same.trans e7 (Same.trans e78 (Same.trans e3 e910))) (if_pos rfl), _, _, _, _, rfl, upd_same, ?_⟩
    rw [hide_upd, List.range_succ, List.map_append]
    refine (hW.mono (hide_same (hide_same (Same.trans e78 (Same.trans e3 e910))))).snoc ?_
    show PlW _ (pls (Ih i) (B.L ^ i)) _ _
    rw [hPdef]
    exact hv
  · rintro σ H7 ⟨e7, v3, v4, v5, ws, rfl, hl7, hW⟩
    walk_at "go"
    have ha7 := e7 a _ hae
    have e8 : Same (hide a H) (hide l3 H6) := hide_base (by rw [hide_ne hl3a]; exact hl30) eE
    refine ⟨.ref bk, B, m, rfl, Mon.mono (Same.trans e8 e7) hy, hm6, hb, fun cs y' H8 e78 C hcl hL => ?_⟩
    walk_at "go"
    refine ⟨a, d.R, dx, _, rfl, e78 a _ ha7, T.clU, nf _ (by simp), by show (5 : Nat) < 1000; omega, ?_⟩
    obtain ⟨l4, zs4, rfl, hl4, hE4⟩ := hL
    have hsame : ∀ b u, b ≠ a → H7 b = some u → (upd H8 a (.ins d.R dx (putF "commons" (.ref l4) [("prime", .int p), ("letters", .int (B.L : Nat)), ("many", .ref D1), ("heads", .ref D2), ("places", .ref l3)]))) b = some u := fun b u hba hb => by rw [upd_ne hba]; exact e78 b u hb
    have s1 : Same (hide l3 (hide a H6)) (upd H8 a (.ins d.R dx (putF "commons" (.ref l4) [("prime", .int p), ("letters", .int (B.L : Nat)), ("many", .ref D1), ("heads", .ref D2), ("places", .ref l3)]))) := fun b u hb => by
      have hbl : b ≠ l3 := fun z => by rw [z] at hb; simp [hide] at hb
      rw [hide_ne hbl] at hb
      have hba : b ≠ a := fun z => by rw [z] at hb; simp [hide] at hb
      rw [hide_ne hba] at hb
      exact hsame b u hba (e7 b u (by rw [hide_ne hbl]; exact hb))
    have s2 : Same (New H7 H8) (upd H8 a (.ins d.R dx (putF "commons" (.ref l4) [("prime", .int p), ("letters", .int (B.L : Nat)), ("many", .ref D1), ("heads", .ref D2), ("places", .ref l3)]))) := fun b u hb => by
      have := New.old hb
      have hba : b ≠ a := fun z => by rw [z, ha7] at this; cases this
      rw [upd_ne hba]
      exact New.le b u hb
    have s3 : Same (hide a (hide l3 H7)) (upd H8 a (.ins d.R dx (putF "commons" (.ref l4) [("prime", .int p), ("letters", .int (B.L : Nat)), ("many", .ref D1), ("heads", .ref D2), ("places", .ref l3)]))) := fun b u hb => by
      have hba : b ≠ a := fun z => by rw [z] at hb; simp [hide] at hb
      rw [hide_ne hba] at hb
      exact hsame b u hba (hide_le b u hb)
    refine k Ih cs _ hIh C hcl ?_ ⟨a, dx, D1, D2, l3, l4, _, rfl, s1, upd_same, Mon.mono s1 w1, w2, ⟨l3, ws, rfl, hsame l3 _ hl3a hl7, hW.mono s3⟩, Mon.mono s2 ⟨l4, zs4, rfl, hl4, hE4⟩⟩
    exact fun b u hb => by
      have hba : b ≠ a := fun z => by rw [z] at hb; simp [hide] at hb
      exact hsame b u hba (e7 b u (e8 b u hb))
end
section
variable {P : Program} {w : World} {K : PySem.W.Frag} {mg : Str → Option Value} {base : Heap} {d : Ad} {p : Nat} [Pr p]
abbrev s_Rungs_size : Stmt := inClass (top 51) 1
theorem sc_Rungs_size : FnScope ["self", "length", "step"] ["self", "length", "step"] (defScope s_Rungs_size) := ⟨rfl, rfl, rfl, by decide +kernel, rfl, by decide +kernel, by decide +kernel⟩
def spSize (p : Nat) [Pr p] (d : Ad) : Sp := fun vs H Q _ => ∃ (y : V) (B : Bk p) (m : Nat) (Ih : Nat → List (Hd p)) (cs : List (List (Hd p))) (n s : Nat), vs = [y, .int n, .int s] ∧ RungV d B m Ih cs y H ∧ (∀ n, n ≤ m → IhOk B n (Ih n)) ∧ Com B cs ∧ cs.length = max 3 (m + 1) ∧ m ≤ 6 ∧ B.L ^ m ≤ 1000 ∧ s ≤ n ∧ n ≤ m ∧
  Q (.int (((pls (Ih (n - s)) (B.L ^ (n - s))).length * (cs.getD s []).length : Nat) : Int)) H
theorem plK_len (l : List Nat) : (plK l).length = l.length := by unfold plK; simp
theorem pls_le {B : Bk p} {hs : List (Hd p)} {n m : Nat} (h : n ≤ m) (hb : B.L ^ m ≤ 1000) : (pls hs (B.L ^ n)).length ≤ 1000 := Nat.le_trans (pls_len _ _) (Nat.le_trans (Nat.pow_le_pow_right B.lo h) hb)
theorem ok_Rungs_size {Pf : Addr → Prop} (T : Tx K mg d) (D : DfM K "size" "Rungs.size" s_Rungs_size Pf) : FnB P w K mg base 1 Pf (U fun p _ => spSize p d) := by
  have nd := sc_Rungs_size.nd
  refine mkFnU D sc_Rungs_size (fun p hp vs H Q E h => ?_) (fun _ _ _ _ _ _ us hl => match us, hl with | [_, _, _], _ => rfl) (fun p hp f0 cdv A outer s H vs Q E hr h => ?_)
  · obtain ⟨y, B, m, Ih, cs, n, s, rfl, _⟩ := h
    rfl
  obtain ⟨y, B, m, Ih, cs, n, s, rfl, ⟨a, dx, l1, l2, l3, l4, Hh, rfl, eh, ha, v1, v2, v3, v4⟩, hIh, C, hcl, hm6, hb, hsn, hnm, k⟩ := h
  have nf : ∀ f ∈ (["prime", "letters", "many", "heads", "places", "commons"] : List Str), NoAttr K d.R f := T.nU
  obtain ⟨b3, zs3, hz3, hl3, hE3⟩ := v3
  cases hz3
  obtain ⟨b4, zs4, hz4, hl4, hE4⟩ := v4
  cases hz4
  obtain ⟨y3, hy3, b, rfl, hbp, _⟩ := hE3.get (i := n - s) (f := pls (Ih (n - s)) (B.L ^ (n - s))) (by rw [List.getElem?_map, List.getElem?_range (by omega)]; rfl)
  have hsc : s < cs.length := by omega
  have hcs := List.getElem?_eq_getElem hsc
  have hgd : cs.getD s [] = cs[s] := getD_some hcs
  obtain ⟨y4, hy4, b4, ys4, rfl, hb4, hE5⟩ := hE4.get (i := s) (f := cs[s].map (·.2)) (by unfold rws; rw [List.getElem?_map, hcs]; rfl)
  have hlen4 : ys4.length = cs[s].length := by rw [hE5.len, List.length_map]
  have hpl := pls_le (B := B) (hs := Ih (n - s)) (n := n - s) (m := m) (by omega) hb
  refine ⟨_, (pss_one (ps_ret (pe_op op_mul (pe_callB call_lenD (by rfl) T.len (by decide +kernel) (pa_cons (pe_ix (ix_listK (K := K)) (pe_fldK (K := K) (pv 0) rfl) (pe_op op_sub (pv 1) (pv 2)) (fun _ _ => rfl)) pa_nil)) (pe_callB (call_lenK (K := K)) (by rfl) T.len (by decide +kernel) (pa_cons (pe_ix (ix_listK (K := K)) (pe_fldK (K := K) (pv 0) rfl) (pv 2) (fun _ _ => rfl)) pa_nil))))), ?_⟩
  walk_at "st"
  walk_at "go"
  refine ⟨a, d.R, dx, _, _, rfl, ha, T.clU, nf _ (by simp), rfl, ?_⟩
  walk_at "go"
  rw [show ((n : Nat) : Int) - (s : Int) = ((n - s : Nat) : Int) by omega]
  refine r_ixL (SqL.of hl3) hy3 ?_
  refine ⟨b, plK _, rfl, hbp, ?_⟩
  walk_at "go"
  refine ⟨a, d.R, dx, _, _, rfl, ha, T.clU, nf _ (by simp), rfl, ?_⟩
  walk_at "go"
  refine r_ixL (SqL.of hl4) hy4 ?_
  refine ⟨b4, ys4, rfl, .inl (SqL.of hb4), ?_⟩
  rw [plK_len, hlen4]
  refine r_I (.inl ⟨by omega, by omega⟩) ?_
  rw [hgd, Int.natCast_mul] at k
  exact k
abbrev s_Rungs_parts_off : Stmt := inClass (top 51) 2
theorem sc_Rungs_parts_off : FnScope ["self", "step", "side", "row", "leads", "wide", "found", "parts", "letter", "spots", "lead", "spot"] ["self", "step", "side"] (defScope s_Rungs_parts_off) := ⟨rfl, rfl, rfl, by decide +kernel, rfl, by decide +kernel, by decide +kernel⟩
def partsI (B : Bk p) (w : Nat) (lo : List (Hd p)) (e : Vec p) : List (List Int) := (List.range B.L).map fun a => (List.range lo.length).map fun i => iv (numb w lo e a i)
def spParts (p : Nat) [Pr p] (d : Ad) : Sp := fun vs H Q _ => ∃ (y : V) (B : Bk p) (m : Nat) (Ih : Nat → List (Hd p)) (cs : List (List (Hd p))) (s : Nat) (c lo : List (Hd p)), vs = [y, .int (s + 1 : Nat), .int 0] ∧ RungV d B m Ih cs y H ∧ Com B cs ∧ m ≤ 6 ∧ B.L ^ m ≤ 1000 ∧ s + 1 ≤ m ∧ cs[s + 1]? = some c ∧ cs[s]? = some lo ∧
  ∀ y' H', Same H H' → TupOf (TupOf (TupOf IntV)) (c.map fun e => partsI B (B.L ^ s) lo e.2) y' (New H H') → Q y' H'
theorem r_minRow {H : Hp} {Q : VK} {a : Addr} {f : Vec p} {k0 : Nat} (h : RowX H a f) (h1 : f k0 ≠ 0) (h2 : ∀ j, j < k0 → f j = 0) (q : Q (.int (k0 : Int)) H) : rMinK [.ref a] H Q := by
  obtain ⟨kg, hkg, kk, hkn, rfl, hkk⟩ := h
  refine ⟨a, _, kk.map fun (k : Nat) => (k : Int), rfl, hkg, by rw [List.map_map, List.map_map]; rfl, ?_, fun m hm hmin => ?_⟩
  · intro e
    have := (hkk k0).mpr h1
    rw [List.map_eq_nil_iff] at e
    rw [e] at this
    cases this
  · obtain ⟨k1, hk1, rfl⟩ := List.mem_map.mp hm
    have e1 : (k1 : Int) ≤ (k0 : Int) := hmin _ (List.mem_map.mpr ⟨k0, (hkk k0).mpr h1, rfl⟩)
    have e2 : k0 ≤ k1 := Nat.le_of_not_lt fun z => (hkk k1).mp hk1 (h2 k1 z)
    have : k1 = k0 := by omega
    rw [this]
    exact q
theorem ok_Rungs_parts_off {Pf : Addr → Prop} (T : Tx K mg d) (D : DfM K "parts_off" "Rungs.parts_off" s_Rungs_parts_off Pf) : FnB P w K mg base 1 Pf (U fun p _ => spParts p d) := by
  have nd := sc_Rungs_parts_off.nd
  refine mkFnU D sc_Rungs_parts_off (fun p hp vs H Q E h => ?_) (fun _ _ _ _ _ _ us hl => match us, hl with | [_, _, _], _ => rfl) (fun p hp f0 cdv A outer s H vs Q E hr h => ?_)
  · obtain ⟨y, B, m, Ih, cs, s, c, lo, rfl, _⟩ := h
    rfl
  obtain ⟨y, B, m, Ih, cs, s, c, lo, rfl, ⟨a, dx, l1, l2, l3, l4, Hh, rfl, eh, ha, v1, v2, v3, v4⟩, C, hm6, hb, hsm, hc, hlo, k⟩ := h
  have hu := hu_of hr
  have hL1 := B.lo
  have hL9 := B.hi
  have nf : ∀ f ∈ (["prime", "letters", "many", "heads", "places", "commons"] : List Str), NoAttr K d.R f := T.nU
  obtain ⟨b1, zs1, hz1, hl1, hE1⟩ := v1
  cases hz1
  obtain ⟨b4, zs4, hz4, hl4, hE4⟩ := v4
  cases hz4
  obtain ⟨ylo, hylo, vlo⟩ := hE4.get (i := s) (f := lo.map (·.2)) (by unfold rws; rw [List.getElem?_map, hlo]; rfl)
  obtain ⟨yc, hyc, vc⟩ := hE4.get (i := s + 1) (f := c.map (·.2)) (by unfold rws; rw [List.getElem?_map, hc]; rfl)
  obtain ⟨yw, hyw, rfl⟩ := hE1.get (i := s) (f := ((B.L ^ s : Nat) : Int)) (by rw [List.getElem?_map, List.getElem?_range (by omega)]; rfl)
  obtain ⟨Rlo, blo⟩ := com_red C hlo
  obtain ⟨Rc, bc⟩ := com_red C hc
  have hp0 : B.L ^ s ≤ 1000 := Nat.le_trans (Nat.pow_le_pow_right hL1 (by omega)) hb
  have hp1 : B.L ^ (s + 1) ≤ 1000 := Nat.le_trans (Nat.pow_le_pow_right hL1 (by omega)) hb
  have hlol := Rlo.len blo
  have hcl := Rc.len bc
  generalize hw : B.L ^ s = w0 at *
  refine ⟨_, (pss_cons (ps_asg (pe_tup (pa_cons (pe_lc (own := [("row", 3)]) (g := gName 3) (tt := tYes) rfl nd (pi_listK (K := K) (pe_ix (ix_listK (K := K)) (pe_fldK (K := K) (pv 0) rfl) (pe_op op_sub (pv 1) pe_int) (fun _ _ => rfl))) (blkOk_by (by kernel_rfl)) (fun _ _ _ _ _ => (pg_name (i := 3) nd rfl (Or.inl rfl))) (fun _ _ _ _ _ => pts_nil) (fun _ _ _ _ _ => (pe_callB (cr_minK rfl) (by rfl) T.min (by decide +kernel) (pa_cons (pv 3) pa_nil)))) (pa_cons (pe_ix (ix_listK (K := K)) (pe_fldK (K := K) (pv 0) rfl) (pe_op op_sub (pv 1) pe_int) (fun _ _ => rfl)) pa_nil))) (pg_tup rfl (pgs_cons (pg_name (i := 4) nd rfl (Or.inl rfl)) (pgs_cons (pg_name (i := 5) nd rfl (Or.inr rfl)) pgs_nil))))
    (pss_cons (ps_set (i := 6) nd rfl (Or.inl rfl) (pe_lst pa_nil))
    (pss_cons (ps_for PassesOwn.never rfl (pi_listK (K := K) (pe_ix (ix_listK (K := K)) (pe_fldK (K := K) (pv 0) rfl) (pv 1) (fun _ _ => rfl))) (pg_name (i := 3) nd rfl (Or.inr rfl)) 
      (pss_cons (ps_set (i := 7) nd rfl (Or.inl rfl) (pe_lst pa_nil))
      (pss_cons (ps_for PassesOwn.never rfl (pi_range1 rfl T.range (pa_cons (pe_fldK (K := K) (pv 0) rfl) pa_nil)) (pg_name (i := 8) nd rfl (Or.inr rfl)) 
        (pss_cons (ps_setLc (own := [("lead", 10)]) (g := gName 10) (tt := tYes) (i := 9) rfl nd rfl rfl (sw_true rfl rfl rfl (by decide +kernel)) (pi_listK (K := K) (pv 4)) (blkOk_by (by kernel_rfl)) (fun _ _ _ _ _ => (pg_name (i := 10) nd rfl (Or.inl rfl))) (fun _ _ _ _ _ => pts_nil) (fun _ _ _ _ _ => (pe_ifExp (pt_cmpR op_eq (pv 2) pe_int (nomark _)) (pe_op op_add (pe_op op_mul (pv 8) (pv 5)) (pv 10)) (pe_op op_add (pe_op op_mul (pv 10) (pe_fldK (K := K) (pv 0) rfl)) (pv 8)))))
        (pss_one (ps_expr (pe_bm PySem.F.plainAttrs_list PySem.F.slot_list_append PySem.F.type_list_append mt_append (pv 7) (pa_cons (pe_callTy (call_tupK (K := K)) (by rfl) T.tuple_ (by decide +kernel) (pa_cons (pe_lc (own := [("spot", 11)]) (g := gName 11) (tt := tYes) rfl nd (pi_listK (K := K) (pv 9)) (blkOk_by (by kernel_rfl)) (fun _ _ _ _ _ => (pg_name (i := 11) nd rfl (Or.inl rfl))) (fun _ _ _ _ _ => pts_nil) (fun _ _ _ _ _ => (pe_dget2 hu (pv 3) (pv 11) pe_int ⟨rfl, rfl, rfl, rfl⟩))) pa_nil)) pa_nil))))))
      (pss_one (ps_expr (pe_bm PySem.F.plainAttrs_list PySem.F.slot_list_append PySem.F.type_list_append mt_append (pv 6) (pa_cons (pe_callTy (call_tupK (K := K)) (by rfl) T.tuple_ (by decide +kernel) (pa_cons (pv 7) pa_nil)) pa_nil)))))))
    (pss_one (ps_ret (pe_callTy (call_tupK (K := K)) (by rfl) T.tuple_ (by decide +kernel) (pa_cons (pv 6) pa_nil))))))), ?_⟩
  walk_at "st"
  walk_at "go"
  refine r_lc (r_itL vlo (Same.refl _) (fun Q q => ?_) fun J ys hys wk => ?_)
  · walk_at "go"
    refine ⟨a, d.R, dx, _, _, rfl, ha, T.clU, nf _ (by simp), rfl, ?_⟩
    walk_at "go"
    rw [show ((s + 1 : Nat) : Int) - 1 = ((s : Nat) : Int) by omega]
    exact r_ixL (SqL.of hl4) hylo q
  have hll : (lo.map (·.2)).length = lo.length := List.length_map _
  rw [hll] at wk
  refine lc_new wk (R := IntV) (fun _ => true) (fun i => ((hk lo i : Nat) : Int)) (fun _ h => h) (by omega) (fun i x H1 H2 kY kN hi e z hY hN => ?_) (fun D1 H1 ys1 hD1 e1 hy1 hE1' => ?_)
  · obtain ⟨rfl, hx⟩ := z
    obtain ⟨b, hb', rb⟩ := hys.at_ i _ _ (by rw [List.getElem?_map, List.getElem?_eq_getElem hi]; rfl) hx
    subst hb'
    have hmem : lo[i] ∈ lo := List.getElem_mem hi
    have hhk : hk lo i = lo[i].1 := by unfold hk; rw [getD_some (List.getElem?_eq_getElem hi)]
    walk_at "lc"
    walk_at "go"
    refine ⟨rfl, ?_⟩
    walk_at "go"
    refine r_minRow (rb.same e) (k0 := lo[i].1) (by show lo[i].2 lo[i].1 ≠ 0; rw [Rlo.one _ hmem]; exact one_ne) (Rlo.low _ hmem) ?_
    exact hY _ _ rfl (Same.refl _) (by rw [hhk]; rfl)
  have vl : LstOf IntV ((List.range lo.length).map fun i => ((hk lo i : Nat) : Int)) (.ref D1) H1 := by
    rw [tk_all] at hE1'
    exact ⟨D1, ys1, rfl, hy1, hE1'.mono New.le⟩
  walk_at "go"
  refine ⟨a, d.R, dx, _, _, rfl, e1 a _ ha, T.clU, nf _ (by simp), rfl, ?_⟩
  walk_at "go"
  rw [show ((s + 1 : Nat) : Int) - 1 = ((s : Nat) : Int) by omega]
  refine r_ixL (SqL.of (e1 l1 _ hl1)) hyw ?_
  walk_at "go"
  refine ⟨by show 2 ≤ sizeLine; decide, fun t1 ht1 => ?_⟩
  walk_at "go"
  refine ⟨by show 0 ≤ sizeLine; omega, fun fl hfl => ?_⟩
  walk_at "go"
  have hfl1 : H1 fl = none := none_of (Same.new ht1) hfl
  have hflH : H fl = none := none_of e1 hfl1
  have eF : Same H1 (upd (upd H1 t1 (.tup [.ref D1, .int (w0 : Nat)])) fl (.lst [])) := Same.trans (Same.new ht1) (Same.new hfl)
  have hflE : (upd (upd H1 t1 (.tup [.ref D1, .int (w0 : Nat)])) fl (.lst [])) fl = some (.lst []) := upd_same
  generalize (upd (upd H1 t1 (.tup [.ref D1, .int (w0 : Nat)])) fl (.lst [])) = H2 at *
  have e02 := Same.trans e1 eF
  refine r_for (r_itL vc e02 (fun Q q => ?_) fun J2 ys2 hys2 wk2 => ?_)
  · walk_at "go"
    refine ⟨a, d.R, dx, _, _, rfl, e02 a _ ha, T.clU, nf _ (by simp), rfl, ?_⟩
    walk_at "go"
    exact r_ixL (SqL.of (e02 l4 _ hl4)) hyc q
  have hcl2 : (c.map (·.2)).length = c.length := List.length_map _
  rw [hcl2] at wk2
  refine for_it wk2 (fun i σ H' => Same H1 H' ∧ ∃ (v3 v7 v8 v9 : Option V) (zs : List V), σ = [some (.ref a), some (.int (s + 1 : Nat)), some (.int 0), v3, some (.ref D1), some (.int (w0 : Nat)), some (.ref fl), v7, v8, v9, none, none] ∧ H' fl = some (.lst zs) ∧
    Each (TupOf (TupOf IntV)) ((c.take i).map fun e => partsI B w0 lo e.2) zs (New H (hide fl H'))) ?_ (fun i σ H' _ h => Same.trans e1 h.1) ?_ ?_
  · exact ⟨eF, _, _, _, _, [], rfl, hflE, Each.nil⟩
  · rintro i x σ Hx H3 hi ⟨e3, v3, v7, v8, v9, zs, rfl, hfl3, hE3⟩ ⟨rfl, hx⟩
    have hci := List.getElem?_eq_getElem hi
    obtain ⟨b, hb', rb⟩ := hys2.at_ i _ _ (by rw [List.getElem?_map, hci]; rfl) hx
    subst hb'
    have htk : c.take (i + 1) = c.take i ++ [c[i]] := by rw [List.take_succ, hci]; rfl
    have be := bc c[i] (List.getElem_mem hi)
    generalize c[i] = e at *
    walk_at "go"
    refine ⟨by show 0 ≤ sizeLine; omega, fun pl hpl => ?_⟩
    walk_at "go"
    have e03 := Same.trans e1 e3
    refine r_for (r_rng B.L (by omega) (fun QA q => ?_) fun J3 wk3 => ?_)
    · walk_at "go"
      refine ⟨a, d.R, dx, _, _, rfl, Same.new hpl a _ (e03 a _ ha), T.clU, nf _ (by simp), rfl, ?_⟩
      walk_at "go"
      exact q
    refine for_it wk3 (fun j σ H' => Same H3 H' ∧ ∃ (v8 v9 : Option V) (ws : List V), σ = [some (.ref a), some (.int (s + 1 : Nat)), some (.int 0), some (.ref b), some (.ref D1), some (.int (w0 : Nat)), some (.ref fl), some (.ref pl), v8, v9, none, none] ∧ H' pl = some (.lst ws) ∧
      Each (TupOf IntV) ((List.range j).map fun a => (List.range lo.length).map fun i => iv (numb w0 lo e.2 a i)) ws (New H3 (hide pl H'))) ?_ (fun _ _ _ _ _ => trivial) ?_ ?_
    · exact ⟨Same.new hpl, _, _, [], rfl, upd_same, Each.nil⟩
    · rintro j x2 σ Hx H4 hj ⟨e4, v8, v9, ws, rfl, hpl4, hE4'⟩ ⟨rfl, rfl⟩
      walk_at "go"
      have e14 := Same.trans e3 e4
      have e04 := Same.trans e1 e14
      have vl4 := Mon.mono e14 vl
      refine r_lc (r_itL vl4 (Same.refl _) (fun Q q => by walk_at "go"; exact q) fun J5 ys5 hys5 wk5 => ?_)
      have hl5 : ((List.range lo.length).map fun i => ((hk lo i : Nat) : Int)).length = lo.length := by simp
      rw [hl5] at wk5
      have hjw : j * w0 ≤ 9 * 1000 := Nat.mul_le_mul (by omega) hp0
      refine lc_new wk5 (R := IntV) (fun _ => true) (fun i => ((j * w0 + hk lo i : Nat) : Int)) (fun _ h => h) (by omega) (fun i2 x3 H5 H6 kY kN hi2 e5 z hY hN => ?_) (fun D2 H5 ys6 hD2 e5 hy6 hE6 => ?_)
      · obtain ⟨rfl, hx3⟩ := z
        obtain rfl : x3 = V.int ((hk lo i2 : Nat) : Int) := hys5.at_ i2 _ _ (by rw [List.getElem?_map, List.getElem?_range hi2]; rfl) hx3
        walk_at "lc"
        walk_at "go"
        refine ⟨rfl, ?_⟩
        walk_at "go"
        refine r_decT rfl ?_
        walk_at "go"
        rw [show ((j : Nat) : Int) * (w0 : Int) + ((hk lo i2 : Nat) : Int) = ((j * w0 + hk lo i2 : Nat) : Int) by push_cast; rfl]
        exact hY _ _ rfl (Same.refl _) rfl
      walk_at "go"
      have e15 := Same.trans e14 e5
      refine ⟨.inl ⟨rfl, _, SqL.of (e5 pl _ hpl4)⟩, ?_⟩
      walk_at "go"
      have vs6 : LstOf IntV ((List.range lo.length).map fun i => ((j * w0 + hk lo i : Nat) : Int)) (.ref D2) H5 := by
        rw [tk_all] at hE6
        exact ⟨D2, ys6, rfl, hy6, hE6.mono New.le⟩
      refine r_lc (r_itL vs6 (Same.refl _) (fun Q q => by walk_at "go"; exact q) fun J7 ys7 hys7 wk7 => ?_)
      have hl7 : ((List.range lo.length).map fun i => ((j * w0 + hk lo i : Nat) : Int)).length = lo.length := by simp
      rw [hl7] at wk7
      refine lc_new wk7 (R := IntV) (fun _ => true) (fun i => iv (numb w0 lo e.2 j i)) (fun _ h => h) (by omega) (fun i2 x3 H6 H7 kY kN hi2 e6 z hY hN => ?_) (fun D3 H6 ys8 hD3 e6 hy8 hE8 => ?_)
      · obtain ⟨rfl, hx3⟩ := z
        obtain rfl : x3 = V.int ((j * w0 + hk lo i2 : Nat) : Int) := hys7.at_ i2 _ _ (by rw [List.getElem?_map, List.getElem?_range hi2]; rfl) hx3
        have e06 := Same.trans e1 (Same.trans e15 e6)
        walk_at "lc"
        walk_at "go"
        refine ⟨rfl, ?_⟩
        walk_at "go"
        refine s_get0 (k := j * w0 + hk lo i2) (fun Q q => by walk_at "go"; exact q) (fun Q q => by walk_at "go"; exact q) ((rb.same e06).at_) ?_
        exact hY _ _ rfl (Same.refl _) rfl
      walk_at "go"
      refine ⟨D3, ys8, rfl, .inl ⟨SqL.of hy8, fun tt htt => ?_⟩⟩
      walk_at "go"
      have e48 : Same H4 (upd H6 tt (.tup ys8)) := Same.trans e5 (Same.trans e6 (Same.new htt))
      have htt4 : H4 tt = none := none_of (Same.trans e5 e6) htt
      rw [tk_all] at hE8
      have vt : TupOf IntV ((List.range lo.length).map fun i => iv (numb w0 lo e.2 j i)) (.ref tt) (New H4 (upd H6 tt (.tup ys8))) :=
        ⟨tt, ys8, rfl, by rw [New.at_ htt4]; exact upd_same, hE8.mono (Same.trans (New.anti e5) (New.mono (Same.new htt)))⟩
      refine ⟨pl, ws, _, rfl, rfl, e48 pl _ hpl4, sl _ ?_, ?_⟩
      · rw [hE4'.len, List.length_map, List.length_range]
        omega
      refine ⟨Same.mut (Same.trans e4 e48) hpl, _, _, _, rfl, upd_same, ?_⟩
      rw [hide_upd, List.range_succ, List.map_append]
      exact (hE4'.mono (New.mono (hide_same e48))).snoc (Mon.mono (New.both e4 (by rw [hpl4]; simp)) vt)
    · rintro σ H4 ⟨e4, v8, v9, ws, rfl, hpl4, hE4'⟩
      walk_at "go"
      refine ⟨.inl ⟨rfl, _, SqL.of (e4 fl _ hfl3)⟩, ?_⟩
      walk_at "go"
      refine ⟨pl, ws, rfl, .inl ⟨SqL.of hpl4, fun tt htt => ?_⟩⟩
      walk_at "go"
      have e45 : Same H4 (upd H4 tt (.tup ws)) := Same.new htt
      have htt3 : H3 tt = none := none_of e4 htt
      have vt : TupOf (TupOf IntV) (partsI B w0 lo e.2) (.ref tt) (New H3 (upd H4 tt (.tup ws))) :=
        ⟨tt, ws, rfl, by rw [New.at_ htt3]; exact upd_same, hE4'.mono (New.mono (Same.trans hide_le e45))⟩
      have e35 := Same.trans e4 e45
      refine ⟨fl, zs, _, rfl, rfl, e35 fl _ hfl3, sl _ ?_, ?_⟩
      · rw [hE3.len, List.length_map, List.length_take]
        omega
      refine ⟨Same.mut (Same.trans e3 e35) hfl1, _, _, _, _, _, rfl, upd_same, ?_⟩
      rw [hide_upd, htk, List.map_append]
      exact (hE3.mono (New.mono (hide_same e35))).snoc (Mon.mono (New.both e03 (by rw [hfl3]; simp)) vt)
  · rintro σ H3 ⟨e3, v3, v7, v8, v9, zs, rfl, hfl3, hE3⟩
    walk_at "go"
    rw [List.take_length] at hE3
    refine ⟨fl, zs, rfl, .inl ⟨SqL.of hfl3, fun tt htt => ?_⟩⟩
    have e03 := Same.trans e1 e3
    exact k _ _ (Same.trans e03 (Same.new htt)) ⟨tt, zs, rfl, by rw [New.at_ (none_of e03 htt)]; exact upd_same, hE3.mono (New.mono (Same.trans hide_le (Same.new htt)))⟩
end
section
variable {P : Program} {w : World} {K : PySem.W.Frag} {mg : Str → Option Value} {base : Heap} {d : Ad} {p : Nat} [Pr p]
abbrev s_Rungs_letter_rests : Stmt := inClass (top 51) 3
theorem sc_Rungs_letter_rests : FnScope ["self", "length", "side", "heads", "places", "found", "spot", "row", "letter", "goal", "sparse", "here"] ["self", "length", "side"] (defScope s_Rungs_letter_rests) := ⟨rfl, rfl, rfl, by decide +kernel, rfl, by decide +kernel, by decide +kernel⟩
def idx (l : List Nat) (k : Nat) : Nat := ((List.range l.length).find? fun i => l.getD i 0 == k).getD 0
theorem idx_spec {l : List Nat} {k : Nat} (h : k ∈ l) : idx l k < l.length ∧ l.getD (idx l k) 0 = k := by
  obtain ⟨i, hi, rfl⟩ := List.getElem_of_mem h
  unfold idx
  cases hf : (List.range l.length).find? fun j => l.getD j 0 == l[i] with
  | none => exact absurd (List.find?_eq_none.mp hf i (List.mem_range.mpr hi)) (by rw [getD_some (List.getElem?_eq_getElem hi)]; simp)
  | some j =>
    have h2 := List.find?_some hf
    exact ⟨List.mem_range.mp (List.mem_of_find?_eq_some hf), beq_iff_eq.mp h2⟩
theorem getD_inj {l : List Nat} (hn : l.Nodup) {i j : Nat} (hi : i < l.length) (hj : j < l.length) (e : l.getD i 0 = l.getD j 0) : i = j := by
  rw [getD_some (List.getElem?_eq_getElem hi), getD_some (List.getElem?_eq_getElem hj)] at e
  exact (List.getElem_inj hn).mp e
theorem idx_get {l : List Nat} (hn : l.Nodup) {i : Nat} (hi : i < l.length) : idx l (l.getD i 0) = i := by
  have hm : l.getD i 0 ∈ l := by rw [getD_some (List.getElem?_eq_getElem hi)]; exact List.getElem_mem hi
  obtain ⟨h1, h2⟩ := idx_spec hm
  exact getD_inj hn h1 hi h2
theorem plK_dic {l : List Nat} {H : Hp} : DicK IntV ((List.range l.length).map fun i => (l.getD i 0, (i : Int))) (plK l) H := by
  refine ⟨by rw [plK_len]; simp, fun i e kv h1 h2 => ?_⟩
  unfold plK at h2
  rw [List.getElem?_map] at h1 h2
  cases hr : (List.range l.length)[i]? with
  | none => rw [hr] at h1; cases h1
  | some j =>
    rw [hr] at h1 h2
    cases h1
    cases h2
    exact ⟨rfl, rfl⟩
theorem plK_get {l : List Nat} (hn : l.Nodup) {H : Hp} {b : Addr} (hb : Rd H b (.dK (plK l))) {k : Nat} (hk : k ∈ l) : DGet H b (.int (k : Int)) (some (.int (idx l k : Nat))) := by
  obtain ⟨h1, h2⟩ := idx_spec hk
  have hnd : (((List.range l.length).map fun i => (l.getD i 0, (i : Int))).map (·.1)).Nodup := by
    rw [List.map_map]
    have : (List.range l.length).map ((fun x : Nat × Int => x.1) ∘ fun i => (l.getD i 0, (i : Int))) = l := map_range_get l 0
    rw [this]
    exact hn
  obtain ⟨v, hv, rfl⟩ := (plK_dic (l := l) (H := H)).dgot hnd hb (k := k) (f := ((idx l k : Nat) : Int)) (List.mem_map.mpr ⟨idx l k, List.mem_range.mpr h1, by rw [h2]⟩)
  exact hv
def restsL (B : Bk p) (Ih : Nat → List (Hd p)) (l t : Nat) : List (Vec p) := (List.range B.L).map fun a => pick (pls (Ih (l + 1)) (B.L ^ (l + 1))) (rest (Ih (l + 1)) (unit (t * B.L + a)))
def spRests (p : Nat) [Pr p] (d : Ad) : Sp := fun vs H Q _ => ∃ (y : V) (B : Bk p) (m : Nat) (Ih : Nat → List (Hd p)) (cs : List (List (Hd p))) (l : Nat), vs = [y, .int l, .int 0] ∧ RungV d B m Ih cs y H ∧ (∀ n, n ≤ m → IhOk B n (Ih n)) ∧ m ≤ 6 ∧ B.L ^ m ≤ 1000 ∧ l + 1 ≤ m ∧
  ∀ y' H', Same H H' → LstOf (LstOf RowV) ((pls (Ih l) (B.L ^ l)).map fun t => restsL B Ih l t) y' (New H H') → Q y' H'
theorem ok_Rungs_letter_rests {Pf : Addr → Prop} (T : Tx K mg d) (D : DfM K "letter_rests" "Rungs.letter_rests" s_Rungs_letter_rests Pf) (c_cleared : Cal P w K mg base 2 "cleared" (U fun p _ => spCleared p) []) : FnB P w K mg base 3 Pf (U fun p _ => spRests p d) := by
  have nd := sc_Rungs_letter_rests.nd
  refine mkFnU D sc_Rungs_letter_rests (fun p hp vs H Q E h => ?_) (fun _ _ _ _ _ _ us hl => match us, hl with | [_, _, _], _ => rfl) (fun p hp f0 cdv A outer s H vs Q E hr h => ?_)
  · obtain ⟨y, B, m, Ih, cs, l, rfl, _⟩ := h
    rfl
  obtain ⟨y, B, m, Ih, cs, l, rfl, ⟨a, dx, l1, l2, l3, l4, Hh, rfl, eh, ha, v1, v2, v3, v4⟩, hIh, hm6, hb, hlm, k⟩ := h
  have hu := hu_of hr
  have hL1 := B.lo
  have hL9 := B.hi
  have nf : ∀ f ∈ (["prime", "letters", "many", "heads", "places", "commons"] : List Str), NoAttr K d.R f := T.nU
  obtain ⟨b2, zs2, hz2, hl2, hE2⟩ := v2
  cases hz2
  obtain ⟨b3, zs3, hz3, hl3, hE3⟩ := v3
  cases hz3
  obtain ⟨yh, hyh, hd, kvs, rfl, hhd, hdk⟩ := hE2.get (i := l + 1) (f := Ih (l + 1)) (by rw [List.getElem?_map, List.getElem?_range (by omega)]; rfl)
  obtain ⟨yp, hyp, pb, rfl, hpb, hpbh⟩ := hE3.get (i := l) (f := pls (Ih l) (B.L ^ l)) (by rw [List.getElem?_map, List.getElem?_range (by omega)]; rfl)
  obtain ⟨yp2, hyp2, pb2, rfl, hpb2, _⟩ := hE3.get (i := l + 1) (f := pls (Ih (l + 1)) (B.L ^ (l + 1))) (by rw [List.getElem?_map, List.getElem?_range (by omega)]; rfl)
  have hok := hIh (l + 1) (by omega)
  have hp1 : B.L ^ (l + 1) ≤ 1000 := Nat.le_trans (Nat.pow_le_pow_right hL1 hlm) hb
  have hP2n := pls_nodup (Ih (l + 1)) (B.L ^ (l + 1))
  have hPn := pls_nodup (Ih l) (B.L ^ l)
  have hPl := pls_le (B := B) (hs := Ih l) (n := l) (m := m) (by omega) hb
  have hapb : a ≠ pb := fun z => by rw [z, hpb] at ha; cases ha
  have hl3pb : l3 ≠ pb := fun z => by rw [z, hpb] at hl3; cases hl3
  refine ⟨_, (pss_cons (ps_asg (pe_tup (pa_cons (pe_ix (ix_listK (K := K)) (pe_fldK (K := K) (pv 0) rfl) (pe_op op_add (pv 1) pe_int) (fun _ _ => rfl)) (pa_cons (pe_ix (ix_listK (K := K)) (pe_fldK (K := K) (pv 0) rfl) (pe_op op_add (pv 1) pe_int) (fun _ _ => rfl)) (pa_cons (pe_lst pa_nil) pa_nil)))) (pg_tup rfl (pgs_cons (pg_name (i := 3) nd rfl (Or.inl rfl)) (pgs_cons (pg_name (i := 4) nd rfl (Or.inr rfl)) (pgs_cons (pg_name (i := 5) nd rfl (Or.inl rfl)) pgs_nil)))))
    (pss_cons (ps_lock (ps_for PassesOwn.never rfl (pi_keys (pe_ix (ix_listK (K := K)) (pe_fldK (K := K) (pv 0) rfl) (pv 1) (fun _ _ => rfl))) (pg_name (i := 6) nd rfl (Or.inl rfl)) 
      (pss_cons (ps_set (i := 7) nd rfl (Or.inl rfl) (pe_lst pa_nil))
      (pss_cons (ps_for PassesOwn.never rfl (pi_range1 rfl T.range (pa_cons (pe_fldK (K := K) (pv 0) rfl) pa_nil)) (pg_name (i := 8) nd rfl (Or.inl rfl)) 
        (pss_cons (ps_set (i := 9) nd rfl (Or.inl rfl) (pe_ifExp (pt_cmpR op_eq (pv 2) pe_int (nomark _)) (pe_op op_add (pe_op op_mul (pv 6) (pe_fldK (K := K) (pv 0) rfl)) (pv 8)) (pe_op op_add (pe_op op_mul (pv 8) (pe_ix (ix_listK (K := K)) (pe_fldK (K := K) (pv 0) rfl) (pv 1) (fun _ _ => rfl))) (pv 6))))
        (pss_cons (ps_set (i := 10) nd rfl (Or.inr rfl) (pe_c c_cleared hr (by decide) rfl (pa_cons (pe_fldK (K := K) (pv 0) rfl) (pa_cons (pe_disp (pps_cons (pv 9) pe_int pps_nil) rfl rfl (by simp) (by decide)) (pa_cons (pv 3) pa_nil)))))
        (pss_one (ps_expr (pe_bm PySem.F.plainAttrs_list PySem.F.slot_list_append PySem.F.type_list_append mt_append (pv 7) (pa_cons (pe_callTy (cr_dictP rfl) (by rfl) T.dict_ (by decide +kernel) (pa_cons (pe_lock (pe_lc (own := [("here", 11)]) (g := gName 11) (tt := tYes) rfl nd (pi_keys (pv 10)) (blkOk_by (by kernel_rfl)) (fun _ _ _ _ _ => (pg_name (i := 11) nd rfl (Or.inl rfl))) (fun _ _ _ _ _ => pts_nil) (fun _ _ _ _ _ => (pe_tup (pa_cons (pe_dget hu (pv 4) (pv 11) (fun _ _ => rfl)) (pa_cons (pe_dget hu (pv 10) (pv 11) (fun _ _ => rfl)) pa_nil)))))) pa_nil)) pa_nil)))))))
      (pss_one (ps_expr (pe_bm PySem.F.plainAttrs_list PySem.F.slot_list_append PySem.F.type_list_append mt_append (pv 5) (pa_cons (pv 7) pa_nil))))))))
    (pss_one (ps_ret (pv 5))))), ?_⟩
  walk_at "st"
  walk_at "go"
  refine ⟨a, d.R, dx, _, _, rfl, ha, T.clU, nf _ (by simp), rfl, ?_⟩
  walk_at "go"
  rw [show ((l : Nat) : Int) + 1 = ((l + 1 : Nat) : Int) by omega]
  refine r_ixL (SqL.of (eh l2 _ hl2)) hyh ?_
  walk_at "go"
  refine ⟨a, d.R, dx, _, _, rfl, ha, T.clU, nf _ (by simp), rfl, ?_⟩
  walk_at "go"
  rw [show ((l : Nat) : Int) + 1 = ((l + 1 : Nat) : Int) by omega]
  refine r_ixL (SqL.of hl3) hyp2 ?_
  walk_at "go"
  refine ⟨by show 0 ≤ sizeLine; omega, fun fl hfl => ?_⟩
  walk_at "go"
  refine ⟨by show 3 ≤ sizeLine; decide, fun t1 ht1 => ?_⟩
  walk_at "go"
  have e0 : Same H (upd (upd H fl (.lst [])) t1 (.tup [.ref hd, .ref pb2, .ref fl])) := Same.trans (Same.new hfl) (Same.new ht1)
  have hflt : fl ≠ t1 := fun z => by rw [z] at ht1; rw [upd_same] at ht1; cases ht1
  have hfl0 : (upd (upd H fl (.lst [])) t1 (.tup [.ref hd, .ref pb2, .ref fl])) fl = some (.lst []) := by rw [upd_ne hflt, upd_same]
  generalize (upd (upd H fl (.lst [])) t1 (.tup [.ref hd, .ref pb2, .ref fl])) = H0 at *
  have hpb0 := e0 pb _ hpb
  have hflpb : fl ≠ pb := fun z => by rw [z, hpb] at hfl; cases hfl
  refine ⟨pb, .dK (plK (pls (Ih l) (B.L ^ l))), hpb0, trivial, fun od => ?_⟩
  refine r_for ?_
  show tOp _ _ _ _ _ _
  walk_at "go"
  refine ⟨a, d.R, dx, _, _, rfl, by rw [upd_ne hapb]; exact e0 a _ ha, T.clU, nf _ (by simp), rfl, ?_⟩
  walk_at "go"
  refine r_ixL (SqL.of (by rw [upd_ne hl3pb]; exact e0 l3 _ hl3)) hyp ?_
  refine ⟨pb, od, rfl, .inl ⟨_, upd_same, ?_⟩⟩
  have ehL : ∀ H', Same (upd H pb (.frz od (.dK (plK (pls (Ih l) (B.L ^ l)))))) H' → Same Hh H' := fun H' e b u hb => e b u (by rw [upd_ne fun z => by rw [z, hpbh] at hb; cases hb]; exact eh b u hb)
  have haL : ∀ H', Same (upd H pb (.frz od (.dK (plK (pls (Ih l) (B.L ^ l)))))) H' → H' a = some (.ins d.R dx [("prime", .int p), ("letters", .int (B.L : Nat)), ("many", .ref l1), ("heads", .ref l2), ("places", .ref l3), ("commons", .ref l4)]) := fun H' e => e a _ (by rw [upd_ne hapb]; exact ha)
  have hp2L : ∀ H', Same (upd H pb (.frz od (.dK (plK (pls (Ih l) (B.L ^ l)))))) H' → Rd H' pb2 (.dK (plK (pls (Ih (l + 1)) (B.L ^ (l + 1))))) := fun H' e => Same.rd e _ _ (RdE.lock hpb _ _ (.inl hpb2))
  have hflLk : (upd H pb (.frz od (.dK (plK (pls (Ih l) (B.L ^ l)))))) fl = none := by rw [upd_ne hflpb]; exact hfl
  have eLk : Same (upd H pb (.frz od (.dK (plK (pls (Ih l) (B.L ^ l)))))) (upd H0 pb (.frz od (.dK (plK (pls (Ih l) (B.L ^ l)))))) := fun b u hb => by
    by_cases q : b = pb
    · subst q
      rw [upd_same] at hb ⊢
      exact hb
    · rw [upd_ne q] at hb ⊢
      exact e0 b u hb
  have hnew : ∀ b, (upd H pb (.frz od (.dK (plK (pls (Ih l) (B.L ^ l)))))) b = none → H b = none := fun b hb0 => by
    by_cases q : b = pb
    · subst q; rw [upd_same] at hb0; cases hb0
    · rw [upd_ne q] at hb0; exact hb0
  refine for_it (walk_keys.mono (n := (plK (pls (Ih l) (B.L ^ l))).length) (G' := fun H' => Same (upd H pb (.frz od (.dK (plK (pls (Ih l) (B.L ^ l)))))) H') (fun H' e => e pb _ upd_same) fun _ _ _ _ _ _ h => h)
    (fun i σ H' => Same (upd H pb (.frz od (.dK (plK (pls (Ih l) (B.L ^ l)))))) H' ∧ ∃ (v6 v7 v8 v9 v10 : Option V) (zs : List V), σ = [some (.ref a), some (.int l), some (.int 0), some (.ref hd), some (.ref pb2), some (.ref fl), v6, v7, v8, v9, v10, none] ∧ H' fl = some (.lst zs) ∧
      Each (LstOf RowV) (((pls (Ih l) (B.L ^ l)).take i).map fun t => restsL B Ih l t) zs (New H (hide fl H'))) ?_ (fun i σ H' _ h => h.1) ?_ ?_
  · exact ⟨eLk, _, _, _, _, _, [], rfl, by rw [upd_ne hflpb]; exact hfl0, Each.nil⟩
  · rintro i x σ Hx H3 hi ⟨e3, v6, v7, v8, v9, v10, zs, rfl, hfl3, hE3'⟩ ⟨rfl, k0, v0, hk0, rfl⟩
    rw [plK_len] at hi
    unfold plK at hk0
    rw [List.getElem?_map, List.getElem?_range hi] at hk0
    obtain ⟨rfl, rfl⟩ : (Sum.inl (((pls (Ih l) (B.L ^ l)).getD i 0 : Nat) : Int) : Key) = k0 ∧ V.int (i : Nat) = v0 := by
      have := Option.some.inj hk0
      exact ⟨congrArg Prod.fst this, congrArg Prod.snd this⟩
    have hti := List.getElem?_eq_getElem hi
    have hgt : (pls (Ih l) (B.L ^ l)).getD i 0 = (pls (Ih l) (B.L ^ l))[i] := getD_some hti
    have htk : (pls (Ih l) (B.L ^ l)).take (i + 1) = (pls (Ih l) (B.L ^ l)).take i ++ [(pls (Ih l) (B.L ^ l))[i]] := by rw [List.take_succ, hti]; rfl
    have htl : (pls (Ih l) (B.L ^ l))[i] < B.L ^ l := (mem_pls.mp (List.getElem_mem hi)).1
    rw [hgt]
    generalize (pls (Ih l) (B.L ^ l))[i] = t at *
    show gName 6 (.int (t : Int)) _ _ _
    walk_at "go"
    refine ⟨by show 0 ≤ sizeLine; omega, fun rl hrl => ?_⟩
    walk_at "go"
    have e3r := Same.new (o := .lst []) hrl
    refine r_for (r_rng B.L (by omega) (fun QA q => ?_) fun J3 wk3 => ?_)
    · walk_at "go"
      refine ⟨a, d.R, dx, _, _, rfl, haL _ (Same.trans e3 e3r), T.clU, nf _ (by simp), rfl, ?_⟩
      walk_at "go"
      exact q
    refine for_it wk3 (fun j σ H' => Same H3 H' ∧ ∃ (v8 v9 v10 : Option V) (ws : List V), σ = [some (.ref a), some (.int l), some (.int 0), some (.ref hd), some (.ref pb2), some (.ref fl), some (.int (t : Nat)), some (.ref rl), v8, v9, v10, none] ∧ H' rl = some (.lst ws) ∧
      Each RowV ((List.range j).map fun a => pick (pls (Ih (l + 1)) (B.L ^ (l + 1))) (rest (Ih (l + 1)) (unit (t * B.L + a)))) ws (New H3 (hide rl H'))) ?_ (fun _ _ _ _ _ => trivial) ?_ ?_
    · exact ⟨e3r, _, _, _, [], rfl, upd_same, Each.nil⟩
    · rintro j x2 σ Hx H4 hj ⟨e4, v8, v9, v10, ws, rfl, hrl4, hE4'⟩ ⟨rfl, rfl⟩
      have e34 := Same.trans e3 e4
      have hgl : t * B.L + j < B.L ^ (l + 1) := by
        rw [Nat.pow_succ]
        have := Nat.mul_le_mul_right B.L (show t + 1 ≤ B.L ^ l from htl)
        rw [Nat.add_mul, Nat.one_mul] at this
        omega
      have htl2 : t ≤ 1000 := by
        have : B.L ^ l ≤ B.L ^ (l + 1) := Nat.pow_le_pow_right hL1 (by omega)
        omega
      walk_at "go"
      refine r_decT rfl ?_
      walk_at "go"
      refine ⟨a, d.R, dx, _, _, rfl, haL _ e34, T.clU, nf _ (by simp), rfl, ?_⟩
      walk_at "go"
      rw [show ((t : Nat) : Int) * (B.L : Int) + (j : Int) = ((t * B.L + j : Nat) : Int) by push_cast; rfl]
      refine ⟨a, d.R, dx, _, _, rfl, haL _ e34, T.clU, nf _ (by simp), rfl, ?_⟩
      walk_at "go"
      refine r_disp1 (k := ((t * B.L + j : Nat) : Int)) (v := .int 1) (fun H' Q q => by walk_at "go"; exact q) (fun H' Q q => by walk_at "go"; exact q) fun ud hud => ?_
      walk_at "go"
      have e45 : Same H4 (upd H4 ud (.dK [(Sum.inl ((t * B.L + j : Nat) : Int), .int 1)])) := Same.new hud
      have eh5 := ehL _ (Same.trans e34 e45)
      refine ⟨ud, hd, unit (t * B.L + j), Ih (l + 1), kvs, B.L ^ (l + 1), rfl, ⟨_, .inl upd_same, unit_sp _⟩, eh5 hd _ hhd, hdk.mono eh5, hok.red, unit_bd hgl, hok.bd, by omega, fun q H5 g e5 hq rq bg hz hsp => ?_⟩
      have hg : g = rest (Ih (l + 1)) (unit (t * B.L + j)) := rest_uniq hok.red hsp hz
      walk_at "go"
      have e35 := Same.trans e4 (Same.trans e45 e5)
      have e4_5 := Same.trans e45 e5
      refine ⟨.inl ⟨rfl, _, SqL.of (e4_5 rl _ hrl4)⟩, ?_⟩
      walk_at "go"
      have hin : ∀ k, g k ≠ 0 → k ∈ pls (Ih (l + 1)) (B.L ^ (l + 1)) := fun k hk => mem_pls.mpr ⟨Nat.lt_of_not_le fun z => hk (bg k z), fun e he z => hk (z ▸ hz e he)⟩
      refine r_dictKeys rq bg (by omega) (idx (pls (Ih (l + 1)) (B.L ^ (l + 1)))) (pick (pls (Ih (l + 1)) (B.L ^ (l + 1))) g) (fun k k' h h' e => ?_) (fun k hk => ?_) (fun m2 hm2 => ?_) (fun H' Q _ q => by walk_at "go"; exact q) (fun _ => rfl) (fun k H' Q hk rd _ q => ?_) (fun k H' Q hk rd _ q => ?_) fun q2 H6 e6 hq2 rq2 => ?_
      · rw [← (idx_spec (hin k h)).2, ← (idx_spec (hin k' h')).2, e]
      · obtain ⟨z1, z2⟩ := idx_spec (hin k hk)
        unfold pick
        rw [if_pos z1, z2]
        exact hk
      · unfold pick at hm2
        by_cases z : m2 < (pls (Ih (l + 1)) (B.L ^ (l + 1))).length
        · rw [if_pos z] at hm2
          exact ⟨_, hm2, idx_get hP2n z⟩
        · rw [if_neg z] at hm2
          exact absurd rfl hm2
      · walk_at "lc"
        walk_at "go"
        exact ⟨pb2, _, rfl, plK_get hP2n (rd pb2 _ (hp2L _ (Same.trans e3 e35))) (hin k hk), q⟩
      · walk_at "lc"
        walk_at "go"
        refine ⟨_, _, rfl, DGet.row (rq.at_.rd rd) hk, ?_⟩
        have : pick (pls (Ih (l + 1)) (B.L ^ (l + 1))) g (idx (pls (Ih (l + 1)) (B.L ^ (l + 1))) k) = g k := by
          obtain ⟨z1, z2⟩ := idx_spec (hin k hk)
          unfold pick
          rw [if_pos z1, z2]
        rw [this] at q
        exact q
      walk_at "go"
      have e46 := Same.trans e4_5 e6
      have hq24 : H4 q2 = none := none_of e4_5 hq2
      refine ⟨rl, ws, _, rfl, rfl, e46 rl _ hrl4, sl _ ?_, ?_⟩
      · rw [hE4'.len, List.length_map, List.length_range]
        omega
      refine ⟨Same.mut (Same.trans e4 e46) hrl, _, _, _, _, rfl, upd_same, ?_⟩
      rw [hide_upd, List.range_succ, List.map_append]
      refine (hE4'.mono (New.mono (hide_same e46))).snoc (Mon.mono (New.both e4 (by rw [hrl4]; simp)) ?_)
      show RowV (pick _ (rest (Ih (l + 1)) (unit (t * B.L + j)))) _ _
      rw [← hg]
      exact RowX.new hq24 rq2
    · rintro σ H4 ⟨e4, v8, v9, v10, ws, rfl, hrl4, hE4'⟩
      walk_at "go"
      have hfl4 := e4 fl _ hfl3
      refine ⟨.inl ⟨rfl, _, SqL.of hfl4⟩, ?_⟩
      walk_at "go"
      refine ⟨fl, zs, _, rfl, rfl, hfl4, sl _ ?_, ?_⟩
      · rw [hE3'.len, List.length_map, List.length_take]
        omega
      refine ⟨Same.mut (Same.trans e3 e4) hflLk, _, _, _, _, _, _, rfl, upd_same, ?_⟩
      have hrlfl : rl ≠ fl := ne_new hrl (by rw [hfl3]; simp)
      rw [hide_upd, htk, List.map_append]
      have hrlH : H rl = none := hnew rl (none_of e3 hrl)
      refine (hE3'.mono (New.mono (hide_same e4))).snoc ⟨rl, ws, rfl, by rw [New.at_ hrlH, hide_ne hrlfl]; exact hrl4, hE4'.mono fun b u hb => ?_⟩
      have hb3 := New.old hb
      have hbfl : b ≠ fl := fun z => by rw [z, hfl3] at hb3; cases hb3
      rw [New.at_ (hnew b (none_of e3 hb3)), hide_ne hbfl]
      rw [New.at_ hb3] at hb
      exact hide_le b u hb
  · rintro σ H3 ⟨e3, v6, v7, v8, v9, v10, zs, rfl, hfl3, hE3'⟩
    refine ⟨e3 pb _ upd_same, ?_⟩
    walk_at "go"
    have eu : Same H (upd H3 pb (.dK (plK (pls (Ih l) (B.L ^ l))))) := Same.unlock hpb e3
    rw [List.take_of_length_le (by rw [plK_len]; exact Nat.le_refl _)] at hE3'
    refine k _ _ eu ⟨fl, zs, rfl, by rw [New.at_ hfl, upd_ne hflpb]; exact hfl3, hE3'.mono fun b u hb => ?_⟩
    have hb3 := New.old hb
    have hbp : b ≠ pb := fun z => by rw [z, hpb] at hb3; cases hb3
    rw [New.at_ hb3, upd_ne hbp]
    rw [New.at_ hb3] at hb
    exact hide_le b u hb
end
section
variable {P : Program} {w : World} {K : PySem.W.Frag} {mg : Str → Option Value} {base : Heap} {d : Ad} {p : Nat} [Pr p]
/-! ### a row that may hold zeros -/
def SpZ (N : Nat) (kvs : List (Key × V)) (f : Vec p) : Prop := ∃ ks : List Nat, ks.Nodup ∧ kvs = ks.map (ent f) ∧ (∀ k, f k ≠ 0 → k ∈ ks) ∧ ∀ k ∈ ks, k < N
def RowZ (N : Nat) (H : Hp) (a : Addr) (f : Vec p) : Prop := ∃ kvs, H a = some (.dK kvs) ∧ SpZ N kvs f
theorem RowZ.same {N : Nat} {H H' : Hp} {a : Addr} {f : Vec p} (e : Same H H') (h : RowZ N H a f) : RowZ N H' a f := let ⟨kvs, r, s⟩ := h; ⟨kvs, e a _ r, s⟩
theorem spz_get {N : Nat} {kvs : List (Key × V)} {f : Vec p} (h : SpZ N kvs f) (k : Nat) : (valV kvs (Sum.inl (k : Int) : Key)).getD (.int 0) = .int (iv (f k)) := by
  obtain ⟨ks, hn, rfl, h1, h2⟩ := h
  rw [valV_ent]
  by_cases q : k ∈ ks
  · rw [if_pos q]
    rfl
  · rw [if_neg q]
    have : f k = 0 := Classical.byContradiction fun z => q (h1 k z)
    rw [this]
    rfl
theorem spz_put {N : Nat} {kvs : List (Key × V)} {f : Vec p} (h : SpZ N kvs f) {k : Nat} (hk : k < N) (x : Fin p) : SpZ N (putK kvs (Sum.inl (k : Int)) (V.int (iv x))) (set1 f k x) := by
  obtain ⟨ks, hn, rfl, h1, h2⟩ := h
  by_cases q : k ∈ ks
  · refine ⟨ks, hn, ?_, fun j hj => ?_, h2⟩
    · unfold putK
      have ha : ((ks.map (ent f)).any fun kv => decide (kv.1 = (Sum.inl (k : Int) : Key))) = true := List.any_eq_true.mpr ⟨ent f k, List.mem_map.mpr ⟨k, q, rfl⟩, decide_eq_true rfl⟩
      rw [if_pos ha, List.map_map]
      refine List.map_congr_left fun j _ => ?_
      show (if (Sum.inl (j : Int) : Key) = Sum.inl (k : Int) then ((Sum.inl (j : Int) : Key), V.int (iv x)) else ((Sum.inl (j : Int) : Key), V.int (iv (f j)))) = ((Sum.inl (j : Int) : Key), V.int (iv (if j = k then x else f j)))
      by_cases e : j = k
      · rw [if_pos (key_inj.mpr e), if_pos e]
      · rw [if_neg fun z => e (key_inj.mp z), if_neg e]
    · by_cases e : j = k
      · rw [e]; exact q
      · unfold set1 at hj
        rw [if_neg e] at hj
        exact h1 j hj
  · have hv : valV (ks.map (ent f)) (Sum.inl (k : Int) : Key) = none := by rw [valV_ent, if_neg q]
    rw [putK_new _ hv]
    refine ⟨ks ++ [k], nd_snoc hn q, ?_, fun j hj => ?_, fun j hj => ?_⟩
    · rw [List.map_append]
      refine congr (congrArg _ (map_ent_congr fun j hj => ?_)) ?_
      · unfold set1
        rw [if_neg fun e : j = k => q (e ▸ hj)]
      · show [((Sum.inl (k : Int) : Key), V.int (iv x))] = [ent (set1 f k x) k]
        unfold ent set1
        rw [if_pos rfl]
    · rw [List.mem_append, List.mem_singleton]
      by_cases e : j = k
      · exact .inr e
      · unfold set1 at hj
        rw [if_neg e] at hj
        exact .inl (h1 j hj)
    · rcases List.mem_append.mp hj with hj | hj
      · exact h2 j hj
      · rw [List.mem_singleton.mp hj]; exact hk
theorem spz_len {N : Nat} {kvs : List (Key × V)} {f : Vec p} (h : SpZ N kvs f) : kvs.length ≤ N := by
  obtain ⟨ks, hn, rfl, h1, h2⟩ := h
  rw [List.length_map]
  exact nodup_len hn h2
/-- dict([(k, row[k]) for k in row if row[k] != 0]) -/
theorem r_dictNz {σ : L2.St} {H : Hp} {Q : VK} {td t1 t2 : TE} {tt : TT} {j : Nat} {a : Addr} {f : Vec p} {N : Nat} (hx : RowZ N H a f) (hN : N ≤ 2000)
    (ht : ∀ H' (Q : VK), Q (.ref a) H' → td σ H' Q)
    (hw : ∀ x, wipe ((wipe σ [j]).set j x) [j] = wipe σ [j])
    (e0 : ∀ k H' (QB : Bool → Hp → Prop), DGet H' a (.int (k : Nat)) (some (.int (iv (f k)))) → (f k ≠ 0 → QB true H') → (f k = 0 → QB false H') → tt ((wipe σ [j]).set j (some (.int (k : Nat)))) H' QB)
    (e1 : ∀ k H' (Q : VK), Q (.int (k : Nat)) H' → t1 ((wipe σ [j]).set j (some (.int (k : Nat)))) H' Q)
    (e2 : ∀ k H' (Q : VK), DGet H' a (.int (k : Nat)) (some (.int (iv (f k)))) → Q (.int (iv (f k))) H' → t2 ((wipe σ [j]).set j (some (.int (k : Nat)))) H' Q)
    (hq : ∀ q H', Same H H' → H q = none → RowX H' q f → Q (.ref q) H') :
    tDictP K (tCons (tLockE (tLc (iKeys td) (gName j) tt (tTup (tCons t1 (tCons t2 tNil))) [j])) tNil) σ H Q := by
  obtain ⟨kv, hkv, ks, hkn, rfl, h1, h2⟩ := hx
  have hlen : ks.length ≤ 2000 := Nat.le_trans (nodup_len hkn h2) hN
  refine r_dictP' (r_cons ⟨a, .dK (ks.map (ent f)), hkv, trivial, fun od => ?_⟩)
  have haL : (upd H a (.frz od (.dK (ks.map (ent f))))) a = some (.frz od (.dK (ks.map (ent f)))) := upd_same
  refine r_lc (ht _ _ ⟨a, od, rfl, .inl ⟨_, haL, ?_⟩⟩)
  refine lc_rel (walk_keys.mono (n := (ks.map (ent f)).length) (G' := fun H' => Same (upd H a (.frz od (.dK (ks.map (ent f))))) H') (fun H' e => e a _ haL) fun _ _ _ _ _ _ h => h) (fun i => decide (f (ks.getD i 0) ≠ 0))
    (fun i y H' => PairV (ks.getD i 0, .int (iv (f (ks.getD i 0)))) y (hide a H')) (fun i y H H' e h => Mon.mono (hide_same e) h) (fun _ h => h) (by rw [List.length_map]; omega) (fun i x H1 H2 kY kN hi e y hY hNo => ?_) (fun D H' ys hD e hy m => ?_)
  · obtain ⟨rfl, k, v, hk, rfl⟩ := y
    rw [List.length_map] at hi
    rw [List.getElem?_map, List.getElem?_eq_getElem hi] at hk
    obtain ⟨rfl, rfl⟩ : (Sum.inl ((ks[i] : Nat) : Int) : Key) = k ∧ V.int (iv (f ks[i])) = v := by
      have := Option.some.inj hk
      exact ⟨congrArg Prod.fst this, congrArg Prod.snd this⟩
    have hgd : ks.getD i 0 = ks[i] := getD_some (List.getElem?_eq_getElem hi)
    have hfk : ks[i] ∈ ks := List.getElem_mem hi
    have hdg : ∀ H3, Same (upd H a (.frz od (.dK (ks.map (ent f))))) H3 → DGet H3 a (.int ((ks[i] : Nat) : Int)) (some (.int (iv (f ks[i])))) := fun H3 e3 => by
      refine .inl ⟨_, Sum.inl ((ks[i] : Nat) : Int), .inr ⟨od, e3 a _ haL⟩, rfl, ?_⟩
      rw [valV_ent, if_pos hfk]
    refine ⟨hw _, e0 _ _ _ (hdg _ e) (fun hne => r_true (r_tup (r_cons (e1 _ _ _ (r_cons (e2 _ _ _ (hdg _ e) (r_nil ?_))))))) (fun h0 => r_false (hNo _ (by rw [hgd]; exact decide_eq_false fun z => z h0) (Same.refl _)))⟩
    refine ⟨by show 2 ≤ sizeLine; decide, fun q hq => hY _ _ (by rw [hgd]; exact decide_eq_true hne) (Same.new hq) fun d hd hdn => ?_⟩
    have hqd : q ≠ d := ne_new hq hdn
    have hqa : q ≠ a := ne_new hq (by rw [e a _ haL]; simp)
    refine ⟨q, rfl, ?_⟩
    rw [hide_ne hqa, hide_ne hqd, upd_same, hgd]
  · have hDa : D ≠ a := ne_new hD (by rw [haL]; simp)
    have hHD : H D = none := by rw [upd_ne hDa] at hD; exact hD
    have eu : Same H (upd H' a (.dK (ks.map (ent f)))) := Same.unlock hkv e
    refine ⟨e a _ haL, r_nil ?_⟩
    have ey2 : Each PairV ((tk (ks.map (ent f)).length fun i => decide (f (ks.getD i 0) ≠ 0)).map fun i => (ks.getD i 0, V.int (iv (f (ks.getD i 0))))) ys (upd H' a (.dK (ks.map (ent f)))) := by
      refine m.each fun i _ y h => Mon.mono ?_ h
      have e2 : hide a H' = hide a (upd H' a (.dK (ks.map (ent f)))) := hide_upd.symm
      rw [e2]
      exact hide_le
    have hkeys : ((tk (ks.map (ent f)).length fun i => decide (f (ks.getD i 0) ≠ 0)).map fun i => (ks.getD i 0, V.int (iv (f (ks.getD i 0))))).map (·.1) = (tk ks.length fun i => decide (f (ks.getD i 0) ≠ 0)).map fun i => ks.getD i 0 := by
      rw [List.map_map, List.length_map]
      rfl
    have hnd : ((tk ks.length fun i => decide (f (ks.getD i 0) ≠ 0)).map fun i => ks.getD i 0).Nodup := by
      refine List.pairwise_map.mpr (List.Pairwise.imp_of_mem (fun {x y} hx hy hne h => hne ?_) tk_nodup)
      have hx' := (mem_tk.mp hx).1
      have hy' := (mem_tk.mp hy).1
      exact getD_inj hkn hx' hy' h
    refine dict_pairsR ey2 (by rw [hkeys]; exact hnd) (by rw [upd_ne hDa]; exact hy) fun b hb => ?_
    refine hq b _ (Same.trans eu (Same.new hb)) (none_of eu hb) ⟨_, upd_same, spK_of (by rw [hkeys]; exact hnd) (fun e he => ?_) fun m => ?_⟩
    · obtain ⟨i, _, rfl⟩ := List.mem_map.mp he
      rfl
    · rw [hkeys, List.mem_map]
      constructor
      · intro hm
        obtain ⟨i, hi, rfl⟩ := List.getElem_of_mem (h1 m hm)
        refine ⟨i, mem_tk.mpr ⟨hi, ?_⟩, getD_some (List.getElem?_eq_getElem hi)⟩
        rw [getD_some (List.getElem?_eq_getElem hi)]
        exact decide_eq_true hm
      · rintro ⟨i, hi, rfl⟩
        exact of_decide_eq_true (mem_tk.mp hi).2
open Classical in
noncomputable def accS (f t : Vec p) (S : Nat → Prop) : Vec p := fun j => f j + if S j then t j else 0
theorem accS_put {f t : Vec p} {S S' : Nat → Prop} {j0 : Nat} (h0 : ¬ S j0) (h1 : ∀ j, S' j ↔ S j ∨ j = j0) : set1 (accS f t S) j0 (accS f t S j0 + t j0) = accS f t S' := by
  funext j
  unfold set1 accS
  by_cases e : j = j0
  · subst e
    rw [if_pos rfl, if_neg h0, if_pos ((h1 j).mpr (.inr rfl))]
    grind
  · rw [if_neg e]
    by_cases q : S j
    · rw [if_pos q, if_pos ((h1 j).mpr (.inl q))]
    · rw [if_neg q, if_neg fun z => ((h1 j).mp z).elim q e]
theorem accS_none {f t : Vec p} {S : Nat → Prop} (h : ∀ j, ¬ S j) : accS f t S = f := by
  funext j
  unfold accS
  rw [if_neg (h j)]
  grind
theorem accS_congr {f t : Vec p} {S S' : Nat → Prop} (h : ∀ j, S j ↔ S' j) : accS f t S = accS f t S' := by
  have : S = S' := funext fun j => propext (h j)
  rw [this]
abbrev s_Rungs_step : Stmt := inClass (top 51) 4
theorem sc_Rungs_step : FnScope ["self", "length", "step", "side", "parts", "wide", "found", "rests", "part", "row", "letter", "numbers", "place", "k", "number", "spot"] ["self", "length", "step", "side"] (defScope s_Rungs_step) := ⟨rfl, rfl, rfl, by decide +kernel, rfl, by decide +kernel, by decide +kernel⟩
def spStep (p : Nat) [Pr p] (d : Ad) : Sp := fun vs H Q _ => ∃ (y : V) (B : Bk p) (m : Nat) (Ih : Nat → List (Hd p)) (cs : List (List (Hd p))) (n s : Nat), vs = [y, .int n, .int (s + 1 : Nat), .int 0] ∧ RungV d B m Ih cs y H ∧ (∀ n, n ≤ m → IhOk B n (Ih n)) ∧ Com B cs ∧ cs.length = max 3 (m + 1) ∧ m ≤ 6 ∧ B.L ^ m ≤ 1000 ∧ s + 1 ≤ n ∧ n ≤ m ∧
  ∀ y' H', Same H H' → LstOf RowV (stepL B Ih cs n (s + 1)) y' (New H H') → Q y' H'
theorem s_getZ {σ : L2.St} {H : Hp} {Q : VK} {td ty : TE} {a : Addr} {k N : Nat} {F : Vec p} (h1 : ∀ Q : VK, Q (.ref a) H → td σ H Q) (h2 : ∀ Q : VK, Q (.int (k : Int)) H → ty σ H Q) (h : RowZ N H a F) (q : Q (.int (iv (F k))) H) :
    tDGet2 td ty (tC (.int 0)) σ H Q := by
  obtain ⟨kvs, h, sp⟩ := h
  refine h1 _ ⟨a, rfl, .inl ⟨kvs, .inl h⟩, h2 _ ⟨_, .inl ⟨kvs, Sum.inl (k : Int), .inl h, rfl, rfl⟩, ?_⟩⟩
  rw [spz_get sp]
  exact q
theorem dput_z {N : Nat} {H : Hp} {a : Addr} {f : Vec p} (h : RowZ N H a f) (hN : N ≤ 2000) {k : Nat} (hk : k < N) (x : Fin p) : ∃ H', DPut H a (.int (k : Int)) (.int (iv x)) H' ∧ Off a H H' ∧ RowZ N H' a (set1 f k x) := by
  obtain ⟨kvs, h, sp⟩ := h
  exact ⟨_, .inl ⟨kvs, Sum.inl (k : Int), h, rfl, Nat.lt_of_le_of_lt (Nat.le_trans (spz_len sp) hN) (by decide), rfl⟩, Off.upd, _, upd_same, spz_put sp hk x⟩
theorem tup_lock {ns : List Int} {y : V} {H : Hp} {q : Addr} {kvs : List (Key × V)} {z : HO} (h : TupOf IntV ns y H) (hq : H q = some (.dK kvs)) : TupOf IntV ns y (upd H q z) := by
  obtain ⟨b, ys, rfl, hb, he⟩ := h
  exact ⟨b, ys, rfl, by rw [upd_ne fun e => by rw [e, hq] at hb; cases hb]; exact hb, he.len, fun i f y h1 h2 => he.at_ i f y h1 h2⟩
theorem sg_succ (n : Nat) (x : Nat → Fin p) : sg (n + 1) x = sg n x + x n := rfl
/-- the row behind the first letters -/
def accV (c w : Nat) (pl : List Nat) (lo : List (Hd p)) (ra : Nat → Vec p) (e : Vec p) : Vec p := fun j =>
  if j < pl.length * lo.length then sg c (fun a => pick pl (ra a) (j / lo.length) * numb w lo e a (j % lo.length)) else 0
def termV (w : Nat) (pl : List Nat) (lo : List (Hd p)) (r : Vec p) (e : Vec p) (a : Nat) : Vec p := fun j => r (j / lo.length) * numb w lo e a (j % lo.length)
theorem acc_next {w : Nat} {pl : List Nat} {lo : List (Hd p)} {ra : Nat → Vec p} {e : Vec p} {a : Nat} {ks : List Nat} (hk : ∀ k, k ∈ ks ↔ pick pl (ra a) k ≠ 0) :
    accS (accV a w pl lo ra e) (termV w pl lo (pick pl (ra a)) e a) (fun j => j / lo.length ∈ ks ∧ j < pl.length * lo.length) = accV (a + 1) w pl lo ra e := by
  funext j
  unfold accS accV termV
  by_cases q : j < pl.length * lo.length
  · rw [if_pos q, if_pos q, sg_succ]
    by_cases z : j / lo.length ∈ ks
    · rw [if_pos ⟨z, q⟩]
    · rw [if_neg fun h => z h.1]
      have : pick pl (ra a) (j / lo.length) = 0 := Classical.byContradiction fun h => z ((hk _).mpr h)
      rw [this]
      grind
  · rw [if_neg q, if_neg q, if_neg fun h => q h.2]
    grind
theorem ok_Rungs_step {Pf : Addr → Prop} (T : Tx K mg d) (D : DfM K "step" "Rungs.step" s_Rungs_step Pf) (c_Rungs_parts_off : Met P w K mg base 1 d.R "parts_off" (U fun p _ => spParts p d) []) (c_Rungs_letter_rests : Met P w K mg base 3 d.R "letter_rests" (U fun p _ => spRests p d) []) : FnB P w K mg base 4 Pf (U fun p _ => spStep p d) := by
  have nd := sc_Rungs_step.nd
  refine mkFnU D sc_Rungs_step (fun p hp vs H Q E h => ?_) (fun _ _ _ _ _ _ us hl => match us, hl with | [_, _, _, _], _ => rfl) (fun p hp f0 cdv A outer s H vs Q E hr h => ?_)
  · obtain ⟨y, B, m, Ih, cs, n, s, rfl, _⟩ := h
    rfl
  obtain ⟨y, B, m, Ih, cs, n, s, rfl, hrv, hIh, C, hcl, hm6, hb, hsn, hnm, k⟩ := h
  obtain ⟨a, dx, l1, l2, l3, l4, Hh, rfl, eh, ha, v1, v2, v3, v4⟩ := id hrv
  have hu := hu_of hr
  have hL1 := B.lo
  have hL9 := B.hi
  have nf : ∀ f ∈ (["prime", "letters", "many", "heads", "places", "commons"] : List Str), NoAttr K d.R f := T.nU
  obtain ⟨b4, zs4, hz4, hl4, hE4⟩ := v4
  cases hz4
  have hsc : s + 1 < cs.length := by omega
  have hcs := List.getElem?_eq_getElem hsc
  have hcs0 := List.getElem?_eq_getElem (show s < cs.length by omega)
  have hgc : cs.getD (s + 1) [] = cs[s + 1] := getD_some hcs
  have hglo : cs.getD s [] = cs[s] := getD_some hcs0
  obtain ⟨Rc, bc⟩ := com_red C hcs
  obtain ⟨Rlo, blo⟩ := com_red C hcs0
  have hstL : stepL B Ih cs n (s + 1) = (pls (Ih (n - (s + 1))) (B.L ^ (n - (s + 1)))).flatMap fun t => cs[s + 1].map fun e => stepV B.L (B.L ^ s) (pls (Ih (n - (s + 1) + 1)) (B.L ^ (n - (s + 1) + 1))) cs[s] (fun a => rest (Ih (n - (s + 1) + 1)) (unit (t * B.L + a))) e.2 := by
    unfold stepL
    rw [hgc, Nat.add_sub_cancel, hglo]
  generalize cs[s + 1] = c at *
  generalize cs[s] = lo at *
  obtain ⟨ylo, hylo, vlo⟩ := hE4.get (i := s) (f := lo.map (·.2)) (by unfold rws; rw [List.getElem?_map, hcs0]; rfl)
  obtain ⟨l, hl⟩ : ∃ l, l = n - (s + 1) := ⟨_, rfl⟩
  rw [← hl] at hstL
  have hp0 : B.L ^ s ≤ 1000 := Nat.le_trans (Nat.pow_le_pow_right hL1 (by omega)) hb
  have hp1 : B.L ^ (s + 1) ≤ 1000 := Nat.le_trans (Nat.pow_le_pow_right hL1 (by omega)) hb
  have hlol : lo.length ≤ B.L ^ s := Rlo.len blo
  have hcl2 : c.length ≤ B.L ^ (s + 1) := Rc.len bc
  have hPl := pls_le (B := B) (hs := Ih l) (n := l) (m := m) (by omega) hb
  have hP2 := pls_len (Ih (l + 1)) (B.L ^ (l + 1))
  have hcP : c.length * (pls (Ih l) (B.L ^ l)).length ≤ 1000 := by
    have h1 := Nat.mul_le_mul hcl2 (pls_len (Ih l) (B.L ^ l))
    rw [← Nat.pow_add, show s + 1 + l = n by omega] at h1
    have := Nat.pow_le_pow_right hL1 hnm
    omega
  have hN : (pls (Ih (l + 1)) (B.L ^ (l + 1))).length * lo.length ≤ 1000 := by
    have h1 := Nat.mul_le_mul hP2 hlol
    rw [← Nat.pow_add, show l + 1 + s = n by omega] at h1
    have := Nat.pow_le_pow_right hL1 hnm
    omega
  refine ⟨_, (pss_cons (ps_par3 (i := 4) (j := 5) (l := 6) rfl nd rfl rfl rfl (by decide) (by decide) (by decide) rfl rfl rfl (pa_cons (pe_mt c_Rungs_parts_off hr (by decide) (pv 0) (pa_cons (pv 2) (pa_cons (pv 3) pa_nil))) (pa_cons (pe_callB (call_lenK (K := K)) (by rfl) T.len (by decide +kernel) (pa_cons (pe_ix (ix_listK (K := K)) (pe_fldK (K := K) (pv 0) rfl) (pe_op op_sub (pv 2) pe_int) (fun _ _ => rfl)) pa_nil)) (pa_cons (pe_lst pa_nil) pa_nil))) (by rfl))
    (pss_cons (ps_for PassesOwn.never rfl (pi_listK (K := K) (pe_mt c_Rungs_letter_rests hr (by decide) (pv 0) (pa_cons (pe_op op_sub (pv 1) (pv 2)) (pa_cons (pv 3) pa_nil)))) (pg_name (i := 7) nd rfl (Or.inl rfl)) 
      (pss_one (ps_for PassesOwn.never rfl (pi_tupK (K := K) (pv 4)) (pg_name (i := 8) nd rfl (Or.inl rfl)) 
        (pss_cons (ps_set (i := 9) nd rfl (Or.inr rfl) pe_dnewK)
        (pss_cons (ps_for PassesOwn.never rfl (pi_enumTK (K := K) rfl T.enumerate (pa_cons (pv 8) pa_nil)) (pg_tup rfl (pgs_cons (pg_name (i := 10) nd rfl (Or.inl rfl)) (pgs_cons (pg_name (i := 11) nd rfl (Or.inl rfl)) pgs_nil))) 
          (pss_one (ps_lock (ps_for PassesOwn.never rfl (pi_keys (pe_ix (ix_listK (K := K)) (pv 7) (pv 10) (fun _ _ => rfl))) (pg_name (i := 12) nd rfl (Or.inl rfl)) 
            (pss_one (ps_for PassesOwn.never rfl (pi_enumTK (K := K) rfl T.enumerate (pa_cons (pv 11) pa_nil)) (pg_tup rfl (pgs_cons (pg_name (i := 13) nd rfl (Or.inl rfl)) (pgs_cons (pg_name (i := 14) nd rfl (Or.inl rfl)) pgs_nil))) 
              (pss_cons (ps_set (i := 15) nd rfl (Or.inl rfl) (pe_op op_add (pe_op op_mul (pv 12) (pv 5)) (pv 13)))
              (pss_one (ps_dput hu (pv 9) (pv 15) (pe_op op_mod (pe_op op_add (pe_dget2 hu (pv 9) (pv 15) pe_int ⟨rfl, rfl, rfl, rfl⟩) (pe_op op_mul (pe_dget hu (pe_ix (ix_listK (K := K)) (pv 7) (pv 10) (fun _ _ => rfl)) (pv 12) (fun _ _ => rfl)) (pv 14))) (pe_fldK (K := K) (pv 0) rfl)) rfl)))))))))
        (pss_one (ps_expr (pe_bm PySem.F.plainAttrs_list PySem.F.slot_list_append PySem.F.type_list_append mt_append (pv 6) (pa_cons (pe_callTy (cr_dictP rfl) (by rfl) T.dict_ (by decide +kernel) (pa_cons (pe_lock (pe_lc (own := [("k", 13)]) (g := gName 13)  rfl nd (pi_keys (pv 9)) (blkOk_by (by kernel_rfl)) (fun _ _ _ _ _ => (pg_name (i := 13) nd rfl (Or.inl rfl))) (fun _ _ _ _ _ => (pts_one (pt_cmpR op_ne (pe_dget hu (pv 9) (pv 13) (fun _ _ => rfl)) pe_int (nomark _)))) (fun _ _ _ _ _ => (pe_tup (pa_cons (pv 13) (pa_cons (pe_dget hu (pv 9) (pv 13) (fun _ _ => rfl)) pa_nil)))))) pa_nil)) pa_nil)))))))))
    (pss_one (ps_ret (pv 6))))), ?_⟩
  walk_at "st"
  walk_at "go"
  refine ⟨a, dx, _, rfl, ha, rfl, ?_⟩
  walk_at "go"
  refine ⟨_, B, m, Ih, cs, s, c, lo, rfl, hrv, C, hm6, hb, by omega, hcs, hcs0, fun y1 H1 e1 w1 => ?_⟩
  walk_at "go"
  refine ⟨a, d.R, dx, _, _, rfl, e1 a _ ha, T.clU, nf _ (by simp), rfl, ?_⟩
  walk_at "go"
  rw [show ((s + 1 : Nat) : Int) - 1 = ((s : Nat) : Int) by omega]
  refine r_ixL (SqL.of (e1 l4 _ hl4)) hylo ?_
  obtain ⟨blo', yslo, rfl, hblo, hElo⟩ := vlo
  refine ⟨blo', yslo, rfl, .inl (SqL.of (e1 blo' _ hblo)), ?_⟩
  rw [show yslo.length = lo.length by rw [hElo.len, List.length_map]]
  walk_at "go"
  refine ⟨by show 0 ≤ sizeLine; omega, fun fl hfl => ?_⟩
  walk_at "go"
  have hflH : H fl = none := none_of e1 hfl
  have e1f : Same H1 (upd H1 fl (.lst [])) := Same.new hfl
  refine r_for (r_iL ?_)
  walk_at "go"
  refine ⟨a, dx, _, rfl, e1f a _ (e1 a _ ha), rfl, ?_⟩
  walk_at "go"
  rw [show ((n : Nat) : Int) - ((s + 1 : Nat) : Int) = ((l : Nat) : Int) by omega]
  have e01f := Same.trans e1 e1f
  have hrvM : RungV d B m Ih cs (.ref a) (upd H1 fl (.lst [])) := by
    obtain ⟨a', dx', l1', l2', l3', l4', Hh', h0, h1, h2, h3, h4, h5, h6⟩ := hrv
    exact ⟨a', dx', l1', l2', l3', l4', Hh', h0, Same.trans h1 e01f, e01f a' _ h2, Mon.mono e01f h3, h4, Mon.mono e01f h5, Mon.mono e01f h6⟩
  refine ⟨_, B, m, Ih, cs, l, rfl, hrvM, hIh, hm6, hb, by omega, fun y2 H2 e2 w2 => ?_⟩
  have hfl2 := e2 fl _ upd_same
  have eb : Same (New (upd H1 fl (.lst [])) H2) (hide fl H2) := New.hide (by rw [upd_same]; simp)
  have e02 := Same.trans e01f e2
  obtain ⟨r2, ys, rfl, hr2, hys⟩ : LstOf (LstOf RowV) ((pls (Ih l) (B.L ^ l)).map fun t => restsL B Ih l t) y2 (hide fl H2) := Mon.mono eb w2
  refine ⟨r2, rfl, ⟨ys, SqL.of (hide_le r2 _ hr2)⟩, ?_⟩
  have wk : Walk (Itl K r2) (pls (Ih l) (B.L ^ l)).length (fun H' => Same (hide fl H2) H') (YAt ys) := by
    have := (walk_list (K := K) (a := r2) (xs := ys)).mono (G' := fun H' => Same (hide fl H2) H') (sameL hr2) fun _ _ _ _ _ _ h => h
    rw [hys.len, List.length_map] at this
    exact this
  have w1b : TupOf (TupOf (TupOf IntV)) (c.map fun e => partsI B (B.L ^ s) lo e.2) y1 (hide fl H2) := Mon.mono (fun b u hb => by
    have hb1 := New.le b u hb
    have hbf : b ≠ fl := ne_of_none hb1 hfl
    rw [hide_ne hbf]
    exact e2 b u (by rw [upd_ne hbf]; exact hb1)) w1
  have hH2 : Same H (hide fl H2) := hide_base hflH e02
  generalize hP2d : pls (Ih (l + 1)) (B.L ^ (l + 1)) = P2 at *
  generalize hPd : pls (Ih l) (B.L ^ l) = P at *
  generalize hwd : B.L ^ s = w0 at *
  refine for_it wk (fun i σ H' => Same (hide fl H2) H' ∧ ∃ (v7 v8 v9 v10 v11 v12 v13 v14 v15 : Option V) (zs : List V), σ = [some (.ref a), some (.int n), some (.int (s + 1 : Nat)), some (.int 0), some y1, some (.int (lo.length : Nat)), some (.ref fl), v7, v8, v9, v10, v11, v12, v13, v14, v15] ∧ H' fl = some (.lst zs) ∧
    Each RowV ((P.take i).flatMap fun t => c.map fun e => stepV B.L w0 P2 lo (fun a => rest (Ih (l + 1)) (unit (t * B.L + a))) e.2) zs (New H (hide fl H'))) ?_ (fun i σ H' _ h => h.1) ?_ ?_
  · exact ⟨hide_le, _, _, _, _, _, _, _, _, _, [], rfl, hfl2, by simp; exact Each.nil⟩
  · rintro i x σ Hx H3 hi ⟨e3, v7, v8, v9, v10, v11, v12, v13, v14, v15, zs, rfl, hfl3, hE3⟩ ⟨rfl, hx⟩
    have hti := List.getElem?_eq_getElem hi
    have htk : P.take (i + 1) = P.take i ++ [P[i]] := by rw [List.take_succ, hti]; rfl
    have hrs := hys.at_ i (restsL B Ih l P[i]) x (by rw [List.getElem?_map, hti]; rfl) hx
    generalize P[i] = t at *
    have hrsl : restsL B Ih l t = (List.range B.L).map fun a => pick P2 (rest (Ih (l + 1)) (unit (t * B.L + a))) := by unfold restsL; rw [hP2d]
    rw [hrsl] at hrs
    have htil : (P.take i).length ≤ i := by rw [List.length_take]; omega
    walk_at "go"
    refine r_for (r_itT w1b e3 (fun Q q => by walk_at "go"; exact q) fun J2 ys2 hys2 wk2 => ?_)
    rw [List.length_map] at wk2
    refine for_it wk2 (fun i2 σ H' => Same (hide fl H2) H' ∧ ∃ (v8 v9 v10 v11 v12 v13 v14 v15 : Option V) (zs : List V), σ = [some (.ref a), some (.int n), some (.int (s + 1 : Nat)), some (.int 0), some y1, some (.int (lo.length : Nat)), some (.ref fl), some x, v8, v9, v10, v11, v12, v13, v14, v15] ∧ H' fl = some (.lst zs) ∧
      Each RowV (((P.take i).flatMap fun t => c.map fun e => stepV B.L w0 P2 lo (fun a => rest (Ih (l + 1)) (unit (t * B.L + a))) e.2) ++ (c.take i2).map fun e => stepV B.L w0 P2 lo (fun a => rest (Ih (l + 1)) (unit (t * B.L + a))) e.2) zs (New H (hide fl H'))) ?_ (fun i σ H' _ h => h.1) ?_ ?_
    · exact ⟨e3, _, _, _, _, _, _, _, _, zs, rfl, hfl3, by rw [List.take_zero, List.map_nil, List.append_nil]; exact hE3⟩
    · rintro i2 x2 σ Hx H4 hi2 ⟨e4, v8, v9, v10, v11, v12, v13, v14, v15, zs, rfl, hfl4, hE4'⟩ ⟨rfl, hx2⟩
      have hci := List.getElem?_eq_getElem hi2
      have hpart := hys2.at_ i2 (partsI B w0 lo c[i2].2) x2 (by rw [List.getElem?_map, hci]; rfl) hx2
      have htk2 : c.take (i2 + 1) = c.take i2 ++ [c[i2]] := by rw [List.take_succ, hci]; rfl
      generalize c[i2] = e at *
      have hH4 := Same.trans hH2 e4
      have ha4 := hH4 a _ ha
      have hrs4 := Mon.mono e4 hrs
      have hpart4 := Mon.mono e4 hpart
      walk_at "go"
      intro rd hrd
      walk_at "go"
      have hrdfl : rd ≠ fl := ne_new hrd (by rw [hfl4]; simp)
      have e4r : Same H4 (upd H4 rd (.dK [])) := Same.new hrd
      obtain ⟨rx, yrx, rfl, hrx, hErx⟩ : LstOf RowV ((List.range B.L).map fun a => pick P2 (rest (Ih (l + 1)) (unit (t * B.L + a)))) x H4 := hrs4
      obtain ⟨ra, hra⟩ : ∃ ra : Nat → Vec p, ra = fun a => rest (Ih (l + 1)) (unit (t * B.L + a)) := ⟨_, rfl⟩
      have hNl : P2.length * lo.length ≤ 2000 := by omega
      refine r_for (r_enumT hpart4 e4r (fun QA q => by walk_at "go"; exact q) fun J5 ys5 hys5 wk5 => ?_)
      rw [show (partsI B w0 lo e.2).length = B.L by simp [partsI]] at wk5
      refine for_it wk5 (fun a' σ H' => Same H4 H' ∧ ∃ (v10 v11 v12 v13 v14 v15 : Option V), σ = [some (.ref a), some (.int n), some (.int (s + 1 : Nat)), some (.int 0), some y1, some (.int (lo.length : Nat)), some (.ref fl), some (.ref rx), some x2, some (.ref rd), v10, v11, v12, v13, v14, v15] ∧
        RowZ (P2.length * lo.length) H' rd (accV a' w0 P2 lo ra e.2)) ?_ (fun i σ H' _ h => h.1) ?_ ?_
      · refine ⟨e4r, _, _, _, _, _, _, rfl, [], upd_same, [], List.nodup_nil, rfl, fun k hk => absurd ?_ hk, by simp⟩
        unfold accV
        split <;> rfl
      · rintro a' xx σ H5 H6 ha' ⟨e5, v10, v11, v12, v13, v14, v15, rfl, rz⟩ ⟨T0, xa, xn, rfl, hT0, rfl, hxa, hxn⟩
        cases hxa
        have hnum : TupOf IntV ((List.range lo.length).map fun i => iv (numb w0 lo e.2 a' i)) xn H4 := hys5.at_ a' _ xn (by unfold partsI; rw [List.getElem?_map, List.getElem?_range ha']; rfl) hxn
        walk_at "go"
        have e5T : Same H5 (upd H5 T0 (.tup [.int (a' : Nat), xn])) := Same.new hT0
        have rz6 := rz.same e5T
        have e46 := Same.trans e5 e5T
        generalize (upd H5 T0 (.tup [.int (a' : Nat), xn])) = H6 at *
        obtain ⟨yq, hyq, q, rfl, rq⟩ := hErx.get (i := a') (f := pick P2 (ra a')) (by rw [List.getElem?_map, List.getElem?_range ha', hra]; rfl)
        obtain ⟨kvq, hkvq, ks, hksn, rfl, hks⟩ := id rq
        have hq4 := hkvq
        have hq6 := e46 q _ hkvq
        have hqrd : rd ≠ q := fun z => by rw [← z, hrd] at hq4; cases hq4
        have hrxq : rx ≠ q := fun z => by rw [← z, hrx] at hq4; cases hq4
        have haq : a ≠ q := fun z => by rw [← z, ha4] at hq4; cases hq4
        refine ⟨q, .dK (ks.map (ent (pick P2 (ra a')))), hq6, trivial, fun od => ?_⟩
        have eLk : Same (upd H4 q (.frz od (.dK (ks.map (ent (pick P2 (ra a'))))))) (upd H6 q (.frz od (.dK (ks.map (ent (pick P2 (ra a'))))))) := same_lock e46
        have rzL : RowZ (P2.length * lo.length) (upd H6 q (.frz od (.dK (ks.map (ent (pick P2 (ra a'))))))) rd (accV a' w0 P2 lo ra e.2) := by
          obtain ⟨kv, h1, h2⟩ := rz6
          exact ⟨kv, by rw [upd_ne hqrd]; exact h1, h2⟩
        have hrxL : ∀ H', Same (upd H4 q (.frz od (.dK (ks.map (ent (pick P2 (ra a'))))))) H' → SqL K H' rx yrx := fun H' e => SqL.of (e rx _ (by rw [upd_ne hrxq]; exact hrx))
        have haL : ∀ H', Same (upd H4 q (.frz od (.dK (ks.map (ent (pick P2 (ra a'))))))) H' → H' a = some (.ins d.R dx [("prime", .int p), ("letters", .int (B.L : Nat)), ("many", .ref l1), ("heads", .ref l2), ("places", .ref l3), ("commons", .ref l4)]) := fun H' e => e a _ (by rw [upd_ne haq]; exact ha4)
        have hqL : ∀ H', Same (upd H4 q (.frz od (.dK (ks.map (ent (pick P2 (ra a'))))))) H' → RowAt H' q (pick P2 (ra a')) := fun H' e => ⟨_, .inr ⟨od, e q _ upd_same⟩, ks, hksn, rfl, hks⟩
        have hrdLk : (upd H4 q (.frz od (.dK (ks.map (ent (pick P2 (ra a'))))))) rd = none := by rw [upd_ne hqrd]; exact hrd
        refine r_for ?_
        show tOp _ _ _ _ _ _
        walk_at "go"
        refine r_ixL (hrxL _ eLk) hyq ?_
        refine ⟨q, od, rfl, .inl ⟨_, upd_same, ?_⟩⟩
        refine for_it (walk_keys.mono (n := (ks.map (ent (pick P2 (ra a')))).length) (G' := fun H' => Same (upd H4 q (.frz od (.dK (ks.map (ent (pick P2 (ra a'))))))) H') (fun H' e => e q _ upd_same) fun _ _ _ _ _ _ h => h)
          (fun i3 σ H' => Same (upd H4 q (.frz od (.dK (ks.map (ent (pick P2 (ra a'))))))) H' ∧ ∃ (v12 v13 v14 v15 : Option V), σ = [some (.ref a), some (.int n), some (.int (s + 1 : Nat)), some (.int 0), some y1, some (.int (lo.length : Nat)), some (.ref fl), some (.ref rx), some x2, some (.ref rd), some (.int (a' : Nat)), some xn, v12, v13, v14, v15] ∧
            RowZ (P2.length * lo.length) H' rd (accS (accV a' w0 P2 lo ra e.2) (termV w0 P2 lo (pick P2 (ra a')) e.2 a') fun j => j / lo.length ∈ ks.take i3 ∧ j < P2.length * lo.length)) ?_ (fun i σ H' _ h => h.1) ?_ ?_
        · refine ⟨eLk, _, _, _, _, rfl, ?_⟩
          rw [accS_none (fun j h => by simp at h)]
          exact rzL
        · rintro i3 x3 σ Hx H7 hi3 ⟨e7, v12, v13, v14, v15, rfl, rz7⟩ ⟨rfl, k0, v0, hk0, rfl⟩
          rw [List.length_map] at hi3
          rw [List.getElem?_map, List.getElem?_eq_getElem hi3] at hk0
          obtain ⟨rfl, rfl⟩ : (Sum.inl ((ks[i3] : Nat) : Int) : Key) = k0 ∧ V.int (iv (pick P2 (ra a') ks[i3])) = v0 := by
            have := Option.some.inj hk0
            exact ⟨congrArg Prod.fst this, congrArg Prod.snd this⟩
          have htk3 : ks.take (i3 + 1) = ks.take i3 ++ [ks[i3]] := by rw [List.take_succ, List.getElem?_eq_getElem hi3]; rfl
          have hnk3 : ¬ ks[i3] ∈ ks.take i3 := (take_succ_nodup hksn (List.getElem?_eq_getElem hi3)).2
          have hpl : pick P2 (ra a') ks[i3] ≠ 0 := (hks _).mp (List.getElem_mem hi3)
          generalize ks[i3] = pl at *
          have hpll : pl < P2.length := Nat.lt_of_not_le fun z => hpl (by unfold pick; rw [if_neg (by omega)])
          show gName 12 (.int (pl : Int)) _ _ _
          walk_at "go"
          refine r_for (r_enumT (tup_lock hnum hq4) e7 (fun QA q => by walk_at "go"; exact q) fun J8 ys8 hys8 wk8 => ?_)
          rw [show ((List.range lo.length).map fun i => iv (numb w0 lo e.2 a' i)).length = lo.length by simp] at wk8
          refine for_it wk8 (fun k3 σ H' => Same (upd H4 q (.frz od (.dK (ks.map (ent (pick P2 (ra a'))))))) H' ∧ ∃ (v13 v14 v15 : Option V), σ = [some (.ref a), some (.int n), some (.int (s + 1 : Nat)), some (.int 0), some y1, some (.int (lo.length : Nat)), some (.ref fl), some (.ref rx), some x2, some (.ref rd), some (.int (a' : Nat)), some xn, some (.int (pl : Nat)), v13, v14, v15] ∧
            RowZ (P2.length * lo.length) H' rd (accS (accV a' w0 P2 lo ra e.2) (termV w0 P2 lo (pick P2 (ra a')) e.2 a') fun j => (j / lo.length ∈ ks.take i3 ∧ j < P2.length * lo.length) ∨ (j / lo.length = pl ∧ j % lo.length < k3 ∧ j < P2.length * lo.length))) ?_ (fun i σ H' _ h => h.1) ?_ ?_
          · refine ⟨e7, _, _, _, rfl, ?_⟩
            rw [accS_congr (S' := fun j => j / lo.length ∈ ks.take i3 ∧ j < P2.length * lo.length) fun j => ⟨fun h => h.elim id fun h => absurd h.2.1 (Nat.not_lt_zero _), .inl⟩]
            exact rz7
          · rintro k3 x4 σ H8 H9 hk3 ⟨e8, v13, v14, v15, rfl, rz8⟩ ⟨T1, xb, xm, rfl, hT1, rfl, hxb, hxm⟩
            cases hxb
            obtain rfl : xm = V.int (iv (numb w0 lo e.2 a' k3)) := hys8.at_ k3 _ xm (by rw [List.getElem?_map, List.getElem?_range hk3]; rfl) hxm
            have e8T : Same H8 (upd H8 T1 (.tup [.int (k3 : Nat), .int (iv (numb w0 lo e.2 a' k3))])) := Same.new hT1
            have rz9 := rz8.same e8T
            have e9 := Same.trans e8 e8T
            walk_at "go"
            generalize (upd H8 T1 (.tup [.int (k3 : Nat), .int (iv (numb w0 lo e.2 a' k3))])) = H9 at *
            have hj0 : pl * lo.length + k3 < P2.length * lo.length := by
              have := Nat.mul_le_mul_right lo.length (show pl + 1 ≤ P2.length from hpll)
              rw [Nat.add_mul, Nat.one_mul] at this
              omega
            rw [show ((pl : Nat) : Int) * ((lo.length : Nat) : Int) + ((k3 : Nat) : Int) = ((pl * lo.length + k3 : Nat) : Int) by push_cast; rfl]
            obtain ⟨hdiv, hmod⟩ := cell_div (n := lo.length) (a := pl) hk3
            generalize hj0d : pl * lo.length + k3 = j0 at *
            refine s_getZ (k := j0) (fun Q q => by walk_at "go"; exact q) (fun Q q => by walk_at "go"; exact q) rz9 ?_
            walk_at "go"
            refine r_ixL (hrxL _ e9) hyq ?_
            walk_at "go"
            refine ⟨q, _, rfl, DGet.row (hqL _ e9) hpl, ?_⟩
            walk_at "go"
            refine ⟨a, d.R, dx, _, _, rfl, haL _ e9, T.clU, nf _ (by simp), rfl, ?_⟩
            walk_at "go"
            have hterm : termV w0 P2 lo (pick P2 (ra a')) e.2 a' j0 = pick P2 (ra a') pl * numb w0 lo e.2 a' k3 := by unfold termV; rw [hdiv, hmod]
            generalize hF : accS (accV a' w0 P2 lo ra e.2) (termV w0 P2 lo (pick P2 (ra a')) e.2 a') (fun j => (j / lo.length ∈ ks.take i3 ∧ j < P2.length * lo.length) ∨ (j / lo.length = pl ∧ j % lo.length < k3 ∧ j < P2.length * lo.length)) = F at *
            rw [show (iv (F j0) + iv (pick P2 (ra a') pl) * iv (numb w0 lo e.2 a' k3)) % (p : Int) = iv (F j0 + pick P2 (ra a') pl * numb w0 lo e.2 a' k3) by rw [← iv_md (p := p), md_add, md_mul, md_iv, md_iv, md_iv]]
            obtain ⟨H10, pp, oo, rz10⟩ := dput_z rz9 hNl hj0 (F j0 + pick P2 (ra a') pl * numb w0 lo e.2 a' k3)
            refine ⟨rd, H10, rfl, pp, oo.same e9 hrdLk, _, _, _, rfl, ?_⟩
            rw [← hterm, ← hF, accS_put (S' := fun j => (j / lo.length ∈ ks.take i3 ∧ j < P2.length * lo.length) ∨ (j / lo.length = pl ∧ j % lo.length < k3 + 1 ∧ j < P2.length * lo.length)) ?_ ?_] at rz10
            · exact rz10
            · rintro (h | h)
              · rw [hdiv] at h
                exact hnk3 h.1
              · rw [hmod] at h
                omega
            · intro j
              constructor
              · rintro (h | ⟨h1, h2, h3⟩)
                · exact .inl (.inl h)
                · by_cases z : j % lo.length < k3
                  · exact .inl (.inr ⟨h1, z, h3⟩)
                  · refine .inr ?_
                    have h4 := Nat.div_add_mod j lo.length
                    rw [h1, show j % lo.length = k3 by omega, Nat.mul_comm] at h4
                    omega
              · rintro ((h | ⟨h1, h2, h3⟩) | rfl)
                · exact .inl h
                · exact .inr ⟨h1, by omega, h3⟩
                · exact .inr ⟨hdiv, by omega, hj0⟩
          · rintro σ H8 ⟨e8, v13, v14, v15, rfl, rz8⟩
            refine ⟨e8, _, _, _, _, rfl, ?_⟩
            rw [accS_congr (S' := fun j => j / lo.length ∈ ks.take (i3 + 1) ∧ j < P2.length * lo.length) fun j => ?_] at rz8
            · exact rz8
            · rw [htk3, List.mem_append, List.mem_singleton]
              constructor
              · rintro (⟨h1, h2⟩ | ⟨h1, _, h2⟩)
                · exact ⟨.inl h1, h2⟩
                · exact ⟨.inr h1, h2⟩
              · rintro ⟨h1 | h1, h2⟩
                · exact .inl ⟨h1, h2⟩
                · refine .inr ⟨h1, Nat.mod_lt _ (Nat.pos_of_ne_zero fun z => ?_), h2⟩
                  rw [z, Nat.mul_zero] at h2
                  omega
        · rintro σ H7 ⟨e7, v12, v13, v14, v15, rfl, rz7⟩
          rw [List.length_map, List.take_length, acc_next hks] at rz7
          refine ⟨e7 q _ upd_same, Same.unlock hq4 e7, _, _, _, _, _, _, rfl, ?_⟩
          obtain ⟨kv, h1, h2⟩ := rz7
          exact ⟨kv, by rw [upd_ne hqrd]; exact h1, h2⟩
      · rintro σ H5 ⟨e5, v10, v11, v12, v13, v14, v15, rfl, rz⟩
        walk_at "go"
        have hfl5 := e5 fl _ hfl4
        refine ⟨.inl ⟨rfl, _, SqL.of hfl5⟩, ?_⟩
        walk_at "go"
        refine r_dictNz rz hNl (fun H' Q q => by walk_at "go"; exact q) (fun _ => rfl) (fun k H' QB hd h1 h2 => ?_) (fun k H' Q q => by walk_at "lc"; walk_at "go"; exact q) (fun k H' Q hd q => by walk_at "lc"; walk_at "go"; exact ⟨_, _, rfl, hd, q⟩) fun q H6 e6 hq rq => ?_
        · walk_at "lc"
          walk_at "go"
          refine ⟨_, _, rfl, hd, ?_⟩
          walk_at "go"
          by_cases z : accV B.L w0 P2 lo ra e.2 k = 0
          · rw [decide_eq_true (iv_eq_zero.mpr z)]
            exact h2 z
          · rw [decide_eq_false fun h => z (iv_eq_zero.mp h)]
            exact h1 z
        walk_at "go"
        have hq4 : H4 q = none := none_of e5 hq
        have e46 := Same.trans e5 e6
        refine ⟨fl, zs, _, rfl, rfl, e6 fl _ hfl5, sl _ ?_, ?_⟩
        · rw [hE4'.len, List.length_append, fm_len _ c.length _ fun x _ => by simp, List.length_map, List.length_take, List.length_take]
          have h1 := Nat.mul_le_mul_right c.length (show i + 1 ≤ P.length from hi)
          rw [Nat.add_mul, Nat.one_mul, Nat.mul_comm P.length] at h1
          have h2 : min i P.length * c.length ≤ i * c.length := Nat.mul_le_mul_right _ (Nat.min_le_left _ _)
          omega
        have hflb : (hide fl H2) fl = none := if_pos rfl
        refine ⟨same_hide_upd (Same.trans e4 e46), _, _, _, _, _, _, _, _, _, rfl, upd_same, ?_⟩
        rw [hide_upd, htk2, List.map_append, ← List.append_assoc]
        refine (hE4'.mono (New.mono (hide_same e46))).snoc (Mon.mono (New.both hH4 (by rw [hfl4]; simp)) ?_)
        have : accV B.L w0 P2 lo ra e.2 = stepV B.L w0 P2 lo (fun a => rest (Ih (l + 1)) (unit (t * B.L + a))) e.2 := by rw [hra]; rfl
        have hgoal : RowV (stepV B.L w0 P2 lo (fun a => rest (Ih (l + 1)) (unit (t * B.L + a))) e.2) (.ref q) (New H4 H6) := by
          rw [← this]
          exact RowX.new hq4 rq
        exact hgoal
    · rintro σ H4 ⟨e4, v8, v9, v10, v11, v12, v13, v14, v15, zs, rfl, hfl4, hE4'⟩
      refine ⟨e4, _, _, _, _, _, _, _, _, _, zs, rfl, hfl4, ?_⟩
      rw [List.take_length] at hE4'
      rw [htk, List.flatMap_append]
      have : ([t].flatMap fun t => c.map fun e => stepV B.L w0 P2 lo (fun a => rest (Ih (l + 1)) (unit (t * B.L + a))) e.2) = c.map fun e => stepV B.L w0 P2 lo (fun a => rest (Ih (l + 1)) (unit (t * B.L + a))) e.2 := by simp
      rw [this]
      exact hE4'
  · rintro σ H3 ⟨e3, v7, v8, v9, v10, v11, v12, v13, v14, v15, zs, rfl, hfl3, hE3⟩
    walk_at "go"
    rw [List.take_length] at hE3
    rw [hstL] at k
    exact k _ H3 (Same.trans hH2 e3) ⟨fl, zs, rfl, by rw [New.at_ hflH]; exact hfl3, hE3.mono (New.mono hide_le)⟩
end
section
variable {P : Program} {w : World} {K : PySem.W.Frag} {mg : Str → Option Value} {base : Heap} {d : Ad} {p : Nat} [Pr p]
abbrev s_Rungs_losses : Stmt := inClass (top 51) 5
theorem sc_Rungs_losses : FnScope ["self", "length", "side", "ranks", "step"] ["self", "length", "side"] (defScope s_Rungs_losses) := ⟨rfl, rfl, rfl, by decide +kernel, rfl, by decide +kernel, by decide +kernel⟩
def spLosses (p : Nat) [Pr p] (d : Ad) : Sp := fun vs H Q _ => ∃ (y : V) (B : Bk p) (m : Nat) (Ih : Nat → List (Hd p)) (cs : List (List (Hd p))) (n : Nat), vs = [y, .int n, .int 0] ∧ RungV d B m Ih cs y H ∧ (∀ n, n ≤ m → IhOk B n (Ih n)) ∧ Com B cs ∧ cs.length = max 3 (m + 1) ∧ m ≤ 6 ∧ B.L ^ m ≤ 1000 ∧ 1 ≤ n ∧ n ≤ m ∧ Exact B Ih cs n ∧
  ∀ y' H', Same H H' → TupOf IntV (List.replicate (n + 1) 0) y' (New H H') → Q y' H'
theorem RungV.same {d : Ad} {B : Bk p} {m : Nat} {Ih : Nat → List (Hd p)} {cs : List (List (Hd p))} {y : V} {H H' : Hp} (e : Same H H') (h : RungV d B m Ih cs y H) : RungV d B m Ih cs y H' := by
  obtain ⟨a', dx', l1', l2', l3', l4', Hh', h0, h1, h2, h3, h4, h5, h6⟩ := h
  exact ⟨a', dx', l1', l2', l3', l4', Hh', h0, Same.trans h1 e, e a' _ h2, Mon.mono e h3, h4, Mon.mono e h5, Mon.mono e h6⟩
theorem range_succ_get {α : Type} {f : Nat → α} {n : Nat} : (List.range (n + 1)).map f = (List.range n).map f ++ [f n] := by rw [List.range_succ, List.map_append]; rfl
theorem repl_range (n : Nat) : (List.range n).map (fun _ => (0 : Int)) = List.replicate n 0 := by
  refine List.ext_getElem? fun i => ?_
  rw [List.getElem?_map, List.getElem?_replicate]
  by_cases q : i < n
  · rw [List.getElem?_range q, if_pos q]; rfl
  · rw [List.getElem?_eq_none (by simp; omega), if_neg q]; rfl
theorem step_bd (B : Bk p) {Ih : Nat → List (Hd p)} {cs : List (List (Hd p))} {n s : Nat} (C : Com B cs) (h1 : 1 ≤ s) (hsn : s ≤ n) (hs : s < cs.length) : ∀ f ∈ stepL B Ih cs n s, Bd f (B.L ^ n) := fun f hf => by
  obtain ⟨t, _, hf⟩ := List.mem_flatMap.mp hf
  obtain ⟨e, _, rfl⟩ := List.mem_map.mp hf
  intro k hk
  unfold stepV
  rw [if_neg]
  have hcs0 := List.getElem?_eq_getElem (show s - 1 < cs.length by omega)
  have hg : cs.getD (s - 1) [] = cs[s - 1] := getD_some hcs0
  obtain ⟨R, b⟩ := com_red C hcs0
  have h2 := Nat.mul_le_mul (pls_len (Ih (n - s + 1)) (B.L ^ (n - s + 1))) (R.len b)
  rw [← Nat.pow_add, show n - s + 1 + (s - 1) = n by omega] at h2
  rw [hg]
  omega
theorem ok_Rungs_losses {Pf : Addr → Prop} (T : Tx K mg d) (D : DfM K "losses" "Rungs.losses" s_Rungs_losses Pf) (c_heads_of : Cal P w K mg base 3 "heads_of" (U fun p _ => spHeads p) []) (c_Rungs_step : Met P w K mg base 4 d.R "step" (U fun p _ => spStep p d) []) (c_Rungs_size : Met P w K mg base 1 d.R "size" (U fun p _ => spSize p d) []) : FnB P w K mg base 5 Pf (U fun p _ => spLosses p d) := by
  have nd := sc_Rungs_losses.nd
  refine mkFnU D sc_Rungs_losses (fun p hp vs H Q E h => ?_) (fun _ _ _ _ _ _ us hl => match us, hl with | [_, _, _], _ => rfl) (fun p hp f0 cdv A outer s H vs Q E hr h => ?_)
  · obtain ⟨y, B, m, Ih, cs, n, rfl, _⟩ := h
    rfl
  obtain ⟨y, B, m, Ih, cs, n, rfl, hrv, hIh, C, hcl, hm6, hb, hn1, hnm, ⟨r, hr0, hrn, hrk, hsz⟩, k⟩ := h
  obtain ⟨a, dx, l1, l2, l3, l4, Hh, rfl, eh, ha, v1, v2, v3, v4⟩ := id hrv
  have hu := hu_of hr
  have hL1 := B.lo
  have nf : ∀ f ∈ (["prime", "letters", "many", "heads", "places", "commons"] : List Str), NoAttr K d.R f := T.nU
  refine ⟨_, (pss_cons (ps_set (i := 3) nd rfl (Or.inr rfl) (pe_lst (pa_cons pe_int pa_nil)))
    (pss_cons (ps_for PassesOwn.never rfl (pi_range2 rfl T.range (pa_cons pe_int (pa_cons (pe_op op_add (pv 1) pe_int) pa_nil))) (pg_name (i := 4) nd rfl (Or.inl rfl)) 
      (pss_one (ps_expr (pe_bm PySem.F.plainAttrs_list PySem.F.slot_list_append PySem.F.type_list_append mt_append (pv 3) (pa_cons (pe_callB call_lenD (by rfl) T.len (by decide +kernel) (pa_cons (pe_c c_heads_of hr (by decide) rfl (pa_cons (pe_fldK (K := K) (pv 0) rfl) (pa_cons (pe_mt c_Rungs_step hr (by decide) (pv 0) (pa_cons (pv 1) (pa_cons (pv 4) (pa_cons (pv 2) pa_nil)))) pa_nil))) pa_nil)) pa_nil)))))
    (pss_cons (ps_expr (pe_bm PySem.F.plainAttrs_list PySem.F.slot_list_append PySem.F.type_list_append mt_append (pv 3) (pa_cons pe_int pa_nil)))
    (pss_one (ps_ret (pe_callTy (call_tupK (K := K)) (by rfl) T.tuple_ (by decide +kernel) (pa_cons (pe_lc (own := [("step", 4)]) (g := gName 4) (tt := tYes) rfl nd (pi_range1 rfl T.range (pa_cons (pe_op op_add (pv 1) pe_int) pa_nil)) (blkOk_by (by kernel_rfl)) (fun _ _ _ _ _ => (pg_name (i := 4) nd rfl (Or.inl rfl))) (fun _ _ _ _ _ => pts_nil) (fun _ _ _ _ _ => (pe_op op_sub (pe_op op_sub (pe_mt c_Rungs_size hr (by decide) (pv 0) (pa_cons (pv 1) (pa_cons (pv 4) pa_nil))) (pe_ix (ix_listK (K := K)) (pv 3) (pv 4) (fun _ _ => rfl))) (pe_ix (ix_listK (K := K)) (pv 3) (pe_op op_add (pv 4) pe_int) (fun _ _ => rfl))))) pa_nil))))))), ?_⟩
  walk_at "st"
  walk_at "go"
  refine ⟨by show 1 ≤ sizeLine; decide, fun rl hrl => ?_⟩
  walk_at "go"
  have e0 : Same H (upd H rl (.lst [.int 0])) := Same.new hrl
  refine r_for (r_rng2 1 n (by omega) (fun QA q => by walk_at "go"; rw [show ((n : Nat) : Int) + 1 = ((1 + n : Nat) : Int) by omega]; exact q) fun J wk => ?_)
  refine for_it wk (fun i σ H' => Same H H' ∧ ∃ (v4 : Option V), σ = [some (.ref a), some (.int n), some (.int 0), some (.ref rl), v4] ∧ H' rl = some (.lst ((List.range (i + 1)).map fun s => V.int (r s : Nat)))) ?_ (fun _ _ _ _ _ => trivial) ?_ ?_
  · refine ⟨e0, _, rfl, ?_⟩
    rw [upd_same]
    show _ = some (HO.lst [V.int (r 0 : Nat)])
    rw [hr0]
    rfl
  · rintro i x σ Hx H1 hi ⟨e1, v4, rfl, hl1⟩ ⟨rfl, rfl⟩
    walk_at "go"
    refine ⟨.inl ⟨rfl, _, SqL.of hl1⟩, ?_⟩
    walk_at "go"
    refine ⟨a, d.R, dx, _, _, rfl, e1 a _ ha, T.clU, nf _ (by simp), rfl, ?_⟩
    walk_at "go"
    refine ⟨a, dx, _, rfl, e1 a _ ha, rfl, ?_⟩
    walk_at "go"
    rw [show ((1 + i : Nat) : Int) = ((i + 1 : Nat) : Int) by omega]
    refine ⟨_, B, m, Ih, cs, n, i, rfl, hrv.same e1, hIh, C, hcl, hm6, hb, by omega, hnm, fun y2 H2 e2 w2 => ?_⟩
    walk_at "go"
    have hbn : B.L ^ n ≤ 1000 := Nat.le_trans (Nat.pow_le_pow_right hL1 hnm) hb
    refine ⟨y2, stepL B Ih cs n (i + 1), B.L ^ n, rfl, Mon.mono New.le w2, step_bd B C (by omega) (by omega) (by omega), by omega, fun hd kvs hs H3 e3 hhd hH dk R bh sp => ?_⟩
    walk_at "go"
    have e13 := Same.trans e2 e3
    refine ⟨hd, kvs, rfl, hH, ?_⟩
    walk_at "go"
    have hlen : kvs.length = r (i + 1) := by rw [dk.len]; exact hrk (i + 1) (by omega) (by omega) hs R sp
    refine ⟨rl, _, _, rfl, rfl, e13 rl _ hl1, sl _ (by simp; omega), ?_⟩
    refine ⟨Same.mut (Same.trans e1 e13) hrl, _, rfl, ?_⟩
    rw [upd_same, hlen, range_succ_get (n := i + 1)]
  · rintro σ H1 ⟨e1, v4, rfl, hl1⟩
    walk_at "go"
    refine ⟨.inl ⟨rfl, _, SqL.of hl1⟩, ?_⟩
    walk_at "go"
    refine ⟨rl, _, _, rfl, rfl, hl1, sl _ (by simp; omega), ?_⟩
    have e2 : Same H (upd H1 rl (.lst ((List.range (n + 1)).map (fun s => V.int (r s : Nat)) ++ [.int 0]))) := Same.mut e1 hrl
    have hl2 : (upd H1 rl (.lst ((List.range (n + 1)).map (fun s => V.int (r s : Nat)) ++ [.int 0]))) rl = some (.lst ((List.range (n + 2)).map fun s => V.int (r s : Nat))) := by
      rw [upd_same, range_succ_get (n := n + 1), hrn]
      rfl
    generalize (upd H1 rl (.lst ((List.range (n + 1)).map (fun s => V.int (r s : Nat)) ++ [.int 0]))) = H2 at *
    walk_at "go"
    refine r_lc (r_rng (n + 1) (by omega) (fun QA q => by walk_at "go"; rw [show ((n : Nat) : Int) + 1 = ((n + 1 : Nat) : Int) by omega]; exact q) fun J2 wk2 => ?_)
    refine lc_new wk2 (R := IntV) (fun _ => true) (fun _ => (0 : Int)) (fun _ _ => trivial) (by omega) (fun s x H3 H4 kY kN hs e z hY hN => ?_) (fun D3 H3 ys3 hD3 e3 hy3 hE3 => ?_)
    · obtain ⟨rfl, rfl⟩ := z
      have e4 := Same.trans e2 e
      have hl4 := e rl _ hl2
      walk_at "lc"
      walk_at "go"
      refine ⟨rfl, ?_⟩
      walk_at "go"
      refine ⟨a, dx, _, rfl, e4 a _ ha, rfl, ?_⟩
      walk_at "go"
      refine ⟨_, B, m, Ih, cs, n, s, rfl, hrv.same e4, hIh, C, hcl, hm6, hb, by omega, hnm, ?_⟩
      walk_at "go"
      refine r_ixL (SqL.of hl4) (by rw [List.getElem?_map, List.getElem?_range (by omega)]; rfl) ?_
      walk_at "go"
      rw [show ((s : Nat) : Int) + 1 = ((s + 1 : Nat) : Int) by omega]
      refine r_ixL (SqL.of hl4) (by rw [List.getElem?_map, List.getElem?_range (by omega)]; rfl) ?_
      walk_at "go"
      rw [hsz s (by omega)]
      refine hY _ _ rfl (Same.refl _) ?_
      show V.int _ = V.int 0
      congr 1
      omega
    walk_at "go"
    rw [tk_all, repl_range] at hE3
    have e5 := Same.trans e2 e3
    refine ⟨D3, ys3, rfl, .inl ⟨SqL.of hy3, fun tt htt => ?_⟩⟩
    exact k _ _ (Same.trans e5 (Same.new htt)) ⟨tt, ys3, rfl, by rw [New.at_ (none_of e5 htt)]; exact upd_same, hE3.mono (Same.trans (New.anti e2) (New.mono (Same.new htt)))⟩
theorem r_iET {ta : TA} {σ : L2.St} {H : Hp} {W : It → Hp → Prop} (h : ta σ H fun vs H1 => ∃ a xs, vs = [.ref a] ∧ SqT K H1 a xs ∧ W (IteT K a) H1) : iEnumT K ta σ H W := h
abbrev s_first_of : Stmt := top 52
theorem sc_first_of : FnScope ["book", "most", "rungs", "length", "step", "number"] ["book", "most"] (defScope s_first_of) := ⟨rfl, rfl, rfl, by decide +kernel, rfl, by decide +kernel, by decide +kernel⟩
def spFirst (p : Nat) [Pr p] (d : Ad) : Sp := fun vs H Q _ => ∃ (y : V) (B : Bk p) (m : Nat), vs = [y, .int m] ∧ BookV d B y H ∧ m ≤ 6 ∧ B.L ^ m ≤ 1000 ∧ (∀ Ih cs, (∀ n, n ≤ m → IhOk B n (Ih n)) → Com B cs → ∀ n, 1 ≤ n → n ≤ m → n < cs.length → Exact B Ih cs n) ∧ ∀ H', Same H H' → Q .non H'
theorem ok_first_of (T : Tx K mg d) (D : Df K mg "first_of" s_first_of) (c_Rungs : Mak P w K mg base 7 "Rungs" d.R (U fun p _ => spRInit p d) []) (c_Rungs_losses : Met P w K mg base 5 d.R "losses" (U fun p _ => spLosses p d) []) : Cal P w K mg base 9 "first_of" (U fun p _ => spFirst p d) [] := by
  have nd := sc_first_of.nd
  refine mkCalU D sc_first_of (fun p hp vs H Q E h => ?_) (fun _ _ _ _ _ _ us hl => match us, hl with | [_, _], _ => rfl) (fun p hp f0 cdv A outer s H vs Q E hr h => ?_)
  · obtain ⟨y, B, m, rfl, _⟩ := h
    rfl
  obtain ⟨y, B, m, rfl, hy, hm6, hb, hex, k⟩ := h
  refine ⟨_, (pss_cons (ps_set (i := 2) nd rfl (Or.inl rfl) (pe_mk c_Rungs hr (by decide) rfl (pa_cons (pv 0) (pa_cons (pv 1) pa_nil))))
    (pss_cons (ps_for PassesOwn.never rfl (pi_range2 rfl T.range (pa_cons pe_int (pa_cons (pe_op op_add (pv 1) pe_int) pa_nil))) (pg_name (i := 3) nd rfl (Or.inl rfl)) 
      (pss_one (ps_for PassesOwn.never rfl (pi_enumTK (K := K) rfl T.enumerate (pa_cons (pe_mt c_Rungs_losses hr (by decide) (pv 2) (pa_cons (pv 3) (pa_cons pe_int pa_nil))) pa_nil)) (pg_tup rfl (pgs_cons (pg_name (i := 4) nd rfl (Or.inl rfl)) (pgs_cons (pg_name (i := 5) nd rfl (Or.inl rfl)) pgs_nil))) 
        (pss_one (ps_if (pt_cmpR op_ne (pv 5) pe_int (nomark _)) 
          (pss_one (ps_ret (pe_tup (pa_cons (pv 3) (pa_cons (pv 4) pa_nil))))) pss_nil)))))
    (pss_one (ps_ret pe_non)))), ?_⟩
  walk_at "st"
  walk_at "go"
  intro x dx hx hdx hne
  have e0 : Same H (hide x (upd (upd H dx (.own x)) x (.ins d.R dx []))) := fun b u hb => by
    rw [hide_ne (ne_of_none hb hx), upd_ne (ne_of_none hb hx), upd_ne (ne_of_none hb hdx)]
    exact hb
  refine r_U _ ⟨x, dx, y, B, m, rfl, upd_same, Mon.mono e0 hy, hm6, hb, fun Ih cs H1 hIh C hcl e1 hrv => ⟨rfl, ?_⟩⟩
  have e01 := Same.trans e0 e1
  obtain ⟨a, adx, l1, l2, l3, l4, Hh, ha0, eh, ha, v1, v2, v3, v4⟩ := id hrv
  cases ha0
  walk_at "go"
  refine r_for (r_rng2 1 m (by omega) (fun QA q => by walk_at "go"; rw [show ((m : Nat) : Int) + 1 = ((1 + m : Nat) : Int) by omega]; exact q) fun J wk => ?_)
  refine for_it wk (fun i σ H' => Same H1 H' ∧ ∃ (v3 v4 v5 : Option V), σ = [some y, some (.int m), some (.ref x), v3, v4, v5]) ⟨Same.refl _, _, _, _, rfl⟩ (fun _ _ _ _ _ => trivial) ?_ ?_
  · rintro i x1 σ Hx H2 hi ⟨e2, v3, v4, v5, rfl⟩ ⟨rfl, rfl⟩
    walk_at "go"
    refine r_for (r_iET ?_)
    walk_at "go"
    refine ⟨x, adx, _, rfl, e2 x _ ha, rfl, ?_⟩
    walk_at "go"
    rw [show ((1 + i : Nat) : Int) = ((i + 1 : Nat) : Int) by omega]
    refine ⟨_, B, m, Ih, cs, i + 1, rfl, hrv.same e2, hIh, C, hcl, hm6, hb, by omega, by omega, hex Ih cs hIh C (i + 1) (by omega) (by omega) (by omega), fun y2 H3 e3 w3 => ?_⟩
    obtain ⟨t2, ys, rfl, ht2, hys⟩ := (Mon.mono New.le w3 : TupOf IntV _ _ H3)
    walk_at "go"
    refine ⟨t2, ys, rfl, .inl (.inl ht2), ?_⟩
    have e13 := Same.trans e2 e3
    refine for_it (walk_enumT.mono (n := ys.length) (G' := fun H' => Same H3 H') (fun H' e => .inl (.inl (e t2 _ ht2))) fun _ _ _ _ _ _ h => h) (fun i2 σ H' => Same H3 H' ∧ ∃ (v4 v5 : Option V), σ = [some y, some (.int m), some (.ref x), some (.int (i + 1 : Nat)), v4, v5]) ⟨Same.refl _, _, _, rfl⟩ (fun i σ H' _ h => h.1) ?_ ?_
    · rintro i2 xx σ H4 H5 hi2 ⟨e4, v4, v5, rfl⟩ ⟨T0, xa, xn, rfl, hT0, rfl, hxa, hxn⟩
      cases hxa
      obtain ⟨f0, hf0, rfl⟩ := hys.yet hxn
      rw [List.getElem?_replicate] at hf0
      have : f0 = 0 := by
        split at hf0
        · cases hf0; rfl
        · cases hf0
      subst this
      walk_at "go"
      refine r_ndec (fun z => absurd rfl z) fun _ => ?_
      walk_at "go"
      exact ⟨Same.trans e4 (Same.new hT0), _, _, rfl⟩
    · rintro σ H4 ⟨e4, v4, v5, rfl⟩
      exact ⟨Same.trans e13 e4, _, _, _, rfl⟩
  · rintro σ H2 ⟨e2, v3, v4, v5, rfl⟩
    walk_at "go"
    exact k _ (Same.trans e01 e2)
abbrev s_first_lost : Stmt := top 53
theorem sc_first_lost : FnScope ["book", "most"] ["book", "most"] (defScope s_first_lost) := ⟨rfl, rfl, rfl, by decide +kernel, rfl, by decide +kernel, by decide +kernel⟩
theorem ok_first_lost (T : Tx K mg d) (D : Df K mg "first_lost" s_first_lost) (c_need_book : Cal P w K mg base 1 "need_book" (U fun p _ => spNeedB p d) []) (c_need_from : Cal P w K mg base 2 "need_from" spNeedF []) (c_many_words : Cal P w K mg base 1 "many_words" spMany []) (c_first_of : Cal P w K mg base 9 "first_of" (U fun p _ => spFirst p d) []) : Cal P w K mg base 10 "first_lost" (U fun p _ => spFirst p d) [] := by
  have nd := sc_first_lost.nd
  refine mkCalU D sc_first_lost (fun p hp vs H Q E h => ?_) (fun _ _ _ _ _ _ us hl => match us, hl with | [_, _], _ => rfl) (fun p hp f0 cdv A outer s H vs Q E hr h => ?_)
  · obtain ⟨y, B, m, rfl, _⟩ := h
    rfl
  obtain ⟨y, B, m, rfl, hy, hm6, hb, hex, k⟩ := h
  obtain ⟨a, dx, t, rfl, ha, ht⟩ := id hy
  refine ⟨_, (pss_cons (ps_expr (pe_c c_need_book hr (by decide) rfl (pa_cons (pv 0) pa_nil)))
    (pss_cons (ps_expr (pe_c c_need_from hr (by decide) rfl (pa_cons (pv 1) (pa_cons pe_str pa_nil))))
    (pss_cons (ps_expr (pe_c c_many_words hr (by decide) rfl (pa_cons (pe_fldK (K := K) (pv 0) rfl) (pa_cons (pv 1) pa_nil))))
    (pss_one (ps_ret (pe_c c_first_of hr (by decide) rfl (pa_cons (pv 0) (pa_cons (pv 1) pa_nil)))))))), ?_⟩
  walk_at "st"
  walk_at "go"
  refine ⟨_, B, rfl, hy, ?_⟩
  walk_at "go"
  refine ⟨_, _, rfl, by omega, ?_⟩
  walk_at "go"
  refine ⟨a, d.C, dx, _, _, rfl, ha, T.clR, T.nL, rfl, ?_⟩
  walk_at "go"
  refine ⟨B.L, m, rfl, B.lo, by omega, hb, ?_⟩
  walk_at "go"
  exact ⟨_, B, m, rfl, hy, hm6, hb, hex, k⟩
abbrev s_fits : Stmt := top 54
theorem sc_fits : FnScope ["book", "most"] ["book", "most"] (defScope s_fits) := ⟨rfl, rfl, rfl, by decide +kernel, rfl, by decide +kernel, by decide +kernel⟩
def spFits (p : Nat) [Pr p] (d : Ad) : Sp := fun vs H Q _ => ∃ (y : V) (B : Bk p) (m : Nat), vs = [y, .int m] ∧ BookV d B y H ∧ m ≤ 6 ∧ B.L ^ m ≤ 1000 ∧ (∀ Ih cs, (∀ n, n ≤ m → IhOk B n (Ih n)) → Com B cs → ∀ n, 1 ≤ n → n ≤ m → n < cs.length → Exact B Ih cs n) ∧ ∀ H', Same H H' → Q (.bl true) H'
theorem r_isN {ta : TE} {σ : L2.St} {H : Hp} {Q : VK} (h : ta σ H fun x H1 => Q (.bl (decide (x = .non))) H1) : tIsN ta σ H Q := h
theorem ok_fits (T : Tx K mg d) (D : Df K mg "fits" s_fits) (c_first_lost : Cal P w K mg base 10 "first_lost" (U fun p _ => spFirst p d) []) : Cal P w K mg base 11 "fits" (U fun p _ => spFits p d) [] := by
  have nd := sc_fits.nd
  refine mkCalU D sc_fits (fun p hp vs H Q E h => ?_) (fun _ _ _ _ _ _ us hl => match us, hl with | [_, _], _ => rfl) (fun p hp f0 cdv A outer s H vs Q E hr h => ?_)
  · obtain ⟨y, B, m, rfl, _⟩ := h
    rfl
  obtain ⟨y, B, m, rfl, hy, hm6, hb, hex, k⟩ := h
  refine ⟨_, (pss_one (ps_ret (pe_cmp (pc_isN (pe_c c_first_lost hr (by decide) rfl (pa_cons (pv 0) (pa_cons (pv 1) pa_nil))))))), ?_⟩
  walk_at "st"
  walk_at "go"
  refine r_isN ?_
  walk_at "go"
  exact ⟨y, B, m, rfl, hy, hm6, hb, hex, fun H' e => k H' e⟩
end
section
variable {P : Program} {w : World} {K : PySem.W.Frag} {mg : Str → Option Value} {base : Heap} {d : Ad} {p : Nat} [Pr p]
/-! ### the draw -/
structure Drw where
  a : Addr
  la : Addr
  ca : Addr
def drK (D : Drw) (r t : Int) : List (Key × V) := [(Sum.inr "large", .ref D.la), (Sum.inr "rest", .int r), (Sum.inr "cells", .ref D.ca), (Sum.inr "turn", .int t)]
structure DrawV (D : Drw) (H : Hp) : Prop where
  ex : ∃ (r t : Int) (ns ms : List Int), H D.a = some (.dK (drK D r t)) ∧ H D.la = some (.lst (ns.map V.int)) ∧ H D.ca = some (.lst (ms.map V.int))
  ne1 : D.ca ≠ D.la
def hD (D : Drw) (H : Hp) : Hp := hide D.la (hide D.a H)
structure Fr (D : Drw) (H H' : Hp) : Prop where
  dr : DrawV D H'
  sm : Same (hD D H) (hD D H')
theorem hD_le {D : Drw} {H : Hp} : Same (hD D H) H := Same.trans hide_le hide_le
theorem hD_same {D : Drw} {H H' : Hp} (e : Same H H') : Same (hD D H) (hD D H') := hide_same (hide_same e)
theorem hD_at {D : Drw} {H : Hp} {b : Addr} (h1 : b ≠ D.a) (h2 : b ≠ D.la) : hD D H b = H b := by unfold hD; rw [hide_ne h2, hide_ne h1]
theorem hD_ne {D : Drw} {H : Hp} {b : Addr} {u : HO} (h : hD D H b = some u) : b ≠ D.a ∧ b ≠ D.la := by
  constructor
  · intro e
    rw [e] at h
    unfold hD at h
    by_cases q : D.a = D.la
    · rw [q] at h; simp [hide] at h
    · rw [hide_ne q] at h; simp [hide] at h
  · intro e
    rw [e] at h
    simp [hD, hide] at h
theorem DrawV.some_a {D : Drw} {H : Hp} (h : DrawV D H) : H D.a ≠ none := by obtain ⟨r, t, ns, ms, h1, h2, h3⟩ := h.ex; rw [h1]; simp
theorem DrawV.some_l {D : Drw} {H : Hp} (h : DrawV D H) : H D.la ≠ none := by obtain ⟨r, t, ns, ms, h1, h2, h3⟩ := h.ex; rw [h2]; simp
theorem DrawV.same {D : Drw} {H H' : Hp} (e : Same H H') (h : DrawV D H) : DrawV D H' := ⟨by obtain ⟨r, t, ns, ms, h1, h2, h3⟩ := h.ex; exact ⟨r, t, ns, ms, e _ _ h1, e _ _ h2, e _ _ h3⟩, h.ne1⟩
theorem Fr.refl {D : Drw} {H : Hp} (h : DrawV D H) : Fr D H H := ⟨h, Same.refl _⟩
theorem Fr.of {D : Drw} {H H' : Hp} (h : DrawV D H) (e : Same H H') : Fr D H H' := ⟨h.same e, hD_same e⟩
theorem Fr.trans {D : Drw} {H H' H2 : Hp} (a : Fr D H H') (b : Fr D H' H2) : Fr D H H2 := ⟨b.dr, Same.trans a.sm b.sm⟩
theorem Fr.none {D : Drw} {H H' : Hp} (f : Fr D H H') (h : DrawV D H) {b : Addr} (hb : H' b = none) : H b = none := by
  cases q : H b with
  | none => rfl
  | some u =>
    by_cases z1 : b = D.a
    · exact absurd hb (z1 ▸ f.dr.some_a)
    · by_cases z2 : b = D.la
      · exact absurd hb (z2 ▸ f.dr.some_l)
      · have := f.sm b u (by rw [hD_at z1 z2]; exact q)
        rw [hD_at z1 z2, hb] at this
        cases this
theorem DrawV.new {D : Drw} {H H' : Hp} (h : DrawV D H) : Same (New H H') (hD D H') := fun b u hb => by
  have h0 := New.old hb
  rw [hD_at (fun z => h.some_a (z ▸ h0)) (fun z => h.some_l (z ▸ h0))]
  exact New.le b u hb
theorem Fr.new {D : Drw} {H H' H2 : Hp} (h : DrawV D H) (f : Fr D H' H2) : Same (New H H') (New H H2) := fun b u hb => by
  have h0 := New.old hb
  rw [New.at_ h0]
  have z1 : b ≠ D.a := fun z => h.some_a (z ▸ h0)
  have z2 : b ≠ D.la := fun z => h.some_l (z ▸ h0)
  have := f.sm b u (by rw [hD_at z1 z2]; exact New.le b u hb)
  rw [hD_at z1 z2] at this
  exact this
theorem Fr.anti {D : Drw} {H0 H H' : Hp} (h : DrawV D H0) (f : Fr D H0 H) : Same (New H H') (New H0 H') := fun b u hb => by
  rw [New.at_ (f.none h (New.old hb))]
  exact New.le b u hb
/-- what a turn has made, with one more list hidden -/
theorem Fr.both {D : Drw} {H0 H H' : Hp} {d : Addr} (h : DrawV D H0) (f : Fr D H0 H) (hd : H d ≠ Option.none) : Same (New H H') (New H0 (hide d H')) := fun b u hb => by
  rw [New.at_ (f.none h (New.old hb))]
  exact New.hide hd b u hb
theorem get_rest {D : Drw} {H : Hp} {r t : Int} (h : H D.a = some (.dK (drK D r t))) : DGet H D.a (.str "rest") (some (.int r)) := .inl ⟨_, Sum.inr "rest", .inl h, rfl, by rfl⟩
theorem get_large {D : Drw} {H : Hp} {r t : Int} (h : H D.a = some (.dK (drK D r t))) : DGet H D.a (.str "large") (some (.ref D.la)) := .inl ⟨_, Sum.inr "large", .inl h, rfl, by rfl⟩
theorem get_cells {D : Drw} {H : Hp} {r t : Int} (h : H D.a = some (.dK (drK D r t))) : DGet H D.a (.str "cells") (some (.ref D.ca)) := .inl ⟨_, Sum.inr "cells", .inl h, rfl, by rfl⟩
theorem get_turn {D : Drw} {H : Hp} {r t : Int} (h : H D.a = some (.dK (drK D r t))) : DGet H D.a (.str "turn") (some (.int t)) := .inl ⟨_, Sum.inr "turn", .inl h, rfl, by rfl⟩
theorem put_rest {D : Drw} {H : Hp} {r t : Int} (h : H D.a = some (.dK (drK D r t))) (x : Int) : DPut H D.a (.str "rest") (.int x) (upd H D.a (.dK (drK D x t))) := .inl ⟨_, Sum.inr "rest", h, rfl, by show 4 < sizeLine; decide, by rfl⟩
theorem put_turn {D : Drw} {H : Hp} {r t : Int} (h : H D.a = some (.dK (drK D r t))) (x : Int) : DPut H D.a (.str "turn") (.int x) (upd H D.a (.dK (drK D r x))) := .inl ⟨_, Sum.inr "turn", h, rfl, by show 4 < sizeLine; decide, by rfl⟩
theorem r_itQ {te : TE} {σ : L2.St} {H0 H : Hp} {a : Addr} {ns : List Int} {W : It → Hp → Prop} (h : SqL K H0 a (ns.map V.int)) (e0 : Same H0 H) (ht : ∀ Q : VK, Q (.ref a) H → te σ H Q) (hR : ∀ J ys, Each IntV ns ys H0 → Walk J ns.length (fun H' => Same H0 H') (YAt ys) → W J H) : iList K te σ H W := by
  have hq : ∀ H', Same H0 H' → SqL K H' a (ns.map V.int) := fun H' e => SqL.rdE (Same.rd e) h
  refine ht _ ⟨a, rfl, ⟨_, hq _ e0⟩, hR _ (ns.map V.int) int_each ?_⟩
  have : ns.length = (ns.map V.int).length := by rw [List.length_map]
  rw [this]
  exact walk_list.mono hq fun _ _ _ _ _ _ h => h
abbrev s__law_begun : Stmt := top 59
theorem sc__law_begun : FnScope ["_law_script", "_law_large", "_law_grain"] ["_law_script"] (defScope s__law_begun) := ⟨rfl, rfl, rfl, by decide +kernel, rfl, by decide +kernel, by decide +kernel⟩
def spBegun (K : PySem.W.Frag) : Sp := fun vs H Q _ => ∃ (a : Addr) (ns : List Int), vs = [.ref a] ∧ SqL K H a (ns.map V.int) ∧ ns.length ≤ 100000 ∧ ∀ D H', Same H H' → H D.a = none → DrawV D H' → Q (.ref D.a) H'
theorem ok__law_begun (T : Tx K mg d) (D : Df K mg "_law_begun" s__law_begun) : Cal P w K mg base 1 "_law_begun" (spBegun K) [] := by
  have nd := sc__law_begun.nd
  refine mkCal D sc__law_begun (fun vs H Q E h => ?_) (fun _ _ _ _ _ _ us hl => match us, hl with | [_], _ => rfl) (fun f0 cdv A outer s H vs Q E hr h => ?_)
  · obtain ⟨sa, ns, rfl, _⟩ := h
    rfl
  obtain ⟨sa, ns, rfl, hy, hl, k⟩ := h
  refine ⟨_, (pss_cons (ps_setLc (own := [("_law_grain", 2)]) (g := gName 2)  (i := 1) rfl nd rfl rfl (sw_true rfl rfl rfl (by decide +kernel)) (pi_listK (K := K) (pv 0)) (blkOk_by (by kernel_rfl)) (fun _ _ _ _ _ => (pg_name (i := 2) nd rfl (Or.inl rfl))) (fun _ _ _ _ _ => (pts_one (pt_cmpR op_ge (pe_callB call_abs (by rfl) T.abs (by decide +kernel) (pa_cons (pv 2) pa_nil)) (pe_op op_pow pe_int pe_int) (nomark _)))) (fun _ _ _ _ _ => (pe_op op_sub (pe_callB call_abs (by rfl) T.abs (by decide +kernel) (pa_cons (pv 2) pa_nil)) (pe_op op_pow pe_int pe_int))))
    (pss_one (ps_ret (pe_disp (pps_cons pe_str (pv 1) (pps_cons pe_str pe_int (pps_cons pe_str (pe_lc (own := [("_law_grain", 2)]) (g := gName 2) (tt := tYes) rfl nd (pi_listK (K := K) (pv 0)) (blkOk_by (by kernel_rfl)) (fun _ _ _ _ _ => (pg_name (i := 2) nd rfl (Or.inl rfl))) (fun _ _ _ _ _ => pts_nil) (fun _ _ _ _ _ => (pe_callB call_abs (by rfl) T.abs (by decide +kernel) (pa_cons (pv 2) pa_nil)))) (pps_cons pe_str pe_int pps_nil)))) rfl rfl (by simp) (by decide))))), ?_⟩
  walk_at "st"
  walk_at "go"
  refine r_lc (r_itQ hy (Same.refl _) (fun Q q => by walk_at "go"; exact q) fun J ys hys wk => ?_)
  refine lc_new wk (R := IntV) (fun i => decide ((10 : Int) ^ (18 : Int).toNat ≤ if ns.getD i 0 < 0 then -(ns.getD i 0) else ns.getD i 0)) (fun i => (if ns.getD i 0 < 0 then -(ns.getD i 0) else ns.getD i 0) - (10 : Int) ^ (18 : Int).toNat) (fun _ h => h) hl (fun i x H1 H2 kY kN hi e z hY hN => ?_) (fun la H1 ys1 hla e1 hy1 hE1 => ?_)
  · obtain ⟨rfl, hx⟩ := z
    obtain ⟨ni, hni, rfl⟩ := hys.yet hx
    rw [getD_some hni] at hY hN
    walk_at "lc"
    walk_at "go"
    refine ⟨rfl, ?_⟩
    walk_at "go"
    refine ⟨ni, rfl, ?_⟩
    walk_at "go"
    refine r_dec (fun h => ?_) fun h => ?_
    · walk_at "go"
      refine ⟨ni, rfl, ?_⟩
      walk_at "go"
      exact hY _ _ (decide_eq_true h) (Same.refl _) rfl
    · exact hN _ (decide_eq_false h) (Same.refl _)
  walk_at "go"
  intro a ha
  walk_at "go"
  have ea : Same H1 (upd H1 a (.dK [])) := Same.new ha
  refine r_lc (r_itQ (SqL.rdE (Same.rd e1) hy) ea (fun Q q => by walk_at "go"; exact q) fun J ys2 hys2 wk2 => ?_)
  refine lc_new (wk2.mono (fun H' (e : Same (upd H1 a (.dK [])) H') => Same.trans ea e) fun _ _ _ _ _ _ h => h) (R := IntV) (fun _ => true) (fun i => if ns.getD i 0 < 0 then -(ns.getD i 0) else ns.getD i 0) (fun _ h => h) hl (fun i x H2 H3 kY kN hi e z hY hN => ?_) (fun ca H2 ys3 hca e2 hy3 hE3 => ?_)
  · obtain ⟨rfl, hx⟩ := z
    obtain ⟨ni, hni, rfl⟩ := hys2.yet hx
    rw [getD_some hni] at hY
    walk_at "lc"
    walk_at "go"
    refine ⟨rfl, ?_⟩
    walk_at "go"
    exact ⟨ni, rfl, hY _ _ rfl (Same.refl _) rfl⟩
  walk_at "go"
  have ha2 := e2 a _ upd_same
  have hla1 := each_int (hE1.mono New.le)
  have hca1 := each_int (hE3.mono New.le)
  have hlaa : la ≠ a := ne_of_none hy1 ha
  have hcaa : ca ≠ a := ne_new hca (by rw [upd_same]; simp)
  have hla2 := e2 la _ (ea la _ hy1)
  have hcal : ca ≠ la := ne_new hca (by rw [ea la _ hy1]; simp)
  refine ⟨ha2, drK ⟨a, la, ca⟩ 0 0, rfl, by show 4 ≤ 15; omega, ?_⟩
  refine k ⟨a, la, ca⟩ _ (Same.mut (Same.trans e1 (Same.trans ea e2)) (none_of e1 ha)) (none_of e1 ha) ⟨⟨0, 0, _, _, upd_same, by show (upd _ _ _) la = _; rw [upd_ne hlaa, hla2, hla1], by show (upd _ _ _) ca = _; rw [upd_ne hcaa, hy3, hca1]⟩, hcal⟩
theorem DrawV.turn {D : Drw} {H : Hp} (h : DrawV D H) {r t : Int} (hr : H D.a = some (.dK (drK D r t))) (r' t' : Int) : DrawV D (upd H D.a (.dK (drK D r' t'))) := by
  obtain ⟨r0, t0, ns, ms, h1, h2, h3⟩ := h.ex
  exact ⟨⟨r', t', ns, ms, upd_same, by rw [upd_ne fun e => by rw [e, h1] at h2; cases h2]; exact h2, by rw [upd_ne fun e => by rw [e, h1] at h3; cases h3]; exact h3⟩, h.ne1⟩
theorem Fr.put {D : Drw} {H : Hp} {o : HO} (h : DrawV D (upd H D.a o)) : Fr D H (upd H D.a o) := ⟨h, by
  unfold hD
  rw [hide_upd]
  exact Same.refl _⟩
abbrev s__law_mixed : Stmt := top 60
theorem sc__law_mixed : FnScope ["_law_draw", "_law_turn", "_law_found", "_law_great", "_law_blend", "_law_grain"] ["_law_draw"] (defScope s__law_mixed) := ⟨rfl, rfl, rfl, by decide +kernel, rfl, by decide +kernel, by decide +kernel⟩
def spMixed : Sp := fun vs H Q _ => ∃ D, vs = [.ref D.a] ∧ DrawV D H ∧ ∀ (i : Int) H', Fr D H H' → (∀ r t, H D.a = some (.dK (drK D r t)) → ∃ t', H' D.a = some (.dK (drK D r t'))) → H' D.la = H D.la → Q (.int i) H'
theorem ok__law_mixed (T : Tx K mg d) (D : Df K mg "_law_mixed" s__law_mixed) : Cal P w K mg base 1 "_law_mixed" (spMixed) [] := by
  have nd := sc__law_mixed.nd
  refine mkCal D sc__law_mixed (fun vs H Q E h => ?_) (fun _ _ _ _ _ _ us hl => match us, hl with | [_], _ => rfl) (fun f0 cdv A outer s H vs Q E hr h => ?_)
  · obtain ⟨D, rfl, _⟩ := h
    rfl
  obtain ⟨D, rfl, hd, k⟩ := h
  have hu := hu_of hr
  obtain ⟨r, t, ns, ms, h1, h2, h3⟩ := hd.ex
  refine ⟨_, (pss_cons (ps_dput hu (pv 0) pe_str (pe_op op_add (pe_dget hu (pv 0) pe_str (fun _ _ => rfl)) pe_int) rfl)
    (pss_cons (ps_par (i := 1) (j := 2) rfl nd rfl rfl (by decide) rfl rfl (pa_cons (pe_callTy call_int1 (by rfl) T.int_ (by decide +kernel) (pa_cons (pe_dget hu (pv 0) pe_str (fun _ _ => rfl)) pa_nil)) (pa_cons pe_int pa_nil)) (by rfl))
    (pss_cons (ps_for PassesOwn.never rfl (pi_listK (K := K) (pe_lst (pa_cons pe_int (pa_cons pe_int (pa_cons pe_int pa_nil))))) (pg_name (i := 3) nd rfl (Or.inl rfl)) 
      (pss_cons (ps_set (i := 4) nd rfl (Or.inl rfl) (pe_op op_mod (pe_op op_add (pe_op op_mul (pv 1) pe_int) (pe_op op_fdiv (pv 3) pe_int)) (pv 3)))
      (pss_cons (ps_for PassesOwn.never rfl (pi_listK (K := K) (pe_dget hu (pv 0) pe_str (fun _ _ => rfl))) (pg_name (i := 5) nd rfl (Or.inl rfl)) 
        (pss_one (ps_set (i := 4) nd rfl (Or.inl rfl) (pe_op op_mod (pe_op op_add (pe_op op_mul (pv 4) pe_int) (pe_callTy call_int1 (by rfl) T.int_ (by decide +kernel) (pa_cons (pv 5) pa_nil))) (pv 3)))))
      (pss_one (ps_set (i := 2) nd rfl (Or.inl rfl) (pe_op op_add (pe_op op_mul (pv 2) pe_int) (pe_op op_mod (pe_op op_pow (pv 4) pe_int) (pv 3))))))))
    (pss_one (ps_ret (pv 2)))))), ?_⟩
  walk_at "st"
  walk_at "go"
  refine ⟨D.a, _, rfl, get_turn h1, ?_⟩
  walk_at "go"
  refine ⟨D.a, _, rfl, put_turn h1 (t + 1), ?_⟩
  have hd1 : DrawV D (upd H D.a (.dK (drK D r (t + 1)))) := hd.turn h1 _ _
  have f1 := Fr.put hd1
  have hla1 : (upd H D.a (.dK (drK D r (t + 1)))) D.la = H D.la := upd_ne fun e => by rw [e, h1] at h2; cases h2
  have hca1 : (upd H D.a (.dK (drK D r (t + 1)))) D.ca = some (.lst (ms.map V.int)) := by rw [upd_ne fun e => by rw [e, h1] at h3; cases h3]; exact h3
  have h11 : (upd H D.a (.dK (drK D r (t + 1)))) D.a = some (.dK (drK D r (t + 1))) := upd_same
  generalize (upd H D.a (.dK (drK D r (t + 1)))) = H1 at *
  walk_at "go"
  refine ⟨D.a, _, rfl, get_turn h11, ?_⟩
  walk_at "go"
  refine .inl ⟨_, rfl, ?_⟩
  walk_at "go"
  refine r_for (r_iL ?_)
  walk_at "go"
  refine ⟨by show 3 ≤ sizeLine; decide, fun l hl => ⟨l, rfl, ⟨_, SqL.of upd_same⟩, ?_⟩⟩
  have e1 : Same H1 (upd H1 l (.lst [.int 2147483629, .int 2147483587, .int 2147483579])) := Same.new hl
  refine for_it (walk_list.mono (n := [V.int 2147483629, V.int 2147483587, V.int 2147483579].length) (G' := fun H' => Same (upd H1 l (.lst [.int 2147483629, .int 2147483587, .int 2147483579])) H') (fun H' e => SqL.of (e l _ upd_same)) fun _ _ _ _ _ _ h => h)
    (fun i σ H' => Same (upd H1 l (.lst [.int 2147483629, .int 2147483587, .int 2147483579])) H' ∧ ∃ (f : Int) (v3 v4 v5 : Option V), σ = [some (.ref D.a), some (.int (t + 1)), some (.int f), v3, v4, v5]) ⟨Same.refl _, _, _, _, _, rfl⟩ (fun _ _ _ _ h => h.1) ?_ ?_
  · rintro i x σ Hx H2 hi ⟨e2, f, v3, v4, v5, rfl⟩ ⟨rfl, hx⟩
    have e12 := Same.trans e1 e2
    have hg : ∃ g : Int, x = .int g ∧ 0 < g ∧ g < 2147483648 := by
      match i, hx with
      | 0, hx => cases hx; exact ⟨_, rfl, by omega, by omega⟩
      | 1, hx => cases hx; exact ⟨_, rfl, by omega, by omega⟩
      | 2, hx => cases hx; exact ⟨_, rfl, by omega, by omega⟩
    obtain ⟨g, rfl, hg0, hg1⟩ := hg
    walk_at "go"
    have hb0 := Int.emod_nonneg ((t + 1) * 69621 + g / 7) (show g ≠ 0 by omega)
    have hb1 := Int.emod_lt_of_pos ((t + 1) * 69621 + g / 7) hg0
    generalize ((t + 1) * 69621 + g / 7) % g = b0 at *
    refine r_for (r_iL ?_)
    walk_at "go"
    refine ⟨D.a, _, rfl, get_cells (e12 _ _ h11), ?_⟩
    have hca2 := e12 _ _ hca1
    refine ⟨D.ca, rfl, ⟨_, SqL.of hca2⟩, ?_⟩
    refine for_it (walk_list.mono (n := (ms.map V.int).length) (G' := fun H' => H' = H2) (fun H' e => by rw [e]; exact SqL.of hca2) fun _ _ _ _ _ _ h => h)
      (fun i σ H' => H' = H2 ∧ ∃ (b : Int) (v5 : Option V), σ = [some (.ref D.a), some (.int (t + 1)), some (.int f), some (.int g), some (.int b), v5] ∧ 0 ≤ b ∧ b < g) ⟨rfl, _, _, rfl, hb0, hb1⟩ (fun _ _ _ _ h => h.1) ?_ ?_
    · rintro i2 x2 σ Hy H3 hi2 ⟨rfl, b, v5, rfl, hb0, hb1⟩ ⟨rfl, hx2⟩
      rw [List.getElem?_map] at hx2
      cases hm : ms[i2]? with
      | none => rw [hm] at hx2; cases hx2
      | some mi =>
        rw [hm] at hx2
        cases hx2
        walk_at "go"
        refine .inl ⟨_, rfl, ?_⟩
        walk_at "go"
        exact ⟨rfl, _, _, rfl, Int.emod_nonneg _ (by omega), Int.emod_lt_of_pos _ hg0⟩
    · rintro σ H3 ⟨rfl, b, v5, rfl, hb0, hb1⟩
      walk_at "go"
      exact ⟨e2, _, _, _, _, rfl⟩
  · rintro σ H2 ⟨e2, f, v3, v4, v5, rfl⟩
    walk_at "go"
    have e12 := Same.trans e1 e2
    refine k f H2 (f1.trans (Fr.of hd1 e12)) (fun r' t' h' => ?_) ?_
    · rw [h1] at h'
      cases h'
      exact ⟨t + 1, e12 _ _ h11⟩
    · rw [← hla1]
      have : H1 D.la = some (.lst (ns.map V.int)) := hla1.trans h2
      rw [this]
      exact e12 _ _ this
abbrev s__law_take : Stmt := top 61
theorem sc__law_take : FnScope ["_law_draw", "_law_amount", "_law_found"] ["_law_draw", "_law_amount"] (defScope s__law_take) := ⟨rfl, rfl, rfl, by decide +kernel, rfl, by decide +kernel, by decide +kernel⟩
def spTake : Sp := fun vs H Q _ => ∃ (D : Drw) (n : Nat), vs = [.ref D.a, .int n] ∧ DrawV D H ∧ 1 ≤ n ∧ n ≤ 100000 ∧ ∀ (i : Nat) H', i < n → Fr D H H' → Q (.int i) H'
theorem ok__law_take (T : Tx K mg d) (D : Df K mg "_law_take" s__law_take) (c__law_mixed : Cal P w K mg base 1 "_law_mixed" spMixed []) : Cal P w K mg base 2 "_law_take" (spTake) [] := by
  have nd := sc__law_take.nd
  refine mkCal D sc__law_take (fun vs H Q E h => ?_) (fun _ _ _ _ _ _ us hl => match us, hl with | [_, _], _ => rfl) (fun f0 cdv A outer s H vs Q E hr h => ?_)
  · obtain ⟨D, n, rfl, _⟩ := h
    rfl
  obtain ⟨D, n, rfl, hd, hn1, hn2, k⟩ := h
  have hu := hu_of hr
  obtain ⟨r, t, ns, ms, h1, h2, h3⟩ := hd.ex
  refine ⟨_, (pss_cons (ps_if (pt_cmpR op_eq (pe_dget hu (pv 0) pe_str (fun _ _ => rfl)) pe_int (nomark _)) 
      (pss_one (ps_dput hu (pv 0) pe_str (pe_ifExp (pt_cmpR (op_neNil hr.units0) (pe_dget hu (pv 0) pe_str (fun _ _ => rfl)) (pe_lst pa_nil) (nomark _)) (pe_bm PySem.F.plainAttrs_list PySem.F.slot_list_pop PySem.F.type_list_pop mt_popAt (pe_dget hu (pv 0) pe_str (fun _ _ => rfl)) (pa_cons pe_int pa_nil)) (pe_c c__law_mixed hr (by decide) rfl (pa_cons (pv 0) pa_nil))) rfl)) pss_nil)
    (pss_cons (ps_set (i := 2) nd rfl (Or.inl rfl) (pe_op op_mod (pe_callTy call_int1 (by rfl) T.int_ (by decide +kernel) (pa_cons (pe_dget hu (pv 0) pe_str (fun _ _ => rfl)) pa_nil)) (pv 1)))
    (pss_cons (ps_dput hu (pv 0) pe_str (pe_op op_fdiv (pe_callTy call_int1 (by rfl) T.int_ (by decide +kernel) (pa_cons (pe_dget hu (pv 0) pe_str (fun _ _ => rfl)) pa_nil)) (pv 1)) rfl)
    (pss_one (ps_ret (pv 2)))))), ?_⟩
  walk_at "st"
  walk_at "go"
  refine ⟨D.a, _, rfl, get_rest h1, ?_⟩
  walk_at "go"
  refine r_dec (fun h0 => ?_) fun h0 => ?_
  · walk_at "go"
    refine ⟨D.a, _, rfl, get_large h1, ?_⟩
    walk_at "go"
    refine ⟨by show 0 ≤ sizeLine; omega, fun el hel => ?_⟩
    have e1 : Same H (upd H el (.lst [])) := Same.new hel
    refine r_neNil (SqL.of (e1 _ _ h2)) (SqL.of upd_same) ?_
    have hd1 := hd.same e1
    have f1 : Fr D H (upd H el (.lst [])) := Fr.of hd e1
    have h11 := e1 _ _ h1
    have h21 := e1 _ _ h2
    generalize (upd H el (.lst [])) = H1 at *
    cases ns with
    | nil =>
      refine r_bl (r_false ?_)
      walk_at "go"
      refine ⟨D, rfl, hd1, fun i H2 f2 hx _ => ?_⟩
      obtain ⟨t1, ha2⟩ := hx _ _ h11
      walk_at "go"
      refine ⟨D.a, _, rfl, put_rest ha2 i, ?_⟩
      have f1 := (f1.trans f2).trans (Fr.put (f2.dr.turn ha2 i t1))
      have ha1 : (upd H2 D.a (.dK (drK D i t1))) D.a = some (.dK (drK D i t1)) := upd_same
      generalize (upd H2 D.a (.dK (drK D i t1))) = H3 at *
      obtain ⟨x, hx⟩ : ∃ x, x = i := ⟨_, rfl⟩
      subst hx
      walk_at "go"
      refine ⟨D.a, _, rfl, get_rest ha1, ?_⟩
      walk_at "go"
      refine .inl ⟨_, rfl, ?_⟩
      walk_at "go"
      refine ⟨D.a, _, rfl, get_rest ha1, ?_⟩
      walk_at "go"
      refine .inl ⟨_, rfl, ?_⟩
      walk_at "go"
      refine ⟨D.a, _, rfl, put_rest ha1 _, ?_⟩
      walk_at "go"
      have hm0 := Int.emod_nonneg x (show (n : Int) ≠ 0 by omega)
      have hm1 := Int.emod_lt_of_pos x (show (0 : Int) < (n : Int) by omega)
      have hk := k (x % (n : Int)).toNat _ (by omega) (f1.trans (Fr.put (f1.dr.turn ha1 (x / (n : Int)) t1)))
      rw [show (((x % (n : Int)).toNat : Nat) : Int) = x % (n : Int) by omega] at hk
      exact hk
    | cons x ns =>
      refine r_bl (r_true ?_)
      walk_at "go"
      refine ⟨D.a, _, rfl, get_large h11, ?_⟩
      refine ⟨.inl ⟨rfl, _, SqL.of h21⟩, ?_⟩
      walk_at "go"
      refine ⟨D.la, _, 0, 0, .int x, rfl, rfl, h21, by omega, by omega, by unfold seqIndex?; simp, rfl, ?_⟩
      have hal : D.a ≠ D.la := fun e => by rw [e, h21] at h11; cases h11
      have f2 : Fr D H1 (upd H1 D.la (.lst (((x :: ns).map V.int).eraseIdx 0))) := by
        obtain ⟨r', t', ns', ms', q1, q2, q3⟩ := hd1.ex
        refine ⟨⟨⟨r, t, ns, ms', by rw [upd_ne hal]; exact h11, upd_same, by rw [upd_ne hd1.ne1]; exact q3⟩, hd1.ne1⟩, ?_⟩
        unfold hD
        intro b u hb
        have hbl : b ≠ D.la := fun z => by rw [z] at hb; simp [hide] at hb
        rw [hide_ne hbl] at hb ⊢
        have hba : b ≠ D.a := fun z => by rw [z] at hb; simp [hide] at hb
        rw [hide_ne hba] at hb ⊢
        rw [upd_ne hbl]
        exact hb
      have ha2 : (upd H1 D.la (.lst (((x :: ns).map V.int).eraseIdx 0))) D.a = some (.dK (drK D r t)) := by rw [upd_ne hal]; exact h11
      generalize (upd H1 D.la (.lst (((x :: ns).map V.int).eraseIdx 0))) = H2 at *
      walk_at "go"
      refine ⟨D.a, _, rfl, put_rest ha2 x, ?_⟩
      have f1 := (f1.trans f2).trans (Fr.put (f2.dr.turn ha2 x t))
      have ha1 : (upd H2 D.a (.dK (drK D x t))) D.a = some (.dK (drK D x t)) := upd_same
      generalize (upd H2 D.a (.dK (drK D x t))) = H3 at *
      obtain ⟨t1, ht1⟩ : ∃ t1, t1 = t := ⟨_, rfl⟩
      subst ht1
      walk_at "go"
      refine ⟨D.a, _, rfl, get_rest ha1, ?_⟩
      walk_at "go"
      refine .inl ⟨_, rfl, ?_⟩
      walk_at "go"
      refine ⟨D.a, _, rfl, get_rest ha1, ?_⟩
      walk_at "go"
      refine .inl ⟨_, rfl, ?_⟩
      walk_at "go"
      refine ⟨D.a, _, rfl, put_rest ha1 _, ?_⟩
      walk_at "go"
      have hm0 := Int.emod_nonneg x (show (n : Int) ≠ 0 by omega)
      have hm1 := Int.emod_lt_of_pos x (show (0 : Int) < (n : Int) by omega)
      have hk := k (x % (n : Int)).toNat _ (by omega) (f1.trans (Fr.put (f1.dr.turn ha1 (x / (n : Int)) t1)))
      rw [show (((x % (n : Int)).toNat : Nat) : Int) = x % (n : Int) by omega] at hk
      exact hk
  · have f1 : Fr D H H := Fr.refl hd
    have ha1 := h1
    obtain ⟨x, hx⟩ : ∃ x, x = r := ⟨_, rfl⟩
    obtain ⟨t1, ht1⟩ : ∃ t1, t1 = t := ⟨_, rfl⟩
    subst hx ht1
    walk_at "go"
    refine ⟨D.a, _, rfl, get_rest ha1, ?_⟩
    walk_at "go"
    refine .inl ⟨_, rfl, ?_⟩
    walk_at "go"
    refine ⟨D.a, _, rfl, get_rest ha1, ?_⟩
    walk_at "go"
    refine .inl ⟨_, rfl, ?_⟩
    walk_at "go"
    refine ⟨D.a, _, rfl, put_rest ha1 _, ?_⟩
    walk_at "go"
    have hm0 := Int.emod_nonneg x (show (n : Int) ≠ 0 by omega)
    have hm1 := Int.emod_lt_of_pos x (show (0 : Int) < (n : Int) by omega)
    have hk := k (x % (n : Int)).toNat _ (by omega) (f1.trans (Fr.put (f1.dr.turn ha1 (x / (n : Int)) t1)))
    rw [show (((x % (n : Int)).toNat : Nat) : Int) = x % (n : Int) by omega] at hk
    exact hk
end
section
variable {P : Program} {w : World} {K : PySem.W.Frag} {mg : Str → Option Value} {base : Heap} {d : Ad} {p : Nat} [Pr p]
abbrev s__law_single : Stmt := top 67
theorem sc__law_single : FnScope ["_law_size", "_law_spot", "_law_k"] ["_law_size", "_law_spot"] (defScope s__law_single) := ⟨rfl, rfl, rfl, by decide +kernel, rfl, by decide +kernel, by decide +kernel⟩
def sngI (n s : Nat) : List Int := (List.range n).map fun k => if k = s then 1 else 0
def spSingle : Sp := fun vs H Q _ => ∃ n s : Nat, vs = [.int n, .int s] ∧ n ≤ 1000 ∧ ∀ y' H', Same H H' → LstOf IntV (sngI n s) y' (New H H') → Q y' H'
theorem ok__law_single (T : Tx K mg d) (D : Df K mg "_law_single" s__law_single) : Cal P w K mg base 1 "_law_single" (spSingle) [] := by
  have nd := sc__law_single.nd
  refine mkCal D sc__law_single (fun vs H Q E h => ?_) (fun _ _ _ _ _ _ us hl => match us, hl with | [_, _], _ => rfl) (fun f0 cdv A outer s H vs Q E hr h => ?_)
  · obtain ⟨n, s, rfl, _⟩ := h
    rfl
  obtain ⟨n, s, rfl, hn, k⟩ := h
  refine ⟨_, (pss_one (ps_ret (pe_lc (own := [("_law_k", 2)]) (g := gName 2) (tt := tYes) rfl nd (pi_range1 rfl T.range (pa_cons (pv 0) pa_nil)) (blkOk_by (by kernel_rfl)) (fun _ _ _ _ _ => (pg_name (i := 2) nd rfl (Or.inl rfl))) (fun _ _ _ _ _ => pts_nil) (fun _ _ _ _ _ => (pe_callTy call_int1 (by rfl) T.int_ (by decide +kernel) (pa_cons (pe_cmpR op_eq (pv 2) (pv 1) (nomark _)) pa_nil)))))), ?_⟩
  walk_at "st"
  walk_at "go"
  refine r_lc (r_rng n (by omega) (fun QA q => by walk_at "go"; exact q) fun J wk => ?_)
  refine lc_new wk (R := IntV) (fun _ => true) (fun k => if k = s then (1 : Int) else 0) (fun _ _ => trivial) (by omega) (fun i x H2 H3 kY kN hi e z hY hN => ?_) (fun D1 H2 ys1 hD1 e1 hy1 hE1 => ?_)
  · obtain ⟨rfl, rfl⟩ := z
    walk_at "lc"
    walk_at "go"
    refine ⟨rfl, ?_⟩
    walk_at "go"
    refine .inr ⟨_, rfl, hY _ _ rfl (Same.refl _) ?_⟩
    show V.int _ = V.int _
    congr 1
    by_cases q : i = s
    · subst q
      simp
    · have : ¬ ((i : Int) = (s : Int)) := fun z => q (by omega)
      simp [q, this]
  · rw [tk_all] at hE1
    exact k _ _ e1 (lst_new hD1 hy1 hE1)
abbrev s__law_undone : Stmt := top 65
theorem sc__law_undone : FnScope ["_law_field_here", "_law_number", "_law_item"] ["_law_field_here", "_law_number"] (defScope s__law_undone) := ⟨rfl, rfl, rfl, by decide +kernel, rfl, by decide +kernel, by decide +kernel⟩
def spLUndone (p : Nat) [Pr p] : Sp := fun vs H Q _ => ∃ i : Int, vs = [.int p, .int i] ∧ (md i : Fin p) ≠ 0 ∧ ((-(2 ^ 64) < i ∧ i < 2 ^ 64)) ∧ ∀ (z : Fin p) H', Same H H' → z * md i = 1 → Q (.int (iv z)) H'
theorem ok__law_undone (T : Tx K mg d) (D : Df K mg "_law_undone" s__law_undone) : Cal P w K mg base 1 "_law_undone" (U fun p _ => spLUndone p) [] := by
  have nd := sc__law_undone.nd
  refine mkCalU D sc__law_undone (fun p hp vs H Q E h => ?_) (fun _ _ _ _ _ _ us hl => match us, hl with | [_, _], _ => rfl) (fun p hp f0 cdv A outer s H vs Q E hr h => ?_)
  · obtain ⟨i, rfl, _⟩ := h
    rfl
  obtain ⟨i, rfl, hi, hsm, k⟩ := h
  have hp := Pr.ge (p := p)
  have hp2 := Pr.le (p := p)
  refine ⟨_, (pss_one (ps_ret (pe_ix (ix_listK (K := K)) (pe_lc (own := [("_law_item", 2)]) (g := gName 2)  rfl nd (pi_range2 rfl T.range (pa_cons pe_int (pa_cons (pv 0) pa_nil))) (blkOk_by (by kernel_rfl)) (fun _ _ _ _ _ => (pg_name (i := 2) nd rfl (Or.inl rfl))) (fun _ _ _ _ _ => (pts_one (pt_cmpR op_eq (pe_op op_mod (pe_op op_mul (pv 2) (pv 1)) (pv 0)) pe_int (nomark _)))) (fun _ _ _ _ _ => (pv 2))) pe_int (fun _ _ => rfl)))), ?_⟩
  walk_at "st"
  walk_at "go"
  refine r_lc (r_rng2 1 (p - 1) (by omega) (fun QA q => by walk_at "go"; rw [show ((p : Nat) : Int) = ((1 + (p - 1) : Nat) : Int) by omega]; exact q) fun J wk => ?_)
  have tst : ∀ j : Nat, ((j : Int) * i % (p : Int) = 1) ↔ (md (j : Int) : Fin p) * md i = 1 := fun j => by
    rw [← md_mul]
    constructor
    · intro h
      apply iv_inj
      rw [iv_md, h, one1]
    · intro h
      rw [← iv_md (p := p), h, one1]
  refine lc_new wk (R := IntV) (fun j => decide ((md ((1 + j : Nat) : Int) : Fin p) * md i = 1)) (fun j => ((1 + j : Nat) : Int)) (fun _ _ => trivial) (by omega) (fun j x H2 H3 kY kN hj e z hY hN => ?_) (fun D1 H2 ys1 hD1 e1 hy1 hE1 => ?_)
  · obtain ⟨rfl, rfl⟩ := z
    walk_at "lc"
    walk_at "go"
    refine ⟨rfl, ?_⟩
    walk_at "go"
    refine r_dec (fun h => ?_) fun h => ?_
    · walk_at "go"
      exact hY _ _ (decide_eq_true ((tst _).mp h)) (Same.refl _) rfl
    · exact hN _ (decide_eq_false fun z => h ((tst _).mpr z)) (Same.refl _)
  · walk_at "go"
    obtain ⟨y, hyi⟩ := inv_ex hi
    have hmem : ∃ j0, j0 ∈ tk (p - 1) (fun j => decide ((md ((1 + j : Nat) : Int) : Fin p) * md i = 1)) := by
      have hy0 : y.val ≠ 0 := fun z => by
        have : y = 0 := Fin.ext z
        rw [this] at hyi
        have : (0 : Fin p) = 1 := by grind
        exact one_ne this.symm
      refine ⟨y.val - 1, mem_tk.mpr ⟨by have := y.isLt; omega, decide_eq_true ?_⟩⟩
      have : ((1 + (y.val - 1) : Nat) : Int) = iv y := by show _ = ((y.val : Nat) : Int); omega
      rw [this, md_iv]
      grind
    cases hl : tk (p - 1) (fun j => decide ((md ((1 + j : Nat) : Int) : Fin p) * md i = 1)) with
    | nil => obtain ⟨j0, hj0⟩ := hmem; rw [hl] at hj0; cases hj0
    | cons j0 r =>
      rw [hl] at hE1
      have hj0 : j0 ∈ tk (p - 1) (fun j => decide ((md ((1 + j : Nat) : Int) : Fin p) * md i = 1)) := by rw [hl]; exact List.mem_cons_self
      obtain ⟨h1, h2⟩ := mem_tk.mp hj0
      obtain ⟨y0, hy0, rfl⟩ := hE1.get (i := 0) (f := ((1 + j0 : Nat) : Int)) rfl
      refine r_ixL (i := 0) (SqL.of hy1) hy0 ?_
      have hk := k (md ((1 + j0 : Nat) : Int)) H2 e1 (of_decide_eq_true h2)
      rw [iv_md, Int.emod_eq_of_lt (by omega) (by omega)] at hk
      exact hk
abbrev s__law_pick : Stmt := top 62
theorem sc__law_pick : FnScope ["_law_draw", "_law_some"] ["_law_draw", "_law_some"] (defScope s__law_pick) := ⟨rfl, rfl, rfl, by decide +kernel, rfl, by decide +kernel, by decide +kernel⟩
def spPick : Sp := fun vs H Q _ => ∃ (D : Drw) (y : V) (ns : List Int), vs = [.ref D.a, y] ∧ DrawV D H ∧ LstOf IntV ns y (hD D H) ∧ 1 ≤ ns.length ∧ ns.length ≤ 1000 ∧ ∀ n ∈ ns, ∀ H', Fr D H H' → Q (.int n) H'
theorem ok__law_pick (T : Tx K mg d) (D : Df K mg "_law_pick" s__law_pick) (c__law_take : Cal P w K mg base 2 "_law_take" spTake []) : Cal P w K mg base 3 "_law_pick" (spPick) [] := by
  have nd := sc__law_pick.nd
  refine mkCal D sc__law_pick (fun vs H Q E h => ?_) (fun _ _ _ _ _ _ us hl => match us, hl with | [_, _], _ => rfl) (fun f0 cdv A outer s H vs Q E hr h => ?_)
  · obtain ⟨D, y, ns, rfl, _⟩ := h
    rfl
  obtain ⟨D, y, ns, rfl, hd, ⟨b, ys, rfl, hb, he⟩, hn1, hn2, k⟩ := h
  refine ⟨_, (pss_one (ps_ret (pe_ix (ix_listK (K := K)) (pv 1) (pe_c c__law_take hr (by decide) rfl (pa_cons (pv 0) (pa_cons (pe_callB (call_lenK (K := K)) (by rfl) T.len (by decide +kernel) (pa_cons (pv 1) pa_nil)) pa_nil))) (fun _ _ => rfl)))), ?_⟩
  walk_at "st"
  walk_at "go"
  refine ⟨b, ys, rfl, .inl (SqL.of (hD_le b _ hb)), ?_⟩
  walk_at "go"
  rw [he.len]
  refine ⟨D, ns.length, rfl, hd, hn1, by omega, fun i H1 hi f1 => ?_⟩
  walk_at "go"
  obtain ⟨y0, hy0, rfl⟩ := he.get (List.getElem?_eq_getElem hi)
  refine r_ixL (SqL.of (hD_le b _ (f1.sm b _ hb))) hy0 ?_
  exact k _ (List.getElem_mem hi) H1 f1
abbrev s__law_field : Stmt := top 66
theorem sc__law_field : FnScope ["_law_draw"] ["_law_draw"] (defScope s__law_field) := ⟨rfl, rfl, rfl, by decide +kernel, rfl, by decide +kernel, by decide +kernel⟩
def spField : Sp := fun vs H Q _ => ∃ D : Drw, vs = [.ref D.a] ∧ DrawV D H ∧ ∀ (q : Nat) H', q ∈ [2, 3, 5, 7, 11, 13, 97] → Fr D H H' → Q (.int q) H'
theorem ok__law_field (T : Tx K mg d) (D : Df K mg "_law_field" s__law_field) (c__law_pick : Cal P w K mg base 3 "_law_pick" spPick []) : Cal P w K mg base 4 "_law_field" (spField) [] := by
  have nd := sc__law_field.nd
  refine mkCal D sc__law_field (fun vs H Q E h => ?_) (fun _ _ _ _ _ _ us hl => match us, hl with | [_], _ => rfl) (fun f0 cdv A outer s H vs Q E hr h => ?_)
  · obtain ⟨D, rfl, _⟩ := h
    rfl
  obtain ⟨D, rfl, hd, k⟩ := h
  refine ⟨_, (pss_one (ps_ret (pe_c c__law_pick hr (by decide) rfl (pa_cons (pv 0) (pa_cons (pe_lst (pa_cons pe_int (pa_cons pe_int (pa_cons pe_int (pa_cons pe_int (pa_cons pe_int (pa_cons pe_int (pa_cons pe_int (pa_cons pe_int (pa_cons pe_int (pa_cons pe_int pa_nil))))))))))) pa_nil))))), ?_⟩
  walk_at "st"
  walk_at "go"
  refine ⟨by show 10 ≤ sizeLine; decide, fun l hl => ?_⟩
  walk_at "go"
  have e1 := Same.new (o := .lst [.int 2, .int 3, .int 3, .int 5, .int 5, .int 7, .int 7, .int 11, .int 13, .int 97]) hl
  have hnl : l ≠ D.a ∧ l ≠ D.la := ⟨fun z => hd.some_a (z ▸ hl), fun z => hd.some_l (z ▸ hl)⟩
  refine ⟨D, .ref l, [2, 3, 3, 5, 5, 7, 7, 11, 13, 97], rfl, hd.same e1, ⟨l, _, rfl, by rw [hD_at hnl.1 hnl.2]; exact upd_same, int_each (ns := [2, 3, 3, 5, 5, 7, 7, 11, 13, 97])⟩, by decide, by decide, fun n hn H1 f1 => ?_⟩
  have f := (Fr.of hd e1).trans f1
  simp only [List.mem_cons, List.not_mem_nil, or_false] at hn
  rcases hn with rfl | rfl | rfl | rfl | rfl | rfl | rfl | rfl | rfl | rfl
  · exact k 2 H1 (by decide) f
  · exact k 3 H1 (by decide) f
  · exact k 3 H1 (by decide) f
  · exact k 5 H1 (by decide) f
  · exact k 5 H1 (by decide) f
  · exact k 7 H1 (by decide) f
  · exact k 7 H1 (by decide) f
  · exact k 11 H1 (by decide) f
  · exact k 13 H1 (by decide) f
  · exact k 97 H1 (by decide) f
abbrev s__law_is_truth : Stmt := top 64
theorem sc__law_is_truth : FnScope ["_law_found", "_law_due"] ["_law_found", "_law_due"] (defScope s__law_is_truth) := ⟨rfl, rfl, rfl, by decide +kernel, rfl, by decide +kernel, by decide +kernel⟩
def spTruth : Sp := fun vs H Q _ => vs = [.bl true, .bl true] ∧ Q (.bl true) H
theorem ok__law_is_truth (T : Tx K mg d) (D : Df K mg "_law_is_truth" s__law_is_truth) : Cal P w K mg base 1 "_law_is_truth" (spTruth) [] := by
  have nd := sc__law_is_truth.nd
  refine mkCal D sc__law_is_truth (fun vs H Q E h => ?_) (fun _ _ _ _ _ _ us hl => match us, hl with | [_, _], _ => rfl) (fun f0 cdv A outer s H vs Q E hr h => ?_)
  · obtain ⟨rfl, _⟩ := h
    rfl
  obtain ⟨rfl, k⟩ := h
  refine ⟨_, (pss_one (ps_ret (pe_ifExp (pt_val (pv 1)) (pe_cmpR op_isBl (pv 0) pe_bl (nomark _)) (pe_cmpR op_isBl (pv 0) pe_bl (nomark _))))), ?_⟩
  walk_at "st"
  walk_at "go"
  exact ⟨true, true, rfl, rfl, k⟩
end
section
variable {P : Program} {w : World} {K : PySem.W.Frag} {mg : Str → Option Value} {base : Heap} {d : Ad} {p : Nat} [Pr p]
abbrev s__law_cleared : Stmt := top 68
theorem sc__law_cleared : FnScope ["_law_field_here", "_law_some", "_law_wide_here", "_law_left", "_law_done_here", "_law_leads_here", "_law_spot", "_law_at", "_law_chosen", "_law_less", "_law_row", "_law_k", "_law_item", "_law_here", "_law_there"] ["_law_field_here", "_law_some", "_law_wide_here"] (defScope s__law_cleared) := ⟨rfl, rfl, rfl, by decide +kernel, rfl, by decide +kernel, by decide +kernel⟩
def spLClear (p : Nat) [Pr p] : Sp := fun vs H Q _ => ∃ (y : V) (nss : List (List Int)) (n : Nat), vs = [.int p, y, .int n] ∧ LstOf (SeqOf IntV) nss y H ∧ (∀ ns ∈ nss, ns.length = n) ∧ n ≤ 100 ∧ nss.length ≤ 1000 ∧
  ∀ t hs y1 y2 H', Same H H' → H t = none → H' t = some (.tup [y1, y2]) → Red hs → (hs.map (·.1)).Pairwise (· < ·) → (∀ e ∈ hs, Bd e.2 n) → (∀ f, SpanH hs f ↔ SpanL (nss.map (vecI (p := p))) f) →
    LstOf (LstOf IntV) (hs.map fun e => rowI n e.2) y1 (New H H') → LstOf IntV (hs.map fun e => (e.1 : Int)) y2 (New H H') → Q (.ref t) H'
theorem rowI_get {n i : Nat} (f : Vec p) (h : i < n) : (rowI n f)[i]? = some (iv (f i)) := by
  unfold rowI
  rw [List.getElem?_map, List.getElem?_range h]
  rfl
theorem keep_new {H Hb Ha Hz : Hp} {l le : Addr} (e : Same H Hb) (h1 : Hb le ≠ none) (h2 : ∀ b u, Hb b = none → Ha b = some u → b ≠ l) (k : ∀ b u, b ≠ le → Ha b = some u → Hz b = some u) : Same (New Hb Ha) (New H (hide le (hide l Hz))) := fun b u hb => by
  have h0 := New.old hb
  rw [New.at_ h0] at hb
  have hle : b ≠ le := fun z => h1 (z ▸ h0)
  rw [New.at_ (none_of e h0), hide_ne hle, hide_ne (h2 b u h0 hb)]
  exact k b u hle hb
theorem map_erase {α β : Type} (f : α → β) : ∀ (l : List α) (k : Nat), (l.eraseIdx k).map f = (l.map f).eraseIdx k
  | [], _ => rfl
  | _ :: _, 0 => rfl
  | a :: r, k + 1 => congrArg (f a :: ·) (map_erase f r k)
theorem each_erase {α : Type} {R : α → V → Hp → Prop} {fs : List α} {ys : List V} {H : Hp} {k : Nat} (h : Each R fs ys H) : Each R (fs.eraseIdx k) (ys.eraseIdx k) H := by
  refine ⟨?_, fun i f y h1 h2 => ?_⟩
  · rw [List.length_eraseIdx, List.length_eraseIdx, h.len]
  · rw [List.getElem?_eraseIdx] at h1 h2
    by_cases q : i < k
    · rw [if_pos q] at h1 h2
      exact h.at_ i f y h1 h2
    · rw [if_neg q] at h1 h2
      exact h.at_ (i + 1) f y h1 h2
theorem t_sub {s i n : Nat} {x1 x2 x3 x4 x5 x7 x9 x10 x11 x12 x13 x14 : Option V} {a cl : Addr} {g : Vec p} {ls : List (Vec p)} {H H0 : Hp} {Q : VK} (e0 : Same H0 H)
    (hs : ([some (.int (p : Nat)), x1, x2, x3, x4, x5, some (.int (i : Nat)), x7, some (.ref cl), x9, x10, x11, x12, x13, x14] : L2.St)[s]? = some (some (.ref a)))
    (ha : LstOf (LstOf IntV) (ls.map (rowI n)) (.ref a) H) (hc : LstOf IntV (rowI n g) (.ref cl) H) (hi : i < n) (hn : n ≤ 100) (hl : ls.length ≤ 1000)
    (k : ∀ D H' ys, H D = none → Same H H' → H' D = some (.lst ys) → Each (LstOf IntV) ((ls.map (less i g)).map (rowI n)) ys (New H (hide D H')) → Q (.ref D) H') :
    tLc (iList K (tVar s)) (gName 10) tYes (tLc (iZipK K (tCons (tVar 10) (tCons (tVar 8) tNil))) (gTup K 2 (gCons (gName 13) (gCons (gName 14) gNil))) tYes
      (tOp (rI (fun x j => 0 < j) fun i j => V.int (i % j)) (tOp (rI0 fun i j => V.int (i - j)) (tVar 13) (tOp (rI CMul fun i j => V.int (i * j)) (tOp (rIxL K) (tVar 10) (tVar 6)) (tVar 14))) (tVar 0)) [13, 14]) [10]
      [some (.int (p : Nat)), x1, x2, x3, x4, x5, some (.int (i : Nat)), x7, some (.ref cl), x9, x10, x11, x12, x13, x14] H Q := by
  refine r_lc (r_itL ha (Same.refl _) (fun Q q => ⟨_, hs, q⟩) fun J ys hys wk => ?_)
  rw [List.length_map] at wk
  refine lc_newH wk (R := LstOf IntV) (fun _ => true) (fun k => rowI n (less i g (ls.getD k zv))) (fun _ h => h) (by omega) (fun k x H1 H2 kY kN hk e z hY hN => ?_) (fun D1 H1 ys1 hD1 e1 hy1 hE1 => ?_)
  · obtain ⟨rfl, hx⟩ := z
    have hlk := List.getElem?_eq_getElem hk
    have hrow := Mon.mono e (hys.at_ k (rowI n ls[k]) x (by rw [List.getElem?_map, hlk]; rfl) hx)
    have hgk : ls.getD k zv = ls[k] := getD_some hlk
    rw [hgk] at hY
    generalize ls[k] = l at *
    walk_at "lc"
    walk_at "go"
    refine ⟨rfl, ?_⟩
    walk_at "go"
    refine r_lc (r_zipS (.inl hrow) (Same.refl _) (.inl (Mon.mono e hc)) (fun QA q => by walk_at "go"; exact q) fun J2 ys2 zs2 hys2 hzs2 wk2 => ?_)
    rw [rowI_len, rowI_len, Nat.min_self] at wk2
    refine lc_new wk2 (R := IntV) (fun _ => true) (fun j => iv (less i g l j)) (fun _ h => h) (by omega) (fun j x5 H5 H6 kY5 kN5 hj e5 z5 hY5 hN5 => ?_) (fun D5 H5 ys6 hD5 e5 hy6 hE6 => ?_)
    · obtain ⟨T0, xa, xb, rfl, hT0, rfl, hxa, hxb⟩ := z5
      obtain rfl : xa = V.int (iv (l j)) := hys2.at_ j _ _ (rowI_get _ hj) hxa
      obtain rfl : xb = V.int (iv (g j)) := hzs2.at_ j _ _ (rowI_get _ hj) hxb
      have eT := Same.new (o := .tup [.int (iv (l j)), .int (iv (g j))]) hT0
      walk_at "lc"
      walk_at "go"
      refine ⟨rfl, ?_⟩
      walk_at "go"
      obtain ⟨rb, rys, rfl, hrb, hre⟩ := Mon.mono (Same.trans e5 eT) hrow
      obtain ⟨yi, hyi, rfl⟩ := hre.get (rowI_get l hi)
      refine r_ixL (SqL.of hrb) hyi ?_
      walk_at "go"
      rw [show (iv (l j) - iv (l i) * iv (g j)) % (p : Int) = iv (less i g l j) by unfold less; rw [← iv_md (p := p), md_sub, md_mul, md_iv, md_iv, md_iv]]
      exact hY5 _ _ rfl eT rfl
    · rw [tk_all] at hE6
      exact hY _ _ rfl e5 (lst_new hD5 hy6 hE6)
  · rw [tk_all] at hE1
    have em : (List.range ls.length).map (fun k => rowI n (less i g (ls.getD k zv))) = (ls.map (less i g)).map (rowI n) := by
      have := congrArg (List.map fun l => rowI n (less i g l)) (map_range_get ls zv)
      rw [List.map_map] at this
      rw [List.map_map]
      exact this
    rw [em] at hE1
    exact k D1 H1 ys1 hD1 e1 hy1 hE1
theorem ok__law_cleared (T : Tx K mg d) (D : Df K mg "_law_cleared" s__law_cleared) (c__law_undone : Cal P w K mg base 1 "_law_undone" (U fun p _ => spLUndone p) []) : Cal P w K mg base 2 "_law_cleared" (U fun p _ => spLClear p) [] := by
  have nd := sc__law_cleared.nd
  refine mkCalU D sc__law_cleared (fun p hp vs H Q E h => ?_) (fun _ _ _ _ _ _ us hl => match us, hl with | [_, _, _], _ => rfl) (fun p hp f0 cdv A outer s H vs Q E hr h => ?_)
  · obtain ⟨y, nss, n, rfl, _⟩ := h
    rfl
  obtain ⟨y, nss, n, rfl, hy, hns, hn, hl, k⟩ := h
  have hu := hu_of hr
  refine ⟨_, (pss_cons (ps_asg (pe_tup (pa_cons (pe_lc (own := [("_law_row", 10)]) (g := gName 10) (tt := tYes) rfl nd (pi_listK (K := K) (pv 1)) (blkOk_by (by kernel_rfl)) (fun _ _ _ _ _ => (pg_name (i := 10) nd rfl (Or.inl rfl))) (fun _ _ _ _ _ => pts_nil) (fun _ _ _ _ _ => (pe_lc (own := [("_law_item", 12)]) (g := gName 12) (tt := tYes) rfl nd (pi_or (pi_listK (K := K) (pv 10)) (pi_tupK (K := K) (pv 10))) (blkOk_by (by kernel_rfl)) (fun _ _ _ _ _ => (pg_name (i := 12) nd rfl (Or.inl rfl))) (fun _ _ _ _ _ => pts_nil) (fun _ _ _ _ _ => (pe_op op_mod (pv 12) (pv 0)))))) (pa_cons (pe_lst pa_nil) (pa_cons (pe_lst pa_nil) pa_nil)))) (pg_tup rfl (pgs_cons (pg_name (i := 3) nd rfl (Or.inr rfl)) (pgs_cons (pg_name (i := 4) nd rfl (Or.inl rfl)) (pgs_cons (pg_name (i := 5) nd rfl (Or.inl rfl)) pgs_nil)))))
    (pss_cons (ps_for PassesOwn.never rfl (pi_range1 rfl T.range (pa_cons (pv 2) pa_nil)) (pg_name (i := 6) nd rfl (Or.inr rfl)) 
      (pss_cons (ps_setLc (own := [("_law_k", 11)]) (g := gName 11)  (i := 7) rfl nd rfl rfl (sw_true rfl rfl rfl (by decide +kernel)) (pi_range1 rfl T.range (pa_cons (pe_callB (call_lenK (K := K)) (by rfl) T.len (by decide +kernel) (pa_cons (pv 3) pa_nil)) pa_nil)) (blkOk_by (by kernel_rfl)) (fun _ _ _ _ _ => (pg_name (i := 11) nd rfl (Or.inl rfl))) (fun _ _ _ _ _ => (pts_one (pt_cmpR op_ne (pe_ix (ix_listK (K := K)) (pe_ix (ix_listK (K := K)) (pv 3) (pv 11) (fun _ _ => rfl)) (pv 6) (fun _ _ => rfl)) pe_int (nomark _)))) (fun _ _ _ _ _ => (pv 11)))
      (pss_one (ps_if (pt_cmpR (op_neNil hr.units0) (pv 7) (pe_lst pa_nil) (nomark _)) 
        (pss_cons (ps_set (i := 8) nd rfl (Or.inr rfl) (pe_bm PySem.F.plainAttrs_list PySem.F.slot_list_pop PySem.F.type_list_pop mt_popAt (pv 3) (pa_cons (pe_ix (ix_listK (K := K)) (pv 7) pe_int (fun _ _ => rfl)) pa_nil)))
        (pss_cons (ps_set (i := 9) nd rfl (Or.inr rfl) (pe_c c__law_undone hr (by decide) rfl (pa_cons (pv 0) (pa_cons (pe_ix (ix_listK (K := K)) (pv 8) (pv 6) (fun _ _ => rfl)) pa_nil))))
        (pss_cons (ps_set (i := 8) nd rfl (Or.inr rfl) (pe_lc (own := [("_law_item", 12)]) (g := gName 12) (tt := tYes) rfl nd (pi_listK (K := K) (pv 8)) (blkOk_by (by kernel_rfl)) (fun _ _ _ _ _ => (pg_name (i := 12) nd rfl (Or.inl rfl))) (fun _ _ _ _ _ => pts_nil) (fun _ _ _ _ _ => (pe_op op_mod (pe_op op_mul (pv 12) (pv 9)) (pv 0)))))
        (pss_cons (ps_set (i := 3) nd rfl (Or.inr rfl) (pe_lc (own := [("_law_row", 10)]) (g := gName 10) (tt := tYes) rfl nd (pi_listK (K := K) (pv 3)) (blkOk_by (by kernel_rfl)) (fun _ _ _ _ _ => (pg_name (i := 10) nd rfl (Or.inr rfl))) (fun _ _ _ _ _ => pts_nil) (fun _ _ _ _ _ => (pe_lc (own := [("_law_here", 13), ("_law_there", 14)]) (g := gTup K 2 (gCons (gName 13) (gCons (gName 14) gNil))) (tt := tYes) rfl nd (pi_zipKK (K := K) rfl T.zip (pa_cons (pv 10) (pa_cons (pv 8) pa_nil))) (blkOk_by (by kernel_rfl)) (fun _ _ _ _ _ => (pg_tup rfl (pgs_cons (pg_name (i := 13) nd rfl (Or.inl rfl)) (pgs_cons (pg_name (i := 14) nd rfl (Or.inl rfl)) pgs_nil)))) (fun _ _ _ _ _ => pts_nil) (fun _ _ _ _ _ => (pe_op op_mod (pe_op op_sub (pv 13) (pe_op op_mul (pe_ix (ix_listK (K := K)) (pv 10) (pv 6) (fun _ _ => rfl)) (pv 14))) (pv 0)))))))
        (pss_cons (ps_setLc (own := [("_law_row", 10)]) (g := gName 10) (tt := tYes) (i := 4) rfl nd rfl rfl (sw_true rfl rfl rfl (by decide +kernel)) (pi_listK (K := K) (pv 4)) (blkOk_by (by kernel_rfl)) (fun _ _ _ _ _ => (pg_name (i := 10) nd rfl (Or.inr rfl))) (fun _ _ _ _ _ => pts_nil) (fun _ _ _ _ _ => (pe_lc (own := [("_law_here", 13), ("_law_there", 14)]) (g := gTup K 2 (gCons (gName 13) (gCons (gName 14) gNil))) (tt := tYes) rfl nd (pi_zipKK (K := K) rfl T.zip (pa_cons (pv 10) (pa_cons (pv 8) pa_nil))) (blkOk_by (by kernel_rfl)) (fun _ _ _ _ _ => (pg_tup rfl (pgs_cons (pg_name (i := 13) nd rfl (Or.inl rfl)) (pgs_cons (pg_name (i := 14) nd rfl (Or.inl rfl)) pgs_nil)))) (fun _ _ _ _ _ => pts_nil) (fun _ _ _ _ _ => (pe_op op_mod (pe_op op_sub (pv 13) (pe_op op_mul (pe_ix (ix_listK (K := K)) (pv 10) (pv 6) (fun _ _ => rfl)) (pv 14))) (pv 0))))))
        (pss_cons (ps_set (i := 4) nd rfl (Or.inl rfl) (pe_op op_cat (pv 4) (pe_lst (pa_cons (pv 8) pa_nil))))
        (pss_one (ps_expr (pe_bm PySem.F.plainAttrs_list PySem.F.slot_list_append PySem.F.type_list_append mt_append (pv 5) (pa_cons (pv 6) pa_nil)))))))))) pss_nil))))
    (pss_one (ps_ret (pe_tup (pa_cons (pv 4) (pa_cons (pv 5) pa_nil))))))), ?_⟩
  walk_at "st"
  walk_at "go"
  refine r_lc (r_itL hy (Same.refl _) (fun Q q => by walk_at "go"; exact q) fun J ys hys wk => ?_)
  refine lc_newH wk (R := LstOf IntV) (fun _ => true) (fun i => rowI n (vecI (p := p) (nss.getD i []))) (fun _ h => h) (by omega) (fun i x H1 H2 kY kN hi e z hY hN => ?_) (fun ll H1 ys1 hll e1 hy1 hE1 => ?_)
  · obtain ⟨rfl, hx⟩ := z
    obtain ⟨ns, hn2, hx2⟩ := hys.yet hx
    have hnl := hns ns (List.mem_of_getElem? hn2)
    walk_at "lc"
    walk_at "go"
    refine ⟨rfl, ?_⟩
    walk_at "go"
    refine r_lc (r_itS (Mon.mono e hx2) (Same.refl _) (fun Q q => by walk_at "go"; exact q) fun J5 ys5 hys5 wk5 => ?_)
    refine lc_new wk5 (R := IntV) (fun _ => true) (fun j => iv (vecI (p := p) ns j)) (fun _ h => h) (by omega) (fun j x5 H5 H6 kY5 kN5 hj e5 z5 hY5 hN5 => ?_) (fun D5 H5 ys6 hD5 e5 hy6 hE6 => ?_)
    · obtain ⟨rfl, hx5⟩ := z5
      obtain ⟨ni, hni, rfl⟩ := hys5.yet hx5
      walk_at "lc"
      walk_at "go"
      refine ⟨rfl, ?_⟩
      walk_at "go"
      rw [← iv_md (p := p)]
      have : (md ni : Fin p) = vecI ns j := by unfold vecI; rw [getD_some hni]
      rw [this]
      exact hY5 _ _ rfl (Same.refl _) rfl
    · refine hY _ _ rfl e5 ?_
      rw [tk_all, hnl] at hE6
      rw [getD_some hn2]
      exact lst_new hD5 hy6 hE6
  have em : (List.range nss.length).map (fun i => rowI n (vecI (p := p) (nss.getD i []))) = (nss.map (vecI (p := p))).map (rowI n) := by
    have := congrArg (List.map fun ns => rowI n (vecI (p := p) ns)) (map_range_get nss [])
    rw [List.map_map] at this
    rw [List.map_map]
    exact this
  rw [tk_all, em] at hE1
  walk_at "go"
  refine ⟨by show 0 ≤ sizeLine; omega, fun dl hdl => ?_⟩
  walk_at "go"
  refine ⟨by show 0 ≤ sizeLine; omega, fun le hle => ?_⟩
  walk_at "go"
  refine ⟨by show 3 ≤ sizeLine; decide, fun t3 ht3 => ?_⟩
  walk_at "go"
  have e2 : Same H1 (upd (upd (upd H1 dl (.lst [])) le (.lst [])) t3 (.tup [.ref ll, .ref dl, .ref le])) := Same.trans (Same.new hdl) (Same.trans (Same.new hle) (Same.new ht3))
  have hled : le ≠ dl := ne_new hle (by rw [upd_same]; simp)
  have hlel : le ≠ ll := ne_new (none_of (Same.new hdl) hle) (by rw [hy1]; simp)
  have hdll : dl ≠ ll := ne_new hdl (by rw [hy1]; simp)
  have hle1 := none_of (Same.new hdl) hle
  have ht3d : dl ≠ t3 := fun z => by rw [← z, upd_ne hled.symm, upd_same] at ht3; cases ht3
  have ht3e : le ≠ t3 := fun z => by rw [← z, upd_same] at ht3; cases ht3
  have hdl2 : (upd (upd (upd H1 dl (.lst [])) le (.lst [])) t3 (.tup [.ref ll, .ref dl, .ref le])) dl = some (.lst []) := by rw [upd_ne ht3d, upd_ne hled.symm, upd_same]
  have hle2 : (upd (upd (upd H1 dl (.lst [])) le (.lst [])) t3 (.tup [.ref ll, .ref dl, .ref le])) le = some (.lst []) := by rw [upd_ne ht3e, upd_same]
  have hll2 := e2 ll _ hy1
  have hdlH := none_of e1 hdl
  have hleH := none_of e1 hle1
  generalize (upd (upd (upd H1 dl (.lst [])) le (.lst [])) t3 (.tup [.ref ll, .ref dl, .ref le])) = H2 at *
  have e02 := Same.trans e1 e2
  refine r_for (r_rng n (by omega) (fun QA q => by walk_at "go"; exact q) fun J2 wk2 => ?_)
  refine for_it wk2 (fun i σ H' => Same H H' ∧ ∃ (ll dl : Addr) (v6 v7 v8 v9 : Option V) (hs : List (Hd p)) (ls : List (Vec p)) (ys zs : List V), σ = [some (.int p), some y, some (.int n), some (.ref ll), some (.ref dl), some (.ref le), v6, v7, v8, v9, none, none, none, none, none] ∧
    H ll = none ∧ H dl = none ∧ ll ≠ le ∧ dl ≠ le ∧ ll ≠ dl ∧ H' ll = some (.lst ys) ∧ H' dl = some (.lst zs) ∧ H' le = some (.lst ((hs.map fun e => (e.1 : Int)).map V.int)) ∧
    Each (LstOf IntV) (ls.map (rowI n)) ys (New H (hide le (hide ll H'))) ∧ Each (LstOf IntV) (hs.map fun e => rowI n e.2) zs (New H (hide le (hide ll H'))) ∧ Clr n i (nss.map (vecI (p := p))) hs ls ∧ ls.length ≤ 1000) ?_ (fun _ _ _ _ _ => trivial) ?_ ?_
  · have hb1 : Same (New H (hide ll H1)) (New H (hide le (hide ll H2))) := New.mono fun b u hb => by
      have hbl : b ≠ ll := fun z => by rw [z] at hb; simp [hide] at hb
      rw [hide_ne hbl] at hb
      have hbe : b ≠ le := ne_of_none hb hle1
      rw [hide_ne hbe, hide_ne hbl]
      exact e2 b u hb
    exact ⟨e02, ll, dl, _, _, _, _, [], nss.map (vecI (p := p)), ys1, [], rfl, hll, hdlH, hlel.symm, hled.symm, hdll.symm, hll2, hdl2, hle2, hE1.mono hb1, Each.nil, Clr.start (fun g hg => by obtain ⟨ns, hm, rfl⟩ := List.mem_map.mp hg; rw [← hns ns hm]; exact vecI_bd ns), by rw [List.length_map]; exact hl⟩
  · rintro i x σ Hx H3 hi ⟨e3, ll, dl, v6, v7, v8, v9, hs, ls, ys3, zs3, rfl, hll0, hdl0, hlle, hdle, hlld, hl3, hd3, hle3, hEl, hEd, C, hln⟩ ⟨rfl, rfl⟩
    walk_at "go"
    have hysl : ys3.length = ls.length := by rw [hEl.len, List.length_map]
    have hhl : Same (hide le (hide ll H3)) H3 := Same.trans hide_le hide_le
    refine r_lc (r_rng ls.length (by omega) (fun QA q => by walk_at "go"; refine ⟨ll, ys3, rfl, .inl (SqL.of hl3), ?_⟩; rw [hysl]; walk_at "go"; exact q) fun J3 wk3 => ?_)
    have rowAt : ∀ (k : Nat) (l : Vec p), ls[k]? = some l → ∃ b zs, ys3[k]? = some (.ref b) ∧ (∀ H', Same H3 H' → SqL K H' b zs) ∧ zs = (rowI n l).map V.int := fun k l hk => by
      obtain ⟨yk, hyk, b, zs, rfl, hb, hz⟩ := hEl.get (i := k) (f := rowI n l) (by rw [List.getElem?_map, hk]; rfl)
      exact ⟨b, zs, hyk, fun H' e => SqL.of (e b _ (hhl b _ (New.le b _ hb))), each_int hz⟩
    refine lc_new wk3 (R := IntV) (fun k => decide (ls.getD k zv i ≠ 0)) (fun k => (k : Int)) (fun _ _ => trivial) (by omega) (fun k x H4 H5 kY kN hk e z hY hN => ?_) (fun al H4 ys4 hal e4 hy4 hE4 => ?_)
    · obtain ⟨rfl, rfl⟩ := z
      have hlk := List.getElem?_eq_getElem hk
      obtain ⟨b, zs, hyk, hb, rfl⟩ := rowAt k _ hlk
      walk_at "lc"
      walk_at "go"
      refine ⟨rfl, ?_⟩
      walk_at "go"
      refine r_ixL (SqL.of (e ll _ hl3)) hyk ?_
      walk_at "go"
      refine r_ixL (hb _ e) (by rw [List.getElem?_map, rowI_get _ hi]; rfl) ?_
      walk_at "go"
      refine r_ndec (fun z => ?_) fun z => ?_
      · walk_at "go"
        exact hY _ _ (by rw [getD_some hlk]; exact decide_eq_true fun h => z (iv_eq_zero.mpr h)) (Same.refl _) rfl
      · exact hN _ (by rw [getD_some hlk]; exact decide_eq_false fun h => h (iv_eq_zero.mp z)) (Same.refl _)
    walk_at "go"
    refine ⟨by show 0 ≤ sizeLine; omega, fun nl hnl => ?_⟩
    have e5 : Same H4 (upd H4 nl (.lst [])) := Same.new hnl
    refine r_neNil (SqL.of (e5 al _ hy4)) (SqL.of upd_same) ?_
    have e35 := Same.trans e4 e5
    have hal5 := e5 al _ hy4
    have hys4 : ys4 = (tk ls.length fun k => decide (ls.getD k zv i ≠ 0)).map fun (k : Nat) => V.int (k : Int) := by
      have := each_int (hE4.mono New.le)
      rw [List.map_map] at this
      exact this
    generalize (upd H4 nl (.lst [])) = H5 at *
    cases htk : tk ls.length (fun k => decide (ls.getD k zv i ≠ 0)) with
    | nil =>
      rw [htk] at hys4
      subst hys4
      refine r_bl (r_false ?_)
      walk_at "go"
      refine ⟨Same.trans e3 e35, ll, dl, _, _, _, _, hs, ls, ys3, zs3, rfl, hll0, hdl0, hlle, hdle, hlld, e35 ll _ hl3, e35 dl _ hd3, e35 le _ hle3, hEl.mono (New.mono (hide_same (hide_same e35))), hEd.mono (New.mono (hide_same (hide_same e35))), C.skip (fun l hl => ?_), hln⟩
      obtain ⟨k, hk, rfl⟩ := List.getElem_of_mem hl
      refine Classical.byContradiction fun q => ?_
      have : k ∈ tk ls.length (fun k => decide (ls.getD k zv i ≠ 0)) := mem_tk.mpr ⟨hk, decide_eq_true (by rw [getD_some (List.getElem?_eq_getElem hk)]; exact q)⟩
      rw [htk] at this
      cases this
    | cons k0 r0 =>
      rw [htk] at hys4
      subst hys4
      have hk0m : k0 ∈ tk ls.length (fun k => decide (ls.getD k zv i ≠ 0)) := by rw [htk]; exact List.mem_cons_self
      obtain ⟨hk0, hk0z⟩ := mem_tk.mp hk0m
      have hlk := List.getElem?_eq_getElem hk0
      have hgk : ls.getD k0 zv = ls[k0] := getD_some hlk
      rw [hgk] at hk0z
      have hci := of_decide_eq_true hk0z
      generalize ls[k0] = c at *
      refine r_bl (r_true ?_)
      walk_at "go"
      refine ⟨.inl ⟨rfl, _, SqL.of (e35 ll _ hl3)⟩, ?_⟩
      walk_at "go"
      refine r_ixL (i := 0) (SqL.of hal5) rfl ?_
      obtain ⟨yk, hyk, hrk⟩ := hEl.get (i := k0) (f := rowI n c) (by rw [List.getElem?_map, hlk]; rfl)
      refine ⟨ll, ys3, k0, k0, yk, rfl, rfl, e35 ll _ hl3, by omega, by omega, by unfold seqIndex?; simp; omega, hyk, ?_⟩
      have e6 : Same (hide ll H5) (hide ll (upd H5 ll (.lst (ys3.eraseIdx k0)))) := by rw [hide_upd]; exact Same.refl _
      have e06 : Same H (upd H5 ll (.lst (ys3.eraseIdx k0))) := Same.mut (Same.trans e3 e35) hll0
      have hl6 : (upd H5 ll (.lst (ys3.eraseIdx k0))) ll = some (.lst (ys3.eraseIdx k0)) := upd_same
      have hd6 : (upd H5 ll (.lst (ys3.eraseIdx k0))) dl = some (.lst zs3) := by rw [upd_ne hlld.symm]; exact e35 dl _ hd3
      have hle6 : (upd H5 ll (.lst (ys3.eraseIdx k0))) le = some (.lst ((hs.map fun e => (e.1 : Int)).map V.int)) := by rw [upd_ne hlle.symm]; exact e35 le _ hle3
      have hv : Same (New H (hide le (hide ll H3))) (New H (hide le (hide ll (upd H5 ll (.lst (ys3.eraseIdx k0)))))) := New.mono (hide_same (Same.trans (hide_same e35) e6))
      have hE6 := each_erase (k := k0) (hEl.mono hv)
      rw [← map_erase] at hE6
      have hF6 := hEd.mono hv
      have hr6 := Mon.mono hv hrk
      clear hv e6 hEl hEd hrk hE4 hl3 hd3 hle3 rowAt hhl
      generalize (upd H5 ll (.lst (ys3.eraseIdx k0))) = H6 at *
      have hw6 : Same (New H (hide le (hide ll H6))) H6 := Same.trans New.le (Same.trans hide_le hide_le)
      walk_at "go"
      obtain ⟨b, zb, rfl, hb, hzb⟩ := id hr6
      have hzb' := each_int hzb
      refine r_ixL (SqL.of (hw6 b _ hb)) (by rw [hzb', List.getElem?_map, rowI_get _ hi]; rfl) ?_
      walk_at "go"
      refine ⟨iv (c i), rfl, by rw [md_iv]; exact hci, iv_small _, fun z H7 e7 hz => ?_⟩
      rw [md_iv] at hz
      walk_at "go"
      have hw7 : Same (New H (hide le (hide ll H6))) H7 := Same.trans hw6 e7
      refine r_lc (r_itL (Mon.mono hw7 hr6) (Same.refl _) (fun Q q => by walk_at "go"; exact q) fun J8 ys8 hys8 wk8 => ?_)
      rw [rowI_len] at wk8
      refine lc_new wk8 (R := IntV) (fun _ => true) (fun j => iv (c j * z)) (fun _ h => h) (by omega) (fun j x8 H8 H9 kY kN hj e8 z8 hY hN => ?_) (fun cl H8 ys9 hcl e8 hy8 hE8 => ?_)
      · obtain ⟨rfl, hx8⟩ := z8
        obtain rfl : x8 = V.int (iv (c j)) := hys8.at_ j _ _ (rowI_get _ hj) hx8
        walk_at "lc"
        walk_at "go"
        refine ⟨rfl, ?_⟩
        walk_at "go"
        rw [show iv (c j) * iv z % (p : Int) = iv (c j * z) from (iv_mul _ _).symm]
        exact hY _ _ rfl (Same.refl _) rfl
      rw [tk_all] at hE8
      walk_at "go"
      have hcn : LstOf IntV (rowI n fun j => c j * z) (.ref cl) (New H7 H8) := lst_new hcl hy8 hE8
      have e68 := Same.trans e7 e8
      refine t_sub (g := fun j => c j * z) (ls := ls.eraseIdx k0) (n := n) (i := i) (Same.refl H8) rfl ⟨ll, _, rfl, e68 ll _ hl6, hE6.mono (Same.trans hw7 e8)⟩ (Mon.mono New.le hcn) hi hn (by rw [List.length_eraseIdx]; split <;> omega) (fun l9 H9 ys9 hl9 e9 hy9 hE9 => ?_)
      walk_at "go"
      have e69 := Same.trans e68 e9
      have hF9 : LstOf (LstOf IntV) ((hs.map (·.2)).map (rowI n)) (.ref dl) H9 := ⟨dl, zs3, rfl, e69 dl _ hd6, by rw [List.map_map]; exact hF6.mono (Same.trans hw7 (Same.trans e8 e9))⟩
      have hhl : hs.length ≤ n := C.red.len C.bd
      refine t_sub (g := fun j => c j * z) (ls := hs.map (·.2)) (n := n) (i := i) (Same.refl H9) rfl hF9 (Mon.mono e9 (Mon.mono New.le hcn)) hi hn (by rw [List.length_map]; omega) (fun da H10 ys10 hda e10 hy10 hE10 => ?_)
      walk_at "go"
      refine ⟨by show 1 ≤ sizeLine; decide, fun q hq => ?_⟩
      have hl10 : ys10.length ≤ n := by rw [hE10.len, List.length_map, List.length_map, List.length_map]; exact hhl
      have eq := Same.new (o := .lst [.ref cl]) hq
      refine ⟨da, q, ys10, [.ref cl], rfl, rfl, eq da _ hy10, upd_same, Nat.le_of_lt (sl _ (by show ys10.length + 1 ≤ 100000; omega)), fun dn hdn => ?_⟩
      have edn := Same.new (o := .lst (ys10 ++ [.ref cl])) hdn
      have hdn12 : (upd (upd H10 q (.lst [.ref cl])) dn (.lst (ys10 ++ [.ref cl]))) dn = some (.lst (ys10 ++ [.ref cl])) := upd_same
      have e1012 := Same.trans eq edn
      have hdn10 := none_of eq hdn
      generalize (upd (upd H10 q (.lst [.ref cl])) dn (.lst (ys10 ++ [.ref cl]))) = H12 at *
      have e612 := Same.trans e69 (Same.trans e10 e1012)
      walk_at "go"
      refine ⟨.inl ⟨rfl, _, SqL.of (e612 le _ hle6)⟩, ?_⟩
      walk_at "go"
      refine ⟨le, _, _, rfl, rfl, e612 le _ hle6, sl _ (by rw [List.length_map, List.length_map]; omega), ?_⟩
      have hle8 : H8 le ≠ none := by rw [e68 le _ hle6]; simp
      have hle9 : H9 le ≠ none := by rw [e69 le _ hle6]; simp
      have hle7 : H7 le ≠ none := by rw [e7 le _ hle6]; simp
      have hdnle : dn ≠ le := fun z => by rw [z, e10 le _ (e69 le _ hle6)] at hdn10; cases hdn10
      have hl9le : l9 ≠ le := fun z => hle8 (z ▸ hl9)
      have hl9dn : l9 ≠ dn := fun z => by rw [← z, e10 l9 _ hy9] at hdn10; cases hdn10
      have k9 : ∀ b u, b ≠ le → H9 b = some u → (upd H12 le (.lst ((hs.map fun e => (e.1 : Int)).map V.int ++ [.int i]))) b = some u := fun b u hb h => by rw [upd_ne hb]; exact e1012 b _ (e10 b _ h)
      have w1 := keep_new (l := l9) (le := le) (Hb := H8) (Ha := hide l9 H9) (Hz := upd H12 le (.lst ((hs.map fun e => (e.1 : Int)).map V.int ++ [.int i]))) (Same.trans e06 e68) hle8 (fun b u _ h z => by rw [z] at h; simp [hide] at h) (fun b u hb h => k9 b u hb (hide_le b u h))
      have w2 := keep_new (l := l9) (le := le) (Hb := H9) (Ha := hide da H10) (Hz := upd H12 le (.lst ((hs.map fun e => (e.1 : Int)).map V.int ++ [.int i]))) (Same.trans e06 e69) hle9 (fun b u h0 _ z => by rw [z, hy9] at h0; cases h0) (fun b u hb h => by rw [upd_ne hb]; exact e1012 b _ (hide_le b u h))
      have w3 := keep_new (l := l9) (le := le) (Hb := H7) (Ha := H8) (Hz := upd H12 le (.lst ((hs.map fun e => (e.1 : Int)).map V.int ++ [.int i]))) (Same.trans e06 e7) hle7 (fun b u h0 h z => by rw [z, hl9] at h; cases h) (fun b u hb h => k9 b u hb (e9 b u h))
      have hE12 := (hE10.mono w2).append (Each.one (Mon.mono w3 hcn))
      have hfs : ((hs.map (·.2)).map (less i fun j => c j * z)).map (rowI n) ++ [rowI n fun j => c j * z] = (addH hs i fun j => c j * z).map fun e => rowI n e.2 := by
        unfold addH
        rw [List.map_append, List.map_map, List.map_map, List.map_map]
        rfl
      rw [hfs] at hE12
      refine ⟨Same.mut (Same.trans e06 e612) hleH, l9, dn, _, _, _, _, addH hs i fun j => c j * z, (ls.eraseIdx k0).map (less i fun j => c j * z), ys9, ys10 ++ [.ref cl], rfl, none_of (Same.trans e06 e68) hl9, none_of (Same.trans e06 (Same.trans e69 e10)) hdn10, hl9le, hdnle, hl9dn,
        k9 l9 _ hl9le hy9, by rw [upd_ne hdnle]; exact hdn12, ?_, hE9.mono w1, hE12, C.take hlk hci hz hi, by rw [List.length_map, List.length_eraseIdx]; split <;> omega⟩
      rw [upd_same]
      unfold addH
      rw [List.map_append, List.map_append, List.map_map, List.map_map, List.map_map]
      rfl
  · rintro σ H3 ⟨e3, ll, dl, v6, v7, v8, v9, hs, ls, ys3, zs3, rfl, hll0, hdl0, hlle, hdle, hlld, hl3, hd3, hle3, hEl, hEd, C, hln⟩
    walk_at "go"
    refine ⟨by show 2 ≤ sizeLine; decide, fun t ht => ?_⟩
    have et : Same H3 (upd H3 t (.tup [.ref dl, .ref le])) := Same.new ht
    refine k t hs _ _ _ (Same.trans e3 et) (none_of e3 ht) upd_same C.red C.srt C.bd C.done ⟨dl, zs3, rfl, by rw [New.at_ hdl0]; exact et dl _ hd3, hEd.mono (New.mono (Same.trans (Same.trans hide_le hide_le) et))⟩ ⟨le, _, rfl, by rw [New.at_ hleH]; exact et le _ hle3, int_each⟩
end
section
variable {P : Program} {w : World} {K : PySem.W.Frag} {mg : Str → Option Value} {base : Heap} {d : Ad} {p : Nat} [Pr p]
theorem op_notInK {X : Cx} (hK : X.K = K := by rfl) : OpR X (compareOp .NotIn) (rIn K true) := by subst hK; exact op_notIn_seq
theorem inV_int (k : Int) : ∀ ns : List Int, inV (.int k) (ns.map V.int) = decide (k ∈ ns)
  | [] => by simp [inV]
  | n :: r => by
    have ih := inV_int k r
    unfold inV at ih ⊢
    rw [List.map_cons, List.any_cons, ih]
    show ((n == k) || decide (k ∈ r)) = decide (k ∈ n :: r)
    by_cases e : n = k
    · subst e; simp
    · have : ¬ k = n := fun z => e z.symm
      simp [e, this]
theorem flat_ints : ∀ ns : List Int, (ns.map V.int).all flatV = true
  | [] => rfl
  | _ :: r => flat_ints r
def ColP (hs : List (Hd p)) (s : Nat) (F : Nat → Int) : Prop := F s = 1 ∧ (∀ e ∈ hs, F e.1 = iv (-(e.2 s))) ∧ ∀ k, k ≠ s → (∀ e ∈ hs, e.1 ≠ k) → F k = 0
theorem col_done {hs : List (Hd p)} (R : Red hs) {s : Nat} (hs' : ∀ e ∈ hs, e.1 ≠ s) {F : Nat → Int} (h : ColP hs s F) (k : Nat) : F k = iv (dkv hs s k) := by
  unfold dkv
  by_cases q : k = s
  · subst q; rw [if_pos rfl, h.1, one1]
  · rw [if_neg q]
    by_cases y : ∃ e ∈ hs, e.1 = k
    · obtain ⟨e, he, rfl⟩ := y
      rw [h.2.1 e he, rowOf_mem R.nd (show (e.1, e.2) ∈ hs from he)]
    · rw [h.2.2 k q fun e he z => y ⟨e, he, z⟩, rowOf_none fun e he z => y ⟨e, he, z⟩]
      show (0 : Int) = iv (-(0 : Fin p))
      have : -(0 : Fin p) = 0 := by grind
      rw [this, iv_zero]
abbrev s__law_still : Stmt := top 69
theorem sc__law_still : FnScope ["_law_field_here", "_law_some", "_law_wide_here", "_law_rows", "_law_leads_here", "_law_found", "_law_spot", "_law_column", "_law_row", "_law_lead_here"] ["_law_field_here", "_law_some", "_law_wide_here"] (defScope s__law_still) := ⟨rfl, rfl, rfl, by decide +kernel, rfl, by decide +kernel, by decide +kernel⟩
def spStill (p : Nat) [Pr p] : Sp := fun vs H Q _ => ∃ (y : V) (nss : List (List Int)) (n : Nat), vs = [.int p, y, .int n] ∧ LstOf (SeqOf IntV) nss y H ∧ (∀ ns ∈ nss, ns.length = n) ∧ n ≤ 100 ∧ nss.length ≤ 1000 ∧
  ∀ (gs : List (Vec p)) y' H', Same H H' → (∀ g ∈ gs, Bd g n) → gs.length ≤ n → (∀ f, SpanL gs f ↔ Ann n (SpanL (nss.map (vecI (p := p)))) f) → LstOf (LstOf IntV) (gs.map (rowI n)) y' (New H H') → Q y' H'
theorem ok__law_still (T : Tx K mg d) (D : Df K mg "_law_still" s__law_still) (c__law_cleared : Cal P w K mg base 2 "_law_cleared" (U fun p _ => spLClear p) []) (c__law_single : Cal P w K mg base 1 "_law_single" spSingle []) : Cal P w K mg base 3 "_law_still" (U fun p _ => spStill p) [] := by
  have nd := sc__law_still.nd
  refine mkCalU D sc__law_still (fun p hp vs H Q E h => ?_) (fun _ _ _ _ _ _ us hl => match us, hl with | [_, _, _], _ => rfl) (fun p hp f0 cdv A outer s H vs Q E hr h => ?_)
  · obtain ⟨y, nss, n, rfl, _⟩ := h
    rfl
  obtain ⟨y, nss, n, rfl, hy, hns, hn, hl, k⟩ := h
  have hu := hu_of hr
  refine ⟨_, (pss_cons (ps_asg (pe_c c__law_cleared hr (by decide) rfl (pa_cons (pv 0) (pa_cons (pv 1) (pa_cons (pv 2) pa_nil)))) (pg_tup rfl (pgs_cons (pg_name (i := 3) nd rfl (Or.inl rfl)) (pgs_cons (pg_name (i := 4) nd rfl (Or.inr rfl)) pgs_nil))))
    (pss_cons (ps_set (i := 5) nd rfl (Or.inl rfl) (pe_lst pa_nil))
    (pss_cons (ps_for PassesOwn.never rfl (pi_listK (K := K) (pe_lc (own := [("_law_spot", 6)]) (g := gName 6)  rfl nd (pi_range1 rfl T.range (pa_cons (pv 2) pa_nil)) (blkOk_by (by kernel_rfl)) (fun _ _ _ _ _ => (pg_name (i := 6) nd rfl (Or.inl rfl))) (fun _ _ _ _ _ => (pts_one (pt_cmpR (op_notInK (K := K)) (pv 6) (pv 4) rfl))) (fun _ _ _ _ _ => (pv 6)))) (pg_name (i := 6) nd rfl (Or.inl rfl)) 
      (pss_cons (ps_set (i := 7) nd rfl (Or.inl rfl) (pe_c c__law_single hr (by decide) rfl (pa_cons (pv 2) (pa_cons (pv 6) pa_nil))))
      (pss_cons (ps_for PassesOwn.never rfl (pi_zipKK (K := K) rfl T.zip (pa_cons (pv 3) (pa_cons (pv 4) pa_nil))) (pg_tup rfl (pgs_cons (pg_name (i := 8) nd rfl (Or.inl rfl)) (pgs_cons (pg_name (i := 9) nd rfl (Or.inl rfl)) pgs_nil))) 
        (pss_one (ps_asg (pe_op op_mod (pe_op op_sub pe_int (pe_ix (ix_listK (K := K)) (pv 8) (pv 6) (fun _ _ => rfl))) (pv 0)) (pg_sub (pv 7) (pv 9) set_list))))
      (pss_one (ps_expr (pe_bm PySem.F.plainAttrs_list PySem.F.slot_list_append PySem.F.type_list_append mt_append (pv 5) (pa_cons (pv 7) pa_nil)))))))
    (pss_one (ps_ret (pv 5)))))), ?_⟩
  walk_at "st"
  walk_at "go"
  refine ⟨y, nss, n, rfl, hy, hns, hn, hl, fun t hs y1 y2 H1 e1 ht0 ht R srt bd sp h1 h2 => ?_⟩
  refine r_gtupH ht rfl ?_
  walk_at "go"
  refine ⟨by show 0 ≤ sizeLine; omega, fun fl hfl => ?_⟩
  walk_at "go"
  have e2 : Same H1 (upd H1 fl (.lst [])) := Same.new hfl
  have hfl2 : (upd H1 fl (.lst [])) fl = some (.lst []) := upd_same
  have hflH := none_of e1 hfl
  generalize (upd H1 fl (.lst [])) = H2 at *
  have e02 := Same.trans e1 e2
  have hw1 : Same (New H H1) H2 := Same.trans New.le e2
  have hhl : hs.length ≤ n := R.len bd
  have hLd := Mon.mono hw1 h2
  have hRw := Mon.mono hw1 h1
  obtain ⟨lb, lys, rfl, hlb0, hle0⟩ := id h2
  have hlb := hw1 lb _ hlb0
  have hli := each_int hle0
  have hlbf : lb ≠ fl := ne_of_none (New.le lb _ hlb0) hfl
  obtain ⟨rb, rys, rfl, hrb0, hre0⟩ := id h1
  have hrb := hw1 rb _ hrb0
  have hrbf : rb ≠ fl := ne_of_none (New.le rb _ hrb0) hfl
  refine r_for (r_iL ?_)
  refine r_lc (r_rng n (by omega) (fun QA q => by walk_at "go"; exact q) fun J2 wk2 => ?_)
  refine lc_new wk2 (R := IntV) (fun s => decide (¬ ∃ e ∈ hs, e.1 = s)) (fun s => (s : Int)) (fun _ _ => trivial) (by omega) (fun s x H3 H4 kY kN hs' e z hY hN => ?_) (fun sl H3 ys3 hsl e3 hy3 hE3 => ?_)
  · obtain ⟨rfl, rfl⟩ := z
    walk_at "lc"
    walk_at "go"
    refine ⟨rfl, ?_⟩
    walk_at "go"
    refine ⟨lb, lys, rfl, .inl (SqL.of (e lb _ hlb)), rfl, by rw [hli]; exact flat_ints _, ?_⟩
    rw [hli, inV_int]
    have hm : ((s : Int) ∈ hs.map fun e => (e.1 : Int)) ↔ ∃ e ∈ hs, e.1 = s := by
      rw [List.mem_map]
      exact ⟨fun ⟨e, he, q⟩ => ⟨e, he, by omega⟩, fun ⟨e, he, q⟩ => ⟨e, he, by omega⟩⟩
    refine r_bl ?_
    by_cases q : ∃ e ∈ hs, e.1 = s
    · rw [decide_eq_true (hm.mpr q)]
      refine r_false ?_
      exact hN _ (decide_eq_false fun z => z q) (Same.refl _)
    · rw [decide_eq_false fun z => q (hm.mp z)]
      refine r_true ?_
      walk_at "go"
      exact hY _ _ (decide_eq_true q) (Same.refl _) rfl
  obtain ⟨ss, hss⟩ : ∃ ss, ss = tk n (fun s => decide (¬ ∃ e ∈ hs, e.1 = s)) := ⟨_, rfl⟩
  rw [← hss] at hE3
  have hssn : ss.Nodup := by rw [hss]; exact tk_nodup
  have hssm : ∀ s, s ∈ ss ↔ s < n ∧ ∀ e ∈ hs, e.1 ≠ s := fun s => by
    rw [hss, mem_tk, decide_eq_true_iff]
    exact and_congr_right fun _ => ⟨fun h e he z => h ⟨e, he, z⟩, fun h ⟨e, he, z⟩ => h e he z⟩
  have hssl : ss.length ≤ n := by rw [hss]; exact tk_len _ _
  have hy3i := each_int (hE3.mono New.le)
  rw [List.map_map] at hy3i
  refine ⟨sl, rfl, ⟨_, SqL.of hy3⟩, ?_⟩
  have e03 := Same.trans e02 e3
  have hslf : sl ≠ fl := ne_new hsl (by rw [hfl2]; simp)
  have f3 : ∀ H', Same (hide fl H3) (hide fl H') → ∀ b u, b ≠ fl → H3 b = some u → H' b = some u := fun H' f b u hb h => by
    have := f b u (by rw [hide_ne hb]; exact h)
    rw [hide_ne hb] at this
    exact this
  have w1 : ∀ H', Same (hide fl H3) (hide fl H') → Same (New H H1) H' := fun H' f b u hb => f3 H' f b u (ne_of_none (New.le b u hb) hfl) (e3 b _ (hw1 b u hb))
  refine for_it (walk_list.mono (n := ys3.length) (G' := fun H' => Same (hide fl H3) (hide fl H')) (fun H' e => SqL.of (f3 H' e sl _ hslf hy3)) fun _ _ _ _ _ _ h => h)
    (fun i σ H' => Same H H' ∧ ∃ (v6 v7 v8 v9 : Option V) (zs : List V), σ = [some (.int p), some y, some (.int n), some (.ref rb), some (.ref lb), some (.ref fl), v6, v7, v8, v9] ∧ Same (hide fl H3) (hide fl H') ∧ H' fl = some (.lst zs) ∧ Each (LstOf IntV) ((ss.take i).map fun s => rowI n (dkv hs s)) zs (New H (hide fl H'))) ?_ ?_ ?_ ?_
  · exact ⟨e03, _, _, _, _, [], rfl, Same.refl _, e3 fl _ hfl2, Each.nil⟩
  · rintro i σ H' hi ⟨_, v6, v7, v8, v9, zs, _, f4, _⟩
    exact f4
  · rintro i x σ H4 H5 hi ⟨e4, v6, v7, v8, v9, zs, rfl, f4, hz, hE⟩ ⟨rfl, hx⟩
    have hil : i < ss.length := by rw [hy3i, List.length_map] at hi; exact hi
    have hsi := List.getElem?_eq_getElem hil
    rw [hy3i, List.getElem?_map, hsi] at hx
    cases hx
    obtain ⟨hsn, hsk⟩ := (hssm _).mp (List.mem_of_getElem? hsi)
    have htk : ss.take (i + 1) = ss.take i ++ [ss[i]] := by rw [List.take_succ, hsi]; rfl
    generalize ss[i] = s0 at *
    walk_at "go"
    refine ⟨n, s0, rfl, by omega, fun y6 H6 e6 h6 => ?_⟩
    obtain ⟨cl, cys, rfl, hcl0, hce⟩ := h6
    have hcn := New.old hcl0
    have hcl := New.le cl _ hcl0
    have hci := each_int hce
    have hci2 : (sngI n s0).map V.int = intL n (fun k => if k = s0 then 1 else 0) := by unfold sngI intL; rw [List.map_map]; rfl
    rw [hci, hci2] at hcl
    walk_at "go"
    have e6h := hide_base hcn e6
    have w6 := Same.trans (w1 _ f4) e6h
    refine r_for (r_zipS (H0 := hide cl H6) (.inl (Mon.mono w6 h1)) hide_le (.inl (Mon.mono w6 h2)) (fun QA q => by walk_at "go"; exact q) fun J7 ys7 zs7 hys7 hzs7 wk7 => ?_)
    rw [List.length_map, List.length_map, Nat.min_self] at wk7
    refine for_it wk7 (fun j σ H' => Same (hide cl H6) H' ∧ ∃ (v8 v9 : Option V) (F : Nat → Int), σ = [some (.int p), some y, some (.int n), some (.ref rb), some (.ref lb), some (.ref fl), some (.int (s0 : Nat)), some (.ref cl), v8, v9] ∧ H' cl = some (.lst (intL n F)) ∧ ColP (hs.take j) s0 F) ?_ (fun _ _ _ _ h => h.1) ?_ ?_
    · exact ⟨hide_le, _, _, _, rfl, hcl, if_pos rfl, fun e he => by simp at he, fun k hk _ => if_neg hk⟩
    · rintro j x σ Hx H7 hj ⟨e7, v8, v9, F, rfl, hF, hP⟩ ⟨T0, xa, xb, rfl, hT0, rfl, hxa, hxb⟩
      have hej := List.getElem?_eq_getElem hj
      have hra := hys7.at_ j (rowI n hs[j].2) _ (by rw [List.getElem?_map, hej]; rfl) hxa
      obtain rfl : xb = V.int (hs[j].1 : Nat) := hzs7.at_ j _ _ (by rw [List.getElem?_map, hej]; rfl) hxb
      have htk2 : hs.take (j + 1) = hs.take j ++ [hs[j]] := by rw [List.take_succ, hej]; rfl
      have hem := List.mem_of_getElem? hej
      have hsub : ∀ e ∈ hs.take j, e ∈ hs := fun e he => List.mem_of_mem_take he
      generalize hs[j] = e0 at *
      obtain ⟨ab, ays, rfl, hab, hae⟩ := hra
      have hT1 := Same.new (o := .tup [.ref ab, .int (e0.1 : Nat)]) hT0
      walk_at "go"
      obtain ⟨yi, hyi, rfl⟩ := hae.get (rowI_get e0.2 hsn)
      refine r_ixL (SqL.of (hT1 ab _ (e7 ab _ hab))) hyi ?_
      walk_at "go"
      have hek : e0.1 < n := R.key_lt bd e0 hem
      refine r_set (hT1 cl _ hF) (by rw [intL_len]; exact hek) ?_
      rw [intL_set, show (0 - iv (e0.2 s0)) % (p : Int) = iv (-(e0.2 s0)) by rw [← iv_md (p := p), md_sub, md_zero, md_iv]; congr 1; first | done | grind]
      refine ⟨same_hide_upd (Same.trans e7 hT1), _, _, _, rfl, upd_same, ?_, fun e he => ?_, fun k hk hn2 => ?_⟩
      · show (if s0 = e0.1 then _ else F s0) = 1
        rw [if_neg fun z => hsk e0 hem z.symm]
        exact hP.1
      · rw [htk2] at he
        dsimp only
        by_cases q : e.1 = e0.1
        · have hee : e = e0 := by
            rcases List.mem_append.mp he with he | he
            · exact nd_inj R.nd (hsub e he) hem q
            · exact List.mem_singleton.mp he
          rw [if_pos q, hee]
        · rw [if_neg q]
          rcases List.mem_append.mp he with he | he
          · exact hP.2.1 e he
          · exact absurd (congrArg Prod.fst (List.mem_singleton.mp he)) q
      · dsimp only
        rw [htk2] at hn2
        rw [if_neg fun z => hn2 e0 (List.mem_append_right _ (List.mem_singleton.mpr rfl)) z.symm]
        exact hP.2.2 k hk fun e he => hn2 e (List.mem_append_left _ he)
    · rintro σ H7 ⟨e7, v8, v9, F, rfl, hF, hP⟩
      rw [List.take_length] at hP
      walk_at "go"
      have e57 := Same.trans e6h e7
      refine ⟨.inl ⟨rfl, _, SqL.of (e57 fl _ hz)⟩, ?_⟩
      walk_at "go"
      have hclf : cl ≠ fl := ne_new hcn (by rw [hz]; simp)
      refine ⟨fl, zs, _, rfl, rfl, e57 fl _ hz, _root_.RS.sl _ (by rw [hE.len, List.length_map, List.length_take]; omega), ?_⟩
      refine ⟨Same.mut (Same.trans e4 e57) hflH, _, _, _, _, _, rfl, by rw [hide_upd]; exact Same.trans f4 (hide_same e57), upd_same, ?_⟩
      rw [htk, List.map_append, hide_upd]
      refine (hE.mono (New.mono (hide_same e57))).append (Each.one ⟨cl, intL n F, rfl, by rw [New.at_ (none_of e4 hcn), hide_ne hclf]; exact hF, ?_⟩)
      have : rowI n (dkv hs s0) = (List.range n).map F := List.map_congr_left fun k _ => (col_done R hsk hP k).symm
      show Each IntV (rowI n (dkv hs s0)) _ _
      rw [this]
      exact intL_each
  · rintro σ H4 ⟨e4, v6, v7, v8, v9, zs, rfl, f4, hz, hE⟩
    walk_at "go"
    have hss2 : ss.take ys3.length = ss := by rw [hy3i, List.length_map, List.take_length]
    rw [hss2] at hE
    have hm : ss.map (fun s => rowI n (dkv hs s)) = (ss.map (dkv hs)).map (rowI n) := by rw [List.map_map]; rfl
    rw [hm] at hE
    refine k (ss.map (dkv hs)) _ H4 e4 (fun g hg => ?_) (by rw [List.length_map]; exact hssl) (fun f => ?_) ⟨fl, zs, rfl, by rw [New.at_ hflH]; exact hz, hE.mono (New.mono hide_le)⟩
    · obtain ⟨s, hs0, rfl⟩ := List.mem_map.mp hg
      exact dkv_bd R bd ((hssm s).mp hs0).1
    · rw [dark_ann R bd hssn hssm]
      exact ann_congr sp f
end
section
variable {P : Program} {w : World} {K : PySem.W.Frag} {mg : Str → Option Value} {base : Heap} {d : Ad} {p : Nat} [Pr p]
abbrev s__law_tidied : Stmt := top 75
theorem sc__law_tidied : FnScope ["_law_field_here", "_law_size", "_law_rows", "_law_row"] ["_law_field_here", "_law_size", "_law_rows"] (defScope s__law_tidied) := ⟨rfl, rfl, rfl, by decide +kernel, rfl, by decide +kernel, by decide +kernel⟩
def spTidied (p : Nat) [Pr p] : Sp := fun vs H Q _ => ∃ (y : V) (nss : List (List Int)) (n : Nat), vs = [.int p, .int n, y] ∧ LstOf (SeqOf IntV) nss y H ∧ (∀ ns ∈ nss, ns.length = n) ∧ n ≤ 100 ∧ nss.length ≤ 1000 ∧
  ∀ (hs : List (Hd p)) y' H', Same H H' → Red hs → (hs.map (·.1)).Pairwise (· < ·) → (∀ e ∈ hs, Bd e.2 n) → (∀ f, SpanH hs f ↔ SpanL (nss.map (vecI (p := p))) f) → LstOf (TupOf IntV) (hs.map fun e => rowI n e.2) y' (New H H') → Q y' H'
theorem ok__law_tidied (T : Tx K mg d) (D : Df K mg "_law_tidied" s__law_tidied) (c__law_cleared : Cal P w K mg base 2 "_law_cleared" (U fun p _ => spLClear p) []) : Cal P w K mg base 3 "_law_tidied" (U fun p _ => spTidied p) [] := by
  have nd := sc__law_tidied.nd
  refine mkCalU D sc__law_tidied (fun p hp vs H Q E h => ?_) (fun _ _ _ _ _ _ us hl => match us, hl with | [_, _, _], _ => rfl) (fun p hp f0 cdv A outer s H vs Q E hr h => ?_)
  · obtain ⟨y, nss, n, rfl, _⟩ := h
    rfl
  obtain ⟨y, nss, n, rfl, hy, hns, hn, hl, k⟩ := h
  refine ⟨_, (pss_one (ps_ret (pe_lc (own := [("_law_row", 3)]) (g := gName 3) (tt := tYes) rfl nd (pi_listK (K := K) (pe_ix (ix_tupK (K := K)) (pe_c c__law_cleared hr (by decide) rfl (pa_cons (pv 0) (pa_cons (pv 2) (pa_cons (pv 1) pa_nil)))) pe_int (fun _ _ => rfl))) (blkOk_by (by kernel_rfl)) (fun _ _ _ _ _ => (pg_name (i := 3) nd rfl (Or.inl rfl))) (fun _ _ _ _ _ => pts_nil) (fun _ _ _ _ _ => (pe_callTy (call_tupK (K := K)) (by rfl) T.tuple_ (by decide +kernel) (pa_cons (pv 3) pa_nil)))))), ?_⟩
  walk_at "st"
  walk_at "go"
  refine r_lc (r_iL ?_)
  walk_at "go"
  refine ⟨y, nss, n, rfl, hy, hns, hn, hl, fun t hs y1 y2 H1 e1 ht0 ht R srt bd sp h1 h2 => ?_⟩
  walk_at "go"
  refine r_ixT (i := 0) (.inl (.inl ht)) rfl ?_
  have hlen := R.len bd
  obtain ⟨b1, ys, rfl, hb1, hys⟩ := (Mon.mono New.le h1 : LstOf (LstOf IntV) _ _ H1)
  have wk : Walk (Itl K b1) ys.length (fun H' => Same H1 H') (YAt ys) := walk_list.mono (fun H' e => SqL.of (e b1 _ hb1)) fun _ _ _ _ _ _ h => h
  rw [hys.len, List.length_map] at wk
  refine ⟨b1, rfl, ⟨ys, SqL.of hb1⟩, ?_⟩
  refine lc_new wk (R := TupOf IntV) (fun _ => true) (fun i => rowI n (hv hs i)) (fun _ h => h) (by omega) (fun i x H2 H3 kY kN hi e z hY hN => ?_) (fun D1 H2 ys1 hD1 e2 hy1 hE1 => ?_)
  · obtain ⟨rfl, hx⟩ := z
    have hr0 := Mon.mono e (hys.at_ i (rowI n hs[i].2) x (by rw [List.getElem?_map, List.getElem?_eq_getElem hi]; rfl) hx)
    obtain ⟨b, zs, rfl, hb, hz⟩ := hr0
    walk_at "lc"
    walk_at "go"
    refine ⟨rfl, ?_⟩
    walk_at "go"
    refine ⟨b, zs, rfl, .inl ⟨SqL.of hb, fun tt htt => ?_⟩⟩
    have et := Same.new (o := .tup zs) htt
    have hvi : hv hs i = hs[i].2 := by unfold hv; rw [getD_lt hi]
    refine hY _ _ rfl et ⟨tt, zs, rfl, by rw [New.at_ htt]; exact upd_same, ?_⟩
    rw [hvi, each_int hz]
    exact int_each
  · rw [tk_all] at hE1
    have em : (List.range hs.length).map (fun i => rowI n (hv hs i)) = hs.map fun e => rowI n e.2 := by
      have := congrArg (List.map fun e : Hd p => rowI n e.2) (map_range_get hs (0, zv))
      rw [List.map_map] at this
      exact this
    rw [em] at hE1
    exact k hs _ H2 (Same.trans e1 e2) R srt bd sp (Mon.mono (New.anti e1) (lst_new hD1 hy1 hE1))
theorem vec_rows {n : Nat} {gs : List (Vec p)} (h : ∀ g ∈ gs, Bd g n) : (gs.map (rowI n)).map (vecI (p := p)) = gs := by
  rw [List.map_map]
  exact (List.map_congr_left fun g hg => vecI_rowI (h g hg)).trans (List.map_id gs)
theorem lst_seq {nss : List (List Int)} {y : V} {H : Hp} (h : LstOf (LstOf IntV) nss y H) : LstOf (SeqOf IntV) nss y H :=
  let ⟨b, ys, h1, h2, h3⟩ := h; ⟨b, ys, h1, h2, h3.conv fun _ _ _ h => .inl h⟩
theorem lst_seqT {nss : List (List Int)} {y : V} {H : Hp} (h : LstOf (TupOf IntV) nss y H) : LstOf (SeqOf IntV) nss y H :=
  let ⟨b, ys, h1, h2, h3⟩ := h; ⟨b, ys, h1, h2, h3.conv fun _ _ _ h => .inr h⟩
abbrev s__law_dark : Stmt := top 76
theorem sc__law_dark : FnScope ["_law_field_here", "_law_size", "_law_rows"] ["_law_field_here", "_law_size", "_law_rows"] (defScope s__law_dark) := ⟨rfl, rfl, rfl, by decide +kernel, rfl, by decide +kernel, by decide +kernel⟩
def spLDark (p : Nat) [Pr p] : Sp := fun vs H Q _ => ∃ (y : V) (nss : List (List Int)) (n : Nat), vs = [.int p, .int n, y] ∧ LstOf (SeqOf IntV) nss y H ∧ (∀ ns ∈ nss, ns.length = n) ∧ n ≤ 100 ∧ nss.length ≤ 1000 ∧
  ∀ (hs : List (Hd p)) y' H', Same H H' → Red hs → (hs.map (·.1)).Pairwise (· < ·) → (∀ e ∈ hs, Bd e.2 n) → (∀ f, SpanH hs f ↔ Ann n (SpanL (nss.map (vecI (p := p)))) f) → LstOf (TupOf IntV) (hs.map fun e => rowI n e.2) y' (New H H') → Q y' H'
theorem ok__law_dark (T : Tx K mg d) (D : Df K mg "_law_dark" s__law_dark) (c__law_tidied : Cal P w K mg base 3 "_law_tidied" (U fun p _ => spTidied p) []) (c__law_still : Cal P w K mg base 3 "_law_still" (U fun p _ => spStill p) []) : Cal P w K mg base 4 "_law_dark" (U fun p _ => spLDark p) [] := by
  have nd := sc__law_dark.nd
  refine mkCalU D sc__law_dark (fun p hp vs H Q E h => ?_) (fun _ _ _ _ _ _ us hl => match us, hl with | [_, _, _], _ => rfl) (fun p hp f0 cdv A outer s H vs Q E hr h => ?_)
  · obtain ⟨y, nss, n, rfl, _⟩ := h
    rfl
  obtain ⟨y, nss, n, rfl, hy, hns, hn, hl, k⟩ := h
  refine ⟨_, (pss_one (ps_ret (pe_c c__law_tidied hr (by decide) rfl (pa_cons (pv 0) (pa_cons (pv 1) (pa_cons (pe_c c__law_still hr (by decide) rfl (pa_cons (pv 0) (pa_cons (pv 2) (pa_cons (pv 1) pa_nil)))) pa_nil)))))), ?_⟩
  walk_at "st"
  walk_at "go"
  refine ⟨y, nss, n, rfl, hy, hns, hn, hl, fun gs y1 H1 e1 hgb hgl hgs h1 => ?_⟩
  walk_at "go"
  refine ⟨y1, gs.map (rowI n), n, rfl, lst_seq (Mon.mono New.le h1), fun ns hm => ?_, hn, by rw [List.length_map]; omega, fun hs y2 H2 e2 R srt bd sp h2 => ?_⟩
  · obtain ⟨g, _, rfl⟩ := List.mem_map.mp hm
    exact rowI_len _ _
  · exact k hs y2 H2 (Same.trans e1 e2) R srt bd (fun f => by rw [sp, vec_rows hgb, hgs]) (Mon.mono (New.anti e1) h2)
theorem perm_erase {α : Type} : ∀ (l : List α) (i : Nat) (hi : i < l.length), ([l[i]] ++ l.eraseIdx i).Perm l
  | a :: r, 0, _ => List.Perm.refl _
  | a :: r, i + 1, hi => by
    have h := perm_erase r i (by simpa using hi)
    exact (List.Perm.swap a _ _).trans (List.Perm.cons a h)
theorem DrawV.some_c {D : Drw} {H : Hp} (h : DrawV D H) : H D.ca ≠ none := by obtain ⟨r, t, ns, ms, h1, h2, h3⟩ := h.ex; rw [h3]; simp
theorem DrawV.updN {D : Drw} {H : Hp} {b : Addr} {o : HO} (h : DrawV D H) (h1 : b ≠ D.a) (h2 : b ≠ D.la) (h3 : b ≠ D.ca) : DrawV D (upd H b o) := by
  obtain ⟨r, t, ns, ms, q1, q2, q3⟩ := h.ex
  exact ⟨⟨r, t, ns, ms, by rw [upd_ne h1.symm]; exact q1, by rw [upd_ne h2.symm]; exact q2, by rw [upd_ne h3.symm]; exact q3⟩, h.ne1⟩
/-- a new thing changes -/
theorem Fr.mut {D : Drw} {H H' : Hp} {b : Addr} {o : HO} (hd : DrawV D H) (f : Fr D H H') (hb : H b = Option.none) : Fr D H (upd H' b o) := by
  refine ⟨f.dr.updN (fun z => hd.some_a (z ▸ hb)) (fun z => hd.some_l (z ▸ hb)) (fun z => hd.some_c (z ▸ hb)), fun x u hx => ?_⟩
  obtain ⟨n1, n2⟩ := hD_ne hx
  have := f.sm x u hx
  rw [hD_at n1 n2] at this hx ⊢
  rw [upd_ne (ne_of_none hx hb)]
  exact this
abbrev s__law_shuffled : Stmt := top 63
theorem sc__law_shuffled : FnScope ["_law_draw", "_law_some", "_law_left", "_law_found"] ["_law_draw", "_law_some"] (defScope s__law_shuffled) := ⟨rfl, rfl, rfl, by decide +kernel, rfl, by decide +kernel, by decide +kernel⟩
/-- shuffled: the same things in some order -/
def spShuf : Sp := fun vs H Q _ => ∃ (D : Drw) (l : Addr) (xs : List V), vs = [.ref D.a, .ref l] ∧ DrawV D H ∧ hD D H l = some (.lst xs) ∧ xs.length ≤ 1000 ∧
  ∀ l' ys H', Fr D H H' → H l' = none → H' l' = some (.lst ys) → ys.Perm xs → Q (.ref l') H'
theorem ok__law_shuffled (T : Tx K mg d) (D : Df K mg "_law_shuffled" s__law_shuffled) (c__law_take : Cal P w K mg base 2 "_law_take" spTake []) : Cal P w K mg base 3 "_law_shuffled" (spShuf) [] := by
  have nd := sc__law_shuffled.nd
  refine mkCal D sc__law_shuffled (fun vs H Q E h => ?_) (fun _ _ _ _ _ _ us hl => match us, hl with | [_, _], _ => rfl) (fun f0 cdv A outer s H vs Q E hr h => ?_)
  · obtain ⟨D, l, xs, rfl, _⟩ := h
    rfl
  obtain ⟨D, l, xs, rfl, hd, hx, hl, k⟩ := h
  refine ⟨_, (pss_cons (ps_par (i := 2) (j := 3) rfl nd rfl rfl (by decide) rfl rfl (pa_cons (pe_callTy call_list_of (by rfl) T.list_ (by decide +kernel) (pa_cons (pv 1) pa_nil)) (pa_cons (pe_lst pa_nil) pa_nil)) (by rfl))
    (pss_cons (ps_while PassesOwn.never (pt_cmpR (op_neNil hr.units0) (pv 2) (pe_lst pa_nil) (nomark _)) 
      (pss_one (ps_expr (pe_bm PySem.F.plainAttrs_list PySem.F.slot_list_append PySem.F.type_list_append mt_append (pv 3) (pa_cons (pe_bm PySem.F.plainAttrs_list PySem.F.slot_list_pop PySem.F.type_list_pop mt_popAt (pv 2) (pa_cons (pe_c c__law_take hr (by decide) rfl (pa_cons (pv 0) (pa_cons (pe_callB (call_lenK (K := K)) (by rfl) T.len (by decide +kernel) (pa_cons (pv 2) pa_nil)) pa_nil))) pa_nil)) pa_nil)))))
    (pss_one (ps_ret (pv 3))))), ?_⟩
  walk_at "st"
  walk_at "go"
  refine ⟨l, xs, rfl, .inl (SqL.of (hD_le l _ hx)), fun lf hlf => ?_⟩
  walk_at "go"
  refine ⟨by show 0 ≤ sizeLine; omega, fun fl hfl => ?_⟩
  walk_at "go"
  have e1 := Same.new (o := .lst xs) hlf
  have e2 := Same.new (o := .lst []) hfl
  have hfl0 := none_of e1 hfl
  have hlff : lf ≠ fl := fun z => by rw [← z, upd_same] at hfl; cases hfl
  refine ⟨fun m σ H' => ∃ zs ws, σ = [some (.ref D.a), some (.ref l), some (.ref lf), some (.ref fl)] ∧ Fr D H H' ∧ H' lf = some (.lst zs) ∧ H' fl = some (.lst ws) ∧ (ws ++ zs).Perm xs ∧ m = zs.length,
    ⟨_, xs, [], rfl, Fr.of hd (Same.trans e1 e2), e2 lf _ upd_same, upd_same, List.Perm.refl _, rfl⟩, ?_⟩
  rintro m σ H' ⟨zs, ws, rfl, f1, hz, hw, hp, rfl⟩
  walk_at "go"
  refine ⟨by show 0 ≤ sizeLine; omega, fun nl hnl => ?_⟩
  have e3 : Same H' (upd H' nl (.lst [])) := Same.new hnl
  refine r_neNil (SqL.of (e3 lf _ hz)) (SqL.of upd_same) ?_
  have f2 := f1.trans (Fr.of f1.dr e3)
  have hz2 := e3 lf _ hz
  have hw2 := e3 fl _ hw
  generalize (upd H' nl (.lst [])) = H2 at *
  have hpl := hp.length_eq
  rw [List.length_append] at hpl
  cases hzz : zs with
  | nil =>
    refine r_bl (r_false ?_)
    walk_at "go"
    rw [hzz, List.append_nil] at hp
    exact k fl ws H2 f2 hfl0 hw2 hp
  | cons z0 zr =>
    refine r_bl (r_true ?_)
    refine ⟨fun σ H' => ∃ zs2 ws, σ = [some (.ref D.a), some (.ref l), some (.ref lf), some (.ref fl)] ∧ Fr D H H' ∧ H' lf = some (.lst zs2) ∧ H' fl = some (.lst ws) ∧ (ws ++ zs2).Perm xs ∧ zs2.length < zs.length, fun σ' H' ⟨zs2, ws2, h1, h2, h3, h4, h5, h6⟩ => ⟨zs2.length, by rw [← hzz]; exact h6, zs2, ws2, h1, h2, h3, h4, h5, rfl⟩, ?_⟩
    have hzl : 1 ≤ zs.length := by rw [hzz]; simp
    walk_at "go"
    refine ⟨.inl ⟨rfl, _, SqL.of hw2⟩, ?_⟩
    walk_at "go"
    refine ⟨.inl ⟨rfl, _, SqL.of hz2⟩, ?_⟩
    walk_at "go"
    refine ⟨lf, zs, rfl, .inl (SqL.of hz2), ?_⟩
    walk_at "go"
    refine ⟨D, zs.length, rfl, f2.dr, hzl, by omega, fun i H3 hi f3 => ?_⟩
    walk_at "go"
    have hnew : ∀ b u, H b = none → H2 b = some u → H3 b = some u := fun b u h0 h2 => by
      have n1 : b ≠ D.a := fun z => hd.some_a (z ▸ h0)
      have n2 : b ≠ D.la := fun z => hd.some_l (z ▸ h0)
      have := f3.sm b u (by rw [hD_at n1 n2]; exact h2)
      rw [hD_at n1 n2] at this
      exact this
    have hz3 := hnew lf _ hlf hz2
    have hw3 := hnew fl _ hfl0 hw2
    refine ⟨lf, zs, i, i, zs[i], rfl, rfl, hz3, by omega, by omega, by unfold seqIndex?; simp; omega, List.getElem?_eq_getElem hi, ?_⟩
    walk_at "go"
    refine ⟨fl, ws, _, rfl, rfl, by rw [upd_ne hlff.symm]; exact hw3, sl _ (by omega), ?_⟩
    refine ⟨zs.eraseIdx i, ws ++ [zs[i]], rfl, Fr.mut hd (Fr.mut hd (f2.trans f3) hlf) hfl0, by rw [upd_ne hlff]; exact upd_same, upd_same, ?_, by rw [List.length_eraseIdx, if_pos hi]; omega⟩
    rw [List.append_assoc]
    refine (List.Perm.append_left ws ?_).trans hp
    exact perm_erase zs i hi
end
section
variable {P : Program} {w : World} {K : PySem.W.Frag} {mg : Str → Option Value} {base : Heap} {d : Ad} {p : Nat} [Pr p]
/-! ### comprehensions in whose turns is drawn -/
theorem Fr.newH {D : Drw} {Hb H H4 : Hp} {l : Addr} (hd : DrawV D Hb) (f : Fr D H H4) : Same (New Hb (hide l H)) (New Hb (hide l H4)) := fun b u hb => by
  have h0 := New.old hb
  rw [New.at_ h0] at hb ⊢
  have hl : b ≠ l := fun z => by rw [z] at hb; simp [hide] at hb
  rw [hide_ne hl] at hb ⊢
  have n1 : b ≠ D.a := fun z => hd.some_a (z ▸ h0)
  have n2 : b ≠ D.la := fun z => hd.some_l (z ▸ h0)
  have := f.sm b u (by rw [hD_at n1 n2]; exact hb)
  rw [hD_at n1 n2] at this
  exact this
theorem Fr.keep {D : Drw} {Hb H H4 : Hp} (hd : DrawV D Hb) (f : Fr D H H4) {b : Addr} {u : HO} (h0 : Hb b = Option.none) (h : H b = some u) : H4 b = some u := by
  have n1 : b ≠ D.a := fun z => hd.some_a (z ▸ h0)
  have n2 : b ≠ D.la := fun z => hd.some_l (z ▸ h0)
  have := f.sm b u (by rw [hD_at n1 n2]; exact h)
  rw [hD_at n1 n2] at this
  exact this
theorem lc_newD {α : Type} {R : α → V → Hp → Prop} [Mon R] {J : It} {n : Nat} {G : Hp → Prop} {Y : Nat → Hp → V → Hp → Prop} (w : Walk J n G Y) {g : TG} {tt : TT} {te : TE} {vs : List Nat} {σ : L2.St} {Hb : Hp} {Q : Addr → Hp → Prop} {D : Drw} (hd : DrawV D Hb) (f : Nat → Bool) (v : Nat → α)
    (hG : ∀ H, Fr D Hb H → G H) (hn : n ≤ 100000)
    (hs : ∀ i x H H' (kY : V → Hp → Prop) (kN : Hp → Prop), i < n → Fr D Hb H → Y i H x H' → (∀ y H4, f i = true → Fr D H H4 → R (v i) y (New H H4) → kY y H4) → (∀ H4, f i = false → Fr D H H4 → kN H4) →
      g x (wipe σ vs) H' fun σ2 H2 => wipe σ2 vs = wipe σ vs ∧ tt σ2 H2 fun b H3 => if b = true then te σ2 H3 kY else kN H3)
    (hq : ∀ l H' ys, Hb l = none → Fr D Hb H' → H' l = some (.lst ys) → Each R ((tk n f).map v) ys (New Hb (hide l H')) → Q l H') :
    ∀ D, Hb D = none → ∃ W : Nat → Nat → Hp → Prop, (∃ m, W 0 m (upd Hb D (.lst []))) ∧ ∀ i m H, W i m H →
      (J.stop i H ∧ Q D H) ∨ (J.go i H ∧ ∃ Nx : Hp → Prop, (∀ H', Nx H' → ∃ m', m' < m ∧ W (i + 1) m' H') ∧ ∀ x H', J.yld i H x H' → g x (wipe σ vs) H' fun σ2 H2 => wipe σ2 vs = wipe σ vs ∧ tt σ2 H2 fun b H3 =>
        if b = true then te σ2 H3 fun y H4 => ∃ acc, H4 D = some (.lst acc) ∧ acc.length < sizeLine ∧ Nx (upd H4 D (.lst (acc ++ [y]))) else Nx H3) := fun l hl =>
  lc_it w (Qd := fun H => Q l H) (fun i H => Fr D Hb H ∧ ∃ ys, H l = some (.lst ys) ∧ Each R ((tk i f).map v) ys (New Hb (hide l H)))
    ⟨Fr.of hd (Same.new hl), [], upd_same, Each.nil⟩ (fun i H _ h => hG H h.1)
    (fun i x H H' hi ⟨e, ys, hy, m⟩ y => by
      have hln : H l ≠ none := by rw [hy]; exact fun z => nomatch z
      refine hs i x H H' _ _ hi e y (fun z H4 hf e4 r4 => ?_) (fun H4 hf e4 => ?_)
      · refine ⟨ys, e4.keep hd hl hy, ?_, Fr.mut hd (e.trans e4) hl, _, upd_same, ?_⟩
        · have := m.len
          rw [List.length_map] at this
          have := tk_len i f
          have : (100000 : Nat) < sizeLine := by decide
          omega
        · rw [tk_yes hf, List.map_append, hide_upd]
          exact (m.mono (e4.newH hd)).append (Each.one (Mon.mono (Fr.both hd e hln) r4))
      · refine ⟨e.trans e4, ys, e4.keep hd hl hy, ?_⟩
        rw [tk_no hf]
        exact m.mono (e4.newH hd))
    (fun H ⟨e, ys, hy, m⟩ => hq l H ys hl e hy m)
/-- an int of the same rest -/
def RawI (p : Nat) [Pr p] (i : Int) (y : V) (_ : Hp) : Prop := ∃ z : Int, y = .int z ∧ (md z : Fin p) = md i
instance : Mon (RawI p) := ⟨fun _ h => h⟩
theorem raw_ints {ns : List Int} {ys : List V} {H : Hp} (h : Each (RawI p) ns ys H) : ∃ ms : List Int, ys = ms.map V.int ∧ ms.length = ns.length ∧ vecI (p := p) ms = vecI ns := by
  have hz : ∀ i, i < ns.length → ∃ z : Int, ys[i]? = some (.int z) ∧ (md z : Fin p) = md (ns.getD i 0) := fun i hi => by
    obtain ⟨y, hy, z, rfl, hz⟩ := h.get (List.getElem?_eq_getElem hi)
    exact ⟨z, hy, by rw [hz, getD_lt hi]⟩
  refine ⟨(List.range ns.length).map fun i => if hi : i < ns.length then Classical.choose (hz i hi) else 0, List.ext_getElem? fun i => ?_, by simp, funext fun i => ?_⟩
  · rw [List.map_map, List.getElem?_map]
    by_cases hi : i < ns.length
    · rw [List.getElem?_range hi, (Classical.choose_spec (hz i hi)).1]
      show some _ = some (V.int (if hi : i < ns.length then Classical.choose (hz i hi) else 0))
      rw [dif_pos hi]
    · rw [List.getElem?_eq_none (by rw [h.len]; omega), List.getElem?_eq_none (by simp; omega)]
      rfl
  · unfold vecI
    by_cases hi : i < ns.length
    · rw [← (Classical.choose_spec (hz i hi)).2]
      congr 1
      rw [List.getD_eq_getElem?_getD, List.getElem?_map, List.getElem?_range hi]
      show (if hi : i < ns.length then Classical.choose (hz i hi) else 0) = _
      rw [dif_pos hi]
    · rw [List.getD_eq_getElem?_getD, List.getD_eq_getElem?_getD, List.getElem?_eq_none (by simp; omega), List.getElem?_eq_none (by omega)]
abbrev s__law_raw : Stmt := top 71
theorem sc__law_raw : FnScope ["_law_draw", "_law_field_here", "_law_row", "_law_found", "_law_item"] ["_law_draw", "_law_field_here", "_law_row"] (defScope s__law_raw) := ⟨rfl, rfl, rfl, by decide +kernel, rfl, by decide +kernel, by decide +kernel⟩
def spRaw (p : Nat) [Pr p] : Sp := fun vs H Q _ => ∃ (D : Drw) (y : V) (ns : List Int), vs = [.ref D.a, .int p, y] ∧ DrawV D H ∧ TupOf IntV ns y (hD D H) ∧ ns.length ≤ 1000 ∧
  ∀ (ms : List Int) y' H', Fr D H H' → ms.length = ns.length → vecI (p := p) ms = vecI ns → SeqOf IntV ms y' (New H H') → Q y' H'
theorem ok__law_raw (T : Tx K mg d) (D : Df K mg "_law_raw" s__law_raw) (c__law_take : Cal P w K mg base 2 "_law_take" spTake []) : Cal P w K mg base 3 "_law_raw" (U fun p _ => spRaw p) [] := by
  have nd := sc__law_raw.nd
  refine mkCalU D sc__law_raw (fun p hp vs H Q E h => ?_) (fun _ _ _ _ _ _ us hl => match us, hl with | [_, _, _], _ => rfl) (fun p hp f0 cdv A outer s H vs Q E hr h => ?_)
  · obtain ⟨D, y, ns, rfl, _⟩ := h
    rfl
  obtain ⟨D, y, ns, rfl, hd, hy, hl, k⟩ := h
  have hp2 := Pr.le (p := p)
  refine ⟨_, (pss_cons (ps_setLc (own := [("_law_item", 4)]) (g := gName 4) (tt := tYes) (i := 3) rfl nd rfl rfl (sw_true rfl rfl rfl (by decide +kernel)) (pi_tupK (K := K) (pv 2)) (blkOk_by (by kernel_rfl)) (fun _ _ _ _ _ => (pg_name (i := 4) nd rfl (Or.inl rfl))) (fun _ _ _ _ _ => pts_nil) (fun _ _ _ _ _ => (pe_op op_add (pv 4) (pe_op op_mul (pv 1) (pe_op op_sub (pe_c c__law_take hr (by decide) rfl (pa_cons (pv 0) (pa_cons pe_int pa_nil))) pe_int)))))
    (pss_one (ps_ret (pe_ifExp (pt_cmpR op_eq (pe_c c__law_take hr (by decide) rfl (pa_cons (pv 0) (pa_cons pe_int pa_nil))) pe_int (nomark _)) (pe_callTy (call_tupK (K := K)) (by rfl) T.tuple_ (by decide +kernel) (pa_cons (pv 3) pa_nil)) (pv 3))))), ?_⟩
  walk_at "st"
  walk_at "go"
  refine r_lc (r_itT hy hD_le (fun Q q => by walk_at "go"; exact q) fun J ys hys wk => ?_)
  refine lc_newD wk (R := RawI p) hd (fun _ => true) (fun i => ns.getD i 0) (fun H' f => Same.trans f.sm hD_le) (by omega) (fun i x H1 H2 kY kN hi f1 z hY hN => ?_) (fun l H1 ys1 hl1 f1 hy1 hE1 => ?_)
  · obtain ⟨rfl, hx⟩ := z
    obtain ⟨ni, hni, rfl⟩ := hys.yet hx
    rw [getD_some hni] at hY
    walk_at "lc"
    walk_at "go"
    refine ⟨rfl, ?_⟩
    walk_at "go"
    refine ⟨D, 5, rfl, f1.dr, by omega, by omega, fun j H3 hj f3 => ?_⟩
    walk_at "go"
    refine hY _ _ rfl f3 ⟨_, rfl, md_eq ?_⟩
    rw [Int.add_mul_emod_self_left]
  rw [tk_all, map_range_get] at hE1
  obtain ⟨ms, hms, hml, hmv⟩ := raw_ints hE1
  subst hms
  walk_at "go"
  refine ⟨D, 2, rfl, f1.dr, by omega, by omega, fun j H2 hj f2 => ?_⟩
  have hy2 := f2.keep hd hl1 hy1
  walk_at "go"
  refine r_dec (fun z => ?_) fun z => ?_
  · walk_at "go"
    refine ⟨l, _, rfl, .inl ⟨SqL.of hy2, fun t ht => ?_⟩⟩
    have ft := Fr.of f2.dr (Same.new (o := .tup (ms.map V.int)) ht)
    exact k ms _ _ ((f1.trans f2).trans ft) hml hmv (.inr ⟨t, _, rfl, by rw [New.at_ ((f1.trans f2).none hd ht)]; exact upd_same, int_each⟩)
  · walk_at "go"
    exact k ms _ _ (f1.trans f2) hml hmv (.inl ⟨l, _, rfl, by rw [New.at_ hl1]; exact hy2, int_each⟩)
theorem r_revL {te : TE} {σ : L2.St} {H : Hp} {Q : VK} (h : te σ H fun x H1 => ∃ a xs, x = .ref a ∧ SqL K H1 a xs ∧ ∀ p, H1 p = none → Q (.ref p) (upd H1 p (.lst xs.reverse))) : tRevL K te σ H Q := h
theorem r_iT {te : TE} {σ : L2.St} {H : Hp} {R : It → Hp → Prop} (h : te σ H fun x H1 => ∃ a, x = .ref a ∧ (∃ xs, SqT K H1 a xs) ∧ R (Itt K a) H1) : iTup K te σ H R := h
abbrev s__law_word_here : Stmt := top 72
theorem sc__law_word_here : FnScope ["_law_letters", "_law_length", "_law_spot", "_law_found", "_law_left", "_law_lap"] ["_law_letters", "_law_length", "_law_spot"] (defScope s__law_word_here) := ⟨rfl, rfl, rfl, by decide +kernel, rfl, by decide +kernel, by decide +kernel⟩
def spWord : Sp := fun vs H Q _ => ∃ (L n : Nat) (s : Int), vs = [.int L, .int n, .int s] ∧ 1 ≤ L ∧ L ≤ 100 ∧ n ≤ 10 ∧
  ∀ (ns : List Nat) y' H', Same H H' → ns.length = n → (∀ x ∈ ns, x < L) → TupOf IntV (ns.map fun (k : Nat) => (k : Int)) y' (New H H') → Q y' H'
theorem ok__law_word_here (T : Tx K mg d) (D : Df K mg "_law_word_here" s__law_word_here) : Cal P w K mg base 1 "_law_word_here" (spWord) [] := by
  have nd := sc__law_word_here.nd
  refine mkCal D sc__law_word_here (fun vs H Q E h => ?_) (fun _ _ _ _ _ _ us hl => match us, hl with | [_, _, _], _ => rfl) (fun f0 cdv A outer s H vs Q E hr h => ?_)
  · obtain ⟨L, n, s, rfl, _⟩ := h
    rfl
  obtain ⟨L, n, s0, rfl, hL1, hL2, hn, k⟩ := h
  refine ⟨_, (pss_cons (ps_par (i := 3) (j := 4) rfl nd rfl rfl (by decide) rfl rfl (pa_cons (pe_lst pa_nil) (pa_cons (pv 2) pa_nil)) (by rfl))
    (pss_cons (ps_for PassesOwn.never rfl (pi_range1 rfl T.range (pa_cons (pv 1) pa_nil)) (pg_name (i := 5) nd rfl (Or.inl rfl)) 
      (pss_cons (ps_expr (pe_bm PySem.F.plainAttrs_list PySem.F.slot_list_append PySem.F.type_list_append mt_append (pv 3) (pa_cons (pe_op op_mod (pv 4) (pv 0)) pa_nil)))
      (pss_one (ps_set (i := 4) nd rfl (Or.inl rfl) (pe_op op_fdiv (pv 4) (pv 0))))))
    (pss_one (ps_ret (pe_callTy (call_tupK (K := K)) (by rfl) T.tuple_ (by decide +kernel) (pa_cons (pe_revL (pv 3)) pa_nil)))))), ?_⟩
  walk_at "st"
  walk_at "go"
  refine ⟨by show 0 ≤ sizeLine; omega, fun fl hfl => ?_⟩
  walk_at "go"
  have e1 := Same.new (o := .lst []) hfl
  refine r_for (r_rng n (by omega) (fun QA q => by walk_at "go"; exact q) fun J wk => ?_)
  refine for_it wk (fun i σ H' => Same H H' ∧ ∃ (z : Int) (v5 : Option V) (ns : List Nat), σ = [some (.int L), some (.int n), some (.int s0), some (.ref fl), some (.int z), v5] ∧ H' fl = some (.lst ((ns.map fun (k : Nat) => (k : Int)).map V.int)) ∧ ns.length = i ∧ ∀ x ∈ ns, x < L) ?_ (fun _ _ _ _ _ => trivial) ?_ ?_
  · exact ⟨e1, _, _, [], rfl, upd_same, rfl, fun x hx => by cases hx⟩
  · rintro i x σ Hx H1 hi ⟨e2, z, v5, ns, rfl, hf, hnl, hns⟩ ⟨rfl, rfl⟩
    walk_at "go"
    refine ⟨.inl ⟨rfl, _, SqL.of hf⟩, ?_⟩
    walk_at "go"
    refine ⟨fl, _, _, rfl, rfl, hf, sl _ (by rw [List.length_map, List.length_map]; omega), ?_⟩
    walk_at "go"
    have h0 := Int.emod_nonneg z (show ((L : Nat) : Int) ≠ 0 by omega)
    have h1 := Int.emod_lt_of_pos z (show (0 : Int) < (L : Int) by omega)
    refine ⟨Same.mut e2 hfl, _, _, ns ++ [(z % (L : Int)).toNat], rfl, ?_, by rw [List.length_append]; simp [hnl], fun x hx => ?_⟩
    · rw [upd_same, List.map_append, List.map_append]
      show some (HO.lst (_ ++ [V.int (z % (L : Int))])) = some (HO.lst (_ ++ [V.int (((z % (L : Int)).toNat : Nat) : Int)]))
      rw [Int.toNat_of_nonneg h0]
    · rcases List.mem_append.mp hx with hx | hx
      · exact hns x hx
      · rw [List.mem_singleton.mp hx]
        omega
  · rintro σ H1 ⟨e2, z, v5, ns, rfl, hf, hnl, hns⟩
    walk_at "go"
    refine r_revL ?_
    walk_at "go"
    refine ⟨fl, _, rfl, SqL.of hf, fun r hr0 => ?_⟩
    walk_at "go"
    have er := Same.new (o := .lst ((ns.map fun (k : Nat) => (k : Int)).map V.int).reverse) hr0
    refine ⟨r, _, rfl, .inl ⟨SqL.of upd_same, fun t ht => ?_⟩⟩
    have et := Same.new (o := .tup ((ns.map fun (k : Nat) => (k : Int)).map V.int).reverse) ht
    have h02 := Same.trans e2 (Same.trans er et)
    refine k ns.reverse _ _ h02 (by rw [List.length_reverse]; exact hnl) (fun x hx => hns x (List.mem_reverse.mp hx)) ⟨t, _, rfl, by rw [New.at_ (none_of (Same.trans e2 er) ht)]; exact upd_same, ?_⟩
    rw [← List.map_reverse, ← List.map_reverse]
    exact int_each
abbrev s__law_followed : Stmt := top 73
theorem sc__law_followed : FnScope ["_law_field_here", "_law_one", "_law_other", "_law_found", "_law_here", "_law_there"] ["_law_field_here", "_law_one", "_law_other"] (defScope s__law_followed) := ⟨rfl, rfl, rfl, by decide +kernel, rfl, by decide +kernel, by decide +kernel⟩
def spFollow (p : Nat) [Pr p] : Sp := fun vs H Q _ => ∃ (y z : V) (ns ms : List Int), vs = [.int p, y, z] ∧ LstOf IntV ns y H ∧ LstOf IntV ms z H ∧ (∀ m ∈ ms, -(2 ^ 64) < m ∧ m < 2 ^ 64) ∧ ns.length * ms.length ≤ 1000 ∧ ns.length ≤ 1000 ∧ ms.length ≤ 1000 ∧
  ∀ (cs : List Int) y' H', Same H H' → cs.length = ns.length * ms.length → LstOf IntV cs y' (New H H') → Q y' H'
theorem ok__law_followed (T : Tx K mg d) (D : Df K mg "_law_followed" s__law_followed) : Cal P w K mg base 1 "_law_followed" (U fun p _ => spFollow p) [] := by
  have nd := sc__law_followed.nd
  refine mkCalU D sc__law_followed (fun p hp vs H Q E h => ?_) (fun _ _ _ _ _ _ us hl => match us, hl with | [_, _, _], _ => rfl) (fun p hp f0 cdv A outer s H vs Q E hr h => ?_)
  · obtain ⟨y, z, ns, ms, rfl, _⟩ := h
    rfl
  obtain ⟨y, z, ns, ms, rfl, hy, hz, hms, hl, hln, hlm, k⟩ := h
  refine ⟨_, (pss_cons (ps_set (i := 3) nd rfl (Or.inl rfl) (pe_lst pa_nil))
    (pss_cons (ps_for PassesOwn.never rfl (pi_listK (K := K) (pv 1)) (pg_name (i := 4) nd rfl (Or.inr rfl)) 
      (pss_one (ps_set (i := 3) nd rfl (Or.inl rfl) (pe_op op_cat (pv 3) (pe_lc (own := [("_law_there", 5)]) (g := gName 5) (tt := tYes) rfl nd (pi_listK (K := K) (pv 2)) (blkOk_by (by kernel_rfl)) (fun _ _ _ _ _ => (pg_name (i := 5) nd rfl (Or.inl rfl))) (fun _ _ _ _ _ => pts_nil) (fun _ _ _ _ _ => (pe_op op_mod (pe_op op_mul (pv 4) (pv 5)) (pv 0))))))))
    (pss_one (ps_ret (pv 3))))), ?_⟩
  walk_at "st"
  walk_at "go"
  refine ⟨by show 0 ≤ sizeLine; omega, fun fl hfl => ?_⟩
  walk_at "go"
  have e1 := Same.new (o := .lst []) hfl
  refine r_for (r_itL hy e1 (fun Q q => by walk_at "go"; exact q) fun J ys hys wk => ?_)
  refine for_it wk (fun i σ H' => Same H H' ∧ ∃ (l : Addr) (v4 v5 : Option V) (cs : List Int), σ = [some (.int p), some y, some z, some (.ref l), v4, v5] ∧ H l = none ∧ H' l = some (.lst (cs.map V.int)) ∧ cs.length = i * ms.length) ?_ (fun _ _ _ _ h => h.1) ?_ ?_
  · exact ⟨e1, fl, _, _, [], rfl, hfl, upd_same, by simp⟩
  · rintro i x σ Hx H1 hi ⟨e2, l, v4, v5, cs, rfl, hl0, hc, hcl⟩ ⟨rfl, hx⟩
    obtain ⟨ni, hni, rfl⟩ := hys.yet hx
    walk_at "go"
    refine r_lc (r_itL (Mon.mono e2 hz) (Same.refl _) (fun Q q => by walk_at "go"; exact q) fun J2 zs hzs wk2 => ?_)
    refine lc_new wk2 (R := IntV) (fun _ => true) (fun j => ni * ms.getD j 0 % (p : Int)) (fun _ h => h) (by omega) (fun j x H2 H3 kY kN hj e z2 hY hN => ?_) (fun D1 H2 ys1 hD1 e3 hy1 hE1 => ?_)
    · obtain ⟨rfl, hx2⟩ := z2
      obtain ⟨mj, hmj, rfl⟩ := hzs.yet hx2
      rw [getD_some hmj] at hY
      have hsm := hms mj (List.mem_of_getElem? hmj)
      walk_at "lc"
      walk_at "go"
      refine ⟨rfl, ?_⟩
      walk_at "go"
      exact hY _ _ rfl (Same.refl _) rfl
    rw [tk_all] at hE1
    have hyi := each_int (hE1.mono New.le)
    have hil : i * ms.length + ms.length ≤ 1000 := by
      have := Nat.mul_le_mul_right ms.length (show i + 1 ≤ ns.length from hi)
      rw [Nat.add_mul, Nat.one_mul] at this
      omega
    refine ⟨l, D1, cs.map V.int, ys1, rfl, rfl, e3 l _ hc, hy1, Nat.le_of_lt (sl _ ?_), fun q hq => ?_⟩
    · rw [List.length_map, hcl, hyi, List.length_map, List.length_map, List.length_range]
      omega
    · walk_at "go"
      have eq := Same.trans e3 (Same.new (o := .lst (cs.map V.int ++ ys1)) hq)
      refine ⟨Same.trans e2 eq, q, _, _, cs ++ (List.range ms.length).map (fun j => ni * ms.getD j 0 % (p : Int)), rfl, none_of (Same.trans e2 e3) hq, ?_, ?_⟩
      · rw [upd_same, hyi, List.map_append]
      · rw [List.length_append, List.length_map, List.length_range, hcl, Nat.add_mul, Nat.one_mul]
  · rintro σ H1 ⟨e2, l, v4, v5, cs, rfl, hl0, hc, hcl⟩
    walk_at "go"
    exact k cs _ H1 e2 hcl ⟨l, _, rfl, by rw [New.at_ hl0]; exact hc, int_each⟩
abbrev s__law_letters_led : Stmt := top 74
theorem sc__law_letters_led : FnScope ["_law_field_here", "_law_letters", "_law_length", "_law_row", "_law_table", "_law_found", "_law_spot", "_law_item", "_law_more", "_law_letter_here", "_law_here", "_law_there"] ["_law_field_here", "_law_letters", "_law_length", "_law_row", "_law_table"] (defScope s__law_letters_led) := ⟨rfl, rfl, rfl, by decide +kernel, rfl, by decide +kernel, by decide +kernel⟩
def spLed (p : Nat) [Pr p] : Sp := fun vs H Q _ => ∃ (L : Nat) (y z : V) (ns : List Int) (tb : List (List Int)), vs = [.int p, .int L, .int 2, y, z] ∧ LstOf IntV ns y H ∧ LstOf (LstOf IntV) tb z H ∧ ns.length = L * L ∧ tb.length = L ∧ (∀ ms ∈ tb, ms.length = L ∧ ∀ m ∈ ms, -(2 ^ 64) < m ∧ m < 2 ^ 64) ∧ 1 ≤ L ∧ L ≤ 9 ∧
  ∀ (cs : List Int) y' H', Same H H' → cs.length = L * L → LstOf IntV cs y' (New H H') → Q y' H'
theorem ok__law_letters_led (T : Tx K mg d) (D : Df K mg "_law_letters_led" s__law_letters_led) (c__law_word_here : Cal P w K mg base 1 "_law_word_here" spWord []) (c__law_followed : Cal P w K mg base 1 "_law_followed" (U fun p _ => spFollow p) []) : Cal P w K mg base 2 "_law_letters_led" (U fun p _ => spLed p) [] := by
  have nd := sc__law_letters_led.nd
  refine mkCalU D sc__law_letters_led (fun p hp vs H Q E h => ?_) (fun _ _ _ _ _ _ us hl => match us, hl with | [_, _, _, _, _], _ => rfl) (fun p hp f0 cdv A outer s H vs Q E hr h => ?_)
  · obtain ⟨L, y, z, ns, tb, rfl, _⟩ := h
    rfl
  obtain ⟨L, y, z, ns, tb, rfl, hy, hz, hnl, htl, htb, hL1, hL9, k⟩ := h
  have hLL : L * L ≤ 81 := Nat.mul_le_mul hL9 hL9
  refine ⟨_, (pss_cons (ps_set (i := 5) nd rfl (Or.inl rfl) (pe_op op_rep (pe_lst (pa_cons pe_int pa_nil)) (pe_callB (call_lenK (K := K)) (by rfl) T.len (by decide +kernel) (pa_cons (pv 3) pa_nil))))
    (pss_cons (ps_for PassesOwn.never rfl (pi_enumK (K := K) rfl T.enumerate (pa_cons (pv 3) pa_nil)) (pg_tup rfl (pgs_cons (pg_name (i := 6) nd rfl (Or.inl rfl)) (pgs_cons (pg_name (i := 7) nd rfl (Or.inl rfl)) pgs_nil))) 
      (pss_one (ps_if (pt_cmpR op_ne (pv 7) pe_int (nomark _)) 
        (pss_cons (ps_set (i := 8) nd rfl (Or.inl rfl) (pe_lst (pa_cons (pv 7) pa_nil)))
        (pss_cons (ps_for PassesOwn.never rfl (pi_tupK (K := K) (pe_c c__law_word_here hr (by decide) rfl (pa_cons (pv 1) (pa_cons (pv 2) (pa_cons (pv 6) pa_nil))))) (pg_name (i := 9) nd rfl (Or.inl rfl)) 
          (pss_one (ps_set (i := 8) nd rfl (Or.inl rfl) (pe_c c__law_followed hr (by decide) rfl (pa_cons (pv 0) (pa_cons (pv 8) (pa_cons (pe_ix (ix_listK (K := K)) (pv 4) (pv 9) (fun _ _ => rfl)) pa_nil)))))))
        (pss_one (ps_setLc (own := [("_law_here", 10), ("_law_there", 11)]) (g := gTup K 2 (gCons (gName 10) (gCons (gName 11) gNil))) (tt := tYes) (i := 5) rfl nd rfl rfl (sw_true rfl rfl rfl (by decide +kernel)) (pi_zipKK (K := K) rfl T.zip (pa_cons (pv 5) (pa_cons (pv 8) pa_nil))) (blkOk_by (by kernel_rfl)) (fun _ _ _ _ _ => (pg_tup rfl (pgs_cons (pg_name (i := 10) nd rfl (Or.inl rfl)) (pgs_cons (pg_name (i := 11) nd rfl (Or.inl rfl)) pgs_nil)))) (fun _ _ _ _ _ => pts_nil) (fun _ _ _ _ _ => (pe_op op_mod (pe_op op_add (pv 10) (pv 11)) (pv 0))))))) pss_nil)))
    (pss_one (ps_ret (pv 5))))), ?_⟩
  walk_at "st"
  walk_at "go"
  refine ⟨by show 1 ≤ sizeLine; decide, fun z0 hz0 => ?_⟩
  walk_at "go"
  have ez := Same.new (o := .lst [.int 0]) hz0
  obtain ⟨yb, yys, rfl, hyb, hye⟩ := id hy
  refine ⟨yb, yys, rfl, .inl (SqL.of (ez yb _ hyb)), ?_⟩
  rw [hye.len, hnl]
  refine ⟨z0, _, _, rfl, rfl, upd_same, by omega, by omega, ?_, fun l hl0 => ?_⟩
  · rw [Int.toNat_natCast]
    have : (100000 : Nat) < sizeLine := by decide
    show 1 * (L * L) ≤ sizeLine
    omega
  rw [Int.toNat_natCast, intL_zero]
  walk_at "go"
  have el := Same.new (o := .lst (intL (L * L) fun _ => 0)) hl0
  refine r_for (r_enumL hy (Same.trans ez el) (fun QA q => by walk_at "go"; exact q) fun J ys hys wk => ?_)
  refine for_it wk (fun i σ H' => Same H H' ∧ ∃ (y5 : V) (v6 v7 v8 v9 v10 v11 : Option V) (cs : List Int), σ = [some (.int p), some (.int L), some (.int 2), some (.ref yb), some z, some y5, v6, v7, v8, v9, v10, v11] ∧ LstOf IntV cs y5 (New H H') ∧ cs.length = L * L) ?_ (fun _ _ _ _ h => h.1) ?_ ?_
  · refine ⟨Same.trans ez el, .ref l, _, _, _, _, _, _, (List.range (L * L)).map fun _ => 0, rfl, ⟨l, _, rfl, by rw [New.at_ (none_of ez hl0)]; exact upd_same, intL_each⟩, by simp⟩
  · rintro i x σ Hx H1 hi ⟨e1, y5, v6, v7, v8, v9, v10, v11, cs, rfl, hcs, hcl⟩ ⟨T0, xa, xb, rfl, hT0, rfl, hxa, hxb⟩
    cases hxa
    obtain ⟨ni, hni, rfl⟩ := hys.yet hxb
    have eT := Same.new (o := .tup [.int (i : Nat), .int ni]) hT0
    walk_at "go"
    refine r_ndec (fun hne => ?_) fun h0 => ?_
    · walk_at "go"
      refine ⟨by show 1 ≤ sizeLine; decide, fun q hq => ?_⟩
      walk_at "go"
      have e2 := Same.trans e1 (Same.trans eT (Same.new (o := .lst [.int ni]) hq))
      have hq0 := none_of (Same.trans e1 eT) hq
      have hw2 : LstOf IntV [ni] (.ref q) (upd (upd Hx T0 (.tup [.int (i : Nat), .int ni])) q (.lst [.int ni])) := ⟨q, _, rfl, upd_same, int_each (ns := [ni])⟩
      have hcs2 := Mon.mono (New.mono (Same.trans eT (Same.new (o := .lst [.int ni]) hq))) hcs
      generalize (upd (upd Hx T0 (.tup [.int (i : Nat), .int ni])) q (.lst [.int ni])) = H2 at *
      refine r_for (r_iT ?_)
      walk_at "go"
      refine ⟨L, 2, _, rfl, hL1, by omega, by omega, fun ws y3 H3 e3 hwl hwL h3 => ?_⟩
      obtain ⟨tw, wys, rfl, htw0, hwe⟩ := h3
      have htw := New.le tw _ htw0
      have hwi := each_int hwe
      have e23 := Same.trans e2 e3
      refine ⟨tw, rfl, ⟨_, .inl (.inl htw)⟩, ?_⟩
      refine for_it (walk_tup.mono (n := wys.length) (G' := fun H' => Same H3 H') (fun H' e => .inl (.inl (e tw _ htw))) fun _ _ _ _ _ _ h => h)
        (fun j σ H' => Same H3 H' ∧ ∃ (y8 : V) (v9 : Option V) (ms : List Int), σ = [some (.int p), some (.int L), some (.int 2), some (.ref yb), some z, some y5, some (.int (i : Nat)), some (.int ni), some y8, v9, v10, v11] ∧ LstOf IntV ms y8 H' ∧ ms.length = L ^ j) ?_ (fun _ _ _ _ h => h.1) ?_ ?_
      · exact ⟨Same.refl _, _, _, [ni], rfl, Mon.mono e3 hw2, by simp⟩
      · rintro j x σ Hx4 H4 hj ⟨e4, y8, v9, ms, rfl, hms, hml⟩ ⟨rfl, hx⟩
        rw [hwi, List.map_map, List.length_map] at hj
        rw [hwi, List.map_map, List.getElem?_map, List.getElem?_eq_getElem hj] at hx
        cases hx
        have hwj := hwL ws[j] (List.getElem_mem hj)
        generalize ws[j] = w0 at *
        walk_at "go"
        obtain ⟨zb, zys, rfl, hzb, hze⟩ := id hz
        obtain ⟨yt, hyt, ht⟩ := hze.get (List.getElem?_eq_getElem (show w0 < tb.length by omega))
        have e04 := Same.trans e23 e4
        refine r_ixL (SqL.of (e04 zb _ hzb)) hyt ?_
        walk_at "go"
        obtain ⟨q1, q2⟩ := htb tb[w0] (List.getElem_mem _)
        have hp1 : L ^ j * L ≤ L * L := by
          have := Nat.pow_le_pow_right hL1 (show j + 1 ≤ 2 by omega)
          rw [Nat.pow_succ, Nat.pow_two] at this
          exact this
        have hp2 : L ^ j ≤ L ^ j * L := Nat.le_mul_of_pos_right _ hL1
        refine ⟨_, _, ms, tb[w0], rfl, hms, Mon.mono e04 ht, q2, by rw [hml, q1]; omega, by rw [hml]; omega, by rw [q1]; omega, fun cs2 y9 H5 e5 hc5 h5 => ?_⟩
        walk_at "go"
        exact ⟨Same.trans e4 e5, _, _, cs2, rfl, Mon.mono New.le h5, by rw [hc5, hml, q1, Nat.pow_succ]⟩
      · rintro σ H4 ⟨e4, y8, v9, ms, rfl, hms, hml⟩
        rw [hwe.len, List.length_map, hwl, Nat.pow_two] at hml
        walk_at "go"
        have e24 := Same.trans e3 e4
        have hcs4 := Mon.mono (New.mono e24) hcs2
        refine r_lc (r_zipS (.inl (Mon.mono New.le hcs4)) (Same.refl _) (.inl hms) (fun QA q => by walk_at "go"; exact q) fun J5 ys5 zs5 hys5 hzs5 wk5 => ?_)
        rw [hcl, hml, Nat.min_self] at wk5
        refine lc_new wk5 (R := IntV) (fun _ => true) (fun j => (cs.getD j 0 + ms.getD j 0) % (p : Int)) (fun _ h => h) (by omega) (fun j x5 H5 H6 kY5 kN5 hj e5 z5 hY5 hN5 => ?_) (fun D5 H5 ys6 hD5 e5 hy6 hE6 => ?_)
        · obtain ⟨T5, xa5, xb5, rfl, hT5, rfl, hxa5, hxb5⟩ := z5
          obtain ⟨ca, hca, rfl⟩ := hys5.yet hxa5
          obtain ⟨cb, hcb, rfl⟩ := hzs5.yet hxb5
          rw [getD_some hca, getD_some hcb] at hY5
          have eT5 := Same.new (o := .tup [.int ca, .int cb]) hT5
          walk_at "lc"
          walk_at "go"
          refine ⟨rfl, ?_⟩
          walk_at "go"
          exact hY5 _ _ rfl eT5 rfl
        · rw [tk_all] at hE6
          walk_at "go"
          have e04 := Same.trans e23 e4
          exact ⟨Same.trans e04 e5, .ref D5, _, _, _, _, _, _, _, rfl, Mon.mono (New.anti e04) (lst_new hD5 hy6 hE6), by simp⟩
    · walk_at "go"
      exact ⟨Same.trans e1 eT, y5, _, _, _, _, _, _, cs, rfl, Mon.mono (New.mono eT) hcs, hcl⟩
  · rintro σ H1 ⟨e1, y5, v6, v7, v8, v9, v10, v11, cs, rfl, hcs, hcl⟩
    walk_at "go"
    exact k cs y5 H1 e1 hcl hcs
end
section
variable {P : Program} {w : World} {K : PySem.W.Frag} {mg : Str → Option Value} {base : Heap} {d : Ad} {p : Nat} [Pr p]
/-! ### rows that are written in place -/
def GoodR (p n : Nat) (H : Hp) (a : Addr) : Prop := ∃ ns : List Int, H a = some (.lst (ns.map V.int)) ∧ ns.length = n ∧ ∀ x ∈ ns, 0 ≤ x ∧ x < (p : Int)
structure Rws (H0 : Hp) (p n : Nat) (H : Hp) (o : Addr) (os : List Addr) : Prop where
  new : H0 o = none
  at_ : H o = some (.lst (os.map V.ref))
  len : os.length = n
  row : ∀ a ∈ os, H0 a = none ∧ GoodR p n H a
theorem Rws.ne {H0 H : Hp} {p n : Nat} {o a : Addr} {os : List Addr} (hn : 1 ≤ n) (h : Rws H0 p n H o os) (g : GoodR p n H a) : o ≠ a := fun e => by
  subst e
  obtain ⟨ns, h1, h2, _⟩ := g
  rw [h.at_] at h1
  have h3 : os.map V.ref = ns.map V.int := HO.lst.inj (Option.some.inj h1)
  have hl := h.len
  cases os with
  | nil => simp at hl; omega
  | cons a r =>
    cases ns with
    | nil => simp at h2; omega
    | cons b s => simp at h3
theorem Rws.keep {D : Drw} {H0 H H1 : Hp} {p n : Nat} {o : Addr} {os : List Addr} (hd : DrawV D H0) (f : Fr D H H1) (h : Rws H0 p n H o os) : Rws H0 p n H1 o os :=
  ⟨h.new, f.keep hd h.new h.at_, h.len, fun a ha => ⟨(h.row a ha).1, let ⟨ns, h1, h2, h3⟩ := (h.row a ha).2; ⟨ns, f.keep hd (h.row a ha).1 h1, h2, h3⟩⟩⟩
/-- a row is written -/
theorem Rws.store {H0 H : Hp} {p n : Nat} {o a : Addr} {os : List Addr} {ms : List Int} (hn : 1 ≤ n) (h : Rws H0 p n H o os) (g : GoodR p n H a) (hl : ms.length = n) (hm : ∀ x ∈ ms, 0 ≤ x ∧ x < (p : Int)) : Rws H0 p n (upd H a (.lst (ms.map V.int))) o os :=
  ⟨h.new, by rw [upd_ne (h.ne hn g)]; exact h.at_, h.len, fun b hb => ⟨(h.row b hb).1, by
    by_cases e : b = a
    · subst e; exact ⟨ms, upd_same, hl, hm⟩
    · obtain ⟨ns, h1, h2⟩ := (h.row b hb).2
      exact ⟨ns, by rw [upd_ne e]; exact h1, h2⟩⟩⟩
/-- a row is put in -/
theorem Rws.put {H0 H : Hp} {p n : Nat} {o b q : Addr} {os bs : List Addr} {k : Nat} (hn : 1 ≤ n) (h : Rws H0 p n H o os) (hb : Rws H0 p n H b bs) (hq0 : H0 q = none) (hq : GoodR p n H q) :
    Rws H0 p n (upd H o (.lst ((os.set k q).map V.ref))) o (os.set k q) ∧ ∃ bs', Rws H0 p n (upd H o (.lst ((os.set k q).map V.ref))) b bs' := by
  have good : ∀ a, GoodR p n H a → GoodR p n (upd H o (.lst ((os.set k q).map V.ref))) a := fun a ⟨ns, h1, h2⟩ => ⟨ns, by rw [upd_ne (h.ne hn ⟨ns, h1, h2⟩).symm]; exact h1, h2⟩
  have h1 : Rws H0 p n (upd H o (.lst ((os.set k q).map V.ref))) o (os.set k q) := ⟨h.new, upd_same, by rw [List.length_set]; exact h.len, fun a ha => by
    rcases List.mem_or_eq_of_mem_set ha with ha | rfl
    · exact ⟨(h.row a ha).1, good a (h.row a ha).2⟩
    · exact ⟨hq0, good _ hq⟩⟩
  refine ⟨h1, ?_⟩
  by_cases e : b = o
  · subst e; exact ⟨_, h1⟩
  · exact ⟨bs, hb.new, by rw [upd_ne e]; exact hb.at_, hb.len, fun a ha => ⟨(hb.row a ha).1, good a (hb.row a ha).2⟩⟩
theorem Rws.lst {H0 H : Hp} {p n : Nat} {o : Addr} {os : List Addr} (h : Rws H0 p n H o os) : ∃ nss : List (List Int), nss.length = n ∧ (∀ ns ∈ nss, ns.length = n ∧ ∀ x ∈ ns, 0 ≤ x ∧ x < (p : Int)) ∧ LstOf (LstOf IntV) nss (.ref o) (New H0 H) := by
  have key : ∀ os : List Addr, (∀ a ∈ os, H0 a = none ∧ GoodR p n H a) → ∃ nss : List (List Int), (∀ ns ∈ nss, ns.length = n ∧ ∀ x ∈ ns, 0 ≤ x ∧ x < (p : Int)) ∧ Each (LstOf IntV) nss (os.map V.ref) (New H0 H) := by
    intro os
    induction os with
    | nil => intro _; exact ⟨[], fun ns h => absurd h (by simp), Each.nil⟩
    | cons a r ih =>
      intro hh
      obtain ⟨nss, h1, h2⟩ := ih fun b hb => hh b (List.mem_cons_of_mem _ hb)
      obtain ⟨ha, ns, q1, q2, q3⟩ := hh a List.mem_cons_self
      refine ⟨ns :: nss, fun x hx => ?_, h2.cons ⟨a, _, rfl, by rw [New.at_ ha]; exact q1, int_each⟩⟩
      rcases List.mem_cons.mp hx with rfl | hx
      · exact ⟨q2, q3⟩
      · exact h1 x hx
  obtain ⟨nss, h1, h2⟩ := key os h.row
  refine ⟨nss, ?_, h1, o, _, rfl, by rw [New.at_ h.new]; exact h.at_, h2⟩
  have := h2.len
  rw [List.length_map, h.len] at this
  exact this.symm
/-- rows of units -/
theorem rws_of {H0 H : Hp} {n : Nat} {o : Addr} {ys : List V} (h0 : H0 o = none) (ho : H o = some (.lst ys)) {nss : List (List Int)} (hl : nss.length = n) (hg : ∀ ns ∈ nss, ns.length = n ∧ ∀ x ∈ ns, 0 ≤ x ∧ x < (p : Int)) (h : Each (LstOf IntV) nss ys (New H0 H)) : ∃ os, Rws H0 p n H o os := by
  have key : ∀ (nss : List (List Int)) (ys : List V), Each (LstOf IntV) nss ys (New H0 H) → (∀ ns ∈ nss, ns.length = n ∧ ∀ x ∈ ns, 0 ≤ x ∧ x < (p : Int)) → ∃ os : List Addr, ys = os.map V.ref ∧ ∀ a ∈ os, H0 a = none ∧ GoodR p n H a := by
    intro nss
    induction nss with
    | nil =>
      intro ys h _
      have := h.len
      exact ⟨[], List.length_eq_zero_iff.mp this, fun a ha => by cases ha⟩
    | cons ns r ih =>
      intro ys h hg
      cases ys with
      | nil => have := h.len; simp at this
      | cons y yr =>
        obtain ⟨os, rfl, ho⟩ := ih yr ⟨by have := h.len; simpa using this, fun i f y h1 h2 => h.at_ (i + 1) f y h1 h2⟩ fun x hx => hg x (List.mem_cons_of_mem _ hx)
        obtain ⟨b, zs, rfl, hb, hz⟩ := h.at_ 0 ns y rfl rfl
        refine ⟨b :: os, rfl, fun a ha => ?_⟩
        rcases List.mem_cons.mp ha with rfl | ha
        · refine ⟨New.old hb, ns, ?_, (hg ns List.mem_cons_self).1, (hg ns List.mem_cons_self).2⟩
          rw [New.le _ _ hb, each_int hz]
        · exact ho a ha
  obtain ⟨os, rfl, hos⟩ := key nss ys h hg
  refine ⟨os, h0, ho, ?_, hos⟩
  have := h.len
  rw [List.length_map] at this
  omega
theorem sng_ok {n s : Nat} : (sngI n s).length = n ∧ ∀ x ∈ sngI n s, 0 ≤ x ∧ x < (p : Int) := by
  unfold sngI
  have := Pr.ge (p := p)
  refine ⟨by simp, fun x hx => ?_⟩
  obtain ⟨k, _, rfl⟩ := List.mem_map.mp hx
  split <;> omega
theorem r_nxD {n b c : L2.St → Hp → Prop} {r : VK} {σ : L2.St} {H : Hp} (h : n σ H) : Ends.nx { nx := n, rt := r, bk := b, ct := c } σ H := h
theorem GoodR.lst {p n : Nat} {H : Hp} {a : Addr} (h : GoodR p n H a) : ∃ ns : List Int, ns.length = n ∧ (∀ x ∈ ns, 0 ≤ x ∧ x < (p : Int)) ∧ H a = some (.lst (ns.map V.int)) ∧ LstOf IntV ns (.ref a) H :=
  let ⟨ns, h1, h2, h3⟩ := h; ⟨ns, h2, h3, h1, a, _, rfl, h1, int_each⟩
theorem Rws.get {H0 H : Hp} {p n : Nat} {o : Addr} {os : List Addr} (h : Rws H0 p n H o os) {i : Nat} (hi : i < n) : ∃ a, os[i]? = some a ∧ (os.map V.ref)[i]? = some (.ref a) ∧ H0 a = none ∧ GoodR p n H a := by
  have hl : i < os.length := by rw [h.len]; exact hi
  have e := List.getElem?_eq_getElem hl
  obtain ⟨h1, h2⟩ := h.row _ (List.getElem_mem hl)
  exact ⟨_, e, by rw [List.getElem?_map, e]; rfl, h1, h2⟩
theorem good_of {p n : Nat} {H : Hp} {a : Addr} {ys : List V} {F : Nat → Int} {Hb : Hp} (h : H a = some (.lst ys)) (he : Each IntV ((List.range n).map F) ys Hb) (hF : ∀ j, 0 ≤ F j ∧ F j < (p : Int)) : GoodR p n H a :=
  ⟨_, by rw [h, each_int he], by simp, fun x hx => by obtain ⟨j, _, rfl⟩ := List.mem_map.mp hx; exact hF j⟩
abbrev s__law_whole : Stmt := top 70
theorem sc__law_whole : FnScope ["_law_draw", "_law_field_here", "_law_size", "_law_k", "_law_one", "_law_back", "_law_lap", "_law_spot", "_law_many_here", "_law_row", "_law_less", "_law_item", "_law_here", "_law_there"] ["_law_draw", "_law_field_here", "_law_size"] (defScope s__law_whole) := ⟨rfl, rfl, rfl, by decide +kernel, rfl, by decide +kernel, by decide +kernel⟩
def spLWhole (p : Nat) [Pr p] : Sp := fun vs H Q _ => ∃ (D : Drw) (n : Nat), vs = [.ref D.a, .int p, .int n] ∧ DrawV D H ∧ 1 ≤ n ∧ n ≤ 9 ∧
  ∀ (nss : List (List Int)) t y1 y2 H', Fr D H H' → H' t = some (.tup [y1, y2]) → nss.length = n → (∀ ns ∈ nss, ns.length = n ∧ ∀ x ∈ ns, 0 ≤ x ∧ x < (p : Int)) → LstOf (LstOf IntV) nss y1 (New H H') → Q (.ref t) H'
theorem ok__law_whole (T : Tx K mg d) (D : Df K mg "_law_whole" s__law_whole) (c__law_take : Cal P w K mg base 2 "_law_take" spTake []) (c__law_single : Cal P w K mg base 1 "_law_single" spSingle []) (c__law_undone : Cal P w K mg base 1 "_law_undone" (U fun p _ => spLUndone p) []) : Cal P w K mg base 3 "_law_whole" (U fun p _ => spLWhole p) [] := by
  have nd := sc__law_whole.nd
  refine mkCalU D sc__law_whole (fun p hp vs H Q E h => ?_) (fun _ _ _ _ _ _ us hl => match us, hl with | [_, _, _], _ => rfl) (fun p hp f0 cdv A outer s H vs Q E hr h => ?_)
  · obtain ⟨D, n, rfl, _⟩ := h
    rfl
  obtain ⟨D, n, rfl, hd, hn1, hn9, k⟩ := h
  have hp1 := Pr.ge (p := p)
  have hp2 := Pr.le (p := p)
  refine ⟨_, (pss_cons (ps_par (i := 4) (j := 5) rfl nd rfl rfl (by decide) rfl rfl (pa_cons (pe_lc (own := [("_law_k", 3)]) (g := gName 3) (tt := tYes) rfl nd (pi_range1 rfl T.range (pa_cons (pv 2) pa_nil)) (blkOk_by (by kernel_rfl)) (fun _ _ _ _ _ => (pg_name (i := 3) nd rfl (Or.inl rfl))) (fun _ _ _ _ _ => pts_nil) (fun _ _ _ _ _ => (pe_c c__law_single hr (by decide) rfl (pa_cons (pv 2) (pa_cons (pv 3) pa_nil))))) (pa_cons (pe_lc (own := [("_law_k", 3)]) (g := gName 3) (tt := tYes) rfl nd (pi_range1 rfl T.range (pa_cons (pv 2) pa_nil)) (blkOk_by (by kernel_rfl)) (fun _ _ _ _ _ => (pg_name (i := 3) nd rfl (Or.inl rfl))) (fun _ _ _ _ _ => pts_nil) (fun _ _ _ _ _ => (pe_c c__law_single hr (by decide) rfl (pa_cons (pv 2) (pa_cons (pv 3) pa_nil))))) pa_nil)) (by rfl))
    (pss_cons (ps_for PassesOwn.never rfl (pi_range1 rfl T.range (pa_cons (pe_ifExp (pt_cmpR op_gt (pv 2) pe_int (nomark _)) (pe_op op_mul pe_int (pv 2)) pe_int) pa_nil)) (pg_name (i := 6) nd rfl (Or.inl rfl)) 
      (pss_cons (ps_asg (pe_tup (pa_cons (pe_c c__law_take hr (by decide) rfl (pa_cons (pv 0) (pa_cons (pv 2) pa_nil))) (pa_cons (pe_c c__law_take hr (by decide) rfl (pa_cons (pv 0) (pa_cons (pv 2) pa_nil))) (pa_cons (pe_c c__law_take hr (by decide) rfl (pa_cons (pv 0) (pa_cons (pv 1) pa_nil))) pa_nil)))) (pg_tup rfl (pgs_cons (pg_name (i := 3) nd rfl (Or.inl rfl)) (pgs_cons (pg_name (i := 7) nd rfl (Or.inl rfl)) (pgs_cons (pg_name (i := 8) nd rfl (Or.inr rfl)) pgs_nil)))))
      (pss_one (ps_if (pt_cmpR op_ne (pv 3) (pv 7) (nomark _)) 
        (pss_cons (ps_asg (pe_lc (own := [("_law_here", 12), ("_law_there", 13)]) (g := gTup K 2 (gCons (gName 12) (gCons (gName 13) gNil))) (tt := tYes) rfl nd (pi_zipKK (K := K) rfl T.zip (pa_cons (pe_ix (ix_listK (K := K)) (pv 4) (pv 3) (fun _ _ => rfl)) (pa_cons (pe_ix (ix_listK (K := K)) (pv 4) (pv 7) (fun _ _ => rfl)) pa_nil))) (blkOk_by (by kernel_rfl)) (fun _ _ _ _ _ => (pg_tup rfl (pgs_cons (pg_name (i := 12) nd rfl (Or.inl rfl)) (pgs_cons (pg_name (i := 13) nd rfl (Or.inl rfl)) pgs_nil)))) (fun _ _ _ _ _ => pts_nil) (fun _ _ _ _ _ => (pe_op op_mod (pe_op op_add (pv 12) (pe_op op_mul (pv 8) (pv 13))) (pv 1)))) (pg_sub (pv 4) (pv 3) set_list))
        (pss_one (ps_for PassesOwn.never rfl (pi_listK (K := K) (pv 5)) (pg_name (i := 9) nd rfl (Or.inl rfl)) 
          (pss_cons (ps_set (i := 10) nd rfl (Or.inl rfl) (pe_op op_sub (pe_ix (ix_listK (K := K)) (pv 9) (pv 7) (fun _ _ => rfl)) (pe_op op_mul (pv 8) (pe_ix (ix_listK (K := K)) (pv 9) (pv 3) (fun _ _ => rfl)))))
          (pss_one (ps_asg (pe_op op_mod (pv 10) (pv 1)) (pg_sub (pv 9) (pv 7) set_list))))))) pss_nil))))
    (pss_cons (ps_for PassesOwn.never rfl (pi_range1 rfl T.range (pa_cons (pv 2) pa_nil)) (pg_name (i := 3) nd rfl (Or.inl rfl)) 
      (pss_cons (ps_set (i := 8) nd rfl (Or.inr rfl) (pe_op op_add pe_int (pe_c c__law_take hr (by decide) rfl (pa_cons (pv 0) (pa_cons (pe_op op_sub (pv 1) pe_int) pa_nil)))))
      (pss_cons (ps_asg (pe_lc (own := [("_law_item", 11)]) (g := gName 11) (tt := tYes) rfl nd (pi_listK (K := K) (pe_ix (ix_listK (K := K)) (pv 4) (pv 3) (fun _ _ => rfl))) (blkOk_by (by kernel_rfl)) (fun _ _ _ _ _ => (pg_name (i := 11) nd rfl (Or.inl rfl))) (fun _ _ _ _ _ => pts_nil) (fun _ _ _ _ _ => (pe_op op_mod (pe_op op_mul (pv 8) (pv 11)) (pv 1)))) (pg_sub (pv 4) (pv 3) set_list))
      (pss_cons (ps_set (i := 10) nd rfl (Or.inl rfl) (pe_c c__law_undone hr (by decide) rfl (pa_cons (pv 1) (pa_cons (pv 8) pa_nil))))
      (pss_one (ps_for PassesOwn.never rfl (pi_listK (K := K) (pv 5)) (pg_name (i := 9) nd rfl (Or.inl rfl)) 
        (pss_one (ps_asg (pe_op op_mod (pe_op op_mul (pv 10) (pe_ix (ix_listK (K := K)) (pv 9) (pv 3) (fun _ _ => rfl))) (pv 1)) (pg_sub (pv 9) (pv 3) set_list)))))))))
    (pss_one (ps_ret (pe_tup (pa_cons (pv 4) (pa_cons (pv 5) pa_nil)))))))), ?_⟩
  walk_at "st"
  walk_at "go"
  refine r_lc (r_rng n (by omega) (fun QA q => by walk_at "go"; exact q) fun J wk => ?_)
  refine lc_new wk (R := LstOf IntV) (fun _ => true) (fun i => sngI n i) (fun _ _ => trivial) (by omega) (fun i x H1 H2 kY kN hi e z hY hN => ?_) (fun o H1 ys1 ho e1 hy1 hE1 => ?_)
  · obtain ⟨rfl, rfl⟩ := z
    walk_at "lc"
    walk_at "go"
    refine ⟨rfl, ?_⟩
    walk_at "go"
    exact ⟨n, i, rfl, by omega, fun y' H' e' h' => hY _ _ rfl e' h'⟩
  walk_at "go"
  refine r_lc (r_rng n (by omega) (fun QA q => by walk_at "go"; exact q) fun J2 wk2 => ?_)
  refine lc_new wk2 (R := LstOf IntV) (fun _ => true) (fun i => sngI n i) (fun _ _ => trivial) (by omega) (fun i x H2 H3 kY kN hi e z hY hN => ?_) (fun b H2 ys2 hb e2 hy2 hE2 => ?_)
  · obtain ⟨rfl, rfl⟩ := z
    walk_at "lc"
    walk_at "go"
    refine ⟨rfl, ?_⟩
    walk_at "go"
    exact ⟨n, i, rfl, by omega, fun y' H' e' h' => hY _ _ rfl e' h'⟩
  walk_at "go"
  have e02 := Same.trans e1 e2
  rw [tk_all] at hE1 hE2
  have hsg : ∀ ns ∈ (List.range n).map (fun i => sngI n i), ns.length = n ∧ ∀ x ∈ ns, 0 ≤ x ∧ x < (p : Int) := fun ns hm => by obtain ⟨i, _, rfl⟩ := List.mem_map.mp hm; exact sng_ok
  obtain ⟨os0, R1⟩ := rws_of (p := p) (n := n) ho (e2 o _ hy1) (by simp) hsg (hE1.mono (New.mono e2))
  obtain ⟨bs0, R2⟩ := rws_of (p := p) (n := n) (none_of e1 hb) hy2 (by simp) hsg (hE2.mono (New.anti e1))
  have f0 : Fr D H H2 := Fr.of hd e02
  clear hE1 hE2 hy1 hy2 e1 e2 hsg
  refine r_for (r_rng (if 1 < n then 2 * n else 0) (by split <;> omega) (fun QA q => ?_) fun J3 wk3 => ?_)
  · walk_at "go"
    refine r_dec (fun z => ?_) fun z => ?_
    · have e9 : (if 1 < n then 2 * n else 0) = 2 * n := if_pos (by omega)
      rw [e9] at q
      walk_at "go"
      exact q
    · have e9 : (if 1 < n then 2 * n else 0) = 0 := if_neg (by omega)
      rw [e9] at q
      walk_at "go"
      exact q
  refine for_it wk3 (fun i σ H' => Fr D H H' ∧ ∃ (v3 v6 v7 v8 v9 v10 v11 v12 v13 : Option V), σ = [some (.ref D.a), some (.int p), some (.int n), v3, some (.ref o), some (.ref b), v6, v7, v8, v9, v10, v11, v12, v13] ∧ (∃ os, Rws H p n H' o os) ∧ ∃ bs, Rws H p n H' b bs) ?_ (fun _ _ _ _ _ => trivial) ?_ ?_
  · exact ⟨f0, _, _, _, _, _, _, _, _, _, rfl, ⟨os0, R1⟩, bs0, R2⟩
  · clear R1 R2 f0
    rintro i x σ Hx H3 hi ⟨f3, v3, v6, v7, v8, v9, v10, v11, v12, v13, rfl, ⟨os, R1⟩, bs, R2⟩ ⟨rfl, rfl⟩
    walk_at "go"
    refine ⟨D, n, rfl, f3.dr, hn1, by omega, fun i1 H4 hi1 f4 => ?_⟩
    walk_at "go"
    refine ⟨D, n, rfl, f4.dr, hn1, by omega, fun i2 H5 hi2 f5 => ?_⟩
    walk_at "go"
    refine ⟨D, p, rfl, f5.dr, by omega, by omega, fun i3 H6 hi3 f6 => ?_⟩
    walk_at "go"
    refine ⟨by show 3 ≤ sizeLine; decide, fun t ht => ?_⟩
    have f7 := (f4.trans (f5.trans f6)).trans (Fr.of f6.dr (Same.new (o := .tup [.int (i1 : Nat), .int (i2 : Nat), .int (i3 : Nat)]) ht))
    have f37 := f3.trans f7
    have S1 := R1.keep hd f7
    have S2 := R2.keep hd f7
    clear R1 R2 f4 f5 f6 f7 f3
    have hT7 : (upd H6 t (.tup [.int (i1 : Nat), .int (i2 : Nat), .int (i3 : Nat)])) t = some (.tup [.int (i1 : Nat), .int (i2 : Nat), .int (i3 : Nat)]) := upd_same
    generalize (upd H6 t (.tup [.int (i1 : Nat), .int (i2 : Nat), .int (i3 : Nat)])) = H7 at *
    walk_at "go"
    refine r_gtupH hT7 rfl ?_
    walk_at "go"
    refine r_ndec (fun hne => ?_) fun heq => ?_
    · obtain ⟨a1, ha1, hm1, hn1', hg1⟩ := S1.get hi1
      obtain ⟨a2, ha2, hm2, hn2', hg2⟩ := S1.get hi2
      obtain ⟨ns1, hl1, hb1, hh1, hL1⟩ := hg1.lst
      obtain ⟨ns2, hl2, hb2, hh2, hL2⟩ := hg2.lst
      walk_at "go"
      refine r_lc (r_zipS (.inl hL1) (Same.refl _) (.inl hL2) (fun QA q => ?_) fun J5 ys5 zs5 hys5 hzs5 wk5 => ?_)
      · walk_at "go"
        refine r_ixL (SqL.of S1.at_) hm1 ?_
        walk_at "go"
        refine r_ixL (SqL.of S1.at_) hm2 ?_
        walk_at "go"
        exact q
      rw [hl1, hl2, Nat.min_self] at wk5
      refine lc_new wk5 (R := IntV) (fun _ => true) (fun j => (ns1.getD j 0 + (i3 : Nat) * ns2.getD j 0) % (p : Int)) (fun _ h => h) (by omega) (fun j x5 H8 H9 kY5 kN5 hj e5 z5 hY5 hN5 => ?_) (fun q5 H8 ys6 hq5 e5 hy6 hE6 => ?_)
      · obtain ⟨T5, xa5, xb5, rfl, hT5, rfl, hxa5, hxb5⟩ := z5
        obtain ⟨ca, hca, rfl⟩ := hys5.yet hxa5
        obtain ⟨cb, hcb, rfl⟩ := hzs5.yet hxb5
        rw [getD_some hca, getD_some hcb] at hY5
        have eT5 := Same.new (o := .tup [.int ca, .int cb]) hT5
        walk_at "lc"
        walk_at "go"
        refine ⟨rfl, ?_⟩
        walk_at "go"
        exact hY5 _ _ rfl eT5 rfl
      rw [tk_all] at hE6
      walk_at "go"
      have f8 := Fr.of f37.dr e5
      have f38 := f37.trans f8
      have U1 := S1.keep hd f8
      have U2 := S2.keep hd f8
      have hq0 : H q5 = none := f37.none hd hq5
      have hqg : GoodR p n H8 q5 := good_of hy6 hE6 fun j => ⟨Int.emod_nonneg _ (by omega), Int.emod_lt_of_pos _ (by omega)⟩
      refine r_set U1.at_ (by rw [List.length_map, U1.len]; exact hi1) ?_
      have hset : (os.map V.ref).set i1 (.ref q5) = (os.set i1 q5).map V.ref := by rw [List.map_set]
      rw [hset]
      obtain ⟨W1, bs2, W2⟩ := U1.put (k := i1) hn1 U2 hq0 hqg
      have f39 := Fr.mut (o := .lst ((os.set i1 q5).map V.ref)) hd f38 U1.new
      generalize (upd H8 o (.lst ((os.set i1 q5).map V.ref))) = H9 at *
      refine r_nxD ?_
      refine r_for (r_iL ?_)
      walk_at "go"
      refine ⟨b, rfl, ⟨_, SqL.of W2.at_⟩, ?_⟩
      refine for_it (walk_list.mono (n := (bs2.map V.ref).length) (G' := fun H' => H' b = some (.lst (bs2.map V.ref))) (fun H' e => SqL.of e) fun _ _ _ _ _ _ h => h)
        (fun j σ H' => Fr D H H' ∧ ∃ (v9 v10 v11 v12 v13 : Option V), σ = [some (.ref D.a), some (.int p), some (.int n), some (.int (i1 : Nat)), some (.ref o), some (.ref b), some (.int (i : Nat)), some (.int (i2 : Nat)), some (.int (i3 : Nat)), v9, v10, v11, v12, v13] ∧ Rws H p n H' o (os.set i1 q5) ∧ Rws H p n H' b bs2) ?_ (fun _ _ _ _ h => let ⟨_, _, _, _, _, _, _, _, r⟩ := h; r.at_) ?_ ?_
      · exact ⟨f39, _, _, _, _, _, rfl, W1, W2⟩
      · rintro j x σ Hy H10 hj ⟨f10, v9, v10, v11, v12, v13, rfl, X1, X2⟩ ⟨rfl, hx⟩
        rw [List.getElem?_map] at hx
        cases hbj : bs2[j]? with
        | none => rw [hbj] at hx; cases hx
        | some a =>
          rw [hbj] at hx
          cases hx
          obtain ⟨ha0, hag⟩ := X2.row a (List.mem_of_getElem? hbj)
          obtain ⟨ns, hnl, hnb, hna, _⟩ := hag.lst
          have g1 : (ns.map V.int)[i2]? = some (.int ns[i2]) := by rw [List.getElem?_map, List.getElem?_eq_getElem (by omega)]; rfl
          have g2 : (ns.map V.int)[i1]? = some (.int ns[i1]) := by rw [List.getElem?_map, List.getElem?_eq_getElem (by omega)]; rfl
          walk_at "go"
          refine r_ixL (SqL.of hna) g1 ?_
          walk_at "go"
          refine r_ixL (SqL.of hna) g2 ?_
          walk_at "go"
          refine r_set hna (by rw [List.length_map, hnl]; exact hi2) ?_
          have hz0 := Int.emod_nonneg (ns[i2] - (i3 : Nat) * ns[i1]) (show (p : Int) ≠ 0 by omega)
          have hz1 := Int.emod_lt_of_pos (ns[i2] - (i3 : Nat) * ns[i1]) (show (0 : Int) < (p : Int) by omega)
          generalize (ns[i2] - (i3 : Nat) * ns[i1]) % (p : Int) = z at *
          have hset2 : (ns.map V.int).set i2 (.int z) = (ns.set i2 z).map V.int := by rw [List.map_set]
          rw [hset2]
          have hsm : ∀ x ∈ ns.set i2 z, 0 ≤ x ∧ x < (p : Int) := fun x hx => by
            rcases List.mem_or_eq_of_mem_set hx with hx | rfl
            · exact hnb x hx
            · exact ⟨hz0, hz1⟩
          exact ⟨Fr.mut hd f10 ha0, _, _, _, _, _, rfl, X1.store hn1 hag (by rw [List.length_set]; exact hnl) hsm, X2.store hn1 hag (by rw [List.length_set]; exact hnl) hsm⟩
      · rintro σ H10 ⟨f10, v9, v10, v11, v12, v13, rfl, X1, X2⟩
        exact ⟨f10, _, _, _, _, _, _, _, _, _, rfl, ⟨_, X1⟩, _, X2⟩
    · walk_at "go"
      exact ⟨f37, _, _, _, _, _, _, _, _, _, rfl, ⟨os, S1⟩, bs, S2⟩
  · clear R1 R2 f0
    rintro σ H3 ⟨f3, v3, v6, v7, v8, v9, v10, v11, v12, v13, rfl, ⟨os, R1⟩, bs, R2⟩
    walk_at "go"
    refine r_for (r_rng n (by omega) (fun QA q => by walk_at "go"; exact q) fun J4 wk4 => ?_)
    refine for_it wk4 (fun i σ H' => Fr D H H' ∧ ∃ (v3 v6 v7 v8 v9 v10 v11 v12 v13 : Option V), σ = [some (.ref D.a), some (.int p), some (.int n), v3, some (.ref o), some (.ref b), v6, v7, v8, v9, v10, v11, v12, v13] ∧ (∃ os, Rws H p n H' o os) ∧ ∃ bs, Rws H p n H' b bs) ?_ (fun _ _ _ _ _ => trivial) ?_ ?_
    · exact ⟨f3, _, _, _, _, _, _, _, _, _, rfl, ⟨os, R1⟩, bs, R2⟩
    · clear R1 R2 f3
      rintro i x σ Hx H3 hi ⟨f3, v3, v6, v7, v8, v9, v10, v11, v12, v13, rfl, ⟨os, R1⟩, bs, R2⟩ ⟨rfl, rfl⟩
      walk_at "go"
      rw [show ((p : Nat) : Int) - 1 = ((p - 1 : Nat) : Int) by omega]
      refine ⟨D, p - 1, rfl, f3.dr, by omega, by omega, fun i1 H4 hi1 f4 => ?_⟩
      have f04 := f3.trans f4
      have S1 := R1.keep hd f4
      have S2 := R2.keep hd f4
      clear R1 R2 f3 f4
      walk_at "go"
      rw [show (1 : Int) + (i1 : Nat) = ((1 + i1 : Nat) : Int) by omega]
      have hm0 : (md ((1 + i1 : Nat) : Int) : Fin p) ≠ 0 := fun z => by
        have := md_eq_zero.mp z
        rw [Int.emod_eq_of_lt (by omega) (by omega)] at this
        omega
      have hmi : 1 + i1 < p := by omega
      generalize 1 + i1 = m at *
      obtain ⟨a1, ha1, hm1, hn1', hg1⟩ := S1.get hi
      obtain ⟨ns1, hl1, hb1, hh1, hL1⟩ := hg1.lst
      walk_at "go"
      refine r_lc (r_itL hL1 (Same.refl _) (fun Q q => ?_) fun J5 ys5 hys5 wk5 => ?_)
      · walk_at "go"
        refine r_ixL (SqL.of S1.at_) hm1 ?_
        exact q
      rw [hl1] at wk5
      refine lc_new wk5 (R := IntV) (fun _ => true) (fun j => ((m : Nat) * ns1.getD j 0) % (p : Int)) (fun _ h => h) (by omega) (fun j x5 H8 H9 kY5 kN5 hj e5 z5 hY5 hN5 => ?_) (fun q5 H8 ys6 hq5 e5 hy6 hE6 => ?_)
      · obtain ⟨rfl, hxa5⟩ := z5
        obtain ⟨ca, hca, rfl⟩ := hys5.yet hxa5
        rw [getD_some hca] at hY5
        walk_at "lc"
        walk_at "go"
        refine ⟨rfl, ?_⟩
        walk_at "go"
        exact hY5 _ _ rfl (Same.refl _) rfl
      rw [tk_all] at hE6
      walk_at "go"
      have f8 := Fr.of f04.dr e5
      have f38 := f04.trans f8
      have U1 := S1.keep hd f8
      have U2 := S2.keep hd f8
      have hq0 : H q5 = none := f04.none hd hq5
      have hqg : GoodR p n H8 q5 := good_of hy6 hE6 fun j => ⟨Int.emod_nonneg _ (by omega), Int.emod_lt_of_pos _ (by omega)⟩
      refine r_set U1.at_ (by rw [List.length_map, U1.len]; exact hi) ?_
      have hset : (os.map V.ref).set i (.ref q5) = (os.set i q5).map V.ref := by rw [List.map_set]
      rw [hset]
      obtain ⟨W1, bs2, W2⟩ := U1.put (k := i) hn1 U2 hq0 hqg
      have f39 := Fr.mut (o := .lst ((os.set i q5).map V.ref)) hd f38 U1.new
      generalize (upd H8 o (.lst ((os.set i q5).map V.ref))) = H9 at *
      walk_at "go"
      refine ⟨(m : Nat), rfl, hm0, by omega, fun z H10 e10 hz => ?_⟩
      have f10 := Fr.of f39.dr e10
      have f310 := f39.trans f10
      have X1 := W1.keep hd f10
      have X2 := W2.keep hd f10
      clear U1 U2 S1 S2 W1 W2
      walk_at "go"
      refine r_for (r_iL ?_)
      walk_at "go"
      refine ⟨b, rfl, ⟨_, SqL.of X2.at_⟩, ?_⟩
      refine for_it (walk_list.mono (n := (bs2.map V.ref).length) (G' := fun H' => H' b = some (.lst (bs2.map V.ref))) (fun H' e => SqL.of e) fun _ _ _ _ _ _ h => h)
        (fun j σ H' => Fr D H H' ∧ ∃ (v9 v11 v12 v13 : Option V), σ = [some (.ref D.a), some (.int p), some (.int n), some (.int (i : Nat)), some (.ref o), some (.ref b), v6, v7, some (.int (m : Nat)), v9, some (.int (iv z)), v11, v12, v13] ∧ Rws H p n H' o (os.set i q5) ∧ Rws H p n H' b bs2) ?_ (fun _ _ _ _ h => let ⟨_, _, _, _, _, _, _, r⟩ := h; r.at_) ?_ ?_
      · exact ⟨f310, _, _, _, _, rfl, X1, X2⟩
      · clear X1 X2
        rintro j x σ Hy H10 hj ⟨f10, v9, v11, v12, v13, rfl, X1, X2⟩ ⟨rfl, hx⟩
        rw [List.getElem?_map] at hx
        cases hbj : bs2[j]? with
        | none => rw [hbj] at hx; cases hx
        | some a =>
          rw [hbj] at hx
          cases hx
          obtain ⟨ha0, hag⟩ := X2.row a (List.mem_of_getElem? hbj)
          obtain ⟨ns, hnl, hnb, hna, _⟩ := hag.lst
          have g1 : (ns.map V.int)[i]? = some (.int ns[i]) := by rw [List.getElem?_map, List.getElem?_eq_getElem (by omega)]; rfl
          walk_at "go"
          refine r_ixL (SqL.of hna) g1 ?_
          walk_at "go"
          refine r_set hna (by rw [List.length_map, hnl]; exact hi) ?_
          have hz0 := Int.emod_nonneg (iv z * ns[i]) (show (p : Int) ≠ 0 by omega)
          have hz1 := Int.emod_lt_of_pos (iv z * ns[i]) (show (0 : Int) < (p : Int) by omega)
          generalize (iv z * ns[i]) % (p : Int) = z2 at *
          have hset2 : (ns.map V.int).set i (.int z2) = (ns.set i z2).map V.int := by rw [List.map_set]
          rw [hset2]
          have hsm : ∀ x ∈ ns.set i z2, 0 ≤ x ∧ x < (p : Int) := fun x hx => by
            rcases List.mem_or_eq_of_mem_set hx with hx | rfl
            · exact hnb x hx
            · exact ⟨hz0, hz1⟩
          exact ⟨Fr.mut hd f10 ha0, _, _, _, _, rfl, X1.store hn1 hag (by rw [List.length_set]; exact hnl) hsm, X2.store hn1 hag (by rw [List.length_set]; exact hnl) hsm⟩
      · clear X1 X2
        rintro σ H10 ⟨f10, v9, v11, v12, v13, rfl, X1, X2⟩
        exact ⟨f10, _, _, _, _, _, _, _, _, _, rfl, ⟨_, X1⟩, _, X2⟩
    · clear R1 R2 f3
      rintro σ H3 ⟨f3, v3, v6, v7, v8, v9, v10, v11, v12, v13, rfl, ⟨os, R1⟩, bs, R2⟩
      walk_at "go"
      refine ⟨by show 2 ≤ sizeLine; decide, fun t ht => ?_⟩
      obtain ⟨nss, q1, q2, q3⟩ := R1.lst
      have et := Same.new (o := .tup [.ref o, .ref b]) ht
      exact k nss t _ _ _ (f3.trans (Fr.of f3.dr et)) upd_same q1 q2 (Mon.mono (New.mono et) q3)
end
section
variable {P : Program} {w : World} {K : PySem.W.Frag} {mg : Str → Option Value} {base : Heap} {d : Ad} {p : Nat} [Pr p]
/-! ### rows of a length -/
def ShV (n : Nat) (y : V) (H : Hp) : Prop := ∃ ns : List Int, ns.length = n ∧ LstOf IntV ns y H
instance : Mon ShV := ⟨fun e ⟨ns, h1, h2⟩ => ⟨ns, h1, Mon.mono e h2⟩⟩
theorem shp_rows {n : Nat} {H : Hp} : ∀ {ks : List Nat} {ys : List V}, (∀ k ∈ ks, k = n) → Each ShV ks ys H → ∃ nss : List (List Int), nss.length = ks.length ∧ (∀ ns ∈ nss, ns.length = n) ∧ Each (LstOf IntV) nss ys H
  | [], [], _, _ => ⟨[], rfl, fun ns h => absurd h (by simp), Each.nil⟩
  | [], _ :: _, _, h => by have := h.len; simp at this
  | _ :: _, [], _, h => by have := h.len; simp at this
  | k :: r, y :: ys, hk, h => by
    obtain ⟨nss, h1, h2, h3⟩ := shp_rows (ks := r) (ys := ys) (fun x hx => hk x (List.mem_cons_of_mem _ hx)) ⟨by have := h.len; simpa using this, fun i f z q1 q2 => h.at_ (i + 1) f z q1 q2⟩
    obtain ⟨ns, q1, q2⟩ := h.at_ 0 k y rfl rfl
    refine ⟨ns :: nss, by simp [h1], fun x hx => ?_, h3.cons q2⟩
    rcases List.mem_cons.mp hx with rfl | hx
    · rw [q1]; exact hk k List.mem_cons_self
    · exact h2 x hx
def TripV (t : Nat × Nat × Int) (y : V) (H : Hp) : Prop := ∃ b, y = .ref b ∧ H b = some (.tup [.int (t.1 : Nat), .int (t.2.1 : Nat), .int t.2.2])
instance : Mon TripV := ⟨fun e ⟨b, h1, h2⟩ => ⟨b, h1, e b _ h2⟩⟩
def PairN (t : Nat × Nat) (y : V) (H : Hp) : Prop := ∃ b, y = .ref b ∧ H b = some (.tup [.int (t.1 : Nat), .int (t.2 : Nat)])
instance : Mon PairN := ⟨fun e ⟨b, h1, h2⟩ => ⟨b, h1, e b _ h2⟩⟩
abbrev s__law_at_words : Stmt := top 77
theorem sc__law_at_words : FnScope ["_law_letters", "_law_some", "_law_found", "_law_first", "_law_second", "_law_number"] ["_law_letters", "_law_some"] (defScope s__law_at_words) := ⟨rfl, rfl, rfl, by decide +kernel, rfl, by decide +kernel, by decide +kernel⟩
def spAtW : Sp := fun vs H Q _ => ∃ (L : Nat) (y : V) (ts : List (Nat × Nat × Int)), vs = [.int L, y] ∧ LstOf TripV ts y H ∧ (∀ t ∈ ts, t.1 < L ∧ t.2.1 < L) ∧ 1 ≤ L ∧ L ≤ 9 ∧ ts.length ≤ 1000 ∧ ∀ y' H', Same H H' → ShV (L * L) y' (New H H') → Q y' H'
theorem ok__law_at_words (T : Tx K mg d) (D : Df K mg "_law_at_words" s__law_at_words) : Cal P w K mg base 1 "_law_at_words" (spAtW) [] := by
  have nd := sc__law_at_words.nd
  refine mkCal D sc__law_at_words (fun vs H Q E h => ?_) (fun _ _ _ _ _ _ us hl => match us, hl with | [_, _], _ => rfl) (fun f0 cdv A outer s H vs Q E hr h => ?_)
  · obtain ⟨L, y, ts, rfl, _⟩ := h
    rfl
  obtain ⟨L, y, ts, rfl, hy, hts, hL1, hL9, htl, k⟩ := h
  have hLL : L * L ≤ 81 := Nat.mul_le_mul hL9 hL9
  refine ⟨_, (pss_cons (ps_set (i := 2) nd rfl (Or.inl rfl) (pe_op op_rep (pe_lst (pa_cons pe_int pa_nil)) (pe_op op_mul (pv 0) (pv 0))))
    (pss_cons (ps_for PassesOwn.never rfl (pi_listK (K := K) (pv 1)) (pg_tup rfl (pgs_cons (pg_name (i := 3) nd rfl (Or.inl rfl)) (pgs_cons (pg_name (i := 4) nd rfl (Or.inl rfl)) (pgs_cons (pg_name (i := 5) nd rfl (Or.inl rfl)) pgs_nil)))) 
      (pss_one (ps_asg (pe_op op_add (pe_ix (ix_listK (K := K)) (pv 2) (pe_op op_add (pe_op op_mul (pv 3) (pv 0)) (pv 4)) (fun _ _ => rfl)) (pv 5)) (pg_sub (pv 2) (pe_op op_add (pe_op op_mul (pv 3) (pv 0)) (pv 4)) set_list))))
    (pss_one (ps_ret (pv 2))))), ?_⟩
  walk_at "st"
  walk_at "go"
  refine ⟨by show 1 ≤ sizeLine; decide, fun z0 hz0 => ?_⟩
  walk_at "go"
  rw [show ((L : Nat) : Int) * (L : Int) = ((L * L : Nat) : Int) from (Int.natCast_mul _ _).symm]
  refine ⟨z0, _, _, rfl, rfl, upd_same, by omega, by omega, ?_, fun l hl => ?_⟩
  · rw [Int.toNat_natCast]
    have : (100000 : Nat) < sizeLine := by decide
    show 1 * (L * L) ≤ sizeLine
    omega
  rw [Int.toNat_natCast, intL_zero]
  have ez := Same.new (o := .lst [.int 0]) hz0
  have e1 := Same.trans ez (Same.new (o := .lst (intL (L * L) fun _ => 0)) hl)
  have hl0 := none_of ez hl
  walk_at "go"
  refine r_for (r_itL hy e1 (fun Q q => by walk_at "go"; exact q) fun J ys hys wk => ?_)
  refine for_it wk (fun i σ H' => Same H H' ∧ ∃ (v3 v4 v5 : Option V) (F : Nat → Int), σ = [some (.int L), some y, some (.ref l), v3, v4, v5] ∧ H' l = some (.lst (intL (L * L) F))) ?_ (fun _ _ _ _ h => h.1) ?_ ?_
  · exact ⟨e1, _, _, _, _, rfl, upd_same⟩
  · rintro i x σ Hx H1 hi ⟨e2, v3, v4, v5, F, rfl, hF⟩ ⟨rfl, hx⟩
    obtain ⟨⟨a, b, c⟩, hti, tb, rfl, htb⟩ := hys.yet hx
    obtain ⟨ha, hb⟩ := hts _ (List.mem_of_getElem? hti)
    refine r_gtupH (e2 tb _ htb) rfl ?_
    walk_at "go"
    have hj : a * L + b < L * L := cell_lt ha hb
    rw [show ((a : Nat) : Int) * (L : Int) + (b : Int) = ((a * L + b : Nat) : Int) by push_cast; rfl]
    refine r_ixL (SqL.of hF) (intL_get _ hj) ?_
    walk_at "go"
    rw [show ((a : Nat) : Int) * (L : Int) + (b : Int) = ((a * L + b : Nat) : Int) by push_cast; rfl]
    refine r_set hF (by rw [intL_len]; exact hj) ?_
    rw [intL_set]
    exact ⟨Same.mut e2 hl0, _, _, _, _, rfl, upd_same⟩
  · rintro σ H1 ⟨e2, v3, v4, v5, F, rfl, hF⟩
    walk_at "go"
    exact k _ H1 e2 ⟨(List.range (L * L)).map F, by simp, l, _, rfl, by rw [New.at_ hl0]; exact hF, intL_each⟩
abbrev s__law_pairs : Stmt := top 78
theorem sc__law_pairs : FnScope ["_law_letters", "_law_found", "_law_a", "_law_b"] ["_law_letters"] (defScope s__law_pairs) := ⟨rfl, rfl, rfl, by decide +kernel, rfl, by decide +kernel, by decide +kernel⟩
def spPairs : Sp := fun vs H Q _ => ∃ (L : Nat), vs = [.int L] ∧ 1 ≤ L ∧ L ≤ 9 ∧ ∀ (ps : List (Nat × Nat)) y' H', Same H H' → (∀ t ∈ ps, t.1 < L ∧ t.2 < L) → ps.length ≤ L * L → LstOf PairN ps y' (New H H') → Q y' H'
theorem ok__law_pairs (T : Tx K mg d) (D : Df K mg "_law_pairs" s__law_pairs) : Cal P w K mg base 1 "_law_pairs" (spPairs) [] := by
  have nd := sc__law_pairs.nd
  refine mkCal D sc__law_pairs (fun vs H Q E h => ?_) (fun _ _ _ _ _ _ us hl => match us, hl with | [_], _ => rfl) (fun f0 cdv A outer s H vs Q E hr h => ?_)
  · obtain ⟨L, rfl, _⟩ := h
    rfl
  obtain ⟨L, rfl, hL1, hL9, k⟩ := h
  have hLL : L * L ≤ 81 := Nat.mul_le_mul hL9 hL9
  refine ⟨_, (pss_cons (ps_set (i := 1) nd rfl (Or.inl rfl) (pe_lst pa_nil))
    (pss_cons (ps_for PassesOwn.never rfl (pi_range1 rfl T.range (pa_cons (pv 0) pa_nil)) (pg_name (i := 2) nd rfl (Or.inr rfl)) 
      (pss_one (ps_set (i := 1) nd rfl (Or.inl rfl) (pe_op op_cat (pv 1) (pe_lc (own := [("_law_b", 3)]) (g := gName 3) (tt := tYes) rfl nd (pi_range2 rfl T.range (pa_cons (pe_op op_add (pv 2) pe_int) (pa_cons (pv 0) pa_nil))) (blkOk_by (by kernel_rfl)) (fun _ _ _ _ _ => (pg_name (i := 3) nd rfl (Or.inl rfl))) (fun _ _ _ _ _ => pts_nil) (fun _ _ _ _ _ => (pe_tup (pa_cons (pv 2) (pa_cons (pv 3) pa_nil)))))))))
    (pss_one (ps_ret (pv 1))))), ?_⟩
  walk_at "st"
  walk_at "go"
  refine ⟨by show 0 ≤ sizeLine; omega, fun fl hfl => ?_⟩
  walk_at "go"
  have e1 := Same.new (o := .lst []) hfl
  refine r_for (r_rng L (by omega) (fun QA q => by walk_at "go"; exact q) fun J wk => ?_)
  refine for_it wk (fun i σ H' => Same H H' ∧ ∃ (v2 v3 : Option V) (l : Addr) (zs : List V) (ps : List (Nat × Nat)), σ = [some (.int L), some (.ref l), v2, v3] ∧ H l = none ∧ H' l = some (.lst zs) ∧ (∀ t ∈ ps, t.1 < L ∧ t.2 < L) ∧ ps.length ≤ i * L ∧ Each PairN ps zs (New H H')) ?_ (fun _ _ _ _ _ => trivial) ?_ ?_
  · exact ⟨e1, _, _, fl, [], [], rfl, hfl, upd_same, fun t ht => absurd ht (by simp), by simp, Each.nil⟩
  · rintro i x σ Hx H1 hi ⟨e2, v2, v3, l, zs, ps, rfl, hl0, hz, hps, hpl, hE⟩ ⟨rfl, rfl⟩
    walk_at "go"
    refine r_lc (r_rng2 (i + 1) (L - (i + 1)) (by omega) (fun QA q => by walk_at "go"; rw [show ((i : Nat) : Int) + 1 = ((i + 1 : Nat) : Int) by omega, show ((L : Nat) : Int) = ((i + 1 + (L - (i + 1)) : Nat) : Int) by omega]; exact q) fun J2 wk2 => ?_)
    refine lc_new wk2 (R := PairN) (fun _ => true) (fun j => (i, i + 1 + j)) (fun _ _ => trivial) (by omega) (fun j x H2 H3 kY kN hj e z hY hN => ?_) (fun D1 H2 ys1 hD1 e3 hy1 hE1 => ?_)
    · obtain ⟨rfl, rfl⟩ := z
      walk_at "lc"
      walk_at "go"
      refine ⟨rfl, ?_⟩
      walk_at "go"
      refine ⟨by show 2 ≤ sizeLine; decide, fun t ht => ?_⟩
      exact hY _ _ rfl (Same.new ht) ⟨t, rfl, by rw [New.at_ ht]; exact upd_same⟩
    rw [tk_all] at hE1
    have hl1 := hE.len
    have hl2 := hE1.len
    rw [List.length_map, List.length_range] at hl2
    have hiL : i * L + L ≤ L * L := by
      have := Nat.mul_le_mul_right L (show i + 1 ≤ L from hi)
      rw [Nat.add_mul, Nat.one_mul] at this
      omega
    refine ⟨l, D1, zs, ys1, rfl, rfl, e3 l _ hz, hy1, Nat.le_of_lt (sl _ (by omega)), fun q hq => ?_⟩
    walk_at "go"
    have eq := Same.new (o := .lst (zs ++ ys1)) hq
    refine ⟨Same.trans e2 (Same.trans e3 eq), _, _, q, _, ps ++ (List.range (L - (i + 1))).map (fun j => (i, i + 1 + j)), rfl, none_of (Same.trans e2 e3) hq, upd_same, fun t ht => ?_, ?_, ?_⟩
    · rcases List.mem_append.mp ht with ht | ht
      · exact hps t ht
      · obtain ⟨j, hj, rfl⟩ := List.mem_map.mp ht
        have := List.mem_range.mp hj
        exact ⟨hi, by show i + 1 + j < L; omega⟩
    · rw [List.length_append, List.length_map, List.length_range, Nat.add_mul, Nat.one_mul]
      omega
    · exact (hE.mono (New.mono (Same.trans e3 eq))).append (hE1.mono (Same.trans (New.anti e2) (New.mono eq)))
  · rintro σ H1 ⟨e2, v2, v3, l, zs, ps, rfl, hl0, hz, hps, hpl, hE⟩
    walk_at "go"
    exact k ps _ H1 e2 hps hpl ⟨l, zs, rfl, by rw [New.at_ hl0]; exact hz, hE⟩
abbrev s__law_web_rules : Stmt := top 79
theorem sc__law_web_rules : FnScope ["_law_draw", "_law_field_here", "_law_letters", "_law_most", "_law_found", "_law_a", "_law_b"] ["_law_draw", "_law_field_here", "_law_letters", "_law_most"] (defScope s__law_web_rules) := ⟨rfl, rfl, rfl, by decide +kernel, rfl, by decide +kernel, by decide +kernel⟩
def spWebR (p : Nat) [Pr p] : Sp := fun vs H Q _ => ∃ (D : Drw) (L : Nat) (m : Int), vs = [.ref D.a, .int p, .int L, .int m] ∧ DrawV D H ∧ 1 ≤ L ∧ L ≤ 9 ∧
  ∀ (nss : List (List Int)) y' H', Fr D H H' → (∀ ns ∈ nss, ns.length = L * L) → nss.length ≤ 200 → LstOf (LstOf IntV) nss y' (New H H') → Q y' H'
theorem ok__law_web_rules (T : Tx K mg d) (D : Df K mg "_law_web_rules" s__law_web_rules) (c__law_take : Cal P w K mg base 2 "_law_take" spTake []) (c__law_pairs : Cal P w K mg base 1 "_law_pairs" spPairs []) (c__law_at_words : Cal P w K mg base 1 "_law_at_words" spAtW []) : Cal P w K mg base 3 "_law_web_rules" (U fun p _ => spWebR p) [] := by
  have nd := sc__law_web_rules.nd
  refine mkCalU D sc__law_web_rules (fun p hp vs H Q E h => ?_) (fun _ _ _ _ _ _ us hl => match us, hl with | [_, _, _, _], _ => rfl) (fun p hp f0 cdv A outer s H vs Q E hr h => ?_)
  · obtain ⟨D, L, m, rfl, _⟩ := h
    rfl
  obtain ⟨D, L, m, rfl, hd, hL1, hL9, k⟩ := h
  have hLL : L * L ≤ 81 := Nat.mul_le_mul hL9 hL9
  have hp1 := Pr.ge (p := p)
  have hp2 := Pr.le (p := p)
  refine ⟨_, (pss_cons (ps_set (i := 4) nd rfl (Or.inl rfl) (pe_lst pa_nil))
    (pss_cons (ps_for PassesOwn.never rfl (pi_listK (K := K) (pe_c c__law_pairs hr (by decide) rfl (pa_cons (pv 2) pa_nil))) (pg_tup rfl (pgs_cons (pg_name (i := 5) nd rfl (Or.inl rfl)) (pgs_cons (pg_name (i := 6) nd rfl (Or.inl rfl)) pgs_nil))) 
      (pss_one (ps_if (pt_cmpR op_lt (pe_c c__law_take hr (by decide) rfl (pa_cons (pv 0) (pa_cons pe_int pa_nil))) (pv 3) (nomark _)) 
        (pss_one (ps_expr (pe_bm PySem.F.plainAttrs_list PySem.F.slot_list_append PySem.F.type_list_append mt_append (pv 4) (pa_cons (pe_c c__law_at_words hr (by decide) rfl (pa_cons (pv 2) (pa_cons (pe_lst (pa_cons (pe_tup (pa_cons (pv 6) (pa_cons (pv 5) (pa_cons pe_int pa_nil)))) (pa_cons (pe_tup (pa_cons (pv 5) (pa_cons (pv 6) (pa_cons (pe_op op_sub (pe_op op_sub pe_int pe_int) (pe_c c__law_take hr (by decide) rfl (pa_cons (pv 0) (pa_cons (pe_op op_sub (pv 1) pe_int) pa_nil)))) pa_nil)))) pa_nil))) pa_nil))) pa_nil)))) pss_nil)))
    (pss_cons (ps_for PassesOwn.never rfl (pi_range1 rfl T.range (pa_cons (pv 2) pa_nil)) (pg_name (i := 5) nd rfl (Or.inl rfl)) 
      (pss_one (ps_if (pt_cmpR op_eq (pe_c c__law_take hr (by decide) rfl (pa_cons (pv 0) (pa_cons pe_int pa_nil))) pe_int (nomark _)) 
        (pss_one (ps_expr (pe_bm PySem.F.plainAttrs_list PySem.F.slot_list_append PySem.F.type_list_append mt_append (pv 4) (pa_cons (pe_c c__law_at_words hr (by decide) rfl (pa_cons (pv 2) (pa_cons (pe_lst (pa_cons (pe_tup (pa_cons (pv 5) (pa_cons (pv 5) (pa_cons pe_int pa_nil)))) pa_nil)) pa_nil))) pa_nil)))) pss_nil)))
    (pss_one (ps_ret (pv 4)))))), ?_⟩
  walk_at "st"
  walk_at "go"
  refine ⟨by show 0 ≤ sizeLine; omega, fun fl hfl => ?_⟩
  walk_at "go"
  have e1 := Same.new (o := .lst []) hfl
  have f1 := Fr.of hd e1
  have hfl1 : (upd H fl (.lst [])) fl = some (.lst []) := upd_same
  generalize (upd H fl (.lst [])) = H1 at *
  refine r_for (r_iL ?_)
  walk_at "go"
  refine ⟨L, rfl, hL1, hL9, fun ps y2 H2 e2 hps hpl hpv => ?_⟩
  obtain ⟨pb, pys, rfl, hpb0, hpe0⟩ := hpv
  have hpbn := New.old hpb0
  have hpb := New.le pb _ hpb0
  have f2 := f1.trans (Fr.of f1.dr e2)
  have hpbH := f1.none hd hpbn
  refine ⟨pb, rfl, ⟨_, SqL.of hpb⟩, ?_⟩
  have hpbf : pb ≠ fl := fun z => by rw [z, hfl1] at hpbn; cases hpbn
  have wkp : Walk (Itl K pb) pys.length (fun H' => ∀ b u, H b = none → b ≠ fl → H2 b = some u → H' b = some u) (YAt pys) := walk_list.mono (fun H' f => SqL.of (f pb _ hpbH hpbf hpb)) fun _ _ _ _ _ _ h => h
  -- what is added
  have add : ∀ (H3 H4 : Hp) (zs : List V) (i : Nat) (y : V), Fr D H H3 → H3 fl = some (.lst zs) → Each ShV (List.replicate i (L * L)) zs (New H (hide fl H3)) → Fr D H3 H4 → ShV (L * L) y (New H3 H4) →
      Fr D H (upd H4 fl (.lst (zs ++ [y]))) ∧ H4 fl = some (.lst zs) ∧ Each ShV (List.replicate (i + 1) (L * L)) (zs ++ [y]) (New H (hide fl (upd H4 fl (.lst (zs ++ [y]))))) := fun H3 H4 zs i y f3 hz hE f4 hy => by
    refine ⟨Fr.mut hd (f3.trans f4) hfl, f4.keep hd hfl hz, ?_⟩
    rw [hide_upd, List.replicate_succ']
    exact (hE.mono (f4.newH hd)).append (Each.one (Mon.mono (Fr.both hd f3 (by rw [hz]; simp)) hy))
  refine for_it wkp (fun i σ H' => (∀ b u, H b = none → b ≠ fl → H2 b = some u → H' b = some u) ∧ Fr D H H' ∧ ∃ (v5 v6 : Option V) (zs : List V) (c : Nat), σ = [some (.ref D.a), some (.int p), some (.int L), some (.int m), some (.ref fl), v5, v6] ∧ H' fl = some (.lst zs) ∧ c ≤ i ∧ Each ShV (List.replicate c (L * L)) zs (New H (hide fl H'))) ?_ (fun _ _ _ _ h => h.1) ?_ ?_
  · exact ⟨fun _ _ _ _ h => h, f2, _, _, [], 0, rfl, e2 fl _ hfl1, Nat.le_refl _, Each.nil⟩
  · rintro i x σ Hx H3 hi ⟨k3, f03, v5, v6, zs, c, rfl, hz, hci, hE⟩ ⟨rfl, hx⟩
    obtain ⟨⟨a, b⟩, hpi, tb, rfl, htb0⟩ := hpe0.yet hx
    obtain ⟨ha, hb⟩ := hps _ (List.mem_of_getElem? hpi)
    have htbH := f1.none hd (New.old htb0)
    have htbf : tb ≠ fl := fun z => by have := New.old htb0; rw [z, hfl1] at this; cases this
    have htb := k3 tb _ htbH htbf (New.le tb _ htb0)
    refine r_gtupH htb rfl ?_
    walk_at "go"
    refine ⟨D, 4, rfl, f03.dr, by omega, by omega, fun i4 H4 hi4 f4 => ?_⟩
    walk_at "go"
    have hz4 := f4.keep hd hfl hz
    refine r_dec (fun hlt => ?_) fun hge => ?_
    · walk_at "go"
      refine ⟨.inl ⟨rfl, _, SqL.of hz4⟩, ?_⟩
      walk_at "go"
      refine ⟨by show 3 ≤ sizeLine; decide, fun t1 ht1 => ?_⟩
      have e5 := Same.new (o := .tup [.int (b : Nat), .int (a : Nat), .int 1]) ht1
      have f5 := Fr.of f4.dr e5
      have ht1H := (f03.trans f4).none hd ht1
      have ht15 : (upd H4 t1 (.tup [.int (b : Nat), .int (a : Nat), .int 1])) t1 = some (.tup [.int (b : Nat), .int (a : Nat), .int 1]) := upd_same
      generalize (upd H4 t1 (.tup [.int (b : Nat), .int (a : Nat), .int 1])) = H5 at *
      walk_at "go"
      rw [show ((p : Nat) : Int) - 1 = ((p - 1 : Nat) : Int) by omega]
      refine ⟨D, p - 1, rfl, f5.dr, by omega, by omega, fun i6 H6 hi6 f6 => ?_⟩
      walk_at "go"
      have ht16 := f6.keep hd ht1H ht15
      refine ⟨by show 3 ≤ sizeLine; decide, fun t2 ht2 => ?_⟩
      have e7 := Same.new (o := .tup [.int (a : Nat), .int (b : Nat), .int (0 - 1 - (i6 : Nat))]) ht2
      have ht27 : (upd H6 t2 (.tup [.int (a : Nat), .int (b : Nat), .int (0 - 1 - (i6 : Nat))])) t2 = some (.tup [.int (a : Nat), .int (b : Nat), .int (0 - 1 - (i6 : Nat))]) := upd_same
      generalize (upd H6 t2 (.tup [.int (a : Nat), .int (b : Nat), .int (0 - 1 - (i6 : Nat))])) = H7 at *
      walk_at "go"
      refine ⟨by show 2 ≤ sizeLine; decide, fun ll hll => ?_⟩
      have e8 := Same.new (o := .lst [.ref t1, .ref t2]) hll
      have hll8 : (upd H7 ll (.lst [.ref t1, .ref t2])) ll = some (.lst [.ref t1, .ref t2]) := upd_same
      generalize (upd H7 ll (.lst [.ref t1, .ref t2])) = H8 at *
      walk_at "go"
      have e68 := Same.trans e7 e8
      have w1 : TripV (b, a, 1) (.ref t1) H8 := ⟨t1, rfl, e68 t1 _ ht16⟩
      have w2 : TripV (a, b, 0 - 1 - (i6 : Nat)) (.ref t2) H8 := ⟨t2, rfl, e8 t2 _ ht27⟩
      refine ⟨L, .ref ll, [(b, a, 1), (a, b, 0 - 1 - (i6 : Nat))], rfl, ⟨ll, _, rfl, hll8, (Each.one w1).snoc w2⟩, fun t ht => ?_, hL1, hL9, by simp, fun y9 H9 e9 h9 => ?_⟩
      · simp only [List.mem_cons, List.not_mem_nil, or_false] at ht
        rcases ht with rfl | rfl
        · exact ⟨hb, ha⟩
        · exact ⟨ha, hb⟩
      · walk_at "go"
        have f49 : Fr D H3 H9 := f4.trans (f5.trans (f6.trans (Fr.of f6.dr (Same.trans e68 e9))))
        have hy9 : ShV (L * L) y9 (New H3 H9) := Mon.mono (Fr.anti f03.dr (f4.trans (f5.trans (f6.trans (Fr.of f6.dr e68))))) h9
        obtain ⟨g1, g2, g3⟩ := add H3 H9 zs c y9 f03 hz hE f49 hy9
        refine ⟨fl, zs, _, rfl, rfl, g2, sl _ (by rw [hE.len, List.length_replicate]; have := hpe0.len; omega), ?_⟩
        exact ⟨fun x u h1 h2 h3 => by rw [upd_ne h2]; exact f49.keep hd h1 (k3 x u h1 h2 h3), g1, _, _, _, c + 1, rfl, upd_same, by omega, g3⟩
    · walk_at "go"
      exact ⟨fun x u h1 h2 h3 => f4.keep hd h1 (k3 x u h1 h2 h3), f03.trans f4, _, _, zs, c, rfl, hz4, by omega, hE.mono (f4.newH hd)⟩
  · rintro σ H3 ⟨f3, f03, v5, v6, zs, c, rfl, hz, hci, hE⟩
    have hcl : c ≤ 81 := by have := hpe0.len; omega
    clear f3 wkp
    walk_at "go"
    refine r_for (r_rng L (by omega) (fun QA q => by walk_at "go"; exact q) fun J4 wk4 => ?_)
    refine for_it wk4 (fun i σ H' => Fr D H H' ∧ ∃ (v5 v6 : Option V) (zs : List V) (c : Nat), σ = [some (.ref D.a), some (.int p), some (.int L), some (.int m), some (.ref fl), v5, v6] ∧ H' fl = some (.lst zs) ∧ c ≤ 81 + i ∧ Each ShV (List.replicate c (L * L)) zs (New H (hide fl H'))) ?_ (fun _ _ _ _ _ => trivial) ?_ ?_
    · exact ⟨f03, _, _, zs, c, rfl, hz, by omega, hE⟩
    · clear f03 hz hE hci hcl
      rintro i x σ Hx H3 hi ⟨f03, v5, v6, zs, c, rfl, hz, hci, hE⟩ ⟨rfl, rfl⟩
      walk_at "go"
      refine ⟨D, 3, rfl, f03.dr, by omega, by omega, fun i4 H4 hi4 f4 => ?_⟩
      walk_at "go"
      have hz4 := f4.keep hd hfl hz
      refine r_dec (fun hlt => ?_) fun hge => ?_
      · walk_at "go"
        refine ⟨.inl ⟨rfl, _, SqL.of hz4⟩, ?_⟩
        walk_at "go"
        refine ⟨by show 3 ≤ sizeLine; decide, fun t1 ht1 => ?_⟩
        have e5 := Same.new (o := .tup [.int (i : Nat), .int (i : Nat), .int 1]) ht1
        have ht15 : (upd H4 t1 (.tup [.int (i : Nat), .int (i : Nat), .int 1])) t1 = some (.tup [.int (i : Nat), .int (i : Nat), .int 1]) := upd_same
        generalize (upd H4 t1 (.tup [.int (i : Nat), .int (i : Nat), .int 1])) = H5 at *
        walk_at "go"
        refine ⟨by show 1 ≤ sizeLine; decide, fun ll hll => ?_⟩
        have e8 := Same.new (o := .lst [.ref t1]) hll
        have hll8 : (upd H5 ll (.lst [.ref t1])) ll = some (.lst [.ref t1]) := upd_same
        generalize (upd H5 ll (.lst [.ref t1])) = H8 at *
        walk_at "go"
        have w1 : TripV (i, i, 1) (.ref t1) H8 := ⟨t1, rfl, e8 t1 _ ht15⟩
        refine ⟨L, .ref ll, [(i, i, 1)], rfl, ⟨ll, _, rfl, hll8, Each.one w1⟩, fun t ht => ?_, hL1, hL9, by simp, fun y9 H9 e9 h9 => ?_⟩
        · rw [List.mem_singleton.mp ht]
          exact ⟨hi, hi⟩
        · walk_at "go"
          have f48 := f4.trans (Fr.of f4.dr (Same.trans e5 e8))
          have f49 : Fr D H3 H9 := f48.trans (Fr.of f48.dr e9)
          have hy9 : ShV (L * L) y9 (New H3 H9) := Mon.mono (Fr.anti f03.dr f48) h9
          obtain ⟨g1, g2, g3⟩ := add H3 H9 zs c y9 f03 hz hE f49 hy9
          refine ⟨fl, zs, _, rfl, rfl, g2, sl _ (by rw [hE.len, List.length_replicate]; omega), ?_⟩
          exact ⟨g1, _, _, _, c + 1, rfl, upd_same, by omega, g3⟩
      · walk_at "go"
        exact ⟨f03.trans f4, _, _, zs, c, rfl, hz4, by omega, hE.mono (f4.newH hd)⟩
    · clear f03 hz hE hci hcl
      rintro σ H3 ⟨f03, v5, v6, zs, c, rfl, hz, hci, hE⟩
      walk_at "go"
      obtain ⟨nss, q1, q2, q3⟩ := shp_rows (n := L * L) (fun k hk => (List.mem_replicate.mp hk).2) hE
      rw [List.length_replicate] at q1
      exact k nss _ H3 f03 q2 (by omega) ⟨fl, zs, rfl, by rw [New.at_ hfl]; exact hz, q3.mono (New.mono hide_le)⟩
end
section
variable {P : Program} {w : World} {K : PySem.W.Frag} {mg : Str → Option Value} {base : Heap} {d : Ad} {p : Nat} [Pr p]
theorem sh_rep {n c : Nat} {H : Hp} {ys : List V} (h : Each ShV ((List.range c).map fun _ => n) ys H) : ∃ nss : List (List Int), nss.length = c ∧ (∀ ns ∈ nss, ns.length = n) ∧ Each (LstOf IntV) nss ys H := by
  obtain ⟨nss, h1, h2, h3⟩ := shp_rows (n := n) (fun k hk => by obtain ⟨_, _, rfl⟩ := List.mem_map.mp hk; rfl) h
  exact ⟨nss, by rw [h1]; simp, h2, h3⟩
/-- [_law_at_words(letters, [(a, b, i), (b, a, j)]) for a, b in some] -/
theorem t_words {Q : VK} {H : Hp} {L : Nat} {x0 x1 x3 x4 x6 x7 x8 x9 : Option V} {ti tj : TE} {i j : Int} {pb : Addr} {ps : List (Nat × Nat)} (hp : LstOf PairN ps (.ref pb) H) (hps : ∀ t ∈ ps, t.1 < L ∧ t.2 < L) (hl : ps.length ≤ 100) (hL1 : 1 ≤ L) (hL9 : L ≤ 9)
    (hi : ∀ σ H' (Q : VK), Q (.int i) H' → ti σ H' Q) (hj : ∀ σ H' (Q : VK), Q (.int j) H' → tj σ H' Q)
    (k : ∀ D H' ys, H D = none → Same H H' → H' D = some (.lst ys) → Each ShV ((List.range ps.length).map fun _ => L * L) ys (New H H') → Q (.ref D) H') :
    tLc (iList K (tVar 5)) (gTup K 2 (gCons (gName 8) (gCons (gName 9) gNil))) tYes
      (tCall spAtW [] C8.E0 (tCons (tVar 2) (tCons (tLst (tCons (tTup (tCons (tVar 8) (tCons (tVar 9) (tCons ti tNil)))) (tCons (tTup (tCons (tVar 9) (tCons (tVar 8) (tCons tj tNil)))) tNil))) tNil))) [8, 9]
      [x0, x1, some (.int (L : Nat)), x3, x4, some (.ref pb), x6, x7, x8, x9] H Q := by
  refine r_lc (r_itL hp (Same.refl _) (fun Q q => by walk_at "go"; exact q) fun J ys hys wk => ?_)
  refine lc_new wk (R := ShV) (fun _ => true) (fun _ => L * L) (fun _ h => h) (by omega) (fun n x H1 H2 kY kN hn e z hY hN => ?_) (fun D1 H1 ys1 hD1 e1 hy1 hE1 => ?_)
  · obtain ⟨rfl, hx⟩ := z
    obtain ⟨⟨a, b⟩, hpn, tb, rfl, htb⟩ := hys.yet hx
    obtain ⟨ha, hb⟩ := hps _ (List.mem_of_getElem? hpn)
    walk_at "lc"
    refine r_gtupH (e tb _ htb) rfl ?_
    walk_at "go"
    refine ⟨rfl, ?_⟩
    walk_at "go"
    refine hi _ _ _ ?_
    walk_at "go"
    refine ⟨by show 3 ≤ sizeLine; decide, fun t1 ht1 => ?_⟩
    have e5 := Same.new (o := .tup [.int (a : Nat), .int (b : Nat), .int i]) ht1
    walk_at "go"
    refine hj _ _ _ ?_
    walk_at "go"
    refine ⟨by show 3 ≤ sizeLine; decide, fun t2 ht2 => ?_⟩
    have e7 := Same.new (o := .tup [.int (b : Nat), .int (a : Nat), .int j]) ht2
    walk_at "go"
    refine ⟨by show 2 ≤ sizeLine; decide, fun ll hll => ?_⟩
    have e8 := Same.new (o := .lst [.ref t1, .ref t2]) hll
    walk_at "go"
    refine ⟨L, .ref ll, [(a, b, i), (b, a, j)], rfl, ⟨ll, _, rfl, upd_same, (Each.one ⟨t1, rfl, e8 _ _ (e7 _ _ upd_same)⟩).snoc ⟨t2, rfl, e8 _ _ upd_same⟩⟩, fun t ht => ?_, hL1, hL9, by simp, fun y9 H9 e9 h9 => ?_⟩
    · simp only [List.mem_cons, List.not_mem_nil, or_false] at ht
      rcases ht with rfl | rfl
      · exact ⟨ha, hb⟩
      · exact ⟨hb, ha⟩
    · have e58 := Same.trans e5 (Same.trans e7 e8)
      exact hY _ _ rfl (Same.trans e58 e9) (Mon.mono (New.anti e58) h9)
  · rw [tk_all] at hE1
    exact k D1 H1 ys1 hD1 e1 hy1 hE1
abbrev s__law_family_rules : Stmt := top 80
theorem sc__law_family_rules : FnScope ["_law_draw", "_law_field_here", "_law_letters", "_law_way", "_law_size", "_law_some", "_law_found", "_law_spot", "_law_a", "_law_b"] ["_law_draw", "_law_field_here", "_law_letters", "_law_way"] (defScope s__law_family_rules) := ⟨rfl, rfl, rfl, by decide +kernel, rfl, by decide +kernel, by decide +kernel⟩
theorem ok__law_family_rules (T : Tx K mg d) (D : Df K mg "_law_family_rules" s__law_family_rules) (c__law_pairs : Cal P w K mg base 1 "_law_pairs" spPairs []) (c__law_at_words : Cal P w K mg base 1 "_law_at_words" spAtW []) (c__law_single : Cal P w K mg base 1 "_law_single" spSingle []) (c__law_web_rules : Cal P w K mg base 3 "_law_web_rules" (U fun p _ => spWebR p) []) : Cal P w K mg base 4 "_law_family_rules" (U fun p _ => spWebR p) [] := by
  have nd := sc__law_family_rules.nd
  refine mkCalU D sc__law_family_rules (fun p hp vs H Q E h => ?_) (fun _ _ _ _ _ _ us hl => match us, hl with | [_, _, _, _], _ => rfl) (fun p hp f0 cdv A outer s H vs Q E hr h => ?_)
  · obtain ⟨D, L, m, rfl, _⟩ := h
    rfl
  obtain ⟨D, L, m, rfl, hd, hL1, hL9, k⟩ := h
  have hLL : L * L ≤ 81 := Nat.mul_le_mul hL9 hL9
  have hp2 := Pr.le (p := p)
  refine ⟨_, (pss_cons (ps_asg (pe_tup (pa_cons (pe_op op_mul (pv 2) (pv 2)) (pa_cons (pe_c c__law_pairs hr (by decide) rfl (pa_cons (pv 2) pa_nil)) pa_nil))) (pg_tup rfl (pgs_cons (pg_name (i := 4) nd rfl (Or.inr rfl)) (pgs_cons (pg_name (i := 5) nd rfl (Or.inl rfl)) pgs_nil))))
    (pss_cons (ps_if (pt_cmpR op_eq (pv 3) pe_int (nomark _)) 
      (pss_one (ps_ret (pe_lst pa_nil))) pss_nil)
    (pss_cons (ps_if (pt_cmpR op_eq (pv 3) pe_int (nomark _)) 
      (pss_one (ps_ret (pe_lc (own := [("_law_spot", 7)]) (g := gName 7) (tt := tYes) rfl nd (pi_range1 rfl T.range (pa_cons (pv 4) pa_nil)) (blkOk_by (by kernel_rfl)) (fun _ _ _ _ _ => (pg_name (i := 7) nd rfl (Or.inl rfl))) (fun _ _ _ _ _ => pts_nil) (fun _ _ _ _ _ => (pe_c c__law_single hr (by decide) rfl (pa_cons (pv 4) (pa_cons (pv 7) pa_nil))))))) pss_nil)
    (pss_cons (ps_if (pt_cmpR op_eq (pv 3) pe_int (nomark _)) 
      (pss_one (ps_ret (pe_lc (own := [("_law_a", 8), ("_law_b", 9)]) (g := gTup K 2 (gCons (gName 8) (gCons (gName 9) gNil))) (tt := tYes) rfl nd (pi_listK (K := K) (pv 5)) (blkOk_by (by kernel_rfl)) (fun _ _ _ _ _ => (pg_tup rfl (pgs_cons (pg_name (i := 8) nd rfl (Or.inl rfl)) (pgs_cons (pg_name (i := 9) nd rfl (Or.inl rfl)) pgs_nil)))) (fun _ _ _ _ _ => pts_nil) (fun _ _ _ _ _ => (pe_c c__law_at_words hr (by decide) rfl (pa_cons (pv 2) (pa_cons (pe_lst (pa_cons (pe_tup (pa_cons (pv 8) (pa_cons (pv 9) (pa_cons pe_int pa_nil)))) (pa_cons (pe_tup (pa_cons (pv 9) (pa_cons (pv 8) (pa_cons (pe_un un_neg pe_int) pa_nil)))) pa_nil))) pa_nil))))))) pss_nil)
    (pss_cons (ps_if (pt_cmpR op_eq (pv 3) pe_int (nomark _)) 
      (pss_cons (ps_setLc (own := [("_law_a", 8), ("_law_b", 9)]) (g := gTup K 2 (gCons (gName 8) (gCons (gName 9) gNil))) (tt := tYes) (i := 6) rfl nd rfl rfl (sw_true rfl rfl rfl (by decide +kernel)) (pi_listK (K := K) (pv 5)) (blkOk_by (by kernel_rfl)) (fun _ _ _ _ _ => (pg_tup rfl (pgs_cons (pg_name (i := 8) nd rfl (Or.inl rfl)) (pgs_cons (pg_name (i := 9) nd rfl (Or.inl rfl)) pgs_nil)))) (fun _ _ _ _ _ => pts_nil) (fun _ _ _ _ _ => (pe_c c__law_at_words hr (by decide) rfl (pa_cons (pv 2) (pa_cons (pe_lst (pa_cons (pe_tup (pa_cons (pv 8) (pa_cons (pv 9) (pa_cons pe_int pa_nil)))) (pa_cons (pe_tup (pa_cons (pv 9) (pa_cons (pv 8) (pa_cons pe_int pa_nil)))) pa_nil))) pa_nil)))))
      (pss_one (ps_ret (pe_op op_cat (pv 6) (pe_lc (own := [("_law_a", 8)]) (g := gName 8) (tt := tYes) rfl nd (pi_range1 rfl T.range (pa_cons (pv 2) pa_nil)) (blkOk_by (by kernel_rfl)) (fun _ _ _ _ _ => (pg_name (i := 8) nd rfl (Or.inl rfl))) (fun _ _ _ _ _ => pts_nil) (fun _ _ _ _ _ => (pe_c c__law_at_words hr (by decide) rfl (pa_cons (pv 2) (pa_cons (pe_lst (pa_cons (pe_tup (pa_cons (pv 8) (pa_cons (pv 8) (pa_cons pe_int pa_nil)))) pa_nil)) pa_nil))))))))) pss_nil)
    (pss_one (ps_ret (pe_c c__law_web_rules hr (by decide) rfl (pa_cons (pv 0) (pa_cons (pv 1) (pa_cons (pv 2) (pa_cons (pe_op op_sub pe_int (pv 3)) pa_nil)))))))))))), ?_⟩
  walk_at "st"
  walk_at "go"
  rw [show ((L : Nat) : Int) * (L : Int) = ((L * L : Nat) : Int) from (Int.natCast_mul _ _).symm]
  refine ⟨L, rfl, hL1, hL9, fun ps y1 H1 e1 hps hpl hpv => ?_⟩
  obtain ⟨pb, pys, rfl, hpb0, hpe0⟩ := id hpv
  walk_at "go"
  refine ⟨by show 2 ≤ sizeLine; decide, fun t ht => ?_⟩
  have e2 := Same.new (o := .tup [.int ((L * L : Nat) : Int), .ref pb]) ht
  walk_at "go"
  have e02 := Same.trans e1 e2
  have hpv2 := Mon.mono (Same.trans New.le e2) hpv
  generalize (upd H1 t (.tup [.int ((L * L : Nat) : Int), .ref pb])) = H2 at *
  have f2 := Fr.of hd e02
  refine r_dec (fun hw => ?_) fun hw => ?_
  · walk_at "go"
    refine ⟨by show 0 ≤ sizeLine; omega, fun l hl => ?_⟩
    have el := Same.new (o := .lst []) hl
    exact k [] _ _ (f2.trans (Fr.of f2.dr el)) (fun ns h => absurd h (by simp)) (by simp) ⟨l, [], rfl, by rw [New.at_ (none_of e02 hl)]; exact upd_same, Each.nil⟩
  walk_at "go"
  refine r_dec (fun hw => ?_) fun hw => ?_
  · walk_at "go"
    refine r_lc (r_rng (L * L) (by omega) (fun QA q => by walk_at "go"; exact q) fun J wk => ?_)
    refine lc_new wk (R := LstOf IntV) (fun _ => true) (fun i => sngI (L * L) i) (fun _ _ => trivial) (by omega) (fun i x H1 H2 kY kN hi e z hY hN => ?_) (fun o H3 ys1 ho e3 hy1 hE1 => ?_)
    · obtain ⟨rfl, rfl⟩ := z
      walk_at "lc"
      walk_at "go"
      refine ⟨rfl, ?_⟩
      walk_at "go"
      exact ⟨L * L, i, rfl, by omega, fun y' H' e' h' => hY _ _ rfl e' h'⟩
    · rw [tk_all] at hE1
      exact k _ _ _ (f2.trans (Fr.of f2.dr e3)) (fun ns h => by obtain ⟨i, _, rfl⟩ := List.mem_map.mp h; unfold sngI; simp) (by simp; omega) (Mon.mono (New.anti e02) (lst_new ho hy1 hE1))
  walk_at "go"
  refine r_dec (fun hw => ?_) fun hw => ?_
  · walk_at "go"
    refine t_words (i := 1) (j := -1) hpv2 hps (by omega) hL1 hL9 (fun _ _ _ q => r_c q) (fun _ _ _ q => r_un (r_c (r_neg q))) fun D1 H3 ys1 hD1 e3 hy1 hE1 => ?_
    obtain ⟨nss, q1, q2, q3⟩ := sh_rep hE1
    exact k nss _ _ (f2.trans (Fr.of f2.dr e3)) q2 (by omega) ⟨D1, ys1, rfl, by rw [New.at_ (none_of e02 hD1)]; exact hy1, q3.mono (New.anti e02)⟩
  walk_at "go"
  refine r_dec (fun hw => ?_) fun hw => ?_
  · walk_at "go"
    refine t_words (i := 1) (j := 1) hpv2 hps (by omega) hL1 hL9 (fun _ _ _ q => r_c q) (fun _ _ _ q => r_c q) fun D1 H3 ys1 hD1 e3 hy1 hE1 => ?_
    obtain ⟨nss, q1, q2, q3⟩ := sh_rep hE1
    walk_at "go"
    have e03 := Same.trans e02 e3
    refine r_lc (r_rng L (by omega) (fun QA q => by walk_at "go"; exact q) fun J wk => ?_)
    refine lc_new wk (R := ShV) (fun _ => true) (fun _ => L * L) (fun _ _ => trivial) (by omega) (fun n x H4 H5 kY kN hn e z hY hN => ?_) (fun D4 H4 ys4 hD4 e4 hy4 hE4 => ?_)
    · obtain ⟨rfl, rfl⟩ := z
      walk_at "lc"
      walk_at "go"
      refine ⟨rfl, ?_⟩
      walk_at "go"
      refine ⟨by show 3 ≤ sizeLine; decide, fun t1 ht1 => ?_⟩
      have e5 := Same.new (o := .tup [.int (n : Nat), .int (n : Nat), .int 1]) ht1
      walk_at "go"
      refine ⟨by show 1 ≤ sizeLine; decide, fun ll hll => ?_⟩
      have e8 := Same.new (o := .lst [.ref t1]) hll
      walk_at "go"
      refine ⟨L, .ref ll, [(n, n, 1)], rfl, ⟨ll, _, rfl, upd_same, Each.one ⟨t1, rfl, e8 _ _ upd_same⟩⟩, fun t ht => ?_, hL1, hL9, by simp, fun y9 H9 e9 h9 => ?_⟩
      · rw [List.mem_singleton.mp ht]
        exact ⟨hn, hn⟩
      · have e58 := Same.trans e5 e8
        exact hY _ _ rfl (Same.trans e58 e9) (Mon.mono (New.anti e58) h9)
    rw [tk_all] at hE4
    obtain ⟨mss, r1, r2, r3⟩ := sh_rep hE4
    refine ⟨D1, D4, ys1, ys4, rfl, rfl, e4 D1 _ hy1, hy4, Nat.le_of_lt (sl _ ?_), fun q hq => ?_⟩
    · have h1 := q3.len
      have h2 := r3.len
      omega
    · have eq := Same.new (o := .lst (ys1 ++ ys4)) hq
      have e3q := Same.trans e4 eq
      refine k (nss ++ mss) _ _ (f2.trans (Fr.of f2.dr (Same.trans e3 e3q))) (fun ns h => ?_) (by rw [List.length_append]; omega) ⟨q, _, rfl, by rw [New.at_ (none_of (Same.trans e03 e4) hq)]; exact upd_same, ?_⟩
      · rcases List.mem_append.mp h with h | h
        · exact q2 ns h
        · exact r2 ns h
      · exact (q3.mono (Same.trans (New.anti e02) (New.mono e3q))).append (r3.mono (Same.trans (New.anti e03) (New.mono eq)))
  walk_at "go"
  exact ⟨D, L, _, rfl, f2.dr, hL1, hL9, fun nss y' H3 f3 h1 h2 h3 => k nss y' H3 (f2.trans f3) h1 h2 (Mon.mono (New.anti e02) h3)⟩
theorem add_row {D : Drw} {H H3 H4 : Hp} {fl : Addr} {zs : List V} {i n : Nat} {y : V} (hd : DrawV D H) (hfl : H fl = none) (f3 : Fr D H H3) (hz : H3 fl = some (.lst zs)) (hE : Each ShV (List.replicate i n) zs (New H (hide fl H3))) (f4 : Fr D H3 H4) (hy : ShV n y (New H3 H4)) :
    Fr D H (upd H4 fl (.lst (zs ++ [y]))) ∧ H4 fl = some (.lst zs) ∧ Each ShV (List.replicate (i + 1) n) (zs ++ [y]) (New H (hide fl (upd H4 fl (.lst (zs ++ [y]))))) := by
  refine ⟨Fr.mut hd (f3.trans f4) hfl, f4.keep hd hfl hz, ?_⟩
  rw [hide_upd, List.replicate_succ']
  exact (hE.mono (f4.newH hd)).append (Each.one (Mon.mono (Fr.both hd f3 (by rw [hz]; simp)) hy))
theorem walk_rng (n : Nat) : Walk (Itr 0 n) n (fun _ => True) (fun i H x H' => H' = H ∧ x = .int (i : Nat)) :=
  walk_range.mono (fun _ h => h) fun i H x H' _ _ y => ⟨y.1, by
    rw [y.2]
    show V.int (0 + (i : Int)) = _
    rw [Int.zero_add]⟩
abbrev s__law_loose_rules : Stmt := top 81
theorem sc__law_loose_rules : FnScope ["_law_draw", "_law_field_here", "_law_letters", "_law_size", "_law_found", "_law_lap", "_law_row", "_law_turn"] ["_law_draw", "_law_field_here", "_law_letters"] (defScope s__law_loose_rules) := ⟨rfl, rfl, rfl, by decide +kernel, rfl, by decide +kernel, by decide +kernel⟩
def spLoose (p : Nat) [Pr p] : Sp := fun vs H Q _ => ∃ (D : Drw) (L : Nat), vs = [.ref D.a, .int p, .int L] ∧ DrawV D H ∧ 1 ≤ L ∧ L ≤ 9 ∧
  ∀ (nss : List (List Int)) y' H', Fr D H H' → (∀ ns ∈ nss, ns.length = L * L) → nss.length ≤ 200 → LstOf (LstOf IntV) nss y' (New H H') → Q y' H'
theorem ok__law_loose_rules (T : Tx K mg d) (D : Df K mg "_law_loose_rules" s__law_loose_rules) (c__law_take : Cal P w K mg base 2 "_law_take" spTake []) : Cal P w K mg base 3 "_law_loose_rules" (U fun p _ => spLoose p) [] := by
  have nd := sc__law_loose_rules.nd
  refine mkCalU D sc__law_loose_rules (fun p hp vs H Q E h => ?_) (fun _ _ _ _ _ _ us hl => match us, hl with | [_, _, _], _ => rfl) (fun p hp f0 cdv A outer s H vs Q E hr h => ?_)
  · obtain ⟨D, L, rfl, _⟩ := h
    rfl
  obtain ⟨D, L, rfl, hd, hL1, hL9, k⟩ := h
  have hLL : L * L ≤ 81 := Nat.mul_le_mul hL9 hL9
  have hLL1 : 1 ≤ L * L := Nat.mul_le_mul hL1 hL1
  have hp1 := Pr.ge (p := p)
  have hp2 := Pr.le (p := p)
  refine ⟨_, (pss_cons (ps_par (i := 3) (j := 4) rfl nd rfl rfl (by decide) rfl rfl (pa_cons (pe_op op_mul (pv 2) (pv 2)) (pa_cons (pe_lst pa_nil) pa_nil)) (by rfl))
    (pss_cons (ps_for PassesOwn.never rfl (pi_range1 rfl T.range (pa_cons (pe_op op_add pe_int (pe_c c__law_take hr (by decide) rfl (pa_cons (pv 0) (pa_cons (pe_callB (call_min2 rfl) (by rfl) T.min (by decide +kernel) (pa_cons (pv 3) (pa_cons pe_int pa_nil))) pa_nil)))) pa_nil)) (pg_name (i := 5) nd rfl (Or.inl rfl)) 
      (pss_cons (ps_set (i := 6) nd rfl (Or.inl rfl) (pe_op op_rep (pe_lst (pa_cons pe_int pa_nil)) (pv 3)))
      (pss_cons (ps_for PassesOwn.never rfl (pi_range1 rfl T.range (pa_cons (pe_op op_add pe_int (pe_c c__law_take hr (by decide) rfl (pa_cons (pv 0) (pa_cons pe_int pa_nil)))) pa_nil)) (pg_name (i := 7) nd rfl (Or.inl rfl)) 
        (pss_one (ps_asg (pe_op op_add pe_int (pe_c c__law_take hr (by decide) rfl (pa_cons (pv 0) (pa_cons (pe_op op_sub (pv 1) pe_int) pa_nil)))) (pg_sub (pv 6) (pe_c c__law_take hr (by decide) rfl (pa_cons (pv 0) (pa_cons (pv 3) pa_nil))) set_list))))
      (pss_one (ps_expr (pe_bm PySem.F.plainAttrs_list PySem.F.slot_list_append PySem.F.type_list_append mt_append (pv 4) (pa_cons (pv 6) pa_nil)))))))
    (pss_one (ps_ret (pv 4))))), ?_⟩
  walk_at "st"
  walk_at "go"
  rw [show ((L : Nat) : Int) * (L : Int) = ((L * L : Nat) : Int) from (Int.natCast_mul _ _).symm]
  refine ⟨by show 0 ≤ sizeLine; omega, fun fl hfl => ?_⟩
  walk_at "go"
  have e1 := Same.new (o := .lst []) hfl
  have f1 := Fr.of hd e1
  have hfl1 : (upd H fl (.lst [])) fl = some (.lst []) := upd_same
  generalize (upd H fl (.lst [])) = H1 at *
  refine r_for (r_rng1 ?_)
  walk_at "go"
  refine ⟨_, _, rfl, ?_⟩
  walk_at "go"
  have hmin : (if (5 : Int) < ((L * L : Nat) : Int) then (5 : Int) else ((L * L : Nat) : Int)) = ((min 5 (L * L) : Nat) : Int) := by
    by_cases q : (5 : Int) < ((L * L : Nat) : Int)
    · rw [if_pos q]; omega
    · rw [if_neg q]; omega
  rw [hmin]
  refine ⟨D, min 5 (L * L), rfl, f1.dr, by omega, by omega, fun i2 H2 hi2 f2 => ?_⟩
  walk_at "go"
  rw [show (1 : Int) + (i2 : Nat) = ((1 + i2 : Nat) : Int) by omega]
  refine ⟨_, rfl, by omega, by omega, ?_⟩
  rw [Int.toNat_natCast]
  have wk := walk_rng (1 + i2)
  refine for_it wk (fun i σ H' => Fr D H H' ∧ ∃ (v5 v6 v7 : Option V) (zs : List V), σ = [some (.ref D.a), some (.int p), some (.int L), some (.int (L * L : Nat)), some (.ref fl), v5, v6, v7] ∧ H' fl = some (.lst zs) ∧ Each ShV (List.replicate i (L * L)) zs (New H (hide fl H'))) ?_ (fun _ _ _ _ _ => trivial) ?_ ?_
  · exact ⟨f1.trans f2, _, _, _, [], rfl, f2.keep hd hfl hfl1, Each.nil⟩
  · rintro i x σ Hx H3 hi ⟨f3, v5, v6, v7, zs, rfl, hz, hE⟩ ⟨rfl, rfl⟩
    walk_at "go"
    refine ⟨by show 1 ≤ sizeLine; decide, fun z0 hz0 => ?_⟩
    walk_at "go"
    refine ⟨z0, _, _, rfl, rfl, upd_same, by omega, by omega, ?_, fun l hl => ?_⟩
    · rw [Int.toNat_natCast]
      have : (100000 : Nat) < sizeLine := by decide
      show 1 * (L * L) ≤ sizeLine
      omega
    rw [Int.toNat_natCast, intL_zero]
    have ez := Same.new (o := .lst [.int 0]) hz0
    have e4 := Same.trans ez (Same.new (o := .lst (intL (L * L) fun _ => 0)) hl)
    have hl3 := none_of ez hl
    have hl4 : (upd (upd H3 z0 (.lst [.int 0])) l (.lst (intL (L * L) fun _ => 0))) l = some (.lst (intL (L * L) fun _ => 0)) := upd_same
    generalize (upd (upd H3 z0 (.lst [.int 0])) l (.lst (intL (L * L) fun _ => 0))) = H4 at *
    have f4 := Fr.of f3.dr e4
    walk_at "go"
    refine r_for (r_rng1 ?_)
    walk_at "go"
    refine ⟨D, 3, rfl, f4.dr, by omega, by omega, fun i5 H5 hi5 f5 => ?_⟩
    walk_at "go"
    rw [show (1 : Int) + (i5 : Nat) = ((1 + i5 : Nat) : Int) by omega]
    refine ⟨_, rfl, by omega, by omega, ?_⟩
    rw [Int.toNat_natCast]
    have wk2 := walk_rng (1 + i5)
    refine for_it wk2 (fun j σ H' => Fr D H3 H' ∧ ∃ (v7 : Option V) (F : Nat → Int), σ = [some (.ref D.a), some (.int p), some (.int L), some (.int (L * L : Nat)), some (.ref fl), some (.int (i : Nat)), some (.ref l), v7] ∧ H' l = some (.lst (intL (L * L) F))) ?_ (fun _ _ _ _ _ => trivial) ?_ ?_
    · exact ⟨f4.trans f5, _, _, rfl, f5.keep f3.dr hl3 hl4⟩
    · rintro j x σ Hy H6 hj ⟨f6, v7, F, rfl, hF⟩ ⟨rfl, rfl⟩
      walk_at "go"
      rw [show ((p : Nat) : Int) - 1 = ((p - 1 : Nat) : Int) by omega]
      refine ⟨D, p - 1, rfl, f6.dr, by omega, by omega, fun i7 H7 hi7 f7 => ?_⟩
      walk_at "go"
      refine ⟨D, L * L, rfl, f7.dr, by omega, by omega, fun i8 H8 hi8 f8 => ?_⟩
      have f78 := f7.trans f8
      refine r_set (f78.keep f3.dr hl3 hF) (by rw [intL_len]; exact hi8) ?_
      rw [intL_set]
      exact ⟨Fr.mut f3.dr (f6.trans f78) hl3, _, _, rfl, upd_same⟩
    · rintro σ H6 ⟨f6, v7, F, rfl, hF⟩
      walk_at "go"
      have hsh : ShV (L * L) (.ref l) (New H3 H6) := ⟨(List.range (L * L)).map F, by simp, l, _, rfl, by rw [New.at_ hl3]; exact hF, intL_each⟩
      obtain ⟨g1, g2, g3⟩ := add_row hd hfl f3 hz hE f6 hsh
      refine ⟨.inl ⟨rfl, _, SqL.of g2⟩, ?_⟩
      walk_at "go"
      refine ⟨fl, zs, _, rfl, rfl, g2, sl _ (by rw [hE.len, List.length_replicate]; omega), ?_⟩
      exact ⟨g1, _, _, _, _, rfl, upd_same, g3⟩
  · rintro σ H3 ⟨f3, v5, v6, v7, zs, rfl, hz, hE⟩
    walk_at "go"
    obtain ⟨nss, q1, q2, q3⟩ := shp_rows (n := L * L) (fun k hk => (List.mem_replicate.mp hk).2) hE
    rw [List.length_replicate] at q1
    exact k nss _ H3 f3 q2 (by omega) ⟨fl, zs, rfl, by rw [New.at_ hfl]; exact hz, q3.mono (New.mono hide_le)⟩
end
section
variable {P : Program} {w : World} {K : PySem.W.Frag} {mg : Str → Option Value} {base : Heap} {d : Ad} {p : Nat} [Pr p]
/-! ### what is shown -/
def PrintOk (d : PyData) : Prop := d.showable = true ∧ d.hasDict = false ∧ d.depth ≤ 20 ∧ d.shown.length ≤ sizeLine
theorem shown_small : ∀ i : Fin 100, (PyData.shown (.int (i.val : Int))).length ≤ 8 := by decide +kernel
theorem show_ints : ∀ ns : List Int, (∀ x ∈ ns, 0 ≤ x ∧ x < 100) → PyData.showableAll (ns.map PyData.int) = true ∧ PyData.hasDictAll (ns.map PyData.int) = false ∧ PyData.leavesShortAll 8 (ns.map PyData.int) = true ∧ PyData.bulkAll (ns.map PyData.int) = ns.length
  | [], _ => ⟨rfl, rfl, rfl, rfl⟩
  | n :: r, h => by
    obtain ⟨h1, h2, h3, h4⟩ := show_ints r fun x hx => h x (List.mem_cons_of_mem _ hx)
    obtain ⟨q1, q2⟩ := h n List.mem_cons_self
    have hn : n = ((n.toNat : Nat) : Int) := by omega
    have hs := shown_small ⟨n.toNat, by omega⟩
    rw [← hn] at hs
    have hl : n.natAbs.log2 < 1920 := by
      have : n.natAbs < 2 ^ 1920 := Nat.lt_of_lt_of_le (show n.natAbs < 2 ^ 7 by omega) (Nat.pow_le_pow_right (by omega) (by omega))
      rcases Nat.eq_zero_or_pos n.natAbs with z | z
      · rw [z]; decide
      · exact (Nat.log2_lt (by omega)).mpr this
    refine ⟨?_, ?_, ?_, ?_⟩
    · show (decide (n.natAbs.log2 < 1920) && PyData.showableAll (r.map PyData.int)) = true
      rw [h1, decide_eq_true hl]; rfl
    · show (false || PyData.hasDictAll (r.map PyData.int)) = false
      rw [h2]; rfl
    · show (decide ((PyData.shown (.int n)).length ≤ 8) && PyData.leavesShortAll 8 (r.map PyData.int)) = true
      rw [h3, decide_eq_true hs]; rfl
    · show 0 + 1 + PyData.bulkAll (r.map PyData.int) = r.length + 1
      rw [h4]; omega
theorem show_rows : ∀ nss : List (List Int), (∀ ns ∈ nss, ns.length ≤ 100 ∧ ∀ x ∈ ns, 0 ≤ x ∧ x < 100) → PyData.showableAll (nss.map datI) = true ∧ PyData.hasDictAll (nss.map datI) = false ∧ PyData.leavesShortAll 8 (nss.map datI) = true ∧ PyData.bulkAll (nss.map datI) ≤ nss.length * 101
  | [], _ => ⟨rfl, rfl, rfl, Nat.le_refl _⟩
  | n :: r, h => by
    obtain ⟨h1, h2, h3, h4⟩ := show_rows r fun x hx => h x (List.mem_cons_of_mem _ hx)
    obtain ⟨q0, q⟩ := h n List.mem_cons_self
    obtain ⟨k1, k2, k3, k4⟩ := show_ints n q
    refine ⟨?_, ?_, ?_, ?_⟩
    · show (PyData.showableAll (n.map PyData.int) && PyData.showableAll (r.map datI)) = true
      rw [h1, k1]; rfl
    · show (PyData.hasDictAll (n.map PyData.int) || PyData.hasDictAll (r.map datI)) = false
      rw [h2, k2]; rfl
    · show (PyData.leavesShortAll 8 (n.map PyData.int) && PyData.leavesShortAll 8 (r.map datI)) = true
      rw [h3, k3]; rfl
    · show PyData.bulkAll (n.map PyData.int) + 1 + PyData.bulkAll (r.map datI) ≤ (r.length + 1) * 101
      rw [k4]; omega
theorem print_rows {nss : List (List Int)} (hl : nss.length ≤ 100) (h : ∀ ns ∈ nss, ns.length ≤ 100 ∧ ∀ x ∈ ns, 0 ≤ x ∧ x < 100) : PrintOk (datR nss) := by
  obtain ⟨h1, h2, h3, h4⟩ := show_rows nss h
  have h5 := PyData.shown_le_bulk 8 (by omega) (datR nss) h3
  have h6 : (datR nss).bulk = PyData.bulkAll (nss.map datI) := rfl
  refine ⟨h1, h2, ?_, ?_⟩
  · have := dep_rows nss
    unfold datR
    rw [PyData.depth]
    omega
  · have : (100000 : Nat) < sizeLine := by decide
    have : (200000 : Nat) < sizeLine := by decide
    omega
theorem print_two {i j : Int} (hi : 0 ≤ i ∧ i < 100) (hj : 0 ≤ j ∧ j < 100) : PrintOk (.list [.int i, .int j]) := by
  obtain ⟨h1, h2, h3, h4⟩ := show_ints [i, j] fun x hx => by
    simp only [List.mem_cons, List.not_mem_nil, or_false] at hx
    rcases hx with rfl | rfl
    · exact hi
    · exact hj
  have h5 := PyData.shown_le_bulk 8 (by omega) (.list [.int i, .int j]) h3
  have h6 : (PyData.list [.int i, .int j]).bulk = 2 := rfl
  refine ⟨h1, h2, ?_, ?_⟩
  · simp [PyData.depth, PyData.depthAll]
  · have : (100000 : Nat) < sizeLine := by decide
    omega
theorem Bk.rows_small (B : Bk p) : ∀ ns ∈ B.rows, ns.length ≤ 100 ∧ ∀ x ∈ ns, 0 ≤ x ∧ x < 100 := fun ns h => by
  obtain ⟨e, _, rfl⟩ := List.mem_map.mp h
  have h9 : B.L * B.L ≤ 81 := Nat.mul_le_mul B.hi B.hi
  refine ⟨by rw [rowI_len]; omega, fun x hx => ?_⟩
  obtain ⟨k, _, rfl⟩ := List.mem_map.mp hx
  have h1 := iv_nonneg (e.2 k)
  have h2 := iv_lt (e.2 k)
  have h3 := Pr.le (p := p)
  omega
theorem Bk.print (B : Bk p) : PrintOk (datR B.rows) := print_rows (by
  have := B.len
  have h3 : B.L * B.L ≤ 81 := Nat.mul_le_mul B.hi B.hi
  unfold Bk.rows
  rw [List.length_map]
  omega) B.rows_small
/-! ### defs that are called where no text is in the making -/
structure CalG (P : Program) (w : World) (K : PySem.W.Frag) (mg : Str → Option Value) (base : Heap) (k : Nat) (x : Str) (sp : Sp) : Prop where
  ex : ∃ (f : Addr) (fd : FuncData) (ps : List Str), FnG P w K mg base CX0 k f fd ps sp ∧ mg x = some (.ref f) ∧ PySem.W.keepIn K (.ref f) = true ∧ Binds K fd ps []
theorem mkCalG {x : Str} {st : Stmt} {N ps : List Str} {k : Nat} {sp : Sp} (D : Df K mg x st) (S : FnScope N ps (defScope st)) (len : ∀ vs H Q E, sp vs H Q E → vs.length = ps.length)
    (hb : ∀ (kV doc pm : Value) (an : Option Addr) (cdv ct : Value) (us : List Value), us.length = ps.length → bindArgs (PySem.W.fnOf x x (defArgs st) (defBody st) (defScope st) .none kV doc pm an cdv ct) ⟨us, []⟩ = pure (ps.zip us))
    (hbody : ∀ (f : Addr) (cdv : Value) (A : Around) (outer : List Env) (s : Shared) (H : Hp) (vs : List V) (Q : VK) (E : XK), (A.deeper (envOfC x (defScope st) s.heap.objs.size f cdv)).guards = some [] → Room k (A.deeper (envOfC x (defScope st) s.heap.objs.size f cdv)) → sp vs H Q E →
      ∃ t, PSs (cxOf CX0 P w K mg base N x (defScope st) f cdv A outer s H E).nox (defBody st) t ∧ t { nx := fun _ H' => Q .non H', rt := Q } (start N vs) H) : CalG P w K mg base (k + 1) x sp := by
  obtain ⟨f, fd, F, hm⟩ := D.ex
  refine ⟨⟨f, fd, ps, ?_, hm, F.kp, F.bindsN hb⟩⟩
  obtain ⟨oc, od, dV, kV, doc, pm, an, cdv, ct, osl, rfl, lk, hcd, _, _⟩ := F.ex
  refine fn_ofG lk hcd S len fun A outer s H vs Q E hg hr hs => ?_
  obtain ⟨t, h1, h2⟩ := hbody f cdv A outer s H vs Q E hg hr hs
  exact ⟨t, h1.nox, h2⟩
theorem mkCalGU {x : Str} {st : Stmt} {N ps : List Str} {k : Nat} {sp : ∀ p : Nat, Pr p → Sp} (D : Df K mg x st) (S : FnScope N ps (defScope st)) (len : ∀ p hp vs H Q E, sp p hp vs H Q E → vs.length = ps.length)
    (hb : ∀ (kV doc pm : Value) (an : Option Addr) (cdv ct : Value) (us : List Value), us.length = ps.length → bindArgs (PySem.W.fnOf x x (defArgs st) (defBody st) (defScope st) .none kV doc pm an cdv ct) ⟨us, []⟩ = pure (ps.zip us))
    (hbody : ∀ (p : Nat) (hp : Pr p) (f : Addr) (cdv : Value) (A : Around) (outer : List Env) (s : Shared) (H : Hp) (vs : List V) (Q : VK) (E : XK), (A.deeper (envOfC x (defScope st) s.heap.objs.size f cdv)).guards = some [] → Room k (A.deeper (envOfC x (defScope st) s.heap.objs.size f cdv)) → sp p hp vs H Q E →
      ∃ t, PSs (cxOf CX0 P w K mg base N x (defScope st) f cdv A outer s H E).nox (defBody st) t ∧ t { nx := fun _ H' => Q .non H', rt := Q } (start N vs) H) : CalG P w K mg base (k + 1) x (U sp) :=
  mkCalG D S (fun vs H Q E ⟨p, hp, h⟩ => len p hp vs H Q E h) hb fun f cdv A outer s H vs Q E hg hr ⟨p, hp, h⟩ => hbody p hp f cdv A outer s H vs Q E hg hr h
theorem pe_cG {X : Cx} {k j : Nat} {x : Str} {sp : Sp} {p pos : Pos} {e : Expr} {es : List Expr} {t : TA} (c : CalG X.prog X.w X.K X.mg X.base k x sp) (hgd : X.A.guards = some []) (hr : Room j X.A) (hk : k ≤ j) (hg : Gl X x) (ha : PA X (e :: es) t)
    (hdb : (x == ("__debug__" : Str)) = false := by decide) (he : starEach (e :: es) X.env = (false, eval e X.env) :: starEach es X.env := by rfl) (hpl : (backTo pos (starEach es X.env)).any (·.1) = false := by rfl) :
    PE X (.Call (.Name x p) (e :: es) [] pos) (tCall sp [] C8.E0 t) := by
  obtain ⟨f, fd, ps, F, hm, kp, b⟩ := c.ex
  exact pe_callG F hgd (hr.mono hk) hg hm kp b .nil C8.pass0 ha hdb he hpl
/-! ### cases -/
def csK (B : Bk p) (r : Addr) : List (Key × V) := [(Sum.inr "field", .int p), (Sum.inr "letters", .int (B.L : Nat)), (Sum.inr "rules", .ref r)]
def CaseV (B : Bk p) (y : V) (H : Hp) : Prop := ∃ a r, y = .ref a ∧ H a = some (.dK (csK B r)) ∧ LstOf (TupOf IntV) B.rows (.ref r) H
instance : Mon (CaseV (p := p)) := ⟨fun e ⟨a, r, h1, h2, h3⟩ => ⟨a, r, h1, e a _ h2, Mon.mono e h3⟩⟩
theorem get_field {B : Bk p} {H : Hp} {a r : Addr} (h : H a = some (.dK (csK B r))) : DGet H a (.str "field") (some (.int p)) := .inl ⟨_, Sum.inr "field", .inl h, rfl, by rfl⟩
theorem get_letters {B : Bk p} {H : Hp} {a r : Addr} (h : H a = some (.dK (csK B r))) : DGet H a (.str "letters") (some (.int (B.L : Nat))) := .inl ⟨_, Sum.inr "letters", .inl h, rfl, by rfl⟩
theorem get_rules {B : Bk p} {H : Hp} {a r : Addr} (h : H a = some (.dK (csK B r))) : DGet H a (.str "rules") (some (.ref r)) := .inl ⟨_, Sum.inr "rules", .inl h, rfl, by rfl⟩
theorem Bk.rl (B : Bk p) : B.rows.length ≤ 81 := by
  have := B.len
  have h3 : B.L * B.L ≤ 81 := Nat.mul_le_mul B.hi B.hi
  unfold Bk.rows
  rw [List.length_map]
  omega
abbrev s__law_case_of : Stmt := top 82
theorem sc__law_case_of : FnScope ["_law_field_here", "_law_letters", "_law_rows"] ["_law_field_here", "_law_letters", "_law_rows"] (defScope s__law_case_of) := ⟨rfl, rfl, rfl, by decide +kernel, rfl, by decide +kernel, by decide +kernel⟩
def spCaseOf (p : Nat) [Pr p] : Sp := fun vs H Q _ => ∃ (y : V) (nss : List (List Int)) (L : Nat), vs = [.int p, .int L, y] ∧ LstOf (LstOf IntV) nss y H ∧ (∀ ns ∈ nss, ns.length = L * L) ∧ 1 ≤ L ∧ L ≤ 9 ∧ nss.length ≤ 1000 ∧
  ∀ (B : Bk p) y' H', Same H H' → B.L = L → CaseV B y' (New H H') → Q y' H'
theorem ok__law_case_of (T : Tx K mg d) (D : Df K mg "_law_case_of" s__law_case_of) (c__law_tidied : Cal P w K mg base 3 "_law_tidied" (U fun p _ => spTidied p) []) : Cal P w K mg base 4 "_law_case_of" (U fun p _ => spCaseOf p) [] := by
  have nd := sc__law_case_of.nd
  refine mkCalU D sc__law_case_of (fun p hp vs H Q E h => ?_) (fun _ _ _ _ _ _ us hl => match us, hl with | [_, _, _], _ => rfl) (fun p hp f0 cdv A outer s H vs Q E hr h => ?_)
  · obtain ⟨y, nss, L, rfl, _⟩ := h
    rfl
  obtain ⟨y, nss, L, rfl, hy, hns, hL1, hL9, hl, k⟩ := h
  have hLL : L * L ≤ 81 := Nat.mul_le_mul hL9 hL9
  refine ⟨_, (pss_one (ps_ret (pe_disp (pps_cons pe_str (pv 0) (pps_cons pe_str (pv 1) (pps_cons pe_str (pe_c c__law_tidied hr (by decide) rfl (pa_cons (pv 0) (pa_cons (pe_op op_mul (pv 1) (pv 1)) (pa_cons (pv 2) pa_nil)))) pps_nil))) rfl rfl (by simp) (by decide)))), ?_⟩
  walk_at "st"
  walk_at "go"
  intro a ha
  walk_at "go"
  have ea := Same.new (o := .dK []) ha
  rw [show ((L : Nat) : Int) * (L : Int) = ((L * L : Nat) : Int) from (Int.natCast_mul _ _).symm]
  refine ⟨y, nss, L * L, rfl, lst_seq (Mon.mono ea hy), hns, by omega, hl, fun hs y1 H1 e1 R srt bd sp h1 => ?_⟩
  obtain ⟨r, rys, rfl, hr0, hre⟩ := id h1
  walk_at "go"
  have ha1 := e1 a _ upd_same
  refine ⟨ha1, csK (⟨L, hs, R, srt, bd, hL1, hL9⟩ : Bk p) r, rfl, by show 3 ≤ 15; omega, ?_⟩
  have hra : r ≠ a := fun z => by have := New.old hr0; rw [z, upd_same] at this; cases this
  refine k ⟨L, hs, R, srt, bd, hL1, hL9⟩ _ _ (Same.mut (Same.trans ea e1) ha) rfl ⟨a, r, rfl, by rw [New.at_ ha]; exact upd_same, Mon.mono (fun b u hb => ?_) h1⟩
  have hb0 := New.old hb
  have hba : b ≠ a := fun z => by rw [z, upd_same] at hb0; cases hb0
  rw [New.at_ (by rw [upd_ne hba] at hb0; exact hb0), upd_ne hba]
  exact New.le b u hb
abbrev s__law_shadowed : Stmt := top 85
theorem sc__law_shadowed : FnScope ["_law_case", "_law_size"] ["_law_case"] (defScope s__law_shadowed) := ⟨rfl, rfl, rfl, by decide +kernel, rfl, by decide +kernel, by decide +kernel⟩
def spShadowed (p : Nat) [Pr p] : Sp := fun vs H Q _ => ∃ (y : V) (B : Bk p), vs = [y] ∧ CaseV B y H ∧
  ∀ (Bs : Bk p) y' H', Same H H' → Bs.L = B.L → (∀ f, SpanH Bs.hs f ↔ Ann (B.L * B.L) (SpanH B.hs) f) → CaseV Bs y' (New H H') → Q y' H'
theorem ok__law_shadowed (T : Tx K mg d) (D : Df K mg "_law_shadowed" s__law_shadowed) (c__law_dark : Cal P w K mg base 4 "_law_dark" (U fun p _ => spLDark p) []) : Cal P w K mg base 5 "_law_shadowed" (U fun p _ => spShadowed p) [] := by
  have nd := sc__law_shadowed.nd
  refine mkCalU D sc__law_shadowed (fun p hp vs H Q E h => ?_) (fun _ _ _ _ _ _ us hl => match us, hl with | [_], _ => rfl) (fun p hp f0 cdv A outer s H vs Q E hr h => ?_)
  · obtain ⟨y, B, rfl, _⟩ := h
    rfl
  obtain ⟨y, B, rfl, ⟨c, r0, rfl, hc, hr1⟩, k⟩ := h
  have hu := hu_of hr
  have hL1 := B.lo
  have hL9 := B.hi
  have hLL : B.L * B.L ≤ 81 := Nat.mul_le_mul hL9 hL9
  refine ⟨_, (pss_cons (ps_set (i := 1) nd rfl (Or.inl rfl) (pe_op op_mul (pe_dget hu (pv 0) pe_str (fun _ _ => rfl)) (pe_dget hu (pv 0) pe_str (fun _ _ => rfl))))
    (pss_one (ps_ret (pe_disp (pps_cons pe_str (pe_dget hu (pv 0) pe_str (fun _ _ => rfl)) (pps_cons pe_str (pe_dget hu (pv 0) pe_str (fun _ _ => rfl)) (pps_cons pe_str (pe_c c__law_dark hr (by decide) rfl (pa_cons (pe_dget hu (pv 0) pe_str (fun _ _ => rfl)) (pa_cons (pv 1) (pa_cons (pe_dget hu (pv 0) pe_str (fun _ _ => rfl)) pa_nil)))) pps_nil))) rfl rfl (by simp) (by decide))))), ?_⟩
  walk_at "st"
  walk_at "go"
  refine ⟨c, _, rfl, get_letters hc, ?_⟩
  walk_at "go"
  refine ⟨c, _, rfl, get_letters hc, ?_⟩
  walk_at "go"
  rw [show ((B.L : Nat) : Int) * (B.L : Int) = ((B.L * B.L : Nat) : Int) from (Int.natCast_mul _ _).symm]
  intro a ha
  have ea := Same.new (o := .dK []) ha
  have hc2 := ea c _ hc
  walk_at "go"
  refine ⟨c, _, rfl, get_field hc2, ?_⟩
  walk_at "go"
  refine ⟨c, _, rfl, get_letters hc2, ?_⟩
  walk_at "go"
  refine ⟨c, _, rfl, get_field hc2, ?_⟩
  walk_at "go"
  refine ⟨c, _, rfl, get_rules hc2, ?_⟩
  walk_at "go"
  refine ⟨.ref r0, B.rows, B.L * B.L, rfl, lst_seqT (Mon.mono ea hr1), B.rows_len, by omega, by have := B.rl; omega, fun hs y1 H1 e1 R srt bd sp h1 => ?_⟩
  obtain ⟨r, rys, rfl, hr0, hre⟩ := id h1
  walk_at "go"
  have ha1 := e1 a _ upd_same
  refine ⟨ha1, csK (⟨B.L, hs, R, srt, bd, hL1, hL9⟩ : Bk p) r, rfl, by show 3 ≤ 15; omega, ?_⟩
  have hra : r ≠ a := fun z => by have := New.old hr0; rw [z, upd_same] at this; cases this
  refine k ⟨B.L, hs, R, srt, bd, hL1, hL9⟩ _ _ (Same.mut (Same.trans ea e1) ha) rfl (fun f => ?_) ⟨a, r, rfl, by rw [New.at_ ha]; exact upd_same, Mon.mono (fun b u hb => ?_) h1⟩
  · rw [sp, B.vec]
    exact ann_congr (spanH_L B.hs) f
  · have hb0 := New.old hb
    have hba : b ≠ a := fun z => by rw [z, upd_same] at hb0; cases hb0
    rw [New.at_ (by rw [upd_ne hba] at hb0; exact hb0), upd_ne hba]
    exact New.le b u hb
def shortN (L : Nat) : Nat := if L = 1 then 6 else if L = 2 then 5 else if L = 3 then 3 else if L = 4 then 3 else 2
abbrev s__law_short : Stmt := top 88
theorem sc__law_short : FnScope ["_law_letters"] ["_law_letters"] (defScope s__law_short) := ⟨rfl, rfl, rfl, by decide +kernel, rfl, by decide +kernel, by decide +kernel⟩
def spShort : Sp := fun vs H Q _ => ∃ L : Nat, vs = [.int L] ∧ 1 ≤ L ∧ L ≤ 4 ∧ ∀ H', Same H H' → Q (.int (shortN L : Nat)) H'
theorem ok__law_short (T : Tx K mg d) (D : Df K mg "_law_short" s__law_short) : Cal P w K mg base 1 "_law_short" (spShort) [] := by
  have nd := sc__law_short.nd
  refine mkCal D sc__law_short (fun vs H Q E h => ?_) (fun _ _ _ _ _ _ us hl => match us, hl with | [_], _ => rfl) (fun f0 cdv A outer s H vs Q E hr h => ?_)
  · obtain ⟨L, rfl, _⟩ := h
    rfl
  obtain ⟨L, rfl, hL1, hL4, k⟩ := h
  have hu := hu_of hr
  refine ⟨_, (pss_one (ps_ret (pe_dget2 hu (pe_disp (pps_cons pe_int pe_int (pps_cons pe_int pe_int (pps_cons pe_int pe_int (pps_cons pe_int pe_int pps_nil)))) rfl rfl (by simp) (by decide)) (pv 0) pe_int ⟨rfl, rfl, rfl, rfl⟩))), ?_⟩
  walk_at "st"
  walk_at "go"
  intro a ha
  walk_at "go"
  refine ⟨upd_same, [(Sum.inl 1, .int 6), (Sum.inl 2, .int 5), (Sum.inl 3, .int 3), (Sum.inl 4, .int 3)], rfl, by show 4 ≤ 15; omega, ?_⟩
  rw [upd_upd]
  have ea := Same.new (o := .dK (mergeK [] [(Sum.inl 1, .int 6), (Sum.inl 2, .int 5), (Sum.inl 3, .int 3), (Sum.inl 4, .int 3)])) ha
  refine ⟨a, rfl, .inl ⟨_, .inl upd_same⟩, ?_⟩
  walk_at "go"
  refine ⟨_, .inl ⟨_, Sum.inl (L : Int), .inl upd_same, rfl, rfl⟩, ?_⟩
  have hk := k _ ea
  match L, hL1, hL4, hk with
  | 1, _, _, hk => exact hk
  | 2, _, _, hk => exact hk
  | 3, _, _, hk => exact hk
  | 4, _, _, hk => exact hk
abbrev s__law_is_rules : Stmt := top 84
theorem sc__law_is_rules : FnScope ["_law_thing", "_law_case", "_law_row"] ["_law_thing", "_law_case"] (defScope s__law_is_rules) := ⟨rfl, rfl, rfl, by decide +kernel, rfl, by decide +kernel, by decide +kernel⟩
def spIsR (p : Nat) [Pr p] (d : Ad) : Sp := fun vs H Q _ => ∃ (y z : V) (B B' : Bk p), vs = [y, z] ∧ BookV d B y H ∧ CaseV B' z H ∧ B.L = B'.L ∧ B.rows = B'.rows ∧ ∀ H', Same H H' → Q (.bl true) H'
theorem ok__law_is_rules (T : Tx K mg d) (D : Df K mg "_law_is_rules" s__law_is_rules) : CalG P w K mg base 1 "_law_is_rules" (U fun p _ => spIsR p d) := by
  have nd := sc__law_is_rules.nd
  refine mkCalGU D sc__law_is_rules (fun p hp vs H Q E h => ?_) (fun _ _ _ _ _ _ us hl => match us, hl with | [_, _], _ => rfl) (fun p hp f0 cdv A outer s H vs Q E hgd hr h => ?_)
  · obtain ⟨y, z, B, B', rfl, _⟩ := h
    rfl
  obtain ⟨y, z, B, B', rfl, hy, hz, hLL, hRR, k⟩ := h
  have hu := hu_of hr
  obtain ⟨b, dx, t, rfl, hb, ht⟩ := id hy
  obtain ⟨c, r, rfl, hc, hrl⟩ := id hz
  have hp2 := Pr.le (p := p)
  have h9 := B.hi
  refine ⟨_, (pss_cons (ps_if (PW.pt (pw_or (pt_not (pt_val (pe_callB (call_isC T.insC) (by rfl) T.isinstance (by decide +kernel) (pa_cons (pv 0) (pa_cons (g_Rules T) pa_nil))))) (pw_or1 (pt_cmpR op_ne (pe_callB (cr_reprD hgd hr.units) (by rfl) T.repr (by decide +kernel) (pa_cons (pe_lst (pa_cons (pe_fldK (K := K) (pv 0) rfl) (pa_cons (pe_fldK (K := K) (pv 0) rfl) pa_nil))) pa_nil)) (pe_callB (cr_reprD hgd hr.units) (by rfl) T.repr (by decide +kernel) (pa_cons (pe_lst (pa_cons (pe_dget hu (pv 1) pe_str (fun _ _ => rfl)) (pa_cons (pe_dget hu (pv 1) pe_str (fun _ _ => rfl)) pa_nil))) pa_nil)) (nomark _))))) 
      (pss_one (ps_ret pe_bl)) pss_nil)
    (pss_one (ps_ret (pe_cmpR op_eq (pe_callB (cr_reprD hgd hr.units) (by rfl) T.repr (by decide +kernel) (pa_cons (pe_fldK (K := K) (pv 0) rfl) pa_nil)) (pe_callB (cr_reprD hgd hr.units) (by rfl) T.repr (by decide +kernel) (pa_cons (pe_callTy (call_tupK (K := K)) (by rfl) T.tuple_ (by decide +kernel) (pa_cons (pe_lc (own := [("_law_row", 2)]) (g := gName 2) (tt := tYes) rfl nd (pi_listK (K := K) (pe_dget hu (pv 1) pe_str (fun _ _ => rfl))) (blkOk_by (by kernel_rfl)) (fun _ _ _ _ _ => (pg_name (i := 2) nd rfl (Or.inl rfl))) (fun _ _ _ _ _ => pts_nil) (fun _ _ _ _ _ => (pe_callTy (call_tupK (K := K)) (by rfl) T.tuple_ (by decide +kernel) (pa_cons (pv 2) pa_nil)))) pa_nil)) pa_nil)) (nomark _))))), ?_⟩
  walk_at "st"
  walk_at "go"
  refine ⟨b, dx, _, rfl, hb, r_bl (r_false ?_)⟩
  walk_at "go"
  refine ⟨b, d.C, dx, _, _, rfl, hb, T.clR, T.nP, rfl, ?_⟩
  walk_at "go"
  refine ⟨b, d.C, dx, _, _, rfl, hb, T.clR, T.nL, rfl, ?_⟩
  walk_at "go"
  refine ⟨by show 2 ≤ sizeLine; decide, fun l1 hl1 => ?_⟩
  have e1 := Same.new (o := .lst [.int (p : Nat), .int (B.L : Nat)]) hl1
  obtain ⟨q1, q2, q3, q4⟩ := print_two (i := (p : Nat)) (j := (B.L : Nat)) ⟨by omega, by omega⟩ ⟨by omega, by omega⟩
  refine ⟨l1, .list [.int (p : Nat), .int (B.L : Nat)], rfl, .lst (SqL.of upd_same) (.cons (.int _) (.cons (.int _) .nil)), q1, q2, q3, q4, ?_⟩
  walk_at "go"
  refine ⟨c, _, rfl, get_field (e1 c _ hc), ?_⟩
  walk_at "go"
  refine ⟨c, _, rfl, get_letters (e1 c _ hc), ?_⟩
  walk_at "go"
  refine ⟨by show 2 ≤ sizeLine; decide, fun l2 hl2 => ?_⟩
  have e2 := Same.new (o := .lst [.int (p : Nat), .int (B'.L : Nat)]) hl2
  have hp2' : Dp K (upd (upd H l1 (.lst [.int (p : Nat), .int (B.L : Nat)])) l2 (.lst [.int (p : Nat), .int (B'.L : Nat)])) (.ref l2) (.list [.int (p : Nat), .int (B.L : Nat)]) := by
    rw [hLL]
    exact .lst (SqL.of upd_same) (.cons (.int _) (.cons (.int _) .nil))
  refine ⟨l2, .list [.int (p : Nat), .int (B.L : Nat)], rfl, hp2', q1, q2, q3, q4, ?_⟩
  refine ⟨rfl, ?_⟩
  rw [decide_eq_true rfl]
  refine r_bl (r_false ?_)
  have e12 := Same.trans e1 e2
  clear hp2'
  generalize (upd (upd H l1 (.lst [.int (p : Nat), .int (B.L : Nat)])) l2 (.lst [.int (p : Nat), .int (B'.L : Nat)])) = H2 at *
  walk_at "go"
  refine ⟨b, d.C, dx, _, _, rfl, e12 b _ hb, T.clR, T.nR, rfl, ?_⟩
  walk_at "go"
  obtain ⟨r1, r2, r3, r4⟩ := B.print
  refine ⟨t, datR B.rows, rfl, dp_rows (Mon.mono e12 ht), r1, r2, r3, r4, ?_⟩
  walk_at "go"
  refine r_lc (r_itL hrl e12 (fun Q q => by walk_at "go"; exact ⟨c, _, rfl, get_rules (e12 c _ hc), q⟩) fun J ys hys wk => ?_)
  have hl81 := B'.rl
  refine lc_rel (wk.mono (fun H' (e : Same H2 H') => Same.trans e12 e) fun _ _ _ _ _ _ h => h) (fun _ => true) (fun i y H => TupOf IntV (B'.rows.getD i []) y H) (fun i y H H' e h => Mon.mono e h) (fun _ h => h) (by omega) (fun i x H3 H4 kY kN hi e z hY hN => ?_) (fun D1 H3 ys1 hD1 e3 hy1 hE1 => ?_)
  · obtain ⟨rfl, hx⟩ := z
    obtain ⟨ns, hns, hx2⟩ := hys.yet hx
    rw [getD_some hns] at hY
    obtain ⟨tb, tys, rfl, htb, hte⟩ := hx2
    have htb2 := e12 tb _ htb
    have htb3 := e tb _ htb2
    walk_at "lc"
    walk_at "go"
    refine ⟨rfl, ?_⟩
    walk_at "go"
    refine ⟨tb, tys, rfl, .inr ⟨.inl (.inl htb3), ?_⟩⟩
    refine hY _ _ rfl (Same.refl _) fun d1 hd1 _ => ⟨tb, tys, rfl, by rw [hide_ne (ne_of_none htb2 hd1)]; exact htb3, ?_⟩
    rw [each_int hte]
    exact int_each
  · rw [tk_all] at hE1
    have hE2 := hE1.each (R := TupOf IntV) (g := fun i => B'.rows.getD i []) (Hx := H3) fun i _ y h => h
    rw [map_range_get] at hE2
    refine ⟨D1, ys1, rfl, .inl ⟨SqL.of hy1, fun tt htt => ?_⟩⟩
    have et := Same.new (o := .tup ys1) htt
    walk_at "go"
    have hdp : Dp K (upd H3 tt (.tup ys1)) (.ref tt) (datR B.rows) := by
      rw [hRR]
      exact dp_rows ⟨tt, ys1, rfl, upd_same, hE2.mono et⟩
    refine ⟨tt, datR B.rows, rfl, hdp, r1, r2, r3, r4, rfl, ?_⟩
    rw [decide_eq_true rfl]
    exact k _ (Same.trans e12 (Same.trans e3 et))
end
section
variable {P : Program} {w : World} {K : PySem.W.Frag} {mg : Str → Option Value} {base : Heap} {d : Ad} {p : Nat} [Pr p]
theorem each_perm {α : Type} {R : α → V → Hp → Prop} {H : Hp} {ys xs : List V} (h : ys.Perm xs) : ∀ fs : List α, Each R fs xs H → ∃ gs : List α, gs.Perm fs ∧ Each R gs ys H := by
  have tl : ∀ {f : α} {fs : List α} {x : V} {xs : List V}, Each R (f :: fs) (x :: xs) H → R f x H ∧ Each R fs xs H := fun {f fs x xs} h => ⟨h.at_ 0 f x rfl rfl, by have := h.len; simpa using this, fun i f y h1 h2 => h.at_ (i + 1) f y h1 h2⟩
  induction h with
  | nil => exact fun fs h => ⟨fs, List.Perm.refl _, h⟩
  | cons x _ ih =>
    intro fs h
    cases fs with
    | nil => have := h.len; simp at this
    | cons f fs =>
      obtain ⟨h1, h2⟩ := tl h
      obtain ⟨gs, g1, g2⟩ := ih fs h2
      exact ⟨f :: gs, g1.cons f, g2.cons h1⟩
  | swap x y l =>
    intro fs h
    match fs, h with
    | [], h => have := h.len; simp at this
    | [_], h => have := h.len; simp at this
    | f :: g :: fs, h =>
      obtain ⟨h1, h2⟩ := tl h
      obtain ⟨h3, h4⟩ := tl h2
      exact ⟨g :: f :: fs, List.Perm.swap _ _ _, (h4.cons h1).cons h3⟩
  | trans _ _ ih1 ih2 =>
    intro fs h
    obtain ⟨gs, g1, g2⟩ := ih2 fs h
    obtain ⟨ks, k1, k2⟩ := ih1 gs g2
    exact ⟨ks, k1.trans g1, k2⟩
/-- a row told by numbers of the same rests -/
def RowR (p : Nat) [Pr p] (ns : List Int) (y : V) (H : Hp) : Prop := ∃ ms : List Int, ms.length = ns.length ∧ vecI (p := p) ms = vecI ns ∧ SeqOf IntV ms y H
instance : Mon (RowR p) := ⟨fun e ⟨ms, h1, h2, h3⟩ => ⟨ms, h1, h2, Mon.mono e h3⟩⟩
theorem row_rs {H : Hp} : ∀ {nss : List (List Int)} {ys : List V}, Each (RowR p) nss ys H → ∃ mss : List (List Int), mss.map (vecI (p := p)) = nss.map vecI ∧ mss.map List.length = nss.map List.length ∧ Each (SeqOf IntV) mss ys H
  | [], [], _ => ⟨[], rfl, rfl, Each.nil⟩
  | [], _ :: _, h => by have := h.len; simp at this
  | _ :: _, [], h => by have := h.len; simp at this
  | ns :: r, y :: ys, h => by
    obtain ⟨mss, h1, h2, h3⟩ := row_rs (nss := r) (ys := ys) ⟨by have := h.len; simpa using this, fun i f z q1 q2 => h.at_ (i + 1) f z q1 q2⟩
    obtain ⟨ms, q1, q2, q3⟩ := h.at_ 0 ns y rfl rfl
    exact ⟨ms :: mss, by rw [List.map_cons, List.map_cons, q2, h1], by rw [List.map_cons, List.map_cons, q1, h2], h3.cons q3⟩
theorem span_perm {l l' : List (Vec p)} (h : l.Perm l') (f : Vec p) : SpanL l f ↔ SpanL l' f :=
  ⟨Span.mono fun g hg => .of (h.mem_iff.mp hg), Span.mono fun g hg => .of (h.mem_iff.mpr hg)⟩
theorem span_more {l : List (Vec p)} {r : Vec p} (h : SpanL l r) (f : Vec p) : SpanL (l ++ [r]) f ↔ SpanL l f := by
  constructor
  · refine Span.mono fun g hg => ?_
    rcases List.mem_append.mp hg with hg | hg
    · exact .of hg
    · rw [List.mem_singleton.mp hg]; exact h
  · exact Span.mono fun g hg => .of (List.mem_append_left _ hg)
theorem book_same {B B' : Bk p} {y : V} {H : Hp} (hL : B'.L = B.L) (h : ∀ f, SpanH B'.hs f ↔ SpanH B.hs f) (hb : BookV d B' y H) : BookV d B y H := by
  obtain ⟨a, dx, t, rfl, ha, ht⟩ := hb
  rw [hL] at ha
  rw [Bk.rows_eq hL h] at ht
  exact ⟨a, dx, t, rfl, ha, ht⟩
theorem r_ixLast {K : PySem.W.Frag} {H : Hp} {Q : VK} {a : Addr} {x : V} {xs : List V} (h : SqL K H a xs) (hl : 1 ≤ xs.length) (hx : xs[xs.length - 1]? = some x) (q : Q x H) : rIxL K (.ref a) (.int (-1)) H Q :=
  ⟨a, xs, -1, x, rfl, rfl, h, by
    unfold atI ixN
    rw [if_neg (by omega), if_pos (by omega)]
    show xs[((-1 : Int) + (xs.length : Int)).toNat]? = some x
    rw [show ((-1 : Int) + (xs.length : Int)).toNat = xs.length - 1 by omega]
    exact hx, q⟩
theorem seq_case {H : Hp} {B : Bk p} {r : Addr} (h : LstOf (TupOf IntV) B.rows (.ref r) H) : ∃ ys, H r = some (.lst ys) ∧ Each (TupOf IntV) B.rows ys H := by
  obtain ⟨b, ys, e, h1, h2⟩ := h
  cases e
  exact ⟨ys, h1, h2⟩
abbrev s__law_made_rules : Stmt := top 83
theorem sc__law_made_rules : FnScope ["_law_draw", "_law_case", "_law_rows", "_law_row", "_law_here", "_law_there"] ["_law_draw", "_law_case"] (defScope s__law_made_rules) := ⟨rfl, rfl, rfl, by decide +kernel, rfl, by decide +kernel, by decide +kernel⟩
def spMadeR (p : Nat) [Pr p] (d : Ad) : Sp := fun vs H Q _ => ∃ (D : Drw) (y : V) (B : Bk p), vs = [.ref D.a, y] ∧ DrawV D H ∧ CaseV B y (hD D H) ∧ ∀ y' H', Fr D H H' → BookV d B y' (New H H') → Q y' H'
theorem ok__law_made_rules (T : Tx K mg d) (D : Df K mg "_law_made_rules" s__law_made_rules) (c__law_shuffled : Cal P w K mg base 3 "_law_shuffled" spShuf []) (c__law_raw : Cal P w K mg base 3 "_law_raw" (U fun p _ => spRaw p) []) (c__law_take : Cal P w K mg base 2 "_law_take" spTake []) (c_Rules : Mak P w K mg base 5 "Rules" d.C (U fun p _ => spInit p d) []) : Cal P w K mg base 7 "_law_made_rules" (U fun p _ => spMadeR p d) [] := by
  have nd := sc__law_made_rules.nd
  refine mkCalU D sc__law_made_rules (fun p hp vs H Q E h => ?_) (fun _ _ _ _ _ _ us hl => match us, hl with | [_, _], _ => rfl) (fun p hp f0 cdv A outer s H vs Q E hr h => ?_)
  · obtain ⟨D, y, B, rfl, _⟩ := h
    rfl
  obtain ⟨D, y, B, rfl, hd, hy, k⟩ := h
  have hu := hu_of hr
  have hp2 := Pr.le (p := p)
  have hB1 := B.lo
  have hB9 := B.hi
  have hBB : B.L * B.L ≤ 81 := Nat.mul_le_mul hB9 hB9
  have hrl := B.rl
  obtain ⟨c, r, rfl, hc, hrr⟩ := hy
  obtain ⟨xs, hr0, hre⟩ := seq_case hrr
  have hcH := hD_le c _ hc
  refine ⟨_, (pss_cons (ps_setLc (own := [("_law_row", 3)]) (g := gName 3) (tt := tYes) (i := 2) rfl nd rfl rfl (sw_true rfl rfl rfl (by decide +kernel)) (pi_listK (K := K) (pe_c c__law_shuffled hr (by decide) rfl (pa_cons (pv 0) (pa_cons (pe_dget hu (pv 1) pe_str (fun _ _ => rfl)) pa_nil)))) (blkOk_by (by kernel_rfl)) (fun _ _ _ _ _ => (pg_name (i := 3) nd rfl (Or.inl rfl))) (fun _ _ _ _ _ => pts_nil) (fun _ _ _ _ _ => (pe_c c__law_raw hr (by decide) rfl (pa_cons (pv 0) (pa_cons (pe_dget hu (pv 1) pe_str (fun _ _ => rfl)) (pa_cons (pv 3) pa_nil))))))
    (pss_cons (ps_if (PW.pt (pw_and (pt_cmpR (op_neNil hr.units0) (pv 2) (pe_lst pa_nil) (nomark _)) (pw_and1 (pt_cmpR op_eq (pe_c c__law_take hr (by decide) rfl (pa_cons (pv 0) (pa_cons pe_int pa_nil))) pe_int (nomark _))))) 
      (pss_one (ps_expr (pe_bm PySem.F.plainAttrs_list PySem.F.slot_list_append PySem.F.type_list_append mt_append (pv 2) (pa_cons (pe_lc (own := [("_law_here", 4), ("_law_there", 5)]) (g := gTup K 2 (gCons (gName 4) (gCons (gName 5) gNil))) (tt := tYes) rfl nd (pi_zipKK (K := K) rfl T.zip (pa_cons (pe_ix (ix_listK (K := K)) (pv 2) pe_int (fun _ _ => rfl)) (pa_cons (pe_ix (ix_listK (K := K)) (pv 2) (pe_un un_neg pe_int) (fun _ _ => rfl)) pa_nil))) (blkOk_by (by kernel_rfl)) (fun _ _ _ _ _ => (pg_tup rfl (pgs_cons (pg_name (i := 4) nd rfl (Or.inl rfl)) (pgs_cons (pg_name (i := 5) nd rfl (Or.inl rfl)) pgs_nil)))) (fun _ _ _ _ _ => pts_nil) (fun _ _ _ _ _ => (pe_op op_add (pv 4) (pe_op op_mul pe_int (pv 5))))) pa_nil)))) pss_nil)
    (pss_one (ps_ret (pe_mk c_Rules hr (by decide) rfl (pa_cons (pe_dget hu (pv 1) pe_str (fun _ _ => rfl)) (pa_cons (pe_dget hu (pv 1) pe_str (fun _ _ => rfl)) (pa_cons (pv 2) pa_nil)))))))), ?_⟩
  walk_at "st"
  walk_at "go"
  refine r_lc (r_iL ?_)
  walk_at "go"
  refine ⟨c, _, rfl, get_rules hcH, ?_⟩
  walk_at "go"
  refine ⟨D, r, xs, rfl, hd, hr0, by rw [hre.len]; omega, fun l' ys H1 f1 hl0 hl1 hperm => ?_⟩
  obtain ⟨rows', hrp, hre1⟩ := each_perm hperm B.rows (hre.mono f1.sm)
  have hc1 := f1.sm c _ hc
  have hd1 := f1.dr
  refine ⟨l', rfl, ⟨_, SqL.of hl1⟩, ?_⟩
  have hyl : ys.length = rows'.length := hre1.len
  have hrl' : rows'.length ≤ 81 := by rw [hrp.length_eq]; omega
  have wk : Walk (Itl K l') ys.length (fun H' => Fr D H1 H') (YAt ys) := walk_list.mono (fun H' f => SqL.of (f.keep hd hl0 hl1)) fun _ _ _ _ _ _ h => h
  refine lc_newD wk (R := RowR p) hd1 (fun _ => true) (fun i => rows'.getD i []) (fun _ h => h) (by omega) (fun i x H2 H3 kY kN hi f2 z hY hN => ?_) (fun rl H2 zs hrl0 f2 hrl2 hE2 => ?_)
  · obtain ⟨rfl, hx⟩ := z
    obtain ⟨ns, hns, hx2⟩ := hre1.yet hx
    rw [getD_some hns] at hY
    have hnl : ns.length = B.L * B.L := B.rows_len ns (hrp.mem_iff.mp (List.mem_of_getElem? hns))
    walk_at "lc"
    walk_at "go"
    refine ⟨rfl, ?_⟩
    walk_at "go"
    refine ⟨c, _, rfl, get_field (hD_le c _ (f2.sm c _ hc1)), ?_⟩
    walk_at "go"
    refine ⟨D, x, ns, rfl, f2.dr, Mon.mono f2.sm hx2, by omega, fun ms y' H4 f4 h1 h2 h3 => ?_⟩
    exact hY _ _ rfl f4 ⟨ms, h1, h2, h3⟩
  rw [tk_all, hyl, map_range_get] at hE2
  obtain ⟨mss, hmv, hml, hE3⟩ := row_rs hE2
  have hmsl : ∀ ms ∈ mss, ms.length = B.L * B.L := fun ms hm => by
    have h1 : ms.length ∈ rows'.map List.length := by rw [← hml]; exact List.mem_map.mpr ⟨ms, hm, rfl⟩
    obtain ⟨ns, hns, e⟩ := List.mem_map.mp h1
    rw [← e]
    exact B.rows_len ns (hrp.mem_iff.mp hns)
  have hspan : ∀ f, SpanL (mss.map (vecI (p := p))) f ↔ SpanH B.hs f := fun f => by
    rw [hmv, span_perm (hrp.map _), B.vec, spanH_L]
  have hmc : mss.length ≤ 81 := by
    have := congrArg List.length hml
    rw [List.length_map, List.length_map] at this
    omega
  have hzl : zs.length = mss.length := hE3.len
  have f02 := f1.trans f2
  have hrlH : H rl = none := f1.none hd hrl0
  -- the end
  have fin : ∀ (mss' : List (List Int)) (zs' : List V) (H' : Hp), Fr D H H' → H' rl = some (.lst zs') → Each (SeqOf IntV) mss' zs' H' → (∀ ms ∈ mss', ms.length = B.L * B.L) → (∀ f, SpanL (mss'.map (vecI (p := p))) f ↔ SpanH B.hs f) → mss'.length ≤ 200 →
      ∀ Q' : VK, (∀ y' H2, Fr D H H2 → BookV d B y' (New H H2) → Q' y' H2) → ∀ x dx, H' x = none → H' dx = none → dx ≠ x → U (fun p _ => spInit p d) (.ref x :: ([.int p, .int (B.L : Nat), .ref rl] ++ [])) (upd (upd H' dx (.own x)) x (.ins d.C dx [])) (fun v H2 => v = .non ∧ Q' (.ref x) H2) C8.E0 := fun mss' zs' H' f' hz hE hl hs hc Q' hQ =>
    r_mkRules (nss := mss') (L := B.L) (.inl ⟨rl, zs', rfl, hz, hE⟩) hl (by omega) hB1 hB9 fun B2 y' H2 e2 hL hsp hB => hQ y' H2 (f'.trans (Fr.of f'.dr e2)) (book_same hL (fun f => (hsp f).trans (hs f)) (Mon.mono (Fr.anti hd f') hB))
  have hend : ∀ (mss' : List (List Int)) (zs' : List V) (H' : Hp), Fr D H H' → H' rl = some (.lst zs') → Each (SeqOf IntV) mss' zs' H' → (∀ ms ∈ mss', ms.length = B.L * B.L) → (∀ f, SpanL (mss'.map (vecI (p := p))) f ↔ SpanH B.hs f) → mss'.length ≤ 200 →
      ∀ v3 v4 v5 : Option V, tRet (tMake d.C (U fun p _ => spInit p d) [] C8.E0 (tCons (tDGet (tVar 1) (tC (.str "field"))) (tCons (tDGet (tVar 1) (tC (.str "letters"))) (tCons (tVar 2) tNil)))) { nx := fun x H' => Q .non H', rt := Q } [some (.ref D.a), some (.ref c), some (.ref rl), v3, v4, v5] H' := fun mss' zs' H' f' hz hE hl hs hcn v3 v4 v5 => by
    have hc' := hD_le c _ (f'.sm c _ hc)
    walk_at "go"
    refine ⟨c, _, rfl, get_field hc', ?_⟩
    walk_at "go"
    refine ⟨c, _, rfl, get_letters hc', ?_⟩
    walk_at "go"
    exact fin mss' zs' H' f' hz hE hl hs hcn Q k
  walk_at "go"
  refine ⟨by show 0 ≤ sizeLine; omega, fun nl hnl => ?_⟩
  have e3 := Same.new (o := .lst []) hnl
  refine r_neNil (SqL.of (e3 rl _ hrl2)) (SqL.of upd_same) ?_
  have f3 := f02.trans (Fr.of f02.dr e3)
  have hrl3 := e3 rl _ hrl2
  have hE4 : Each (SeqOf IntV) mss zs (hide rl (upd H2 nl (.lst []))) := hE3.mono (Same.trans New.le (hide_same e3))
  generalize (upd H2 nl (.lst [])) = H3 at *
  cases hzz : zs with
  | nil =>
    refine r_bl (r_false ?_)
    walk_at "go"
    refine ⟨c, _, rfl, get_field (hD_le c _ (f3.sm c _ hc)), ?_⟩
    walk_at "go"
    refine ⟨c, _, rfl, get_letters (hD_le c _ (f3.sm c _ hc)), ?_⟩
    walk_at "go"
    exact fin mss zs H3 f3 hrl3 (hE4.mono hide_le) hmsl hspan (by omega) Q k
  | cons z0 zr =>
    refine r_bl (r_true ?_)
    walk_at "go"
    refine ⟨D, 2, rfl, f3.dr, by omega, by omega, fun i H4 hi f4 => ?_⟩
    have f04 := f3.trans f4
    have hrl4 := f4.keep hd hrlH hrl3
    have hE5 : Each (SeqOf IntV) mss zs (hide rl H4) := by
      have h1 : Each (SeqOf IntV) mss zs (New H1 (hide rl H3)) := hE3.mono (New.mono (hide_same e3))
      exact (h1.mono (f4.newH hd1)).mono New.le
    walk_at "go"
    refine r_dec (fun hz0 => ?_) fun hz0 => ?_
    · walk_at "go"
      refine ⟨.inl ⟨rfl, _, SqL.of hrl4⟩, ?_⟩
      walk_at "go"
      have hzl1 : 1 ≤ zs.length := by rw [hzz]; simp
      obtain ⟨y0, hy0, hs0⟩ := hE5.get (List.getElem?_eq_getElem (show 0 < mss.length by omega))
      obtain ⟨y1, hy1, hs1⟩ := hE5.get (List.getElem?_eq_getElem (show mss.length - 1 < mss.length by omega))
      have hl0' := hmsl mss[0] (List.getElem_mem _)
      have hl1' := hmsl mss[mss.length - 1] (List.getElem_mem _)
      have hv0 : SpanL (mss.map (vecI (p := p))) (vecI mss[0]) := .of (List.mem_map.mpr ⟨_, List.getElem_mem _, rfl⟩)
      have hv1 : SpanL (mss.map (vecI (p := p))) (vecI mss[mss.length - 1]) := .of (List.mem_map.mpr ⟨_, List.getElem_mem _, rfl⟩)
      generalize mss[0] = m0 at *
      generalize mss[mss.length - 1] = m1 at *
      refine r_lc (r_zipS (Mon.mono hide_le hs0) (Same.refl _) (Mon.mono hide_le hs1) (fun QA q => ?_) fun J5 ys5 zs5 hys5 hzs5 wk5 => ?_)
      · walk_at "go"
        refine r_ixL (i := 0) (SqL.of hrl4) hy0 ?_
        walk_at "go"
        refine r_ixLast (SqL.of hrl4) hzl1 (by rw [hzl]; exact hy1) ?_
        walk_at "go"
        exact q
      rw [hl0', hl1', Nat.min_self] at wk5
      refine lc_new wk5 (R := IntV) (fun _ => true) (fun j => m0.getD j 0 + 3 * m1.getD j 0) (fun _ h => h) (by omega) (fun j x5 H5 H6 kY5 kN5 hj e5 z5 hY5 hN5 => ?_) (fun D5 H5 ys6 hD5 e5 hy6 hE6 => ?_)
      · obtain ⟨T5, xa5, xb5, rfl, hT5, rfl, hxa5, hxb5⟩ := z5
        obtain ⟨ca, hca, rfl⟩ := hys5.yet hxa5
        obtain ⟨cb, hcb, rfl⟩ := hzs5.yet hxb5
        rw [getD_some hca, getD_some hcb] at hY5
        have eT5 := Same.new (o := .tup [.int ca, .int cb]) hT5
        walk_at "lc"
        walk_at "go"
        refine ⟨rfl, ?_⟩
        walk_at "go"
        exact hY5 _ _ rfl eT5 rfl
      rw [tk_all] at hE6
      walk_at "go"
      have hrl5 := e5 rl _ hrl4
      have hDr : D5 ≠ rl := fun z => by rw [z, hrl4] at hD5; cases hD5
      refine ⟨rl, zs, _, rfl, rfl, hrl5, sl _ (by omega), ?_⟩
      have f05 := f04.trans (Fr.of f04.dr e5)
      have hE7 : Each (SeqOf IntV) (mss ++ [(List.range (B.L * B.L)).map fun j => m0.getD j 0 + 3 * m1.getD j 0]) (zs ++ [.ref D5]) (hide rl (upd H5 rl (.lst (zs ++ [.ref D5])))) := by
        rw [hide_upd]
        exact (hE5.mono (hide_same e5)).append (Each.one (.inl ⟨D5, ys6, rfl, by rw [hide_ne hDr]; exact hy6, by rw [each_int hE6]; exact int_each⟩))
      have hvn : vecI (p := p) ((List.range (B.L * B.L)).map fun j => m0.getD j 0 + 3 * m1.getD j 0) = axp (vecI m0) (md 3) (vecI m1) := vext fun j => by
        unfold vecI axp
        by_cases q : j < B.L * B.L
        · rw [List.getD_eq_getElem?_getD, List.getElem?_map, List.getElem?_range q]
          show md (m0.getD j 0 + 3 * m1.getD j 0) = _
          rw [md_add, md_mul]
        · dsimp only
          rw [List.getD_eq_getElem?_getD, List.getElem?_eq_none (by simp; omega), List.getD_eq_getElem?_getD, List.getElem?_eq_none (by omega), List.getD_eq_getElem?_getD, List.getElem?_eq_none (by omega)]
          show md 0 = md 0 + md 3 * md 0
          rw [md_zero]
          grind
      refine hend _ (zs ++ [.ref D5]) _ (Fr.mut hd f05 hrlH) upd_same (hE7.mono hide_le) (fun ms hm => ?_) (fun f => ?_) (by rw [List.length_append]; simp; omega) _ _ _
      · rcases List.mem_append.mp hm with hm | hm
        · exact hmsl ms hm
        · rw [List.mem_singleton.mp hm]; simp
      · rw [List.map_append, List.map_cons, List.map_nil, hvn, span_more ((Span.isSub _).a _ hv0 hv1), hspan]
    · walk_at "go"
      refine ⟨c, _, rfl, get_field (hD_le c _ (f04.sm c _ hc)), ?_⟩
      walk_at "go"
      refine ⟨c, _, rfl, get_letters (hD_le c _ (f04.sm c _ hc)), ?_⟩
      walk_at "go"
      exact fin mss zs H4 f04 hrl4 (hE5.mono hide_le) hmsl hspan (by omega) Q k
end
section
variable {P : Program} {w : World} {K : PySem.W.Frag} {mg : Str → Option Value} {base : Heap} {d : Ad} {p : Nat} [Pr p]
abbrev s__law_case_over : Stmt := top 86
theorem sc__law_case_over : FnScope ["_law_draw", "_law_field_here", "_law_most", "_law_letters", "_law_way", "_law_rows", "_law_table", "_law_row"] ["_law_draw", "_law_field_here", "_law_most"] (defScope s__law_case_over) := ⟨rfl, rfl, rfl, by decide +kernel, rfl, by decide +kernel, by decide +kernel⟩
def spOver (p : Nat) [Pr p] : Sp := fun vs H Q _ => ∃ (D : Drw) (m : Nat), vs = [.ref D.a, .int p, .int m] ∧ DrawV D H ∧ 1 ≤ m ∧ m ≤ 9 ∧ ∀ (B : Bk p) y' H', Fr D H H' → B.L ≤ m → CaseV B y' (New H H') → Q y' H'
theorem ok__law_case_over (T : Tx K mg d) (D : Df K mg "_law_case_over" s__law_case_over) (c__law_take : Cal P w K mg base 2 "_law_take" spTake []) (c__law_family_rules : Cal P w K mg base 4 "_law_family_rules" (U fun p _ => spWebR p) []) (c__law_loose_rules : Cal P w K mg base 3 "_law_loose_rules" (U fun p _ => spLoose p) []) (c__law_whole : Cal P w K mg base 3 "_law_whole" (U fun p _ => spLWhole p) []) (c__law_letters_led : Cal P w K mg base 2 "_law_letters_led" (U fun p _ => spLed p) []) (c__law_case_of : Cal P w K mg base 4 "_law_case_of" (U fun p _ => spCaseOf p) []) : Cal P w K mg base 5 "_law_case_over" (U fun p _ => spOver p) [] := by
  have nd := sc__law_case_over.nd
  refine mkCalU D sc__law_case_over (fun p hp vs H Q E h => ?_) (fun _ _ _ _ _ _ us hl => match us, hl with | [_, _, _], _ => rfl) (fun p hp f0 cdv A outer s H vs Q E hr h => ?_)
  · obtain ⟨D, m, rfl, _⟩ := h
    rfl
  obtain ⟨D, m, rfl, hd, hm1, hm9, k⟩ := h
  have hp2 := Pr.le (p := p)
  refine ⟨_, (pss_cons (ps_asg (pe_tup (pa_cons (pe_op op_add pe_int (pe_c c__law_take hr (by decide) rfl (pa_cons (pv 0) (pa_cons (pv 2) pa_nil)))) (pa_cons (pe_c c__law_take hr (by decide) rfl (pa_cons (pv 0) (pa_cons pe_int pa_nil))) pa_nil))) (pg_tup rfl (pgs_cons (pg_name (i := 3) nd rfl (Or.inr rfl)) (pgs_cons (pg_name (i := 4) nd rfl (Or.inl rfl)) pgs_nil))))
    (pss_cons (ps_set (i := 5) nd rfl (Or.inl rfl) (pe_ifExp (pt_cmpR op_lt (pv 4) pe_int (nomark _)) (pe_c c__law_family_rules hr (by decide) rfl (pa_cons (pv 0) (pa_cons (pv 1) (pa_cons (pv 3) (pa_cons (pv 4) pa_nil))))) (pe_c c__law_loose_rules hr (by decide) rfl (pa_cons (pv 0) (pa_cons (pv 1) (pa_cons (pv 3) pa_nil))))))
    (pss_cons (ps_if (pt_cmpR op_eq (pe_c c__law_take hr (by decide) rfl (pa_cons (pv 0) (pa_cons pe_int pa_nil))) pe_int (nomark _)) 
      (pss_cons (ps_set (i := 6) nd rfl (Or.inr rfl) (pe_ix (ix_tupK (K := K)) (pe_c c__law_whole hr (by decide) rfl (pa_cons (pv 0) (pa_cons (pv 1) (pa_cons (pv 3) pa_nil)))) pe_int (fun _ _ => rfl)))
      (pss_one (ps_setLc (own := [("_law_row", 7)]) (g := gName 7) (tt := tYes) (i := 5) rfl nd rfl rfl (sw_true rfl rfl rfl (by decide +kernel)) (pi_listK (K := K) (pv 5)) (blkOk_by (by kernel_rfl)) (fun _ _ _ _ _ => (pg_name (i := 7) nd rfl (Or.inl rfl))) (fun _ _ _ _ _ => pts_nil) (fun _ _ _ _ _ => (pe_c c__law_letters_led hr (by decide) rfl (pa_cons (pv 1) (pa_cons (pv 3) (pa_cons pe_int (pa_cons (pv 7) (pa_cons (pv 6) pa_nil)))))))))) pss_nil)
    (pss_one (ps_ret (pe_c c__law_case_of hr (by decide) rfl (pa_cons (pv 1) (pa_cons (pv 3) (pa_cons (pv 5) pa_nil))))))))), ?_⟩
  walk_at "st"
  walk_at "go"
  refine ⟨D, m, rfl, hd, hm1, by omega, fun i1 H1 hi1 f1 => ?_⟩
  walk_at "go"
  rw [show (1 : Int) + (i1 : Nat) = ((1 + i1 : Nat) : Int) by omega]
  obtain ⟨L, hL⟩ : ∃ L, L = 1 + i1 := ⟨_, rfl⟩
  rw [← hL]
  have hL1 : 1 ≤ L := by omega
  have hLm : L ≤ m := by omega
  clear hL hi1
  refine ⟨D, 10, rfl, f1.dr, by omega, by omega, fun i2 H2 hi2 f2 => ?_⟩
  walk_at "go"
  refine ⟨by show 2 ≤ sizeLine; decide, fun t ht => ?_⟩
  have f3 := (f1.trans f2).trans (Fr.of f2.dr (Same.new (o := .tup [.int (L : Nat), .int (i2 : Nat)]) ht))
  have ht3 : (upd H2 t (.tup [.int (L : Nat), .int (i2 : Nat)])) t = some (.tup [.int (L : Nat), .int (i2 : Nat)]) := upd_same
  clear f1 f2
  generalize (upd H2 t (.tup [.int (L : Nat), .int (i2 : Nat)])) = H3 at *
  walk_at "go"
  refine r_gtupH ht3 rfl ?_
  walk_at "go"
  -- behind the rows
  have fin : ∀ (nss : List (List Int)) (y : V) (H4 : Hp), Fr D H H4 → (∀ ns ∈ nss, ns.length = L * L) → nss.length ≤ 200 → LstOf (LstOf IntV) nss y (New H H4) → ∀ v6 v7 : Option V,
      (tSeq (tIfS (tTest (tOp rEq (tCall spTake [] C8.E0 (tCons (tVar 0) (tCons (tC (.int 4)) tNil))) (tC (.int 0))))
        (tSeq (tAsg (tOp (rIxT K) (tCall (U fun p _ => spLWhole p) [] C8.E0 (tCons (tVar 0) (tCons (tVar 1) (tCons (tVar 3) tNil)))) (tC (.int 0))) (gName 6))
          (tAsg (tLc (iList K (tVar 5)) (gName 7) tYes (tCall (U fun p _ => spLed p) [] C8.E0 (tCons (tVar 1) (tCons (tVar 3) (tCons (tC (.int 2)) (tCons (tVar 7) (tCons (tVar 6) tNil)))))) [7]) (gName 5))) tNext)
        (tRet (tCall (U fun p _ => spCaseOf p) [] C8.E0 (tCons (tVar 1) (tCons (tVar 3) (tCons (tVar 5) tNil)))))) { nx := fun _ H' => Q .non H', rt := Q }
        [some (.ref D.a), some (.int p), some (.int (m : Nat)), some (.int (L : Nat)), some (.int (i2 : Nat)), some y, v6, v7] H4 := fun nss y H4 f4 hns2 hnl hy v6 v7 => by
    walk_at "go"
    refine ⟨D, 4, rfl, f4.dr, by omega, by omega, fun i5 H5 hi5 f5 => ?_⟩
    have f05 := f4.trans f5
    have hy5 : LstOf (LstOf IntV) nss y (New H H5) := Mon.mono (f5.new hd) hy
    walk_at "go"
    have out : ∀ (mss : List (List Int)) (y2 : V) (H6 : Hp), Fr D H H6 → (∀ ns ∈ mss, ns.length = L * L) → mss.length ≤ 200 → LstOf (LstOf IntV) mss y2 (New H H6) → spCaseOf p ([.int p, .int (L : Nat), y2] ++ []) H6 Q C8.E0 := fun mss y2 H6 f6 h1 h2 h3 =>
      ⟨y2, mss, L, rfl, Mon.mono New.le h3, h1, hL1, by omega, by omega, fun B y' H' e hB hc => k B y' H' (f6.trans (Fr.of f6.dr e)) (by omega) (Mon.mono (Fr.anti hd f6) hc)⟩
    refine r_dec (fun hz0 => ?_) fun hz0 => ?_
    · walk_at "go"
      refine ⟨D, L, rfl, f5.dr, hL1, by omega, fun tb t6 y1 y2 H6 f6 ht6 hl6 hb6 h6 => ?_⟩
      walk_at "go"
      refine r_ixT (i := 0) (.inl (.inl ht6)) rfl ?_
      walk_at "go"
      have f06 := f05.trans f6
      have hy6 : LstOf (LstOf IntV) nss y (New H H6) := Mon.mono (f6.new hd) hy5
      have h6' := Mon.mono (New.le (H := H5)) h6
      refine r_lc (r_itL (Mon.mono New.le hy6) (Same.refl _) (fun Q q => by walk_at "go"; exact q) fun J ys hys wk => ?_)
      refine lc_new wk (R := ShV) (fun _ => true) (fun _ => L * L) (fun _ h => h) (by omega) (fun i x H7 H8 kY kN hi e z hY hN => ?_) (fun D7 H7 ys7 hD7 e7 hy7 hE7 => ?_)
      · obtain ⟨rfl, hx⟩ := z
        obtain ⟨ns, hns, hx2⟩ := hys.yet hx
        walk_at "lc"
        walk_at "go"
        refine ⟨rfl, ?_⟩
        walk_at "go"
        refine ⟨L, x, y1, ns, tb, rfl, Mon.mono e hx2, Mon.mono e h6', hns2 ns (List.mem_of_getElem? hns), hl6, fun ms hm => ⟨(hb6 ms hm).1, fun x hx => ?_⟩, hL1, by omega, fun cs y' H' e' hc h' => hY _ _ rfl e' ⟨cs, hc, h'⟩⟩
        have := (hb6 ms hm).2 x hx
        constructor <;> omega
      · rw [tk_all] at hE7
        obtain ⟨mss, q1, q2, q3⟩ := sh_rep hE7
        walk_at "go"
        exact out mss _ _ (f06.trans (Fr.of f06.dr e7)) q2 (by omega) (Mon.mono (Fr.anti hd f06) ⟨D7, ys7, rfl, by rw [New.at_ hD7]; exact hy7, q3⟩)
    · walk_at "go"
      exact out nss y H5 f05 hns2 hnl hy5
  refine r_dec (fun hlt => ?_) fun hge => ?_
  · walk_at "go"
    refine ⟨D, L, _, rfl, f3.dr, hL1, by omega, fun nss y' H4 f4 h1 h2 h3 => ?_⟩
    exact fin nss y' H4 (f3.trans f4) h1 h2 (Mon.mono (Fr.anti hd f3) h3) _ _
  · walk_at "go"
    refine ⟨D, L, rfl, f3.dr, hL1, by omega, fun nss y' H4 f4 h1 h2 h3 => ?_⟩
    exact fin nss y' H4 (f3.trans f4) h1 h2 (Mon.mono (Fr.anti hd f3) h3) _ _
abbrev s__law_two_cases : Stmt := top 87
theorem sc__law_two_cases : FnScope ["_law_draw", "_law_most", "_law_second", "_law_field_here"] ["_law_draw", "_law_most", "_law_second"] (defScope s__law_two_cases) := ⟨rfl, rfl, rfl, by decide +kernel, rfl, by decide +kernel, by decide +kernel⟩
def spTwo : Sp := fun vs H Q _ => ∃ (D : Drw) (m n : Nat), vs = [.ref D.a, .int m, .int n] ∧ DrawV D H ∧ 1 ≤ m ∧ m ≤ 9 ∧ 1 ≤ n ∧ n ≤ 9 ∧
  ∀ (p : Nat) (hp : Pr p) (B B' : Bk p) t y1 y2 H', Fr D H H' → H' t = some (.tup [y1, y2]) → H t = none → B.L ≤ m → B'.L ≤ n → CaseV B y1 (New H H') → CaseV B' y2 (New H H') → Q (.ref t) H'
theorem ok__law_two_cases (T : Tx K mg d) (D : Df K mg "_law_two_cases" s__law_two_cases) (c__law_field : Cal P w K mg base 4 "_law_field" spField []) (c__law_case_over : Cal P w K mg base 5 "_law_case_over" (U fun p _ => spOver p) []) : Cal P w K mg base 6 "_law_two_cases" (spTwo) [] := by
  have nd := sc__law_two_cases.nd
  refine mkCal D sc__law_two_cases (fun vs H Q E h => ?_) (fun _ _ _ _ _ _ us hl => match us, hl with | [_, _, _], _ => rfl) (fun f0 cdv A outer s H vs Q E hr h => ?_)
  · obtain ⟨D, m, n, rfl, _⟩ := h
    rfl
  obtain ⟨D, m, n, rfl, hd, hm1, hm9, hn1, hn9, k⟩ := h
  refine ⟨_, (pss_cons (ps_set (i := 3) nd rfl (Or.inl rfl) (pe_c c__law_field hr (by decide) rfl (pa_cons (pv 0) pa_nil)))
    (pss_one (ps_ret (pe_tup (pa_cons (pe_c c__law_case_over hr (by decide) rfl (pa_cons (pv 0) (pa_cons (pv 3) (pa_cons (pv 1) pa_nil)))) (pa_cons (pe_c c__law_case_over hr (by decide) rfl (pa_cons (pv 0) (pa_cons (pv 3) (pa_cons (pv 2) pa_nil)))) pa_nil)))))), ?_⟩
  walk_at "st"
  walk_at "go"
  refine ⟨D, rfl, hd, fun q H1 hq f1 => ?_⟩
  have hp : Pr q := ⟨hq⟩
  walk_at "go"
  refine ⟨D, m, rfl, f1.dr, hm1, hm9, fun B y1 H2 f2 hB h1 => ?_⟩
  walk_at "go"
  refine ⟨D, n, rfl, f2.dr, hn1, hn9, fun B' y2 H3 f3 hB' h2 => ?_⟩
  walk_at "go"
  refine ⟨by show 2 ≤ sizeLine; decide, fun t ht => ?_⟩
  have ft := Fr.of f3.dr (Same.new (o := .tup [y1, y2]) ht)
  have f03 := (f1.trans f2).trans f3
  have h1' : CaseV B y1 (New H (upd H3 t (.tup [y1, y2]))) := Mon.mono ((f3.trans ft).new hd) (Mon.mono (Fr.anti hd f1) h1)
  have h2' : CaseV B' y2 (New H (upd H3 t (.tup [y1, y2]))) := Mon.mono (ft.new hd) (Mon.mono (Fr.anti hd (f1.trans f2)) h2)
  exact k q hp B B' t y1 y2 _ (f03.trans ft) upd_same (f03.none hd ht) hB hB' h1' h2'
end
section
variable {P : Program} {w : World} {K : PySem.W.Frag} {mg : Str → Option Value} {base : Heap} {d : Ad} {p : Nat} [Pr p]
/-! ### the rows side by side, plain -/
theorem vecI_map {N : Nat} {F : Nat → Int} (k : Nat) : vecI (p := p) ((List.range N).map F) k = if k < N then md (F k) else 0 := by
  unfold vecI
  by_cases q : k < N
  · rw [if_pos q, List.getD_eq_getElem?_getD, List.getElem?_map, List.getElem?_range q]
    rfl
  · rw [if_neg q, List.getD_eq_getElem?_getD, List.getElem?_eq_none (by simp; omega)]
    exact md_zero
theorem wid_up {l n s : Nat} (h : s + l ≤ n) {g : Vec p} : vecI (p := p) ((List.range (n * n)).map (widF l n s (rowI (l * l) g))) = upv l n s g := vext fun k => by
  rw [vecI_map]
  unfold upv
  by_cases q : k < n * n
  · rw [if_pos q]
    unfold widF
    by_cases z : s ≤ k / n ∧ k / n < s + l ∧ s ≤ k % n ∧ k % n < s + l
    · rw [if_pos z]
      have hj : (k / n - s) * l + (k % n - s) < l * l := cell_lt (by omega) (by omega)
      have e : phi l n s ((k / n - s) * l + (k % n - s)) = k := by
        rw [phi_at (by omega), show s + (k / n - s) = k / n by omega, show s + (k % n - s) = k % n by omega, div_back]
      have h1 : mvv (l * l) (phi l n s) g (phi l n s ((k / n - s) * l + (k % n - s))) = g ((k / n - s) * l + (k % n - s)) := mvv_at (phi_inj h) hj
      rw [e] at h1
      rw [h1, getD_some (rowI_get g hj), md_iv]
    · rw [if_neg z, md_zero]
      refine (mvv_out fun j hj e => z ?_).symm
      obtain ⟨h1, h2, _⟩ := dm hj
      have hn : 0 < n := by omega
      have := cell_div (n := n) (a := s + j / l) (b := s + j % l) (by omega)
      unfold phi at e
      rw [e] at this
      have k1 := Nat.le_add_right s (j / l)
      have k2 := Nat.le_add_right s (j % l)
      rw [this.1, this.2]
      exact ⟨k1, by omega, k2, by omega⟩
  · rw [if_neg q]
    exact (mvv_bd (fun j hj => phi_lt h hj) g k (by omega)).symm
theorem cr_vec {n v w : Nat} (hv : v < n) (hw : w < n) {x y : Int} : vecI (p := p) ((List.range (n * n)).map (crF n v w x y)) = crv n v w (md x) (md y) := vext fun k => by
  rw [vecI_map]
  have c1 : v * n + w < n * n := cell_lt hv hw
  have c2 : w * n + v < n * n := cell_lt hw hv
  unfold crF crv
  by_cases q : k < n * n
  · rw [if_pos q]
    by_cases z : k = w * n + v
    · rw [if_pos z, if_pos z]
    · rw [if_neg z, if_neg z]
      by_cases y : k = v * n + w
      · rw [if_pos y, if_pos y]
      · rw [if_neg y, if_neg y, md_zero]
  · rw [if_neg q, if_neg (by omega), if_neg (by omega)]
def mdP (ps : List (Int × Int)) : List (Fin p × Fin p) := ps.map fun xy => (md xy.1, md xy.2)
theorem flat_congr {α β : Type} {f g : α → List β} : ∀ {l : List α}, (∀ x ∈ l, f x = g x) → l.flatMap f = l.flatMap g
  | [], _ => rfl
  | a :: r, h => by rw [List.flatMap_cons, List.flatMap_cons, h a List.mem_cons_self, flat_congr fun x hx => h x (List.mem_cons_of_mem _ hx)]
theorem side_vec (B B' : Bk p) (ps : List (Int × Int)) : (sideR B B' ps).map (vecI (p := p)) = sideV B B' (mdP ps) := by
  unfold sideR sideV
  rw [List.map_append, List.map_append]
  refine congr (congrArg _ (congr (congrArg _ ?_) ?_)) ?_
  · unfold Bk.rows Bk.rv
    rw [List.map_map, List.map_map, List.map_map]
    exact List.map_congr_left fun e _ => wid_up (by omega)
  · unfold Bk.rows Bk.rv
    rw [List.map_map, List.map_map, List.map_map]
    exact List.map_congr_left fun e _ => wid_up (by omega)
  · unfold mdP
    rw [List.map_flatMap, List.flatMap_map]
    refine flat_congr fun xy _ => ?_
    unfold crR crossV crI
    rw [List.map_flatMap, show B.L + B'.L - B.L = B'.L by omega]
    refine flat_congr fun v hv => ?_
    rw [List.map_map]
    refine List.map_congr_left fun w hw => ?_
    exact cr_vec (by have := List.mem_range.mp hv; omega) (by have := List.mem_range.mp hw; omega)
/-- one is the shadow of the other and the other way round -/
structure Dual (F G : Bk p) : Prop where
  L : F.L = G.L
  fg : ∀ f, SpanH G.hs f ↔ Ann (F.L * F.L) (SpanH F.hs) f
  gf : ∀ f, SpanH F.hs f ↔ Ann (G.L * G.L) (SpanH G.hs) f
theorem dual_of {F G : Bk p} (hL : F.L = G.L) (h : ∀ f, SpanH G.hs f ↔ Ann (F.L * F.L) (SpanH F.hs) f) : Dual F G :=
  ⟨hL, h, fun f => by rw [← hL, ann_congr h]; exact (ann_ann F.red F.bd f).symm⟩
theorem dual_side {B B' Bs Bs' F G : Bk p} {ps ps' : List (Int × Int)} (hL : Bs.L = B.L) (hL' : Bs'.L = B'.L) (h : ∀ f, SpanH Bs.hs f ↔ Ann (B.L * B.L) (SpanH B.hs) f) (h' : ∀ f, SpanH Bs'.hs f ↔ Ann (B'.L * B'.L) (SpanH B'.hs) f)
    (hF : F.L = B.L + B'.L) (hG : G.L = Bs.L + Bs'.L) (sF : ∀ f, SpanH F.hs f ↔ SpanL ((sideR B B' ps).map (vecI (p := p))) f) (sG : ∀ f, SpanH G.hs f ↔ SpanL ((sideR Bs Bs' ps').map (vecI (p := p))) f)
    (hc : ∀ x y : Fin p, CS (mdP ps') x y ↔ ∀ xy ∈ mdP (p := p) ps, x * xy.1 + y * xy.2 = 0) : Dual F G := by
  refine dual_of (by omega) fun f => ?_
  rw [sG, side_vec, shadow_side hL hL' h h' hc, hF]
  exact (ann_congr (fun g => by rw [sF, side_vec]) f).symm
theorem mdP_nil : mdP (p := p) [] = [] := rfl
theorem mdP_shut : mdP (p := p) [(1, 0), (0, 1)] = [(1, 0), (0, 1)] := by
  unfold mdP
  rw [List.map_cons, List.map_cons, List.map_nil, md_one, md_zero]
theorem mdP_ahead : mdP (p := p) [(0, 1)] = [(0, 1)] := by
  unfold mdP
  rw [List.map_cons, List.map_nil, md_one, md_zero]
theorem mdP_behind : mdP (p := p) [(1, 0)] = [(1, 0)] := by
  unfold mdP
  rw [List.map_cons, List.map_nil, md_one, md_zero]
theorem mdP_weigh (i : Int) : mdP (p := p) [(0 - i, 1)] = [(-md i, 1)] := by
  unfold mdP
  rw [List.map_cons, List.map_nil, md_one, md_sub, md_zero]
  have : (0 : Fin p) - md i = -md i := by grind
  rw [this]
theorem cs_free {x y : Fin p} : CS (mdP [(1, 0), (0, 1)]) x y ↔ ∀ xy ∈ mdP (p := p) [], x * xy.1 + y * xy.2 = 0 := by
  rw [mdP_shut, mdP_nil]
  exact ⟨fun _ xy h => absurd h (by simp), fun _ => cs_all⟩
theorem cs_shut {x y : Fin p} : CS (mdP []) x y ↔ ∀ xy ∈ mdP (p := p) [(1, 0), (0, 1)], x * xy.1 + y * xy.2 = 0 := by
  rw [mdP_shut, mdP_nil, cs_nil]
  constructor
  · rintro ⟨rfl, rfl⟩ xy _
    grind
  · intro h
    have h1 := h (1, 0) (by simp)
    have h2 := h (0, 1) (by simp)
    dsimp only at h1 h2
    constructor <;> grind
theorem cs_ahead {x y : Fin p} : CS (mdP [(1, 0)]) x y ↔ ∀ xy ∈ mdP (p := p) [(0, 1)], x * xy.1 + y * xy.2 = 0 := by
  rw [mdP_ahead, mdP_behind, cs_one]
  constructor
  · rintro ⟨c, _, h⟩ xy hm
    rw [List.mem_singleton.mp hm, h]
    grind
  · intro h
    have h1 := h (0, 1) (by simp)
    dsimp only at h1
    exact ⟨x, by grind, by grind⟩
theorem cs_behind {x y : Fin p} : CS (mdP [(0, 1)]) x y ↔ ∀ xy ∈ mdP (p := p) [(1, 0)], x * xy.1 + y * xy.2 = 0 := by
  rw [mdP_ahead, mdP_behind, cs_one]
  constructor
  · rintro ⟨c, h, _⟩ xy hm
    rw [List.mem_singleton.mp hm, h]
    grind
  · intro h
    have h1 := h (1, 0) (by simp)
    dsimp only at h1
    exact ⟨y, by grind, by grind⟩
theorem cs_weigh {i j : Int} (h : md j * md i = (-1 : Fin p)) {x y : Fin p} : CS (mdP [(0 - j, 1)]) x y ↔ ∀ xy ∈ mdP (p := p) [(0 - i, 1)], x * xy.1 + y * xy.2 = 0 := by
  rw [mdP_weigh, mdP_weigh, cs_one]
  constructor
  · rintro ⟨c, rfl, rfl⟩ xy hm
    rw [List.mem_singleton.mp hm]
    show c * -md j * -md i + c * 1 * 1 = 0
    have : c * -md j * -md i = c * (md j * md i) := by grind
    rw [this, h]
    grind
  · intro hh
    have h1 := hh (-md i, 1) (by simp)
    dsimp only at h1
    refine ⟨y, ?_, by grind⟩
    have h2 : y = x * md i := by grind
    rw [h2]
    have : x * md i * -md j = -(x * (md j * md i)) := by grind
    rw [this, h]
    grind
/-! ### what fits -/
def FitOk (B : Bk p) (m : Nat) : Prop := ∀ Ih cs, (∀ n, n ≤ m → IhOk B n (Ih n)) → Com B cs → ∀ n, 1 ≤ n → n ≤ m → n < cs.length → Exact B Ih cs n
theorem fit_lat {B : Bk p} {m : Nat} (h : ∀ n, n ≤ m → Lat B n) : FitOk B m := fun Ih cs hI C n h1 h2 h3 => exact_of (fun k hk => hI k (by omega)) C h3 h1 (h n h2)
theorem fit3 (B : Bk p) {m : Nat} (h : m ≤ 3) : FitOk B m := fit_lat fun n hn => lat3 B (by omega)
theorem fit1 {B : Bk p} (h : B.L = 1) (m : Nat) : FitOk B m := fit_lat fun n _ => lat_one h n
theorem fit2 {B B' F : Bk p} {ps : List (Int × Int)} (h1 : B.L = 1) (h2 : B'.L = 1) (hF : F.L = B.L + B'.L) (sF : ∀ f, SpanH F.hs f ↔ SpanL ((sideR B B' ps).map (vecI (p := p))) f) (hw : Way p (mdP ps)) {m : Nat} (hm : m ≤ 5) : FitOk F m :=
  fit_lat fun n hn => lat_two h1 h2 (by omega) (fun f => by rw [sF, side_vec]) hw (by omega)
theorem way_ok (i : Int) : Way p (mdP []) ∧ Way p (mdP [(1, 0), (0, 1)]) ∧ Way p (mdP [(0, 1)]) ∧ Way p (mdP [(1, 0)]) ∧ Way p (mdP [(0 - i, 1)]) := by
  rw [mdP_nil, mdP_shut, mdP_ahead, mdP_behind, mdP_weigh]
  exact ⟨.free, .shut, .ahead, .behind, .weighed _⟩
structure MadeOf (B B' : Bk p) (ps : List (Int × Int)) (F : Bk p) : Prop where
  L : F.L = B.L + B'.L
  sp : ∀ f, SpanH F.hs f ↔ SpanL ((sideR B B' ps).map (vecI (p := p))) f
/-- the second book is the shadow of the first -/
structure ShOf (B Bs : Bk p) : Prop where
  L : Bs.L = B.L
  sp : ∀ f, SpanH Bs.hs f ↔ Ann (B.L * B.L) (SpanH B.hs) f
structure Five (B B' : Bk p) (Fs Gs : List (Bk p)) : Prop where
  lF : Fs.length = 5
  lG : Gs.length = 5
  dual : ∀ (j : Nat) (F G : Bk p), Fs[j]? = some F → Gs[j]? = some G → Dual F G
  fit : ∀ m, m ≤ shortN (B.L + B'.L) → FitOk B m ∧ FitOk B' m ∧ ∀ (j : Nat) (F : Bk p), (Fs[j]? = some F ∨ Gs[j]? = some F) → FitOk F m ∧ F.L = B.L + B'.L
theorem five_fit {B B' F : Bk p} {ps : List (Int × Int)} (M : MadeOf B B' ps F) (hw : Way p (mdP ps)) {m : Nat} (hm : m ≤ shortN (B.L + B'.L)) : FitOk F m := by
  have h1 := B.lo
  have h2 := B'.lo
  by_cases q : B.L + B'.L = 2
  · rw [q] at hm
    exact fit2 (by omega) (by omega) M.L M.sp hw hm
  · refine fit3 F ?_
    unfold shortN at hm
    rw [if_neg (by omega), if_neg q] at hm
    by_cases q3 : B.L + B'.L = 3
    · rw [if_pos q3] at hm; exact hm
    · rw [if_neg q3] at hm
      by_cases q4 : B.L + B'.L = 4
      · rw [if_pos q4] at hm; exact hm
      · rw [if_neg q4] at hm; omega
theorem five_one {B B' : Bk p} {m : Nat} (hm : m ≤ shortN (B.L + B'.L)) : FitOk B m ∧ FitOk B' m := by
  have h1 := B.lo
  have h2 := B'.lo
  by_cases q : B.L + B'.L = 2
  · exact ⟨fit1 (by omega) m, fit1 (by omega) m⟩
  · have h3 : m ≤ 3 := by
      unfold shortN at hm
      rw [if_neg (by omega), if_neg q] at hm
      by_cases q3 : B.L + B'.L = 3
      · rw [if_pos q3] at hm; exact hm
      · rw [if_neg q3] at hm
        by_cases q4 : B.L + B'.L = 4
        · rw [if_pos q4] at hm; exact hm
        · rw [if_neg q4] at hm; omega
    exact ⟨fit3 B h3, fit3 B' h3⟩
theorem five {B B' Bs Bs' F1 F2 F3 F4 F5 G1 G2 G3 G4 G5 : Bk p} {i j : Int} (hS : ShOf B Bs) (hS' : ShOf B' Bs') (hz : md j * md i = (-1 : Fin p))
    (f1 : MadeOf B B' [] F1) (f2 : MadeOf B B' [(1, 0), (0, 1)] F2) (f3 : MadeOf B B' [(0, 1)] F3) (f4 : MadeOf B B' [(1, 0)] F4) (f5 : MadeOf B B' [(0 - i, 1)] F5)
    (g1 : MadeOf Bs Bs' [(1, 0), (0, 1)] G1) (g2 : MadeOf Bs Bs' [] G2) (g3 : MadeOf Bs Bs' [(1, 0)] G3) (g4 : MadeOf Bs Bs' [(0, 1)] G4) (g5 : MadeOf Bs Bs' [(0 - j, 1)] G5) : Five B B' [F1, F2, F3, F4, F5] [G1, G2, G3, G4, G5] := by
  have w1 := way_ok (p := p) i
  have w2 := way_ok (p := p) j
  have hLL : Bs.L + Bs'.L = B.L + B'.L := by rw [hS.L, hS'.L]
  refine ⟨rfl, rfl, fun n F G h1 h2 => ?_, fun m hm => ⟨(five_one hm).1, (five_one hm).2, fun n F h => ?_⟩⟩
  · rcases n with _ | _ | _ | _ | _ | n
    · cases h1; cases h2; exact dual_side hS.L hS'.L hS.sp hS'.sp f1.L g1.L f1.sp g1.sp fun x y => cs_free
    · cases h1; cases h2; exact dual_side hS.L hS'.L hS.sp hS'.sp f2.L g2.L f2.sp g2.sp fun x y => cs_shut
    · cases h1; cases h2; exact dual_side hS.L hS'.L hS.sp hS'.sp f3.L g3.L f3.sp g3.sp fun x y => cs_ahead
    · cases h1; cases h2; exact dual_side hS.L hS'.L hS.sp hS'.sp f4.L g4.L f4.sp g4.sp fun x y => cs_behind
    · cases h1; cases h2; exact dual_side hS.L hS'.L hS.sp hS'.sp f5.L g5.L f5.sp g5.sp fun x y => cs_weigh hz
    · simp at h1
  · have hm' : m ≤ shortN (Bs.L + Bs'.L) := by rw [hLL]; exact hm
    rcases h with h | h
    · rcases n with _ | _ | _ | _ | _ | n
      · cases h; exact ⟨five_fit f1 w1.1 hm, f1.L⟩
      · cases h; exact ⟨five_fit f2 w1.2.1 hm, f2.L⟩
      · cases h; exact ⟨five_fit f3 w1.2.2.1 hm, f3.L⟩
      · cases h; exact ⟨five_fit f4 w1.2.2.2.1 hm, f4.L⟩
      · cases h; exact ⟨five_fit f5 w1.2.2.2.2 hm, f5.L⟩
      · simp at h
    · rcases n with _ | _ | _ | _ | _ | n
      · cases h; exact ⟨five_fit g1 w1.2.1 hm', g1.L.trans hLL⟩
      · cases h; exact ⟨five_fit g2 w1.1 hm', g2.L.trans hLL⟩
      · cases h; exact ⟨five_fit g3 w1.2.2.2.1 hm', g3.L.trans hLL⟩
      · cases h; exact ⟨five_fit g4 w1.2.2.1 hm', g4.L.trans hLL⟩
      · cases h; exact ⟨five_fit g5 w2.2.2.2.2 hm', g5.L.trans hLL⟩
      · simp at h
theorem pow_ok {L T m : Nat} (h : L ≤ T) (h2 : 2 ≤ T) (h4 : T ≤ 4) (hm : m ≤ shortN T) : m ≤ 6 ∧ L ^ m ≤ 1000 := by
  have h1 : L ^ m ≤ T ^ m := Nat.pow_le_pow_left h m
  have h3 : T ^ m ≤ T ^ shortN T := Nat.pow_le_pow_right (by omega) hm
  have : T = 2 ∨ T = 3 ∨ T = 4 := by omega
  rcases this with rfl | rfl | rfl
  · have e : shortN 2 = 5 := rfl
    rw [e] at hm h3
    have : 2 ^ 5 = 32 := rfl
    omega
  · have e : shortN 3 = 3 := rfl
    rw [e] at hm h3
    have : 3 ^ 3 = 27 := rfl
    omega
  · have e : shortN 4 = 3 := rfl
    rw [e] at hm h3
    have : 4 ^ 3 = 64 := rfl
    omega
theorem short_pos (T : Nat) : 1 ≤ shortN T ∧ shortN T ≤ 6 := by
  unfold shortN
  split
  · omega
  · split
    · omega
    · split
      · omega
      · split <;> omega
end
section
variable {P : Program} {w : World} {K : PySem.W.Frag} {mg : Str → Option Value} {base : Heap} {d : Ad} {p : Nat} [Pr p]
theorem mkFnG {x qual : Str} {st : Stmt} {N ps : List Str} {k : Nat} {sp : Sp} {f : Addr} {fd : FuncData} (F : FunD K x qual (defArgs st) (defBody st) (defScope st) [] [] f fd) (S : FnScope N ps (defScope st)) (len : ∀ vs H Q E, sp vs H Q E → vs.length = ps.length)
    (hbody : ∀ (cdv : Value) (A : Around) (outer : List Env) (s : Shared) (H : Hp) (vs : List V) (Q : VK) (E : XK), (A.deeper (envOfC qual (defScope st) s.heap.objs.size f cdv)).guards = some [] → Room k (A.deeper (envOfC qual (defScope st) s.heap.objs.size f cdv)) → sp vs H Q E →
      ∃ t, PSs (cxOf CX0 P w K mg base N qual (defScope st) f cdv A outer s H E).nox (defBody st) t ∧ t { nx := fun _ H' => Q .non H', rt := Q } (start N vs) H) : FnG P w K mg base CX0 (k + 1) f fd ps sp := by
  obtain ⟨oc, od, dV, kV, doc, pm, an, cdv, ct, osl, rfl, lk, hcd, _, _⟩ := F.ex
  refine fn_ofG lk hcd S len fun A outer s H vs Q E hg hr hs => ?_
  obtain ⟨t, h1, h2⟩ := hbody cdv A outer s H vs Q E hg hr hs
  exact ⟨t, h1.nox, h2⟩
theorem either {D : Drw} {H : Hp} {Q : VK} {x0 : Option V} {r : L2.St} {c : Prop} [Decidable c] (hd : DrawV D H)
    (h : ∀ (p : Nat) (hp : Pr p) (B B' : Bk p) t y1 y2 H', Fr D H H' → H' t = some (.tup [y1, y2]) → B.L + B'.L ≤ 4 → CaseV B y1 (hD D H') → CaseV B' y2 (hD D H') → Q (.ref t) H') :
    if decide c = true then tCall spTwo [] C8.E0 (tCons (tVar 1) (tCons (tC (.int 2)) (tCons (tC (.int 2)) tNil))) (x0 :: some (.ref D.a) :: r) H Q else tCall spTwo [] C8.E0 (tCons (tVar 1) (tCons (tC (.int 3)) (tCons (tC (.int 1)) tNil))) (x0 :: some (.ref D.a) :: r) H Q := by
  refine r_dec (fun _ => ?_) fun _ => ?_
  · walk_at "go"
    exact ⟨D, 2, 2, rfl, hd, by omega, by omega, by omega, by omega, fun p hp B B' t y1 y2 H' f ht _ h1 h2 h3 h4 => h p hp B B' t y1 y2 H' f ht (by omega) (Mon.mono hd.new h3) (Mon.mono hd.new h4)⟩
  · walk_at "go"
    exact ⟨D, 3, 1, rfl, hd, by omega, by omega, by omega, by omega, fun p hp B B' t y1 y2 H' f ht _ h1 h2 h3 h4 => h p hp B B' t y1 y2 H' f ht (by omega) (Mon.mono hd.new h3) (Mon.mono hd.new h4)⟩
/-- things that stay: told at the heap without what a draw changes -/
theorem stay {α : Type} {R : α → V → Hp → Prop} [Mon R] {D : Drw} {H H' : Hp} {f : α} {y : V} (hd : DrawV D H) (h : R f y (New H H')) : R f y (hD D H') := Mon.mono hd.new h
theorem stayS {α : Type} {R : α → V → Hp → Prop} [Mon R] {D : Drw} {H H' : Hp} {f : α} {y : V} (e : Same H H') (h : R f y (hD D H)) : R f y (hD D H') := Mon.mono (hD_same e) h
theorem stayF {α : Type} {R : α → V → Hp → Prop} [Mon R] {D : Drw} {H H' : Hp} {f : α} {y : V} (e : Fr D H H') (h : R f y (hD D H)) : R f y (hD D H') := Mon.mono e.sm h
abbrev s_law : Stmt := top 89
theorem sc_law : FnScope ["_law_script", "_law_draw", "_law_turn", "_law_one", "_law_other", "_law_field_here", "_law_weight", "_law_book", "_law_other_book", "_law_here", "_law_there", "_law_back", "_law_made", "_law_dues", "_law_found", "_law_due", "_law_most", "_law_spot", "_law_length"] ["_law_script"] (defScope s_law) := ⟨rfl, rfl, rfl, by decide +kernel, rfl, by decide +kernel, by decide +kernel⟩
def spLaw (K : PySem.W.Frag) : Sp := fun vs H Q _ => ∃ (a : Addr) (ns : List Int), vs = [.ref a] ∧ SqL K H a (ns.map V.int) ∧ ns.length ≤ 63 ∧ ∀ H', Q (.bl true) H'
theorem ok_law (T : Tx K mg d) {f1 : Addr} {fd1 : FuncData} (F : FunD K "law" "law" (defArgs s_law) (defBody s_law) (defScope s_law) [] [] f1 fd1) (c__law_begun : Cal P w K mg base 1 "_law_begun" (spBegun K) []) (c__law_take : Cal P w K mg base 2 "_law_take" spTake []) (c__law_two_cases : Cal P w K mg base 6 "_law_two_cases" spTwo []) (c__law_made_rules : Cal P w K mg base 7 "_law_made_rules" (U fun p _ => spMadeR p d) []) (c_shadow : Cal P w K mg base 8 "shadow" (U fun p _ => spShadow p d) []) (c__law_undone : Cal P w K mg base 1 "_law_undone" (U fun p _ => spLUndone p) []) (c_free_sides : Cal P w K mg base 8 "free_sides" (U fun p _ => spFree p d []) []) (c_shut_sides : Cal P w K mg base 8 "shut_sides" (U fun p _ => spFree p d [(1, 0), (0, 1)]) []) (c_ahead_sides : Cal P w K mg base 8 "ahead_sides" (U fun p _ => spFree p d [(0, 1)]) []) (c_behind_sides : Cal P w K mg base 8 "behind_sides" (U fun p _ => spFree p d [(1, 0)]) []) (c_weighed_sides : Cal P w K mg base 8 "weighed_sides" (U fun p _ => spWeigh p d) []) (c_eq : FnB P w K mg base 1 (EqF K d.C) (U fun p _ => spEq p d)) (c__law_is_rules : CalG P w K mg base 1 "_law_is_rules" (U fun p _ => spIsR p d)) (c__law_shadowed : Cal P w K mg base 5 "_law_shadowed" (U fun p _ => spShadowed p) []) (c__law_short : Cal P w K mg base 1 "_law_short" spShort []) (c__law_is_truth : Cal P w K mg base 1 "_law_is_truth" spTruth []) (c_fits : Cal P w K mg base 11 "fits" (U fun p _ => spFits p d) []) : FnG P w K mg base CX0 12 f1 fd1 ["_law_script"] (spLaw K) := by
  have nd := sc_law.nd
  refine mkFnG F sc_law (fun vs H Q E h => ?_) (fun cdv A outer s H vs Q E hgd hr h => ?_)
  · obtain ⟨a, ns, rfl, _⟩ := h
    rfl
  obtain ⟨sa, ns, rfl, hs, hl, k⟩ := h
  have hu := hu_of hr
  refine ⟨_, (pss_cons (ps_set (i := 1) nd rfl (Or.inl rfl) (pe_c c__law_begun hr (by decide) rfl (pa_cons (pv 0) pa_nil)))
    (pss_cons (ps_for PassesOwn.never rfl (pi_range1 rfl T.range (pa_cons (pe_op op_add pe_int (pe_callB (call_min2 rfl) (by rfl) T.min (by decide +kernel) (pa_cons pe_int (pa_cons (pe_callB (call_lenK (K := K)) (by rfl) T.len (by decide +kernel) (pa_cons (pv 0) pa_nil)) pa_nil)))) pa_nil)) (pg_name (i := 2) nd rfl (Or.inl rfl)) 
      (pss_cons (ps_asg (pe_ifExp (pt_cmpR op_eq (pe_c c__law_take hr (by decide) rfl (pa_cons (pv 1) (pa_cons pe_int pa_nil))) pe_int (nomark _)) (pe_c c__law_two_cases hr (by decide) rfl (pa_cons (pv 1) (pa_cons pe_int (pa_cons pe_int pa_nil)))) (pe_c c__law_two_cases hr (by decide) rfl (pa_cons (pv 1) (pa_cons pe_int (pa_cons pe_int pa_nil))))) (pg_tup rfl (pgs_cons (pg_name (i := 3) nd rfl (Or.inl rfl)) (pgs_cons (pg_name (i := 4) nd rfl (Or.inl rfl)) pgs_nil))))
      (pss_cons (ps_par (i := 5) (j := 6) rfl nd rfl rfl (by decide) rfl rfl (pa_cons (pe_dget hu (pv 3) pe_str (fun _ _ => rfl)) (pa_cons (pe_op op_add pe_int (pe_c c__law_take hr (by decide) rfl (pa_cons (pv 1) (pa_cons (pe_op op_sub (pe_dget hu (pv 3) pe_str (fun _ _ => rfl)) pe_int) pa_nil)))) pa_nil)) (by rfl))
      (pss_cons (ps_par (i := 7) (j := 8) rfl nd rfl rfl (by decide) rfl rfl (pa_cons (pe_c c__law_made_rules hr (by decide) rfl (pa_cons (pv 1) (pa_cons (pv 3) pa_nil))) (pa_cons (pe_c c__law_made_rules hr (by decide) rfl (pa_cons (pv 1) (pa_cons (pv 4) pa_nil))) pa_nil)) (by rfl))
      (pss_cons (ps_par3 (i := 9) (j := 10) (l := 11) rfl nd rfl rfl rfl (by decide) (by decide) (by decide) rfl rfl rfl (pa_cons (pe_c c_shadow hr (by decide) rfl (pa_cons (pv 7) pa_nil)) (pa_cons (pe_c c_shadow hr (by decide) rfl (pa_cons (pv 8) pa_nil)) (pa_cons (pe_op op_sub pe_int (pe_c c__law_undone hr (by decide) rfl (pa_cons (pv 5) (pa_cons (pv 6) pa_nil)))) pa_nil))) (by rfl))
      (pss_cons (ps_set (i := 12) nd rfl (Or.inl rfl) (pe_lst (pa_cons (pe_c c_free_sides hr (by decide) rfl (pa_cons (pv 7) (pa_cons (pv 8) pa_nil))) (pa_cons (pe_c c_shut_sides hr (by decide) rfl (pa_cons (pv 7) (pa_cons (pv 8) pa_nil))) (pa_cons (pe_c c_ahead_sides hr (by decide) rfl (pa_cons (pv 7) (pa_cons (pv 8) pa_nil))) pa_nil)))))
      (pss_cons (ps_set (i := 12) nd rfl (Or.inl rfl) (pe_op op_cat (pv 12) (pe_lst (pa_cons (pe_c c_behind_sides hr (by decide) rfl (pa_cons (pv 7) (pa_cons (pv 8) pa_nil))) (pa_cons (pe_c c_weighed_sides hr (by decide) rfl (pa_cons (pv 7) (pa_cons (pv 8) (pa_cons (pv 6) pa_nil)))) pa_nil)))))
      (pss_cons (ps_set (i := 13) nd rfl (Or.inl rfl) (pe_lst (pa_cons (pe_c c_shut_sides hr (by decide) rfl (pa_cons (pv 9) (pa_cons (pv 10) pa_nil))) (pa_cons (pe_c c_free_sides hr (by decide) rfl (pa_cons (pv 9) (pa_cons (pv 10) pa_nil))) (pa_cons (pe_c c_behind_sides hr (by decide) rfl (pa_cons (pv 9) (pa_cons (pv 10) pa_nil))) pa_nil)))))
      (pss_cons (ps_set (i := 13) nd rfl (Or.inl rfl) (pe_op op_cat (pv 13) (pe_lst (pa_cons (pe_c c_ahead_sides hr (by decide) rfl (pa_cons (pv 9) (pa_cons (pv 10) pa_nil))) (pa_cons (pe_c c_weighed_sides hr (by decide) rfl (pa_cons (pv 9) (pa_cons (pv 10) (pa_cons (pv 11) pa_nil)))) pa_nil)))))
      (pss_cons (ps_for PassesOwn.never rfl (pi_zipKK (K := K) rfl T.zip (pa_cons (pv 12) (pa_cons (pv 13) pa_nil))) (pg_tup rfl (pgs_cons (pg_name (i := 14) nd rfl (Or.inl rfl)) (pgs_cons (pg_name (i := 15) nd rfl (Or.inl rfl)) pgs_nil))) 
        (pss_one (ps_if (PW.pt (pw_or (pt_cmpR (op_neF c_eq hr (by decide) T.neR T.subR) (pe_c c_shadow hr (by decide) rfl (pa_cons (pv 14) pa_nil)) (pv 15) (nomark _)) (pw_or1 (pt_cmpR (op_neF c_eq hr (by decide) T.neR T.subR) (pe_c c_shadow hr (by decide) rfl (pa_cons (pv 15) pa_nil)) (pv 14) (nomark _))))) 
          (pss_one (ps_ret pe_bl)) pss_nil)))
      (pss_cons (ps_if (PW.pt (pw_or (pt_not (pt_val (pe_cG c__law_is_rules hgd hr (by decide) rfl (pa_cons (pv 9) (pa_cons (pe_c c__law_shadowed hr (by decide) rfl (pa_cons (pv 3) pa_nil)) pa_nil))))) (pw_or1 (pt_not (pt_val (pe_cG c__law_is_rules hgd hr (by decide) rfl (pa_cons (pv 10) (pa_cons (pe_c c__law_shadowed hr (by decide) rfl (pa_cons (pv 4) pa_nil)) pa_nil)))))))) 
        (pss_one (ps_ret pe_bl)) pss_nil)
      (pss_cons (ps_set (i := 16) nd rfl (Or.inl rfl) (pe_c c__law_short hr (by decide) rfl (pa_cons (pe_op op_add (pe_dget hu (pv 3) pe_str (fun _ _ => rfl)) (pe_dget hu (pv 4) pe_str (fun _ _ => rfl))) pa_nil)))
      (pss_cons (ps_par (i := 17) (j := 18) rfl nd rfl rfl (by decide) rfl rfl (pa_cons (pe_c c__law_take hr (by decide) rfl (pa_cons (pv 1) (pa_cons pe_int pa_nil))) (pa_cons (pe_op op_add pe_int (pe_c c__law_take hr (by decide) rfl (pa_cons (pv 1) (pa_cons (pv 16) pa_nil)))) pa_nil)) (by rfl))
      (pss_one (ps_for PassesOwn.never rfl (pi_listK (K := K) (pe_lst (pa_cons (pe_ix (ix_listK (K := K)) (pv 12) (pv 17) (fun _ _ => rfl)) (pa_cons (pe_ix (ix_listK (K := K)) (pv 13) (pv 17) (fun _ _ => rfl)) pa_nil)))) (pg_name (i := 14) nd rfl (Or.inl rfl)) 
        (pss_one (ps_if (pt_not (pt_val (pe_c c__law_is_truth hr (by decide) rfl (pa_cons (pe_c c_fits hr (by decide) rfl (pa_cons (pv 14) (pa_cons (pv 18) pa_nil))) (pa_cons (pe_and (pe_c c_fits hr (by decide) rfl (pa_cons (pv 7) (pa_cons (pv 18) pa_nil))) (pe_one (pe_c c_fits hr (by decide) rfl (pa_cons (pv 8) (pa_cons (pv 18) pa_nil))))) pa_nil))))) 
          (pss_one (ps_ret pe_bl)) pss_nil)))))))))))))))))
    (pss_one (ps_ret pe_bl)))), ?_⟩
  walk_at "st"
  walk_at "go"
  refine ⟨sa, ns, rfl, hs, by omega, fun D H1 e1 hD0 hd => ?_⟩
  walk_at "go"
  refine r_for (r_rng (2 + min 3 ns.length) (by omega) (fun QA q => ?_) fun J wk => ?_)
  · walk_at "go"
    refine ⟨sa, _, rfl, .inl (SqL.rdE (Same.rd e1) hs), ?_⟩
    walk_at "go"
    refine ⟨_, _, rfl, ?_⟩
    walk_at "go"
    have hmin : (2 : Int) + (if ((ns.map V.int).length : Int) < 3 then ((ns.map V.int).length : Int) else 3) = ((2 + min 3 ns.length : Nat) : Int) := by
      rw [List.length_map]
      by_cases z : (ns.length : Int) < 3
      · rw [if_pos z]; omega
      · rw [if_neg z]; omega
    rw [hmin]
    exact q
  refine for_it wk (fun i σ H' => Fr D H1 H' ∧ ∃ (v2 v3 v4 v5 v6 v7 v8 v9 v10 v11 v12 v13 v14 v15 v16 v17 v18 : Option V), σ = [some (.ref sa), some (.ref D.a), v2, v3, v4, v5, v6, v7, v8, v9, v10, v11, v12, v13, v14, v15, v16, v17, v18]) ?_ (fun _ _ _ _ _ => trivial) ?_ ?_
  · exact ⟨Fr.refl hd, _, _, _, _, _, _, _, _, _, _, _, _, _, _, _, _, _, rfl⟩
  · rintro i x σ Hx H2 hi ⟨f1, v2, v3, v4, v5, v6, v7, v8, v9, v10, v11, v12, v13, v14, v15, v16, v17, v18, rfl⟩ ⟨rfl, rfl⟩
    walk_at "go"
    refine ⟨D, 2, rfl, f1.dr, by omega, by omega, fun i1 H3 hi1 f3 => ?_⟩
    walk_at "go"
    refine either f3.dr fun p hp B B' t y1 y2 H4 f4 ht hLL hc1 hc2 => ?_
    have f14 := f1.trans (f3.trans f4)
    clear f3 f4 f1
    have hp1 := Pr.ge (p := p)
    have hp2 := Pr.le (p := p)
    have hB1 := B.lo
    have hB2 := B'.lo
    refine r_gtupH ht rfl ?_
    walk_at "go"
    obtain ⟨c1, r1, rfl, hcd1, hcr1⟩ := id hc1
    obtain ⟨c2, r2, rfl, hcd2, hcr2⟩ := id hc2
    refine ⟨c1, _, rfl, get_field (hD_le c1 _ hcd1), ?_⟩
    walk_at "go"
    refine ⟨c1, _, rfl, get_field (hD_le c1 _ hcd1), ?_⟩
    walk_at "go"
    rw [show ((p : Nat) : Int) - 1 = ((p - 1 : Nat) : Int) by omega]
    refine ⟨D, p - 1, rfl, f14.dr, by omega, by omega, fun i5 H5 hi5 f5 => ?_⟩
    walk_at "go"
    rw [show (1 : Int) + (i5 : Nat) = ((1 + i5 : Nat) : Int) by omega]
    have hw0 : (md ((1 + i5 : Nat) : Int) : Fin p) ≠ 0 := fun z => by
      have := md_eq_zero.mp z
      rw [Int.emod_eq_of_lt (by omega) (by omega)] at this
      omega
    have hwp : 1 + i5 < p := by omega
    generalize 1 + i5 = wt at *
    have hc1 := stayF f5 hc1
    have hc2 := stayF f5 hc2
    have f15 := f14.trans f5
    clear f14 f5 hcd1 hcr1 hcd2 hcr2 ht
    walk_at "go"
    refine ⟨D, .ref c1, B, rfl, f15.dr, hc1, fun yB H6 f6 hB => ?_⟩
    have hB := stay f15.dr hB
    have hc1 := stayF f6 hc1
    have hc2 := stayF f6 hc2
    have f16 := f15.trans f6
    walk_at "go"
    refine ⟨D, .ref c2, B', rfl, f16.dr, hc2, fun yB' H7 f7 hB' => ?_⟩
    have hB' := stay f16.dr hB'
    have hB := stayF f7 hB
    have hc1 := stayF f7 hc1
    have hc2 := stayF f7 hc2
    have f17 := f16.trans f7
    clear f15 f16 f6 f7
    walk_at "go"
    refine ⟨yB, B, rfl, Mon.mono hD_le hB, fun Bs yS H8 e8 hLs hAs hS => ?_⟩
    have hS := stay f17.dr hS
    have hB' := stayS e8 hB'
    have hB := stayS e8 hB
    have hc1 := stayS e8 hc1
    have hc2 := stayS e8 hc2
    have f18 := f17.trans (Fr.of f17.dr e8)
    walk_at "go"
    refine ⟨yB', B', rfl, Mon.mono hD_le hB', fun Bs' yS' H9 e9 hLs' hAs' hS' => ?_⟩
    have hS' := stay f18.dr hS'
    have hS := stayS e9 hS
    have hB' := stayS e9 hB'
    have hB := stayS e9 hB
    have hc1 := stayS e9 hc1
    have hc2 := stayS e9 hc2
    have f19 := f18.trans (Fr.of f18.dr e9)
    clear f17 f18 e8 e9
    walk_at "go"
    refine ⟨(wt : Nat), rfl, hw0, by omega, fun z H10 e10 hz => ?_⟩
    have hS' := stayS e10 hS'
    have hS := stayS e10 hS
    have hB' := stayS e10 hB'
    have hB := stayS e10 hB
    have hc1 := stayS e10 hc1
    have hc2 := stayS e10 hc2
    have f1A := f19.trans (Fr.of f19.dr e10)
    clear f19 e10
    walk_at "go"
    -- the made ones
    have qB := Mon.mono hD_le hB
    have qB' := Mon.mono hD_le hB'
    have qS := Mon.mono hD_le hS
    have qS' := Mon.mono hD_le hS'
    have hwm : ((wt : Nat) : Int) % (p : Int) ≠ 0 := fun z => hw0 (md_eq_zero.mpr z)
    have hmb : (md (0 - iv z) : Fin p) = -z := by rw [md_sub, md_zero, md_iv]; grind
    have hz1 : (md (0 - iv z) : Fin p) * md ((wt : Nat) : Int) = -1 := by
      rw [hmb]
      have : -z * md ((wt : Nat) : Int) = -(z * md ((wt : Nat) : Int)) := by grind
      rw [this, hz]
    have hbm : (0 - iv z) % (p : Int) ≠ 0 := fun y => by
      have h1 : (md (0 - iv z) : Fin p) = 0 := md_eq_zero.mpr y
      rw [h1] at hz1
      have h2 : (1 : Fin p) = 0 := by grind
      exact one_ne h2
    refine ⟨yB, yB', B, B', rfl, qB, qB', by omega, fun F1 y1 H11 e11 hF1 sF1 bF1 => ?_⟩
    walk_at "go"
    refine ⟨yB, yB', B, B', rfl, Mon.mono e11 qB, Mon.mono e11 qB', by omega, fun F2 y2 H12 e12 hF2 sF2 bF2 => ?_⟩
    have a12 := Same.trans e11 e12
    walk_at "go"
    refine ⟨yB, yB', B, B', rfl, Mon.mono a12 qB, Mon.mono a12 qB', by omega, fun F3 y3 H13 e13 hF3 sF3 bF3 => ?_⟩
    have a13 := Same.trans a12 e13
    walk_at "go"
    refine ⟨by show 3 ≤ sizeLine; decide, fun l1 hl1 => ?_⟩
    have e14 := Same.new (o := .lst [y1, y2, y3]) hl1
    have hl14 : (upd H13 l1 (.lst [y1, y2, y3])) l1 = some (.lst [y1, y2, y3]) := upd_same
    generalize (upd H13 l1 (.lst [y1, y2, y3])) = H14 at *
    have a14 := Same.trans a13 e14
    walk_at "go"
    refine ⟨yB, yB', B, B', rfl, Mon.mono a14 qB, Mon.mono a14 qB', by omega, fun F4 y4 H15 e15 hF4 sF4 bF4 => ?_⟩
    have a15 := Same.trans a14 e15
    walk_at "go"
    refine ⟨yB, yB', B, B', (wt : Nat), rfl, Mon.mono a15 qB, Mon.mono a15 qB', by omega, hwm, fun F5 y5 H16 e16 hF5 sF5 bF5 => ?_⟩
    have a16 := Same.trans a15 e16
    walk_at "go"
    refine ⟨by show 2 ≤ sizeLine; decide, fun l2 hl2 => ?_⟩
    have e17 := Same.new (o := .lst [y4, y5]) hl2
    have hl27 : (upd H16 l2 (.lst [y4, y5])) l2 = some (.lst [y4, y5]) := upd_same
    generalize (upd H16 l2 (.lst [y4, y5])) = H17 at *
    have a17 := Same.trans a16 e17
    refine ⟨l1, l2, _, _, rfl, rfl, e17 l1 _ (e16 l1 _ (e15 l1 _ hl14)), hl27, by show 5 ≤ sizeLine; decide, fun lm hlm => ?_⟩
    have e18 := Same.new (o := .lst ([y1, y2, y3] ++ [y4, y5])) hlm
    have hlm8 : (upd H17 lm (.lst ([y1, y2, y3] ++ [y4, y5]))) lm = some (.lst [y1, y2, y3, y4, y5]) := upd_same
    generalize (upd H17 lm (.lst ([y1, y2, y3] ++ [y4, y5]))) = H18 at *
    have a18 := Same.trans a17 e18
    have hlmA : H10 lm = none := none_of a17 hlm
    -- what is due
    walk_at "go"
    refine ⟨yS, yS', Bs, Bs', rfl, Mon.mono a18 qS, Mon.mono a18 qS', by omega, fun G1 z1 H19 e19 hG1 sG1 bG1 => ?_⟩
    have a19 := Same.trans a18 e19
    walk_at "go"
    refine ⟨yS, yS', Bs, Bs', rfl, Mon.mono a19 qS, Mon.mono a19 qS', by omega, fun G2 z2 H20 e20 hG2 sG2 bG2 => ?_⟩
    have a20 := Same.trans a19 e20
    walk_at "go"
    refine ⟨yS, yS', Bs, Bs', rfl, Mon.mono a20 qS, Mon.mono a20 qS', by omega, fun G3 z3 H21 e21 hG3 sG3 bG3 => ?_⟩
    have a21 := Same.trans a20 e21
    walk_at "go"
    refine ⟨by show 3 ≤ sizeLine; decide, fun l3 hl3 => ?_⟩
    have e22 := Same.new (o := .lst [z1, z2, z3]) hl3
    have hl32 : (upd H21 l3 (.lst [z1, z2, z3])) l3 = some (.lst [z1, z2, z3]) := upd_same
    generalize (upd H21 l3 (.lst [z1, z2, z3])) = H22 at *
    have a22 := Same.trans a21 e22
    walk_at "go"
    refine ⟨yS, yS', Bs, Bs', rfl, Mon.mono a22 qS, Mon.mono a22 qS', by omega, fun G4 z4 H23 e23 hG4 sG4 bG4 => ?_⟩
    have a23 := Same.trans a22 e23
    walk_at "go"
    refine ⟨yS, yS', Bs, Bs', 0 - iv z, rfl, Mon.mono a23 qS, Mon.mono a23 qS', by omega, hbm, fun G5 z5 H24 e24 hG5 sG5 bG5 => ?_⟩
    have a24 := Same.trans a23 e24
    walk_at "go"
    refine ⟨by show 2 ≤ sizeLine; decide, fun l4 hl4 => ?_⟩
    have e25 := Same.new (o := .lst [z4, z5]) hl4
    have hl45 : (upd H24 l4 (.lst [z4, z5])) l4 = some (.lst [z4, z5]) := upd_same
    generalize (upd H24 l4 (.lst [z4, z5])) = H25 at *
    have a25 := Same.trans a24 e25
    refine ⟨l3, l4, _, _, rfl, rfl, e25 l3 _ (e24 l3 _ (e23 l3 _ hl32)), hl45, by show 5 ≤ sizeLine; decide, fun ld hld => ?_⟩
    have e26 := Same.new (o := .lst ([z1, z2, z3] ++ [z4, z5])) hld
    have hld6 : (upd H25 ld (.lst ([z1, z2, z3] ++ [z4, z5]))) ld = some (.lst [z1, z2, z3, z4, z5]) := upd_same
    generalize (upd H25 ld (.lst ([z1, z2, z3] ++ [z4, z5]))) = H26 at *
    have a26 := Same.trans a25 e26
    have hldA : H10 ld = none := none_of a25 hld
    -- all of it
    have d24 := e26
    have x24 := Same.trans e25 e26
    have x23 := Same.trans e24 x24
    have x22 := Same.trans e23 x23
    have x21 := Same.trans e22 x22
    have x20 := Same.trans e21 x21
    have x19 := Same.trans e20 x20
    have x18 := Same.trans e19 x19
    have x17 := Same.trans e18 x18
    have x16 := Same.trans e17 x17
    have x15 := Same.trans e16 x16
    have x14 := Same.trans e15 x15
    have x13 := Same.trans e14 x14
    have x12 := Same.trans e13 x13
    have x11 := Same.trans e12 x12
    have cF1 := Mon.mono (New.mono x11) bF1
    have cF2 := Mon.mono (Same.trans (New.anti e11) (New.mono x12)) bF2
    have cF3 := Mon.mono (Same.trans (New.anti a12) (New.mono x13)) bF3
    have cF4 := Mon.mono (Same.trans (New.anti a14) (New.mono x15)) bF4
    have cF5 := Mon.mono (Same.trans (New.anti a15) (New.mono x16)) bF5
    have cG1 := Mon.mono (Same.trans (New.anti a18) (New.mono x19)) bG1
    have cG2 := Mon.mono (Same.trans (New.anti a19) (New.mono x20)) bG2
    have cG3 := Mon.mono (Same.trans (New.anti a20) (New.mono x21)) bG3
    have cG4 := Mon.mono (Same.trans (New.anti a22) (New.mono x23)) bG4
    have cG5 := Mon.mono (Same.trans (New.anti a23) (New.mono x24)) bG5
    have lF : LstOf (BookV d) [F1, F2, F3, F4, F5] (.ref lm) (hD D H26) := stay f1A.dr ⟨lm, _, rfl, by rw [New.at_ hlmA]; exact x18 lm _ hlm8, ((((Each.one cF1).snoc cF2).snoc cF3).snoc cF4).snoc cF5⟩
    have lG : LstOf (BookV d) [G1, G2, G3, G4, G5] (.ref ld) (hD D H26) := stay f1A.dr ⟨ld, _, rfl, by rw [New.at_ hldA]; exact hld6, ((((Each.one cG1).snoc cG2).snoc cG3).snoc cG4).snoc cG5⟩
    have FV : Five B B' [F1, F2, F3, F4, F5] [G1, G2, G3, G4, G5] := five ⟨hLs, hAs⟩ ⟨hLs', hAs'⟩ hz1 ⟨hF1, sF1⟩ ⟨hF2, sF2⟩ ⟨hF3, sF3⟩ ⟨hF4, sF4⟩ ⟨hF5, sF5⟩ ⟨hG1, sG1⟩ ⟨hG2, sG2⟩ ⟨hG3, sG3⟩ ⟨hG4, sG4⟩ ⟨hG5, sG5⟩
    clear hwm hbm hw0 hz1 hmb hi hi5 hi1 hwp hz hF1 hF2 hF3 hF4 hF5 hG1 hG2 hG3 hG4 hG5
    generalize [F1, F2, F3, F4, F5] = Fs at *
    generalize [G1, G2, G3, G4, G5] = Gs at *
    have hS' := stayS a26 hS'
    have hS := stayS a26 hS
    have hB' := stayS a26 hB'
    have hB := stayS a26 hB
    have hc1 := stayS a26 hc1
    have hc2 := stayS a26 hc2
    have f1Z := f1A.trans (Fr.of f1A.dr a26)
    clear cF1 cF2 cF3 cF4 cF5 cG1 cG2 cG3 cG4 cG5 x11 x12 x13 x14 x15 x16 x17 x18 x19 x20 x21 x22 x23 x24 d24
    clear bF1 bF2 bF3 bF4 bF5 bG1 bG2 bG3 bG4 bG5 sF1 sF2 sF3 sF4 sF5 sG1 sG2 sG3 sG4 sG5 qB qB' qS qS'
    clear e11 e12 e13 e14 e15 e16 e17 e18 e19 e20 e21 e22 e23 e24 e25 e26 a12 a13 a14 a15 a16 a17 a18 a19 a20 a21 a22 a23 a24 a25 a26
    walk_at "go"
    refine r_for (r_zipS (.inl lF) hD_le (.inl lG) (fun QA q => by walk_at "go"; exact q) fun J2 ys2 zs2 hys2 hzs2 wk2 => ?_)
    rw [FV.lF, FV.lG, Nat.min_self] at wk2
    refine for_it wk2 (fun j σ H' => Same H26 H' ∧ ∃ (w14 w15 : Option V), σ = [some (.ref sa), some (.ref D.a), some (.int i), some (.ref c1), some (.ref c2), some (.int p), some (.int wt), some yB, some yB', some yS, some yS', some (.int (0 - iv z)), some (.ref lm), some (.ref ld), w14, w15, v16, v17, v18]) ⟨Same.refl _, _, _, rfl⟩ (fun _ _ _ _ h => Same.trans hD_le h.1) ?_ ?_
    · rintro j x σ Hy H27 hj ⟨e27, w14, w15, rfl⟩ ⟨T0, xa, xb, rfl, hT0, rfl, hxa, hxb⟩
      obtain ⟨F, hFj, bF0⟩ := hys2.yet hxa
      obtain ⟨G, hGj, bG0⟩ := hzs2.yet hxb
      have DL := FV.dual j F G hFj hGj
      have eT := Same.new (o := .tup [xa, xb]) hT0
      have eZ := Same.trans e27 eT
      have bF1 := Mon.mono (Same.trans hD_le eZ) bF0
      have bG1 := Mon.mono (Same.trans hD_le eZ) bG0
      obtain ⟨ga, gdx, gt, rfl, hga, hgt⟩ := id bG1
      obtain ⟨fa, fdx, ft, rfl, hfa, hft⟩ := id bF1
      walk_at "go"
      refine ⟨_, F, rfl, bF1, fun S1 u1 H28 e28 hS1L hS1A bS1 => ?_⟩
      obtain ⟨s1, sdx, st, rfl, hsa1, hst1⟩ := id bS1
      have bT1 : BookV d S1 (.ref s1) H28 := Mon.mono New.le bS1
      have bF2 := Mon.mono e28 bF1
      have bG2 := Mon.mono e28 bG1
      walk_at "go"
      refine ⟨s1, ga, sdx, gdx, _, _, rfl, rfl, New.le _ _ hsa1, e28 ga _ hga, ?_⟩
      refine r_U (by assumption) ⟨_, _, S1, G, rfl, bT1, bG2, by rw [hS1L, DL.L], Bk.rows_eq (by rw [hS1L, DL.L]) fun f => (hS1A f).trans (DL.fg f).symm, ?_⟩
      refine r_bl ?_
      refine r_bl (r_false ?_)
      walk_at "go"
      refine ⟨_, G, rfl, bG2, fun S2 u2 H29 e29 hS2L hS2A bS2 => ?_⟩
      obtain ⟨s2, sdx2, st2, rfl, hsa2, hst2⟩ := id bS2
      have bT2 : BookV d S2 (.ref s2) H29 := Mon.mono New.le bS2
      have bF3 := Mon.mono e29 bF2
      walk_at "go"
      refine ⟨s2, fa, sdx2, fdx, _, _, rfl, rfl, New.le _ _ hsa2, e29 fa _ (e28 fa _ hfa), ?_⟩
      refine r_U (by assumption) ⟨_, _, S2, F, rfl, bT2, bF3, by rw [hS2L, DL.L], Bk.rows_eq (by rw [hS2L, DL.L]) fun f => (hS2A f).trans (DL.gf f).symm, ?_⟩
      refine r_bl ?_
      refine r_bl (r_false ?_)
      exact ⟨Same.trans eZ (Same.trans e28 e29), _, _, rfl⟩
    · rintro σ H27 ⟨e27, w14, w15, rfl⟩
      have hS' := stayS e27 hS'
      have hS := stayS e27 hS
      have hB' := stayS e27 hB'
      have hB := stayS e27 hB
      have hc1 := stayS e27 hc1
      have hc2 := stayS e27 hc2
      have lF := stayS e27 lF
      have lG := stayS e27 lG
      have f1Y := f1Z.trans (Fr.of f1Z.dr e27)
      clear f1Z
      walk_at "go"
      refine ⟨.ref c1, B, rfl, Mon.mono hD_le hc1, fun Bc yc H28 e28 hcL hcA hcC => ?_⟩
      walk_at "go"
      refine ⟨yS, yc, Bs, Bc, rfl, Mon.mono (Same.trans hD_le e28) hS, Mon.mono New.le hcC, by rw [hLs, hcL], Bk.rows_eq (by rw [hLs, hcL]) fun f => (hAs f).trans (hcA f).symm, fun H29 e29 => ?_⟩
      refine r_bl (r_false ?_)
      have e279 := Same.trans e28 e29
      walk_at "go"
      refine ⟨.ref c2, B', rfl, Mon.mono (Same.trans hD_le e279) hc2, fun Bd yd H30 e30 hdL hdA hdC => ?_⟩
      have e2730 := Same.trans e279 e30
      walk_at "go"
      refine ⟨yS', yd, Bs', Bd, rfl, Mon.mono (Same.trans hD_le e2730) hS', Mon.mono New.le hdC, by rw [hLs', hdL], Bk.rows_eq (by rw [hLs', hdL]) fun f => (hAs' f).trans (hdA f).symm, fun H31 e31 => ?_⟩
      refine r_bl (r_false ?_)
      have e2731 := Same.trans e2730 e31
      have hB' := stayS e2731 hB'
      have hB := stayS e2731 hB
      have hc1 := stayS e2731 hc1
      have hc2 := stayS e2731 hc2
      have lF := stayS e2731 lF
      have lG := stayS e2731 lG
      have f1X := f1Y.trans (Fr.of f1Y.dr e2731)
      clear f1Y e28 e29 e30 e31 e279 e2730 e2731 hcC hdC
      obtain ⟨c1', r1', ec1, hcd1, hcr1⟩ := id hc1
      obtain ⟨c2', r2', ec2, hcd2, hcr2⟩ := id hc2
      cases ec1
      cases ec2
      walk_at "go"
      refine ⟨c1, _, rfl, get_letters (hD_le c1 _ hcd1), ?_⟩
      walk_at "go"
      refine ⟨c2, _, rfl, get_letters (hD_le c2 _ hcd2), ?_⟩
      walk_at "go"
      rw [show ((B.L : Nat) : Int) + (B'.L : Nat) = ((B.L + B'.L : Nat) : Int) by omega]
      refine ⟨B.L + B'.L, rfl, by omega, hLL, fun H32 e32 => ?_⟩
      have f1W := f1X.trans (Fr.of f1X.dr e32)
      have hB' := stayS e32 hB'
      have hB := stayS e32 hB
      have lF := stayS e32 lF
      have lG := stayS e32 lG
      obtain ⟨hsp1, hsp6⟩ := short_pos (B.L + B'.L)
      walk_at "go"
      refine ⟨D, 5, rfl, f1W.dr, by omega, by omega, fun sp H33 hsp f33 => ?_⟩
      walk_at "go"
      refine ⟨D, shortN (B.L + B'.L), rfl, f33.dr, hsp1, by omega, fun le H34 hle f34 => ?_⟩
      have f234 := f33.trans f34
      have hB' := stayF f234 hB'
      have hB := stayF f234 hB
      have lF := stayF f234 lF
      have lG := stayF f234 lG
      have f1V := f1W.trans f234
      walk_at "go"
      rw [show (1 : Int) + (le : Nat) = ((1 + le : Nat) : Int) by omega]
      have hm : 1 + le ≤ shortN (B.L + B'.L) := by omega
      generalize 1 + le = m at *
      obtain ⟨fitB, fitB', fitF⟩ := FV.fit m hm
      obtain ⟨lmb, lmy, elm, hlm4, hlmE⟩ := id lF
      obtain ⟨ldb, ldy, eld, hld4, hldE⟩ := id lG
      cases elm
      cases eld
      obtain ⟨F, hFs⟩ : ∃ F, Fs[sp]? = some F := ⟨_, List.getElem?_eq_getElem (show sp < Fs.length by rw [FV.lF]; exact hsp)⟩
      obtain ⟨G, hGs⟩ : ∃ G, Gs[sp]? = some G := ⟨_, List.getElem?_eq_getElem (show sp < Gs.length by rw [FV.lG]; exact hsp)⟩
      obtain ⟨yF, hyF, bF⟩ := hlmE.get hFs
      obtain ⟨yG, hyG, bG⟩ := hldE.get hGs
      have fF := fitF sp _ (.inl hFs)
      have fG := fitF sp _ (.inr hGs)
      refine r_for (r_iL ?_)
      walk_at "go"
      refine r_ixL (SqL.of (hD_le lm _ hlm4)) hyF ?_
      walk_at "go"
      refine r_ixL (SqL.of (hD_le ld _ hld4)) hyG ?_
      walk_at "go"
      refine ⟨by show 2 ≤ sizeLine; decide, fun l5 hl5 => ⟨l5, rfl, ⟨_, SqL.of upd_same⟩, ?_⟩⟩
      have e5 := Same.new (o := .lst [yF, yG]) hl5
      refine for_it (walk_list.mono (n := [yF, yG].length) (G' := fun H' => Same (upd H34 l5 (.lst [yF, yG])) H') (fun H' e => SqL.of (e l5 _ upd_same)) fun _ _ _ _ _ _ h => h)
        (fun j σ H' => Same (upd H34 l5 (.lst [yF, yG])) H' ∧ ∃ (w14 : Option V), σ = [some (.ref sa), some (.ref D.a), some (.int i), some (.ref c1), some (.ref c2), some (.int p), some (.int wt), some yB, some yB', some yS, some yS', some (.int (0 - iv z)), some (.ref lm), some (.ref ld), w14, w15, some (.int (shortN (B.L + B'.L) : Nat)), some (.int sp), some (.int m)]) ?_ (fun _ _ _ _ h => h.1) ?_ ?_
      · exact ⟨Same.refl _, _, rfl⟩
      · rintro j x σ Hy H35 hj ⟨e35, w14, rfl⟩ ⟨rfl, hx⟩
        have e34 := Same.trans e5 e35
        have hx2 : ∃ F : Bk p, BookV d F x H35 ∧ FitOk F m ∧ F.L = B.L + B'.L := by
          match j, hx with
          | 0, hx => cases hx; exact ⟨F, Mon.mono (Same.trans hD_le e34) bF, fF.1, fF.2⟩
          | 1, hx => cases hx; exact ⟨G, Mon.mono (Same.trans hD_le e34) bG, fG.1, fG.2⟩
          | j + 2, hx => simp at hx
        obtain ⟨X, bX, fX, hXL⟩ := hx2
        obtain ⟨hm6, hpX⟩ := pow_ok (L := X.L) (T := B.L + B'.L) (by omega) (by omega) hLL hm
        obtain ⟨_, hpB⟩ := pow_ok (L := B.L) (T := B.L + B'.L) (by omega) (by omega) hLL hm
        obtain ⟨_, hpB'⟩ := pow_ok (L := B'.L) (T := B.L + B'.L) (by omega) (by omega) hLL hm
        walk_at "go"
        refine ⟨x, X, m, rfl, bX, hm6, hpX, fX, fun H36 e36 => ?_⟩
        walk_at "go"
        have e46 := Same.trans e34 e36
        refine ⟨yB, B, m, rfl, Mon.mono (Same.trans hD_le e46) hB, hm6, hpB, fitB, fun H37 e37 => ?_⟩
        walk_at "go"
        have e47 := Same.trans e46 e37
        refine ⟨yB', B', m, rfl, Mon.mono (Same.trans hD_le e47) hB', hm6, hpB', fitB', fun H38 e38 => ?_⟩
        walk_at "go"
        refine ⟨rfl, ?_⟩
        walk_at "go"
        exact ⟨Same.trans e35 (Same.trans e36 (Same.trans e37 e38)), _, rfl⟩
      · rintro σ H35 ⟨e35, w14, rfl⟩
        exact ⟨f1V.trans (Fr.of f1V.dr (Same.trans e5 e35)), _, _, _, _, _, _, _, _, _, _, _, _, _, _, _, _, _, rfl⟩
  · rintro σ H2 ⟨f1, v2, v3, v4, v5, v6, v7, v8, v9, v10, v11, v12, v13, v14, v15, v16, v17, v18, rfl⟩
    walk_at "go"
    exact k H2
end
end RS
namespace RS
open PySem PySem.Spec PyProof.Rows L2
open C8 (Cal Mak Met)
section
variable {P : Program} {w : World} {K : PySem.W.Frag} {mg : Str → Option Value} {base : Heap} {d : Ad}
/-- every def as it stands -/
structure Defs (K : PySem.W.Frag) (mg : Str → Option Value) (d : Ad) : Prop where
  d__law_begun : Df K mg "_law_begun" s__law_begun
  d__law_mixed : Df K mg "_law_mixed" s__law_mixed
  d__law_take : Df K mg "_law_take" s__law_take
  d__law_pick : Df K mg "_law_pick" s__law_pick
  d__law_field : Df K mg "_law_field" s__law_field
  d__law_pairs : Df K mg "_law_pairs" s__law_pairs
  d__law_at_words : Df K mg "_law_at_words" s__law_at_words
  d__law_single : Df K mg "_law_single" s__law_single
  d__law_web_rules : Df K mg "_law_web_rules" s__law_web_rules
  d__law_family_rules : Df K mg "_law_family_rules" s__law_family_rules
  d__law_loose_rules : Df K mg "_law_loose_rules" s__law_loose_rules
  d__law_undone : Df K mg "_law_undone" s__law_undone
  d__law_whole : Df K mg "_law_whole" s__law_whole
  d__law_word_here : Df K mg "_law_word_here" s__law_word_here
  d__law_followed : Df K mg "_law_followed" s__law_followed
  d__law_letters_led : Df K mg "_law_letters_led" s__law_letters_led
  d__law_cleared : Df K mg "_law_cleared" s__law_cleared
  d__law_tidied : Df K mg "_law_tidied" s__law_tidied
  d__law_case_of : Df K mg "_law_case_of" s__law_case_of
  d__law_case_over : Df K mg "_law_case_over" s__law_case_over
  d__law_two_cases : Df K mg "_law_two_cases" s__law_two_cases
  d__law_shuffled : Df K mg "_law_shuffled" s__law_shuffled
  d__law_raw : Df K mg "_law_raw" s__law_raw
  d_is_number : Df K mg "is_number" s_is_number
  d_need_prime : Df K mg "need_prime" s_need_prime
  d_is_between : Df K mg "is_between" s_is_between
  d_need_letters : Df K mg "need_letters" s_need_letters
  d_is_list : Df K mg "is_list" s_is_list
  d_is_row : Df K mg "is_row" s_is_row
  d_are_rows : Df K mg "are_rows" s_are_rows
  d_need_rows : Df K mg "need_rows" s_need_rows
  d_few : Df K mg "few" s_few
  d_lessened : Df K mg "lessened" s_lessened
  d_cleared : Df K mg "cleared" s_cleared
  d_undone : Df K mg "undone" s_undone
  d_heads_of : Df K mg "heads_of" s_heads_of
  d_whole_row : Df K mg "whole_row" s_whole_row
  d_tidy_rows : Df K mg "tidy_rows" s_tidy_rows
  d_Rules___init__ : DfM K "__init__" "Rules.__init__" s_Rules___init__ (Mk K d.C)
  d__law_made_rules : Df K mg "_law_made_rules" s__law_made_rules
  d_need_book : Df K mg "need_book" s_need_book
  d_dark_rows : Df K mg "dark_rows" s_dark_rows
  d_shadow_of : Df K mg "shadow_of" s_shadow_of
  d_shadow : Df K mg "shadow" s_shadow
  d_need_one_prime : Df K mg "need_one_prime" s_need_one_prime
  d_need_made : Df K mg "need_made" s_need_made
  d_widened : Df K mg "widened" s_widened
  d_crossed : Df K mg "crossed" s_crossed
  d_sides_of : Df K mg "sides_of" s_sides_of
  d_free_sides : Df K mg "free_sides" s_free_sides
  d_shut_sides : Df K mg "shut_sides" s_shut_sides
  d_ahead_sides : Df K mg "ahead_sides" s_ahead_sides
  d_behind_sides : Df K mg "behind_sides" s_behind_sides
  d_weighed_sides : Df K mg "weighed_sides" s_weighed_sides
  d_Rules___eq__ : DfM K "__eq__" "Rules.__eq__" s_Rules___eq__ (EqF K d.C)
  d__law_is_rules : Df K mg "_law_is_rules" s__law_is_rules
  d__law_still : Df K mg "_law_still" s__law_still
  d__law_dark : Df K mg "_law_dark" s__law_dark
  d__law_shadowed : Df K mg "_law_shadowed" s__law_shadowed
  d__law_short : Df K mg "_law_short" s__law_short
  d__law_is_truth : Df K mg "_law_is_truth" s__law_is_truth
  d_need_from : Df K mg "need_from" s_need_from
  d_many_words : Df K mg "many_words" s_many_words
  d_placed_few : Df K mg "placed_few" s_placed_few
  d_nothing_heads : Df K mg "nothing_heads" s_nothing_heads
  d_shared_rows : Df K mg "shared_rows" s_shared_rows
  d_next_common : Df K mg "next_common" s_next_common
  d_commons_to : Df K mg "commons_to" s_commons_to
  d_Rungs___init__ : DfM K "__init__" "Rungs.__init__" s_Rungs___init__ (Mk K d.R)
  d_Rungs_parts_off : DfM K "parts_off" "Rungs.parts_off" s_Rungs_parts_off (Meth K d.R "parts_off")
  d_Rungs_letter_rests : DfM K "letter_rests" "Rungs.letter_rests" s_Rungs_letter_rests (Meth K d.R "letter_rests")
  d_Rungs_step : DfM K "step" "Rungs.step" s_Rungs_step (Meth K d.R "step")
  d_Rungs_size : DfM K "size" "Rungs.size" s_Rungs_size (Meth K d.R "size")
  d_Rungs_losses : DfM K "losses" "Rungs.losses" s_Rungs_losses (Meth K d.R "losses")
  d_first_of : Df K mg "first_of" s_first_of
  d_first_lost : Df K mg "first_lost" s_first_lost
  d_fits : Df K mg "fits" s_fits
  d_law : Df K mg "law" s_law
theorem law_fn (T : Tx K mg d) (G : Defs K mg d) {f1 : Addr} {fd1 : FuncData} (F : FunD K "law" "law" (defArgs s_law) (defBody s_law) (defScope s_law) [] [] f1 fd1) : FnG P w K mg base CX0 12 f1 fd1 ["_law_script"] (spLaw K) := by
  have c__law_begun := ok__law_begun (P := P) (w := w) (base := base) T G.d__law_begun 
  have c__law_mixed := ok__law_mixed (P := P) (w := w) (base := base) T G.d__law_mixed 
  have c__law_take := ok__law_take (P := P) (w := w) (base := base) T G.d__law_take c__law_mixed
  have c__law_pick := ok__law_pick (P := P) (w := w) (base := base) T G.d__law_pick c__law_take
  have c__law_field := ok__law_field (P := P) (w := w) (base := base) T G.d__law_field c__law_pick
  have c__law_pairs := ok__law_pairs (P := P) (w := w) (base := base) T G.d__law_pairs 
  have c__law_at_words := ok__law_at_words (P := P) (w := w) (base := base) T G.d__law_at_words 
  have c__law_single := ok__law_single (P := P) (w := w) (base := base) T G.d__law_single 
  have c__law_web_rules := ok__law_web_rules (P := P) (w := w) (base := base) T G.d__law_web_rules c__law_take c__law_pairs c__law_at_words
  have c__law_family_rules := ok__law_family_rules (P := P) (w := w) (base := base) T G.d__law_family_rules c__law_pairs c__law_at_words c__law_single c__law_web_rules
  have c__law_loose_rules := ok__law_loose_rules (P := P) (w := w) (base := base) T G.d__law_loose_rules c__law_take
  have c__law_undone := ok__law_undone (P := P) (w := w) (base := base) T G.d__law_undone 
  have c__law_whole := ok__law_whole (P := P) (w := w) (base := base) T G.d__law_whole c__law_take c__law_single c__law_undone
  have c__law_word_here := ok__law_word_here (P := P) (w := w) (base := base) T G.d__law_word_here 
  have c__law_followed := ok__law_followed (P := P) (w := w) (base := base) T G.d__law_followed 
  have c__law_letters_led := ok__law_letters_led (P := P) (w := w) (base := base) T G.d__law_letters_led c__law_word_here c__law_followed
  have c__law_cleared := ok__law_cleared (P := P) (w := w) (base := base) T G.d__law_cleared c__law_undone
  have c__law_tidied := ok__law_tidied (P := P) (w := w) (base := base) T G.d__law_tidied c__law_cleared
  have c__law_case_of := ok__law_case_of (P := P) (w := w) (base := base) T G.d__law_case_of c__law_tidied
  have c__law_case_over := ok__law_case_over (P := P) (w := w) (base := base) T G.d__law_case_over c__law_take c__law_family_rules c__law_loose_rules c__law_whole c__law_letters_led c__law_case_of
  have c__law_two_cases := ok__law_two_cases (P := P) (w := w) (base := base) T G.d__law_two_cases c__law_field c__law_case_over
  have c__law_shuffled := ok__law_shuffled (P := P) (w := w) (base := base) T G.d__law_shuffled c__law_take
  have c__law_raw := ok__law_raw (P := P) (w := w) (base := base) T G.d__law_raw c__law_take
  have c_is_number := ok_is_number (P := P) (w := w) (base := base) T G.d_is_number 
  have c_need_prime := ok_need_prime (P := P) (w := w) (base := base) T G.d_need_prime c_is_number
  have c_is_between := ok_is_between (P := P) (w := w) (base := base) T G.d_is_between c_is_number
  have c_need_letters := ok_need_letters (P := P) (w := w) (base := base) T G.d_need_letters c_is_between
  have c_is_list := ok_is_list (P := P) (w := w) (base := base) T G.d_is_list 
  have c_is_row := ok_is_row (P := P) (w := w) (base := base) T G.d_is_row c_is_list c_is_number
  have c_are_rows := ok_are_rows (P := P) (w := w) (base := base) T G.d_are_rows c_is_list c_is_row
  have c_need_rows := ok_need_rows (P := P) (w := w) (base := base) T G.d_need_rows c_are_rows
  have c_few := ok_few (P := P) (w := w) (base := base) T G.d_few 
  have c_lessened := ok_lessened (P := P) (w := w) (base := base) T G.d_lessened 
  have c_cleared := ok_cleared (P := P) (w := w) (base := base) T G.d_cleared c_lessened
  have c_undone := ok_undone (P := P) (w := w) (base := base) T G.d_undone 
  have c_heads_of := ok_heads_of (P := P) (w := w) (base := base) T G.d_heads_of c_lessened c_cleared c_undone
  have c_whole_row := ok_whole_row (P := P) (w := w) (base := base) T G.d_whole_row 
  have c_tidy_rows := ok_tidy_rows (P := P) (w := w) (base := base) T G.d_tidy_rows c_few c_heads_of c_whole_row
  have c_Rules := (ok_Rules___init__ (P := P) (w := w) (base := base) T G.d_Rules___init__ c_need_prime c_need_letters c_need_rows c_tidy_rows).mak T.rules
  have c__law_made_rules := ok__law_made_rules (P := P) (w := w) (base := base) T G.d__law_made_rules c__law_shuffled c__law_raw c__law_take c_Rules
  have c_need_book := ok_need_book (P := P) (w := w) (base := base) T G.d_need_book 
  have c_dark_rows := ok_dark_rows (P := P) (w := w) (base := base) T G.d_dark_rows c_few c_heads_of c_whole_row c_tidy_rows
  have c_shadow_of := ok_shadow_of (P := P) (w := w) (base := base) T G.d_shadow_of c_dark_rows c_Rules
  have c_shadow := ok_shadow (P := P) (w := w) (base := base) T G.d_shadow c_need_book c_shadow_of
  have c_need_one_prime := ok_need_one_prime (P := P) (w := w) (base := base) T G.d_need_one_prime c_need_book
  have c_need_made := ok_need_made (P := P) (w := w) (base := base) T G.d_need_made c_is_between
  have c_widened := ok_widened (P := P) (w := w) (base := base) T G.d_widened 
  have c_crossed := ok_crossed (P := P) (w := w) (base := base) T G.d_crossed 
  have c_sides_of := ok_sides_of (P := P) (w := w) (base := base) T G.d_sides_of c_need_made c_widened c_crossed c_Rules
  have c_free_sides := ok_free_sides (P := P) (w := w) (base := base) T G.d_free_sides c_need_one_prime c_sides_of
  have c_shut_sides := ok_shut_sides (P := P) (w := w) (base := base) T G.d_shut_sides c_need_one_prime c_sides_of
  have c_ahead_sides := ok_ahead_sides (P := P) (w := w) (base := base) T G.d_ahead_sides c_need_one_prime c_sides_of
  have c_behind_sides := ok_behind_sides (P := P) (w := w) (base := base) T G.d_behind_sides c_need_one_prime c_sides_of
  have c_weighed_sides := ok_weighed_sides (P := P) (w := w) (base := base) T G.d_weighed_sides c_need_one_prime c_need_made c_is_number c_sides_of
  have c_eq := ok_Rules___eq__ (P := P) (w := w) (base := base) T G.d_Rules___eq__ 
  have c__law_is_rules := ok__law_is_rules (P := P) (w := w) (base := base) T G.d__law_is_rules 
  have c__law_still := ok__law_still (P := P) (w := w) (base := base) T G.d__law_still c__law_cleared c__law_single
  have c__law_dark := ok__law_dark (P := P) (w := w) (base := base) T G.d__law_dark c__law_tidied c__law_still
  have c__law_shadowed := ok__law_shadowed (P := P) (w := w) (base := base) T G.d__law_shadowed c__law_dark
  have c__law_short := ok__law_short (P := P) (w := w) (base := base) T G.d__law_short 
  have c__law_is_truth := ok__law_is_truth (P := P) (w := w) (base := base) T G.d__law_is_truth 
  have c_need_from := ok_need_from (P := P) (w := w) (base := base) T G.d_need_from c_is_number
  have c_many_words := ok_many_words (P := P) (w := w) (base := base) T G.d_many_words 
  have c_placed_few := ok_placed_few (P := P) (w := w) (base := base) T G.d_placed_few c_many_words c_few
  have c_nothing_heads := ok_nothing_heads (P := P) (w := w) (base := base) T G.d_nothing_heads c_placed_few c_heads_of
  have c_shared_rows := ok_shared_rows (P := P) (w := w) (base := base) T G.d_shared_rows c_heads_of
  have c_next_common := ok_next_common (P := P) (w := w) (base := base) T G.d_next_common c_shared_rows
  have c_commons_to := ok_commons_to (P := P) (w := w) (base := base) T G.d_commons_to c_few c_many_words c_next_common
  have c_Rungs := (ok_Rungs___init__ (P := P) (w := w) (base := base) T G.d_Rungs___init__ c_many_words c_nothing_heads c_commons_to).mak T.rungs
  have c_Rungs_parts_off := (ok_Rungs_parts_off (P := P) (w := w) (base := base) T G.d_Rungs_parts_off).met T.clU
  have c_Rungs_letter_rests := (ok_Rungs_letter_rests (P := P) (w := w) (base := base) T G.d_Rungs_letter_rests c_cleared).met T.clU
  have c_Rungs_step := (ok_Rungs_step (P := P) (w := w) (base := base) T G.d_Rungs_step c_Rungs_parts_off c_Rungs_letter_rests).met T.clU
  have c_Rungs_size := (ok_Rungs_size (P := P) (w := w) (base := base) T G.d_Rungs_size).met T.clU
  have c_Rungs_losses := (ok_Rungs_losses (P := P) (w := w) (base := base) T G.d_Rungs_losses c_heads_of c_Rungs_step c_Rungs_size).met T.clU
  have c_first_of := ok_first_of (P := P) (w := w) (base := base) T G.d_first_of c_Rungs c_Rungs_losses
  have c_first_lost := ok_first_lost (P := P) (w := w) (base := base) T G.d_first_lost c_need_book c_need_from c_many_words c_first_of
  have c_fits := ok_fits (P := P) (w := w) (base := base) T G.d_fits c_first_lost
  exact ok_law (P := P) (w := w) (base := base) T F c__law_begun c__law_take c__law_two_cases c__law_made_rules c_shadow c__law_undone c_free_sides c_shut_sides c_ahead_sides c_behind_sides c_weighed_sides c_eq c__law_is_rules c__law_shadowed c__law_short c__law_is_truth c_fits
end
end RS
set_option maxHeartbeats 0
namespace RS
open PySem PySem.Spec PyProof.Rows L2
section
variable {P : Program} {w : World} {K : PySem.W.Frag} {h : Heap} {mg : Str → Option Value}
def adK (K : PySem.W.Frag) : Ad := ⟨He.ga K "Rules", He.ga K "Rungs", He.ga K "PRIMES"⟩
theorem ex_tx (X : K.In h) (G : h.Ns mainGlobals mg) (c : He.SaysD faL fnL K) (m : exB K = true) : Tx K mg (adK K) := by
  obtain ⟨m1, m⟩ := He.ba m
  obtain ⟨m2, m⟩ := He.ba m
  obtain ⟨m3, m⟩ := He.ba m
  obtain ⟨m4, m⟩ := He.ba m
  obtain ⟨m5, m⟩ := He.ba m
  obtain ⟨m6, m⟩ := He.ba m
  obtain ⟨m7, m8⟩ := He.ba m
  have clR : Cls K (He.ga K "Rules") := He.cls_ok (c.fact 20 (f := .cls "Rules") rfl)
  have clU : Cls K (He.ga K "Rungs") := He.cls_ok (c.fact 21 (f := .cls "Rungs") rfl)
  exact {
    isinstance := He.free_ok X G (c.fact 0 (f := .free "isinstance") rfl)
    len := He.free_ok X G (c.fact 1 (f := .free "len") rfl)
    all := He.free_ok X G (c.fact 2 (f := .free "all") rfl)
    range := He.free_ok X G (c.fact 3 (f := .free "range") rfl)
    enumerate := He.free_ok X G (c.fact 4 (f := .free "enumerate") rfl)
    zip := He.free_ok X G (c.fact 5 (f := .free "zip") rfl)
    sorted := He.free_ok X G (c.fact 6 (f := .free "sorted") rfl)
    min := He.free_ok X G (c.fact 7 (f := .free "min") rfl)
    abs := He.free_ok X G (c.fact 8 (f := .free "abs") rfl)
    repr := He.free_ok X G (c.fact 9 (f := .free "repr") rfl)
    int_ := He.free_ok X G (c.fact 10 (f := .free "int") rfl)
    bool_ := He.free_ok X G (c.fact 11 (f := .free "bool") rfl)
    list_ := He.free_ok X G (c.fact 12 (f := .free "list") rfl)
    tuple_ := He.free_ok X G (c.fact 13 (f := .free "tuple") rfl)
    dict_ := He.free_ok X G (c.fact 14 (f := .free "dict") rfl)
    pr := He.glo_ok X G (c.fact 15 (f := .glo "PRIMES") rfl)
    primesT := fun H => by have := He.tupB_ok m1 H; rw [List.map_map] at this; exact this
    most9 := He.int_ok X G (c.fact 16 (f := .int "MOST_LETTERS" 9) rfl)
    most1000 := He.int_ok X G (c.fact 17 (f := .int "MOST_WORDS" 1000) rfl)
    rules := He.glo_ok X G (c.fact 18 (f := .glo "Rules") rfl)
    clR := clR
    insC := ⟨clR, He.eqO_ok m2, He.eqO_ok m3, of_decide_eq_true m4, of_decide_eq_true m5, of_decide_eq_true m6⟩
    nP := He.noat_ok (c.fact 22 (f := .noat "Rules" "prime") rfl)
    nL := He.noat_ok (c.fact 23 (f := .noat "Rules" "letters") rfl)
    nR := He.noat_ok (c.fact 24 (f := .noat "Rules" "rules") rfl)
    neR := He.eqO_ok m7
    subR := of_decide_eq_true m8
    rungs := He.glo_ok X G (c.fact 19 (f := .glo "Rungs") rfl)
    clU := clU
    nU := fun f hf => by
      simp only [List.mem_cons, List.not_mem_nil, or_false] at hf
      rcases hf with rfl | rfl | rfl | rfl | rfl | rfl
      · exact He.noat_ok (c.fact 25 (f := .noat "Rungs" "prime") rfl)
      · exact He.noat_ok (c.fact 26 (f := .noat "Rungs" "letters") rfl)
      · exact He.noat_ok (c.fact 27 (f := .noat "Rungs" "many") rfl)
      · exact He.noat_ok (c.fact 28 (f := .noat "Rungs" "heads") rfl)
      · exact He.noat_ok (c.fact 29 (f := .noat "Rungs" "places") rfl)
      · exact He.noat_ok (c.fact 30 (f := .noat "Rungs" "commons") rfl) }
theorem ex_defs (X : K.In h) (G : h.Ns mainGlobals mg) (c : He.SaysD faL fnL K) : Defs K mg (adK K) := by
  exact {
    d__law_begun := ⟨let ⟨fd, F⟩ := c.def_ 0 (d := dd__law_begun) rfl; ⟨_, fd, F, He.glo_ok X G (c.fact 39 (f := .glo "_law_begun") rfl)⟩⟩
    d__law_mixed := ⟨let ⟨fd, F⟩ := c.def_ 1 (d := dd__law_mixed) rfl; ⟨_, fd, F, He.glo_ok X G (c.fact 40 (f := .glo "_law_mixed") rfl)⟩⟩
    d__law_take := ⟨let ⟨fd, F⟩ := c.def_ 2 (d := dd__law_take) rfl; ⟨_, fd, F, He.glo_ok X G (c.fact 41 (f := .glo "_law_take") rfl)⟩⟩
    d__law_pick := ⟨let ⟨fd, F⟩ := c.def_ 3 (d := dd__law_pick) rfl; ⟨_, fd, F, He.glo_ok X G (c.fact 42 (f := .glo "_law_pick") rfl)⟩⟩
    d__law_field := ⟨let ⟨fd, F⟩ := c.def_ 4 (d := dd__law_field) rfl; ⟨_, fd, F, He.glo_ok X G (c.fact 43 (f := .glo "_law_field") rfl)⟩⟩
    d__law_pairs := ⟨let ⟨fd, F⟩ := c.def_ 5 (d := dd__law_pairs) rfl; ⟨_, fd, F, He.glo_ok X G (c.fact 44 (f := .glo "_law_pairs") rfl)⟩⟩
    d__law_at_words := ⟨let ⟨fd, F⟩ := c.def_ 6 (d := dd__law_at_words) rfl; ⟨_, fd, F, He.glo_ok X G (c.fact 45 (f := .glo "_law_at_words") rfl)⟩⟩
    d__law_single := ⟨let ⟨fd, F⟩ := c.def_ 7 (d := dd__law_single) rfl; ⟨_, fd, F, He.glo_ok X G (c.fact 46 (f := .glo "_law_single") rfl)⟩⟩
    d__law_web_rules := ⟨let ⟨fd, F⟩ := c.def_ 8 (d := dd__law_web_rules) rfl; ⟨_, fd, F, He.glo_ok X G (c.fact 47 (f := .glo "_law_web_rules") rfl)⟩⟩
    d__law_family_rules := ⟨let ⟨fd, F⟩ := c.def_ 9 (d := dd__law_family_rules) rfl; ⟨_, fd, F, He.glo_ok X G (c.fact 48 (f := .glo "_law_family_rules") rfl)⟩⟩
    d__law_loose_rules := ⟨let ⟨fd, F⟩ := c.def_ 10 (d := dd__law_loose_rules) rfl; ⟨_, fd, F, He.glo_ok X G (c.fact 49 (f := .glo "_law_loose_rules") rfl)⟩⟩
    d__law_undone := ⟨let ⟨fd, F⟩ := c.def_ 11 (d := dd__law_undone) rfl; ⟨_, fd, F, He.glo_ok X G (c.fact 50 (f := .glo "_law_undone") rfl)⟩⟩
    d__law_whole := ⟨let ⟨fd, F⟩ := c.def_ 12 (d := dd__law_whole) rfl; ⟨_, fd, F, He.glo_ok X G (c.fact 51 (f := .glo "_law_whole") rfl)⟩⟩
    d__law_word_here := ⟨let ⟨fd, F⟩ := c.def_ 13 (d := dd__law_word_here) rfl; ⟨_, fd, F, He.glo_ok X G (c.fact 52 (f := .glo "_law_word_here") rfl)⟩⟩
    d__law_followed := ⟨let ⟨fd, F⟩ := c.def_ 14 (d := dd__law_followed) rfl; ⟨_, fd, F, He.glo_ok X G (c.fact 53 (f := .glo "_law_followed") rfl)⟩⟩
    d__law_letters_led := ⟨let ⟨fd, F⟩ := c.def_ 15 (d := dd__law_letters_led) rfl; ⟨_, fd, F, He.glo_ok X G (c.fact 54 (f := .glo "_law_letters_led") rfl)⟩⟩
    d__law_cleared := ⟨let ⟨fd, F⟩ := c.def_ 16 (d := dd__law_cleared) rfl; ⟨_, fd, F, He.glo_ok X G (c.fact 55 (f := .glo "_law_cleared") rfl)⟩⟩
    d__law_tidied := ⟨let ⟨fd, F⟩ := c.def_ 17 (d := dd__law_tidied) rfl; ⟨_, fd, F, He.glo_ok X G (c.fact 56 (f := .glo "_law_tidied") rfl)⟩⟩
    d__law_case_of := ⟨let ⟨fd, F⟩ := c.def_ 18 (d := dd__law_case_of) rfl; ⟨_, fd, F, He.glo_ok X G (c.fact 57 (f := .glo "_law_case_of") rfl)⟩⟩
    d__law_case_over := ⟨let ⟨fd, F⟩ := c.def_ 19 (d := dd__law_case_over) rfl; ⟨_, fd, F, He.glo_ok X G (c.fact 58 (f := .glo "_law_case_over") rfl)⟩⟩
    d__law_two_cases := ⟨let ⟨fd, F⟩ := c.def_ 20 (d := dd__law_two_cases) rfl; ⟨_, fd, F, He.glo_ok X G (c.fact 59 (f := .glo "_law_two_cases") rfl)⟩⟩
    d__law_shuffled := ⟨let ⟨fd, F⟩ := c.def_ 21 (d := dd__law_shuffled) rfl; ⟨_, fd, F, He.glo_ok X G (c.fact 60 (f := .glo "_law_shuffled") rfl)⟩⟩
    d__law_raw := ⟨let ⟨fd, F⟩ := c.def_ 22 (d := dd__law_raw) rfl; ⟨_, fd, F, He.glo_ok X G (c.fact 61 (f := .glo "_law_raw") rfl)⟩⟩
    d_is_number := ⟨let ⟨fd, F⟩ := c.def_ 23 (d := dd_is_number) rfl; ⟨_, fd, F, He.glo_ok X G (c.fact 62 (f := .glo "is_number") rfl)⟩⟩
    d_need_prime := ⟨let ⟨fd, F⟩ := c.def_ 24 (d := dd_need_prime) rfl; ⟨_, fd, F, He.glo_ok X G (c.fact 63 (f := .glo "need_prime") rfl)⟩⟩
    d_is_between := ⟨let ⟨fd, F⟩ := c.def_ 25 (d := dd_is_between) rfl; ⟨_, fd, F, He.glo_ok X G (c.fact 64 (f := .glo "is_between") rfl)⟩⟩
    d_need_letters := ⟨let ⟨fd, F⟩ := c.def_ 26 (d := dd_need_letters) rfl; ⟨_, fd, F, He.glo_ok X G (c.fact 65 (f := .glo "need_letters") rfl)⟩⟩
    d_is_list := ⟨let ⟨fd, F⟩ := c.def_ 27 (d := dd_is_list) rfl; ⟨_, fd, F, He.glo_ok X G (c.fact 66 (f := .glo "is_list") rfl)⟩⟩
    d_is_row := ⟨let ⟨fd, F⟩ := c.def_ 28 (d := dd_is_row) rfl; ⟨_, fd, F, He.glo_ok X G (c.fact 67 (f := .glo "is_row") rfl)⟩⟩
    d_are_rows := ⟨let ⟨fd, F⟩ := c.def_ 29 (d := dd_are_rows) rfl; ⟨_, fd, F, He.glo_ok X G (c.fact 68 (f := .glo "are_rows") rfl)⟩⟩
    d_need_rows := ⟨let ⟨fd, F⟩ := c.def_ 30 (d := dd_need_rows) rfl; ⟨_, fd, F, He.glo_ok X G (c.fact 69 (f := .glo "need_rows") rfl)⟩⟩
    d_few := ⟨let ⟨fd, F⟩ := c.def_ 31 (d := dd_few) rfl; ⟨_, fd, F, He.glo_ok X G (c.fact 70 (f := .glo "few") rfl)⟩⟩
    d_lessened := ⟨let ⟨fd, F⟩ := c.def_ 32 (d := dd_lessened) rfl; ⟨_, fd, F, He.glo_ok X G (c.fact 71 (f := .glo "lessened") rfl)⟩⟩
    d_cleared := ⟨let ⟨fd, F⟩ := c.def_ 33 (d := dd_cleared) rfl; ⟨_, fd, F, He.glo_ok X G (c.fact 72 (f := .glo "cleared") rfl)⟩⟩
    d_undone := ⟨let ⟨fd, F⟩ := c.def_ 34 (d := dd_undone) rfl; ⟨_, fd, F, He.glo_ok X G (c.fact 73 (f := .glo "undone") rfl)⟩⟩
    d_heads_of := ⟨let ⟨fd, F⟩ := c.def_ 35 (d := dd_heads_of) rfl; ⟨_, fd, F, He.glo_ok X G (c.fact 74 (f := .glo "heads_of") rfl)⟩⟩
    d_whole_row := ⟨let ⟨fd, F⟩ := c.def_ 36 (d := dd_whole_row) rfl; ⟨_, fd, F, He.glo_ok X G (c.fact 75 (f := .glo "whole_row") rfl)⟩⟩
    d_tidy_rows := ⟨let ⟨fd, F⟩ := c.def_ 37 (d := dd_tidy_rows) rfl; ⟨_, fd, F, He.glo_ok X G (c.fact 76 (f := .glo "tidy_rows") rfl)⟩⟩
    d_Rules___init__ := ⟨let ⟨fd, F⟩ := c.def_ 38 (d := dd_Rules___init__) rfl; ⟨_, fd, F, He.mkr_ok (c.fact 31 (f := .mkr "Rules") rfl)⟩⟩
    d__law_made_rules := ⟨let ⟨fd, F⟩ := c.def_ 39 (d := dd__law_made_rules) rfl; ⟨_, fd, F, He.glo_ok X G (c.fact 77 (f := .glo "_law_made_rules") rfl)⟩⟩
    d_need_book := ⟨let ⟨fd, F⟩ := c.def_ 40 (d := dd_need_book) rfl; ⟨_, fd, F, He.glo_ok X G (c.fact 78 (f := .glo "need_book") rfl)⟩⟩
    d_dark_rows := ⟨let ⟨fd, F⟩ := c.def_ 41 (d := dd_dark_rows) rfl; ⟨_, fd, F, He.glo_ok X G (c.fact 79 (f := .glo "dark_rows") rfl)⟩⟩
    d_shadow_of := ⟨let ⟨fd, F⟩ := c.def_ 42 (d := dd_shadow_of) rfl; ⟨_, fd, F, He.glo_ok X G (c.fact 80 (f := .glo "shadow_of") rfl)⟩⟩
    d_shadow := ⟨let ⟨fd, F⟩ := c.def_ 43 (d := dd_shadow) rfl; ⟨_, fd, F, He.glo_ok X G (c.fact 81 (f := .glo "shadow") rfl)⟩⟩
    d_need_one_prime := ⟨let ⟨fd, F⟩ := c.def_ 44 (d := dd_need_one_prime) rfl; ⟨_, fd, F, He.glo_ok X G (c.fact 82 (f := .glo "need_one_prime") rfl)⟩⟩
    d_need_made := ⟨let ⟨fd, F⟩ := c.def_ 45 (d := dd_need_made) rfl; ⟨_, fd, F, He.glo_ok X G (c.fact 83 (f := .glo "need_made") rfl)⟩⟩
    d_widened := ⟨let ⟨fd, F⟩ := c.def_ 46 (d := dd_widened) rfl; ⟨_, fd, F, He.glo_ok X G (c.fact 84 (f := .glo "widened") rfl)⟩⟩
    d_crossed := ⟨let ⟨fd, F⟩ := c.def_ 47 (d := dd_crossed) rfl; ⟨_, fd, F, He.glo_ok X G (c.fact 85 (f := .glo "crossed") rfl)⟩⟩
    d_sides_of := ⟨let ⟨fd, F⟩ := c.def_ 48 (d := dd_sides_of) rfl; ⟨_, fd, F, He.glo_ok X G (c.fact 86 (f := .glo "sides_of") rfl)⟩⟩
    d_free_sides := ⟨let ⟨fd, F⟩ := c.def_ 49 (d := dd_free_sides) rfl; ⟨_, fd, F, He.glo_ok X G (c.fact 87 (f := .glo "free_sides") rfl)⟩⟩
    d_shut_sides := ⟨let ⟨fd, F⟩ := c.def_ 50 (d := dd_shut_sides) rfl; ⟨_, fd, F, He.glo_ok X G (c.fact 88 (f := .glo "shut_sides") rfl)⟩⟩
    d_ahead_sides := ⟨let ⟨fd, F⟩ := c.def_ 51 (d := dd_ahead_sides) rfl; ⟨_, fd, F, He.glo_ok X G (c.fact 89 (f := .glo "ahead_sides") rfl)⟩⟩
    d_behind_sides := ⟨let ⟨fd, F⟩ := c.def_ 52 (d := dd_behind_sides) rfl; ⟨_, fd, F, He.glo_ok X G (c.fact 90 (f := .glo "behind_sides") rfl)⟩⟩
    d_weighed_sides := ⟨let ⟨fd, F⟩ := c.def_ 53 (d := dd_weighed_sides) rfl; ⟨_, fd, F, He.glo_ok X G (c.fact 91 (f := .glo "weighed_sides") rfl)⟩⟩
    d_Rules___eq__ := ⟨let ⟨fd, F⟩ := c.def_ 54 (d := dd_Rules___eq__) rfl; ⟨_, fd, F, (let q := He.meth_ok (c.fact 33 (f := .meth "Rules" "__eq__") rfl); ⟨q.at_, q.fn⟩)⟩⟩
    d__law_is_rules := ⟨let ⟨fd, F⟩ := c.def_ 55 (d := dd__law_is_rules) rfl; ⟨_, fd, F, He.glo_ok X G (c.fact 92 (f := .glo "_law_is_rules") rfl)⟩⟩
    d__law_still := ⟨let ⟨fd, F⟩ := c.def_ 56 (d := dd__law_still) rfl; ⟨_, fd, F, He.glo_ok X G (c.fact 93 (f := .glo "_law_still") rfl)⟩⟩
    d__law_dark := ⟨let ⟨fd, F⟩ := c.def_ 57 (d := dd__law_dark) rfl; ⟨_, fd, F, He.glo_ok X G (c.fact 94 (f := .glo "_law_dark") rfl)⟩⟩
    d__law_shadowed := ⟨let ⟨fd, F⟩ := c.def_ 58 (d := dd__law_shadowed) rfl; ⟨_, fd, F, He.glo_ok X G (c.fact 95 (f := .glo "_law_shadowed") rfl)⟩⟩
    d__law_short := ⟨let ⟨fd, F⟩ := c.def_ 59 (d := dd__law_short) rfl; ⟨_, fd, F, He.glo_ok X G (c.fact 96 (f := .glo "_law_short") rfl)⟩⟩
    d__law_is_truth := ⟨let ⟨fd, F⟩ := c.def_ 60 (d := dd__law_is_truth) rfl; ⟨_, fd, F, He.glo_ok X G (c.fact 97 (f := .glo "_law_is_truth") rfl)⟩⟩
    d_need_from := ⟨let ⟨fd, F⟩ := c.def_ 61 (d := dd_need_from) rfl; ⟨_, fd, F, He.glo_ok X G (c.fact 98 (f := .glo "need_from") rfl)⟩⟩
    d_many_words := ⟨let ⟨fd, F⟩ := c.def_ 62 (d := dd_many_words) rfl; ⟨_, fd, F, He.glo_ok X G (c.fact 99 (f := .glo "many_words") rfl)⟩⟩
    d_placed_few := ⟨let ⟨fd, F⟩ := c.def_ 63 (d := dd_placed_few) rfl; ⟨_, fd, F, He.glo_ok X G (c.fact 100 (f := .glo "placed_few") rfl)⟩⟩
    d_nothing_heads := ⟨let ⟨fd, F⟩ := c.def_ 64 (d := dd_nothing_heads) rfl; ⟨_, fd, F, He.glo_ok X G (c.fact 101 (f := .glo "nothing_heads") rfl)⟩⟩
    d_shared_rows := ⟨let ⟨fd, F⟩ := c.def_ 65 (d := dd_shared_rows) rfl; ⟨_, fd, F, He.glo_ok X G (c.fact 102 (f := .glo "shared_rows") rfl)⟩⟩
    d_next_common := ⟨let ⟨fd, F⟩ := c.def_ 66 (d := dd_next_common) rfl; ⟨_, fd, F, He.glo_ok X G (c.fact 103 (f := .glo "next_common") rfl)⟩⟩
    d_commons_to := ⟨let ⟨fd, F⟩ := c.def_ 67 (d := dd_commons_to) rfl; ⟨_, fd, F, He.glo_ok X G (c.fact 104 (f := .glo "commons_to") rfl)⟩⟩
    d_Rungs___init__ := ⟨let ⟨fd, F⟩ := c.def_ 68 (d := dd_Rungs___init__) rfl; ⟨_, fd, F, He.mkr_ok (c.fact 32 (f := .mkr "Rungs") rfl)⟩⟩
    d_Rungs_parts_off := ⟨let ⟨fd, F⟩ := c.def_ 69 (d := dd_Rungs_parts_off) rfl; ⟨_, fd, F, He.meth_ok (c.fact 35 (f := .meth "Rungs" "parts_off") rfl)⟩⟩
    d_Rungs_letter_rests := ⟨let ⟨fd, F⟩ := c.def_ 70 (d := dd_Rungs_letter_rests) rfl; ⟨_, fd, F, He.meth_ok (c.fact 36 (f := .meth "Rungs" "letter_rests") rfl)⟩⟩
    d_Rungs_step := ⟨let ⟨fd, F⟩ := c.def_ 71 (d := dd_Rungs_step) rfl; ⟨_, fd, F, He.meth_ok (c.fact 37 (f := .meth "Rungs" "step") rfl)⟩⟩
    d_Rungs_size := ⟨let ⟨fd, F⟩ := c.def_ 72 (d := dd_Rungs_size) rfl; ⟨_, fd, F, He.meth_ok (c.fact 34 (f := .meth "Rungs" "size") rfl)⟩⟩
    d_Rungs_losses := ⟨let ⟨fd, F⟩ := c.def_ 73 (d := dd_Rungs_losses) rfl; ⟨_, fd, F, He.meth_ok (c.fact 38 (f := .meth "Rungs" "losses") rfl)⟩⟩
    d_first_of := ⟨let ⟨fd, F⟩ := c.def_ 74 (d := dd_first_of) rfl; ⟨_, fd, F, He.glo_ok X G (c.fact 105 (f := .glo "first_of") rfl)⟩⟩
    d_first_lost := ⟨let ⟨fd, F⟩ := c.def_ 75 (d := dd_first_lost) rfl; ⟨_, fd, F, He.glo_ok X G (c.fact 106 (f := .glo "first_lost") rfl)⟩⟩
    d_fits := ⟨let ⟨fd, F⟩ := c.def_ 76 (d := dd_fits) rfl; ⟨_, fd, F, He.glo_ok X G (c.fact 107 (f := .glo "fits") rfl)⟩⟩
    d_law := ⟨let ⟨fd, F⟩ := c.def_ 77 (d := dd_law) rfl; ⟨_, fd, F, He.glo_ok X G (c.fact 108 (f := .glo "law") rfl)⟩⟩ }
theorem ex_law {fa : Addr} (X : K.In h) (G : h.Ns mainGlobals mg) (hfa : mg ("law" : Str) = some (.ref fa)) (c : He.SaysD faL fnL K) (m : exB K = true) :
    ∃ fd : FuncData, (∀ (s : Shared) (u : Value), BindsTo s fd ⟨[u], []⟩ [("_law_script", u)]) ∧ ∀ base : Heap, K.In base → base.Ns mainGlobals mg → FnG P w K mg base CX0 12 fa fd ["_law_script"] (spLaw K) := by
  have TT := ex_tx X G c m
  have DD := ex_defs X G c
  obtain ⟨fd, F⟩ := c.def_ 77 (d := dd_law) rfl
  have e := hfa.symm.trans (He.glo_ok X G (c.fact 108 (f := .glo "law") rfl))
  cases e
  have b := FunD.bindsA (ps := ["_law_script"]) F fun _ _ _ _ _ _ us hl => match us, hl with | [_], _ => rfl
  exact ⟨fd, fun s v => b s [v] rfl, fun base _ _ => law_fn TT DD F⟩
end
end RS
open PySem PySem.W PySem.Calls PyProof.Rows
theorem PySem.Challenge.cw_ruleshadows_k48_whole_shadows_and_fit_of_holds : PySem.Challenge.rw_ruleshadows_k48_whole_shadows_and_fit_of.Holds := by
  w_on; o_law
  refine HandSHeadRun.head_any (r := OpenLaw.row PySem.Challenge.rw_ruleshadows_k48_whole_shadows_and_fit_of) (q := RS.qv) (H := RS.hkX) (ob := RS.ob) (M := 30000) (loose := RS.looseL) (d := HandSHeadRun.topDef (OpenLaw.row PySem.Challenge.rw_ruleshadows_k48_whole_shadows_and_fit_of).prog 89) (kwd := []) RS.ob_eq
    (by kernel_rfl) (fun s => by kernel_rfl) RS.run (by kernel_rfl) (by kernel_rfl) (by kernel_rfl) (by rfl) (by first | assumption | decide +kernel) (by decide +kernel) ⟨rfl, rfl, rfl, rfl, rfl, by decide +kernel⟩ ?hw ?hc
  case hw => w_witness2
  case hc =>
    refine RS.walk_ofG (l := PySem.Challenge.rw_ruleshadows_k48_whole_shadows_and_fit_of) (n := 63) (k := 12) (x := "_law_script") (CX := L2.CX0) rfl (by decide) (by kernel_rfl) ⟨rfl, by decide, by decide⟩ ?F (fun _ _ _ _ z => z)
    intro w mg fa h Y G hmg0
    obtain ⟨K, KX, c, m⟩ := Y
    have hmg : mg ("law" : PySem.Str) = some (.ref fa) := by
      have e : (HandSHeadRun.topDef (OpenLaw.row PySem.Challenge.rw_ruleshadows_k48_whole_shadows_and_fit_of).prog 89).name = ("law" : PySem.Str) := by kernel_rfl
      rw [← e]
      exact hmg0
    obtain ⟨fd, hb, hF⟩ := RS.ex_law (P := (PySem.Challenge.rw_ruleshadows_k48_whole_shadows_and_fit_of).prog) (w := w) KX G hmg c m
    exact ⟨K, fd, RS.spLaw K, KX, hb, fun H a ns hl _ hS => ⟨a, ns, rfl, hS, hl, fun _ => rfl⟩, hF⟩
