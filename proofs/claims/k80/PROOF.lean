import PyProof.Rows.All
import HandS.ForMost
import HandS.Walk
import HandS.Conv
import KE.GoesNew
import KE.GoesMore
import HandS.Star
import HandS.Codes
import HandS.SlotsOwn
import HandS.TupAny
import KE.KDictCopyH
import KE.SortData
import HandS.Set
import HandS.SetFor
import HandS.IsInst
import KE.DataFind
import HandS.TryOnly
import KE.KDictZip
import KE.GoesZip
import HandS.Iter
import HandS.Flow
import HandS.Defaults
import PySem.Challenge.RW_heirturns_k80_main_never_worse_for_all_l
set_option Elab.async false
set_option linter.all false
section
set_option maxRecDepth 100000
set_option maxHeartbeats 4000000
/-! DR: further rules over the machine: enumerate and zip of lists and tuples in any mix. -/
namespace DR
open PySem PySem.Spec PyProof.Rows L2
open Sem (wp)

theorem meets_enum1 {v : Value} {o : Obj} {H : Heap → Prop} (B : Begins v o H) :
    Meets (Builtin.«enumerate.__new__» ⟨[.type "enumerate", v], []⟩) (fun _ R s => H s.heap ∧
      R (.ok (.ret (.ref (s.heap.push o).objs.size))) { s with heap := (s.heap.push o).push { cls := .type "enumerate", data := .fields #[.none, .bool false, .ref s.heap.objs.size, rawInt 0, .none, .none] } }) :=
  .of_wp fun prog w A R s h => by
    obtain ⟨hp, g, d, tk, os⟩ := s; obtain ⟨h1, h⟩ := h
    have hsub := sub_enumerate
    have q1 : ∀ {A' : Around} {E : Value → Shared → Prop} {Q : Value → Shared → Prop}, Q (.ref hp.objs.size) ⟨hp.push o, g, d, tk, os⟩ → wpAny (model prog w) A' (pyIter v) Q E ⟨hp, g, d, tk, os⟩ :=
      fun q => B.iter prog w _ _ ⟨hp, g, d, tk, os⟩ _ h1 q
    wp_walk using q1
    refine wpAny_stack_any fun st => wpAny_pure ?_
    split
    · rename_i c _ _ _ _ _
      cases (c == Value.type "enumerate")
      · wp_walk using q1
        exact ⟨_, rfl, h⟩
      · wp_walk using q1
        exact ⟨_, rfl, h⟩
    · wp_walk using q1
      exact ⟨_, rfl, h⟩
section
variable {prog : Program} {w : World} {A : Around} {E : Value → Shared → Prop} {s : Shared}
theorem enum_begins1 {v : Value} {o : Obj} {H : Heap → Prop} {Q : Value → Shared → Prop} (B : Begins v o H) (h1 : H s.heap)
    (h : ∀ h', IsEnum h' (s.heap.objs.size + 1) s.heap.objs.size 0 .none → h'.get? s.heap.objs.size = some o → h'.objs.size = s.heap.objs.size + 2 →
      (∀ b o, s.heap.get? b = some o → h'.get? b = some o) → Q (.ref (s.heap.objs.size + 1)) { s with heap := h' }) :
    wpAny (model prog w) A (call (.type "enumerate") [v]) Q E s := by
  refine callType_new F.called_enumerate (by decide) (F.typeCall_enumerate_1 _) (F.newCall_enumerate_1 _) (fun obj => F.args_object_init_2 obj _) F.entry_enumerate_new
    (meets_enum1 B) ⟨h1, ?_⟩
  have hz : (s.heap.push o).objs.size = s.heap.objs.size + 1 := Heap.size_push ..
  show _ ∧ _
  rw [hz]
  have he : IsEnum ((s.heap.push o).push { cls := .type "enumerate", data := .fields #[.none, .bool false, .ref s.heap.objs.size, rawInt 0, .none, .none] }) (s.heap.objs.size + 1) s.heap.objs.size 0 .none := by
    have := Heap.get?_push_size (s.heap.push o) (o := { cls := .type "enumerate", data := .fields #[.none, .bool false, .ref s.heap.objs.size, rawInt 0, .none, .none] }) rfl
    rw [hz] at this; exact this
  refine ⟨⟨_, he, rfl⟩, h _ he (Heap.get?_push_of_some _ (Heap.get?_push_size _ B.free)) (by rw [Heap.size_push, hz]) fun b o x => Heap.get?_push_of_some _ (Heap.get?_push_of_some _ x)⟩
end

/-! ### a list or a tuple -/
def SqK (K : PySem.W.Frag) : Bool → Hp → Addr → List V → Prop
  | true, H, a, xs => SqT K H a xs
  | false, H, a, xs => SqL K H a xs
def IsK : Bool → Heap → Addr → Array Value → Prop
  | true, h, a, its => h.IsTuple a its
  | false, h, a, its => h.IsList a its
def ItK : Bool → Heap → Addr → Addr → Nat → Prop
  | true, h, it, a, i => h.IsTupleIter it a i
  | false, h, it, a, i => h.IsListIter it a i
def itObj : Bool → Addr → Obj
  | true, a => { cls := .type "tuple_iterator", data := .fields #[.ref a, .int 0 0] }
  | false, a => { cls := .type "list_iterator", data := .fields #[.ref a, .int 0 0] }
theorem begins_K (k : Bool) (a : Addr) (its : Array Value) : Begins (.ref a) (itObj k a) fun h => IsK k h a its := by
  cases k
  · exact begins_list a its
  · exact begins_tuple a its
theorem itK_new {k : Bool} {h : Heap} {it a : Addr} (e : h.get? it = some (itObj k a)) : ItK k h it a 0 := by
  cases k
  · exact ⟨_, e, rfl, rfl⟩
  · exact ⟨_, e, rfl, rfl⟩
theorem ItK.at {k : Bool} {h h' : Heap} {it a : Addr} {i : Nat} (x : ItK k h it a i) (e : ∀ o, h.get? it = some o → h'.get? it = some o) : ItK k h' it a i := by
  cases k
  · exact Heap.IsListIter.at x e
  · exact Heap.IsTupleIter.at x e
theorem ItK.obj {k : Bool} {h : Heap} {it a : Addr} {i : Nat} (x : ItK k h it a i) : ∃ o, h.get? it = some o ∧ ∀ v, o.data ≠ .cell v := by
  cases k
  · obtain ⟨o, e, c, d⟩ := x
    exact ⟨o, e, fun v z => by rw [d] at z; cases z⟩
  · obtain ⟨o, e, c, d⟩ := x
    exact ⟨o, e, fun v z => by rw [d] at z; cases z⟩
theorem ItK.ne {k : Bool} {h : Heap} {it a b : Addr} {i : Nat} {its : Array Value} {k' : Bool} (x : ItK k h it a i) (y : IsK k' h b its) : b ≠ it := by
  rintro rfl
  cases k <;> cases k' <;>
  · obtain ⟨o, e, c, d⟩ := x
    obtain ⟨o', e', c', d'⟩ := y
    rw [e] at e'
    have e2 := Option.some.inj e'
    subst e2
    rw [c] at c'
    injection c' with q
    exact absurd q (by decide)
theorem draws_K {prog : Program} {w : World} {A : Around} (hh : A.handled = none) (k : Bool) (it a : Addr) (hne : a ≠ it) (items : Array Value) :
    Draws prog w A it [it, a] items.size (fun i v => items[i]? = some v) (fun i h => ItK k h it a i ∧ IsK k h a items) := by
  cases k
  · exact Draws.list hh it a hne items
  · exact Draws.tuple hh it a hne items
section
variable {X : Cx} {pins : List (Addr × Obj)} {σ : L2.St} {H : Hp} {s : Shared} {a : Addr} {xs : List V}
theorem inv_K {k : Bool} (I : Inv X pins σ H s) (h : SqK X.K k H a xs) : ∃ its : List Value, Vals xs its ∧ IsK k s.heap a its.toArray := by
  cases k
  · obtain ⟨its, r, p, _⟩ := I.list h
    exact ⟨its, r, p.isList⟩
  · obtain ⟨its, r, p, _⟩ := I.tuple h
    exact ⟨its, r, p⟩
end

/-! ### enumerate -/
def ItE (K : PySem.W.Frag) (k : Bool) (a : Addr) (xs : List V) (c : Int) : It :=
  ⟨fun i H => i < xs.length ∧ SqK K k H a xs, fun i H v H' => ∃ T x, v = .ref T ∧ H T = none ∧ H' = upd H T (.tup [.int (c + (i : Int)), x]) ∧ xs[i]? = some x,
    fun i H => xs.length ≤ i ∧ SqK K k H a xs⟩
theorem turn_E {P : Program} {w : World} {K : PySem.W.Frag} {elts : List Expr} {kk : Nat} {tpos : Pos} (k : Bool) (a e it : Addr) (xs : List V) (c : Int) :
    Turn P w K (.Tuple elts kk tpos) (ItE K k a xs c) [e, it] e (fun i h => i ≤ xs.length ∧ (∃ old, IsEnum h e it (c + (i : Int)) old) ∧ ItK k h it a i ∧ e ≠ it) where
  mem := by simp
  obj := fun i h st b hb => by
    obtain ⟨_, ⟨old, he⟩, hi, _⟩ := st
    have e' : b = e ∨ b = it := by simpa using hb
    rcases e' with z | z
    · rw [z]; exact ⟨_, he, fun v q => nomatch q⟩
    · rw [z]; exact hi.obj
  keep := fun i h h' st kp => by
    obtain ⟨hl, ⟨old, he⟩, hi, hne⟩ := st
    exact ⟨hl, ⟨old, kp e (by simp) _ he⟩, hi.at fun o q => kp it (by simp) o q, hne⟩
  item := by
    intro X hP hw hK hc i pins s σ H E I hf st hg
    subst hP hw hK
    obtain ⟨_, ⟨old, he⟩, hi, hne⟩ := st
    obtain ⟨hlt, hq⟩ := hg
    obtain ⟨its, rv, p⟩ := inv_K I hq
    have hl := rv.length
    have nit : a ≠ it := hi.ne p
    have ne_e : a ≠ e := by
      rintro rfl
      cases k <;>
      · obtain ⟨o, q, cc, d⟩ := p
        have he : s.heap.get? _ = some _ := he
        rw [he] at q
        have e2 := Option.some.inj q
        subst e2
        injection cc with q
        exact absurd q (by decide)
    have hh : X.A.in1.handled = none := I.ok.hd hc
    have G := GoesN.enumFrom (elts := elts) (x1 := kk) (pos := tpos) c (draws_K (prog := X.prog) (w := X.w) hh k it a nit its.toArray) e hne (by simp; exact ⟨hne, Ne.symm ne_e⟩) (by simp)
    have hlt' : i < its.toArray.size := by rw [List.size_toArray, ← hl]; exact hlt
    refine G.goes i s _ _ hlt' ⟨⟨old, he⟩, hi, p⟩ fun v h' tk hY st' hk htk => ?_
    obtain ⟨T, t, x, rfl, hT, hx, hTup⟩ := hY
    obtain ⟨y, hy1⟩ : ∃ y, xs[i]? = some y := ⟨xs[i], List.getElem?_eq_getElem hlt⟩
    obtain ⟨u, hu, ru⟩ := rv.get hy1
    have exu : u = x := by
      have : its[i]? = some x := by simpa using hx
      rw [hu] at this
      exact Option.some.inj this
    subst exu
    have new : ObjOk X.prog X.w (upd H T (.tup [.int (c + (i : Int)), y])) h' T (.tup [.int (c + (i : Int)), y]) :=
      ⟨by show 2 ≤ sizeLine; decide, [.int (c + (i : Int)) t, u], .cons ⟨_, rfl⟩ (.cons ru .nil), hTup⟩
    have I1 : Inv X pins σ (upd H T (.tup [.int (c + (i : Int)), y])) { s with heap := h', toks := tk } := I.turnedNew (ch := [e, it]) hk hf hT new
    obtain ⟨⟨old', he'⟩, hi', _⟩ := st'
    refine ⟨.ref T, _, I1, rfl, ⟨T, y, rfl, I.hok.fresh hT, rfl, hy1⟩, ⟨hlt, ⟨old', he'⟩, hi', hne⟩, fun b hb => ?_⟩
    have hb' : b < s.heap.objs.size := by
      have e' : b = e ∨ b = it := by simpa using hb
      rcases e' with z | z
      · rw [z]; exact Heap.lt_size he
      · rw [z]; obtain ⟨o, q, _⟩ := hi.obj; exact Heap.lt_size q
    rw [upd_ne (Nat.ne_of_lt (Nat.lt_of_lt_of_le hb' hT))]
    exact (hf b hb).1
  done := by
    intro X hP hw hK hc i pins s σ H E I hf st hg
    subst hP hw hK
    obtain ⟨hle, ⟨old, he⟩, hi, hne⟩ := st
    obtain ⟨hge, hq⟩ := hg
    obtain ⟨its, rv, p⟩ := inv_K I hq
    have hl := rv.length
    have nit : a ≠ it := hi.ne p
    have ne_e : a ≠ e := by
      rintro rfl
      cases k <;>
      · obtain ⟨o, q, cc, d⟩ := p
        have he : s.heap.get? _ = some _ := he
        rw [he] at q
        have e2 := Option.some.inj q
        subst e2
        injection cc with q
        exact absurd q (by decide)
    have hh : X.A.in1.handled = none := I.ok.hd hc
    have G := GoesN.enumFrom (elts := elts) (x1 := kk) (pos := tpos) c (draws_K (prog := X.prog) (w := X.w) hh k it a nit its.toArray) e hne (by simp; exact ⟨hne, Ne.symm ne_e⟩) (by simp)
    have ei : i = its.toArray.size := by rw [List.size_toArray, ← hl]; omega
    subst ei
    refine G.stops s _ _ ⟨⟨old, he⟩, hi, p⟩ fun h' tk hk htk => ?_
    exact I.turnedL (ch := [e, it]) hk hf
  self := fun A i s Q E st h => by
    obtain ⟨_, ⟨_, he⟩, _⟩ := st
    exact wpAny_pyIter_enum he h
def iEn (K : PySem.W.Frag) (te : TE) (c : Int) : TI := fun σ H R => te σ H fun x H1 => ∃ k a xs, x = .ref a ∧ SqK K k H1 a xs ∧ R (ItE K k a xs c) H1
theorem pi_en {X : Cx} {e : Expr} {te : TE} {p pos tpos : Pos} {elts : List Expr} {kk : Nat} (hg : Gl X "enumerate") (hm : X.mg "enumerate" = none) (he : PE X e te)
    (na : starEach [e] X.env = (false, eval e X.env) :: starEach [] X.env := by rfl) :
    PI X (.Tuple elts kk tpos) (.Call (.Name "enumerate" p) [e] [] pos) (iEn X.K te 0) := by
  refine ⟨fun pins s σ H R I h => ?_⟩
  refine Call_ (ld_blt I hg hm boot_enumerate (PyProof.Rows.callWith_type1 (one_arg he I h (fun v s1 x H1 I1 r q => ?_) na) na rfl))
  obtain ⟨k, a, xs, rfl, hq, q⟩ := q
  obtain rfl : v = .ref a := r
  obtain ⟨its, rv, p'⟩ := inv_K I1 hq
  refine enum_begins1 (begins_K k a its.toArray) p' fun h' he hit hsz hk => wpAny_pyIter_enum he ?_
  have I2 : Inv X pins σ H1 { s1 with heap := h' } := I1.kept (t' := s1.toks) hk
  refine ⟨s1.heap.objs.size + 1, [s1.heap.objs.size + 1, s1.heap.objs.size], _, _, H1, rfl, I2, turn_E k a (s1.heap.objs.size + 1) s1.heap.objs.size xs 0, ⟨Nat.zero_le _, ⟨.none, he⟩, itK_new hit, Nat.succ_ne_self _⟩, fun b hb => ?_, q⟩
  have e' : b = s1.heap.objs.size + 1 ∨ b = s1.heap.objs.size := by simpa using hb
  have hle : s1.heap.objs.size ≤ b := by
    rcases e' with z | z
    · rw [z]; exact Nat.le_add_right _ _
    · rw [z]; exact Nat.le_refl _
  exact I1.fpOk hle (I1.hok.fresh hle)

/-! ### zip -/
theorem src_ne {X : Cx} {pins : List (Addr × Obj)} {σ : L2.St} {H : Hp} {s : Shared} {a b : Addr} {xs : List V} {k : Bool} (I : Inv X pins σ H s) (h : SqK X.K k H a xs) (f : FpOk X pins H b) : a ≠ b := by
  have base : ∀ o, X.K.lookup a = some o → a ≠ b := fun o e z => by
    have q := I.mod.kin a o e
    rcases f.2.2.2.1 with w | w
    · exact I.ok.noex a o q (z ▸ w)
    · have h1 := Heap.lt_size q
      have h2 := I.ok.bsz
      have h3 : X.s_0.heap.objs.size ≤ a := by rw [z]; exact w
      exact absurd (Nat.lt_of_lt_of_le h1 (Nat.le_trans h2 h3)) (Nat.lt_irrefl _)
  have rd : ∀ u, Rd H a u → a ≠ b := fun u r z => by
    have q := f.1
    rcases r with r | ⟨o, r⟩ <;> (rw [z, q] at r; cases r)
  cases k
  · rcases h with h | ⟨o, _, _, e, _⟩
    · exact rd _ h
    · exact base o e
  · rcases h with h | ⟨o, _, _, e, _⟩
    · exact rd _ h
    · exact base o e
def ItZ (K : PySem.W.Frag) (k : Bool) (a : Addr) (xs : List V) (k' : Bool) (b : Addr) (ys : List V) : It :=
  ⟨fun i H => i < xs.length ∧ i < ys.length ∧ SqK K k H a xs ∧ SqK K k' H b ys, fun i H v H' => ∃ T x y, v = .ref T ∧ H T = none ∧ H' = upd H T (.tup [x, y]) ∧ xs[i]? = some x ∧ ys[i]? = some y,
    fun i H => min xs.length ys.length ≤ i ∧ SqK K k H a xs ∧ SqK K k' H b ys⟩
structure ZipA (z TI TO i1 i2 : Addr) : Prop where
  TIz : TI ≠ z
  TOz : TO ≠ z
  TITO : TI ≠ TO
  TIi1 : TI ≠ i1
  TIi2 : TI ≠ i2
  z1 : z ≠ i1
  z2 : z ≠ i2
  T1 : TO ≠ i1
  T2 : TO ≠ i2
  i12 : i1 ≠ i2
theorem turn_Z {P : Program} {w : World} {K : PySem.W.Frag} {elts : List Expr} {kk : Nat} {tpos : Pos} (k : Bool) (a : Addr) (xs : List V) (k' : Bool) (b : Addr) (ys : List V) {z TI TO i1 i2 : Addr} (D : ZipA z TI TO i1 i2) :
    Turn P w K (.Tuple elts kk tpos) (ItZ K k a xs k' b ys) [z, TI, TO, i1, i2] z
      (fun i h => i ≤ min xs.length ys.length ∧ IsZip h z TI TO .none ∧ IsTupOf2 h TI (.ref i1) (.ref i2) ∧ (∃ a1 a2, IsTupOf2 h TO a1 a2) ∧ ItK k h i1 a i ∧ ItK k' h i2 b i) where
  mem := by simp
  obj := fun i h st c hc => by
    obtain ⟨_, hz, hTI, ⟨x, y, hTO⟩, h1, h2⟩ := st
    have e' : c = z ∨ c = TI ∨ c = TO ∨ c = i1 ∨ c = i2 := by simpa using hc
    rcases e' with q | q | q | q | q
    · rw [q]; exact ⟨_, hz, fun v q => nomatch q⟩
    · rw [q]; exact ⟨_, hTI, fun v q => nomatch q⟩
    · rw [q]; exact ⟨_, hTO, fun v q => nomatch q⟩
    · rw [q]; exact h1.obj
    · rw [q]; exact h2.obj
  keep := fun i h h' st kp => by
    obtain ⟨hl, hz, hTI, ⟨x, y, hTO⟩, h1, h2⟩ := st
    exact ⟨hl, kp z (by simp) _ hz, kp TI (by simp) _ hTI, ⟨x, y, kp TO (by simp) _ hTO⟩, h1.at fun o q => kp i1 (by simp) o q, h2.at fun o q => kp i2 (by simp) o q⟩
  item := by
    intro X hP hw hK hc i pins s σ H E I hf st hg
    subst hP hw hK
    obtain ⟨_, hz, hTI, ⟨x0, y0, hTO⟩, h1, h2⟩ := st
    obtain ⟨lt1, lt2, hqx, hqy⟩ := hg
    obtain ⟨its, rv, p⟩ := inv_K I hqx
    obtain ⟨its2, rv2, p2⟩ := inv_K I hqy
    have l1 := rv.length
    have l2 := rv2.length
    have na : ∀ c, c ∈ [z, TI, TO, i1, i2] → a ≠ c := fun c hc => src_ne I hqx (hf c hc)
    have nb : ∀ c, c ∈ [z, TI, TO, i1, i2] → b ≠ c := fun c hc => src_ne I hqy (hf c hc)
    have hh : X.A.in1.handled = none := I.ok.hd hc
    have S : ZipSep2 z TI TO i1 i2 [i1, a] [i2, b] :=
      { TIz := D.TIz, TOz := D.TOz, TITO := D.TITO, TIi1 := D.TIi1, mem1 := by simp, zf1 := by simp; exact ⟨D.z1, Ne.symm (na z (by simp))⟩, Tf1 := by simp; exact ⟨D.T1, Ne.symm (na TO (by simp))⟩,
        TIi2 := D.TIi2, mem2 := by simp, zf2 := by simp; exact ⟨D.z2, Ne.symm (nb z (by simp))⟩, Tf2 := by simp; exact ⟨D.T2, Ne.symm (nb TO (by simp))⟩,
        sep1_2 := by simp; exact ⟨D.i12, Ne.symm (nb i1 (by simp))⟩, sep2_1 := by simp; exact ⟨Ne.symm D.i12, Ne.symm (na i2 (by simp))⟩ }
    have G := GoesN.zip2 (elts := elts) (x1 := kk) (pos := tpos) S (draws_K (prog := X.prog) (w := X.w) hh k i1 a (na i1 (by simp)) its.toArray) (draws_K (prog := X.prog) (w := X.w) hh k' i2 b (nb i2 (by simp)) its2.toArray)
    have hlt' : i < min its.toArray.size its2.toArray.size := by rw [List.size_toArray, List.size_toArray, ← l1, ← l2]; omega
    refine G.goes i s _ _ hlt' ⟨hz, hTI, ⟨_, _, hTO⟩, ⟨h1, p⟩, h2, p2⟩ fun v h' tk hY st' hk htk => ?_
    obtain ⟨T, x, y, rfl, hT, hx, hy, hTup⟩ := hY
    obtain ⟨x', hx1⟩ : ∃ y, xs[i]? = some y := ⟨xs[i], List.getElem?_eq_getElem lt1⟩
    obtain ⟨y', hy1⟩ : ∃ y, ys[i]? = some y := ⟨ys[i], List.getElem?_eq_getElem lt2⟩
    obtain ⟨u, hu, ru⟩ := rv.get hx1
    obtain ⟨u2, hu2, ru2⟩ := rv2.get hy1
    have exu : u = x := by
      have : its[i]? = some x := by simpa using hx
      rw [hu] at this
      exact Option.some.inj this
    have eyu : u2 = y := by
      have : its2[i]? = some y := by simpa using hy
      rw [hu2] at this
      exact Option.some.inj this
    subst exu eyu
    have new : ObjOk X.prog X.w (upd H T (.tup [x', y'])) h' T (.tup [x', y']) := ⟨by show 2 ≤ sizeLine; decide, [u, u2], .cons ru (.cons ru2 .nil), hTup⟩
    have hk' : ∀ c o, c ∉ [z, TI, TO, i1, i2] → s.heap.get? c = some o → h'.get? c = some o := fun c o hc q => hk c o (fun m => hc (by
      have e' : c = z ∨ c = TO ∨ c = i1 ∨ c = i2 := by simpa using m
      rcases e' with q | q | q | q <;> simp [q])) q
    have I1 : Inv X pins σ (upd H T (.tup [x', y'])) { s with heap := h', toks := tk } := I.turnedNew (ch := [z, TI, TO, i1, i2]) hk' hf hT new
    obtain ⟨hz', hTI', hTO', ⟨h1', _⟩, h2', _⟩ := st'
    refine ⟨.ref T, _, I1, rfl, ⟨T, x', y', rfl, I.hok.fresh hT, rfl, hx1, hy1⟩, ⟨by show i + 1 ≤ min xs.length ys.length; omega, hz', hTI', hTO', h1', h2'⟩, fun c hcm => ?_⟩
    have hlt : c < s.heap.objs.size := by
      have e' : c = z ∨ c = TI ∨ c = TO ∨ c = i1 ∨ c = i2 := by simpa using hcm
      rcases e' with q | q | q | q | q
      · rw [q]; exact Heap.lt_size hz
      · rw [q]; exact Heap.lt_size hTI
      · rw [q]; exact Heap.lt_size hTO
      · rw [q]; obtain ⟨_, e1, _⟩ := h1.obj; exact Heap.lt_size e1
      · rw [q]; obtain ⟨_, e2, _⟩ := h2.obj; exact Heap.lt_size e2
    rw [upd_ne (Nat.ne_of_lt (Nat.lt_of_lt_of_le hlt hT))]
    exact (hf c hcm).1
  done := by
    intro X hP hw hK hc i pins s σ H E I hf st hg
    subst hP hw hK
    obtain ⟨hle, hz, hTI, ⟨x0, y0, hTO⟩, h1, h2⟩ := st
    obtain ⟨hge, hqx, hqy⟩ := hg
    obtain ⟨its, rv, p⟩ := inv_K I hqx
    obtain ⟨its2, rv2, p2⟩ := inv_K I hqy
    have l1 := rv.length
    have l2 := rv2.length
    have na : ∀ c, c ∈ [z, TI, TO, i1, i2] → a ≠ c := fun c hc => src_ne I hqx (hf c hc)
    have nb : ∀ c, c ∈ [z, TI, TO, i1, i2] → b ≠ c := fun c hc => src_ne I hqy (hf c hc)
    have hh : X.A.in1.handled = none := I.ok.hd hc
    have S : ZipSep2 z TI TO i1 i2 [i1, a] [i2, b] :=
      { TIz := D.TIz, TOz := D.TOz, TITO := D.TITO, TIi1 := D.TIi1, mem1 := by simp, zf1 := by simp; exact ⟨D.z1, Ne.symm (na z (by simp))⟩, Tf1 := by simp; exact ⟨D.T1, Ne.symm (na TO (by simp))⟩,
        TIi2 := D.TIi2, mem2 := by simp, zf2 := by simp; exact ⟨D.z2, Ne.symm (nb z (by simp))⟩, Tf2 := by simp; exact ⟨D.T2, Ne.symm (nb TO (by simp))⟩,
        sep1_2 := by simp; exact ⟨D.i12, Ne.symm (nb i1 (by simp))⟩, sep2_1 := by simp; exact ⟨Ne.symm D.i12, Ne.symm (na i2 (by simp))⟩ }
    have G := GoesN.zip2 (elts := elts) (x1 := kk) (pos := tpos) S (draws_K (prog := X.prog) (w := X.w) hh k i1 a (na i1 (by simp)) its.toArray) (draws_K (prog := X.prog) (w := X.w) hh k' i2 b (nb i2 (by simp)) its2.toArray)
    have ei : i = min its.toArray.size its2.toArray.size := by rw [List.size_toArray, List.size_toArray, ← l1, ← l2]; omega
    subst ei
    refine G.stops s _ _ ⟨hz, hTI, ⟨_, _, hTO⟩, ⟨h1, p⟩, h2, p2⟩ fun h' tk hk htk => ?_
    exact I.turnedL (ch := [z, TI, TO, i1, i2]) (fun c o hc q => hk c o (fun m => hc (by
      have e' : c = z ∨ c = TO ∨ c = i1 ∨ c = i2 := by simpa using m
      rcases e' with q | q | q | q <;> simp [q])) q) hf
  self := fun A i s Q E st h => wpAny_pyIter_zip st.2.1 h
def iZp (K : PySem.W.Frag) (te tf : TE) : TI := fun σ H R => te σ H fun x H1 => tf σ H1 fun y H2 => ∃ k a xs k' b ys, x = .ref a ∧ y = .ref b ∧ SqK K k H2 a xs ∧ SqK K k' H2 b ys ∧ R (ItZ K k a xs k' b ys) H2
theorem pi_zp {X : Cx} {e e2 : Expr} {te tf : TE} {p pos tpos : Pos} {elts : List Expr} {kk : Nat} (hg : Gl X "zip") (hm : X.mg "zip" = none) (he : PE X e te) (he2 : PE X e2 tf)
    (hs : starEach [e, e2] X.env = (false, eval e X.env) :: starEach [e2] X.env := by rfl) (hs2 : starEach [e2] X.env = (false, eval e2 X.env) :: starEach [] X.env := by rfl) (hpl : (backTo pos (starEach [e2] X.env)).any (·.1) = false := by rfl) :
    PI X (.Tuple elts kk tpos) (.Call (.Name "zip" p) [e, e2] [] pos) (iZp X.K te tf) := by
  refine ⟨fun pins s σ H R I h => ?_⟩
  refine Call_ (ld_blt I hg hm PyProof.Rows.boot_zip (PyProof.Rows.callWith_type1 (args_cons (thn (he.run pins s σ H _ I h) fun v s1 ⟨x, H1, I1, r1, q1⟩ => args_cons (thn (he2.run pins s1 σ H1 _ I1 q1) fun v2 s2 ⟨y, H2, I2, r2, q2⟩ => args_nil ?_) hs2) hs) hs hpl))
  obtain ⟨k, a, xs, k', b, ys, rfl, rfl, hqx, hqy, q⟩ := q2
  obtain rfl : v = .ref a := r1
  obtain rfl : v2 = .ref b := r2
  obtain ⟨its, rv, p1⟩ := inv_K I2 hqx
  obtain ⟨its2, rv2, p2⟩ := inv_K I2 hqy
  refine zip_begins2 (begins_K k a its.toArray) (begins_K k' b its2.toArray) p1 p2 fun h' hz hTI hTO h1 h2 hsz hk => wpAny_pyIter_zip hz ?_
  have I3 : Inv X pins σ H2 { s2 with heap := h' } := I2.kept (t' := s2.toks) hk
  have D : ZipA (s2.heap.objs.size + 4) (s2.heap.objs.size + 2) (s2.heap.objs.size + 3) s2.heap.objs.size (s2.heap.objs.size + 1) := by
    constructor <;> (show (_ : Nat) ≠ _; omega)
  refine ⟨_, [s2.heap.objs.size + 4, s2.heap.objs.size + 2, s2.heap.objs.size + 3, s2.heap.objs.size, s2.heap.objs.size + 1], _, _, H2, rfl, I3, turn_Z k a xs k' b ys D, ⟨Nat.zero_le _, hz, hTI, ⟨_, _, hTO⟩, itK_new h1, itK_new h2⟩, fun c hc => ?_, q⟩
  have hle : s2.heap.objs.size ≤ c := by
    have e' : c = s2.heap.objs.size + 4 ∨ c = s2.heap.objs.size + 2 ∨ c = s2.heap.objs.size + 3 ∨ c = s2.heap.objs.size ∨ c = s2.heap.objs.size + 1 := by simpa using hc
    rcases e' with z | z | z | z | z <;> rw [z]
    · exact Nat.le_add_right _ _
    · exact Nat.le_add_right _ _
    · exact Nat.le_add_right _ _
    · exact Nat.le_refl _
    · exact Nat.le_add_right _ _
  exact I2.fpOk hle (I2.hok.fresh hle)

/-! ### a list or a tuple -/
def ItS (K : PySem.W.Frag) (k : Bool) (a : Addr) : It := match k with
  | true => Itt K a
  | false => Itl K a
def iSq (K : PySem.W.Frag) (te : TE) : TI := fun σ H R => te σ H fun x H1 => ∃ k a xs, x = .ref a ∧ SqK K k H1 a xs ∧ R (ItS K k a) H1
theorem pi_sq {X : Cx} {tg e : Expr} {te : TE} (he : PE X e te) : PI X tg e (iSq X.K te) := by
  refine ⟨fun pins s σ H R I h => ?_⟩
  refine thn (he.run pins s σ H _ I h) fun v s1 ⟨x, H1, I1, r1, q1⟩ => ?_
  obtain ⟨k, a, xs, rfl, hq, q⟩ := q1
  obtain rfl : v = .ref a := r1
  obtain ⟨its, rv, p'⟩ := inv_K I1 hq
  refine (begins_K k a its.toArray).iter _ _ _ _ _ _ p' ?_
  have I2 : Inv X pins σ H1 { s1 with heap := s1.heap.push (itObj k a) } := I1.kept (t' := s1.toks) fun b o e => Heap.get?_push_of_some _ e
  have fp : ∀ b ∈ [s1.heap.objs.size], FpOk X pins H1 b := fun b hb => by
    have : b = s1.heap.objs.size := by simpa using hb
    subst this
    exact I1.fpOk (Nat.le_refl _) (I1.hok.fresh (Nat.le_refl _))
  cases k
  · exact ⟨s1.heap.objs.size, [s1.heap.objs.size], _, _, H1, rfl, I2, turn_list a _, ⟨_, Heap.get?_push_size _ rfl, rfl, rfl⟩, fp, q⟩
  · exact ⟨s1.heap.objs.size, [s1.heap.objs.size], _, _, H1, rfl, I2, turn_tuple a _, ⟨_, Heap.get?_push_size _ rfl, rfl, rfl⟩, fp, q⟩
end DR
end

section
set_option maxRecDepth 100000
set_option maxHeartbeats 2000000
/-! DLa: deep values, the monad of draws, what a value stands for in a heap. -/
namespace DL
open PySem PySem.Spec PyProof.Rows L2

/-- deep values -/
inductive D where
  | non | bl (b : Bool) | int (i : Int) | str (x : Str)
  | lst (xs : List D) | tup (xs : List D)
  | obj (c : Nat) (fs : List D)
  | dic (ks : List D) (vs : List D)
  | urn
  /-- a pair that enumerate, zip give -/
  | pr (x y : D)

/-- computations: a result, a failure (nothing is claimed then), or a draw from 0 to m - 1 -/
inductive T (α : Type) where
  | ret (a : α) | fail | take (m : Int) (k : Int → T α)
def T.bind {α β : Type} : T α → (α → T β) → T β
  | .ret a, f => f a
  | .fail, _ => .fail
  | .take m k, f => .take m fun r => (k r).bind f
instance : Monad T where
  pure := T.ret
  bind := T.bind
@[simp] theorem T.bind_ret {α β : Type} (a : α) (f : α → T β) : (T.ret a).bind f = f a := rfl
@[simp] theorem T.bind_fail {α β : Type} (f : α → T β) : (T.fail : T α).bind f = .fail := rfl
@[simp] theorem T.bind_take {α β : Type} (m : Int) (k : Int → T α) (f : α → T β) : (T.take m k).bind f = .take m fun r => (k r).bind f := rfl
theorem T.bind_assoc {α β γ : Type} (m : T α) (f : α → T β) (g : β → T γ) : (m.bind f).bind g = m.bind fun a => (f a).bind g := by
  induction m with
  | ret a => rfl
  | fail => rfl
  | take m k ih => simp only [T.bind_take, ih]
theorem T.bind_ret_right {α : Type} (m : T α) : m.bind T.ret = m := by
  induction m with
  | ret a => rfl
  | fail => rfl
  | take m k ih => simp only [T.bind_take, ih]
/-- all ways end, with what R says; n counts the draws -/
def T.ok {α : Type} : T α → Nat → (α → Nat → Prop) → Prop
  | .ret a, n, R => R a n
  | .fail, _, _ => False
  | .take m k, n, R => 0 < m ∧ m < 1073741824 ∧ n < 2 ^ 50 ∧ ∀ r : Int, 0 ≤ r → r < m → (k r).ok (n + 1) R
theorem T.ok_mono {α : Type} {m : T α} : ∀ {n : Nat} {R R' : α → Nat → Prop}, m.ok n R → (∀ a k, R a k → R' a k) → m.ok n R' := by
  induction m with
  | ret a => intro n R R' h q; exact q _ _ h
  | fail => intro n R R' h q; exact h
  | take m k ih => intro n R R' h q; exact ⟨h.1, h.2.1, h.2.2.1, fun r h0 h1 => ih r (h.2.2.2 r h0 h1) q⟩
theorem T.ok_bind {α β : Type} {m : T α} {f : α → T β} : ∀ {n : Nat} {R : β → Nat → Prop}, (m.bind f).ok n R ↔ m.ok n fun a k => (f a).ok k R := by
  induction m with
  | ret a => intro n R; exact Iff.rfl
  | fail => intro n R; exact Iff.rfl
  | take m k ih =>
    intro n R
    constructor
    · rintro ⟨a, b, c, h⟩
      exact ⟨a, b, c, fun r h0 h1 => (ih r).mp (h r h0 h1)⟩
    · rintro ⟨a, b, c, h⟩
      exact ⟨a, b, c, fun r h0 h1 => (ih r).mpr (h r h0 h1)⟩

/-! ### heaps -/
/-- what stood stands, but for the urn -/
def ExU (u : Addr) (H H' : Hp) : Prop := ∀ a o, a ≠ u → H a = some o → H' a = some o
theorem ExU.refl (u : Addr) (H : Hp) : ExU u H H := fun _ _ _ h => h
theorem ExU.trans {u : Addr} {H H1 H2 : Hp} (a : ExU u H H1) (b : ExU u H1 H2) : ExU u H H2 := fun x o n h => b x o n (a x o n h)
theorem ExU.new {u : Addr} {H : Hp} {p : Addr} {o : HO} (h : H p = none) : ExU u H (upd H p o) := fun a w _ e => by
  rw [upd_ne (ne_of_none e h)]
  exact e
theorem ExU.free {u : Addr} {H H' : Hp} (e : ExU u H H') {p : Addr} (hu : p ≠ u) (h : H' p = none) : H p = none := by
  cases q : H p with
  | none => rfl
  | some o =>
    rw [e p o hu q] at h
    cases h
open Classical in
/-- the heap without P -/
noncomputable def Msk (P : Addr → Prop) (H : Hp) : Hp := fun a => if P a then none else H a
theorem msk_in {P : Addr → Prop} {H : Hp} {a : Addr} (h : ¬ P a) : Msk P H a = H a := by unfold Msk; rw [if_neg h]
theorem msk_some {P : Addr → Prop} {H : Hp} {a : Addr} {o : HO} : Msk P H a = some o ↔ ¬ P a ∧ H a = some o := by
  unfold Msk
  by_cases h : P a
  · rw [if_pos h]; simp [h]
  · rw [if_neg h]; simp [h]
/-- G' has all that G has -/
def Sub (G G' : Hp) : Prop := ∀ a o, G a = some o → G' a = some o
theorem Sub.refl (G : Hp) : Sub G G := fun _ _ h => h
theorem Sub.trans {G G1 G2 : Hp} (a : Sub G G1) (b : Sub G1 G2) : Sub G G2 := fun x o h => b x o (a x o h)
theorem Sub.msk {P : Addr → Prop} {u : Addr} {H H' : Hp} (hu : P u) (e : ExU u H H') : Sub (Msk P H) (Msk P H') := fun a o h => by
  obtain ⟨h1, h2⟩ := msk_some.mp h
  exact msk_some.mpr ⟨h1, e a o (fun z => h1 (z ▸ hu)) h2⟩
theorem Sub.less {P P' : Addr → Prop} {H : Hp} (h : ∀ a, P' a → P a) : Sub (Msk P H) (Msk P' H) := fun a o q => by
  obtain ⟨h1, h2⟩ := msk_some.mp q
  exact msk_some.mpr ⟨fun z => h1 (h a z), h2⟩
theorem Sub.of_msk {P : Addr → Prop} {H : Hp} : Sub (Msk P H) H := fun a o q => (msk_some.mp q).2

theorem sub_rd {G G' : Hp} {a : Addr} {u : HO} (e : Sub G G') (h : Rd G a u) : Rd G' a u := by
  rcases h with h | ⟨o, h⟩
  · exact Or.inl (e a _ h)
  · exact Or.inr ⟨o, e a _ h⟩
theorem sub_l {K : PySem.W.Frag} {G G' : Hp} {a : Addr} {xs : List V} (e : Sub G G') (h : SqL K G a xs) : SqL K G' a xs := by
  rcases h with h | h
  · exact Or.inl (sub_rd e h)
  · exact Or.inr h
theorem sub_t {K : PySem.W.Frag} {G G' : Hp} {a : Addr} {xs : List V} (e : Sub G G') (h : SqT K G a xs) : SqT K G' a xs := by
  rcases h with h | h
  · exact Or.inl (sub_rd e h)
  · exact Or.inr h

/-! ### a tuple whose object has no dict -/
def SqN (K : PySem.W.Frag) (G : Hp) (a : Addr) (xs : List V) : Prop := (∃ o : Obj, o.dict = none ∧ G a = some (.frz o (.tup xs))) ∨
  ∃ (o : Obj) (its : Array Value) (n : Nat), o.dict = none ∧ K.lookup a = some o ∧ o.cls = .type "tuple" ∧ o.data = .seq its n ∧ its.size ≤ sizeLine ∧ Vals xs its.toList
theorem SqN.sq {K : PySem.W.Frag} {G : Hp} {a : Addr} {xs : List V} (h : SqN K G a xs) : SqT K G a xs := by
  rcases h with ⟨o, _, h⟩ | ⟨o, its, n, _, h⟩
  · exact .inl (.inr ⟨o, h⟩)
  · exact .inr ⟨o, its, n, h⟩
theorem sub_n {K : PySem.W.Frag} {G G' : Hp} {a : Addr} {xs : List V} (e : Sub G G') (h : SqN K G a xs) : SqN K G' a xs := by
  rcases h with ⟨o, h1, h⟩ | h
  · exact .inl ⟨o, h1, e _ _ h⟩
  · exact .inr h
/-! ### what a value stands for -/
structure Ct where
  K : PySem.W.Frag
  u : Addr
  cls : Nat → Addr
  me : Addr

mutual
inductive Rep (c : Ct) (G : Hp) : V → D → Prop
  | non : Rep c G .non .non
  | bl (b : Bool) : Rep c G (.bl b) (.bl b)
  | int (i : Int) : Rep c G (.int i) (.int i)
  | str (x : Str) : Rep c G (.str x) (.str x)
  | lst {a : Addr} {xs : List V} {ds : List D} : G a = some (.lst xs) → Reps c G xs ds → Rep c G (.ref a) (.lst ds)
  | tup {a : Addr} {xs : List V} {ds : List D} : SqN c.K G a xs → Reps c G xs ds → Rep c G (.ref a) (.tup ds)
  | pr {a : Addr} {x y : V} {d e : D} : SqT c.K G a [x, y] → Rep c G x d → Rep c G y e → Rep c G (.ref a) (.pr d e)
  | obj {a dx : Addr} {k : Nat} {xs : List V} {ds : List D} : SlX.Slt G a (c.cls k) dx (xs.map some) → Reps c G xs ds → Rep c G (.ref a) (.obj k ds)
  | urn : Rep c G (.ref c.u) .urn
inductive Reps (c : Ct) (G : Hp) : List V → List D → Prop
  | nil : Reps c G [] []
  | cons {v : V} {vs : List V} {d : D} {ds : List D} : Rep c G v d → Reps c G vs ds → Reps c G (v :: vs) (d :: ds)
end

theorem sub_slt {G G' : Hp} {a C dx : Addr} {vs : List (Option V)} (e : Sub G G') (h : SlX.Slt G a C dx vs) : SlX.Slt G' a C dx vs := by
  rcases h with ⟨h1, h2⟩ | ⟨h1, h2⟩
  · exact .inl ⟨e _ _ h1, h2⟩
  · exact .inr ⟨e _ _ h1, e _ _ h2⟩
mutual
theorem Rep.sub {c : Ct} {G G' : Hp} {v : V} {d : D} (e : Sub G G') : Rep c G v d → Rep c G' v d
  | .non => .non
  | .bl b => .bl b
  | .int i => .int i
  | .str x => .str x
  | .lst h r => .lst (e _ _ h) (Reps.sub e r)
  | .tup h r => .tup (sub_n e h) (Reps.sub e r)
  | .pr h r1 r2 => .pr (sub_t e h) (Rep.sub e r1) (Rep.sub e r2)
  | .obj h r => .obj (sub_slt e h) (Reps.sub e r)
  | .urn => .urn
theorem Reps.sub {c : Ct} {G G' : Hp} {vs : List V} {ds : List D} (e : Sub G G') : Reps c G vs ds → Reps c G' vs ds
  | .nil => .nil
  | .cons h r => .cons (Rep.sub e h) (Reps.sub e r)
end
theorem Reps.length {c : Ct} {G : Hp} : ∀ {vs : List V} {ds : List D}, Reps c G vs ds → vs.length = ds.length
  | _, _, .nil => rfl
  | _, _, .cons _ r => by rw [List.length_cons, List.length_cons, Reps.length r]
theorem Reps.append {c : Ct} {G : Hp} : ∀ {vs ws : List V} {ds es : List D}, Reps c G vs ds → Reps c G ws es → Reps c G (vs ++ ws) (ds ++ es)
  | _, _, _, _, .nil, s => s
  | _, _, _, _, .cons h r, s => .cons h (Reps.append r s)
theorem Reps.one {c : Ct} {G : Hp} {v : V} {d : D} (h : Rep c G v d) : Reps c G [v] [d] := .cons h .nil
theorem Reps.get {c : Ct} {G : Hp} : ∀ {vs : List V} {ds : List D} {i : Nat} {d : D}, Reps c G vs ds → ds[i]? = some d → ∃ v, vs[i]? = some v ∧ Rep c G v d
  | _, _, _, _, .nil, h => by simp at h
  | _, _, 0, d, .cons h r, e => ⟨_, rfl, by have : _ = d := Option.some.inj e; exact this ▸ h⟩
  | _, _, i + 1, d, .cons h r, e => Reps.get (i := i) r e
theorem Reps.getV {c : Ct} {G : Hp} : ∀ {vs : List V} {ds : List D} {i : Nat} {v : V}, Reps c G vs ds → vs[i]? = some v → ∃ d, ds[i]? = some d ∧ Rep c G v d
  | _, _, _, _, .nil, h => by simp at h
  | _, _, 0, v, .cons h r, e => ⟨_, rfl, by have : _ = v := Option.some.inj e; exact this ▸ h⟩
  | _, _, i + 1, v, .cons h r, e => Reps.getV (i := i) r e
theorem Reps.take {c : Ct} {G : Hp} : ∀ (n : Nat) {vs : List V} {ds : List D}, Reps c G vs ds → Reps c G (vs.take n) (ds.take n)
  | 0, _, _, _ => by simp; exact .nil
  | n + 1, _, _, .nil => .nil
  | n + 1, _, _, .cons h r => .cons h (Reps.take n r)
theorem Reps.drop {c : Ct} {G : Hp} : ∀ (n : Nat) {vs : List V} {ds : List D}, Reps c G vs ds → Reps c G (vs.drop n) (ds.drop n)
  | 0, _, _, r => r
  | n + 1, _, _, .nil => .nil
  | n + 1, _, _, .cons h r => Reps.drop n r
theorem Reps.set {c : Ct} {G : Hp} {v : V} {d : D} (h : Rep c G v d) : ∀ (n : Nat) {vs : List V} {ds : List D}, Reps c G vs ds → Reps c G (vs.set n v) (ds.set n d)
  | _, _, _, .nil => .nil
  | 0, _, _, .cons _ r => .cons h r
  | n + 1, _, _, .cons k r => .cons k (Reps.set h n r)
theorem Reps.eraseIdx {c : Ct} {G : Hp} : ∀ (n : Nat) {vs : List V} {ds : List D}, Reps c G vs ds → Reps c G (vs.eraseIdx n) (ds.eraseIdx n)
  | _, _, _, .nil => .nil
  | 0, _, _, .cons _ r => r
  | n + 1, _, _, .cons k r => .cons k (Reps.eraseIdx n r)
theorem Reps.reverse {c : Ct} {G : Hp} : ∀ {vs : List V} {ds : List D}, Reps c G vs ds → Reps c G vs.reverse ds.reverse
  | _, _, .nil => .nil
  | _, _, .cons h r => by
    rw [List.reverse_cons, List.reverse_cons]
    exact (Reps.reverse r).append (.one h)

/-! ### the state at an expression -/
inductive Slot where
  | no | val (d : D)
  /-- a list of the frame's own; an instance within its __init__ -/
  | own (d : D)
  /-- the instance whose __init__ this is -/
  | me
abbrev Env := List Slot

/-- the urn at u, at most n draws behind it -/
def UrnAt (u : Addr) (H : Hp) (n : Nat) : Prop := ∃ a b e : Int, H u = some (.lst [.int a, .int b, .int e]) ∧ 0 ≤ a ∧ 0 ≤ b ∧ b < 2 ^ 62 ∧ 0 ≤ e ∧ e ≤ n

structure Ok (c : Ct) (P : Addr → Prop) (H : Hp) (n : Nat) : Prop where
  urn : UrnAt c.u H n
  pu : P c.u
  dom : ∀ a, P a → H a ≠ none
theorem Ok.exu {c : Ct} {P P' : Addr → Prop} {H H' : Hp} {n n' : Nat} (o : Ok c P H n) (o' : Ok c P' H' n') (e : ExU c.u H H') : Ok c P H' n' :=
  ⟨o'.urn, o.pu, fun a h => by
    by_cases z : a = c.u
    · rw [z]; exact o'.dom _ o'.pu
    · cases q : H a with
      | none => exact absurd q (o.dom a h)
      | some w => rw [e a w z q]; simp⟩
theorem Ok.new {c : Ct} {P : Addr → Prop} {H : Hp} {n : Nat} {p : Addr} {w : HO} (o : Ok c P H n) (h : H p = none) : Ok c P (upd H p w) n := by
  have nu : c.u ≠ p := by
    obtain ⟨a, b, e, h1, _⟩ := o.urn
    exact ne_of_none h1 h
  refine ⟨?_, o.pu, fun a ha => ?_⟩
  · obtain ⟨a, b, e, h1, h2⟩ := o.urn
    exact ⟨a, b, e, by rw [upd_ne nu]; exact h1, h2⟩
  · by_cases z : a = p
    · rw [z, upd_same]; simp
    · rw [upd_ne z]; exact o.dom a ha
theorem Ok.np {c : Ct} {P : Addr → Prop} {H : Hp} {n : Nat} {p : Addr} (o : Ok c P H n) (h : H p = none) : ¬ P p := fun z => o.dom p z h
theorem Ok.nu {c : Ct} {P : Addr → Prop} {H : Hp} {n : Nat} {p : Addr} (o : Ok c P H n) (h : H p = none) : p ≠ c.u := fun z => o.np h (z ▸ o.pu)
/-- one more address set apart -/
theorem Ok.more {c : Ct} {P : Addr → Prop} {H : Hp} {n : Nat} {p : Addr} (o : Ok c P H n) (h : H p ≠ none) : Ok c (fun a => P a ∨ a = p) H n :=
  ⟨o.urn, .inl o.pu, fun a ha => by
    rcases ha with z | z
    · exact o.dom a z
    · rw [z]; exact h⟩
theorem Ok.less {c : Ct} {P P' : Addr → Prop} {H : Hp} {n : Nat} (o : Ok c P H n) (h : ∀ a, P' a → P a) (hu : P' c.u) : Ok c P' H n := ⟨o.urn, hu, fun a ha => o.dom a (h a ha)⟩

/-- what stands at the address of a local list, of an instance within its __init__ -/
def OwnAt (c : Ct) (P : Addr → Prop) (H : Hp) (a : Addr) : D → Prop
  | .lst ds => ∃ xs, H a = some (.lst xs) ∧ Reps c (Msk P H) xs ds
  | .obj k fs => ∃ (dx : Addr) (xs : List (Option V)), P dx ∧ dx ≠ c.u ∧ dx ≠ a ∧ (H dx = some (.own a) ∨ H dx = some (.xd [])) ∧ SlX.Slt H a (c.cls k) dx xs ∧
      ∀ (i : Nat) (d : D), fs[i]? = some d → d = .urn ∨ ∃ w, xs[i]? = some (some w) ∧ Rep c (Msk P H) w d
  | _ => False
def SlotAt (c : Ct) (P : Addr → Prop) (H : Hp) (x : Option (Option V)) : Slot → Prop
  | .no => True
  | .val d => ∃ v, x = some (some v) ∧ Rep c (Msk P H) v d
  | .own d => ∃ a, x = some (some (.ref a)) ∧ P a ∧ a ≠ c.u ∧ OwnAt c P H a d
  | .me => x = some (some (.ref c.me))
structure EnvR (c : Ct) (P : Addr → Prop) (H : Hp) (σ : L2.St) (ρ : Env) : Prop where
  len : ρ.length = σ.length
  at_ : ∀ (i : Nat) (s : Slot), ρ[i]? = some s → SlotAt c P H σ[i]? s

theorem slt_exu {u : Addr} {H H' : Hp} {a C dx : Addr} {vs : List (Option V)} (e : ExU u H H') (n1 : a ≠ u) (n2 : dx ≠ u) (h : SlX.Slt H a C dx vs) : SlX.Slt H' a C dx vs := by
  rcases h with ⟨h1, h2⟩ | ⟨h1, h2⟩
  · exact .inl ⟨e _ _ n1 h1, h2⟩
  · exact .inr ⟨e _ _ n1 h1, e _ _ n2 h2⟩
/-- what the dict of an instance within its __init__ is -/
def DxH (H : Hp) (b : Addr) : Prop := (∃ x, H b = some (.own x)) ∨ H b = some (.xd [])
/-- what stands apart stays, and the part that is not apart grows -/
theorem OwnAt.move {c : Ct} {P P' : Addr → Prop} {H H' : Hp} {a : Addr} {d : D} (h : OwnAt c P H a d) (na : a ≠ c.u) (sub : Sub (Msk P H) (Msk P' H')) (ka : ∀ w, H a = some w → H' a = some w)
    (kx : ∀ b w, P b → b ≠ c.u → DxH H b → H b = some w → H' b = some w) (px : ∀ b, P b → DxH H b → P' b) : OwnAt c P' H' a d := by
  cases d with
  | lst ds =>
    obtain ⟨xs, h1, h2⟩ := h
    exact ⟨xs, ka _ h1, h2.sub sub⟩
  | obj k fs =>
    obtain ⟨dx, xs, h1, h2, h3, h4, h5, h6⟩ := h
    have dh : DxH H dx := h4.elim (fun z => .inl ⟨_, z⟩) .inr
    refine ⟨dx, xs, px dx h1 dh, h2, h3, h4.elim (fun z => .inl (kx _ _ h1 h2 dh z)) (fun z => .inr (kx _ _ h1 h2 dh z)), ?_, fun i d q => ?_⟩
    · rcases h5 with ⟨q1, q2⟩ | ⟨q1, q2⟩
      · exact .inl ⟨ka _ q1, q2⟩
      · exact .inr ⟨ka _ q1, kx _ _ h1 h2 dh q2⟩
    · rcases h6 i d q with z | ⟨w, w1, w2⟩
      · exact .inl z
      · exact .inr ⟨w, w1, w2.sub sub⟩
  | _ => exact h.elim
theorem OwnAt.exu {c : Ct} {P : Addr → Prop} {H H' : Hp} {a : Addr} {d : D} (hu : P c.u) (pa : P a) (na : a ≠ c.u) (e : ExU c.u H H') (h : OwnAt c P H a d) : OwnAt c P H' a d :=
  h.move na (Sub.msk hu e) (fun w hb => e a w na hb) (fun b w _ nb _ hb => e b w nb hb) fun b hb _ => hb
/-- what stands where a list or an instance of the frame's own stands is no such dict -/
theorem OwnAt.kind {c : Ct} {P : Addr → Prop} {H : Hp} {a : Addr} {d : D} (h : OwnAt c P H a d) : ¬ DxH H a := by
  cases d with
  | lst ds =>
    obtain ⟨xs, h1, h2⟩ := h
    rintro (⟨x, z⟩ | z) <;> (rw [h1] at z; cases z)
  | obj k fs =>
    obtain ⟨dx, xs, h1, h2, h3, h4, h5, h6⟩ := h
    rcases h5 with ⟨q1, q2⟩ | ⟨q1, q2⟩
    · rintro (⟨x, z⟩ | z) <;> (rw [q1] at z; cases z)
    · unfold SlX.SlO at q1
      rintro (⟨x, z⟩ | z) <;> (rw [q1] at z; cases z)
  | _ => exact h.elim
theorem SlotAt.exu {c : Ct} {P : Addr → Prop} {H H' : Hp} {x : Option (Option V)} {s : Slot} (hu : P c.u) (e : ExU c.u H H') (h : SlotAt c P H x s) : SlotAt c P H' x s := by
  cases s with
  | no => trivial
  | me => exact h
  | val d =>
    obtain ⟨v, h1, h2⟩ := h
    exact ⟨v, h1, h2.sub (Sub.msk hu e)⟩
  | own d =>
    obtain ⟨a, h1, h2, h3, h4⟩ := h
    exact ⟨a, h1, h2, h3, h4.exu hu h2 h3 e⟩
theorem EnvR.exu {c : Ct} {P : Addr → Prop} {H H' : Hp} {σ : L2.St} {ρ : Env} (hu : P c.u) (e : ExU c.u H H') (h : EnvR c P H σ ρ) : EnvR c P H' σ ρ := ⟨h.len, fun i s q => (h.at_ i s q).exu hu e⟩

/-! ### judgements on readings -/
/-- a value: all of it apart from P -/
def EvE (c : Ct) (te : TE) (F : Env → T D) : Prop := ∀ (σ : L2.St) (H : Hp) (P : Addr → Prop) (ρ : Env) (n : Nat) (R : D → Nat → Prop), Ok c P H n → EnvR c P H σ ρ → (F ρ).ok n R →
  ∀ Q : VK, (∀ v H' d n', R d n' → ExU c.u H H' → Ok c P H' n' → Rep c (Msk P H') v d → Q v H') → te σ H Q
/-- a new list -/
def EvL (c : Ct) (te : TE) (F : Env → T (List D)) : Prop := ∀ (σ : L2.St) (H : Hp) (P : Addr → Prop) (ρ : Env) (n : Nat) (R : List D → Nat → Prop), Ok c P H n → EnvR c P H σ ρ → (F ρ).ok n R →
  ∀ Q : VK, (∀ p xs H' ds n', R ds n' → ExU c.u H H' → Ok c P H' n' → H p = none → H' p = some (.lst xs) → Reps c (Msk (fun a => P a ∨ a = p) H') xs ds → Q (.ref p) H') → te σ H Q
/-- a value; if it is a list, its items alone are apart from P -/
def RepX (c : Ct) (P : Addr → Prop) (H : Hp) (v : V) (d : D) : Prop := Rep c (Msk P H) v d ∨ ∃ a xs ds, v = .ref a ∧ a ≠ c.u ∧ d = .lst ds ∧ H a = some (.lst xs) ∧ Reps c (Msk P H) xs ds
def EvX (c : Ct) (te : TE) (F : Env → T D) : Prop := ∀ (σ : L2.St) (H : Hp) (P : Addr → Prop) (ρ : Env) (n : Nat) (R : D → Nat → Prop), Ok c P H n → EnvR c P H σ ρ → (F ρ).ok n R →
  ∀ Q : VK, (∀ v H' d n', R d n' → ExU c.u H H' → Ok c P H' n' → RepX c P H' v d → Q v H') → te σ H Q
def EvT (c : Ct) (tt : TT) (F : Env → T Bool) : Prop := ∀ (σ : L2.St) (H : Hp) (P : Addr → Prop) (ρ : Env) (n : Nat) (R : Bool → Nat → Prop), Ok c P H n → EnvR c P H σ ρ → (F ρ).ok n R →
  ∀ Q : Bool → Hp → Prop, (∀ b H' n', R b n' → ExU c.u H H' → Ok c P H' n' → Q b H') → tt σ H Q
def EvA (c : Ct) (ta : TA) (F : Env → T (List D)) : Prop := ∀ (σ : L2.St) (H : Hp) (P : Addr → Prop) (ρ : Env) (n : Nat) (R : List D → Nat → Prop), Ok c P H n → EnvR c P H σ ρ → (F ρ).ok n R →
  ∀ Q : List V → Hp → Prop, (∀ vs H' ds n', R ds n' → ExU c.u H H' → Ok c P H' n' → Reps c (Msk P H') vs ds → Q vs H') → ta σ H Q

theorem RepX.exu {c : Ct} {P : Addr → Prop} {H H' : Hp} {v : V} {d : D} (hu : P c.u) (e : ExU c.u H H') (h : RepX c P H v d) : RepX c P H' v d := by
  rcases h with h | ⟨a, xs, ds, h1, h2, h3, h4, h5⟩
  · exact .inl (h.sub (Sub.msk hu e))
  · exact .inr ⟨a, xs, ds, h1, h2, h3, e _ _ h2 h4, h5.sub (Sub.msk hu e)⟩
theorem RepX.lst {c : Ct} {P : Addr → Prop} {H : Hp} {v : V} {ds : List D} (h : RepX c P H v (.lst ds)) : ∃ a xs, v = .ref a ∧ H a = some (.lst xs) ∧ Reps c (Msk P H) xs ds := by
  rcases h with h | ⟨a, xs, es, h1, h2, h3, h4, h5⟩
  · cases h with
    | lst h r => exact ⟨_, _, rfl, Sub.of_msk _ _ h, r⟩
  · cases h3
    exact ⟨a, xs, h1, h4, h5⟩
theorem RepX.tup {c : Ct} {P : Addr → Prop} {H : Hp} {v : V} {ds : List D} (h : RepX c P H v (.tup ds)) : ∃ a xs, v = .ref a ∧ SqN c.K H a xs ∧ Reps c (Msk P H) xs ds := by
  rcases h with h | ⟨a, xs, es, h1, h2, h3, h4, h5⟩
  · cases h with
    | tup h r => exact ⟨_, _, rfl, sub_n Sub.of_msk h, r⟩
  · cases h3
/-- a sequence: its items -/
def seqD : D → Option (List D)
  | .lst ds => some ds
  | .tup ds => some ds
  | _ => none
theorem RepX.seq {c : Ct} {P : Addr → Prop} {H : Hp} {v : V} {d : D} {ds : List D} (h : RepX c P H v d) (e : seqD d = some ds) : ∃ a xs, v = .ref a ∧ (SqL c.K H a xs ∨ SqT c.K H a xs) ∧ Reps c (Msk P H) xs ds := by
  cases d with
  | lst es =>
    cases e
    obtain ⟨a, xs, h1, h2, h3⟩ := h.lst
    exact ⟨a, xs, h1, .inl (.of h2), h3⟩
  | tup es =>
    cases e
    obtain ⟨a, xs, h1, h2, h3⟩ := h.tup
    exact ⟨a, xs, h1, .inr h2.sq, h3⟩
  | _ => cases e
theorem EvE.x {c : Ct} {te : TE} {F : Env → T D} (h : EvE c te F) : EvX c te F := fun σ H P ρ n R o er ok Q q => h σ H P ρ n R o er ok Q fun v H' d n' r e o' rp => q v H' d n' r e o' (.inl rp)
theorem EvL.e {c : Ct} {te : TE} {F : Env → T (List D)} (h : EvL c te F) : EvE c te (fun ρ => (F ρ).bind fun ds => .ret (.lst ds)) := fun σ H P ρ n R o er ok Q q =>
  h σ H P ρ n _ o er (T.ok_bind.mp ok) Q fun p xs H' ds n' r e o' hn hp rp => q (.ref p) H' (.lst ds) n' r e o'
    (.lst (msk_some.mpr ⟨o.np hn, hp⟩) (rp.sub (Sub.less fun a h => .inl h)))
end DL
end

section
set_option maxRecDepth 100000
set_option maxHeartbeats 2000000
/-! DLb: expressions. -/
namespace DL
open PySem PySem.Spec PyProof.Rows L2

/-! ### plain functions on deep values -/
def flatD : D → Bool
  | .non => true
  | .bl _ => true
  | .int _ => true
  | .str _ => true
  | _ => false
mutual
/-- == of data -/
def D.eqv : D → D → Bool
  | .non, .non => true
  | .bl a, .bl b => a == b
  | .bl a, .int j => (if a then 1 else 0) == j
  | .int i, .bl b => i == (if b then 1 else 0)
  | .int i, .int j => i == j
  | .str x, .str y => x == y
  | .lst xs, .lst ys => D.eqvs xs ys
  | .tup xs, .tup ys => D.eqvs xs ys
  | _, _ => false
def D.eqvs : List D → List D → Bool
  | [], [] => true
  | x :: xs, y :: ys => D.eqv x y && D.eqvs xs ys
  | _, _ => false
end
mutual
/-- plain data, n deep at most -/
def D.good : Nat → D → Bool
  | _, .non => true
  | _, .bl _ => true
  | _, .int _ => true
  | _, .str x => PyData.strOk x
  | n + 1, .lst xs => D.goods n xs
  | n + 1, .tup xs => D.goods n xs
  | _, _ => false
def D.goods : Nat → List D → Bool
  | _, [] => true
  | n, x :: xs => D.good n x && D.goods n xs
end
mutual
def D.py : D → PyData
  | .non => .none
  | .bl b => .bool b
  | .int i => .int i
  | .str x => .str x
  | .lst xs => .list (D.pys xs)
  | .tup xs => .tuple (D.pys xs)
  | _ => .none
def D.pys : List D → List PyData
  | [] => []
  | x :: xs => D.py x :: D.pys xs
end
mutual
theorem D.eqv_py : ∀ (n m : Nat) (x y : D), x.good n = true → y.good m = true → PyData.eqv x.py y.py = D.eqv x y := by
  intro n m x y hx hy
  cases x <;> cases y <;> first
    | (simp only [D.py, PyData.eqv, D.eqv]; done)
    | (exfalso; simp [D.good] at hx; done)
    | (exfalso; simp [D.good] at hy; done)
    | (rename_i xs ys
       cases n with
       | zero => exact absurd hx (by simp [D.good])
       | succ n =>
         cases m with
         | zero => exact absurd hy (by simp [D.good])
         | succ m =>
           simp only [D.good] at hx hy
           simp only [D.py, PyData.eqv, D.eqv]
           exact D.eqvs_pys n m xs ys hx hy)
theorem D.eqvs_pys : ∀ (n m : Nat) (xs ys : List D), D.goods n xs = true → D.goods m ys = true → PyData.eqvAll (D.pys xs) (D.pys ys) = D.eqvs xs ys := by
  intro n m xs ys hx hy
  cases xs with
  | nil => cases ys <;> simp only [D.pys, PyData.eqvAll, D.eqvs]
  | cons x xs =>
    cases ys with
    | nil => simp only [D.pys, PyData.eqvAll, D.eqvs]
    | cons y ys =>
      simp only [D.goods, Bool.and_eq_true] at hx hy
      simp only [D.pys, PyData.eqvAll, D.eqvs]
      rw [D.eqv_py n m x y hx.1 hy.1, D.eqvs_pys n m xs ys hx.2 hy.2]
end
mutual
theorem D.good_lay : ∀ (n : Nat) (x : D), x.good n = true → x.py.canLay0 = true ∧ x.py.depth ≤ n := by
  intro n x h
  cases x <;> first
    | (simp only [D.py, PyData.canLay0, PyData.depth]; exact ⟨trivial, Nat.zero_le _⟩)
    | (simp only [D.py, PyData.canLay0, PyData.depth]; simp only [D.good] at h; exact ⟨h, Nat.zero_le _⟩)
    | (exfalso; simp [D.good] at h; done)
    | (rename_i xs
       cases n with
       | zero => exact absurd h (by simp [D.good])
       | succ n =>
         simp only [D.good] at h
         simp only [D.py, PyData.canLay0, PyData.depth]
         have q := D.goods_lay n xs h
         exact ⟨q.1, Nat.succ_le_succ q.2⟩)
theorem D.goods_lay : ∀ (n : Nat) (xs : List D), D.goods n xs = true → PyData.canLayAll0 (D.pys xs) = true ∧ PyData.depthAll (D.pys xs) ≤ n := by
  intro n xs h
  cases xs with
  | nil => simp only [D.pys, PyData.canLayAll0, PyData.depthAll]; exact ⟨trivial, Nat.zero_le _⟩
  | cons x xs =>
    simp only [D.goods, Bool.and_eq_true] at h
    simp only [D.pys, PyData.canLayAll0, PyData.depthAll]
    have q1 := D.good_lay n x h.1
    have q2 := D.goods_lay n xs h.2
    exact ⟨by rw [q1.1, q2.1]; rfl, Nat.max_le.mpr ⟨q1.2, q2.2⟩⟩
end
theorem D.good_shaped {x : D} (h : x.good 60 = true) : SeqAt.shaped x.py = true := by
  obtain ⟨h1, h2⟩ := D.good_lay 60 x h
  unfold SeqAt.shaped
  rw [h1, decide_eq_true (by omega : x.py.depth ≤ 64)]
  rfl
mutual
theorem Rep.dp {c : Ct} {G : Hp} : ∀ {v : V} {d : D}, ∀ n, Rep c G v d → d.good n = true → Dp c.K G v d.py
  | _, _, n, .non, h => .non
  | _, _, n, .bl b, h => .bl b
  | _, _, n, .int i, h => .int i
  | _, _, n, .str x, h => .str x
  | _, _, n, .lst h r, g => by
    cases n with
    | zero => exact absurd g (by simp [D.good])
    | succ n =>
      simp only [D.good] at g
      exact .lst (.of h) (Reps.dp n r g)
  | _, _, n, .tup h r, g => by
    cases n with
    | zero => exact absurd g (by simp [D.good])
    | succ n =>
      simp only [D.good] at g
      exact .tup h.sq (Reps.dp n r g)
  | _, _, n, .obj h r, g => absurd g (by cases n <;> simp [D.good])
  | _, _, n, .urn, g => absurd g (by cases n <;> simp [D.good])
  | _, _, n, .pr _ _ _, g => absurd g (by cases n <;> simp [D.good])
theorem Reps.dp {c : Ct} {G : Hp} : ∀ {vs : List V} {ds : List D}, ∀ n, Reps c G vs ds → D.goods n ds = true → DpAll c.K G vs (D.pys ds)
  | _, _, n, .nil, h => .nil
  | _, _, n, .cons h r, g => by
    simp only [D.goods, Bool.and_eq_true] at g
    exact .cons (Rep.dp n h g.1) (Reps.dp n r g.2)
end
mutual
theorem Dp.sub {K : PySem.W.Frag} {G G' : Hp} (e : Sub G G') : ∀ {v : V} {d : PyData}, Dp K G v d → Dp K G' v d
  | _, _, .non => .non
  | _, _, .bl b => .bl b
  | _, _, .int i => .int i
  | _, _, .str x => .str x
  | _, _, .lst h r => .lst (sub_l e h) (DpAll.sub e r)
  | _, _, .tup h r => .tup (sub_t e h) (DpAll.sub e r)
theorem DpAll.sub {K : PySem.W.Frag} {G G' : Hp} (e : Sub G G') : ∀ {vs : List V} {ds : List PyData}, DpAll K G vs ds → DpAll K G' vs ds
  | _, _, .nil => .nil
  | _, _, .cons h r => .cons (Dp.sub e h) (DpAll.sub e r)
end
theorem RepX.dp {c : Ct} {P : Addr → Prop} {H : Hp} {v : V} {d : D} (h : RepX c P H v d) (g : d.good 60 = true) : Dp c.K H v d.py := by
  rcases h with h | ⟨a, xs, ds, h1, h2, h3, h4, h5⟩
  · exact Dp.sub Sub.of_msk (h.dp 60 g)
  · subst h1 h3
    simp only [D.good] at g
    exact .lst (.of h4) (DpAll.sub Sub.of_msk (h5.dp 59 g))

/-! ### expressions -/
section
variable {c : Ct}
def fVar (i : Nat) : Env → T D := fun ρ => match ρ[i]? with
  | some (.val d) => .ret d
  | _ => .fail
def fVarX (i : Nat) : Env → T D := fun ρ => match ρ[i]? with
  | some (.val d) => .ret d
  | some (.own (.lst ds)) => .ret (.lst ds)
  | _ => .fail
def fC (d : D) : Env → T D := fun _ => .ret d
def fOp (f : D → D → T D) (a b : Env → T D) : Env → T D := fun ρ => (a ρ).bind fun x => (b ρ).bind fun y => f x y
def fUn (f : D → T D) (a : Env → T D) : Env → T D := fun ρ => (a ρ).bind f
theorem ev_var {i : Nat} : EvE c (tVar i) (fVar i) := by
  intro σ H P ρ n R o er ok Q q
  unfold fVar at ok
  split at ok
  · rename_i d h
    obtain ⟨v, h1, h2⟩ := er.at_ i _ h
    exact ⟨v, h1, q v H d n ok (ExU.refl _ _) o h2⟩
  · exact ok.elim
theorem ev_varX {i : Nat} : EvX c (tVar i) (fVarX i) := by
  intro σ H P ρ n R o er ok Q q
  unfold fVarX at ok
  split at ok
  · rename_i d h
    obtain ⟨v, h1, h2⟩ := er.at_ i _ h
    exact ⟨v, h1, q v H d n ok (ExU.refl _ _) o (.inl h2)⟩
  · rename_i ds h
    obtain ⟨a, h1, h2, h3, xs, k1, k2⟩ := er.at_ i _ h
    exact ⟨.ref a, h1, q _ H _ n ok (ExU.refl _ _) o (.inr ⟨a, xs, ds, rfl, h3, rfl, k1, k2⟩)⟩
  · exact ok.elim
theorem ev_c {v : V} {d : D} (h : ∀ G, Rep c G v d) : EvE c (tC v) (fC d) := fun σ H P ρ n R o er ok Q q => q v H d n ok (ExU.refl _ _) o (h _)

/-- a two-place operation on values -/
def RopE (c : Ct) (r : R2) (f : D → D → T D) : Prop := ∀ (H : Hp) (P : Addr → Prop) (n : Nat) (x y : V) (d e : D) (R : D → Nat → Prop), Ok c P H n → RepX c P H x d → RepX c P H y e → (f d e).ok n R →
  ∀ Q : VK, (∀ v H' d' n', R d' n' → ExU c.u H H' → Ok c P H' n' → Rep c (Msk P H') v d' → Q v H') → r x y H Q
def RunE (c : Ct) (r : V → Hp → VK → Prop) (f : D → T D) : Prop := ∀ (H : Hp) (P : Addr → Prop) (n : Nat) (x : V) (d : D) (R : D → Nat → Prop), Ok c P H n → RepX c P H x d → (f d).ok n R →
  ∀ Q : VK, (∀ v H' d' n', R d' n' → ExU c.u H H' → Ok c P H' n' → Rep c (Msk P H') v d' → Q v H') → r x H Q
theorem ev_op {r : R2} {f : D → D → T D} {ta tb : TE} {F G : Env → T D} (hr : RopE c r f) (ha : EvX c ta F) (hb : EvX c tb G) : EvE c (tOp r ta tb) (fOp f F G) := fun σ H P ρ n R o er ok Q q =>
  ha σ H P ρ n _ o er (T.ok_bind.mp ok) _ fun x H1 d n1 ok1 e1 o1 rx => hb σ H1 P ρ n1 _ o1 (er.exu o.pu e1) (T.ok_bind.mp ok1) _ fun y H2 e n2 ok2 e2 o2 ry =>
    hr H2 P n2 x y d e R o2 (rx.exu o.pu e2) ry ok2 Q fun v H3 d' n3 r e3 o3 rp => q v H3 d' n3 r (e1.trans (e2.trans e3)) o3 rp
theorem ev_un {r : V → Hp → VK → Prop} {f : D → T D} {ta : TE} {F : Env → T D} (hr : RunE c r f) (ha : EvX c ta F) : EvE c (tUn r ta) (fUn f F) := fun σ H P ρ n R o er ok Q q =>
  ha σ H P ρ n _ o er (T.ok_bind.mp ok) _ fun x H1 d n1 ok1 e1 o1 rx => hr H1 P n1 x d R o1 rx ok1 Q fun v H3 d' n3 r e3 o3 rp => q v H3 d' n3 r (e1.trans e3) o3 rp

/-! #### the operators -/
theorem RepX.int {P : Addr → Prop} {H : Hp} {v : V} {i : Int} (h : RepX c P H v (.int i)) : v = .int i := by
  rcases h with h | ⟨a, xs, ds, h1, h2, h3, h4, h5⟩
  · cases h; rfl
  · cases h3
theorem RepX.bl {P : Addr → Prop} {H : Hp} {v : V} {i : Bool} (h : RepX c P H v (.bl i)) : v = .bl i := by
  rcases h with h | ⟨a, xs, ds, h1, h2, h3, h4, h5⟩
  · cases h; rfl
  · cases h3
theorem RepX.str {P : Addr → Prop} {H : Hp} {v : V} {i : Str} (h : RepX c P H v (.str i)) : v = .str i := by
  rcases h with h | ⟨a, xs, ds, h1, h2, h3, h4, h5⟩
  · cases h; rfl
  · cases h3
theorem RepX.non {P : Addr → Prop} {H : Hp} {v : V} (h : RepX c P H v .non) : v = .non := by
  rcases h with h | ⟨a, xs, ds, h1, h2, h3, h4, h5⟩
  · cases h; rfl
  · cases h3
/-- ints to a flat value -/
def iiD (f : Int → Int → D) : D → D → T D
  | .int i, .int j => .ret (f i j)
  | _, _ => .fail
def iiC (b : Int → Int → Bool) (f : Int → Int → D) : D → D → T D
  | .int i, .int j => match b i j with | true => .ret (f i j) | false => .fail
  | _, _ => .fail
theorem rop_I0 {g : Int → Int → V} {f : Int → Int → D} (h : ∀ i j G, Rep c G (g i j) (f i j)) : RopE c (rI0 g) (iiD f) := by
  intro H P n x y d e R o rx ry ok Q q
  unfold iiD at ok
  split at ok
  · obtain rfl := rx.int
    obtain rfl := ry.int
    exact ⟨_, _, rfl, rfl, q _ H _ n ok (ExU.refl _ _) o (h _ _ _)⟩
  · exact ok.elim
theorem rop_I {C : Int → Int → Prop} {g : Int → Int → V} {f : Int → Int → D} {b : Int → Int → Bool} (hc : ∀ i j, b i j = true → C i j) (h : ∀ i j G, Rep c G (g i j) (f i j)) :
    RopE c (rI C g) (iiC b f) := by
  intro H P n x y d e R o rx ry ok Q q
  unfold iiC at ok
  split at ok
  · obtain rfl := rx.int
    obtain rfl := ry.int
    split at ok
    · rename_i hb
      exact ⟨_, _, rfl, rfl, hc _ _ hb, q _ H _ n ok (ExU.refl _ _) o (h _ _ _)⟩
    · exact ok.elim
  · exact ok.elim
def capD : Nat := 100000
theorem cap_le {n : Nat} (h : n ≤ capD) : n ≤ sizeLine := Nat.le_trans h (by decide)
theorem cap_lt {n : Nat} (h : n < capD) : n < sizeLine := Nat.lt_of_lt_of_le h (by decide)

/-- + -/
def addD : D → D → T D
  | .int i, .int j => .ret (.int (i + j))
  | .tup a, .tup b => match decide (a.length + b.length ≤ capD) with | true => .ret (.tup (a ++ b)) | false => .fail
  | .lst a, .lst b => match decide (a.length + b.length ≤ capD) with | true => .ret (.lst (a ++ b)) | false => .fail
  | .str a, .str b => match decide (a.length + b.length ≤ capD) with | true => .ret (.str (a ++ b)) | false => .fail
  | _, _ => .fail
/-- t + u: a new tuple without a dict -/
def rCatN (K : PySem.W.Frag) : R2 := fun x y H Q => ∃ a b xs ys, x = .ref a ∧ y = .ref b ∧ SqT K H a xs ∧ SqT K H b ys ∧ xs.length + ys.length ≤ sizeLine ∧
  (xs = [] → Q (.ref b) H) ∧ (xs ≠ [] → ys = [] → Q (.ref a) H) ∧ (xs ≠ [] → ys ≠ [] → ∀ (ob : Obj) (p : Addr), ob.dict = none → H p = none → Q (.ref p) (upd H p (.frz ob (.tup (xs ++ ys)))))
theorem op_catN {X : Cx} : OpR X (binaryOp .Add) (rCatN X.K) := by
  intro pins s σ H x y v u Q I rx ry h
  obtain ⟨a, b, xs, ys, rfl, rfl, ha, hb, hz, q0, q1, q2⟩ := h
  cases rx
  cases ry
  obtain ⟨its, r1, p1, _⟩ := I.tuple ha
  obtain ⟨its2, r2, p2, _⟩ := I.tuple hb
  by_cases hx : xs = []
  · subst hx
    cases r1
    exact cat_tup0 p1 p2 ⟨.ref b, H, I, rfl, q0 rfl⟩
  · refine HT.cat_tup p1 p2 (fun z => hx (r1.nil_iff.mp z)) (fun z => ⟨.ref a, H, I, rfl, q1 hx (r2.nil_iff.mp z)⟩) (fun z => ?_) (by rw [← r1.length, ← r2.length]; exact hz)
    refine ⟨.ref s.heap.objs.size, _, I.laid (t' := s.toks) (o := .frz _ (.tup (xs ++ ys))) (fun b ob q => Heap.get?_push_of_some _ q) (Nat.le_refl _) ⟨Heap.get?_push_size _ rfl, ?_⟩, rfl, q2 hx (fun w => z (r2.nil_iff.mpr w)) _ _ rfl (I.hok.fresh (Nat.le_refl _))⟩
    exact ⟨by rw [List.length_append]; exact hz, _, r1.append r2, IsTup.new _ _⟩
def rAddD (K : PySem.W.Frag) : R2 := fun x y H Q => (∃ i j, x = .int i ∧ y = .int j ∧ Q (.int (i + j)) H) ∨ rCatN K x y H Q ∨ rCat x y H Q ∨
  ∃ i j, x = .str i ∧ y = .str j ∧ i.length + j.length ≤ sizeLine ∧ Q (.str (i ++ j)) H
theorem op_addD {X : Cx} : OpR X (binaryOp .Add) (rAddD X.K) := by
  intro pins s σ H x y v u Q I rx ry h
  rcases h with h | h | h | h
  · exact op_add pins s σ H x y v u Q I rx ry h
  · exact op_catN pins s σ H x y v u Q I rx ry h
  · exact op_cat pins s σ H x y v u Q I rx ry h
  · exact op_add_str pins s σ H x y v u Q I rx ry h
/-- a new tuple, a new list of items that are apart -/
theorem rep_newT {P : Addr → Prop} {H : Hp} {n : Nat} {p : Addr} {ob : Obj} {xs : List V} {ds : List D} (o : Ok c P H n) (hd : ob.dict = none) (hp : H p = none) (r : Reps c (Msk P H) xs ds) : Rep c (Msk P (upd H p (.frz ob (.tup xs)))) (.ref p) (.tup ds) :=
  .tup (.inl ⟨ob, hd, msk_some.mpr ⟨o.np hp, upd_same⟩⟩) (r.sub (Sub.msk o.pu (ExU.new hp)))
theorem rep_newP {P : Addr → Prop} {H : Hp} {n : Nat} {p : Addr} {x y : V} {d e : D} (o : Ok c P H n) (hp : H p = none) (r1 : Rep c (Msk P H) x d) (r2 : Rep c (Msk P H) y e) : Rep c (Msk P (upd H p (.tup [x, y]))) (.ref p) (.pr d e) :=
  .pr (.inl (.inl (msk_some.mpr ⟨o.np hp, upd_same⟩))) (r1.sub (Sub.msk o.pu (ExU.new hp))) (r2.sub (Sub.msk o.pu (ExU.new hp)))
theorem rep_newL {P : Addr → Prop} {H : Hp} {n : Nat} {p : Addr} {xs : List V} {ds : List D} (o : Ok c P H n) (hp : H p = none) (r : Reps c (Msk P H) xs ds) : Rep c (Msk P (upd H p (.lst xs))) (.ref p) (.lst ds) :=
  .lst (msk_some.mpr ⟨o.np hp, upd_same⟩) (r.sub (Sub.msk o.pu (ExU.new hp)))
theorem RepX.tupR {P : Addr → Prop} {H : Hp} {v : V} {ds : List D} (h : RepX c P H v (.tup ds)) : Rep c (Msk P H) v (.tup ds) := by
  rcases h with h | ⟨a, xs, es, h1, h2, h3, h4, h5⟩
  · exact h
  · cases h3
theorem rop_add : RopE c (rAddD c.K) addD := by
  intro H P n x y d e R o rx ry ok Q q
  unfold addD at ok
  split at ok
  · obtain rfl := rx.int
    obtain rfl := ry.int
    exact .inl ⟨_, _, rfl, rfl, q _ H _ n ok (ExU.refl _ _) o (.int _)⟩
  · split at ok
    · rename_i a b _ hb
      have hb := of_decide_eq_true hb
      have tx := rx.tupR
      have ty := ry.tupR
      obtain ⟨p, xs, rfl, hx, hxr⟩ := rx.tup
      obtain ⟨p', ys, rfl, hy, hyr⟩ := ry.tup
      have l1 := hxr.length
      have l2 := hyr.length
      refine .inr (.inl ⟨p, p', xs, ys, rfl, rfl, hx.sq, hy.sq, cap_le (by omega), fun e0 => ?_, fun _ e1 => ?_, fun _ _ ob t hob ht => ?_⟩)
      · subst e0
        have : a = [] := by cases a with | nil => rfl | cons _ _ => simp at l1
        subst this
        exact q _ H _ n ok (ExU.refl _ _) o ty
      · subst e1
        have : b = [] := by cases b with | nil => rfl | cons _ _ => simp at l2
        subst this
        rw [List.append_nil] at ok
        exact q _ H _ n ok (ExU.refl _ _) o tx
      · exact q _ _ _ n ok (ExU.new ht) (o.new ht) (rep_newT o hob ht (hxr.append hyr))
    · exact ok.elim
  · split at ok
    · rename_i a b _ hb
      have hb := of_decide_eq_true hb
      obtain ⟨p, xs, rfl, hx, hxr⟩ := rx.lst
      obtain ⟨p', ys, rfl, hy, hyr⟩ := ry.lst
      have l1 := hxr.length
      have l2 := hyr.length
      exact .inr (.inr (.inl ⟨p, p', xs, ys, rfl, rfl, hx, hy, cap_le (by omega), fun t ht => q _ _ _ n ok (ExU.new ht) (o.new ht) (rep_newL o ht (hxr.append hyr))⟩))
    · exact ok.elim
  · split at ok
    · rename_i a b _ hb
      have hb := of_decide_eq_true hb
      obtain rfl := rx.str
      obtain rfl := ry.str
      exact .inr (.inr (.inr ⟨_, _, rfl, rfl, cap_le hb, q _ H _ n ok (ExU.refl _ _) o (.str _)⟩))
    · exact ok.elim
  · exact ok.elim
def subD : D → D → T D
  | .int i, .int j => .ret (.int (i - j))
  | _, _ => .fail
theorem rop_sub : RopE c (rI0 fun i j => .int (i - j)) subD := by
  intro H P n x y d e R o rx ry ok Q q
  unfold subD at ok
  split at ok
  · obtain rfl := rx.int
    obtain rfl := ry.int
    exact ⟨_, _, rfl, rfl, q _ H _ n ok (ExU.refl _ _) o (.int _)⟩
  · exact ok.elim
def small (i : Int) : Bool := decide (i.natAbs < 18446744073709551616)
/-- * : ints (one of them small), a list times an int -/
def mulD : D → D → T D
  | .int i, .int j => match small i || small j with | true => .ret (.int (i * j)) | false => .fail
  | .lst a, .int k => match decide (0 ≤ k ∧ a.length * k.toNat ≤ capD ∧ k < 1000000) with | true => .ret (.lst (List.replicate k.toNat a).flatten) | false => .fail
  | _, _ => .fail
theorem small_ok {i : Int} (h : small i = true) : -(2 ^ 64) < i ∧ i < 2 ^ 64 := by
  have := of_decide_eq_true h
  omega
def rMulD : R2 := fun x y H Q => rI CMul (fun i j => .int (i * j)) x y H Q ∨ rRep x y H Q
theorem op_mulD {X : Cx} : OpR X (binaryOp .Mult) rMulD := by
  intro pins s σ H x y v u Q I rx ry h
  rcases h with h | h
  · exact op_mul pins s σ H x y v u Q I rx ry h
  · exact op_rep pins s σ H x y v u Q I rx ry h
end
end DL
end

section
set_option maxRecDepth 100000
set_option maxHeartbeats 2000000
/-! DLc: more operators, tests, displays, subscripts. -/
namespace DL
open PySem PySem.Spec PyProof.Rows L2
section
variable {c : Ct}
theorem flat_reps {G : Hp} : ∀ {vs : List V} {n : Nat} {a : List V} {ds : List D}, Reps c G a ds → Reps c G (List.replicate n a).flatten (List.replicate n ds).flatten
  | _, 0, _, _, _ => by simp; exact .nil
  | vs, n + 1, a, ds, r => by
    rw [List.replicate_succ, List.replicate_succ, List.flatten_cons, List.flatten_cons]
    exact r.append (flat_reps (vs := vs) r)
theorem rop_mul : RopE c rMulD mulD := by
  intro H P n x y d e R o rx ry ok Q q
  unfold mulD at ok
  split at ok
  · obtain rfl := rx.int
    obtain rfl := ry.int
    split at ok
    · rename_i hb
      refine .inl ⟨_, _, rfl, rfl, ?_, q _ H _ n ok (ExU.refl _ _) o (.int _)⟩
      rcases Bool.or_eq_true_iff.mp hb with h | h
      · exact .inl (small_ok h)
      · exact .inr (small_ok h)
    · exact ok.elim
  · split at ok
    · rename_i a k _ hb
      obtain ⟨h1, h2, h3⟩ := of_decide_eq_true hb
      obtain ⟨p, xs, rfl, hx, hxr⟩ := rx.lst
      obtain rfl := ry.int
      have l1 := hxr.length
      exact .inr ⟨p, k, xs, rfl, rfl, hx, by omega, by omega, cap_le (by rw [l1]; exact h2), fun t ht => q _ _ _ n ok (ExU.new ht) (o.new ht) (rep_newL o ht (flat_reps (vs := []) hxr))⟩
    · exact ok.elim
  · exact ok.elim
/-- //, % by a positive number below 2 ^ 30, by any positive number -/
def fdivD : D → D → T D := iiC (fun _ j => decide (0 < j ∧ j < 1073741824)) fun i j => .int (i / j)
def modD : D → D → T D := iiC (fun _ j => decide (0 < j)) fun i j => .int (i % j)
theorem rop_fdiv : RopE c (rI CDiv fun i j => .int (i / j)) fdivD := rop_I (fun _ _ h => (of_decide_eq_true h : _ ∧ _)) fun _ _ _ => .int _
theorem rop_mod : RopE c (rI (fun _ j => 0 < j) fun i j => .int (i % j)) modD := rop_I (fun _ _ h => (of_decide_eq_true h : (0:Int) < _)) fun _ _ _ => .int _
def negD : D → T D
  | .int i => .ret (.int (-i))
  | _ => .fail
theorem run_neg : RunE c (rU fun i => .int (-i)) negD := by
  intro H P n x d R o rx ok Q q
  unfold negD at ok
  split at ok
  · obtain rfl := rx.int
    exact ⟨_, rfl, q _ H _ n ok (ExU.refl _ _) o (.int _)⟩
  · exact ok.elim
/-! #### comparisons -/
def strLt (x y : Str) : Bool := decide (x.cps.toList < y.cps.toList)
def ltD : D → D → T D := iiD fun i j => .bl (decide (i < j))
def leD : D → D → T D := iiD fun i j => .bl (decide (i ≤ j))
def gtD : D → D → T D := iiD fun i j => .bl (decide (j < i))
def geD : D → D → T D := iiD fun i j => .bl (decide (j ≤ i))
theorem rop_lt : RopE c (rI0 fun i j => .bl (decide (i < j))) ltD := rop_I0 fun _ _ _ => .bl _
theorem rop_le : RopE c (rI0 fun i j => .bl (decide (i ≤ j))) leD := rop_I0 fun _ _ _ => .bl _
theorem rop_gt : RopE c (rI0 fun i j => .bl (decide (j < i))) gtD := rop_I0 fun _ _ _ => .bl _
theorem rop_ge : RopE c (rI0 fun i j => .bl (decide (j ≤ i))) geD := rop_I0 fun _ _ _ => .bl _
/-- ==, != of data -/
def eqB : D → D → T Bool
  | .int i, .int j => .ret (decide (i = j))
  | .str i, .str j => .ret (decide (i = j))
  | .bl i, .bl j => .ret (decide (i = j))
  | x, y => match x.good 60 && y.good 60 with | true => .ret (D.eqv x y) | false => .fail
def eqD (x y : D) : T D := (eqB x y).bind fun b => .ret (.bl b)
def neD (x y : D) : T D := (eqB x y).bind fun b => .ret (.bl (!b))
def rEqA (K : PySem.W.Frag) : R2 := fun x y H Q => rEq x y H Q ∨ rEqD K x y H Q
def rNeA (K : PySem.W.Frag) : R2 := fun x y H Q => rNe x y H Q ∨ rNeD K x y H Q
theorem op_eqA {X : Cx} (hu : X.A.units + 64 < cLine) : OpR X (compareOp .Eq) (rEqA X.K) := by
  intro pins s σ H x y v u Q I rx ry h
  rcases h with h | h
  · exact op_eq pins s σ H x y v u Q I rx ry h
  · exact op_eqD hu pins s σ H x y v u Q I rx ry h
theorem op_neA {X : Cx} (hu : X.A.units + 64 < cLine) : OpR X (compareOp .NotEq) (rNeA X.K) := by
  intro pins s σ H x y v u Q I rx ry h
  rcases h with h | h
  · exact op_ne pins s σ H x y v u Q I rx ry h
  · exact op_neD hu pins s σ H x y v u Q I rx ry h
theorem eqB_sound {P : Addr → Prop} {H : Hp} {x y : V} {d e : D} {n : Nat} {R : Bool → Nat → Prop} (rx : RepX c P H x d) (ry : RepX c P H y e) (ok : (eqB d e).ok n R) :
    ∃ b, R b n ∧ ((scal x y = true ∧ b = decide (x = y)) ∨ ∃ p q, Dp c.K H x p ∧ Dp c.K H y q ∧ SeqAt.shaped p = true ∧ SeqAt.shaped q = true ∧ b = PyData.eqv p q) := by
  unfold eqB at ok
  split at ok
  · obtain rfl := rx.int
    obtain rfl := ry.int
    exact ⟨_, ok, .inl ⟨rfl, by simp⟩⟩
  · obtain rfl := rx.str
    obtain rfl := ry.str
    exact ⟨_, ok, .inl ⟨rfl, by simp⟩⟩
  · obtain rfl := rx.bl
    obtain rfl := ry.bl
    exact ⟨_, ok, .inl ⟨rfl, by simp⟩⟩
  · split at ok
    · rename_i hb
      obtain ⟨h1, h2⟩ := Bool.and_eq_true_iff.mp hb
      exact ⟨_, ok, .inr ⟨_, _, rx.dp h1, ry.dp h2, D.good_shaped h1, D.good_shaped h2, (D.eqv_py 60 60 _ _ h1 h2).symm⟩⟩
    · exact ok.elim
theorem rop_eq : RopE c (rEqA c.K) eqD := by
  intro H P n x y d e R o rx ry ok Q q
  obtain ⟨b, hb, h | ⟨p, p', h1, h2, h3, h4, h5⟩⟩ := eqB_sound rx ry (T.ok_bind.mp ok)
  · exact .inl ⟨h.1, by rw [← h.2]; exact q _ H _ n hb (ExU.refl _ _) o (.bl _)⟩
  · exact .inr ⟨p, p', h1, h2, h3, h4, by rw [← h5]; exact q _ H _ n hb (ExU.refl _ _) o (.bl _)⟩
theorem rop_ne : RopE c (rNeA c.K) neD := by
  intro H P n x y d e R o rx ry ok Q q
  obtain ⟨b, hb, h | ⟨p, p', h1, h2, h3, h4, h5⟩⟩ := eqB_sound rx ry (T.ok_bind.mp ok)
  · exact .inl ⟨h.1, by rw [← h.2]; exact q _ H _ n hb (ExU.refl _ _) o (.bl _)⟩
  · exact .inr ⟨p, p', h1, h2, h3, h4, by rw [← h5]; exact q _ H _ n hb (ExU.refl _ _) o (.bl _)⟩
/-! #### in -/
theorem rep_flat {G : Hp} {v : V} {d : D} (r : Rep c G v d) (h : flatD d = true) : flatV v = true := by
  cases r <;> first | rfl | cases h
theorem flat_rep {G G' : Hp} {v : V} {d : D} (r : Rep c G v d) (h : flatD d = true) : Rep c G' v d := by
  cases r <;> first | exact .non | exact .bl _ | exact .int _ | exact .str _ | cases h
theorem eqV_eqv {G : Hp} {v w : V} {d e : D} (r : Rep c G v d) (s : Rep c G w e) (h : flatD d = true) (h' : flatD e = true) : eqV v w = D.eqv d e := by
  cases r <;> cases s <;> first | (simp [eqV, D.eqv]; done) | cases h | cases h'
theorem reps_flat {G : Hp} : ∀ {vs : List V} {ds : List D}, Reps c G vs ds → ds.all flatD = true → vs.all flatV = true
  | _, _, .nil, _ => rfl
  | _, _, .cons h r, g => by
    rw [List.all_cons, Bool.and_eq_true] at g ⊢
    exact ⟨rep_flat h g.1, reps_flat r g.2⟩
theorem inV_any {G : Hp} {v : V} {d : D} (s : Rep c G v d) (h' : flatD d = true) : ∀ {vs : List V} {ds : List D}, Reps c G vs ds → ds.all flatD = true → inV v vs = ds.any fun y => D.eqv y d
  | _, _, .nil, _ => rfl
  | _, _, .cons h r, g => by
    rw [List.all_cons, Bool.and_eq_true] at g
    show (eqV _ _ || inV _ _) = _
    rw [List.any_cons, eqV_eqv h s g.1 h', inV_any s h' r g.2]
def inB (x y : D) : T Bool := match seqD y with
  | some ds => (match flatD x && ds.all flatD with | true => .ret (ds.any fun z => D.eqv z x) | false => .fail)
  | none => .fail
def inD (x y : D) : T D := (inB x y).bind fun b => .ret (.bl b)
def ninD (x y : D) : T D := (inB x y).bind fun b => .ret (.bl (!b))
theorem RepX.flat {P : Addr → Prop} {H : Hp} {v : V} {d : D} (h : RepX c P H v d) (g : flatD d = true) : Rep c (Msk P H) v d := by
  rcases h with h | ⟨a, xs, ds, h1, h2, h3, h4, h5⟩
  · exact h
  · subst h3; cases g
theorem rop_in : RopE c (rIn c.K false) inD := by
  intro H P n x y d e R o rx ry ok Q q
  unfold inD inB at ok
  split at ok
  · rename_i ds hs
    split at ok
    · rename_i hb
      obtain ⟨h1, h2⟩ := Bool.and_eq_true_iff.mp hb
      obtain ⟨a, xs, rfl, hx, hr⟩ := ry.seq hs
      have fx := rx.flat h1
      exact ⟨a, xs, rfl, hx, rep_flat fx h1, reps_flat hr h2, q _ H _ n ok (ExU.refl _ _) o (by rw [if_neg Bool.false_ne_true, inV_any fx h1 hr h2]; exact .bl _)⟩
    · exact ok.elim
  · exact ok.elim
theorem rop_nin : RopE c (rIn c.K true) ninD := by
  intro H P n x y d e R o rx ry ok Q q
  unfold ninD inB at ok
  split at ok
  · rename_i ds hs
    split at ok
    · rename_i hb
      obtain ⟨h1, h2⟩ := Bool.and_eq_true_iff.mp hb
      obtain ⟨a, xs, rfl, hx, hr⟩ := ry.seq hs
      have fx := rx.flat h1
      exact ⟨a, xs, rfl, hx, rep_flat fx h1, reps_flat hr h2, q _ H _ n ok (ExU.refl _ _) o (by rw [if_pos rfl, inV_any fx h1 hr h2]; exact .bl _)⟩
    · exact ok.elim
  · exact ok.elim
/-! #### is None -/
def isNonD : D → Bool
  | .non => true
  | _ => false
theorem RepX.isNon {P : Addr → Prop} {H : Hp} {v : V} {d : D} (h : RepX c P H v d) : decide (v = .non) = isNonD d := by
  rcases h with h | ⟨a, xs, ds, h1, h2, h3, h4, h5⟩
  · cases h <;> simp [isNonD]
  · subst h1 h3; simp [isNonD]
def fIsN (a : Env → T D) : Env → T D := fun ρ => (a ρ).bind fun x => .ret (.bl (isNonD x))
def fNotN (a : Env → T D) : Env → T D := fun ρ => (a ρ).bind fun x => .ret (.bl (!isNonD x))
theorem ev_isN {ta : TE} {F : Env → T D} (ha : EvX c ta F) : EvE c (tIsN ta) (fIsN F) := fun σ H P ρ n R o er ok Q q =>
  ha σ H P ρ n _ o er (T.ok_bind.mp ok) _ fun x H1 d n1 ok1 e1 o1 rx => q _ H1 _ n1 ok1 e1 o1 (by rw [rx.isNon]; exact .bl _)
theorem ev_notN {ta : TE} {F : Env → T D} (ha : EvX c ta F) : EvE c (tNotN ta) (fNotN F) := fun σ H P ρ n R o er ok Q q =>
  ha σ H P ρ n _ o er (T.ok_bind.mp ok) _ fun x H1 d n1 ok1 e1 o1 rx => q _ H1 _ n1 ok1 e1 o1 (by rw [rx.isNon]; exact .bl _)

/-! #### bools as values -/
def blD : D → T Bool
  | .bl b => .ret b
  | _ => .fail
def fAndV (a b : Env → T D) : Env → T D := fun ρ => ((a ρ).bind blD).bind fun k => match k with | true => b ρ | false => .ret (.bl false)
def fOrV (a b : Env → T D) : Env → T D := fun ρ => ((a ρ).bind blD).bind fun k => match k with | true => .ret (.bl true) | false => b ρ
def fNotV (a : Env → T D) : Env → T D := fun ρ => ((a ρ).bind blD).bind fun k => .ret (.bl (!k))
theorem blD_sound {P : Addr → Prop} {H : Hp} {v : V} {d : D} {n : Nat} {R : Bool → Nat → Prop} (h : RepX c P H v d) (ok : (blD d).ok n R) : ∃ b, v = .bl b ∧ R b n := by
  unfold blD at ok
  split at ok
  · exact ⟨_, h.bl, ok⟩
  · exact ok.elim
theorem ev_andV {ta tb : TE} {F G : Env → T D} (ha : EvX c ta F) (hb : EvE c tb G) : EvE c (tAndV ta tb) (fAndV F G) := fun σ H P ρ n R o er ok Q q =>
  ha σ H P ρ n _ o er (T.ok_bind.mp (T.ok_bind.mp ok)) _ fun x H1 d n1 ok1 e1 o1 rx => by
    obtain ⟨b, rfl, ok2⟩ := blD_sound rx ok1
    refine ⟨b, rfl, ?_⟩
    cases b with
    | true =>
      rw [if_pos rfl]
      exact hb σ H1 P ρ n1 _ o1 (er.exu o.pu e1) ok2 _ fun v H2 d' n2 r e2 o2 rp => q v H2 d' n2 r (e1.trans e2) o2 rp
    | false =>
      rw [if_neg Bool.false_ne_true]
      exact q _ H1 _ n1 ok2 e1 o1 (.bl _)
theorem ev_orV {ta tb : TE} {F G : Env → T D} (ha : EvX c ta F) (hb : EvE c tb G) : EvE c (tOrV ta tb) (fOrV F G) := fun σ H P ρ n R o er ok Q q =>
  ha σ H P ρ n _ o er (T.ok_bind.mp (T.ok_bind.mp ok)) _ fun x H1 d n1 ok1 e1 o1 rx => by
    obtain ⟨b, rfl, ok2⟩ := blD_sound rx ok1
    refine ⟨b, rfl, ?_⟩
    cases b with
    | false =>
      rw [if_neg Bool.false_ne_true]
      exact hb σ H1 P ρ n1 _ o1 (er.exu o.pu e1) ok2 _ fun v H2 d' n2 r e2 o2 rp => q v H2 d' n2 r (e1.trans e2) o2 rp
    | true =>
      rw [if_pos rfl]
      exact q _ H1 _ n1 ok2 e1 o1 (.bl _)
theorem ev_notV {ta : TE} {F : Env → T D} (ha : EvX c ta F) : EvE c (tNotV ta) (fNotV F) := fun σ H P ρ n R o er ok Q q =>
  ha σ H P ρ n _ o er (T.ok_bind.mp (T.ok_bind.mp ok)) _ fun x H1 d n1 ok1 e1 o1 rx => by
    obtain ⟨b, rfl, ok2⟩ := blD_sound rx ok1
    exact ⟨b, rfl, q _ H1 _ n1 ok2 e1 o1 (.bl _)⟩

/-! #### tests -/
def fTest (a : Env → T D) : Env → T Bool := fun ρ => (a ρ).bind blD
def fAnd (a b : Env → T Bool) : Env → T Bool := fun ρ => (a ρ).bind fun k => match k with | true => b ρ | false => .ret false
def fOr (a b : Env → T Bool) : Env → T Bool := fun ρ => (a ρ).bind fun k => match k with | true => .ret true | false => b ρ
def fNot (a : Env → T Bool) : Env → T Bool := fun ρ => (a ρ).bind fun k => .ret (!k)
def fYes : Env → T Bool := fun _ => .ret true
theorem et_test {ta : TE} {F : Env → T D} (ha : EvX c ta F) : EvT c (tTest ta) (fTest F) := fun σ H P ρ n R o er ok Q q =>
  ha σ H P ρ n _ o er (T.ok_bind.mp ok) _ fun x H1 d n1 ok1 e1 o1 rx => by
    obtain ⟨b, rfl, ok2⟩ := blD_sound rx ok1
    exact ⟨b, rfl, q b H1 n1 ok2 e1 o1⟩
theorem et_B {ta : TE} {F : Env → T D} (ha : EvX c ta F) : EvT c (tB ta) (fTest F) := fun σ H P ρ n R o er ok Q q =>
  ha σ H P ρ n _ o er (T.ok_bind.mp ok) _ fun x H1 d n1 ok1 e1 o1 rx => by
    obtain ⟨b, rfl, ok2⟩ := blD_sound rx ok1
    exact ⟨b, rfl, q b H1 n1 ok2 e1 o1⟩
theorem et_and {t u : TT} {F G : Env → T Bool} (ha : EvT c t F) (hb : EvT c u G) : EvT c (tAnd t u) (fAnd F G) := fun σ H P ρ n R o er ok Q q =>
  ha σ H P ρ n _ o er (T.ok_bind.mp ok) _ fun b H1 n1 ok1 e1 o1 => by
    cases b with
    | true =>
      rw [if_pos rfl]
      exact hb σ H1 P ρ n1 _ o1 (er.exu o.pu e1) ok1 _ fun v H2 n2 r e2 o2 => q v H2 n2 r (e1.trans e2) o2
    | false =>
      rw [if_neg Bool.false_ne_true]
      exact q _ H1 n1 ok1 e1 o1
theorem et_or {t u : TT} {F G : Env → T Bool} (ha : EvT c t F) (hb : EvT c u G) : EvT c (tOr t u) (fOr F G) := fun σ H P ρ n R o er ok Q q =>
  ha σ H P ρ n _ o er (T.ok_bind.mp ok) _ fun b H1 n1 ok1 e1 o1 => by
    cases b with
    | false =>
      rw [if_neg Bool.false_ne_true]
      exact hb σ H1 P ρ n1 _ o1 (er.exu o.pu e1) ok1 _ fun v H2 n2 r e2 o2 => q v H2 n2 r (e1.trans e2) o2
    | true =>
      rw [if_pos rfl]
      exact q _ H1 n1 ok1 e1 o1
theorem et_not {t : TT} {F : Env → T Bool} (ha : EvT c t F) : EvT c (tNot t) (fNot F) := fun σ H P ρ n R o er ok Q q =>
  ha σ H P ρ n _ o er (T.ok_bind.mp ok) _ fun b H1 n1 ok1 e1 o1 => q _ H1 n1 ok1 e1 o1
theorem et_yes : EvT c tYes fYes := fun σ H P ρ n R o er ok Q q => q true H n ok (ExU.refl _ _) o
def fIf (t : Env → T Bool) (a b : Env → T D) : Env → T D := fun ρ => (t ρ).bind fun k => match k with | true => a ρ | false => b ρ
theorem ev_if {t : TT} {ta tb : TE} {Ft : Env → T Bool} {F G : Env → T D} (ht : EvT c t Ft) (ha : EvE c ta F) (hb : EvE c tb G) : EvE c (tIf t ta tb) (fIf Ft F G) := fun σ H P ρ n R o er ok Q q =>
  ht σ H P ρ n _ o er (T.ok_bind.mp ok) _ fun b H1 n1 ok1 e1 o1 => by
    cases b with
    | true =>
      rw [if_pos rfl]
      exact ha σ H1 P ρ n1 _ o1 (er.exu o.pu e1) ok1 _ fun v H2 d n2 r e2 o2 => q v H2 d n2 r (e1.trans e2) o2
    | false =>
      rw [if_neg Bool.false_ne_true]
      exact hb σ H1 P ρ n1 _ o1 (er.exu o.pu e1) ok1 _ fun v H2 d n2 r e2 o2 => q v H2 d n2 r (e1.trans e2) o2
/-- a < b < c -/
def fChain (f g : D → D → T D) (a b e : Env → T D) : Env → T D := fun ρ => (a ρ).bind fun x => (b ρ).bind fun y => ((f x y).bind blD).bind fun k => match k with | true => (e ρ).bind fun z => g y z | false => .ret (.bl false)
/-- what is the same at any heap (ints, bools, texts) stays -/
theorem ev_chain {r r' : R2} {f g : D → D → T D} {ta tb tc : TE} {F G E : Env → T D} (hr : RopE c r f) (hr' : RopE c r' g) (ha : EvX c ta F) (hb : EvX c tb G) (hc : EvX c tc E) :
    EvE c (tChain r r' ta tb tc) (fChain f g F G E) := fun σ H P ρ n R o er ok Q q =>
  ha σ H P ρ n _ o er (T.ok_bind.mp ok) _ fun x H1 d n1 ok1 e1 o1 rx => hb σ H1 P ρ n1 _ o1 (er.exu o.pu e1) (T.ok_bind.mp ok1) _ fun y H2 e n2 ok2 e2 o2 ry =>
    hr H2 P n2 x y d e _ o2 (rx.exu o.pu e2) ry (T.ok_bind.mp (T.ok_bind.mp ok2)) _ fun z H3 d' n3 ok3 e3 o3 rz => by
      obtain ⟨b, rfl, ok4⟩ := blD_sound (.inl rz) ok3
      refine ⟨b, rfl, ?_⟩
      cases b with
      | true =>
        rw [if_pos rfl]
        exact hc σ H3 P ρ n3 _ o3 (er.exu o.pu (e1.trans (e2.trans e3))) (T.ok_bind.mp ok4) _ fun w H4 d4 n4 ok5 e4 o4 rw' =>
          hr' H4 P n4 y w e d4 R o4 (ry.exu o.pu (e3.trans e4)) rw' ok5 Q fun v H5 d5 n5 r e5 o5 rp => q v H5 d5 n5 r (e1.trans (e2.trans (e3.trans (e4.trans e5)))) o5 rp
      | false =>
        rw [if_neg Bool.false_ne_true]
        exact q _ H3 _ n3 ok4 (e1.trans (e2.trans e3)) o3 (.bl _)

/-! #### arguments, displays -/
def aNil : Env → T (List D) := fun _ => .ret []
def aCons (a : Env → T D) (r : Env → T (List D)) : Env → T (List D) := fun ρ => (a ρ).bind fun x => (r ρ).bind fun xs => .ret (x :: xs)
def aStar (a : Env → T D) (r : Env → T (List D)) : Env → T (List D) := fun ρ => (a ρ).bind fun x => match seqD x with | some ys => (r ρ).bind fun xs => .ret (ys ++ xs) | none => .fail
theorem ea_nil : EvA c tNil aNil := fun σ H P ρ n R o er ok Q q => q [] H [] n ok (ExU.refl _ _) o .nil
theorem ea_cons {te : TE} {ta : TA} {F : Env → T D} {G : Env → T (List D)} (h : EvE c te F) (hr : EvA c ta G) : EvA c (tCons te ta) (aCons F G) := fun σ H P ρ n R o er ok Q q =>
  h σ H P ρ n _ o er (T.ok_bind.mp ok) _ fun x H1 d n1 ok1 e1 o1 rx => hr σ H1 P ρ n1 _ o1 (er.exu o.pu e1) (T.ok_bind.mp ok1) _ fun xs H2 ds n2 ok2 e2 o2 rs =>
    q _ H2 _ n2 ok2 (e1.trans e2) o2 (.cons (rx.sub (Sub.msk o.pu e2)) rs)
theorem ea_star {te : TE} {ta : TA} {F : Env → T D} {G : Env → T (List D)} (h : EvX c te F) (hr : EvA c ta G) : EvA c (StX.tStar c.K te ta) (aStar F G) := fun σ H P ρ n R o er ok Q q =>
  h σ H P ρ n _ o er (T.ok_bind.mp ok) _ fun x H1 d n1 ok1 e1 o1 rx => by
    split at ok1
    · rename_i ys hs
      obtain ⟨a, xs, rfl, hx, hxr⟩ := rx.seq hs
      exact ⟨a, xs, rfl, hx.symm, hr σ H1 P ρ n1 _ o1 (er.exu o.pu e1) (T.ok_bind.mp ok1) _ fun zs H2 ds n2 ok2 e2 o2 rs =>
        q _ H2 _ n2 ok2 (e1.trans e2) o2 ((hxr.sub (Sub.msk o.pu e2)).append rs)⟩
    · exact ok1.elim
/-- a tuple display: the new tuple has no dict -/
def tTupN (t : TA) : TE := fun σ H Q => t σ H fun xs H1 => xs.length ≤ sizeLine ∧ ∀ (ob : Obj) (p : Addr), ob.dict = none → H1 p = none → Q (.ref p) (upd H1 p (.frz ob (.tup xs)))
theorem pe_tupN {X : Cx} {es : List Expr} {x1} {pos : Pos} {t : TA} (h : PA X es t) : PE X (.Tuple es x1 pos) (tTupN t) := by
  refine ⟨fun pins s σ H Q I hq => ?_⟩
  refine wpAny_Tuple_spliced (thn (h.run pos pins s σ H _ I hq) fun us s1 ⟨xs, H1, I1, r, z, q⟩ => ⟨by rw [← r.length]; exact z, ?_⟩)
  have hf : H1 s1.heap.objs.size = none := I1.hok.fresh (Nat.le_refl _)
  refine ⟨.ref s1.heap.objs.size, _, I1.laid (t' := s1.toks) (o := .frz _ (.tup xs)) (fun b u e => Heap.get?_push_of_some _ e) (Nat.le_refl _) ⟨Heap.get?_push_size _ rfl, ?_⟩, rfl, q _ _ rfl hf⟩
  exact ⟨z, us, r, ⟨_, Heap.get?_push_size _ rfl, rfl, _, rfl⟩⟩
def fTup (a : Env → T (List D)) : Env → T D := fun ρ => (a ρ).bind fun xs => match decide (xs.length ≤ capD) with | true => .ret (.tup xs) | false => .fail
def fLst (a : Env → T (List D)) : Env → T (List D) := fun ρ => (a ρ).bind fun xs => match decide (xs.length ≤ capD) with | true => .ret xs | false => .fail
def fOfL (a : Env → T (List D)) : Env → T D := fun ρ => (a ρ).bind fun ds => .ret (.lst ds)
theorem ev_tup {ta : TA} {F : Env → T (List D)} (h : EvA c ta F) : EvE c (tTupN ta) (fTup F) := fun σ H P ρ n R o er ok Q q =>
  h σ H P ρ n _ o er (T.ok_bind.mp ok) _ fun xs H1 ds n1 ok1 e1 o1 rs => by
    split at ok1
    · rename_i hb
      have hl := of_decide_eq_true hb
      have l1 := rs.length
      exact ⟨cap_le (by omega), fun ob p hob hp => q _ _ _ n1 ok1 (e1.trans (ExU.new hp)) (o1.new hp) (rep_newT o1 hob hp rs)⟩
    · exact ok1.elim
theorem el_lst {ta : TA} {F : Env → T (List D)} (h : EvA c ta F) : EvL c (tLst ta) (fLst F) := fun σ H P ρ n R o er ok Q q =>
  h σ H P ρ n _ o er (T.ok_bind.mp ok) _ fun xs H1 ds n1 ok1 e1 o1 rs => by
    split at ok1
    · rename_i hb
      have hl := of_decide_eq_true hb
      have l1 := rs.length
      refine ⟨cap_le (by omega), fun p hp => q p xs _ ds n1 ok1 (e1.trans (ExU.new hp)) (o1.new hp) (e1.free (o1.nu hp) hp) upd_same (rs.sub ?_)⟩
      intro a w ha
      obtain ⟨h1, h2⟩ := msk_some.mp ha
      have na : a ≠ p := ne_of_none h2 hp
      exact msk_some.mpr ⟨fun z => z.elim h1 na, by rw [upd_ne na]; exact h2⟩
    · exact ok1.elim
theorem ev_lst {te : TE} {F : Env → T (List D)} (h : EvL c te F) : EvE c te (fOfL F) := h.e

/-! #### subscripts -/
/-- the item at i of a list, a tuple, a text -/
def ixD (x i : D) : T D := match i with
  | .int i => (match x with
    | .lst ds => (match atI ds i with | some d => .ret d | none => .fail)
    | .tup ds => (match atI ds i with | some d => .ret d | none => .fail)
    | .str z => (match decide (z.length ≤ capD) with | true => (match atI z.cps.toList i with | some k => .ret (.str ⟨#[k]⟩) | none => .fail) | false => .fail)
    | _ => .fail)
  | _ => .fail
theorem Reps.at {G : Hp} {vs : List V} {ds : List D} {i : Int} {d : D} (r : Reps c G vs ds) (h : atI ds i = some d) : ∃ v, atI vs i = some v ∧ Rep c G v d := by
  unfold atI at h ⊢
  rw [r.length]
  cases e : ixN ds.length i with
  | none => rw [e] at h; cases h
  | some j =>
    rw [e] at h
    exact r.get h
theorem rop_ix : RopE c (rIx c.K) ixD := by
  intro H P n x y d e R o rx ry ok Q q
  unfold ixD at ok
  split at ok
  · obtain rfl := ry.int
    split at ok
    · split at ok
      · rename_i hd
        obtain ⟨a, xs, rfl, hx, hr⟩ := rx.lst
        obtain ⟨v, h1, h2⟩ := hr.at hd
        exact .inl ⟨a, xs, _, v, rfl, rfl, .of hx, h1, q _ H _ n ok (ExU.refl _ _) o h2⟩
      · exact ok.elim
    · split at ok
      · rename_i hd
        obtain ⟨a, xs, rfl, hx, hr⟩ := rx.tup
        obtain ⟨v, h1, h2⟩ := hr.at hd
        exact .inr (.inl ⟨a, xs, _, v, rfl, rfl, hx.sq, h1, q _ H _ n ok (ExU.refl _ _) o h2⟩)
      · exact ok.elim
    · split at ok
      · rename_i hl
        split at ok
        · rename_i hd
          obtain rfl := rx.str
          exact .inr (.inr ⟨_, _, _, rfl, rfl, cap_le (of_decide_eq_true hl), hd, q _ H _ n ok (ExU.refl _ _) o (.str _)⟩)
        · exact ok.elim
      · exact ok.elim
    · exact ok.elim
  · exact ok.elim
/-- x[lo:hi] -/
def cutD (xs : List D) (lo hi : Option Int) : List D := (xs.drop (HT.sIx xs.length 0 lo)).take (HT.sIx xs.length xs.length hi - HT.sIx xs.length 0 lo)
theorem Reps.cut {G : Hp} {vs : List V} {ds : List D} (r : Reps c G vs ds) (lo hi : Option Int) : Reps c G (cutV vs lo hi) (cutD ds lo hi) := by
  unfold cutV cutD
  rw [r.length]
  exact (r.drop _).take _
def slD (x : D) (lo hi : Option Int) : T D := match x with
  | .lst ds => .ret (.lst (cutD ds lo hi))
  | .tup ds => .ret (.tup (cutD ds lo hi))
  | _ => .fail
/-- t[lo:hi]: a new tuple without a dict, or t itself -/
def rSlN (K : PySem.W.Frag) : V → Option Int → Option Int → Hp → VK → Prop := fun x lo hi H Q => ∃ a xs, x = .ref a ∧ SqT K H a xs ∧
  (HT.sIx xs.length 0 lo = 0 ∧ HT.sIx xs.length xs.length hi = xs.length → Q (.ref a) H) ∧
  (¬ (HT.sIx xs.length 0 lo = 0 ∧ HT.sIx xs.length xs.length hi = xs.length) → ∀ (ob : Obj) (p : Addr), ob.dict = none → H p = none → Q (.ref p) (upd H p (.frz ob (.tup (cutV xs lo hi)))))
theorem sl_tupN {X : Cx} : L2.SlR X (rSlN X.K) := by
  intro pins s σ H x v vl vu lo hi sl Q I rx hs pl pu h
  obtain ⟨a, xs, rfl, hx, q1, q2⟩ := h
  cases rx
  obtain ⟨its, r, ht, hz⟩ := I.tuple hx
  have hlen : its.toArray.size = xs.length := by rw [List.size_toArray]; exact r.length.symm
  refine ⟨"tuple", _, PyProof.Rows.slot_tuple_getitem.lookup, ht.typeIs, ?_⟩
  by_cases hw : HT.sIx xs.length 0 lo = 0 ∧ HT.sIx xs.length xs.length hi = xs.length
  · exact getItem_tuple_whole ht hs pl pu (by rw [hlen]; exact hw) ⟨.ref a, H, I, rfl, q1 hw⟩
  · refine HT.getItem_tuple_cut ht hs pl pu (by rw [hlen]; exact hw) ?_ (by rw [hlen]; exact hz)
    rw [hlen]
    refine ⟨.ref s.heap.objs.size, _, I.laid (t' := s.toks) (o := .frz _ (.tup (cutV xs lo hi))) (fun b ob q => Heap.get?_push_of_some _ q) (Nat.le_refl _) ⟨Heap.get?_push_size _ rfl, ?_⟩, rfl, q2 hw _ _ rfl (I.hok.fresh (Nat.le_refl _))⟩
    exact ⟨Nat.le_trans (cutV_length xs lo hi) hz, _, (r.drop (HT.sIx xs.length 0 lo)).take (HT.sIx xs.length xs.length hi - HT.sIx xs.length 0 lo), IsTup.new _ _⟩
def rSlD (K : PySem.W.Frag) : V → Option Int → Option Int → Hp → VK → Prop := fun x lo hi H Q => rSlL K x lo hi H Q ∨ rSlN K x lo hi H Q
theorem sl_D {X : Cx} : L2.SlR X (rSlD X.K) := sl_list.or sl_tupN
/-- a part of a slice -/
def EvO (c : Ct) (to : TO) (F : Env → T (Option Int)) : Prop := ∀ (σ : L2.St) (H : Hp) (P : Addr → Prop) (ρ : Env) (n : Nat) (R : Option Int → Nat → Prop), Ok c P H n → EnvR c P H σ ρ → (F ρ).ok n R →
  ∀ Q : Option Int → Hp → Prop, (∀ b H' n', R b n' → ExU c.u H H' → Ok c P H' n' → Q b H') → to σ H Q
def oNo : Env → T (Option Int) := fun _ => .ret none
def intD : D → T Int
  | .int i => .ret i
  | _ => .fail
def oSome (a : Env → T D) : Env → T (Option Int) := fun ρ => ((a ρ).bind intD).bind fun i => .ret (some i)
theorem eo_no : EvO c tNoPart oNo := fun σ H P ρ n R o er ok Q q => q none H n ok (ExU.refl _ _) o
theorem eo_some {te : TE} {F : Env → T D} (h : EvX c te F) : EvO c (tPart te) (oSome F) := fun σ H P ρ n R o er ok Q q =>
  h σ H P ρ n _ o er (T.ok_bind.mp (T.ok_bind.mp ok)) _ fun x H1 d n1 ok1 e1 o1 rx => by
    unfold intD at ok1
    split at ok1
    · exact ⟨_, rx.int, q _ H1 n1 ok1 e1 o1⟩
    · exact ok1.elim
def fSl (a : Env → T D) (lo hi : Env → T (Option Int)) : Env → T D := fun ρ => (a ρ).bind fun x => (lo ρ).bind fun l => (hi ρ).bind fun h => slD x l h
theorem ev_sl {te : TE} {tl th : TO} {F : Env → T D} {L U : Env → T (Option Int)} (h : EvX c te F) (hl : EvO c tl L) (hh : EvO c th U) : EvE c (L2.tSl (rSlD c.K) te tl th) (fSl F L U) := fun σ H P ρ n R o er ok Q q =>
  h σ H P ρ n _ o er (T.ok_bind.mp ok) _ fun x H1 d n1 ok1 e1 o1 rx => hl σ H1 P ρ n1 _ o1 (er.exu o.pu e1) (T.ok_bind.mp ok1) _ fun l H2 n2 ok2 e2 o2 =>
    hh σ H2 P ρ n2 _ o2 (er.exu o.pu (e1.trans e2)) (T.ok_bind.mp ok2) _ fun u H3 n3 ok3 e3 o3 => by
      have rx3 := rx.exu o.pu (e2.trans e3)
      have ee := e1.trans (e2.trans e3)
      unfold slD at ok3
      split at ok3
      · obtain ⟨a, xs, rfl, hx, hr⟩ := rx3.lst
        exact .inl ⟨a, xs, rfl, .of hx, fun p hp => q _ _ _ n3 ok3 (ee.trans (ExU.new hp)) (o3.new hp) (rep_newL o3 hp (hr.cut l u))⟩
      · rename_i ds0
        have ty := rx3.tupR
        obtain ⟨a, xs, rfl, hx, hr⟩ := rx3.tup
        refine .inr ⟨a, xs, rfl, hx.sq, fun hw => ?_, fun hw ob p hob hp => q _ _ _ n3 ok3 (ee.trans (ExU.new hp)) (o3.new hp) (rep_newT o3 hob hp (hr.cut l u))⟩
        have hl := hr.length
        have e : cutD ds0 l u = ds0 := by
          unfold cutD
          rw [← hl, hw.1, hw.2]
          rw [List.drop_zero, Nat.sub_zero, hl]
          exact List.take_length
        rw [e] at ok3
        exact q _ H3 _ n3 ok3 ee o3 ty
      · exact ok3.elim
end
end DL
end

section
set_option maxRecDepth 100000
set_option maxHeartbeats 2000000
/-! DLd: what is walked; comprehensions. -/
namespace DL
open PySem PySem.Spec PyProof.Rows L2 DR
/-- an iterator gives these, as long as Kp holds of the heap; H0: the heap where it began -/
structure Yl (c : Ct) (P : Addr → Prop) (J : It) (H0 : Hp) (ds : List D) (Kp : Hp → Prop) : Prop where
  go : ∀ i H, Kp H → i < ds.length → J.go i H
  stop : ∀ H, Kp H → J.stop ds.length H
  yl : ∀ i H v H' d, Kp H → ds[i]? = some d → J.yld i H v H' →
    (H' = H ∧ Rep c (Msk P H0) v d) ∨ ∃ T x y d1 d2, v = .ref T ∧ H T = none ∧ H' = upd H T (.tup [x, y]) ∧ d = .pr d1 d2 ∧ Rep c (Msk P H0) x d1 ∧ Rep c (Msk P H0) y d2
/-- the source is apart from P; it may be a list of the frame's own -/
def EvI (c : Ct) (wi : TI) (F : Env → T (List D)) : Prop := ∀ (σ : L2.St) (H : Hp) (P : Addr → Prop) (ρ : Env) (n : Nat) (R : List D → Nat → Prop), Ok c P H n → EnvR c P H σ ρ → (F ρ).ok n R →
  ∀ Rk : It → Hp → Prop, (∀ J H' ds n', R ds n' → ExU c.u H H' → Ok c P H' n' → Yl c P J H' ds (fun G => Sub (Msk P H') G) → Rk J H') → wi σ H Rk
def EvIX (c : Ct) (wi : TI) (F : Env → T (List D)) : Prop := ∀ (σ : L2.St) (H : Hp) (P : Addr → Prop) (ρ : Env) (n : Nat) (R : List D → Nat → Prop), Ok c P H n → EnvR c P H σ ρ → (F ρ).ok n R →
  ∀ Rk : It → Hp → Prop, (∀ J H' ds n', R ds n' → ExU c.u H H' → Ok c P H' n' → Yl c P J H' ds (fun G => ExU c.u H' G) → Rk J H') → wi σ H Rk
section
variable {c : Ct} {P : Addr → Prop} {H H' : Hp}
theorem Yl.weak {J : It} {ds : List D} {Kp Kp' : Hp → Prop} (y : Yl c P J H ds Kp) (h : ∀ G, Kp' G → Kp G) : Yl c P J H ds Kp' :=
  ⟨fun i G k => y.go i G (h G k), fun G k => y.stop G (h G k), fun i G v G' d k => y.yl i G v G' d (h G k)⟩
theorem EvI.x {wi : TI} {F : Env → T (List D)} (h : EvI c wi F) : EvIX c wi F := fun σ H P ρ n R o er ok Rk q =>
  h σ H P ρ n R o er ok Rk fun J H' ds n' r e o' y => q J H' ds n' r e o' (y.weak fun G g => Sub.trans (Sub.msk o.pu g) Sub.of_msk)

/-! ### sources -/
def seqT (d : D) : T (List D) := match seqD d with
  | some ds => .ret ds
  | none => .fail
def iSeq (a : Env → T D) : Env → T (List D) := fun ρ => (a ρ).bind seqT
theorem seqT_ok {d : D} {n : Nat} {R : List D → Nat → Prop} (h : (seqT d).ok n R) : ∃ ds, seqD d = some ds ∧ R ds n := by
  unfold seqT at h
  split at h
  · rename_i ds e
    exact ⟨ds, e, h⟩
  · exact h.elim
/-- where a sequence stands: in the part apart, or as a list of the frame's own -/
def SrcK (K : PySem.W.Frag) (k : Bool) (P : Addr → Prop) (H : Hp) (a : Addr) (xs : List V) : Prop := SqK K k (Msk P H) a xs
theorem _root_.DR.SqK.sub {K : PySem.W.Frag} {k : Bool} {G G' : Hp} {a : Addr} {xs : List V} (e : Sub G G') (h : SqK K k G a xs) : SqK K k G' a xs := by
  cases k
  · exact sub_l e h
  · exact sub_t e h
theorem Rep.seqK {v : V} {d : D} {ds : List D} (h : Rep c (Msk P H) v d) (e : seqD d = some ds) : ∃ k a xs, v = .ref a ∧ SqK c.K k (Msk P H) a xs ∧ Reps c (Msk P H) xs ds := by
  cases d with
  | lst es =>
    cases e
    cases h with
    | lst h r => exact ⟨false, _, _, rfl, SqL.of h, r⟩
  | tup es =>
    cases e
    cases h with
    | tup h r => exact ⟨true, _, _, rfl, h.sq, r⟩
  | _ => cases e
theorem RepX.seqK {v : V} {d : D} {ds : List D} (h : RepX c P H v d) (e : seqD d = some ds) : ∃ k a xs, v = .ref a ∧ (∀ G, ExU c.u H G → P c.u → SqK c.K k G a xs) ∧ Reps c (Msk P H) xs ds := by
  rcases h with h | ⟨a, xs, es, h1, h2, h3, h4, h5⟩
  · obtain ⟨k, a, xs, h1, h2, h3⟩ := h.seqK e
    exact ⟨k, a, xs, h1, fun G g hu => h2.sub (Sub.trans (Sub.msk hu g) Sub.of_msk), h3⟩
  · subst h3
    cases e
    exact ⟨false, a, xs, h1, fun G g _ => SqL.of (g _ _ h2 h4), h5⟩

theorem yl_sq {k : Bool} {a : Addr} {xs : List V} {ds : List D} {Kp : Hp → Prop} (hk : ∀ G, Kp G → SqK c.K k G a xs) (r : Reps c (Msk P H) xs ds) : Yl c P (ItS c.K k a) H ds Kp := by
  have l := r.length
  refine ⟨fun i G g hi => ?_, fun G g => ?_, fun i G v G' d g hd y => ?_⟩
  · have hs := hk G g
    cases k
    · exact ⟨xs, xs[i]'(by omega), hs, by simp [show i < xs.length by omega]⟩
    · exact ⟨xs, xs[i]'(by omega), hs, by simp [show i < xs.length by omega]⟩
  · have hs := hk G g
    cases k
    · exact ⟨xs, hs, Nat.le_of_eq l⟩
    · exact ⟨xs, hs, Nat.le_of_eq l⟩
  · have hs := hk G g
    obtain ⟨w, hw, rw'⟩ := r.get hd
    cases k
    · obtain ⟨rfl, y2⟩ := y
      have := y2 xs hs
      rw [hw] at this
      cases this
      exact .inl ⟨rfl, rw'⟩
    · obtain ⟨rfl, y2⟩ := y
      have := y2 xs hs
      rw [hw] at this
      cases this
      exact .inl ⟨rfl, rw'⟩
theorem ei_sq {te : TE} {F : Env → T D} (h : EvE c te F) : EvI c (DR.iSq c.K te) (iSeq F) := fun σ H P ρ n R o er ok Rk q =>
  h σ H P ρ n _ o er (T.ok_bind.mp ok) _ fun x H1 d n1 ok1 e1 o1 rx => by
    obtain ⟨ds, hs, r⟩ := seqT_ok ok1
    obtain ⟨k, a, xs, rfl, h1, h2⟩ := rx.seqK hs
    exact ⟨k, a, xs, rfl, h1.sub Sub.of_msk, q _ H1 ds n1 r e1 o1 (yl_sq (fun G g => h1.sub g) h2)⟩
theorem ei_sqX {te : TE} {F : Env → T D} (h : EvX c te F) : EvIX c (DR.iSq c.K te) (iSeq F) := fun σ H P ρ n R o er ok Rk q =>
  h σ H P ρ n _ o er (T.ok_bind.mp ok) _ fun x H1 d n1 ok1 e1 o1 rx => by
    obtain ⟨ds, hs, r⟩ := seqT_ok ok1
    obtain ⟨k, a, xs, rfl, h1, h2⟩ := rx.seqK hs
    exact ⟨k, a, xs, rfl, h1 H1 (ExU.refl _ _) o.pu, q _ H1 ds n1 r e1 o1 (yl_sq (fun G g => h1 G g o.pu) h2)⟩
/-! enumerate -/
def enumFrom (k : Int) : List D → List D
  | [] => []
  | d :: r => .pr (.int k) d :: enumFrom (k + 1) r
theorem enumFrom_len : ∀ (k : Int) (ds : List D), (enumFrom k ds).length = ds.length
  | _, [] => rfl
  | k, d :: r => by show (enumFrom (k + 1) r).length + 1 = _; rw [enumFrom_len]; rfl
theorem enumFrom_get : ∀ (k : Int) (ds : List D) (i : Nat), (enumFrom k ds)[i]? = ds[i]?.map fun d => .pr (.int (k + (i : Int))) d
  | _, [], i => by simp [enumFrom]
  | k, d :: r, 0 => by simp [enumFrom]
  | k, d :: r, i + 1 => by
    show (enumFrom (k + 1) r)[i]? = r[i]?.map _
    rw [enumFrom_get]
    have e : k + 1 + (i : Int) = k + ((i + 1 : Nat) : Int) := by omega
    rw [e]
def iEnum (a : Env → T D) : Env → T (List D) := fun ρ => ((a ρ).bind seqT).bind fun ds => .ret (enumFrom 0 ds)
theorem yl_en {k : Bool} {a : Addr} {xs : List V} {ds : List D} {Kp : Hp → Prop} (st : Int) (hk : ∀ G, Kp G → SqK c.K k G a xs) (r : Reps c (Msk P H) xs ds) : Yl c P (DR.ItE c.K k a xs st) H (enumFrom st ds) Kp := by
  have l := r.length
  refine ⟨fun i G g hi => ⟨by rw [enumFrom_len] at hi; omega, hk G g⟩, fun G g => ⟨by rw [enumFrom_len]; omega, hk G g⟩, fun i G v G' d g hd y => ?_⟩
  obtain ⟨T, x, rfl, hT, rfl, hx⟩ := y
  rw [enumFrom_get] at hd
  obtain ⟨e, he, re⟩ := r.getV hx
  rw [he] at hd
  cases hd
  exact .inr ⟨T, _, _, _, _, rfl, hT, rfl, rfl, .int _, re⟩
theorem ei_en {te : TE} {F : Env → T D} (h : EvE c te F) : EvI c (DR.iEn c.K te 0) (iEnum F) := fun σ H P ρ n R o er ok Rk q =>
  h σ H P ρ n _ o er (T.ok_bind.mp (T.ok_bind.mp ok)) _ fun x H1 d n1 ok1 e1 o1 rx => by
    obtain ⟨ds, hs, r⟩ := seqT_ok ok1
    obtain ⟨k, a, xs, rfl, h1, h2⟩ := rx.seqK hs
    exact ⟨k, a, xs, rfl, h1.sub Sub.of_msk, q _ H1 _ n1 r e1 o1 (yl_en 0 (fun G g => h1.sub g) h2)⟩
theorem ei_enX {te : TE} {F : Env → T D} (h : EvX c te F) : EvIX c (DR.iEn c.K te 0) (iEnum F) := fun σ H P ρ n R o er ok Rk q =>
  h σ H P ρ n _ o er (T.ok_bind.mp (T.ok_bind.mp ok)) _ fun x H1 d n1 ok1 e1 o1 rx => by
    obtain ⟨ds, hs, r⟩ := seqT_ok ok1
    obtain ⟨k, a, xs, rfl, h1, h2⟩ := rx.seqK hs
    exact ⟨k, a, xs, rfl, h1 H1 (ExU.refl _ _) o.pu, q _ H1 _ n1 r e1 o1 (yl_en 0 (fun G g => h1 G g o.pu) h2)⟩
/-! zip -/
def zipD : List D → List D → List D
  | a :: r, b :: s => .pr a b :: zipD r s
  | _, _ => []
theorem zipD_len : ∀ (a b : List D), (zipD a b).length = min a.length b.length
  | a :: r, b :: s => by show (zipD r s).length + 1 = _; rw [zipD_len, List.length_cons, List.length_cons]; omega
  | [], b => by simp [zipD]
  | a :: r, [] => by simp [zipD]
theorem zipD_get : ∀ (a b : List D) (i : Nat) (x y : D), a[i]? = some x → b[i]? = some y → (zipD a b)[i]? = some (.pr x y)
  | a :: r, b :: s, 0, x, y, h1, h2 => by cases h1; cases h2; rfl
  | a :: r, b :: s, i + 1, x, y, h1, h2 => zipD_get r s i x y h1 h2
  | [], b, i, x, y, h1, h2 => by simp at h1
  | a :: r, [], i, x, y, h1, h2 => by simp at h2
def iZip (a b : Env → T D) : Env → T (List D) := fun ρ => (a ρ).bind fun x => (b ρ).bind fun y => (seqT x).bind fun xs => (seqT y).bind fun ys => .ret (zipD xs ys)
theorem yl_zp {k k' : Bool} {a b : Addr} {xs ys : List V} {ds es : List D} {Kp : Hp → Prop} (hk : ∀ G, Kp G → SqK c.K k G a xs) (hk' : ∀ G, Kp G → SqK c.K k' G b ys) (r : Reps c (Msk P H) xs ds) (r' : Reps c (Msk P H) ys es) :
    Yl c P (DR.ItZ c.K k a xs k' b ys) H (zipD ds es) Kp := by
  have l := r.length
  have l' := r'.length
  refine ⟨fun i G g hi => ⟨by rw [zipD_len] at hi; omega, by rw [zipD_len] at hi; omega, hk G g, hk' G g⟩, fun G g => ⟨by rw [zipD_len]; omega, hk G g, hk' G g⟩, fun i G v G' d g hd y => ?_⟩
  obtain ⟨T, x, y, rfl, hT, rfl, hx, hy⟩ := y
  obtain ⟨e, he, re⟩ := r.getV hx
  obtain ⟨f, hf, rf⟩ := r'.getV hy
  rw [zipD_get _ _ _ _ _ he hf] at hd
  cases hd
  exact .inr ⟨T, _, _, _, _, rfl, hT, rfl, rfl, re, rf⟩
theorem ei_zp {te tf : TE} {F G : Env → T D} (h : EvE c te F) (h' : EvE c tf G) : EvI c (DR.iZp c.K te tf) (iZip F G) := fun σ H P ρ n R o er ok Rk q =>
  h σ H P ρ n _ o er (T.ok_bind.mp ok) _ fun x H1 d n1 ok1 e1 o1 rx => h' σ H1 P ρ n1 _ o1 (er.exu o.pu e1) (T.ok_bind.mp ok1) _ fun y H2 d2 n2 ok2 e2 o2 ry => by
    obtain ⟨ds, hs, ok3⟩ := seqT_ok (T.ok_bind.mp ok2)
    obtain ⟨es, hs', r⟩ := seqT_ok (T.ok_bind.mp ok3)
    obtain ⟨k, a, xs, rfl, h1, h2⟩ := (rx.sub (Sub.msk o.pu e2)).seqK hs
    obtain ⟨k', b, ys, rfl, h3, h4⟩ := ry.seqK hs'
    exact ⟨k, a, xs, k', b, ys, rfl, rfl, h1.sub Sub.of_msk, h3.sub Sub.of_msk, q _ H2 _ n2 r (e1.trans e2) o2 (yl_zp (fun G g => h1.sub g) (fun G g => h3.sub g) h2 h4)⟩
theorem ei_zpX {te tf : TE} {F G : Env → T D} (h : EvX c te F) (h' : EvX c tf G) : EvIX c (DR.iZp c.K te tf) (iZip F G) := fun σ H P ρ n R o er ok Rk q =>
  h σ H P ρ n _ o er (T.ok_bind.mp ok) _ fun x H1 d n1 ok1 e1 o1 rx => h' σ H1 P ρ n1 _ o1 (er.exu o.pu e1) (T.ok_bind.mp ok1) _ fun y H2 d2 n2 ok2 e2 o2 ry => by
    obtain ⟨ds, hs, ok3⟩ := seqT_ok (T.ok_bind.mp ok2)
    obtain ⟨es, hs', r⟩ := seqT_ok (T.ok_bind.mp ok3)
    obtain ⟨k, a, xs, rfl, h1, h2⟩ := (rx.exu o.pu e2).seqK hs
    obtain ⟨k', b, ys, rfl, h3, h4⟩ := ry.seqK hs'
    exact ⟨k, a, xs, k', b, ys, rfl, rfl, h1 H2 (ExU.refl _ _) o.pu, h3 H2 (ExU.refl _ _) o.pu, q _ H2 _ n2 r (e1.trans e2) o2 (yl_zp (fun G g => h1 G g o.pu) (fun G g => h3 G g o.pu) h2 h4)⟩
/-! range -/
def rangeD (lo : Int) : Nat → List D
  | 0 => []
  | n + 1 => .int lo :: rangeD (lo + 1) n
theorem rangeD_len : ∀ (lo : Int) (n : Nat), (rangeD lo n).length = n
  | _, 0 => rfl
  | lo, n + 1 => by show (rangeD (lo + 1) n).length + 1 = _; rw [rangeD_len]
theorem rangeD_get : ∀ (lo : Int) (n i : Nat), i < n → (rangeD lo n)[i]? = some (.int (lo + (i : Int)))
  | lo, 0, i, h => absurd h (Nat.not_lt_zero _)
  | lo, n + 1, 0, h => by simp [rangeD]
  | lo, n + 1, i + 1, h => by
    show (rangeD (lo + 1) n)[i]? = _
    rw [rangeD_get (lo + 1) n i (by omega)]
    have e : lo + 1 + (i : Int) = lo + ((i + 1 : Nat) : Int) := by omega
    rw [e]
theorem yl_rg {lo : Int} {n : Nat} {Kp : Hp → Prop} : Yl c P (Itr lo n) H (rangeD lo n) Kp := by
  refine ⟨fun i G g hi => by rw [rangeD_len] at hi; exact hi, fun G g => by rw [rangeD_len]; exact Nat.le_refl _, fun i G v G' d g hd y => ?_⟩
  obtain ⟨rfl, rfl⟩ := y
  have hi : i < n := by
    have := (List.getElem?_eq_some_iff.mp hd).1
    rw [rangeD_len] at this
    exact this
  rw [rangeD_get lo n i hi] at hd
  cases hd
  exact .inl ⟨rfl, .int _⟩
def okR (i : Int) : Bool := decide (-1000000000000 ≤ i ∧ i ≤ 1000000000000)
def iRange1 (a : Env → T (List D)) : Env → T (List D) := fun ρ => (a ρ).bind fun l => match l with
  | [.int n] => (match okR n with | true => .ret (rangeD 0 n.toNat) | false => .fail)
  | _ => .fail
def iRange2 (a : Env → T (List D)) : Env → T (List D) := fun ρ => (a ρ).bind fun l => match l with
  | [.int i, .int j] => (match okR i && okR j with | true => .ret (rangeD i (j - i).toNat) | false => .fail)
  | _ => .fail
end
end DL
namespace DL
open PySem PySem.Spec PyProof.Rows L2 DR
section
variable {c : Ct} {P : Addr → Prop} {H H' : Hp}
theorem reps1 {G : Hp} {vs : List V} {d : D} (r : Reps c G vs [d]) : ∃ v, vs = [v] ∧ Rep c G v d := by
  cases r with
  | cons h r => cases r; exact ⟨_, rfl, h⟩
theorem reps2 {G : Hp} {vs : List V} {d e : D} (r : Reps c G vs [d, e]) : ∃ v w, vs = [v, w] ∧ Rep c G v d ∧ Rep c G w e := by
  cases r with
  | cons h r =>
    obtain ⟨w, rfl, k⟩ := reps1 r
    exact ⟨_, w, rfl, h, k⟩
theorem rep_int {G : Hp} {v : V} {i : Int} (r : Rep c G v (.int i)) : v = .int i := by cases r; rfl
theorem ei_rg1 {ta : TA} {F : Env → T (List D)} (h : EvA c ta F) : EvI c (iRng1 ta) (iRange1 F) := fun σ H P ρ n R o er ok Rk q =>
  h σ H P ρ n _ o er (T.ok_bind.mp ok) _ fun vs H1 ds n1 ok1 e1 o1 rs => by
    split at ok1
    · split at ok1
      · rename_i hb
        have hb := of_decide_eq_true hb
        obtain ⟨v, rfl, r⟩ := reps1 rs
        obtain rfl := rep_int r
        exact ⟨_, rfl, by omega, by omega, q _ H1 _ n1 ok1 e1 o1 yl_rg⟩
      · exact ok1.elim
    · exact ok1.elim
theorem ei_rg2 {ta : TA} {F : Env → T (List D)} (h : EvA c ta F) : EvI c (iRng2 ta) (iRange2 F) := fun σ H P ρ n R o er ok Rk q =>
  h σ H P ρ n _ o er (T.ok_bind.mp ok) _ fun vs H1 ds n1 ok1 e1 o1 rs => by
    split at ok1
    · split at ok1
      · rename_i hb
        obtain ⟨hb1, hb2⟩ := Bool.and_eq_true_iff.mp hb
        have hb1 := of_decide_eq_true hb1
        have hb2 := of_decide_eq_true hb2
        obtain ⟨v, w, rfl, r, r'⟩ := reps2 rs
        obtain rfl := rep_int r
        obtain rfl := rep_int r'
        exact ⟨_, _, rfl, ⟨by omega, by omega, by omega, by omega⟩, q _ H1 _ n1 ok1 e1 o1 yl_rg⟩
      · exact ok1.elim
    · exact ok1.elim

/-! ### targets -/
/-- a target: the names it sets are among vs -/
structure EvG (c : Ct) (g : TG) (vs : List Nat) (F : D → Env → T Env) : Prop where
  ev : ∀ (σ : L2.St) (H : Hp) (P : Addr → Prop) (ρ : Env) (n : Nat) (R : Env → Nat → Prop) (v : V) (d : D), Ok c P H n → EnvR c P H σ ρ → Rep c (Msk P H) v d → (F d ρ).ok n R →
    ∀ Q : L2.St → Hp → Prop, (∀ σ' ρ' n', R ρ' n' → n' = n → EnvR c P H σ' ρ' → σ'.length = σ.length → (∀ j, j ∉ vs → σ'[j]? = σ[j]? ∧ ρ'[j]? = ρ[j]?) → Q σ' H) → g v σ H Q
def gSet (i : Nat) : D → Env → T Env := fun d ρ => .ret (ρ.set i (.val d))
theorem EnvR.set {σ : L2.St} {ρ : Env} {v : V} {d : D} (er : EnvR c P H σ ρ) (r : Rep c (Msk P H) v d) (i : Nat) : EnvR c P H (σ.set i (some v)) (ρ.set i (.val d)) := by
  refine ⟨by rw [List.length_set, List.length_set]; exact er.len, fun j s hs => ?_⟩
  by_cases hj : i = j
  · subst hj
    have hi : i < ρ.length := by
      have := (List.getElem?_eq_some_iff.mp hs).1
      rwa [List.length_set] at this
    rw [List.getElem?_set_self hi] at hs
    cases hs
    rw [List.getElem?_set_self (by rw [← er.len]; exact hi)]
    exact ⟨v, rfl, r⟩
  · rw [List.getElem?_set_ne hj] at hs ⊢
    exact er.at_ j s hs
theorem eg_name {i : Nat} : EvG c (gName i) [i] (gSet i) :=
  ⟨fun σ H P ρ n R v d o er r ok Q q => q _ _ n ok rfl (er.set r i) (by rw [List.length_set]) fun j hj => by
    have : i ≠ j := fun e => hj (by simp [e])
    exact ⟨by rw [List.getElem?_set_ne this], by rw [List.getElem?_set_ne this]⟩⟩
/-- targets in a tuple -/
structure EvGs (c : Ct) (g : TGs) (vs : List Nat) (F : List D → Env → T Env) : Prop where
  ev : ∀ (σ : L2.St) (H : Hp) (P : Addr → Prop) (ρ : Env) (n : Nat) (R : Env → Nat → Prop) (xs : List V) (ds : List D), Ok c P H n → EnvR c P H σ ρ → Reps c (Msk P H) xs ds → (F ds ρ).ok n R →
    ∀ Q : L2.St → Hp → Prop, (∀ σ' ρ' n', R ρ' n' → n' = n → EnvR c P H σ' ρ' → σ'.length = σ.length → (∀ j, j ∉ vs → σ'[j]? = σ[j]? ∧ ρ'[j]? = ρ[j]?) → Q σ' H) → g xs σ H Q
def gsNil : List D → Env → T Env := fun ds ρ => match ds with
  | [] => .ret ρ
  | _ => .fail
def gsCons (f : D → Env → T Env) (g : List D → Env → T Env) : List D → Env → T Env := fun ds ρ => match ds with
  | d :: r => (f d ρ).bind fun ρ' => g r ρ'
  | _ => .fail
theorem eg_nil : EvGs c gNil [] gsNil := ⟨fun σ H P ρ n R xs ds o er r ok Q q => by
  unfold gsNil at ok
  split at ok
  · cases r
    exact ⟨rfl, q σ ρ n ok rfl er rfl fun _ _ => ⟨rfl, rfl⟩⟩
  · exact ok.elim⟩
theorem eg_cons {g : TG} {gs : TGs} {vs ws : List Nat} {f : D → Env → T Env} {fs : List D → Env → T Env} (h : EvG c g vs f) (hs : EvGs c gs ws fs) : EvGs c (gCons g gs) (vs ++ ws) (gsCons f fs) :=
  ⟨fun σ H P ρ n R xs ds o er r ok Q q => by
    unfold gsCons at ok
    split at ok
    · rename_i d rr
      cases r with
      | cons h1 h2 =>
        refine ⟨_, _, rfl, h.ev σ H P ρ n _ _ d o er h1 (T.ok_bind.mp ok) _ fun σ1 ρ1 n1 ok1 en er1 l1 k1 => ?_⟩
        subst en
        refine hs.ev σ1 H P ρ1 n1 R _ rr o er1 h2 ok1 Q fun σ2 ρ2 n2 ok2 en er2 l2 k2 => q σ2 ρ2 n2 ok2 en er2 (l2.trans l1) fun j hj => ?_
        have j1 : j ∉ vs := fun m => hj (List.mem_append_left _ m)
        have j2 : j ∉ ws := fun m => hj (List.mem_append_right _ m)
        exact ⟨(k2 j j2).1.trans (k1 j j1).1, (k2 j j2).2.trans (k1 j j1).2⟩
    · exact ok.elim⟩
def gTupD (f : List D → Env → T Env) : D → Env → T Env := fun d ρ => match d with
  | .tup ds => f ds ρ
  | .pr x y => f [x, y] ρ
  | _ => .fail
/-- the targets' number is seen in what they take -/
theorem eg_tup {gs : TGs} {vs : List Nat} {fs : List D → Env → T Env} {m : Nat} (h : EvGs c gs vs fs) (hm : ∀ ds ρ n R, (fs ds ρ).ok n R → ds.length = m) : EvG c (gTup c.K m gs) vs (gTupD fs) :=
  ⟨fun σ H P ρ n R v d o er r ok Q q => by
    unfold gTupD at ok
    split at ok
    · cases r with
      | tup h1 h2 =>
        exact ⟨_, _, rfl, sub_t Sub.of_msk h1.sq, by rw [h2.length]; exact hm _ _ _ _ ok, h.ev σ H P ρ n R _ _ o er h2 ok Q q⟩
    · cases r with
      | pr h1 h2 h3 => exact ⟨_, _, rfl, sub_t Sub.of_msk h1, hm _ _ _ _ ok, h.ev σ H P ρ n R _ _ o er (.cons h2 (.cons h3 .nil)) ok Q q⟩
    · exact ok.elim⟩
theorem gs_len0 : ∀ ds ρ n R, (gsNil ds ρ).ok n R → ds.length = 0 := fun ds ρ n R h => by
  unfold gsNil at h
  split at h
  · rfl
  · exact h.elim
theorem T.ok_any {α : Type} : ∀ {m : T α} {n : Nat} {R : α → Nat → Prop} {p : Prop}, m.ok n R → (∀ a k, R a k → p) → p := by
  intro m
  induction m with
  | ret a => intro n R p h q; exact q _ _ h
  | fail => intro n R p h q; exact h.elim
  | take m k ih => intro n R p h q; exact ih 0 (h.2.2.2 0 (Int.le_refl _) h.1) q
theorem gs_len {f : D → Env → T Env} {g : List D → Env → T Env} {m : Nat} (h : ∀ ds ρ n R, (g ds ρ).ok n R → ds.length = m) : ∀ ds ρ n R, (gsCons f g ds ρ).ok n R → ds.length = m + 1 := fun ds ρ n R q => by
  unfold gsCons at q
  split at q
  · rename_i d rr
    exact T.ok_any (T.ok_bind.mp q) fun a k z => by
      rw [List.length_cons, h _ _ _ _ z]
  · exact q.elim

/-! ### comprehensions -/
def wipeE (ρ : Env) : List Nat → Env
  | [] => ρ
  | v :: vs => (wipeE ρ vs).set v .no
theorem wipeE_len : ∀ (ρ : Env) (vs : List Nat), (wipeE ρ vs).length = ρ.length
  | _, [] => rfl
  | ρ, v :: vs => by show ((wipeE ρ vs).set v .no).length = _; rw [List.length_set, wipeE_len]
theorem wipe_get : ∀ (σ : L2.St) (vs : List Nat) (j : Nat), (wipe σ vs)[j]? = if j ∈ vs ∧ j < σ.length then some none else σ[j]?
  | σ, [], j => by simp [wipe]
  | σ, v :: vs, j => by
    show ((wipe σ vs).set v none)[j]? = _
    by_cases hv : v = j
    · subst hv
      by_cases hl : v < σ.length
      · rw [List.getElem?_set_self (by rw [wipe_length]; exact hl), if_pos ⟨by simp, hl⟩]
      · rw [if_neg (fun z => hl z.2), List.getElem?_eq_none (by rw [List.length_set, wipe_length]; omega), List.getElem?_eq_none (by omega)]
    · rw [List.getElem?_set_ne hv, wipe_get]
      have e : (j ∈ v :: vs) ↔ j ∈ vs := by simp [Ne.symm hv]
      simp only [e]
theorem wipe_eq {σ τ : L2.St} {vs : List Nat} (hl : τ.length = σ.length) (h : ∀ j, j ∉ vs → τ[j]? = (wipe σ vs)[j]?) : wipe τ vs = wipe σ vs := by
  apply List.ext_getElem?
  intro j
  rw [wipe_get]
  by_cases hj : j ∈ vs
  · rw [wipe_get]
    by_cases hlt : j < τ.length
    · rw [if_pos ⟨hj, hlt⟩, if_pos ⟨hj, by omega⟩]
    · rw [if_neg (fun z => hlt z.2), if_neg (fun z => hlt (by omega)), List.getElem?_eq_none (by omega), List.getElem?_eq_none (by omega)]
  · rw [if_neg (fun z => hj z.1)]
    exact h j hj
theorem EnvR.wipe {σ : L2.St} {ρ : Env} (er : EnvR c P H σ ρ) : ∀ vs : List Nat, EnvR c P H (L2.wipe σ vs) (wipeE ρ vs)
  | [] => er
  | v :: vs => by
    have ih := EnvR.wipe er vs
    refine ⟨by rw [wipeE_len, wipe_length]; exact er.len, fun j s hs => ?_⟩
    have hs : ((wipeE ρ vs).set v .no)[j]? = some s := hs
    show SlotAt c P H (((L2.wipe σ vs).set v none)[j]?) s
    by_cases hj : v = j
    · subst hj
      have hi : v < (wipeE ρ vs).length := by
        have := (List.getElem?_eq_some_iff.mp hs).1
        rwa [List.length_set] at this
      rw [List.getElem?_set_self hi] at hs
      cases hs
      trivial
    · rw [List.getElem?_set_ne hj] at hs ⊢
      exact ih.at_ j s hs
def compT (g : D → Env → T Env) (t : Env → T Bool) (f : Env → T D) (ρ : Env) : List D → T (List D)
  | [] => .ret []
  | d :: r => (g d ρ).bind fun ρ' => (t ρ').bind fun b => match b with
    | true => (f ρ').bind fun y => (compT g t f ρ r).bind fun ys => .ret (y :: ys)
    | false => compT g t f ρ r
def fComp (i : Env → T (List D)) (g : D → Env → T Env) (t : Env → T Bool) (f : Env → T D) (vs : List Nat) : Env → T (List D) := fun ρ => (i ρ).bind fun ds => match decide (ds.length < capD) with
  | true => compT g t f (wipeE ρ vs) ds
  | false => .fail
/-- a comprehension: its source may be a list of the frame's own -/
theorem el_comp {wi : TI} {g : TG} {tt : TT} {te : TE} {vs ws : List Nat} {I : Env → T (List D)} {G : D → Env → T Env} {B : Env → T Bool} {F : Env → T D}
    (hi : EvIX c wi I) (hg : EvG c g ws G) (ht : EvT c tt B) (he : EvE c te F) (hw : ∀ j, j ∈ ws → j ∈ vs) : EvL c (tLc wi g tt te vs) (fComp I G B F vs) := by
  intro σ H P ρ n R o er ok Q q
  refine hi σ H P ρ n _ o er (T.ok_bind.mp ok) _ fun J H1 ds n1 ok1 e1 o1 yl => ?_
  split at ok1
  · rename_i hcap
    have hcap := of_decide_eq_true hcap
    intro L hL
    have nu : L ≠ c.u := o1.nu hL
    -- the new list is set apart
    let P' : Addr → Prop := fun a => P a ∨ a = L
    have o2 : Ok c P' (upd H1 L (.lst [])) n1 := (o1.new hL).more (by rw [upd_same]; simp)
    -- Pv: behind i turns
    let Pv : Nat → Hp → Prop := fun i G1 => ∃ m xs es, Ok c P' G1 m ∧ (∀ a w, a ≠ c.u → a ≠ L → H1 a = some w → G1 a = some w) ∧ G1 L = some (.lst xs) ∧ Reps c (Msk P' G1) xs es ∧ es.length ≤ i ∧
      (compT G B F (wipeE ρ vs) (ds.drop i)).ok m fun ys m' => R (es ++ ys) m'
    have kp : ∀ i G1, Pv i G1 → ExU c.u H1 G1 := fun i G1 ⟨m, xs, es, p1, p2, p3, p4, p5, p6⟩ a w ha hw' => p2 a w ha (ne_of_none hw' hL) hw'
    have W : Walk J ds.length (fun G1 => ExU c.u H1 G1) (fun i G1 v G2 => ∃ d, ds[i]? = some d ∧ ((G2 = G1 ∧ Rep c (Msk P H1) v d) ∨ ∃ T x y d1 d2, v = .ref T ∧ G1 T = none ∧ G2 = upd G1 T (.tup [x, y]) ∧ d = .pr d1 d2 ∧ Rep c (Msk P H1) x d1 ∧ Rep c (Msk P H1) y d2)) :=
      ⟨fun i G1 hi hG => yl.go i G1 hG hi, fun G1 hG => yl.stop G1 hG, fun i G1 v G2 hi hG hy => ⟨ds[i], List.getElem?_eq_getElem hi, yl.yl i G1 v G2 _ hG (List.getElem?_eq_getElem hi) hy⟩⟩
    refine lc_it W Pv ⟨n1, [], [], o2, fun a w _ na hw' => by rw [upd_ne na]; exact hw', upd_same, .nil, Nat.le_refl _, ?_⟩ (fun i G1 _ p => kp i G1 p) (fun i v G1 G2 hi p hy => ?_) fun G1 p => ?_
    · rw [List.drop_zero]
      exact T.ok_mono ok1 fun a k h => h
    · have hx := kp i G1 p
      obtain ⟨m, xs, es, p1, p2, p3, p4, p5, p6⟩ := p
      obtain ⟨d, hd, hy⟩ := hy
      have hdrop : ds.drop i = d :: ds.drop (i + 1) := by
        have h1 : i < ds.length := (List.getElem?_eq_some_iff.mp hd).1
        have h2 := List.drop_eq_getElem_cons h1
        have h3 : ds[i] = d := by rw [List.getElem?_eq_getElem h1] at hd; exact Option.some.inj hd
        rw [h2, h3]
      rw [hdrop] at p6
      -- the heap with the item
      have sub1 : Sub (Msk P H1) (Msk P' G1) := fun a w ha => by
        obtain ⟨h1, h2⟩ := msk_some.mp ha
        have na : a ≠ L := ne_of_none h2 hL
        exact msk_some.mpr ⟨fun z => z.elim h1 na, p2 a w (fun z => h1 (z ▸ o1.pu)) na h2⟩
      have key : ∃ m2, Ok c P' G2 m ∧ (∀ a w, a ≠ c.u → a ≠ L → H1 a = some w → G2 a = some w) ∧ G2 L = some (.lst xs) ∧ Reps c (Msk P' G2) xs es ∧ Rep c (Msk P' G2) v d ∧ ExU c.u G1 G2 ∧ m2 = m := by
        rcases hy with ⟨rfl, r⟩ | ⟨T, x, y, d1, d2, rfl, hT, rfl, rfl, r1, r2⟩
        · exact ⟨m, p1, p2, p3, p4, r.sub sub1, ExU.refl _ _, rfl⟩
        · have nT : L ≠ T := ne_of_none p3 hT
          have ex : ExU c.u G1 (upd G1 T (.tup [x, y])) := ExU.new hT
          exact ⟨m, p1.new hT, fun a w h1 h2 h3 => by rw [upd_ne (ne_of_none (p2 a w h1 h2 h3) hT)]; exact p2 a w h1 h2 h3, by rw [upd_ne nT]; exact p3, p4.sub (Sub.msk p1.pu ex),
            rep_newP p1 hT (r1.sub sub1) (r2.sub sub1), ex, rfl⟩
      obtain ⟨_, k1, k2, k3, k4, k5, k6, _⟩ := key
      have er2 : EnvR c P' G2 (wipe σ vs) (wipeE ρ vs) := by
        have e0 : EnvR c P H1 σ ρ := er.exu o.pu e1
        have e3 : ∀ j s, ρ[j]? = some s → SlotAt c P' G2 σ[j]? s := fun j s hs => by
          have h0 := e0.at_ j s hs
          have sub2 : Sub (Msk P H1) (Msk P' G2) := Sub.trans sub1 (Sub.msk p1.pu k6)
          cases s with
          | no => trivial
          | me => exact h0
          | val d => obtain ⟨w, h1, h2⟩ := h0; exact ⟨w, h1, h2.sub sub2⟩
          | own d =>
            obtain ⟨a, h1, h2, h3, h4⟩ := h0
            exact ⟨a, h1, .inl h2, h3, h4.move h3 sub2 (fun w hb => k2 a w h3 (ne_of_none hb hL) hb) (fun b w _ nb _ hb => k2 b w nb (ne_of_none hb hL) hb) fun b hb _ => .inl hb⟩
        exact EnvR.wipe ⟨e0.len, e3⟩ vs
      refine hg.ev (wipe σ vs) G2 P' (wipeE ρ vs) m _ v d k1 er2 k5 (T.ok_bind.mp p6) _ fun σ3 ρ3 n3 ok3 en er3 l3 kk3 => ?_
      subst en
      refine ⟨wipe_eq (by rw [l3, wipe_length]) fun j hj => (kk3 j (fun z => hj (hw j z))).1, ?_⟩
      refine ht σ3 G2 P' ρ3 n3 _ k1 er3 (T.ok_bind.mp ok3) _ fun b G3 n4 ok4 e4 o4 => ?_
      have k2' : ∀ a w, a ≠ c.u → a ≠ L → H1 a = some w → G3 a = some w := fun a w h1 h2 h3 => e4 a w h1 (k2 a w h1 h2 h3)
      cases b with
      | false =>
        rw [if_neg Bool.false_ne_true]
        exact ⟨n4, xs, es, o4, k2', e4 L _ nu k3, k4.sub (Sub.msk k1.pu e4), by omega, ok4⟩
      | true =>
        rw [if_pos rfl]
        refine he σ3 G3 P' ρ3 n4 _ o4 (er3.exu k1.pu e4) (T.ok_bind.mp ok4) _ fun y G4 dy n5 ok5 e5 o5 ry => ?_
        have hL4 : G4 L = some (.lst xs) := e5 L _ nu (e4 L _ nu k3)
        have hxl : xs.length = es.length := k4.length
        refine ⟨xs, hL4, cap_lt (by omega), n5, xs ++ [y], es ++ [dy], ?_, ?_, upd_same, ?_, by simp; omega, ?_⟩
        · refine ⟨?_, o5.pu, fun a ha => ?_⟩
          · obtain ⟨a, b, e, h1, h2⟩ := o5.urn
            exact ⟨a, b, e, by rw [upd_ne (Ne.symm nu)]; exact h1, h2⟩
          · by_cases z : a = L
            · rw [z, upd_same]; simp
            · rw [upd_ne z]; exact o5.dom a ha
        · intro a w h1 h2 h3
          rw [upd_ne h2]
          exact e5 a w h1 (k2' a w h1 h2 h3)
        · have sub5 : Sub (Msk P' G4) (Msk P' (upd G4 L (.lst (xs ++ [y])))) := fun a w ha => by
            obtain ⟨h1, h2⟩ := msk_some.mp ha
            exact msk_some.mpr ⟨h1, by rw [upd_ne (fun z => h1 (.inr z))]; exact h2⟩
          exact ((k4.sub (Sub.trans (Sub.msk k1.pu e4) (Sub.msk k1.pu e5))).append (.one ry)).sub sub5
        · refine T.ok_mono (T.ok_bind.mp ok5) fun ys k h => ?_
          have h : R (es ++ dy :: ys) k := h
          rw [List.append_assoc]
          exact h
    · obtain ⟨m, xs, es, p1, p2, p3, p4, p5, p6⟩ := p
      rw [List.drop_of_length_le (Nat.le_refl _)] at p6
      have p6 : R (es ++ []) m := p6
      rw [List.append_nil] at p6
      have eL : H L = none := e1.free nu hL
      refine q L xs G1 es m p6 (fun a w ha hw' => p2 a w ha (ne_of_none hw' eL |> fun z => z) (e1 a w ha hw')) (p1.less (fun a h => .inl h) o1.pu) eL p3 p4
  · exact ok1.elim
end
end DL
end

section
set_option maxRecDepth 100000
set_option maxHeartbeats 2000000
/-! DLe: statements. -/
namespace DL
open PySem PySem.Spec PyProof.Rows L2 DR
/-- what stands apart: the callers' and the frame's own lists -/
def Pow (P0 : Addr → Prop) (σ : L2.St) (ρ : Env) : Addr → Prop := fun a => P0 a ∨ ∃ (i : Nat) (d : D), ρ[i]? = some (.own d) ∧ σ[i]? = some (some (.ref a))
/-- the state at a statement. H0: the heap at the entry (of the def, of a loop); Fz: what may have changed since -/
structure SR (c : Ct) (P0 Fz : Addr → Prop) (H0 H : Hp) (σ : L2.St) (ρ : Env) (n : Nat) : Prop where
  ok : Ok c (Pow P0 σ ρ) H n
  env : EnvR c (Pow P0 σ ρ) H σ ρ
  inj : ∀ (i j : Nat) (a : Addr) (d e : D), ρ[i]? = some (.own d) → σ[i]? = some (some (.ref a)) → ρ[j]? = some (.own e) → σ[j]? = some (some (.ref a)) → i = j
  new : ∀ (i : Nat) (a : Addr) (d : D), ρ[i]? = some (.own d) → σ[i]? = some (some (.ref a)) → ¬ P0 a ∧ (Fz a ∨ H0 a = none)
  fr : ∀ a w, ¬ Fz a → H0 a = some w → H a = some w
  fz : Fz c.u
  pu : P0 c.u
inductive Out where
  | nx (ρ : Env) | rt (d : D) | bk (ρ : Env) | ct (ρ : Env)
def endR (c : Ct) (P0 Fz : Addr → Prop) (H0 : Hp) (Dn : Ends) : Out → Nat → Prop
  | .nx ρ, n => ∀ σ H, SR c P0 Fz H0 H σ ρ n → Dn.nx σ H
  | .rt d, n => ∀ v H, (∀ a w, ¬ Fz a → H0 a = some w → H a = some w) → Ok c P0 H n → Rep c (Msk P0 H) v d → Dn.rt v H
  | .bk ρ, n => ∀ σ H, SR c P0 Fz H0 H σ ρ n → Dn.bk σ H
  | .ct ρ, n => ∀ σ H, SR c P0 Fz H0 H σ ρ n → Dn.ct σ H
def EvS (c : Ct) (t : TS) (G : Env → T Out) : Prop := ∀ (P0 Fz : Addr → Prop) (H0 H : Hp) (σ : L2.St) (ρ : Env) (n : Nat) (Dn : Ends), SR c P0 Fz H0 H σ ρ n → (G ρ).ok n (endR c P0 Fz H0 Dn) → t Dn σ H

section
variable {c : Ct} {P0 Fz : Addr → Prop} {H0 H H' : Hp} {σ : L2.St} {ρ : Env} {n n' : Nat}
theorem SR.own (sr : SR c P0 Fz H0 H σ ρ n) {i : Nat} {d : D} (h : ρ[i]? = some (.own d)) : ∃ a, σ[i]? = some (some (.ref a)) ∧ a ≠ c.u ∧ OwnAt c (Pow P0 σ ρ) H a d ∧ Pow P0 σ ρ a := by
  obtain ⟨a, h1, h2, h3, h4⟩ := sr.env.at_ i _ h
  exact ⟨a, h1, h3, h4, h2⟩
/-- such a dict is the caller's -/
theorem SR.dx0 (sr : SR c P0 Fz H0 H σ ρ n) {b : Addr} (h : Pow P0 σ ρ b) (k : DxH H b) : P0 b := by
  rcases h with h | ⟨i, d, h1, h2⟩
  · exact h
  · obtain ⟨a, k1, _, k3, _⟩ := sr.own h1
    rw [h2] at k1
    cases k1
    exact absurd k k3.kind
theorem set_own {σ : L2.St} {ρ : Env} {i j : Nat} {s : Slot} {v : V} {a : Addr} {d : D} (hij : i ≠ j) (h1 : (ρ.set i s)[j]? = some (.own d)) (h2 : (σ.set i (some v))[j]? = some (some (.ref a))) :
    ρ[j]? = some (.own d) ∧ σ[j]? = some (some (.ref a)) := by
  rw [List.getElem?_set_ne hij] at h1 h2
  exact ⟨h1, h2⟩
theorem set_at {α : Type} {l : List α} {i : Nat} {x y : α} (h : (l.set i x)[i]? = some y) : y = x ∧ i < l.length := by
  have hi : i < l.length := by
    have := (List.getElem?_eq_some_iff.mp h).1
    rwa [List.length_set] at this
  rw [List.getElem?_set_self hi] at h
  exact ⟨(Option.some.inj h).symm, hi⟩
/-- a name takes a value that is apart -/
theorem SR.setVal (sr : SR c P0 Fz H0 H σ ρ n) (e : ExU c.u H H') (o : Ok c (Pow P0 σ ρ) H' n') {v : V} {d : D} (r : Rep c (Msk (Pow P0 σ ρ) H') v d) (i : Nat) :
    SR c P0 Fz H0 H' (σ.set i (some v)) (ρ.set i (.val d)) n' := by
  have old : ∀ (j : Nat) (a : Addr) (e' : D), (ρ.set i (.val d))[j]? = some (.own e') → (σ.set i (some v))[j]? = some (some (.ref a)) → i ≠ j ∧ ρ[j]? = some (.own e') ∧ σ[j]? = some (some (.ref a)) := fun j a e' h1 h2 => by
    by_cases hj : i = j
    · subst hj
      have := (set_at h1).1
      cases this
    · exact ⟨hj, set_own hj h1 h2⟩
  have less : ∀ a, Pow P0 (σ.set i (some v)) (ρ.set i (.val d)) a → Pow P0 σ ρ a := fun a h => by
    rcases h with h | ⟨j, e', h1, h2⟩
    · exact .inl h
    · exact .inr ⟨j, e', (old j a e' h1 h2).2.1, (old j a e' h1 h2).2.2⟩
  refine ⟨o.less less (.inl sr.pu), ⟨by rw [List.length_set, List.length_set]; exact sr.env.len, fun j s q => ?_⟩, fun i' j a d' e' h1 h2 h3 h4 => ?_, fun j a e' h1 h2 => ?_, fun a w h1 h2 => e a w (fun z => h1 (z ▸ sr.fz)) (sr.fr a w h1 h2), sr.fz, sr.pu⟩
  · by_cases hj : i = j
    · subst hj
      obtain ⟨rfl, hi⟩ := set_at q
      rw [List.getElem?_set_self (by rw [← sr.env.len]; exact hi)]
      exact ⟨v, rfl, r.sub (Sub.less less)⟩
    · have q0 := q
      rw [List.getElem?_set_ne hj] at q ⊢
      have z := (sr.env.exu sr.ok.pu e).at_ j s q
      cases s with
      | no => trivial
      | me => exact z
      | val d' => obtain ⟨w, h1, h2⟩ := z; exact ⟨w, h1, h2.sub (Sub.less less)⟩
      | own d' =>
        obtain ⟨a, h1, h2, h3, h4⟩ := z
        refine ⟨a, h1, .inr ⟨j, d', q0, by rw [List.getElem?_set_ne hj]; exact h1⟩, h3, h4.move h3 (Sub.less less) (fun _ h => h) (fun _ _ _ _ _ h => h) fun b hb hd => .inl ?_⟩
        rcases hb with hb | ⟨m, d2, m1, m2⟩
        · exact hb
        · obtain ⟨a2, k1, k2, k3, k4⟩ := (sr.env.exu sr.ok.pu e).at_ m _ m1
          rw [m2] at k1
          cases k1
          exact absurd hd k4.kind
  · obtain ⟨_, a1, a2⟩ := old i' a d' h1 h2
    obtain ⟨_, b1, b2⟩ := old j a e' h3 h4
    exact sr.inj i' j a d' e' a1 a2 b1 b2
  · obtain ⟨_, a1, a2⟩ := old j a e' h1 h2
    exact sr.new j a e' a1 a2
/-- a name takes a new list -/
theorem SR.setOwn (sr : SR c P0 Fz H0 H σ ρ n) (e : ExU c.u H H') (o : Ok c (Pow P0 σ ρ) H' n') {p : Addr} {xs : List V} {ds : List D} (hn : H p = none) (hp : H' p = some (.lst xs))
    (r : Reps c (Msk (fun a => Pow P0 σ ρ a ∨ a = p) H') xs ds) {i : Nat} (hi : i < ρ.length) : SR c P0 Fz H0 H' (σ.set i (some (.ref p))) (ρ.set i (.own (.lst ds))) n' := by
  have np : ¬ Pow P0 σ ρ p := sr.ok.np hn
  have nu : p ≠ c.u := sr.ok.nu hn
  have old : ∀ (j : Nat) (a : Addr) (e' : D), (ρ.set i (.own (.lst ds)))[j]? = some (.own e') → (σ.set i (some (.ref p)))[j]? = some (some (.ref a)) → (i = j ∧ a = p) ∨ (i ≠ j ∧ ρ[j]? = some (.own e') ∧ σ[j]? = some (some (.ref a))) := fun j a e' h1 h2 => by
    by_cases hj : i = j
    · subst hj
      have := (set_at h2).1
      cases this
      exact .inl ⟨rfl, rfl⟩
    · exact .inr ⟨hj, set_own hj h1 h2⟩
  have pp : Pow P0 (σ.set i (some (.ref p))) (ρ.set i (.own (.lst ds))) p := .inr ⟨i, _, List.getElem?_set_self hi, List.getElem?_set_self (by rw [← sr.env.len]; exact hi)⟩
  have less : ∀ a, Pow P0 (σ.set i (some (.ref p))) (ρ.set i (.own (.lst ds))) a → Pow P0 σ ρ a ∨ a = p := fun a h => by
    rcases h with h | ⟨j, e', h1, h2⟩
    · exact .inl (.inl h)
    · rcases old j a e' h1 h2 with ⟨_, z⟩ | ⟨_, z1, z2⟩
      · exact .inr z
      · exact .inl (.inr ⟨j, e', z1, z2⟩)
  have sub : Sub (Msk (Pow P0 σ ρ) H) (Msk (Pow P0 (σ.set i (some (.ref p))) (ρ.set i (.own (.lst ds)))) H') := fun a w h => by
    obtain ⟨h1, h2⟩ := msk_some.mp h
    have nap : a ≠ p := fun z => by rw [z, hn] at h2; cases h2
    exact msk_some.mpr ⟨fun z => (less a z).elim h1 nap, e a w (fun z => h1 (by rw [z]; exact sr.ok.pu)) h2⟩
  refine ⟨⟨o.urn, .inl sr.pu, fun a h => ?_⟩, ⟨by rw [List.length_set, List.length_set]; exact sr.env.len, fun j s q => ?_⟩, fun i' j a d' e' h1 h2 h3 h4 => ?_, fun j a e' h1 h2 => ?_, fun a w h1 h2 => e a w (fun z => h1 (z ▸ sr.fz)) (sr.fr a w h1 h2), sr.fz, sr.pu⟩
  · rcases less a h with z | z
    · exact o.dom a z
    · rw [z, hp]; simp
  · by_cases hj : i = j
    · subst hj
      obtain ⟨rfl, _⟩ := set_at q
      rw [List.getElem?_set_self (by rw [← sr.env.len]; exact hi)]
      exact ⟨p, rfl, pp, nu, xs, hp, r.sub (Sub.less less)⟩
    · have q0 := q
      rw [List.getElem?_set_ne hj] at q ⊢
      have z := sr.env.at_ j s q
      cases s with
      | no => trivial
      | me => exact z
      | val d' => obtain ⟨w, h1, h2⟩ := z; exact ⟨w, h1, h2.sub sub⟩
      | own d' =>
        obtain ⟨a, h1, h2, h3, h4⟩ := z
        exact ⟨a, h1, .inr ⟨j, d', q0, by rw [List.getElem?_set_ne hj]; exact h1⟩, h3, h4.move h3 sub (fun w h => e _ _ h3 h) (fun b w _ nb _ h => e b w nb h) fun b hb hd => .inl (sr.dx0 hb hd)⟩
  · rcases old i' a d' h1 h2 with ⟨z1, z2⟩ | ⟨_, a1, a2⟩
    · rcases old j a e' h3 h4 with ⟨y1, y2⟩ | ⟨_, b1, b2⟩
      · exact z1.symm.trans y1
      · exact absurd (z2 ▸ (.inr ⟨j, e', b1, b2⟩ : Pow P0 σ ρ a)) np
    · rcases old j a e' h3 h4 with ⟨y1, y2⟩ | ⟨_, b1, b2⟩
      · exact absurd (y2 ▸ (.inr ⟨i', d', a1, a2⟩ : Pow P0 σ ρ a)) np
      · exact sr.inj i' j a d' e' a1 a2 b1 b2
  · rcases old j a e' h1 h2 with ⟨z1, z2⟩ | ⟨_, a1, a2⟩
    · subst z2
      refine ⟨fun z => np (.inl z), ?_⟩
      by_cases hf : Fz a
      · exact .inl hf
      · refine .inr ?_
        cases hq : H0 a with
        | none => rfl
        | some w => rw [sr.fr a w hf hq] at hn; cases hn
    · exact sr.new j a e' a1 a2
/-- a list of the frame's own changes -/
theorem SR.mut (sr : SR c P0 Fz H0 H σ ρ n) (e : ExU c.u H H') (o : Ok c (Pow P0 σ ρ) H' n') {i : Nat} {ds es : List D} {a : Addr} {xs : List V} (hi : ρ[i]? = some (.own (.lst ds))) (ha : σ[i]? = some (some (.ref a)))
    (r : Reps c (Msk (Pow P0 σ ρ) H') xs es) : SR c P0 Fz H0 (upd H' a (.lst xs)) σ (ρ.set i (.own (.lst es))) n' := by
  obtain ⟨a', k1, na, ⟨ys, k2, k3⟩, pa⟩ := sr.own hi
  rw [ha] at k1
  cases k1
  have hlt : i < ρ.length := (List.getElem?_eq_some_iff.mp hi).1
  have old : ∀ (j : Nat) (b : Addr) (e' : D), (ρ.set i (.own (.lst es)))[j]? = some (.own e') → σ[j]? = some (some (.ref b)) → (i = j ∧ b = a) ∨ (i ≠ j ∧ ρ[j]? = some (.own e') ∧ b ≠ a) := fun j b e' h1 h2 => by
    by_cases hj : i = j
    · subst hj
      rw [ha] at h2
      cases h2
      exact .inl ⟨rfl, rfl⟩
    · rw [List.getElem?_set_ne hj] at h1
      exact .inr ⟨hj, h1, fun z => hj (sr.inj i j a _ _ hi ha h1 (z ▸ h2))⟩
  have pow : ∀ b, Pow P0 σ (ρ.set i (.own (.lst es))) b ↔ Pow P0 σ ρ b := fun b => by
    constructor
    · rintro (h | ⟨j, e', h1, h2⟩)
      · exact .inl h
      · rcases old j b e' h1 h2 with ⟨_, z⟩ | ⟨_, z, _⟩
        · rw [z]; exact pa
        · exact .inr ⟨j, e', z, h2⟩
    · rintro (h | ⟨j, e', h1, h2⟩)
      · exact .inl h
      · by_cases hj : i = j
        · subst hj
          exact .inr ⟨i, _, List.getElem?_set_self hlt, h2⟩
        · exact .inr ⟨j, e', by rw [List.getElem?_set_ne hj]; exact h1, h2⟩
  have sub1 : Sub (Msk (Pow P0 σ ρ) H') (Msk (Pow P0 σ (ρ.set i (.own (.lst es)))) (upd H' a (.lst xs))) := fun b w h => by
    obtain ⟨h1, h2⟩ := msk_some.mp h
    exact msk_some.mpr ⟨fun z => h1 ((pow b).mp z), by rw [upd_ne (fun z => h1 (by rw [z]; exact pa))]; exact h2⟩
  have sub : Sub (Msk (Pow P0 σ ρ) H) (Msk (Pow P0 σ (ρ.set i (.own (.lst es)))) (upd H' a (.lst xs))) := Sub.trans (Sub.msk sr.ok.pu e) sub1
  refine ⟨⟨?_, .inl sr.pu, fun b h => ?_⟩, ⟨by rw [List.length_set]; exact sr.env.len, fun j s q => ?_⟩, fun i' j b d' e' h1 h2 h3 h4 => ?_, fun j b e' h1 h2 => ?_, fun b w h1 h2 => ?_, sr.fz, sr.pu⟩
  · obtain ⟨x, y, z, h1, h2⟩ := o.urn
    exact ⟨x, y, z, by rw [upd_ne (Ne.symm na)]; exact h1, h2⟩
  · by_cases z : b = a
    · rw [z, upd_same]; simp
    · rw [upd_ne z]; exact o.dom b ((pow b).mp h)
  · by_cases hj : i = j
    · subst hj
      obtain ⟨rfl, _⟩ := set_at q
      exact ⟨a, ha, (pow a).mpr pa, na, xs, upd_same, r.sub sub1⟩
    · have q0 := q
      rw [List.getElem?_set_ne hj] at q
      have z := sr.env.at_ j s q
      cases s with
      | no => trivial
      | me => exact z
      | val d' => obtain ⟨w, h1, h2⟩ := z; exact ⟨w, h1, h2.sub sub⟩
      | own d' =>
        obtain ⟨b, h1, h2, h3, h4⟩ := z
        have nb : b ≠ a := fun z => hj (sr.inj i j a _ _ hi ha q (z ▸ h1))
        exact ⟨b, h1, (pow b).mpr h2, h3, h4.move h3 sub (fun w h => by rw [upd_ne nb]; exact e _ _ h3 h) (fun b' w _ nb' hd h => by
          rw [upd_ne (fun z => by rw [z] at hd; rcases hd with ⟨x, hd⟩ | hd <;> (rw [k2] at hd; cases hd))]
          exact e b' w nb' h) fun b' hb _ => (pow b').mpr hb⟩
  · rcases old i' b d' h1 h2 with ⟨z1, z2⟩ | ⟨z1, a1, a2⟩
    · rcases old j b e' h3 h4 with ⟨y1, y2⟩ | ⟨_, _, b2⟩
      · exact z1.symm.trans y1
      · exact absurd z2 b2
    · rcases old j b e' h3 h4 with ⟨y1, y2⟩ | ⟨_, b1, b2⟩
      · exact absurd y2 a2
      · exact sr.inj i' j b d' e' a1 h2 b1 h4
  · rcases old j b e' h1 h2 with ⟨z1, z2⟩ | ⟨_, a1, _⟩
    · subst z2
      exact sr.new i b _ hi ha
    · exact sr.new j b e' a1 h2
  · have hne : b ≠ a := fun z => by
      subst z
      rcases (sr.new i b _ hi ha).2 with h | h
      · exact h1 h
      · rw [h] at h2; cases h2
    rw [upd_ne hne]
    exact e b w (fun z => h1 (z ▸ sr.fz)) (sr.fr b w h1 h2)
/-- all that the frame has, seen by the caller: its own lists too -/
def fullE (ρ : Env) : Env := ρ.map fun s => match s with
  | .own (.lst ds) => .val (.lst ds)
  | .own _ => .no
  | s => s
theorem SR.full (sr : SR c P0 Fz H0 H σ ρ n) : Ok c P0 H n ∧ EnvR c P0 H σ (fullE ρ) := by
  refine ⟨sr.ok.less (fun a h => .inl h) sr.pu, by unfold fullE; rw [List.length_map]; exact sr.env.len, fun i s q => ?_⟩
  unfold fullE at q
  rw [List.getElem?_map] at q
  cases hs : ρ[i]? with
  | none => rw [hs] at q; cases q
  | some s0 =>
    rw [hs] at q
    have q := Option.some.inj q
    subst q
    have sub : Sub (Msk (Pow P0 σ ρ) H) (Msk P0 H) := Sub.less fun a h => .inl h
    have z := sr.env.at_ i s0 hs
    cases s0 with
    | no => trivial
    | me => exact z
    | val d => obtain ⟨v, h1, h2⟩ := z; exact ⟨v, h1, h2.sub sub⟩
    | own d =>
      cases d with
      | lst ds =>
        obtain ⟨a, h1, h2, h3, xs, k1, k2⟩ := z
        exact ⟨.ref a, h1, .lst (msk_some.mpr ⟨(sr.new i a _ hs h1).1, k1⟩) (k2.sub sub)⟩
      | _ => trivial

/-! ### the statements -/
def sNext : Env → T Out := fun ρ => .ret (.nx ρ)
def sSeq (a b : Env → T Out) : Env → T Out := fun ρ => (a ρ).bind fun o => match o with
  | .nx ρ' => b ρ'
  | o => .ret o
/-- x = e -/
def sSet (i : Nat) (f : Env → T D) : Env → T Out := fun ρ => (f ρ).bind fun d => .ret (.nx (ρ.set i (.val d)))
/-- x = e, e may read the frame's own lists; the value is flat -/
def sSetF (i : Nat) (f : Env → T D) : Env → T Out := fun ρ => (f (fullE ρ)).bind fun d => match flatD d with
  | true => .ret (.nx (ρ.set i (.val d)))
  | false => .fail
/-- x = a new list, that x alone has -/
def sSetL (i : Nat) (f : Env → T (List D)) : Env → T Out := fun ρ => (f ρ).bind fun ds => match decide (i < ρ.length) with
  | true => .ret (.nx (ρ.set i (.own (.lst ds))))
  | false => .fail
def sDrop (f : Env → T D) : Env → T Out := fun ρ => (f ρ).bind fun _ => .ret (.nx ρ)
def sRet (f : Env → T D) : Env → T Out := fun ρ => (f (fullE ρ)).bind fun d => .ret (.rt d)
def sRetN : Env → T Out := fun _ => .ret (.rt .non)
def sIf (t : Env → T Bool) (a b : Env → T Out) : Env → T Out := fun ρ => (t ρ).bind fun k => match k with
  | true => a ρ
  | false => b ρ
def sBreak : Env → T Out := fun ρ => .ret (.bk ρ)
def sCont : Env → T Out := fun ρ => .ret (.ct ρ)
def sNever : Env → T Out := fun _ => .fail
theorem es_next : EvS c tNext sNext := fun P0 Fz H0 H σ ρ n Dn sr ok => ok σ H sr
theorem es_never : EvS c tNever sNever := fun P0 Fz H0 H σ ρ n Dn sr ok => ok.elim
theorem es_break : EvS c tBreak sBreak := fun P0 Fz H0 H σ ρ n Dn sr ok => ok σ H sr
theorem es_cont : EvS c tCont sCont := fun P0 Fz H0 H σ ρ n Dn sr ok => ok σ H sr
theorem es_seq {t u : TS} {F G : Env → T Out} (h : EvS c t F) (k : EvS c u G) : EvS c (tSeq t u) (sSeq F G) := fun P0 Fz H0 H σ ρ n Dn sr ok => by
  refine h P0 Fz H0 H σ ρ n { Dn with nx := u Dn } sr (T.ok_mono (T.ok_bind.mp ok) fun o m q => ?_)
  cases o with
  | nx ρ' => exact fun σ' H' sr' => k P0 Fz H0 H' σ' ρ' m Dn sr' q
  | rt d => exact q
  | bk ρ' => exact q
  | ct ρ' => exact q
theorem es_set {te : TE} {F : Env → T D} {i : Nat} (h : EvE c te F) : EvS c (tAsg te (gName i)) (sSet i F) := fun P0 Fz H0 H σ ρ n Dn sr ok =>
  h σ H _ ρ n _ sr.ok sr.env (T.ok_bind.mp ok) _ fun v H' d n' q e o r => q _ _ (sr.setVal e o r i)
theorem es_setF {te : TE} {F : Env → T D} {i : Nat} (h : EvE c te F) : EvS c (tAsg te (gName i)) (sSetF i F) := fun P0 Fz H0 H σ ρ n Dn sr ok =>
  h σ H P0 (fullE ρ) n _ sr.full.1 sr.full.2 (T.ok_bind.mp ok) _ fun v H' d n' q e o r => by
    split at q
    · rename_i hf
      exact q _ _ (sr.setVal e (sr.ok.exu o e) (flat_rep r hf) i)
    · exact q.elim
theorem es_setL {te : TE} {F : Env → T (List D)} {i : Nat} (h : EvL c te F) : EvS c (tAsg te (gName i)) (sSetL i F) := fun P0 Fz H0 H σ ρ n Dn sr ok =>
  h σ H _ ρ n _ sr.ok sr.env (T.ok_bind.mp ok) _ fun p xs H' ds n' q e o hn hp r => by
    split at q
    · rename_i hl
      exact q _ _ (sr.setOwn e o hn hp r (of_decide_eq_true hl))
    · exact q.elim
theorem SR.same (sr : SR c P0 Fz H0 H σ ρ n) (e : ExU c.u H H') (o : Ok c (Pow P0 σ ρ) H' n') : SR c P0 Fz H0 H' σ ρ n' :=
  ⟨o, sr.env.exu sr.ok.pu e, sr.inj, sr.new, fun a w h1 h2 => e a w (fun z => h1 (z ▸ sr.fz)) (sr.fr a w h1 h2), sr.fz, sr.pu⟩
theorem es_drop {te : TE} {F : Env → T D} (h : EvE c te F) : EvS c (tDrop te) (sDrop F) := fun P0 Fz H0 H σ ρ n Dn sr ok =>
  h σ H _ ρ n _ sr.ok sr.env (T.ok_bind.mp ok) _ fun v H' d n' q e o r => q _ _ (sr.same e o)
theorem es_ret {te : TE} {F : Env → T D} (h : EvE c te F) : EvS c (tRet te) (sRet F) := fun P0 Fz H0 H σ ρ n Dn sr ok =>
  h σ H P0 (fullE ρ) n _ sr.full.1 sr.full.2 (T.ok_bind.mp ok) _ fun v H' d n' q e o r => q v H' (fun a w h1 h2 => e a w (fun z => h1 (z ▸ sr.fz)) (sr.fr a w h1 h2)) o r
theorem es_retN : EvS c tRetN sRetN := fun P0 Fz H0 H σ ρ n Dn sr ok => ok .non H sr.fr sr.full.1 .non
theorem es_if {t : TT} {u v : TS} {B : Env → T Bool} {F G : Env → T Out} (h : EvT c t B) (h1 : EvS c u F) (h2 : EvS c v G) : EvS c (tIfS t u v) (sIf B F G) := fun P0 Fz H0 H σ ρ n Dn sr ok =>
  h σ H _ ρ n _ sr.ok sr.env (T.ok_bind.mp ok) _ fun b H' n' q e o => by
    cases b with
    | true =>
      rw [if_pos rfl]
      exact h1 P0 Fz H0 H' σ ρ n' Dn (sr.same e o) q
    | false =>
      rw [if_neg Bool.false_ne_true]
      exact h2 P0 Fz H0 H' σ ρ n' Dn (sr.same e o) q
end
end DL
end

section
set_option maxRecDepth 100000
set_option maxHeartbeats 2000000
/-! DLf: loops, changes of own lists, parallel assignments. -/
namespace DL
open PySem PySem.Spec PyProof.Rows L2 DR
section
variable {c : Ct} {P0 Fz : Addr → Prop} {H0 H H' : Hp} {σ : L2.St} {ρ : Env} {n n' : Nat}
/-! ### targets, at a statement -/
def EvGS (c : Ct) (g : TG) (F : D → Env → T Env) : Prop := ∀ (P0 Fz : Addr → Prop) (H0 H : Hp) (σ : L2.St) (ρ : Env) (n : Nat) (R : Env → Nat → Prop) (v : V) (d : D), SR c P0 Fz H0 H σ ρ n → Rep c (Msk (Pow P0 σ ρ) H) v d → (F d ρ).ok n R →
  ∀ Q : L2.St → Hp → Prop, (∀ σ' ρ' n', R ρ' n' → SR c P0 Fz H0 H σ' ρ' n' → (∀ a, Pow P0 σ' ρ' a → Pow P0 σ ρ a) → Q σ' H) → g v σ H Q
def EvGSs (c : Ct) (g : TGs) (F : List D → Env → T Env) : Prop := ∀ (P0 Fz : Addr → Prop) (H0 H : Hp) (σ : L2.St) (ρ : Env) (n : Nat) (R : Env → Nat → Prop) (xs : List V) (ds : List D), SR c P0 Fz H0 H σ ρ n → Reps c (Msk (Pow P0 σ ρ) H) xs ds → (F ds ρ).ok n R →
  ∀ Q : L2.St → Hp → Prop, (∀ σ' ρ' n', R ρ' n' → SR c P0 Fz H0 H σ' ρ' n' → (∀ a, Pow P0 σ' ρ' a → Pow P0 σ ρ a) → Q σ' H) → g xs σ H Q
theorem pow_setVal {i : Nat} {v : V} {d : D} : ∀ a, Pow P0 (σ.set i (some v)) (ρ.set i (.val d)) a → Pow P0 σ ρ a := fun a h => by
  rcases h with h | ⟨j, e', h1, h2⟩
  · exact .inl h
  · by_cases hj : i = j
    · subst hj
      have := (set_at h1).1
      cases this
    · exact .inr ⟨j, e', (set_own hj h1 h2).1, (set_own hj h1 h2).2⟩
theorem gs_name {i : Nat} : EvGS c (gName i) (gSet i) := fun P0 Fz H0 H σ ρ n R v d sr r ok Q q => q _ _ n ok (sr.setVal (ExU.refl _ _) sr.ok r i) pow_setVal
theorem gs_nil : EvGSs c gNil gsNil := fun P0 Fz H0 H σ ρ n R xs ds sr r ok Q q => by
  unfold gsNil at ok
  split at ok
  · cases r
    exact ⟨rfl, q σ ρ n ok sr fun _ h => h⟩
  · exact ok.elim
theorem gs_cons {g : TG} {gs : TGs} {f : D → Env → T Env} {fs : List D → Env → T Env} (h : EvGS c g f) (hs : EvGSs c gs fs) : EvGSs c (gCons g gs) (gsCons f fs) := fun P0 Fz H0 H σ ρ n R xs ds sr r ok Q q => by
  unfold gsCons at ok
  split at ok
  · rename_i d rr
    cases r with
    | cons h1 h2 =>
      refine ⟨_, _, rfl, h P0 Fz H0 H σ ρ n _ _ d sr h1 (T.ok_bind.mp ok) _ fun σ1 ρ1 n1 ok1 sr1 l1 => ?_⟩
      exact hs P0 Fz H0 H σ1 ρ1 n1 R _ rr sr1 (h2.sub (Sub.less l1)) ok1 Q fun σ2 ρ2 n2 ok2 sr2 l2 => q σ2 ρ2 n2 ok2 sr2 fun a z => l1 a (l2 a z)
  · exact ok.elim
theorem gs_tup {gs : TGs} {fs : List D → Env → T Env} {m : Nat} (h : EvGSs c gs fs) (hm : ∀ ds ρ n R, (fs ds ρ).ok n R → ds.length = m) : EvGS c (gTup c.K m gs) (gTupD fs) := fun P0 Fz H0 H σ ρ n R v d sr r ok Q q => by
  unfold gTupD at ok
  split at ok
  · cases r with
    | tup h1 h2 => exact ⟨_, _, rfl, sub_t Sub.of_msk h1.sq, by rw [h2.length]; exact hm _ _ _ _ ok, h P0 Fz H0 H σ ρ n R _ _ sr h2 ok Q q⟩
  · cases r with
    | pr h1 h2 h3 => exact ⟨_, _, rfl, sub_t Sub.of_msk h1, hm _ _ _ _ ok, h P0 Fz H0 H σ ρ n R _ _ sr (.cons h2 (.cons h3 .nil)) ok Q q⟩
  · exact ok.elim
/-- a, b = e -/
def sUnp (f : Env → T D) (g : D → Env → T Env) : Env → T Out := fun ρ => (f ρ).bind fun d => (g d ρ).bind fun ρ' => .ret (.nx ρ')
theorem es_unp {te : TE} {g : TG} {F : Env → T D} {G : D → Env → T Env} (h : EvE c te F) (hg : EvGS c g G) : EvS c (tAsg te g) (sUnp F G) := fun P0 Fz H0 H σ ρ n Dn sr ok =>
  h σ H _ ρ n _ sr.ok sr.env (T.ok_bind.mp ok) _ fun v H' d n' q e o r => hg P0 Fz H0 H' σ ρ n' _ v d (sr.same e o) r (T.ok_bind.mp q) _ fun σ' ρ' n'' q' sr' _ => q' _ _ sr'

/-! ### for -/
def forT (g : D → Env → T Env) (b : Env → T Out) (ρ : Env) : List D → T Out
  | [] => .ret (.nx ρ)
  | d :: r => (g d ρ).bind fun ρ1 => (b ρ1).bind fun o => match o with
    | .nx ρ' => forT g b ρ' r
    | .ct ρ' => forT g b ρ' r
    | .bk ρ' => .ret (.nx ρ')
    | .rt d => .ret (.rt d)
def sFor (i : Env → T (List D)) (g : D → Env → T Env) (b : Env → T Out) : Env → T Out := fun ρ => (i ρ).bind fun ds => forT g b ρ ds
/-- what may change within a loop -/
def FzL (c : Ct) (σ : L2.St) (ρ : Env) : Addr → Prop := fun a => a = c.u ∨ ∃ (i : Nat) (d : D), ρ[i]? = some (.own d) ∧ σ[i]? = some (some (.ref a))
theorem SR.enter (sr : SR c P0 Fz H0 H σ ρ n) : SR c P0 (FzL c σ ρ) H H σ ρ n :=
  ⟨sr.ok, sr.env, sr.inj, fun i a d h1 h2 => ⟨(sr.new i a d h1 h2).1, .inl (.inr ⟨i, d, h1, h2⟩)⟩, fun _ _ _ h => h, .inl rfl, sr.pu⟩
theorem SR.leave {σ' : L2.St} {ρ' : Env} {m : Nat} (sr : SR c P0 Fz H0 H σ ρ n) (s2 : SR c P0 (FzL c σ ρ) H H' σ' ρ' m) : SR c P0 Fz H0 H' σ' ρ' m := by
  refine ⟨s2.ok, s2.env, s2.inj, fun i a d h1 h2 => ⟨(s2.new i a d h1 h2).1, ?_⟩, fun a w h1 h2 => s2.fr a w ?_ (sr.fr a w h1 h2), sr.fz, sr.pu⟩
  · obtain ⟨b, k1, k2, _, _⟩ := s2.own h1
    rw [h2] at k1
    cases k1
    rcases (s2.new i a d h1 h2).2 with (h | ⟨j, e, m1, m2⟩) | h
    · exact absurd h k2
    · exact (sr.new j a e m1 m2).2
    · by_cases hf : Fz a
      · exact .inl hf
      · refine .inr ?_
        cases hq : H0 a with
        | none => rfl
        | some w => rw [sr.fr a w hf hq] at h; cases h
  · rintro (h | ⟨j, e, m1, m2⟩)
    · exact h1 (h ▸ sr.fz)
    · rcases (sr.new j a e m1 m2).2 with h | h
      · exact h1 h
      · rw [h] at h2; cases h2
theorem es_for {wi : TI} {g : TG} {tb : TS} {I : Env → T (List D)} {G : D → Env → T Env} {B : Env → T Out} (hi : EvI c wi I) (hg : EvGS c g G) (hb : EvS c tb B) : EvS c (tFor wi g tb) (sFor I G B) := by
  intro P0 Fz H0 H σ ρ n Dn sr ok
  refine hi σ H _ ρ n _ sr.ok sr.env (T.ok_bind.mp ok) _ fun J H1 ds n1 ok1 e1 o1 yl => ?_
  have sr1 := sr.same e1 o1
  -- what the loop keeps
  have kp : ∀ {σ' : L2.St} {ρ' : Env} {m : Nat} {G1 : Hp}, SR c P0 (FzL c σ ρ) H1 G1 σ' ρ' m → Sub (Msk (Pow P0 σ ρ) H1) G1 := fun s2 a w h => by
    obtain ⟨h1, h2⟩ := msk_some.mp h
    refine s2.fr a w ?_ h2
    rintro (z | ⟨j, e, m1, m2⟩)
    · exact h1 (.inl (z ▸ sr.pu))
    · exact h1 (.inr ⟨j, e, m1, m2⟩)
  let Pv : Nat → L2.St → Hp → Prop := fun i σ' G1 => ∃ ρ' m, SR c P0 (FzL c σ ρ) H1 G1 σ' ρ' m ∧ (forT G B ρ' (ds.drop i)).ok m (endR c P0 Fz H0 Dn)
  have W : Walk J ds.length (fun G1 => Sub (Msk (Pow P0 σ ρ) H1) G1) (fun i G1 v G2 => ∃ d, ds[i]? = some d ∧ ((G2 = G1 ∧ Rep c (Msk (Pow P0 σ ρ) H1) v d) ∨ ∃ T x y d1 d2, v = .ref T ∧ G1 T = none ∧ G2 = upd G1 T (.tup [x, y]) ∧ d = .pr d1 d2 ∧ Rep c (Msk (Pow P0 σ ρ) H1) x d1 ∧ Rep c (Msk (Pow P0 σ ρ) H1) y d2)) :=
    ⟨fun i G1 hi hG => yl.go i G1 hG hi, fun G1 hG => yl.stop G1 hG, fun i G1 v G2 hi hG hy => ⟨ds[i], List.getElem?_eq_getElem hi, yl.yl i G1 v G2 _ hG (List.getElem?_eq_getElem hi) hy⟩⟩
  refine for_it W Pv ⟨ρ, n1, sr1.enter, ok1⟩ (fun i σ' G1 _ p => let ⟨_, _, s2, _⟩ := p; kp s2) (fun i v σ' G1 G2 hi p hy => ?_) fun σ' G1 p => ?_
  · obtain ⟨ρ', m, s2, p6⟩ := p
    obtain ⟨d, hd, hy⟩ := hy
    have hdrop : ds.drop i = d :: ds.drop (i + 1) := by
      have h1 : i < ds.length := (List.getElem?_eq_some_iff.mp hd).1
      have h2 := List.drop_eq_getElem_cons h1
      have h3 : ds[i] = d := by rw [List.getElem?_eq_getElem h1] at hd; exact Option.some.inj hd
      rw [h2, h3]
    rw [hdrop] at p6
    have sub1 : Sub (Msk (Pow P0 σ ρ) H1) (Msk (Pow P0 σ' ρ') G1) := fun a w h => by
      obtain ⟨h1, h2⟩ := msk_some.mp h
      refine msk_some.mpr ⟨?_, kp s2 a w h⟩
      rintro (z | ⟨j, e, m1, m2⟩)
      · exact h1 (.inl z)
      · rcases (s2.new j a e m1 m2).2 with (z | z) | z
        · exact h1 (.inl (z ▸ sr.pu))
        · exact h1 (.inr z)
        · rw [z] at h2; cases h2
    have key : SR c P0 (FzL c σ ρ) H1 G2 σ' ρ' m ∧ Rep c (Msk (Pow P0 σ' ρ') G2) v d := by
      rcases hy with ⟨rfl, r⟩ | ⟨T, x, y, d1, d2, rfl, hT, rfl, rfl, r1, r2⟩
      · exact ⟨s2, r.sub sub1⟩
      · exact ⟨s2.same (ExU.new hT) (s2.ok.new hT), rep_newP s2.ok hT (r1.sub sub1) (r2.sub sub1)⟩
    obtain ⟨s3, r3⟩ := key
    refine hg P0 _ H1 G2 σ' ρ' m _ v d s3 r3 (T.ok_bind.mp p6) _ fun σ4 ρ4 n4 ok4 s4 _ => ?_
    refine hb P0 _ H1 G2 σ4 ρ4 n4 _ s4 (T.ok_mono (T.ok_bind.mp ok4) fun o k q => ?_)
    cases o with
    | nx ρ5 => exact fun σ5 G5 s5 => ⟨ρ5, k, s5, q⟩
    | ct ρ5 => exact fun σ5 G5 s5 => ⟨ρ5, k, s5, q⟩
    | bk ρ5 => exact fun σ5 G5 s5 => q σ5 G5 (sr1.leave s5)
    | rt d' =>
      refine fun v' G5 f5 o5 r5 => q v' G5 (fun a w h1 h2 => f5 a w ?_ (sr1.fr a w h1 h2)) o5 r5
      rintro (h | ⟨j, e, m1, m2⟩)
      · exact h1 (h ▸ sr.fz)
      · rcases (sr.new j a e m1 m2).2 with h | h
        · exact h1 h
        · rw [h] at h2; cases h2
  · obtain ⟨ρ', m, s2, p6⟩ := p
    rw [List.drop_of_length_le (Nat.le_refl _)] at p6
    exact p6 σ' G1 (sr1.leave s2)

/-! ### while -/
def whileT (t : Env → T Bool) (b : Env → T Out) : Nat → Env → T Out
  | 0, _ => .fail
  | k + 1, ρ => (t ρ).bind fun x => match x with
    | true => (b ρ).bind fun o => match o with
      | .nx ρ' => whileT t b k ρ'
      | .ct ρ' => whileT t b k ρ'
      | .bk ρ' => .ret (.nx ρ')
      | .rt d => .ret (.rt d)
    | false => .ret (.nx ρ)
def sWhile (k : Nat) (t : Env → T Bool) (b : Env → T Out) : Env → T Out := whileT t b k
theorem es_while {t : TT} {tb : TS} {k : Nat} {C : Env → T Bool} {B : Env → T Out} (ht : EvT c t C) (hb : EvS c tb B) : EvS c (tWhile t tb) (sWhile k C B) := by
  intro P0 Fz H0 H σ ρ n Dn sr ok
  refine ⟨fun m σ' G => ∃ ρ' n', SR c P0 Fz H0 G σ' ρ' n' ∧ (whileT C B m ρ').ok n' (endR c P0 Fz H0 Dn), ⟨k, ρ, n, sr, ok⟩, fun m σ' G ⟨ρ', n', s2, p⟩ => ?_⟩
  cases m with
  | zero => exact p.elim
  | succ m =>
    refine ht σ' G _ ρ' n' _ s2.ok s2.env (T.ok_bind.mp p) _ fun b G1 n1 ok1 e1 o1 => ?_
    have s3 := s2.same e1 o1
    cases b with
    | false =>
      rw [if_neg Bool.false_ne_true]
      exact ok1 _ _ s3
    | true =>
      rw [if_pos rfl]
      refine ⟨fun σ5 G5 => ∃ ρ5 n5, SR c P0 Fz H0 G5 σ5 ρ5 n5 ∧ (whileT C B m ρ5).ok n5 (endR c P0 Fz H0 Dn), fun σ5 G5 h => ⟨m, Nat.lt_succ_self _, h⟩, hb P0 Fz H0 G1 σ' ρ' n1 _ s3 (T.ok_mono (T.ok_bind.mp ok1) fun o k q => ?_)⟩
      cases o with
      | nx ρ5 => exact fun σ5 G5 s5 => ⟨ρ5, k, s5, q⟩
      | ct ρ5 => exact fun σ5 G5 s5 => ⟨ρ5, k, s5, q⟩
      | bk ρ5 => exact q
      | rt d' => exact q

/-! ### own lists changed -/
def ownL (ρ : Env) (i : Nat) : T (List D) := match ρ[i]? with
  | some (.own (.lst ds)) => .ret ds
  | _ => .fail
theorem ownL_ok {i : Nat} {R : List D → Nat → Prop} (h : (ownL ρ i).ok n R) : ∃ ds, ρ[i]? = some (.own (.lst ds)) ∧ R ds n := by
  unfold ownL at h
  split at h
  · rename_i ds e
    exact ⟨ds, e, h⟩
  · exact h.elim
/-- x.append(e) -/
def sApp (i : Nat) (f : Env → T D) : Env → T Out := fun ρ => (ownL ρ i).bind fun ds => (f ρ).bind fun d => match decide (ds.length < capD) with
  | true => .ret (.nx (ρ.set i (.own (.lst (ds ++ [d])))))
  | false => .fail
def sAppF (i : Nat) (f : Env → T D) : Env → T Out := fun ρ => (ownL ρ i).bind fun ds => (f (fullE ρ)).bind fun d => match flatD d && decide (ds.length < capD) with
  | true => .ret (.nx (ρ.set i (.own (.lst (ds ++ [d])))))
  | false => .fail
theorem SR.lst (sr : SR c P0 Fz H0 H σ ρ n) {i : Nat} {ds : List D} (h : ρ[i]? = some (.own (.lst ds))) : ∃ a xs, σ[i]? = some (some (.ref a)) ∧ a ≠ c.u ∧ H a = some (.lst xs) ∧ Reps c (Msk (Pow P0 σ ρ) H) xs ds := by
  obtain ⟨a, h1, h2, ⟨xs, h3, h4⟩, _⟩ := sr.own h
  exact ⟨a, xs, h1, h2, h3, h4⟩
theorem es_app {te : TE} {F : Env → T D} {i : Nat} (h : EvE c te F) : EvS c (tDrop (tBM c.K "list" rAppend (tVar i) (tCons te tNil))) (sApp i F) := fun P0 Fz H0 H σ ρ n Dn sr ok => by
  obtain ⟨ds, hd, ok1⟩ := ownL_ok (T.ok_bind.mp ok)
  obtain ⟨a, xs, h1, na, h3, h4⟩ := sr.lst hd
  refine ⟨.ref a, h1, .inl ⟨rfl, xs, .of h3⟩, h σ H _ ρ n _ sr.ok sr.env (T.ok_bind.mp ok1) _ fun v H' d n' q e o r => ?_⟩
  split at q
  · rename_i hl
    have hl := of_decide_eq_true hl
    have l := h4.length
    exact ⟨a, xs, v, rfl, rfl, e a _ na h3, cap_lt (by omega), q _ _ (sr.mut e o hd h1 ((h4.sub (Sub.msk sr.ok.pu e)).append (.one r)))⟩
  · exact q.elim
theorem es_appF {te : TE} {F : Env → T D} {i : Nat} (h : EvE c te F) : EvS c (tDrop (tBM c.K "list" rAppend (tVar i) (tCons te tNil))) (sAppF i F) := fun P0 Fz H0 H σ ρ n Dn sr ok => by
  obtain ⟨ds, hd, ok1⟩ := ownL_ok (T.ok_bind.mp ok)
  obtain ⟨a, xs, h1, na, h3, h4⟩ := sr.lst hd
  refine ⟨.ref a, h1, .inl ⟨rfl, xs, .of h3⟩, h σ H P0 (fullE ρ) n _ sr.full.1 sr.full.2 (T.ok_bind.mp ok1) _ fun v H' d n' q e o r => ?_⟩
  split at q
  · rename_i hl
    obtain ⟨hf, hl⟩ := Bool.and_eq_true_iff.mp hl
    have hl := of_decide_eq_true hl
    have l := h4.length
    exact ⟨a, xs, v, rfl, rfl, e a _ na h3, cap_lt (by omega), q _ _ (sr.mut e (sr.ok.exu o e) hd h1 ((h4.sub (Sub.msk sr.ok.pu e)).append (.one (flat_rep r hf))))⟩
  · exact q.elim
/-- x.extend(a list) -/
def sExt (i : Nat) (f : Env → T D) : Env → T Out := fun ρ => (ownL ρ i).bind fun ds => (f ρ).bind fun d => match d with
  | .lst es => (match decide (ds.length + es.length < capD) with
    | true => .ret (.nx (ρ.set i (.own (.lst (ds ++ es)))))
    | false => .fail)
  | _ => .fail
theorem es_ext {te : TE} {F : Env → T D} {i : Nat} (h : EvE c te F) : EvS c (tDrop (tBM c.K "list" rExtend (tVar i) (tCons te tNil))) (sExt i F) := fun P0 Fz H0 H σ ρ n Dn sr ok => by
  obtain ⟨ds, hd, ok1⟩ := ownL_ok (T.ok_bind.mp ok)
  obtain ⟨a, xs, h1, na, h3, h4⟩ := sr.lst hd
  refine ⟨.ref a, h1, .inl ⟨rfl, xs, .of h3⟩, h σ H _ ρ n _ sr.ok sr.env (T.ok_bind.mp ok1) _ fun v H' d n' q e o r => ?_⟩
  split at q
  · split at q
    · rename_i es _ hl
      have hl := of_decide_eq_true hl
      have l := h4.length
      cases r with
      | lst k1 k2 =>
        have l2 := k2.length
        exact ⟨a, _, xs, _, rfl, rfl, e a _ na h3, Sub.of_msk _ _ k1, cap_le (by omega), q _ _ (sr.mut e o hd h1 ((h4.sub (Sub.msk sr.ok.pu e)).append k2))⟩
    · exact q.elim
  · exact q.elim

/-! ### x += e -/
def sAug (i : Nat) (f : Int → Int → Int) (g : Env → T D) : Env → T Out := fun ρ => match ρ[i]? with
  | some (.val (.int a)) => (g ρ).bind fun d => match d with
    | .int b => .ret (.nx (ρ.set i (.val (.int (f a b)))))
    | _ => .fail
  | _ => .fail
theorem es_aug {te : TE} {F : Env → T D} {i : Nat} {f : Int → Int → Int} (h : EvX c te F) : EvS c (tAug i te (ipI f)) (sAug i f F) := fun P0 Fz H0 H σ ρ n Dn sr ok => by
  unfold sAug at ok
  split at ok
  · rename_i a hs
    obtain ⟨v, h1, h2⟩ := sr.env.at_ i _ hs
    obtain rfl := rep_int h2
    refine ⟨_, h1, h σ H _ ρ n _ sr.ok sr.env (T.ok_bind.mp ok) _ fun w H' d n' q e o r => ?_⟩
    split at q
    · obtain rfl := r.int
      exact ⟨_, _, rfl, rfl, q _ _ (sr.setVal e o (.int _) i)⟩
    · exact q.elim
  · exact ok.elim
end
end DL
end

section
set_option maxRecDepth 100000
set_option maxHeartbeats 4000000
/-! DLg: defs, calls, classes. -/
namespace DL
open PySem PySem.Spec PyProof.Rows L2 DR C8
/-! ### another instance in the making -/
mutual
theorem Rep.meI {c : Ct} {x : Addr} {G : Hp} {v : V} {d : D} : Rep c G v d → Rep { c with me := x } G v d
  | .non => .non
  | .bl b => .bl b
  | .int i => .int i
  | .str x => .str x
  | .lst h r => .lst h (Reps.meI r)
  | .tup h r => .tup h (Reps.meI r)
  | .obj h r => .obj h (Reps.meI r)
  | .urn => .urn
  | .pr h r1 r2 => .pr h (Rep.meI r1) (Rep.meI r2)
theorem Reps.meI {c : Ct} {x : Addr} {G : Hp} {vs : List V} {ds : List D} : Reps c G vs ds → Reps { c with me := x } G vs ds
  | .nil => .nil
  | .cons h r => .cons (Rep.meI h) (Reps.meI r)
end
/-! ### promises -/
/-- the promise of a def -/
def spF (K : PySem.W.Frag) (cls : Nat → Addr) (F : List D → T D) : Sp := fun vs H Q _ => ∃ (u me : Addr) (P : Addr → Prop) (n : Nat) (ds : List D) (R : D → Nat → Prop), Ok ⟨K, u, cls, me⟩ P H n ∧ Reps ⟨K, u, cls, me⟩ (Msk P H) vs ds ∧ (F ds).ok n R ∧
  ∀ v H' d n', R d n' → ExU u H H' → Ok ⟨K, u, cls, me⟩ P H' n' → Rep ⟨K, u, cls, me⟩ (Msk P H') v d → Q v H'
/-- the promise of an __init__ -/
def spI (K : PySem.W.Frag) (cls : Nat → Addr) (kk : Nat) (F : List D → T (List D)) : Sp := fun vs H Q _ => ∃ (x : Addr) (ws : List V) (u : Addr) (P : Addr → Prop) (n : Nat) (ds : List D) (R : List D → Nat → Prop) (dx : Addr), vs = .ref x :: ws ∧
  Ok ⟨K, u, cls, x⟩ P H n ∧ Reps ⟨K, u, cls, x⟩ (Msk P H) ws ds ∧ P x ∧ P dx ∧ x ≠ u ∧ dx ≠ u ∧ dx ≠ x ∧ H x = some (.ins (cls kk) dx []) ∧ H dx = some (.own x) ∧ (F ds).ok n R ∧
  ∀ H' fs xs n', R fs n' → (∀ a w, a ≠ u → a ≠ x → a ≠ dx → H a = some w → H' a = some w) → Ok ⟨K, u, cls, x⟩ P H' n' → SlX.Slt H' x (cls kk) dx (xs.map some) → Reps ⟨K, u, cls, x⟩ (Msk P H') xs fs → Q .non H'
section
variable {c : Ct}
theorem ev_call {ta : TA} {A : Env → T (List D)} {F : List D → T D} (h : EvA c ta A) : EvE c (tCall (spF c.K c.cls F) [] C8.E0 ta) (fun ρ => (A ρ).bind F) := fun σ H P ρ n R o er ok Q q =>
  h σ H P ρ n _ o er (T.ok_bind.mp ok) _ fun vs H1 ds n1 ok1 e1 o1 rs => by
    show spF c.K c.cls F (vs ++ []) H1 Q C8.E0
    rw [List.append_nil]
    exact ⟨c.u, c.me, P, n1, ds, R, o1, rs, ok1, fun v H2 d n2 r e o2 rp => q v H2 d n2 r (e1.trans e) o2 rp⟩
/-- a property of an instance of the class number k -/
def fProp (k : Nat) (F : List D → T D) (a : Env → T D) : Env → T D := fun ρ => (a ρ).bind fun d => match d with
  | .obj k' fs => (match decide (k' = k) with | true => F [.obj k' fs] | false => .fail)
  | _ => .fail
theorem ev_prop {te : TE} {A : Env → T D} {F : List D → T D} {k : Nat} (h : EvE c te A) : EvE c (SlX.tPropSl (c.cls k) (spF c.K c.cls F) C8.E0 te) (fProp k F A) := fun σ H P ρ n R o er ok Q q =>
  h σ H P ρ n _ o er (T.ok_bind.mp ok) _ fun v H1 d n1 ok1 e1 o1 rv => by
    split at ok1
    · rename_i k' fs
      split at ok1
      · rename_i hk
        obtain rfl := of_decide_eq_true hk
        cases rv with
        | obj s r => exact ⟨_, _, _, rfl, sub_slt Sub.of_msk s, c.u, c.me, P, n1, [.obj k' fs], R, o1, .cons (.obj s r) .nil, ok1, fun v H2 d n2 r e o2 rp => q v H2 d n2 r (e1.trans e) o2 rp⟩
      · exact ok1.elim
    · exact ok1.elim
/-- the slot number j of an instance of the class number k -/
structure Fld (K : PySem.W.Frag) (C : Addr) (f : Str) (j : Nat) : Prop where
  sc : SlX.SCls K C
  s1 : ∃ p, SlX.Slot1 K C f p j
def fFld (k j : Nat) (a : Env → T D) : Env → T D := fun ρ => (a ρ).bind fun d => match d with
  | .obj k' fs => (match decide (k' = k) with | true => (match fs[j]? with | some d => .ret d | none => .fail) | false => .fail)
  | _ => .fail
theorem ev_fld {te : TE} {A : Env → T D} {k j : Nat} {f : Str} (hf : Fld c.K (c.cls k) f j) (h : EvE c te A) : EvE c (SlX.tSl c.K te f) (fFld k j A) := fun σ H P ρ n R o er ok Q q =>
  h σ H P ρ n _ o er (T.ok_bind.mp ok) _ fun v H1 d n1 ok1 e1 o1 rv => by
    split at ok1
    · rename_i k' fs
      split at ok1
      · rename_i hk
        obtain rfl := of_decide_eq_true hk
        split at ok1
        · rename_i d' hd
          cases rv with
          | obj s r =>
            obtain ⟨w, hw, rw_⟩ := r.get hd
            obtain ⟨p, s1⟩ := hf.s1
            exact ⟨_, _, _, p, _, j, w, rfl, sub_slt Sub.of_msk s, hf.sc, s1, by rw [List.getElem?_map, hw]; rfl, q _ H1 _ n1 ok1 e1 o1 rw_⟩
        · exact ok1.elim
      · exact ok1.elim
    · exact ok1.elim
/-- .. of the instance in the making, its slots as ρ says -/
def fFldO (i k j : Nat) : Env → T D := fun ρ => match ρ[i]? with
  | some (.own (.obj k' fs)) => (match decide (k' = k) with | true => (match fs[j]? with | some .urn => .fail | some d => .ret d | none => .fail) | false => .fail)
  | _ => .fail
theorem ev_fldO {i k j : Nat} {f : Str} (hf : Fld c.K (c.cls k) f j) : EvE c (SlX.tSl c.K (tVar i) f) (fFldO i k j) := fun σ H P ρ n R o er ok Q q => by
  unfold fFldO at ok
  split at ok
  · rename_i k' fs hi
    split at ok
    · rename_i hk
      obtain rfl := of_decide_eq_true hk
      obtain ⟨a, h1, h2, h3, dx, xs, k1, k2, k3, k4, k5, k6⟩ := er.at_ i _ hi
      split at ok
      · exact ok.elim
      · rename_i d' hne hd
        rcases k6 j d' hd with z | ⟨w, w1, w2⟩
        · exact (hne z).elim
        · obtain ⟨p, s1⟩ := hf.s1
          exact ⟨.ref a, h1, a, _, dx, p, xs, j, w, rfl, k5, hf.sc, s1, w1, q _ H _ n ok (ExU.refl _ _) o w2⟩
      · exact ok.elim
    · exact ok.elim
  · exact ok.elim
/-! ### bodies -/
def outD : Out → T D
  | .nx _ => .ret .non
  | .rt d => .ret d
  | _ => .fail
/-- a def of np parameters and m further names -/
def runDef (np m : Nat) (B : Env → T Out) : List D → T D := fun ds => match decide (ds.length = np) with
  | true => (B (ds.map .val ++ List.replicate m .no)).bind outD
  | false => .fail
theorem run_len {K : PySem.W.Frag} {cls : Nat → Addr} {np m : Nat} {B : Env → T Out} {vs : List V} {H : Hp} {Q : VK} {E : XK} (h : spF K cls (runDef np m B) vs H Q E) : vs.length = np := by
  obtain ⟨u, me, P, n, ds, R, o, rs, ok, q⟩ := h
  unfold runDef at ok
  split at ok
  · rename_i hl
    rw [rs.length]; exact of_decide_eq_true hl
  · exact ok.elim
theorem slots_val {P : Addr → Prop} {H : Hp} {m : Nat} : ∀ {vs : List V} {ds : List D}, Reps c (Msk P H) vs ds → EnvR c P H (vs.map some ++ List.replicate m none) (ds.map .val ++ List.replicate m .no) := by
  intro vs ds r
  refine ⟨by simp [r.length], fun i s h => ?_⟩
  have hl := r.length
  by_cases hi : i < ds.length
  · rw [List.getElem?_append_left (by rw [List.length_map]; exact hi), List.getElem?_map, List.getElem?_eq_getElem hi] at h
    cases h
    obtain ⟨v, hv, rv⟩ := r.get (List.getElem?_eq_getElem hi)
    exact ⟨v, by rw [List.getElem?_append_left (by rw [List.length_map, hl]; exact hi), List.getElem?_map, hv]; rfl, rv⟩
  · rw [List.getElem?_append_right (by rw [List.length_map]; omega), List.getElem?_replicate] at h
    split at h
    · cases h; trivial
    · cases h
theorem noOwn {ds : List D} {m i : Nat} {d : D} (h : (ds.map Slot.val ++ List.replicate m Slot.no)[i]? = some (.own d)) : False := by
  by_cases hi : i < ds.length
  · rw [List.getElem?_append_left (by rw [List.length_map]; exact hi), List.getElem?_map, List.getElem?_eq_getElem hi] at h
    cases h
  · rw [List.getElem?_append_right (by rw [List.length_map]; omega), List.getElem?_replicate] at h
    split at h <;> cases h
theorem sr_start {P Fz : Addr → Prop} {H : Hp} {σ : L2.St} {ρ : Env} {n : Nat} (o : Ok c P H n) (er : EnvR c P H σ ρ) (no : ∀ (i : Nat) (d : D), ρ[i]? ≠ some (.own d)) (hz : Fz c.u) : SR c P Fz H H σ ρ n := by
  have pw : ∀ a, Pow P σ ρ a ↔ P a := fun a => ⟨fun h => h.elim id fun ⟨i, d, h1, _⟩ => absurd h1 (no i d), .inl⟩
  have e : Pow P σ ρ = P := funext fun a => propext (pw a)
  refine ⟨by rw [e]; exact o, by rw [e]; exact er, fun i j a d e h1 => absurd h1 (no i d), fun i a d h1 => absurd h1 (no i d), fun a w _ h => h, hz, o.pu⟩
theorem run_body {K : PySem.W.Frag} {cls : Nat → Addr} {N : List Str} {np : Nat} {B : Env → T Out} {t : TS} {vs : List V} {H : Hp} {Q : VK} {E : XK} (hB : ∀ u me, EvS ⟨K, u, cls, me⟩ t B)
    (h : spF K cls (runDef np (N.length - np) B) vs H Q E) : t { nx := fun _ H' => Q .non H', rt := Q } (L2.start N vs) H := by
  have hl := run_len h
  obtain ⟨u, me, P, n, ds, R, o, rs, ok, q⟩ := h
  unfold runDef at ok
  split at ok
  · rename_i hld
    refine hB u me P (fun a => a = u) H H _ (ds.map .val ++ List.replicate (N.length - np) .no) n _ (sr_start o ?_ (fun i d h => noOwn h) rfl) ?_
    · unfold L2.start
      rw [hl]
      exact slots_val rs
    · refine T.ok_mono (T.ok_bind.mp ok) fun out k hk => ?_
      cases out with
      | nx ρ => exact fun σ H' sr => q _ _ _ _ hk (fun a w ha hw => sr.fr a w ha hw) sr.full.1 .non
      | rt d => exact fun v H' fr o' rp => q _ _ _ _ hk (fun a w ha hw => fr a w ha hw) o' rp
      | bk ρ => exact hk.elim
      | ct ρ => exact hk.elim
  · exact ok.elim
variable {P : Program} {w : World} {K : PySem.W.Frag} {mg : Str → Option Value} {base : Heap} {cls : Nat → Addr}
theorem cal_def {x : Str} {st : Stmt} {f : Addr} {fd : FuncData} {N ps : List Str} {k : Nat} {B : Env → T Out} (F : Def K mg x st f fd) (b : Binds K fd ps []) (S : FnScope N ps (fnScope st))
    (hbody : ∀ (cdv : Value) (A : Around) (outer : List PySem.Env) (s : Shared) (H : Hp) (E : XK), Room k (A.deeper (envOfC x (fnScope st) s.heap.objs.size f cdv)) →
      ∃ t, PSs (cxOf C8.CX0 P w K mg base N x (fnScope st) f cdv A outer s H E).nox (fnBody st) t ∧ ∀ u me, EvS ⟨K, u, cls, me⟩ t B) : Cal P w K mg base (k + 1) x (spF K cls (runDef ps.length (N.length - ps.length) B)) [] :=
  cal0 F b .nil S (fun _ _ _ _ h => run_len h) fun cdv A outer s H vs Q E hr h => by
    obtain ⟨t, h1, h2⟩ := hbody cdv A outer s H E hr
    exact ⟨t, h1, run_body h2 h⟩
end
end DL
end

section
set_option maxRecDepth 100000
set_option maxHeartbeats 4000000
/-! DLh: __init__ and C(..). -/
namespace DL
open PySem PySem.Spec PyProof.Rows L2 DR
/-- the object in the making at c.me: fs its slots, urn where none is set -/
structure MkS (c : Ct) (P : Addr → Prop) (kk : Nat) (dx : Addr) (H : Hp) (xs : List (Option V)) (fs : List D) : Prop where
  p1 : P c.me
  p2 : P dx
  n1 : c.me ≠ c.u
  n2 : dx ≠ c.u
  n3 : dx ≠ c.me
  d : H dx = some (.own c.me) ∨ H dx = some (.xd [])
  s : SlX.Slt H c.me (c.cls kk) dx xs
  len : xs.length ≤ fs.length
  at_ : ∀ (i : Nat) (d : D), fs[i]? = some d → d = .urn ∨ ∃ w, xs[i]? = some (some w) ∧ Rep c (Msk P H) w d
def EvJ (c : Ct) (kk : Nat) (t : TS) (J : List D → Env → T (List D)) : Prop := ∀ (P : Addr → Prop) (H : Hp) (σ : L2.St) (ρ : Env) (n : Nat) (dx : Addr) (xs : List (Option V)) (fs : List D) (R : List D → Nat → Prop) (Dn : Ends),
  Ok c P H n → EnvR c P H σ ρ → ρ[0]? = some .me → (∀ (i : Nat) (d : D), ρ[i]? ≠ some (.own d)) → MkS c P kk dx H xs fs → (J fs ρ).ok n R →
  (∀ H' n' xs' fs', R fs' n' → (∀ a w, a ≠ c.u → a ≠ c.me → a ≠ dx → H a = some w → H' a = some w) → Ok c P H' n' → EnvR c P H' σ ρ → MkS c P kk dx H' xs' fs' → Dn.nx σ H') → t Dn σ H
section
variable {c : Ct} {kk : Nat}
theorem MkS.exu {P : Addr → Prop} {dx : Addr} {H H' : Hp} {xs : List (Option V)} {fs : List D} (m : MkS c P kk dx H xs fs) (hu : P c.u) (e : ExU c.u H H') : MkS c P kk dx H' xs fs :=
  ⟨m.p1, m.p2, m.n1, m.n2, m.n3, m.d.imp (e _ _ m.n2) (e _ _ m.n2), slt_exu e m.n1 m.n2 m.s, m.len, fun i d h => (m.at_ i d h).imp id fun ⟨w, h1, h2⟩ => ⟨w, h1, h2.sub (Sub.msk hu e)⟩⟩
/-- self.f = e; the slots so far stand in ρ -/
def jFld (j : Nat) (f : Env → T D) : List D → Env → T (List D) := fun fs ρ => (f (ρ.set 0 (.own (.obj kk fs)))).bind fun d => match d with
  | .urn => .fail
  | d => (match decide (j < fs.length) with | true => .ret (fs.set j d) | false => .fail)
theorem putS_len {i : Nat} {v : V} {vs : List (Option V)} {n : Nat} (h : vs.length ≤ n) (hi : i < n) : (SlX.putS i v vs).length ≤ n := by
  unfold SlX.putS
  rw [List.length_set, List.length_append, List.length_replicate]
  omega
theorem ej_fld {te : TE} {F : Env → T D} {f : Str} {j : Nat} (hf : Fld c.K (c.cls kk) f j) (h : EvE c te F) : EvJ c kk (SlX.sSl c.K (tVar 0) te f) (jFld (kk := kk) j F) := by
  intro P H σ ρ n dx xs fs R Dn o er hme no m ok q
  have hx : σ[0]? = some (some (.ref c.me)) := er.at_ 0 _ hme
  have h0 : 0 < ρ.length := (List.getElem?_eq_some_iff.mp hme).1
  have er2 : EnvR c P H σ (ρ.set 0 (.own (.obj kk fs))) := by
    refine ⟨by rw [List.length_set]; exact er.len, fun i s hs => ?_⟩
    by_cases hi : i = 0
    · subst hi
      rw [List.getElem?_set_self h0] at hs
      cases hs
      exact ⟨c.me, hx, m.p1, m.n1, dx, xs, m.p2, m.n2, m.n3, m.d, m.s, m.at_⟩
    · rw [List.getElem?_set_ne (Ne.symm hi)] at hs
      exact er.at_ i s hs
  refine h σ H P _ n _ o er2 (T.ok_bind.mp ok) _ fun v H1 d n1 ok1 e1 o1 rv => ?_
  have m1 := m.exu o.pu e1
  obtain ⟨p, s1⟩ := hf.s1
  have key : d ≠ .urn ∧ j < fs.length ∧ R (fs.set j d) n1 := by
    cases d with
    | urn => exact ok1.elim
    | _ =>
      simp only at ok1
      split at ok1
      · rename_i hj
        exact ⟨(by intro z; cases z), of_decide_eq_true hj, ok1⟩
      · exact ok1.elim
  obtain ⟨hd, hj, hR⟩ := key
  refine ⟨.ref c.me, hx, c.me, _, dx, p, xs, j, rfl, m1.s, hf.sc, s1, ?_⟩
  have hmem : ∀ a w, a ≠ c.me → a ≠ dx → H1 a = some w → SlX.slH H1 c.me (c.cls kk) dx (SlX.putS j v xs) a = some w := fun a w h1 h2 h3 => by rw [SlX.slH_ne h1 h2]; exact h3
  have sub : Sub (Msk P H1) (Msk P (SlX.slH H1 c.me (c.cls kk) dx (SlX.putS j v xs))) := fun a w h => by
    obtain ⟨h1, h2⟩ := msk_some.mp h
    exact msk_some.mpr ⟨h1, hmem a w (fun z => h1 (z ▸ m.p1)) (fun z => h1 (z ▸ m.p2)) h2⟩
  have o2 : Ok c P (SlX.slH H1 c.me (c.cls kk) dx (SlX.putS j v xs)) n1 := by
    refine ⟨?_, o1.pu, fun a ha => ?_⟩
    · obtain ⟨a, b, e, h1, h2⟩ := o1.urn
      exact ⟨a, b, e, hmem _ _ (Ne.symm m.n1) (Ne.symm m.n2) h1, h2⟩
    · by_cases z1 : a = c.me
      · rw [z1]; unfold SlX.slH; rw [upd_same]; simp
      · by_cases z2 : a = dx
        · rw [z2]; unfold SlX.slH; rw [upd_ne m.n3, upd_same]; simp
        · rw [SlX.slH_ne z1 z2]; exact o1.dom a ha
  have er3 := er.exu o.pu e1
  refine q _ n1 (SlX.putS j v xs) (fs.set j d) hR (fun a w h1 h2 h3 h4 => hmem a w h2 h3 (e1 a w h1 h4)) o2 ⟨er3.len, fun i s hs => ?_⟩ ⟨m.p1, m.p2, m.n1, m.n2, m.n3, .inr ?_, SlX.slH_slt m.n3, ?_, fun i d' hd' => ?_⟩
  · have z := er3.at_ i s hs
    cases s with
    | no => trivial
    | me => exact z
    | val d => obtain ⟨v, h1, h2⟩ := z; exact ⟨v, h1, h2.sub sub⟩
    | own d => exact absurd hs (no i d)
  · unfold SlX.slH; rw [upd_ne m.n3, upd_same]
  · rw [List.length_set]; exact putS_len m.len hj
  · by_cases hi : i = j
    · subst hi
      rw [List.getElem?_set_self hj] at hd'
      cases hd'
      exact .inr ⟨v, SlX.putS_get _ _ _, rv.sub sub⟩
    · rw [List.getElem?_set_ne (Ne.symm hi)] at hd'
      rcases m1.at_ i d' hd' with z | ⟨w, w1, w2⟩
      · exact .inl z
      · exact .inr ⟨w, (SlX.putS_ne hi).mpr w1, w2.sub sub⟩
def jSeq (a b : List D → Env → T (List D)) : List D → Env → T (List D) := fun fs ρ => (a fs ρ).bind fun gs => b gs ρ
theorem ej_seq {t u : TS} {F G : List D → Env → T (List D)} (h : EvJ c kk t F) (k : EvJ c kk u G) : EvJ c kk (tSeq t u) (jSeq F G) := fun P H σ ρ n dx xs fs R Dn o er hme no m ok q =>
  h P H σ ρ n dx xs fs _ _ o er hme no m (T.ok_bind.mp ok) fun H1 n1 xs1 fs1 ok1 fr1 o1 er1 m1 =>
    k P H1 σ ρ n1 dx xs1 fs1 R Dn o1 er1 hme no m1 ok1 fun H2 n2 xs2 fs2 r fr2 o2 er2 m2 => q H2 n2 xs2 fs2 r (fun a w h1 h2 h3 h4 => fr2 a w h1 h2 h3 (fr1 a w h1 h2 h3 h4)) o2 er2 m2
/-! ### a body of __init__: statements, then the stores -/
def EvN (c : Ct) (kk : Nat) (t : TS) (G : Env → T (List D)) : Prop := ∀ (P : Addr → Prop) (H0 H : Hp) (σ : L2.St) (ρ : Env) (n : Nat) (dx : Addr) (R : List D → Nat → Prop) (Dn : Ends),
  SR c P (fun a => a = c.u) H0 H σ ρ n → MkS c P kk dx H0 [] [] → H0 c.me = some (.ins (c.cls kk) dx []) → H0 dx = some (.own c.me) → (G ρ).ok n R →
  (∀ σ' H' n' xs fs, R fs n' → (∀ a w, a ≠ c.u → a ≠ c.me → a ≠ dx → H0 a = some w → H' a = some w) → Ok c P H' n' → SlX.Slt H' c.me (c.cls kk) dx (xs.map some) → Reps c (Msk P H') xs fs → Dn.nx σ' H') → t Dn σ H
def nSeq (a : Env → T Out) (b : Env → T (List D)) : Env → T (List D) := fun ρ => (a ρ).bind fun o => match o with | .nx ρ' => b ρ' | _ => .fail
theorem en_seq {t u : TS} {F : Env → T Out} {G : Env → T (List D)} (h : EvS c t F) (k : EvN c kk u G) : EvN c kk (tSeq t u) (nSeq F G) := fun P H0 H σ ρ n dx R Dn sr m h1 h2 ok q => by
  refine h P _ H0 H σ ρ n _ sr (T.ok_mono (T.ok_bind.mp ok) fun o n1 ok1 => ?_)
  cases o with
  | nx ρ' => exact fun σ1 H1 sr1 => k P H0 H1 σ1 ρ' n1 dx R Dn sr1 m h1 h2 ok1 q
  | rt d => exact ok1.elim
  | bk ρ' => exact ok1.elim
  | ct ρ' => exact ok1.elim
def isUrn : D → Bool | .urn => true | _ => false
def nTail (nf : Nat) (j : List D → Env → T (List D)) : Env → T (List D) := fun ρ => match ρ[0]? with
  | some Slot.me => (j (List.replicate nf .urn) (fullE ρ)).bind fun fs => (match fs.all (fun d => !isUrn d) with | true => .ret fs | false => .fail)
  | _ => .fail
theorem full_no {ρ : Env} (i : Nat) (d : D) : (fullE ρ)[i]? ≠ some (.own d) := by
  unfold fullE
  rw [List.getElem?_map]
  cases ρ[i]? with
  | none => intro z; cases z
  | some s =>
    cases s with
    | own d => cases d <;> (intro z; cases z)
    | no => intro z; cases z
    | val d => intro z; cases z
    | me => intro z; cases z
theorem all_at {P : Addr → Prop} {H : Hp} : ∀ {xs : List (Option V)} {fs : List D}, xs.length ≤ fs.length → fs.all (fun d => !isUrn d) = true →
    (∀ (i : Nat) (d : D), fs[i]? = some d → d = .urn ∨ ∃ w, xs[i]? = some (some w) ∧ Rep c (Msk P H) w d) → ∃ ys, xs = ys.map some ∧ Reps c (Msk P H) ys fs
  | [], [], _, _, _ => ⟨[], rfl, .nil⟩
  | x :: xs, [], h, _, _ => absurd h (by simp)
  | [], f :: fs, _, hu, h => by
    rw [List.all_cons, Bool.and_eq_true] at hu
    rcases h 0 f rfl with z | ⟨w, h1, _⟩
    · subst z; exact absurd hu.1 (by decide)
    · cases h1
  | x :: xs, f :: fs, hl, hu, h => by
    rw [List.all_cons, Bool.and_eq_true] at hu
    obtain ⟨ys, e, r⟩ := all_at (xs := xs) (fs := fs) (Nat.le_of_succ_le_succ hl) hu.2 fun i d hd => h (i + 1) d hd
    rcases h 0 f rfl with z | ⟨w, h1, h2⟩
    · subst z; exact absurd hu.1 (by decide)
    · have e1 : x = some w := Option.some.inj h1
      exact ⟨w :: ys, by rw [e1, e]; rfl, .cons h2 r⟩
theorem en_tail {t : TS} {J : List D → Env → T (List D)} {nf : Nat} (h : EvJ c kk t J) : EvN c kk t (nTail nf J) := fun P H0 H σ ρ n dx R Dn sr m h1 h2 ok q => by
  unfold nTail at ok
  split at ok
  · rename_i hme
    have hf : (fullE ρ)[0]? = some .me := by
      unfold fullE
      rw [List.getElem?_map, hme]; rfl
    have keep : ∀ a w, a ≠ c.u → H0 a = some w → H a = some w := fun a w ha hw => sr.fr a w ha hw
    have m1 : MkS c P kk dx H [] (List.replicate nf .urn) := ⟨m.p1, m.p2, m.n1, m.n2, m.n3, .inl (keep _ _ m.n2 h2), .inl ⟨keep _ _ m.n1 h1, rfl⟩, Nat.zero_le _, fun i d hd => .inl (by
      rw [List.getElem?_replicate] at hd
      split at hd
      · exact (Option.some.inj hd).symm
      · cases hd)⟩
    refine h P H σ (fullE ρ) n dx [] _ _ Dn sr.full.1 sr.full.2 hf full_no m1 (T.ok_bind.mp ok) fun H' n' xs fs r fr o er m' => ?_
    split at r
    · rename_i hu
      obtain ⟨ys, e, rr⟩ := all_at m'.len hu m'.at_
      have s' := m'.s
      rw [e] at s'
      exact q σ H' n' ys fs r (fun a w a1 a2 a3 a4 => fr a w a1 a2 a3 (keep a w a1 a4)) o s' rr
    · exact r.elim
  · exact ok.elim
/-- np: the parameters behind self -/
def runInit (np m : Nat) (B : Env → T (List D)) : List D → T (List D) := fun ds => match decide (ds.length = np) with
  | true => B (.me :: (ds.map .val ++ List.replicate m .no))
  | false => .fail
theorem init_len {K : PySem.W.Frag} {cls : Nat → Addr} {np m : Nat} {B : Env → T (List D)} {vs : List V} {H : Hp} {Q : VK} {E : XK} (h : spI K cls kk (runInit np m B) vs H Q E) : vs.length = np + 1 := by
  obtain ⟨x, ws, u, P, n, ds, R, dx, rfl, o, rs, p1, p2, n1, n2, n3, h1, h2, ok, q⟩ := h
  unfold runInit at ok
  split at ok
  · rename_i hl
    rw [List.length_cons, rs.length, of_decide_eq_true hl]
  · exact ok.elim
theorem init_body {K : PySem.W.Frag} {cls : Nat → Addr} {N : List Str} {np : Nat} {B : Env → T (List D)} {t : TS} {vs : List V} {H : Hp} {Q : VK} {E : XK} (hB : ∀ u me, EvN ⟨K, u, cls, me⟩ kk t B)
    (h : spI K cls kk (runInit np (N.length - (np + 1)) B) vs H Q E) : t { nx := fun _ H' => Q .non H', rt := Q } (L2.start N vs) H := by
  have hl := init_len h
  obtain ⟨x, ws, u, P, n, ds, R, dx, rfl, o, rs, p1, p2, n1, n2, n3, h1, h2, ok, q⟩ := h
  unfold runInit at ok
  split at ok
  · have er : EnvR ⟨K, u, cls, x⟩ P H (L2.start N (.ref x :: ws)) (.me :: (ds.map .val ++ List.replicate (N.length - (np + 1)) .no)) := by
      have er := slots_val (c := ⟨K, u, cls, x⟩) (P := P) (H := H) (m := N.length - (np + 1)) rs
      have e : L2.start N (.ref x :: ws) = some (.ref x) :: (ws.map some ++ List.replicate (N.length - (np + 1)) none) := by
        unfold L2.start
        rw [hl]; rfl
      rw [e]
      refine ⟨by rw [List.length_cons, List.length_cons, er.len], fun i s hs => ?_⟩
      cases i with
      | zero => cases hs; rfl
      | succ i => exact er.at_ i s hs
    have no : ∀ (i : Nat) (d : D), (Slot.me :: (ds.map .val ++ List.replicate (N.length - (np + 1)) .no))[i]? ≠ some (.own d) := fun i d hd => by
      cases i with
      | zero => cases hd
      | succ i => exact noOwn hd
    exact hB u x P H H _ _ n dx R _ (sr_start o er no rfl) ⟨p1, p2, n1, n2, n3, .inl h2, .inl ⟨h1, rfl⟩, Nat.zero_le _, fun i d hd => by simp at hd⟩ h1 h2 ok fun σ' H' n' xs fs r fr o' s' rr => q H' fs xs n' r fr o' s' rr
  · exact ok.elim
/-- C(..) -/
def fMake (kk : Nat) (a : Env → T (List D)) (F : List D → T (List D)) : Env → T D := fun ρ => (a ρ).bind fun ds => (F ds).bind fun fs => .ret (.obj kk fs)
theorem ev_make {ta : TA} {A : Env → T (List D)} {F : List D → T (List D)} (h : EvA c ta A) : EvE c (tMake (c.cls kk) (spI c.K c.cls kk F) [] C8.E0 ta) (fMake kk A F) := fun σ H P ρ n R o er ok Q q =>
  h σ H P ρ n _ o er (T.ok_bind.mp ok) _ fun vs H1 ds n1 ok1 e1 o1 rs => fun x dx hx hdx hne => by
    have nx : x ≠ c.u := o1.nu hx
    have ndx : dx ≠ c.u := o1.nu hdx
    have px := o1.np hx
    have pdx := o1.np hdx
    rw [List.append_nil]
    have get : ∀ a w, a ≠ x → a ≠ dx → H1 a = some w → upd (upd H1 dx (.own x)) x (.ins (c.cls kk) dx []) a = some w := fun a w h1 h2 h3 => by rw [upd_ne h1, upd_ne h2]; exact h3
    have hu1 : c.u ≠ x := Ne.symm nx
    have hu2 : c.u ≠ dx := Ne.symm ndx
    refine ⟨x, vs, c.u, fun a => P a ∨ a = x ∨ a = dx, n1, ds, _, dx, rfl, ⟨?_, .inl o1.pu, fun a ha => ?_⟩, (rs.sub fun a w ha => ?_).meI (c := c) (x := x), .inr (.inl rfl), .inr (.inr rfl), nx, ndx, hne, by rw [upd_same], by rw [upd_ne hne, upd_same], T.ok_bind.mp ok1, ?_⟩
    · obtain ⟨a, b, e, h1, h2⟩ := o1.urn
      exact ⟨a, b, e, get _ _ hu1 hu2 h1, h2⟩
    · by_cases z1 : a = x
      · rw [z1, upd_same]; simp
      · by_cases z2 : a = dx
        · rw [z2, upd_ne hne, upd_same]; simp
        · rw [upd_ne z1, upd_ne z2]
          rcases ha with z | z | z
          · exact o1.dom a z
          · exact absurd z z1
          · exact absurd z z2
    · obtain ⟨h1, h2⟩ := msk_some.mp ha
      have a1 : a ≠ x := fun z => by rw [z, hx] at h2; cases h2
      have a2 : a ≠ dx := fun z => by rw [z, hdx] at h2; cases h2
      exact msk_some.mpr ⟨fun z => by
        rcases z with z | z | z
        · exact h1 z
        · exact a1 z
        · exact a2 z, get a w a1 a2 h2⟩
    · intro H' fs xs n' r fr o' s' rr
      refine ⟨rfl, q (.ref x) H' (.obj kk fs) n' r (fun a w ha hw => ?_) ⟨o'.urn, o1.pu, fun a h => o'.dom a (.inl h)⟩ ?_⟩
      · have h2 := e1 a w ha hw
        have a1 : a ≠ x := fun z => by rw [z, hx] at h2; cases h2
        have a2 : a ≠ dx := fun z => by rw [z, hdx] at h2; cases h2
        exact fr a w ha a1 a2 (get a w a1 a2 h2)
      · have rr2 : Reps c (Msk P H') xs fs := (rr.meI (x := c.me)).sub (Sub.less fun a h => .inl h)
        refine .obj (dx := dx) (xs := xs) ?_ rr2
        rcases s' with ⟨k1, k2⟩ | ⟨k1, k2⟩
        · exact .inl ⟨msk_some.mpr ⟨px, k1⟩, k2⟩
        · exact .inr ⟨msk_some.mpr ⟨px, k1⟩, msk_some.mpr ⟨pdx, k2⟩⟩
variable {P : Program} {w : World} {K : PySem.W.Frag} {mg : Str → Option Value} {base : Heap} {cls : Nat → Addr}
theorem mak_def {x qual : Str} {st : Stmt} {f : Addr} {fd : FuncData} {N ps : List Str} {k np : Nat} {B : Env → T (List D)} (M : Mk K (cls kk) f) (hm : mg x = some (.ref (cls kk))) (F : C8.Fun K "__init__" qual st f fd) (b : Binds K fd ps []) (S : FnScope N ps (C8.fnScope st)) (hps : ps.length = np + 1)
    (hbody : ∀ (cdv : Value) (A : Around) (outer : List PySem.Env) (s : Shared) (H : Hp) (E : XK), Room k (A.deeper (envOfC qual (C8.fnScope st) s.heap.objs.size f cdv)) →
      ∃ t, PSs (cxOf C8.CX0 P w K mg base N qual (C8.fnScope st) f cdv A outer s H E).nox (C8.fnBody st) t ∧ ∀ u me, EvN ⟨K, u, cls, me⟩ kk t B) : C8.Mak P w K mg base (k + 1) x (cls kk) (spI K cls kk (runInit np (N.length - (np + 1)) B)) [] :=
  C8.mak0 M hm F b .nil S (fun _ _ _ _ h => by rw [hps]; exact init_len h) fun cdv A outer s H vs Q E hr h => by
    obtain ⟨t, h1, h2⟩ := hbody cdv A outer s H E hr
    exact ⟨t, h1, init_body h2 h⟩
end
end DL
end

section
set_option maxRecDepth 100000
set_option maxHeartbeats 4000000
/-! DS: sets of ints, texts and None: set(xs), sorted(set), len(set). -/
namespace DS
open PySem PySem.Spec PyProof.Rows L2 DR
def lv : Leaf → V
  | .none => .non
  | .num i => .int i
  | .text x => .str x
/-- the key that a value bears -/
def kyOf (e : Int × Value) : Leaf := match e.2 with
  | .int i _ => .num i
  | .str x _ => .text x
  | _ => .none
def Good (P : Program) (w : World) (e : Int × Value) : Prop := ∃ k, RelV (lv k) e.2 ∧ e.1 = (leafKind P w).hash k
theorem relv_is {P : Program} {w : World} {k : Leaf} {v : Value} (r : RelV (lv k) v) : (leafKind P w).is k v = true := by
  cases k with
  | none => cases r; rfl
  | num i => obtain ⟨t, rfl⟩ := r; exact decide_eq_true rfl
  | text x => obtain ⟨t, rfl⟩ := r; exact (show Value.isStrOf x (.str x t) = true by simp [Value.isStrOf])
theorem relv_scan {k : Leaf} {v : Value} (r : RelV (lv k) v) : v.scannable = true := by
  cases k with
  | none => cases r; rfl
  | num i => obtain ⟨t, rfl⟩ := r; rfl
  | text x => obtain ⟨t, rfl⟩ := r; rfl
theorem ky_of {k : Leaf} {e : Int × Value} (r : RelV (lv k) e.2) : kyOf e = k := by
  unfold kyOf
  cases k with
  | none => have r : e.2 = Value.none := r; rw [r]
  | num i => obtain ⟨t, r⟩ := r; rw [r]
  | text x => obtain ⟨t, r⟩ := r; rw [r]
section
variable {P : Program} {w : World} {h h' : Heap} {a : Addr} {S : Leaf → Bool} {n : Nat}
theorem good_is {e : Int × Value} (g : Good P w e) (k : Leaf) : (leafKind P w).is k e.2 = true ↔ kyOf e = k := by
  obtain ⟨k0, r, _⟩ := g
  rw [ky_of r]
  constructor
  · intro z
    exact (leafKind P w).inj e.2 k0 k (relv_is r) z
  · rintro rfl
    exact relv_is r
theorem good_elems {l : List (Int × Value)} (g : ∀ e ∈ l, Good P w e) : ElemsOf (leafKind P w) l := fun e he => by
  obtain ⟨k, r, h2⟩ := g e he
  exact ⟨⟨k, relv_is r, h2⟩, relv_scan r⟩
theorem good_mem {l : List (Int × Value)} (g : ∀ e ∈ l, Good P w e) (k : Leaf) : k ∈ l.map kyOf ↔ ∃ e ∈ l, (leafKind P w).is k e.2 = true := by
  rw [List.mem_map]
  constructor
  · rintro ⟨e, he, q⟩
    exact ⟨e, he, (good_is (g e he) k).2 q⟩
  · rintro ⟨e, he, q⟩
    exact ⟨e, he, (good_is (g e he) k).1 q⟩
/-- the set at a: S its members, n their number -/
def SetL (P : Program) (w : World) (h : Heap) (a : Addr) (S : Leaf → Bool) (n : Nat) : Prop :=
  ∃ o es ep t, h.get? a = some o ∧ o.ExactSet ∧ o.data = .set es ep t ∧ (∀ e ∈ es.toList, Good P w e) ∧ (es.toList.map kyOf).Nodup ∧ (∀ k, S k = true ↔ k ∈ es.toList.map kyOf) ∧
    es.size < scanBound ∧ t.fits es.size = true ∧ es.size = n ∧ Ris t.place.toList ∧ (w.params.followText "set-order" = true ∨ t.led = true)
theorem SetL.at (R : SetL P w h a S n) (k : ∀ o, h.get? a = some o → h'.get? a = some o) : SetL P w h' a S n := by
  obtain ⟨o, es, ep, t, ho, r⟩ := R
  exact ⟨o, es, ep, t, k o ho, r⟩
theorem SetL.lt (R : SetL P w h a S n) : a < h.objs.size := by
  obtain ⟨o, es, ep, t, ho, r⟩ := R
  exact Heap.lt_size ho
theorem SetL.congr {S' : Leaf → Bool} (R : SetL P w h a S n) (e : ∀ k, S' k = S k) : SetL P w h a S' n := by
  have q : S' = S := funext e
  rw [q]; exact R
theorem SetL.setOf (R : SetL P w h a S n) : h.SetOf (leafKind P w) a S n := by
  obtain ⟨o, es, ep, t, ho, hx, hd, g, nd, hm, hb, hf, hn, _⟩ := R
  exact ⟨o, es, ep, t, ho, hx, hd, good_elems g, fun k => (hm k).trans (good_mem g k), hb, hf, hn⟩
end
section
variable {P : Program} {w : World} {A : Around} {E : Value → Shared → Prop} {s : Shared} {a : Addr} {S : Leaf → Bool} {n : Nat}
theorem add_tail {g : Bool → Sem Unit} (hg : ∀ (b : Bool) (s₁ : Shared) (Q' : Unit → Shared → Prop), Q' () s₁ → wpAny (model P w) A (g b) Q' E s₁)
    {o : Obj} {es : Array (Int × Value)} {ep : Nat} {t : SetTable} (ho : s.heap.get? a = some o) (hex : o.ExactSet) (hd : o.data = .set es ep t)
    {es1 : Array (Int × Value)} {t2 : SetTable} {S' : Leaf → Bool} (g1 : ∀ e ∈ es1.toList, Good P w e) (nd1 : (es1.toList.map kyOf).Nodup) (m1 : ∀ k, S' k = true ↔ k ∈ es1.toList.map kyOf)
    (hb1 : es1.size < scanBound) (hf2 : t2.fits es1.size = true) (hr : Ris t2.place.toList) (hl : w.params.followText "set-order" = true ∨ t2.led = true) {wasDummy : Bool} {R : Option Bool → Shared → Prop}
    (hR : ∀ h', Heap.SameBut a s.heap h' → SetL P w h' a S' es1.size → R (some true) { s with heap := h' }) :
    wpAny (model P w) A (do
        storeSet a es1 t2
        if (!wasDummy && t2.tooFull) = true then do
            g (relayAll t2 es1 (SetTable.grown es1.size)).2.2
            storeSet a (relayAll t2 es1 (SetTable.grown es1.size)).1 (relayAll t2 es1 (SetTable.grown es1.size)).2.1
            pure (some true)
          else pure (some true)) R E s := by
  refine wpAny_bind (wpAny_storeSet_of ho hd ?_ (fits_of_scanBound hb1))
  have ho1 := store_at (es' := es1) (t' := t2) ho hd
  have sb1 := Heap.SameBut.update s.heap a (Obj.putSet es1 t2)
  split
  · have pm := relayAll_perm t2 es1 (SetTable.grown es1.size)
    have hf3 := relayAll_fits t2 es1 (SetTable.grown es1.size)
    have hr3 := relayAll_ris t2 es1 (SetTable.grown es1.size)
    have hl3 := relayAll_led t2 es1 (SetTable.grown es1.size)
    generalize relayAll t2 es1 (SetTable.grown es1.size) = Z at pm hf3 hr3 hl3 ⊢
    obtain ⟨es2, t3, gave⟩ := Z
    dsimp only at pm hf3 hr3 hl3 ⊢
    have hsz : es2.size = es1.size := by rw [← Array.length_toList, pm.length_eq, Array.length_toList]
    have hb2 : es2.size < scanBound := by rw [hsz]; exact hb1
    refine wpAny_bind (hg _ _ _ ?_)
    refine wpAny_bind (wpAny_storeSet_of ho1 rfl ?_ (fits_of_scanBound hb2))
    have ho2 := store_at (es' := es2) (t' := t3) ho1 rfl
    refine wpAny_pure (hR _ (sb1.trans (Heap.SameBut.update _ a _)) ?_)
    exact ⟨_, es2, _, t3, ho2, hex, rfl, fun e he => g1 e (pm.mem_iff.mp he), (pm.map kyOf).nodup_iff.mpr nd1, fun k => (m1 k).trans (pm.map kyOf).mem_iff.symm, hb2, hf3, hsz, hr3,
      hl.imp id fun z => by rw [hl3]; exact z⟩
  · exact wpAny_pure (hR _ sb1 ⟨_, es1, _, t2, ho1, hex, rfl, g1, nd1, m1, hb1, hf2, rfl, hr, hl⟩)

theorem add_hashed {k : Leaf} {v : Value} (rk : RelV (lv k) v) {Q : Bool → Shared → Prop} (R : SetL P w s.heap a S n) (room : n + 1 < scanBound)
    (hQ : ∀ h', Heap.SameBut a s.heap h' → SetL P w h' a (fun j => S j || decide (j = k)) (if S k = true then n else n + 1) → Q (!S k) { s with heap := h' }) :
    wpAny (model P w) A (setAddHashed a v ((leafKind P w).hash k)) Q E s := by
  obtain ⟨o, es, ep, t, ho, hex, hd, g, nd, hm, hb, hf, hn, hr, hl⟩ := R
  have hkey : (leafKind P w).is k v = true := relv_is rk
  have hsc : v.scannable = true := relv_scan rk
  have hel : ElemsOf (leafKind P w) es.toList := good_elems g
  unfold setAddHashed setAddHashedIn
  refine wpAny_holding (wpAny_bind (wpAny_setState_of ho hd hf ?_))
  dsimp only
  rw [byScan_of hsc hb hel]
  simp only [↓reduceIte]
  unfold setAddByScan
  refine wpAny_bind ?_
  refine wpAny_bind (wpAny_rule ?_)
  refine wpAny_bind (wpAny_setScan_of hkey ho hd hf hel ?_)
  cases hfi : List.findIdx? (fun e => (leafKind P w).is k e.2) es.toList with
  | some j =>
    dsimp only
    obtain ⟨hj, pj, _⟩ := List.findIdx?_eq_some_iff_getElem.mp hfi
    have hSk : S k = true := (hm k).2 ((good_mem (P := P) (w := w) g k).2 ⟨es.toList[j], List.getElem_mem hj, pj⟩)
    refine wpAny_pure (wpAny_pure ?_)
    have q := hQ s.heap (Heap.SameBut.refl a s.heap) ⟨o, es, ep, t, ho, hex, hd, g, nd, fun i => by
      rw [Bool.or_eq_true, decide_eq_true_eq, ← hm i]
      exact ⟨fun z => z.elim id (fun e => e ▸ hSk), .inl⟩, hb, hf, by rw [if_pos hSk]; exact hn, hr, hl⟩
    rw [hSk] at q
    exact q
  | none =>
    dsimp only
    have hnk : k ∉ es.toList.map kyOf := fun z => by
      obtain ⟨e, he, q⟩ := (good_mem (P := P) (w := w) g k).1 z
      have c := List.findIdx?_eq_none_iff.mp hfi e he
      rw [q] at c
      cases c
    have hSk : S k = false := by
      cases q : S k with
      | false => rfl
      | true => exact absurd ((hm k).1 q) hnk
    have hgw : ∀ (b : Bool) {s₁ : Shared} {Q' : Unit → Shared → Prop}, Q' () s₁ → wpAny (model P w) A (match b with | true => rule "set.scan.the-table-gave-way" | false => pure ()) Q' E s₁ :=
      fun b s₁ Q' q => by cases b <;> first | exact wpAny_pure q | exact wpAny_rule q
    have pm := layNew_perm t es ((leafKind P w).hash k) v
    have hf1 := layNew_fits t es ((leafKind P w).hash k) v
    have hr1 := layNew_ris t es ((leafKind P w).hash k) v hr
    have hl1 := layNew_led t es ((leafKind P w).hash k) v
    generalize layNew t es ((leafKind P w).hash k) v = Z at pm hf1 hr1 hl1 ⊢
    obtain ⟨es1, t1, wasDummy, gave⟩ := Z
    dsimp only at pm hf1 hr1 hl1 ⊢
    rw [Array.toList_push] at pm
    have pc : es1.toList.Perm (((leafKind P w).hash k, v) :: es.toList) := pm.trans (List.perm_append_singleton _ _)
    have pk : (es1.toList.map kyOf).Perm (k :: es.toList.map kyOf) := by
      have z := pc.map kyOf
      rw [List.map_cons, ky_of (e := ((leafKind P w).hash k, v)) rk] at z
      exact z
    have g1 : ∀ e ∈ es1.toList, Good P w e := fun e he => by
      rcases List.mem_cons.mp (pc.mem_iff.mp he) with z | z
      · rw [z]; exact ⟨k, rk, rfl⟩
      · exact g e z
    have nd1 : (es1.toList.map kyOf).Nodup := pk.nodup_iff.mpr (List.nodup_cons.mpr ⟨hnk, nd⟩)
    have m1 : ∀ i, (S i || decide (i = k)) = true ↔ i ∈ es1.toList.map kyOf := fun i => by
      rw [Bool.or_eq_true, decide_eq_true_eq, hm i, pk.mem_iff, List.mem_cons]
      exact Or.comm
    have hsz : es1.size = n + 1 := by rw [← Array.length_toList, pc.length_eq, List.length_cons, Array.length_toList, hn]
    have hb1 : es1.size < scanBound := by rw [hsz]; exact room
    have hled : w.params.followText "set-order" = true ∨ t1.led = true := hl.imp id fun z => by rw [hl1]; exact z
    have fin : ∀ h', Heap.SameBut a s.heap h' → SetL P w h' a (fun j => S j || decide (j = k)) es1.size → Q true { s with heap := h' } := fun h' sb r => by
      have q := hQ h' sb
      rw [hSk] at q
      rw [hsz] at r
      exact q r
    refine wpAny_bind (hgw _ ?_)
    split
    · refine wpAny_bind ?_
      rw [hashByValue_scannable 8 hsc]
      refine wpAny_pure ?_
      refine add_tail ?_ ho hex hd g1 nd1 m1 hb1 ?_ ?_ ?_ ?_
      · intro b s₁ Q' q; cases b <;> first | exact wpAny_pure q | exact wpAny_rule q
      · first | (split <;> first | exact hf1 | exact SetTable.fits_plain_off hf1) | exact hf1
      · first | (split <;> exact hr1) | exact hr1
      · first | (split <;> exact hled) | exact hled
      · intro h' sb r; dsimp only; exact wpAny_pure (fin h' sb r)
    · refine wpAny_bind (wpAny_pure ?_)
      simp only [↓reduceIte]
      refine add_tail ?_ ho hex hd g1 nd1 m1 hb1 hf1 hr1 hled ?_
      · intro b s₁ Q' q; cases b <;> first | exact wpAny_pure q | exact wpAny_rule q
      · intro h' sb r; dsimp only; exact wpAny_pure (fin h' sb r)

theorem new_at {w : World} {h : Heap} {a : Addr} {ls : List Leaf} (ho : h.get? a = some { cls := .type "set", dict := none, data := .set #[] 0 (.fresh 0 0 (!w.params.followText "set-order")) }) : SetL P w h a (fun j => decide (j ∈ ls.take 0)) 0 :=
  ⟨_, #[], 0, _, ho, ⟨rfl, rfl, rfl⟩, rfl, (fun e he => by simp at he), (by simp), (fun k => by simp), (by decide), (by rfl), rfl, List.Pairwise.nil, by
    show _ ∨ (!w.params.followText "set-order") = true
    cases w.params.followText "set-order"
    · exact .inr rfl
    · exact .inl rfl⟩
theorem update_loop {I : Addr} {fp wr : List Addr} {G : Array GenState → Array GenState → Prop} {n : Nat} {Pv : Nat → Value → Prop} {St : Nat → Shared → Prop} {R : Result → Shared → Prop}
    (W : WalksS P w A.in1 I fp wr G n Pv St) (S : Addr) (hSf : S ∉ fp) (ls : List Leaf) (hn : n = ls.length) (hb : ls.length + 1 < scanBound) (hval : ∀ i v, Pv i v → ∃ k, ls[i]? = some k ∧ RelV (lv k) v) :
    ∀ (k i : Nat) (s : Shared), n - i = k → i ≤ n → St i s → (∃ c, c ≤ i ∧ SetL P w s.heap S (fun j => decide (j ∈ ls.take i)) c) →
      (∀ s' c, Moved (S :: wr) G s s' → c ≤ n → SetL P w s'.heap S (fun j => decide (j ∈ ls)) c → R (.ok (.ret .none)) s') →
      codeAny (model P w) A (.builtin "set.update.loop" ⟨[.ref S, .ref I], []⟩) R s := by
  have hSw : S ∉ wr := fun h => hSf (W.sub _ h)
  have hsub : ∀ b ∈ wr, b ∈ S :: wr := fun b hb => List.mem_cons_of_mem _ hb
  intro k
  induction k with
  | zero =>
    intro i s hk' hi hst ⟨c, hc, hS⟩ hR
    have hin : i = n := by omega
    subst hin
    refine codeAny_builtin F.entry_set_update_loop ?_
    rw [Around.under_plainId F.plain_set_update_loop _]
    show wpAny _ A.in1 (pyNext (.ref I) >>= _) _ _ s
    refine wpAny_bind (W.done s _ _ hst fun s' hm => ?_)
    show wpAny _ A.in1 (ret Value.none) _ _ s'
    have e : ls.take i = ls := List.take_of_length_le (by omega)
    rw [e] at hS
    exact wpAny_pure (hR s' c (hm.mono hsub) hc (hS.at fun o e => hm.heap S o hSw e))
  | succ k ih =>
    intro i s hk' hi hst ⟨c, hc, hS⟩ hR
    have hlt : i < n := by omega
    refine codeAny_builtin F.entry_set_update_loop ?_
    rw [Around.under_plainId F.plain_set_update_loop _]
    show wpAny _ A.in1 (pyNext (.ref I) >>= _) _ _ s
    refine wpAny_bind (W.item i s _ _ hlt hst fun v s' hP hst' hm => ?_)
    obtain ⟨z, hz, rz⟩ := hval i v hP
    have hS' : SetL P w s'.heap S (fun j => decide (j ∈ ls.take i)) c := hS.at fun o e => hm.heap S o hSw e
    show wpAny _ A.in1 (holding [v] (setAdd S v) >>= _) _ _ s'
    refine wpAny_bind (wpAny_holding ?_)
    unfold setAdd
    refine wpAny_holding ?_
    refine wpAny_bind ((leafKind P w).pyHash (k := z) (relv_is rz) ?_)
    refine add_hashed (s := { s' with toks := s'.toks + 1 }) rz hS' (by omega) fun h' hsb hS2 => ?_
    have hS3 : SetL P w h' S (fun j => decide (j ∈ ls.take (i + 1))) (if decide (z ∈ ls.take i) = true then c else c + 1) := hS2.congr fun j => by
      rw [List.take_add_one, hz]
      simp [List.mem_append]
    have hc3 : (if decide (z ∈ ls.take i) = true then c else c + 1) ≤ i + 1 := by
      split <;> omega
    refine wpAny_pure ⟨plainId_quiet F.plain_set_update_loop _, ih (i + 1) _ (by omega) hlt (W.frame _ s' _ _ hst' (Nat.le_succ _) fun b hb o e => ?_) ⟨_, hc3, hS3⟩ fun s'' c2 hm'' hc'' hS'' => ?_⟩
    · rw [hsb.2 b (fun h : b = S => hSf (by rw [← h]; exact hb))]; exact e
    · refine hR s'' c2 (Moved.trans W.gtrans ((hm.mono hsub).then_heap (Nat.le_succ _) fun b o hb e => ?_) hm'') hc'' hS''
      rw [hsb.2 b (fun h : b = S => hb (by rw [h]; exact List.mem_cons_self))]; exact e

theorem walks_K {A : Around} (hh : A.handled = none) (k : Bool) (it a : Addr) (hne : a ≠ it) (items : Array Value) :
    Walks P w A it [it, a] [it] items.size (fun i v => items[i]? = some v) (fun i h => ItK k h it a i ∧ IsK k h a items) := by
  cases k
  · exact Walks.list hh it a hne items
  · exact Walks.tuple hh it a hne items
set_option maxHeartbeats 6400000 in
theorem call_set (k : Bool) {l : Addr} {items : Array Value} (ls : List Leaf) {Q : Value → Shared → Prop} (hh : A.handled = none) (hl : IsK k s.heap l items) (hit : Vals (ls.map lv) items.toList) (hb : ls.length + 1 < scanBound)
    (h : ∀ (h' : Heap) (tk c : Nat), SetL P w h' s.heap.objs.size (fun j => decide (j ∈ ls)) c → c ≤ ls.length → (∀ b o, s.heap.get? b = some o → h'.get? b = some o) → Q (.ref s.heap.objs.size) { s with heap := h', toks := tk }) :
    wpAny (model P w) A (call (.type "set") [.ref l]) Q E s := by
  have hisz : items.size = ls.length := by
    have q : (ls.map lv).length = items.toList.length := L2.Vals.length hit
    rw [List.length_map, Array.length_toList] at q
    exact q.symm
  obtain ⟨c, tl, hmro⟩ := F.called_set.mro
  have hmade := F.called_set.made
  have hsub := F.called_set.sub
  refine wpAny_call (codeAny_of_tree ?_)
  show wpAny _ _ (callAny (.type "set") _) _ _ _
  refine wpAny_pure ⟨Code.quiet_builtin _ (by decide +kernel), codeAny_builtin F.entry_type_call ?_⟩
  rw [Around.under_plain (weight_type_call_type "set" [.ref l] []) rfl]
  have h1 := F.called_set.notType
  have h2 := F.called_set.canCreate
  have hct := F.typeCall_set_1 (.ref l)
  repeat (any_goals (first | assumption | wp_step))
  refine codeAny_mono (code_set_led1 (.ref l) (E := E) (Q₁ := fun obj s₁ => obj = .ref s.heap.objs.size ∧ s₁ = { s with heap := s.heap.push { cls := .type "set", dict := none, data := .set #[] 0 (.fresh 0 0 (!w.params.followText "set-order")) } }) ⟨rfl, rfl⟩) fun r s₁ hr => ?_
  cases r with
  | error e => exact hr
  | ok fl =>
    cases fl with
    | ret obj =>
      obtain ⟨rfl, rfl⟩ := hr
      have hS : (s.heap.push { cls := .type "set", dict := none, data := .set #[] 0 (.fresh 0 0 (!w.params.followText "set-order")) }).get? s.heap.objs.size = some { cls := .type "set", dict := none, data := .set #[] 0 (.fresh 0 0 (!w.params.followText "set-order")) } := Heap.get?_push_size _ rfl
      have hT : Shared.TypeIs { s with heap := s.heap.push { cls := .type "set", dict := none, data := .set #[] 0 (.fresh 0 0 (!w.params.followText "set-order")) } } (.ref s.heap.objs.size) "set" := ⟨_, hS, rfl⟩
      have hli := F.called_set.init.lookup
      have hbi := F.called_set.init.bind (.ref s.heap.objs.size)
      repeat (any_goals (first | assumption | wp_step))
      refine codeAny_mono (codeAny_call_builtin (R := wants (fun r s₂ => r = .none ∧ ∃ h' tk c, s₂ = { s with heap := h', toks := tk } ∧ SetL P w h' s.heap.objs.size (fun j => decide (j ∈ ls)) c ∧ c ≤ ls.length ∧
          (∀ b o, s.heap.get? b = some o → h'.get? b = some o)) E) F.called_set.init.plain F.entry_set_init (check_set_init_1 hT ?_)) fun r₂ s₂ hr₂ => ?_
      · have hlS : l < s.heap.objs.size := by
          cases k
          · obtain ⟨o, q, _⟩ := hl; exact Heap.lt_size q
          · obtain ⟨o, q, _⟩ := hl; exact Heap.lt_size q
        have hl1 : IsK k (s.heap.push { cls := .type "set", dict := none, data := .set #[] 0 (.fresh 0 0 (!w.params.followText "set-order")) }) l items := by
          cases k
          · exact Heap.IsList.at hl fun o e => Heap.get?_push_of_some _ e
          · exact Heap.IsTuple.at hl fun o e => Heap.get?_push_of_some _ e
        have key : ∀ {A4 : Around} {R4 : PySem.Fin → Shared → Prop} , A4.handled = none → (∀ s', (∃ h' tk c, s' = { s with heap := h', toks := tk } ∧ SetL P w h' s.heap.objs.size (fun j => decide (j ∈ ls)) c ∧ c ≤ ls.length ∧ (∀ b o, s.heap.get? b = some o → h'.get? b = some o)) → R4 (.done (.ret .none)) s') →
            True := fun _ _ => trivial
        cases k
        · obtain ⟨ol, hol, hcl, nl, hdl⟩ := id hl
          obtain ⟨ocls, odict, odata, oslots⟩ := ol
          simp only at hcl hdl
          subst hcl; subst hdl
          have hol' : (s.heap.push { cls := .type "set", dict := none, data := .set #[] 0 (.fresh 0 0 (!w.params.followText "set-order")) }).get? l = some { cls := .type "list", dict := odict, data := .seq items nl, slots := oslots } := Heap.get?_push_of_some _ hol
          have hsls := F.sub_list_set
          have hslf := F.sub_list_frozenset
          have hne : (Value.type "list" == Value.type "dict") = false := by decide
          unfold Builtin.«set.__init__» noKeywords Builtin.Frozenset.updateFrom
          generalize hPI : pyIter = PI
          wp_walk
          subst hPI
          refine (begins_K false l items).iter _ _ _ _ _ _ hl1 ?_
          refine wpAny_bind (wpAny_runValue ?_)
          have hh3 : A.in1.in1.in1.handled = none := by simp [hh]
          have hneI : l ≠ (s.heap.push { cls := .type "set", dict := none, data := .set #[] 0 (.fresh 0 0 (!w.params.followText "set-order")) }).objs.size := by
            rw [Heap.size_push]; exact Nat.ne_of_lt (Nat.lt_succ_of_lt hlS)
          have hSf : s.heap.objs.size ∉ [(s.heap.push { cls := .type "set", dict := none, data := .set #[] 0 (.fresh 0 0 (!w.params.followText "set-order")) }).objs.size, l] := by
            rw [Heap.size_push]; simp only [List.mem_cons, List.mem_singleton, List.not_mem_nil, or_false, not_or]
            exact ⟨Nat.ne_of_lt (Nat.lt_succ_self _), Nat.ne_of_gt hlS⟩
          have hval : ∀ (i : Nat) (v : Value), items[i]? = some v → ∃ k, ls[i]? = some k ∧ RelV (lv k) v := fun i v hv => by
            have hi : i < ls.length := by rw [← hisz]; exact (Array.getElem?_eq_some_iff.mp hv).1
            obtain ⟨u, hu, ru⟩ := hit.get (i := i) (x := lv ls[i]) (by rw [List.getElem?_map, List.getElem?_eq_getElem hi]; rfl)
            rw [Array.getElem?_toList, hv] at hu
            cases hu
            exact ⟨ls[i], List.getElem?_eq_getElem hi, ru⟩
          refine update_loop ((walks_K hh3 false _ l hneI items).toS) s.heap.objs.size hSf ls hisz hb hval (items.size - 0) 0 _ (by omega) (Nat.zero_le _)
            ⟨itK_new (Heap.get?_push_size _ rfl), Heap.IsList.at hl1 fun o e => Heap.get?_push_of_some _ e⟩ ?hS0 ?hR
          case hS0 => exact ⟨0, Nat.le_refl 0, new_at (Heap.get?_push_of_some _ hS)⟩
          case hR =>
            intro s' c' hm hc' hS'
            obtain ⟨h', g2, d', tk', os'⟩ := s'
            have eg : g2 = s.gens := hm.gens
            have ed : d' = s.drawn := hm.drawn
            have eo : os' = s.os := hm.os
            subst eg; subst ed; subst eo
            show wpAny _ _ _ _ _ _
            refine wpAny_pure ?_
            show wpAny _ _ (ret Value.none) _ _ _
            rw [hisz] at hc'
            refine wpAny_pure ⟨rfl, h', tk', c', rfl, hS', hc', fun b o e => ?_⟩
            have hb0 : b < s.heap.objs.size := Heap.lt_size e
            have hb1 : b ≠ s.heap.objs.size := Nat.ne_of_lt hb0
            have hb2 : b ≠ (s.heap.push { cls := .type "set", dict := none, data := .set #[] 0 (.fresh 0 0 (!w.params.followText "set-order")) }).objs.size := by
              rw [Heap.size_push]; exact Nat.ne_of_lt (Nat.lt_succ_of_lt hb0)
            exact hm.heap b o (by simp only [List.mem_cons, List.mem_singleton, List.not_mem_nil, or_false, not_or]; exact ⟨hb1, hb2⟩) (Heap.get?_push_of_some _ (Heap.get?_push_of_some _ e))
        · obtain ⟨ol, hol, hcl, nl, hdl⟩ := id hl
          obtain ⟨ocls, odict, odata, oslots⟩ := ol
          simp only at hcl hdl
          subst hcl; subst hdl
          have hol' : (s.heap.push { cls := .type "set", dict := none, data := .set #[] 0 (.fresh 0 0 (!w.params.followText "set-order")) }).get? l = some { cls := .type "tuple", dict := odict, data := .seq items nl, slots := oslots } := Heap.get?_push_of_some _ hol
          have hsls := F.sub_tuple_set
          have hslf := F.sub_tuple_frozenset
          have hne : (Value.type "tuple" == Value.type "dict") = false := by decide
          unfold Builtin.«set.__init__» noKeywords Builtin.Frozenset.updateFrom
          generalize hPI : pyIter = PI
          wp_walk
          subst hPI
          refine (begins_K true l items).iter _ _ _ _ _ _ hl1 ?_
          refine wpAny_bind (wpAny_runValue ?_)
          have hh3 : A.in1.in1.in1.handled = none := by simp [hh]
          have hneI : l ≠ (s.heap.push { cls := .type "set", dict := none, data := .set #[] 0 (.fresh 0 0 (!w.params.followText "set-order")) }).objs.size := by
            rw [Heap.size_push]; exact Nat.ne_of_lt (Nat.lt_succ_of_lt hlS)
          have hSf : s.heap.objs.size ∉ [(s.heap.push { cls := .type "set", dict := none, data := .set #[] 0 (.fresh 0 0 (!w.params.followText "set-order")) }).objs.size, l] := by
            rw [Heap.size_push]; simp only [List.mem_cons, List.mem_singleton, List.not_mem_nil, or_false, not_or]
            exact ⟨Nat.ne_of_lt (Nat.lt_succ_self _), Nat.ne_of_gt hlS⟩
          have hval : ∀ (i : Nat) (v : Value), items[i]? = some v → ∃ k, ls[i]? = some k ∧ RelV (lv k) v := fun i v hv => by
            have hi : i < ls.length := by rw [← hisz]; exact (Array.getElem?_eq_some_iff.mp hv).1
            obtain ⟨u, hu, ru⟩ := hit.get (i := i) (x := lv ls[i]) (by rw [List.getElem?_map, List.getElem?_eq_getElem hi]; rfl)
            rw [Array.getElem?_toList, hv] at hu
            cases hu
            exact ⟨ls[i], List.getElem?_eq_getElem hi, ru⟩
          refine update_loop ((walks_K hh3 true _ l hneI items).toS) s.heap.objs.size hSf ls hisz hb hval (items.size - 0) 0 _ (by omega) (Nat.zero_le _)
            ⟨itK_new (Heap.get?_push_size _ rfl), Heap.IsTuple.at hl1 fun o e => Heap.get?_push_of_some _ e⟩ ?hS0 ?hR
          case hS0 => exact ⟨0, Nat.le_refl 0, new_at (Heap.get?_push_of_some _ hS)⟩
          case hR =>
            intro s' c' hm hc' hS'
            obtain ⟨h', g2, d', tk', os'⟩ := s'
            have eg : g2 = s.gens := hm.gens
            have ed : d' = s.drawn := hm.drawn
            have eo : os' = s.os := hm.os
            subst eg; subst ed; subst eo
            show wpAny _ _ _ _ _ _
            refine wpAny_pure ?_
            show wpAny _ _ (ret Value.none) _ _ _
            rw [hisz] at hc'
            refine wpAny_pure ⟨rfl, h', tk', c', rfl, hS', hc', fun b o e => ?_⟩
            have hb0 : b < s.heap.objs.size := Heap.lt_size e
            have hb1 : b ≠ s.heap.objs.size := Nat.ne_of_lt hb0
            have hb2 : b ≠ (s.heap.push { cls := .type "set", dict := none, data := .set #[] 0 (.fresh 0 0 (!w.params.followText "set-order")) }).objs.size := by
              rw [Heap.size_push]; exact Nat.ne_of_lt (Nat.lt_succ_of_lt hb0)
            exact hm.heap b o (by simp only [List.mem_cons, List.mem_singleton, List.not_mem_nil, or_false, not_or]; exact ⟨hb1, hb2⟩) (Heap.get?_push_of_some _ (Heap.get?_push_of_some _ e))
      · cases r₂ with
        | error e => exact hr₂
        | ok fl₂ =>
          cases fl₂ with
          | ret r =>
            obtain ⟨rfl, h', tk, c', rfl, hS', hc', hk'⟩ := hr₂
            repeat (any_goals (first | assumption | wp_step))
            exact h _ _ _ hS' hc' hk'
          | _ => exact hr₂.elim
    | _ => exact hr.elim
end
end DS
end

section
set_option maxRecDepth 100000
set_option maxHeartbeats 4000000
/-! DT: set(xs), sorted(xs), sorted(set(xs)), len(set(xs)) for ints, texts and None; built-in calls on deep values. -/
namespace DS
open PySem PySem.Spec PyProof.Rows L2 DR
/-! ### the order -/
def leLf : Leaf → Leaf → Bool
  | .num i, .num j => decide (i ≤ j)
  | .text x, .text y => decide (x.cps.toList ≤ y.cps.toList)
  | _, _ => false
def isN : Leaf → Bool | .num _ => true | _ => false
def isT : Leaf → Bool | .text _ => true | _ => false
def Alk (ls : List Leaf) : Prop := (∃ ns : List Int, ls = ns.map .num) ∨ ∃ xs : List Str, ls = xs.map .text
def alkB (ls : List Leaf) : Bool := ls.all isN || ls.all isT
theorem alk_of {ls : List Leaf} (hh : alkB ls = true) : Alk ls := by
  rcases Bool.or_eq_true_iff.mp hh with h | h
  · refine .inl ?_
    clear hh
    induction ls with
    | nil => exact ⟨[], rfl⟩
    | cons x ls ih =>
      rw [List.all_cons, Bool.and_eq_true] at h
      obtain ⟨ns, e⟩ := ih h.2
      cases x with
      | num i => exact ⟨i :: ns, by rw [e]; rfl⟩
      | none => exact absurd h.1 (by decide)
      | text x => exact absurd h.1 (by simp [isN])
  · refine .inr ?_
    clear hh
    induction ls with
    | nil => exact ⟨[], rfl⟩
    | cons x ls ih =>
      rw [List.all_cons, Bool.and_eq_true] at h
      obtain ⟨ns, e⟩ := ih h.2
      cases x with
      | text i => exact ⟨i :: ns, by rw [e]; rfl⟩
      | none => exact absurd h.1 (by decide)
      | num x => exact absurd h.1 (by simp [isT])
theorem str_eq {x y : Str} (h : x.cps.toList = y.cps.toList) : x = y := by
  cases x; cases y
  simp only [Str.mk.injEq]
  exact Array.toList_inj.mp h
theorem le_anti {a b : Leaf} (h : leLf a b = true) (h' : leLf b a = true) : a = b := by
  cases a <;> cases b <;> simp only [leLf, decide_eq_true_eq, Bool.false_eq_true] at h h'
  · rw [Int.le_antisymm h h']
  · rw [str_eq (List.le_antisymm h h')]
theorem le_trans' {a b d : Leaf} (h : leLf a b = true) (h' : leLf b d = true) : leLf a d = true := by
  cases a <;> cases b <;> simp only [leLf, Bool.false_eq_true] at h <;> cases d <;> simp only [leLf, decide_eq_true_eq, Bool.false_eq_true] at h h' ⊢
  · exact Int.le_trans h h'
  · exact List.le_trans h h'
theorem le_tot {a b : Leaf} (h : (isN a && isN b || isT a && isT b) = true) (h' : ¬ leLf a b = true) : leLf b a = true := by
  cases a <;> cases b <;> simp only [isN, isT, leLf, decide_eq_true_eq, Bool.false_eq_true, Bool.and_false, Bool.false_and, Bool.or_false] at h h' ⊢
  · omega
  · exact List.le_of_lt (List.not_le.mp h')
def insL (x : Leaf) : List Leaf → List Leaf
  | [] => [x]
  | y :: ys => bif leLf x y then x :: y :: ys else y :: insL x ys
def srtL : List Leaf → List Leaf
  | [] => []
  | x :: xs => insL x (srtL xs)
theorem ins_perm (x : Leaf) : ∀ ys : List Leaf, (insL x ys).Perm (x :: ys)
  | [] => List.Perm.refl _
  | y :: ys => by
    unfold insL
    cases leLf x y with
    | true => exact List.Perm.refl _
    | false => exact ((ins_perm x ys).cons y).trans (List.Perm.swap x y ys)
theorem srt_perm : ∀ xs : List Leaf, (srtL xs).Perm xs
  | [] => List.Perm.refl _
  | x :: xs => (ins_perm x _).trans ((srt_perm xs).cons x)
theorem ins_up {x : Leaf} : ∀ {ys : List Leaf}, (∀ y ∈ ys, (isN x && isN y || isT x && isT y) = true) → ys.Pairwise (fun a b => leLf a b = true) → (insL x ys).Pairwise (fun a b => leLf a b = true)
  | [], _, _ => List.pairwise_cons.mpr ⟨fun _ h => (List.not_mem_nil h).elim, List.Pairwise.nil⟩
  | y :: ys, hk, h => by
    obtain ⟨h1, h2⟩ := List.pairwise_cons.mp h
    unfold insL
    cases e : leLf x y with
    | true => exact List.pairwise_cons.mpr ⟨fun z hz => by
        rcases List.mem_cons.mp hz with rfl | hz
        · exact e
        · exact le_trans' e (h1 z hz), h⟩
    | false =>
      refine List.pairwise_cons.mpr ⟨fun z hz => ?_, ins_up (fun z hz => hk z (.tail _ hz)) h2⟩
      rcases List.mem_cons.mp ((ins_perm x ys).mem_iff.mp hz) with rfl | hz
      · exact le_tot (hk y (.head _)) (by rw [e]; exact Bool.false_ne_true)
      · exact h1 z hz
theorem alk_two {ls : List Leaf} (h : Alk ls) {a b : Leaf} (ha : a ∈ ls) (hb : b ∈ ls) : (isN a && isN b || isT a && isT b) = true := by
  rcases h with ⟨ns, rfl⟩ | ⟨ns, rfl⟩
  · obtain ⟨i, _, rfl⟩ := List.mem_map.mp ha
    obtain ⟨j, _, rfl⟩ := List.mem_map.mp hb
    rfl
  · obtain ⟨i, _, rfl⟩ := List.mem_map.mp ha
    obtain ⟨j, _, rfl⟩ := List.mem_map.mp hb
    rfl
theorem alk_tail {x : Leaf} {ls : List Leaf} (h : Alk (x :: ls)) : Alk ls := by
  rcases h with ⟨ns, e⟩ | ⟨ns, e⟩
  · cases ns with
    | nil => cases e
    | cons i ns => injection e with _ e; exact .inl ⟨ns, e⟩
  · cases ns with
    | nil => cases e
    | cons i ns => injection e with _ e; exact .inr ⟨ns, e⟩
theorem srt_up : ∀ {xs : List Leaf}, Alk xs → (srtL xs).Pairwise (fun a b => leLf a b = true)
  | [], _ => List.Pairwise.nil
  | x :: xs, h => ins_up (fun y hy => alk_two h (.head _) (.tail _ ((srt_perm xs).mem_iff.mp hy))) (srt_up (alk_tail h))
theorem srt_only {xs ys : List Leaf} (h : Alk xs) (p : ys.Perm xs) (u : ys.Pairwise (fun a b => leLf a b = true)) : ys = srtL xs :=
  List.Perm.eq_of_pairwise (le := fun a b => leLf a b = true) (fun a b _ _ h1 h2 => le_anti h1 h2) u (srt_up h) (p.trans (srt_perm xs).symm)
def dedL : List Leaf → List Leaf
  | [] => []
  | x :: xs => bif (dedL xs).contains x then dedL xs else x :: dedL xs
theorem contains_iff {x : Leaf} {xs : List Leaf} : xs.contains x = true ↔ x ∈ xs := by simp
theorem ded_mem {x : Leaf} : ∀ {xs : List Leaf}, x ∈ dedL xs ↔ x ∈ xs
  | [] => Iff.rfl
  | y :: ys => by
    unfold dedL
    cases e : (dedL ys).contains y with
    | true =>
      rw [cond_true, ded_mem, List.mem_cons]
      refine ⟨.inr, fun h => h.elim (fun z => ?_) id⟩
      subst z
      exact ded_mem.mp (contains_iff.mp e)
    | false => rw [cond_false, List.mem_cons, List.mem_cons, ded_mem]
theorem ded_nodup : ∀ xs : List Leaf, (dedL xs).Nodup
  | [] => List.Pairwise.nil
  | y :: ys => by
    unfold dedL
    cases e : (dedL ys).contains y with
    | true => exact ded_nodup ys
    | false =>
      refine List.nodup_cons.mpr ⟨fun h => ?_, ded_nodup ys⟩
      rw [contains_iff.mpr h] at e
      cases e
theorem ded_alk : ∀ {xs : List Leaf}, Alk xs → Alk (dedL xs)
  | [], h => h
  | y :: ys, h => by
    unfold dedL
    have ih := ded_alk (alk_tail h)
    cases (dedL ys).contains y with
    | true => exact ih
    | false =>
      rcases h with ⟨ns, e⟩ | ⟨ns, e⟩
      · cases ns with
        | nil => cases e
        | cons i ns =>
          injection e with e1 e2
          rcases ih with ⟨ms, em⟩ | ⟨ms, em⟩
          · exact .inl ⟨i :: ms, by rw [cond_false, em, e1]; rfl⟩
          · cases ms with
            | nil => exact .inl ⟨[i], by rw [cond_false, em, e1]; rfl⟩
            | cons m ms =>
              exfalso
              have hm : Leaf.text m ∈ dedL ys := by rw [em]; exact .head _
              have hm2 := ded_mem.mp hm
              rw [e2] at hm2
              obtain ⟨j, _, q⟩ := List.mem_map.mp hm2
              cases q
      · cases ns with
        | nil => cases e
        | cons i ns =>
          injection e with e1 e2
          rcases ih with ⟨ms, em⟩ | ⟨ms, em⟩
          · cases ms with
            | nil => exact .inr ⟨[i], by rw [cond_false, em, e1]; rfl⟩
            | cons m ms =>
              exfalso
              have hm : Leaf.num m ∈ dedL ys := by rw [em]; exact .head _
              have hm2 := ded_mem.mp hm
              rw [e2] at hm2
              obtain ⟨j, _, q⟩ := List.mem_map.mp hm2
              cases q
          · exact .inr ⟨i :: ms, by rw [cond_false, em, e1]; rfl⟩
theorem nodup_perm {xs ys : List Leaf} (h1 : xs.Nodup) (h2 : ys.Nodup) (h : ∀ k, k ∈ xs ↔ k ∈ ys) : xs.Perm ys := (List.perm_ext_iff_of_nodup h1 h2).mpr h

open PySem.W in
theorem each_num : ∀ {ns : List Int} {vs : List Value}, Vals ((ns.map Leaf.num).map lv) vs → EachIs (fun v (b : Int) => RelV (.int b) v) vs ns
  | [], _, h => by cases h; exact .nil
  | _ :: _, _, h => by cases h with | cons r t => exact .cons r (each_num t)
open PySem.W in
theorem each_text : ∀ {ns : List Str} {vs : List Value}, Vals ((ns.map Leaf.text).map lv) vs → EachIs (fun v (b : Str) => RelV (.str b) v) vs ns
  | [], _, h => by cases h; exact .nil
  | _ :: _, _, h => by cases h with | cons r t => exact .cons r (each_text t)
open PySem.W in
theorem num_each : ∀ {ns : List Int} {vs : List Value}, EachIs (fun v (b : Int) => RelV (.int b) v) vs ns → Vals ((ns.map Leaf.num).map lv) vs
  | _, _, .nil => .nil
  | _, _, .cons r t => .cons r (num_each t)
open PySem.W in
theorem text_each : ∀ {ns : List Str} {vs : List Value}, EachIs (fun v (b : Str) => RelV (.str b) v) vs ns → Vals ((ns.map Leaf.text).map lv) vs
  | _, _, .nil => .nil
  | _, _, .cons r t => .cons r (text_each t)
/-! ### sorting values that read as leaves -/
section
variable {P : Program} {w : World} {A : Around} {E : Value → Shared → Prop} {s : Shared}
theorem sort_leaves {vs : List Value} {ls : List Leaf} {a : Addr} {Q : Value → Shared → Prop} (hv : Vals (ls.map lv) vs) (hal : Alk ls) (ho : s.heap.get? a = some (seqObj "list" vs.toArray 0)) (hL : ls.length ≤ sizeLine) (hu : A.units + 64 < cLine)
    (h : ∀ out c h', h'.get? a = some (seqObj "list" (List.toArray out) c) → (∀ b o, b ≠ a → s.heap.get? b = some o → h'.get? b = some o) → Vals ((srtL ls).map lv) out → Q .none { s with heap := h' }) :
    wpAny (model P w) A (call (.builtin "list.sort") [.ref a]) Q E s := by
  have fin : ∀ out : List Value, Vals ((srtL ls).map lv) out → Q .none { s with heap := PyProof.Rows.sortedHeap s.heap a vs out.toArray } := fun out ho' => by
    obtain ⟨c, hc⟩ := sortedHeap_at (vs := vs) (out := out.toArray) ho
    exact h out c _ hc (fun b o hb e => (sortedHeap_old hb (Heap.lt_size e)).trans e) ho'
  rcases hal with ⟨ns, rfl⟩ | ⟨ns, rfl⟩
  · have e := each_num hv
    have er : PySem.W.EachIs (fun v (b : Int) => ∃ as, Reads s.heap v (PyData.int b) as ∧ a ∉ as) vs ns := e.mono fun v b r => by
      obtain ⟨t, rfl⟩ := r
      exact ⟨[], .int _ _, List.not_mem_nil⟩
    refine PySem.W.list_sort_data (enc := PyData.int) ho e er (PySem.W.AllAlike.of fun b b' => by simp [PySem.W.alike]) (PySem.W.Sortable.others fun b => ⟨by simp, by simp⟩) (by rw [List.length_map] at hL; exact hL) (fun b _ => by simp only [PyData.depth]; omega) fun out h1 h2 => fin out ?_
    rw [PySem.W.dataLe_int fun b => b] at h2
    have hs : (ns.mergeSort fun a b => decide (a ≤ b)).map Leaf.num = srtL (ns.map .num) := srt_only (.inl ⟨ns, rfl⟩) ((List.mergeSort_perm _ _).map _) (by
      rw [List.pairwise_map]
      exact List.pairwise_mergeSort (le := fun a b : Int => decide (a ≤ b)) (fun a b c h1 h2 => decide_eq_true (Int.le_trans (of_decide_eq_true h1) (of_decide_eq_true h2))) (fun a b => by
        rcases Int.le_total a b with h | h
        · simp [h]
        · simp [h]) ns)
    rw [← hs]
    exact num_each h2
  · have e := each_text hv
    have er : PySem.W.EachIs (fun v (b : Str) => ∃ as, Reads s.heap v (PyData.str b) as ∧ a ∉ as) vs ns := e.mono fun v b r => by
      obtain ⟨t, rfl⟩ := r
      exact ⟨[], .str _ _, List.not_mem_nil⟩
    refine PySem.W.list_sort_data (enc := PyData.str) ho e er (PySem.W.AllAlike.of fun b b' => by simp [PySem.W.alike]) (PySem.W.Sortable.others fun b => ⟨by simp, by simp⟩) (by rw [List.length_map] at hL; exact hL) (fun b _ => by simp only [PyData.depth]; omega) fun out h1 h2 => fin out ?_
    rw [PySem.W.dataLe_str fun b => b] at h2
    have hs : (ns.mergeSort fun a b => decide (a.cps.toList ≤ b.cps.toList)).map Leaf.text = srtL (ns.map .text) := srt_only (.inr ⟨ns, rfl⟩) ((List.mergeSort_perm _ _).map _) (by
      rw [List.pairwise_map]
      exact List.pairwise_mergeSort (le := fun a b : Str => decide (a.cps.toList ≤ b.cps.toList)) (fun a b c h1 h2 => decide_eq_true (List.le_trans (of_decide_eq_true h1) (of_decide_eq_true h2))) (fun a b => by
        rcases List.le_total a.cps.toList b.cps.toList with h | h
        · simp [h]
        · simp [h]) ns)
    rw [← hs]
    exact text_each h2
theorem alkB_perm {ls ls' : List Leaf} (p : ls'.Perm ls) (h : alkB ls = true) : alkB ls' = true := by
  unfold alkB at h ⊢
  rw [Bool.or_eq_true, List.all_eq_true, List.all_eq_true] at h ⊢
  exact h.imp (fun h x hx => h x (p.mem_iff.mp hx)) fun h x hx => h x (p.mem_iff.mp hx)
theorem srt_of_perm {ls ls' : List Leaf} (p : ls'.Perm ls) (h : alkB ls = true) : srtL ls' = srtL ls :=
  srt_only (alk_of h) ((srt_perm ls').trans p) (srt_up (alk_of (alkB_perm p h)))
/-- sorted(x), by what collecting x yields -/
theorem sorted_leaves {x : Value} {ls : List Leaf} {Q : Value → Shared → Prop} (hu : A.units + 66 < cLine) (hal : alkB ls = true) (hL : ls.length ≤ sizeLine)
    (hc : ∀ (R : List Value → Shared → Prop), (∀ s' vs ls', (∀ b o, s.heap.get? b = some o → s'.heap.get? b = some o) → s.heap.objs.size ≤ s'.heap.objs.size → s'.gens = s.gens → s'.os = s.os → Vals (List.map lv ls') vs → List.Perm ls' ls → R vs s') →
      wpAny (model P w) A.in1 (collect x) R E s)
    (h : ∀ s' p out c, (∀ b o, s.heap.get? b = some o → s'.heap.get? b = some o) → s'.gens = s.gens → s'.os = s.os → s.heap.objs.size ≤ p → s'.heap.get? p = some (seqObj "list" (List.toArray out) c) → Vals ((srtL ls).map lv) out → Q (.ref p) s') :
    wpAny (model P w) A (call (.builtin "sorted") [x]) Q E s := by
  refine Calls.call_function_entry kind_sorted plain_sorted entry_sorted (args_sorted1 _) ?_
  unfold Builtin.«sorted»
  refine wpAny_bind (m := checkCount "sorted" 1 1 _) (wpAny_pure ?_)
  refine wpAny_bind (wpAny_mono (hc (fun vs s' => ∃ ls', (∀ b o, s.heap.get? b = some o → s'.heap.get? b = some o) ∧ s.heap.objs.size ≤ s'.heap.objs.size ∧ s'.gens = s.gens ∧ s'.os = s.os ∧ Vals (List.map lv ls') vs ∧ List.Perm ls' ls) fun s' vs ls' a1 a2 a3 a4 a5 a6 => ⟨ls', a1, a2, a3, a4, a5, a6⟩) (fun vs s1 hq => ?_) fun _ _ h => h)
  obtain ⟨ls', k1, hz, g1, o1, hv, pm⟩ := hq
  have hl' : ls'.length ≤ sizeLine := by rw [pm.length_eq]; exact hL
  have hvl : vs.length ≤ sizeLine := by
    have q := L2.Vals.length hv
    rw [List.length_map] at q
    omega
  refine wpAny_bind (wpAny_newList ?_ hvl)
  have hoL : (s1.heap.push (seqObj "list" vs.toArray 0)).get? s1.heap.objs.size = some (seqObj "list" vs.toArray 0) := Heap.get?_push_size _ rfl
  refine wpAny_bind (wpAny_holding (sort_leaves hv (alk_of (alkB_perm pm hal)) hoL hl' (by simp only [PyProof.Rows.units_in1]; omega) fun out c h' e1 e2 e3 => ?_))
  rw [srt_of_perm pm hal] at e3
  refine wpAny_pure ⟨_, rfl, h _ s1.heap.objs.size out c (fun b o e => ?_) g1 o1 hz e1 e3⟩
  have e' := k1 b o e
  exact e2 b o (Nat.ne_of_lt (Heap.lt_size e')) (Heap.get?_push_of_some _ e')
theorem collect_seq' {Q : List Value → Shared → Prop} (it : Addr) {T : String} {o : Obj} {items : Array Value} {n : Nat} (hT : T = "list" ∨ T = "tuple")
    (ho : s.heap.get? it = some o) (hc : o.cls = .type T) (hd : o.data = .seq items n)
    (hQ : ∀ h', (∀ b o', s.heap.get? b = some o' → h'.get? b = some o') → s.heap.objs.size ≤ h'.objs.size → Q items.toList { s with heap := h' }) (hsz : items.size ≤ sizeLine) :
    wpAny (model P w) A (collect (.ref it)) Q E s := by
  unfold collect
  refine wpAny_bind (wpAny_runValue (codeAny_builtin F.entry_proto_collect ?_))
  rw [Around.under_plainId F.plain_proto_collect _]
  show wpAny _ A.in1 (newList [] >>= fun l => again (.builtin "list.__iadd__" ⟨[l, .ref it], []⟩)) _ _ s
  refine wpAny_bind (wpAny_newObj_type ?_)
  refine wpAny_pure ⟨plainId_quiet F.plain_list_iadd _, codeAny_builtin F.entry_list_iadd ?_⟩
  rw [Around.under_plainId F.plain_list_iadd _]
  show wpAny _ A.in1 (Builtin.List.listExtendWith (.ref s.heap.objs.size) (.ref it) (.ref s.heap.objs.size)) _ _ _
  have hS : (s.heap.push { cls := .type "list", data := .seq ([] : List Value).toArray }).get? s.heap.objs.size = some { cls := .type "list", data := .seq #[] 0 } := Heap.get?_push_size _ rfl
  have hS₂ := Heap.get?_update_self (Obj.mapSeq (· ++ items)) hS rfl
  have fin' : wpAny (model P w) A (match Value.ref s.heap.objs.size with
      | Value.ref a => do
        match (← load a).data with
          | Data.seq xs _ => pure xs.toList
          | _ => unsupported "internal:collect"
      | _ => unsupported "internal:collect") Q E { s with heap := (s.heap.push { cls := .type "list", data := .seq ([] : List Value).toArray }).update s.heap.objs.size (Obj.mapSeq (· ++ items)) } := by
    show wpAny _ A (load s.heap.objs.size >>= _) _ _ _
    refine wpAny_bind (wpAny_load hS₂ ?_)
    refine wpAny_pure ?_
    have e : ((#[] : Array Value) ++ items).toList = items.toList := by simp
    show Q ((#[] : Array Value) ++ items).toList _
    rw [e]
    refine hQ _ (fun b o' hb => ?_) ?_
    · exact (Heap.get?_update_other _ _ (Nat.ne_of_gt (Heap.lt_size hb))).trans (Heap.get?_push_of_some _ hb)
    · rw [Heap.size_update, size_push']; exact Nat.le_succ _
  refine wpAny_mono (wpAny_extend_seq (hsz := hsz) (A := A) (R := fun r s' => r = .ok (.ret (.ref s.heap.objs.size)) ∧ s' = { s with heap := (s.heap.push { cls := .type "list", data := .seq ([] : List Value).toArray }).update s.heap.objs.size (Obj.mapSeq (· ++ items)) })
    (s := { s with heap := s.heap.push { cls := .type "list", data := .seq ([] : List Value).toArray } }) _ it _ 0 hT hS (Heap.get?_push_of_some _ ho) hc hd ⟨rfl, rfl⟩) (fun fin s' h => ?_) (fun e s' h => ?_)
  · cases fin with
    | done f =>
      obtain ⟨e, rfl⟩ := h
      cases e
      exact fin'
    | again c' => exact ⟨h.1, codeAny_mono h.2 fun r s'' hr => by obtain ⟨rfl, rfl⟩ := hr; exact fin'⟩
  · exact absurd h.1 (by simp)
theorem collect_K {k : Bool} {l : Addr} {items : Array Value} {Q : List Value → Shared → Prop} (hl : IsK k s.heap l items) (hsz : items.size ≤ sizeLine)
    (h : ∀ h', (∀ b o, s.heap.get? b = some o → h'.get? b = some o) → s.heap.objs.size ≤ h'.objs.size → Q items.toList { s with heap := h' }) : wpAny (model P w) A (collect (.ref l)) Q E s := by
  cases k
  · obtain ⟨o, ho, hc, n, hd⟩ := id hl
    exact collect_seq' l (.inl rfl) ho hc hd h hsz
  · obtain ⟨o, ho, hc, n, hd⟩ := id hl
    exact collect_seq' l (.inr rfl) ho hc hd h hsz
end
/-! ### rules of calls -/
def SetLO (P : Program) (w : World) (a : Addr) (S : Leaf → Bool) (n : Nat) : HO := .ext fun h => SetL P w h a S n
section
variable {X : Cx}
theorem setLO_new {P : Program} {w : World} {H : Hp} {h : Heap} {a : Addr} {S : Leaf → Bool} {n : Nat} (R : SetL P w h a S n) : ObjOk P w H h a (SetLO P w a S n) :=
  ⟨R, by obtain ⟨o, es, ep, t, ho, _⟩ := R; exact ⟨o, ho⟩, fun h1 h2 r k => r.at k⟩
theorem setLO_get {pins : List (Addr × Obj)} {σ : L2.St} {H : Hp} {s : Shared} {a : Addr} {S : Leaf → Bool} {n : Nat} (I : Inv X pins σ H s) (ha : H a = some (SetLO X.prog X.w a S n)) : SetL X.prog X.w s.heap a S n := (I.hok a _ ha).1
def SeqLf (K : PySem.W.Frag) (H : Hp) (a : Addr) (ls : List Leaf) : Prop := SqL K H a (ls.map lv) ∨ SqT K H a (ls.map lv)
theorem seqLf_at {pins : List (Addr × Obj)} {σ : L2.St} {H : Hp} {s : Shared} {a : Addr} {ls : List Leaf} (I : Inv X pins σ H s) (h : SeqLf X.K H a ls) : ∃ k items, IsK k s.heap a items ∧ Vals (ls.map lv) items.toList ∧ items.size ≤ sizeLine := by
  rcases h with h | h
  · obtain ⟨its, rv, hl, hz⟩ := I.list h
    refine ⟨false, its.toArray, hl.isList, rv, ?_⟩
    have q := L2.Vals.length rv
    simp only [List.size_toArray]; omega
  · obtain ⟨its, rv, hl, hz⟩ := I.tuple h
    refine ⟨true, its.toArray, hl, rv, ?_⟩
    have q := L2.Vals.length rv
    simp only [List.size_toArray]; omega
/-- set(xs) -/
def rSetL (K : PySem.W.Frag) (P : Program) (w : World) : List V → Hp → VK → Prop := fun xs H Q => ∃ (a : Addr) (ls : List Leaf), xs = [.ref a] ∧ SeqLf K H a ls ∧ ls.length + 1 < scanBound ∧
  ∀ (p : Addr) (n : Nat), n ≤ ls.length → H p = none → Q (.ref p) (upd H p (SetLO P w p (fun j => decide (j ∈ ls)) n))
theorem cr_setL (hc : X.calm = true) : CallR X (.type "set") (rSetL X.K X.prog X.w) := by
  intro pins s σ H xs us Q I r h
  obtain ⟨a, ls, rfl, hs, hb, q⟩ := h
  obtain ⟨k, items, h1, h2, h3⟩ := seqLf_at I hs
  rw [Vals.ref1 r]
  refine call_set k ls (I.ok.hd hc) h1 h2 hb fun h' tk c hS hcn keep => ?_
  have hn : H s.heap.objs.size = none := I.hok.fresh (Nat.le_refl _)
  exact ⟨.ref s.heap.objs.size, _, I.call (g' := s.gens) (t' := tk) (d' := s.drawn) (h' := h') (ch := []) (Un.laid keep (Nat.le_refl _) hn) (I.hok.laid keep (Nat.le_refl _) (setLO_new hS)) I.bare (fun _ z => nomatch z), rfl, q _ c hcn hn⟩
/-- sorted(xs), xs a list, a tuple -/
def rSortL (K : PySem.W.Frag) : List V → Hp → VK → Prop := fun xs H Q => ∃ (a : Addr) (ls : List Leaf), xs = [.ref a] ∧ SeqLf K H a ls ∧ alkB ls = true ∧
  ∀ p : Addr, H p = none → Q (.ref p) (upd H p (.lst ((srtL ls).map lv)))
/-- sorted(xs), xs a set -/
def rSortSetL (P : Program) (w : World) : List V → Hp → VK → Prop := fun xs H Q => ∃ (a : Addr) (S : Leaf → Bool) (n : Nat) (ls : List Leaf), xs = [.ref a] ∧ H a = some (SetLO P w a S n) ∧ n ≤ sizeLine ∧ (∀ k, S k = true ↔ k ∈ ls) ∧ alkB (dedL ls) = true ∧
  ∀ p : Addr, H p = none → Q (.ref p) (upd H p (.lst ((srtL (dedL ls)).map lv)))
theorem sort_end {pins : List (Addr × Obj)} {σ : L2.St} {H : Hp} {s s' : Shared} {p : Addr} {out : List Value} {c : Nat} {xs : List V} {Q : VK} (I : Inv X pins σ H s) (k : ∀ b o, s.heap.get? b = some o → s'.heap.get? b = some o) (g : s'.gens = s.gens) (o : s'.os = s.os) (hp : s.heap.objs.size ≤ p)
    (hg : s'.heap.get? p = some (seqObj "list" (List.toArray out) c)) (hv : Vals xs out) (hL : xs.length ≤ sizeLine) (q : ∀ p : Addr, H p = none → Q (.ref p) (upd H p (.lst xs))) : EP X pins σ Q (.ref p) s' := by
  have hn : H p = none := I.hok.fresh hp
  have J : Inv X pins σ (upd H p (.lst xs)) { s with heap := s'.heap, gens := s'.gens, drawn := s'.drawn, toks := s'.toks } :=
    I.call (ch := []) (Un.laid k hp hn) (I.hok.laid k hp ⟨hL, out, c, hv, hg⟩) (by rw [g]; exact I.bare) (fun _ z => nomatch z)
  have e : s' = { s with heap := s'.heap, gens := s'.gens, drawn := s'.drawn, toks := s'.toks } := by
    cases s'
    cases s
    cases o
    rfl
  rw [e]
  exact ⟨.ref p, _, J, rfl, q p hn⟩
theorem cr_sortL (hu : X.A.units + 66 < cLine) : CallR X (.builtin "sorted") (rSortL X.K) := by
  intro pins s σ H xs us Q I r h
  obtain ⟨a, ls, rfl, hs, hal, q⟩ := h
  obtain ⟨k, items, h1, h2, h3⟩ := seqLf_at I hs
  rw [Vals.ref1 r]
  have hl : ls.length = items.size := by
    have q : (ls.map lv).length = items.toList.length := L2.Vals.length h2
    rw [List.length_map] at q
    exact q.trans Array.length_toList
  refine sorted_leaves hu hal (by rw [hl]; exact h3) (fun R hR => collect_K h1 h3 fun h' keep hsz => hR _ _ ls keep hsz rfl rfl h2 (List.Perm.refl _)) fun s' p out c k g o hp hg hv => ?_
  exact sort_end I k g o hp hg hv (by rw [List.length_map, (srt_perm ls).length_eq, hl]; exact h3) q
theorem cr_sortSetL (hc : X.calm = true) (hu : X.A.units + 66 < cLine) : CallR X (.builtin "sorted") (rSortSetL X.prog X.w) := by
  intro pins s σ H xs us Q I r h
  obtain ⟨a, S, n, ls, rfl, ha, hnl, hS, hal, q⟩ := h
  obtain ⟨o, es, ep, t, ho, hex, hd, g, nd, hm, hb, hf, hn, hr, hl⟩ := setLO_get I ha
  rw [Vals.ref1 r]
  have pk : (es.toList.map kyOf).Perm (dedL ls) := nodup_perm nd (ded_nodup ls) fun k => by rw [← hm k, hS k, ded_mem]
  have hlen : (dedL ls).length ≤ sizeLine := by rw [← pk.length_eq, List.length_map, Array.length_toList]; omega
  refine sorted_leaves hu hal hlen (fun R hR => collect_set (A := X.A.in1) (I.ok.hd hc) ⟨o, ho, hex.1, hd⟩ hf hb hr hl fun s' out k1 hz g1 o1 pm => hR s' out (out.map fun v => kyOf (0, v)) k1 hz g1 o1 ?_ ?_) fun s' p out c k g o hp hg hv => ?_
  · have hall : ∀ v ∈ out, RelV (lv (kyOf (0, v))) v := fun v hv => by
      obtain ⟨e, he, rfl⟩ := List.mem_map.mp (pm.mem_iff.mp hv)
      obtain ⟨k, rk, _⟩ := g e he
      have z : kyOf (0, e.2) = k := ky_of (e := (0, e.2)) rk
      rw [z]; exact rk
    clear pm
    induction out with
    | nil => exact .nil
    | cons v out ih => exact .cons (hall v (.head _)) (ih fun u hu => hall u (.tail _ hu))
  · refine List.Perm.trans ?_ pk
    have q := pm.map fun v => kyOf (0, v)
    rw [List.map_map] at q
    exact q
  · exact sort_end I k g o hp hg hv (by rw [List.length_map, (srt_perm _).length_eq]; exact hlen) q
/-- len(s), s a set -/
def rLenSetL (P : Program) (w : World) : List V → Hp → VK → Prop := fun xs H Q => ∃ (a : Addr) (S : Leaf → Bool) (n : Nat) (ls : List Leaf), xs = [.ref a] ∧ H a = some (SetLO P w a S n) ∧ (∀ k, S k = true ↔ k ∈ ls) ∧
  Q (.int ((dedL ls).length : Nat)) H
theorem cr_lenSetL : CallR X (.builtin "len") (rLenSetL X.prog X.w) := by
  intro pins s σ H xs us Q I r h
  obtain ⟨a, S, n, ls, rfl, ha, hS, q⟩ := h
  have R := setLO_get I ha
  obtain ⟨o, es, ep, t, ho, hex, hd, g, nd, hm, hb, hf, hn, hr, hl⟩ := id R
  have pk : (es.toList.map kyOf).Perm (dedL ls) := nodup_perm nd (ded_nodup ls) fun k => by rw [← hm k, hS k, ded_mem]
  have hlen : n = (dedL ls).length := by rw [← pk.length_eq, List.length_map, Array.length_toList]; exact hn.symm
  rw [Vals.ref1 r]
  have hz := line63
  have hz2 := fits_of_scanBound hb
  have hs2 : sizeLine = 16777216 := sizeLine_eq
  refine call_len_set ho hex hd hf (by omega) ?_
  have hn2 : es.size = (dedL ls).length := hn.trans hlen
  exact ⟨.int ((dedL ls).length : Nat), H, (I.tok _).tok _, ⟨_, by rw [hn2]⟩, q⟩
end
end DS
end

section
set_option maxRecDepth 100000
set_option maxHeartbeats 4000000
/-! DLi: built-in functions on deep values. -/
namespace DL
open PySem PySem.Spec PyProof.Rows L2 DR
section
variable {c : Ct}
/-- a built-in of one value: a value, a new list -/
def RunX (c : Ct) (k : V → Hp → VK → Prop) (f : D → T D) : Prop := RunE c k f
def RunL (c : Ct) (k : V → Hp → VK → Prop) (f : D → T (List D)) : Prop := ∀ (H : Hp) (P : Addr → Prop) (n : Nat) (x : V) (d : D) (R : List D → Nat → Prop), Ok c P H n → RepX c P H x d → (f d).ok n R →
  ∀ Q : VK, (∀ p xs H' ds n', R ds n' → ExU c.u H H' → Ok c P H' n' → H p = none → H' p = some (.lst xs) → Reps c (Msk (fun a => P a ∨ a = p) H') xs ds → Q (.ref p) H') → k x H Q
/-- .. of values that are apart -/
def RunA (c : Ct) (r : List V → Hp → VK → Prop) (f : List D → T D) : Prop := ∀ (H : Hp) (P : Addr → Prop) (n : Nat) (xs : List V) (ds : List D) (R : D → Nat → Prop), Ok c P H n → Reps c (Msk P H) xs ds → (f ds).ok n R →
  ∀ Q : VK, (∀ v H' d' n', R d' n' → ExU c.u H H' → Ok c P H' n' → Rep c (Msk P H') v d' → Q v H') → r xs H Q
def fFn (f : D → T D) (a : Env → T D) : Env → T D := fun ρ => (a ρ).bind f
def lFn (f : D → T (List D)) (a : Env → T D) : Env → T (List D) := fun ρ => (a ρ).bind f
def aFn (f : List D → T D) (a : Env → T (List D)) : Env → T D := fun ρ => (a ρ).bind f
theorem ev_fn {r : List V → Hp → VK → Prop} {f : D → T D} {te : TE} {F : Env → T D} (hr : RunE c (fun x => r [x]) f) (ha : EvX c te F) : EvE c (tCB r (tCons te tNil)) (fFn f F) := ev_un (r := fun x => r [x]) hr ha
theorem ev_then {k : V → Hp → VK → Prop} {f : D → T D} {te : TE} {F : Env → T D} (hr : RunE c k f) (ha : EvX c te F) : EvE c (tThen te k) (fFn f F) := ev_un (r := k) hr ha
theorem el_fn {r : List V → Hp → VK → Prop} {f : D → T (List D)} {te : TE} {F : Env → T D} (hr : RunL c (fun x => r [x]) f) (ha : EvX c te F) : EvL c (tCB r (tCons te tNil)) (lFn f F) := fun σ H P ρ n R o er ok Q q =>
  ha σ H P ρ n _ o er (T.ok_bind.mp ok) _ fun x H1 d n1 ok1 e1 o1 rx => hr H1 P n1 x d R o1 rx ok1 Q fun p xs H3 ds n3 r e3 o3 hp h3 rp => q p xs H3 ds n3 r (e1.trans e3) o3 (e1.free (o1.nu hp) hp) h3 rp
theorem ev_fnA {r : List V → Hp → VK → Prop} {f : List D → T D} {ta : TA} {F : Env → T (List D)} (hr : RunA c r f) (ha : EvA c ta F) : EvE c (tCB r ta) (aFn f F) := fun σ H P ρ n R o er ok Q q =>
  ha σ H P ρ n _ o er (T.ok_bind.mp ok) _ fun xs H1 ds n1 ok1 e1 o1 rs => hr H1 P n1 xs ds R o1 rs ok1 Q fun v H3 d' n3 r e3 o3 rp => q v H3 d' n3 r (e1.trans e3) o3 rp

/-! ### len -/
def lenD : D → T D
  | .lst ds => .ret (.int ds.length)
  | .tup ds => .ret (.int ds.length)
  | .str z => (match decide (z.length ≤ capD) with | true => .ret (.int z.length) | false => .fail)
  | _ => .fail
/-- tuple(x): a new tuple without a dict, or x itself -/
def kTupN (K : PySem.W.Frag) (x : V) (H : Hp) (Q : VK) : Prop :=
  (∃ p xs, x = .ref p ∧ SqL K H p xs ∧ ∀ (ob : Obj) (q : Addr), ob.dict = none → H q = none → Q (.ref q) (upd H q (.frz ob (.tup xs)))) ∨ (∃ p xs, x = .ref p ∧ SqT K H p xs ∧ Q (.ref p) H)
theorem rl_tupleN {X : Cx} (pins : List (Addr × Obj)) (s : Shared) (σ : L2.St) (H : Hp) (x : V) (v : Value) (Q : VK) (I : Inv X pins σ H s) (r : RelV x v) (h : kTupN X.K x H Q) :
    wpAny (model X.prog X.w) X.A (call (.type "tuple") [v]) (EP X pins σ Q) X.xe s := by
  rcases h with ⟨p, xs, rfl, hs, q⟩ | ⟨p, xs, rfl, hs, q⟩
  · obtain rfl : v = .ref p := r
    obtain ⟨its, rv, pl, hz⟩ := I.list hs
    refine call_tuple_list pl.isList (fun h' hk => ?_) (by rw [List.size_toArray, ← rv.length]; exact hz)
    have I1 : Inv X pins σ H { s with heap := h' } := I.kept (t' := s.toks) hk
    exact ⟨.ref h'.objs.size, _, I1.laid (t' := s.toks) (o := .frz _ (.tup xs)) (fun b o e => Heap.get?_push_of_some _ e) (Nat.le_refl _) ⟨Heap.get?_push_size _ rfl, hz, its, rv, IsTup.new _ _⟩, rfl, q _ _ rfl (I1.hok.fresh (Nat.le_refl _))⟩
  · obtain rfl : v = .ref p := r
    obtain ⟨its, rv, pl, hz⟩ := I.tuple hs
    exact call_tuple_tup pl ⟨.ref p, H, I, rfl, q⟩
theorem pe_tupleN {X : Cx} {a : Expr} {ta : TE} {p pos : Pos} (hg : Gl X "tuple") (hm : X.mg "tuple" = none) (ha : PE X a ta) (na : starEach [a] X.env = (false, eval a X.env) :: starEach [] X.env := by rfl) :
    PE X (.Call (.Name "tuple" p) [a] [] pos) (tThen ta (kTupN X.K)) := by
  refine ⟨fun pins s σ H Q I h => ?_⟩
  exact Call_ (ld_blt I hg hm boot_tuple (PyProof.Rows.callWith_type1 (one_arg ha I h (fun v s2 x H2 I2 r q => rl_tupleN pins s2 σ H2 x v Q I2 r q) na) na))
theorem rb_len : RunE c (fun y H Q => (fun xs H Q => ∃ x n, xs = [x] ∧ LenV c.K x H n ∧ Q (.int n) H) [y] H Q) lenD := by
  intro H P n x d R o rx ok Q q
  unfold lenD at ok
  split at ok
  · obtain ⟨a, xs, rfl, h2, h3⟩ := rx.lst
    exact ⟨_, xs.length, rfl, .inl ⟨xs, .of h2, rfl⟩, q _ H _ n ok (ExU.refl _ _) o (by rw [h3.length]; exact .int _)⟩
  · obtain ⟨a, xs, rfl, h2, h3⟩ := rx.tup
    exact ⟨_, xs.length, rfl, .inr ⟨xs, h2.sq, rfl⟩, q _ H _ n ok (ExU.refl _ _) o (by rw [h3.length]; exact .int _)⟩
  · split at ok
    · rename_i z hz
      obtain rfl := rx.str
      exact ⟨_, _, rfl, ⟨cap_le (of_decide_eq_true hz), rfl⟩, q _ H _ n ok (ExU.refl _ _) o (.int _)⟩
    · exact ok.elim
  · exact ok.elim
/-! ### tuple(x), list(x) -/
def tupOfD : D → T D
  | .lst ds => .ret (.tup ds)
  | .tup ds => .ret (.tup ds)
  | _ => .fail
theorem rb_tup : RunE c (kTupN c.K) tupOfD := by
  intro H P n x d R o rx ok Q q
  unfold tupOfD at ok
  split at ok
  · obtain ⟨a, xs, rfl, h2, h3⟩ := rx.lst
    exact .inl ⟨a, xs, rfl, .of h2, fun ob p hob hp => q _ _ _ n ok (ExU.new hp) (o.new hp) (rep_newT o hob hp h3)⟩
  · obtain ⟨a, xs, rfl, h2, h3⟩ := rx.tup
    refine .inr ⟨a, xs, rfl, h2.sq, q _ _ _ n ok (ExU.refl _ _) o ?_⟩
    rcases rx with h | ⟨_, _, _, _, _, z, _⟩
    · exact h
    · cases z
  · exact ok.elim
theorem reps_new {P : Addr → Prop} {H : Hp} {n : Nat} {p : Addr} {w : HO} {xs : List V} {ds : List D} (o : Ok c P H n) (hp : H p = none) (r : Reps c (Msk P H) xs ds) : Reps c (Msk (fun a => P a ∨ a = p) (upd H p w)) xs ds :=
  r.sub fun a u ha => by
    obtain ⟨h1, h2⟩ := msk_some.mp ha
    have na : a ≠ p := ne_of_none h2 hp
    exact msk_some.mpr ⟨fun z => z.elim h1 na, by rw [upd_ne na]; exact h2⟩
def listOfD (d : D) : T (List D) := match seqD d with
  | some ds => .ret ds
  | none => .fail
theorem rb_list : RunL c (fun y H Q => (fun xs H Q => ∃ p ys, xs = [.ref p] ∧ (SqL c.K H p ys ∨ SqT c.K H p ys) ∧ ∀ l, H l = none → Q (.ref l) (upd H l (.lst ys))) [y] H Q) listOfD := by
  intro H P n x d R o rx ok Q q
  unfold listOfD at ok
  split at ok
  · rename_i ds hs
    obtain ⟨a, xs, rfl, h2, h3⟩ := rx.seq hs
    exact ⟨a, xs, rfl, h2, fun p hp => q p xs _ ds n ok (ExU.new hp) (o.new hp) hp upd_same (reps_new o hp h3)⟩
  · exact ok.elim
/-! ### sum, max, min, all, any -/
def intsD : List D → Option (List Int)
  | [] => some []
  | .int i :: ds => (match intsD ds with | some is => some (i :: is) | none => none)
  | _ => none
theorem ints_of {G : Hp} : ∀ {ds : List D} {xs : List V} {ns : List Int}, intsD ds = some ns → Reps c G xs ds → xs = ns.map V.int
  | [], _, _, h, r => by cases h; cases r; rfl
  | d :: ds, _, ns, h, r => by
    unfold intsD at h
    split at h
    · rename_i e; cases e
    · rename_i i ds' e
      cases e
      split at h
      · rename_i is hi
        cases h
        cases r with
        | cons h1 h2 =>
          cases h1
          rw [ints_of hi h2]; rfl
      · cases h
    · cases h
def sumD : D → T D
  | .lst ds => (match intsD ds with | some is => .ret (.int is.sum) | none => .fail)
  | _ => .fail
theorem rb_sum : RunE c (fun y => rSum c.K [y]) sumD := by
  intro H P n x d R o rx ok Q q
  unfold sumD at ok
  split at ok
  · split at ok
    · rename_i is hi
      obtain ⟨a, xs, rfl, h2, h3⟩ := rx.lst
      have e := ints_of hi h3
      subst e
      exact ⟨a, is, rfl, .of h2, q _ H _ n ok (ExU.refl _ _) o (.int _)⟩
    · exact ok.elim
  · exact ok.elim
def maxI : Int → List Int → Int
  | m, [] => m
  | m, i :: is => maxI (bif decide (m < i) then i else m) is
def minI : Int → List Int → Int
  | m, [] => m
  | m, i :: is => minI (bif decide (i < m) then i else m) is
theorem maxI_le : ∀ (is : List Int) (m : Int), m ≤ maxI m is ∧ ∀ y ∈ is, y ≤ maxI m is
  | [], m => ⟨Int.le_refl _, fun _ h => (List.not_mem_nil h).elim⟩
  | i :: is, m => by
    unfold maxI
    cases h : decide (m < i) with
    | true =>
      have := of_decide_eq_true h
      obtain ⟨h1, h2⟩ := maxI_le is i
      exact ⟨by rw [cond_true]; omega, fun y hy => by
        rcases List.mem_cons.mp hy with rfl | hy
        · exact h1
        · exact h2 y hy⟩
    | false =>
      have := of_decide_eq_false h
      obtain ⟨h1, h2⟩ := maxI_le is m
      exact ⟨h1, fun y hy => by
        rcases List.mem_cons.mp hy with rfl | hy
        · rw [cond_false]; omega
        · exact h2 y hy⟩
theorem maxI_mem : ∀ (is : List Int) (m : Int), maxI m is ∈ m :: is
  | [], m => .head _
  | i :: is, m => by
    unfold maxI
    cases decide (m < i) with
    | true => exact .tail _ (maxI_mem is i)
    | false =>
      rcases List.mem_cons.mp (maxI_mem is m) with h | h
      · rw [cond_false, h]; exact .head _
      · exact .tail _ (.tail _ h)
theorem minI_le : ∀ (is : List Int) (m : Int), minI m is ≤ m ∧ ∀ y ∈ is, minI m is ≤ y
  | [], m => ⟨Int.le_refl _, fun _ h => (List.not_mem_nil h).elim⟩
  | i :: is, m => by
    unfold minI
    cases h : decide (i < m) with
    | true =>
      have := of_decide_eq_true h
      obtain ⟨h1, h2⟩ := minI_le is i
      exact ⟨by rw [cond_true]; omega, fun y hy => by
        rcases List.mem_cons.mp hy with rfl | hy
        · exact h1
        · exact h2 y hy⟩
    | false =>
      have := of_decide_eq_false h
      obtain ⟨h1, h2⟩ := minI_le is m
      exact ⟨h1, fun y hy => by
        rcases List.mem_cons.mp hy with rfl | hy
        · rw [cond_false]; omega
        · exact h2 y hy⟩
theorem minI_mem : ∀ (is : List Int) (m : Int), minI m is ∈ m :: is
  | [], m => .head _
  | i :: is, m => by
    unfold minI
    cases decide (i < m) with
    | true => exact .tail _ (minI_mem is i)
    | false =>
      rcases List.mem_cons.mp (minI_mem is m) with h | h
      · rw [cond_false, h]; exact .head _
      · exact .tail _ (.tail _ h)
def maxLD : D → T D
  | .lst ds => (match intsD ds with | some (i :: is) => .ret (.int (maxI i is)) | _ => .fail)
  | _ => .fail
def minLD : D → T D
  | .lst ds => (match intsD ds with | some (i :: is) => .ret (.int (minI i is)) | _ => .fail)
  | _ => .fail
theorem rb_max : RunE c (fun y => rMax c.K [y]) maxLD := by
  intro H P n x d R o rx ok Q q
  unfold maxLD at ok
  split at ok
  · split at ok
    · rename_i i is hi
      obtain ⟨a, xs, rfl, h2, h3⟩ := rx.lst
      have e := ints_of hi h3
      subst e
      refine ⟨a, i :: is, rfl, .of h2, Nat.zero_lt_succ _, fun m hm hle => ?_⟩
      have e : m = maxI i is := by
        have h1 := hle _ (maxI_mem is i)
        have h2 := maxI_le is i
        rcases List.mem_cons.mp hm with z | z
        · have := h2.1; omega
        · have := h2.2 m z; omega
      rw [e]
      exact q _ H _ n ok (ExU.refl _ _) o (.int _)
    · exact ok.elim
  · exact ok.elim
theorem rb_min : RunE c (fun y => rMin c.K [y]) minLD := by
  intro H P n x d R o rx ok Q q
  unfold minLD at ok
  split at ok
  · split at ok
    · rename_i i is hi
      obtain ⟨a, xs, rfl, h2, h3⟩ := rx.lst
      have e := ints_of hi h3
      subst e
      refine ⟨a, i :: is, rfl, .of h2, Nat.zero_lt_succ _, fun m hm hle => ?_⟩
      have e : m = minI i is := by
        have h1 := hle _ (minI_mem is i)
        have h2 := minI_le is i
        rcases List.mem_cons.mp hm with z | z
        · have := h2.1; omega
        · have := h2.2 m z; omega
      rw [e]
      exact q _ H _ n ok (ExU.refl _ _) o (.int _)
    · exact ok.elim
  · exact ok.elim
def blsD : List D → Option (List Bool)
  | [] => some []
  | .bl i :: ds => (match blsD ds with | some is => some (i :: is) | none => none)
  | _ => none
theorem bls_of {G : Hp} : ∀ {ds : List D} {xs : List V} {ns : List Bool}, blsD ds = some ns → Reps c G xs ds → xs = ns.map V.bl
  | [], _, _, h, r => by cases h; cases r; rfl
  | d :: ds, _, ns, h, r => by
    unfold blsD at h
    split at h
    · rename_i e; cases e
    · rename_i i ds' e
      cases e
      split at h
      · rename_i is hi
        cases h
        cases r with
        | cons h1 h2 =>
          cases h1
          rw [bls_of hi h2]; rfl
      · cases h
    · cases h
def allD : D → T D
  | .lst ds => (match blsD ds with | some is => .ret (.bl (is.all id)) | none => .fail)
  | _ => .fail
def anyD : D → T D
  | .lst ds => (match blsD ds with | some is => .ret (.bl (is.any id)) | none => .fail)
  | _ => .fail
theorem rb_all : RunE c (fun y => rAll c.K [y]) allD := by
  intro H P n x d R o rx ok Q q
  unfold allD at ok
  split at ok
  · split at ok
    · rename_i is hi
      obtain ⟨a, xs, rfl, h2, h3⟩ := rx.lst
      have e := bls_of hi h3
      subst e
      exact ⟨a, is, rfl, .of h2, q _ H _ n ok (ExU.refl _ _) o (.bl _)⟩
    · exact ok.elim
  · exact ok.elim
theorem rb_any : RunE c (fun y => rAny c.K [y]) anyD := by
  intro H P n x d R o rx ok Q q
  unfold anyD at ok
  split at ok
  · split at ok
    · rename_i is hi
      obtain ⟨a, xs, rfl, h2, h3⟩ := rx.lst
      have e := bls_of hi h3
      subst e
      exact ⟨a, is, rfl, .of h2, q _ H _ n ok (ExU.refl _ _) o (.bl _)⟩
    · exact ok.elim
  · exact ok.elim
/-! ### abs, int, max and min of two -/
def absD : D → T D
  | .int i => .ret (.int (if i < 0 then -i else i))
  | _ => .fail
theorem rb_abs : RunE c (fun y H Q => (fun xs H Q => ∃ i, xs = [.int i] ∧ Q (.int (if i < 0 then -i else i)) H) [y] H Q) absD := by
  intro H P n x d R o rx ok Q q
  unfold absD at ok
  split at ok
  · obtain rfl := rx.int
    exact ⟨_, rfl, q _ H _ n ok (ExU.refl _ _) o (.int _)⟩
  · exact ok.elim
def intOfD : D → T D
  | .int i => .ret (.int i)
  | .bl k => .ret (.int (if k then 1 else 0))
  | _ => .fail
theorem rb_int : RunE c (fun y H Q => (fun xs H Q => (∃ i, xs = [.int i] ∧ Q (.int i) H) ∨ ∃ k, xs = [.bl k] ∧ Q (.int (if k then 1 else 0)) H) [y] H Q) intOfD := by
  intro H P n x d R o rx ok Q q
  unfold intOfD at ok
  split at ok
  · obtain rfl := rx.int
    exact .inl ⟨_, rfl, q _ H _ n ok (ExU.refl _ _) o (.int _)⟩
  · obtain rfl := rx.bl
    exact .inr ⟨_, rfl, q _ H _ n ok (ExU.refl _ _) o (.int _)⟩
  · exact ok.elim
def max2D : List D → T D
  | [.int i, .int j] => .ret (.int (if j > i then j else i))
  | _ => .fail
def min2D : List D → T D
  | [.int i, .int j] => .ret (.int (if j < i then j else i))
  | _ => .fail
theorem rb_max2 : RunA c (fun xs H Q => ∃ i j, xs = [.int i, .int j] ∧ Q (.int (if j > i then j else i)) H) max2D := by
  intro H P n xs ds R o rs ok Q q
  unfold max2D at ok
  split at ok
  · cases rs with
    | cons h1 t =>
      cases t with
      | cons h2 t =>
        cases t; cases h1; cases h2
        exact ⟨_, _, rfl, q _ H _ n ok (ExU.refl _ _) o (.int _)⟩
  · exact ok.elim
theorem rb_min2 : RunA c (fun xs H Q => ∃ i j, xs = [.int i, .int j] ∧ Q (.int (if j < i then j else i)) H) min2D := by
  intro H P n xs ds R o rs ok Q q
  unfold min2D at ok
  split at ok
  · cases rs with
    | cons h1 t =>
      cases t with
      | cons h2 t =>
        cases t; cases h1; cases h2
        exact ⟨_, _, rfl, q _ H _ n ok (ExU.refl _ _) o (.int _)⟩
  · exact ok.elim
end
end DL
end

section
set_option maxRecDepth 100000
set_option maxHeartbeats 4000000
/-! DLj: sorted, sets, isinstance on deep values. -/
namespace DL
open PySem PySem.Spec PyProof.Rows L2 DR
section
variable {c : Ct}
def leafD : D → Option Leaf
  | .non => some .none
  | .int i => some (.num i)
  | .str x => some (.text x)
  | _ => none
def dLeaf : Leaf → D
  | .none => .non
  | .num i => .int i
  | .text x => .str x
def leavesD : List D → Option (List Leaf)
  | [] => some []
  | d :: ds => match leafD d with
    | some l => (match leavesD ds with | some ls => some (l :: ls) | none => none)
    | none => none
theorem leaf_of {G : Hp} {v : V} {d : D} {l : Leaf} (h : leafD d = some l) (r : Rep c G v d) : v = DS.lv l := by
  cases r <;> (first | cases h; rfl | cases h)
theorem leaves_of {G : Hp} : ∀ {ds : List D} {xs : List V} {ls : List Leaf}, leavesD ds = some ls → Reps c G xs ds → xs = ls.map DS.lv
  | [], _, _, h, r => by cases h; cases r; rfl
  | d :: ds, _, ls, h, r => by
    unfold leavesD at h
    split at h
    · rename_i l hl
      split at h
      · rename_i ls' hls
        cases h
        cases r with
        | cons h1 h2 => rw [leaf_of hl h1, leaves_of hls h2]; rfl
      · cases h
    · cases h
theorem rep_leaf {G : Hp} : ∀ l : Leaf, Rep c G (DS.lv l) (dLeaf l)
  | .none => .non
  | .num i => .int i
  | .text x => .str x
theorem reps_leaf {G : Hp} : ∀ ls : List Leaf, Reps c G (ls.map DS.lv) (ls.map dLeaf)
  | [] => .nil
  | l :: ls => .cons (rep_leaf l) (reps_leaf ls)
theorem seqLf_of {P : Addr → Prop} {H : Hp} {x : V} {d : D} {ds : List D} {ls : List Leaf} (rx : RepX c P H x d) (hs : seqD d = some ds) (hl : leavesD ds = some ls) : ∃ a, x = .ref a ∧ DS.SeqLf c.K H a ls := by
  obtain ⟨a, xs, rfl, h2, h3⟩ := rx.seq hs
  have e := leaves_of hl h3
  subst e
  exact ⟨a, rfl, h2⟩
theorem leaves_len : ∀ {ds : List D} {ls : List Leaf}, leavesD ds = some ls → ls.length = ds.length
  | [], _, h => by cases h; rfl
  | d :: ds, ls, h => by
    unfold leavesD at h
    split at h
    · split at h
      · rename_i h2
        cases h
        rw [List.length_cons, List.length_cons, leaves_len h2]
      · cases h
    · cases h
/-- sorted(x) of a list, a tuple -/
def sortD (d : D) : T (List D) := match seqD d with
  | some ds => (match leavesD ds with
    | some ls => (match DS.alkB ls with | true => .ret ((DS.srtL ls).map dLeaf) | false => .fail)
    | none => .fail)
  | none => .fail
theorem rb_sort : RunL c (fun y => DS.rSortL c.K [y]) sortD := by
  intro H P n x d R o rx ok Q q
  unfold sortD at ok
  split at ok
  · rename_i ds hs
    split at ok
    · rename_i ls hl
      split at ok
      · rename_i ha
        obtain ⟨a, rfl, h⟩ := seqLf_of rx hs hl
        exact ⟨a, ls, rfl, h, ha, fun p hp => q p _ _ _ n ok (ExU.new hp) (o.new hp) hp upd_same (reps_leaf _)⟩
      · exact ok.elim
    · exact ok.elim
  · exact ok.elim
/-- sorted(set(x)) -/
def sortSetD (d : D) : T (List D) := match seqD d with
  | some ds => (match leavesD ds with
    | some ls => (match decide (ls.length ≤ 3000) && DS.alkB (DS.dedL ls) with | true => .ret ((DS.srtL (DS.dedL ls)).map dLeaf) | false => .fail)
    | none => .fail)
  | none => .fail
theorem cap_scan {n : Nat} (h : n ≤ 3000) : n + 1 < scanBound := Nat.lt_of_le_of_lt (Nat.succ_le_succ h) (by decide)
theorem el_sortSet {P : Program} {w : World} {te : TE} {F : Env → T D} (ha : EvX c te F) : EvL c (tCB (DS.rSortSetL P w) (tCons (tCB (DS.rSetL c.K P w) (tCons te tNil)) tNil)) (lFn sortSetD F) := fun σ H Q0 ρ n R o er ok Q q =>
  ha σ H Q0 ρ n _ o er (T.ok_bind.mp ok) _ fun x H1 d n1 ok1 e1 o1 rx => by
    unfold sortSetD at ok1
    split at ok1
    · rename_i ds hs
      split at ok1
      · rename_i ls hl
        split at ok1
        · rename_i hb
          obtain ⟨h1, h2⟩ := Bool.and_eq_true_iff.mp hb
          have h1 := of_decide_eq_true h1
          obtain ⟨a, rfl, h⟩ := seqLf_of rx hs hl
          refine ⟨a, ls, rfl, h, cap_scan h1, fun p m hm hp => ⟨p, _, m, ls, rfl, upd_same, Nat.le_trans hm (Nat.le_trans h1 (by decide)), fun k => decide_eq_true_iff, h2, fun p2 hp2 => ?_⟩⟩
          have o2 := o1.new (w := DS.SetLO P w p (fun j => decide (j ∈ ls)) m) hp
          have e2 := e1.trans (ExU.new (o := DS.SetLO P w p (fun j => decide (j ∈ ls)) m) hp)
          exact q p2 _ _ _ n1 ok1 (e2.trans (ExU.new hp2)) (o2.new hp2) (e2.free (o2.nu hp2) hp2) upd_same (reps_leaf _)
        · exact ok1.elim
      · exact ok1.elim
    · exact ok1.elim
/-- len(set(x)) -/
def lenSetD (d : D) : T D := match seqD d with
  | some ds => (match leavesD ds with
    | some ls => (match decide (ls.length ≤ 3000) with | true => .ret (.int ((DS.dedL ls).length : Nat)) | false => .fail)
    | none => .fail)
  | none => .fail
theorem ev_lenSet {P : Program} {w : World} {te : TE} {F : Env → T D} (ha : EvX c te F) : EvE c (tCB (DS.rLenSetL P w) (tCons (tCB (DS.rSetL c.K P w) (tCons te tNil)) tNil)) (fFn lenSetD F) := fun σ H Q0 ρ n R o er ok Q q =>
  ha σ H Q0 ρ n _ o er (T.ok_bind.mp ok) _ fun x H1 d n1 ok1 e1 o1 rx => by
    unfold lenSetD at ok1
    split at ok1
    · rename_i ds hs
      split at ok1
      · rename_i ls hl
        split at ok1
        · rename_i hb
          have h1 := of_decide_eq_true hb
          obtain ⟨a, rfl, h⟩ := seqLf_of rx hs hl
          refine ⟨a, ls, rfl, h, cap_scan h1, fun p m hm hp => ⟨p, _, m, ls, rfl, upd_same, fun k => decide_eq_true_iff, ?_⟩⟩
          exact q _ _ _ n1 ok1 (e1.trans (ExU.new hp)) (o1.new hp) (.int _)
        · exact ok1.elim
      · exact ok1.elim
    · exact ok1.elim
/-! ### isinstance(x, T), isinstance(x, (T, U)) of built-in types -/
def tyD : D → Option String
  | .non => some "NoneType"
  | .bl _ => some "bool"
  | .int _ => some "int"
  | .str _ => some "str"
  | .lst _ => some "list"
  | .tup _ => some "tuple"
  | _ => none
theorem tyX_of {P : Addr → Prop} {H : Hp} {v : V} {d : D} {t : String} (h : tyD d = some t) (rx : RepX c P H v d) : TyX c.K H v (.type t) := by
  have lst : ∀ ds, d = .lst ds → TyX c.K H v (.type t) := fun ds e => by
    subst e
    cases h
    obtain ⟨a, xs, rfl, h2, h3⟩ := rx.lst
    exact .base (.lst h2)
  rcases rx with r | ⟨a, xs, ds, h1, h2, h3, h4, h5⟩
  · cases r with
    | non => cases h; exact .base .non
    | bl b => cases h; exact .base (.bl b)
    | int i => cases h; exact .base (.int i)
    | str x => cases h; exact .base (.str x)
    | lst h1 h2 => exact lst _ rfl
    | tup h1 h2 =>
      cases h
      rcases h1 with ⟨o, _, h1⟩ | ⟨o, its, n, _, k1, k2, _⟩
      · exact .fTuple (Sub.of_msk _ _ h1)
      · exact .kTuple k1 k2
    | obj h1 h2 => cases h
    | urn => cases h
    | pr h1 h2 h3 => cases h
  · exact lst _ h3
def isi1 (t u : String) : Bool := t == u || (t == "bool" && u == "int")
def isiD (us : List String) : D → T D := fun d => match tyD d with
  | some t => .ret (.bl (us.any (isi1 t)))
  | none => .fail
/-- the names that the layer knows -/
def isiOk (us : List String) : Prop := ∀ d t, tyD d = some t → ∀ u ∈ us, kitB t u = some (isi1 t u)
theorem isi_ok1 : ∀ u ∈ ["list", "tuple", "bool", "str", "int"], ∀ t ∈ ["NoneType", "bool", "int", "str", "list", "tuple"], kitB t u = some (isi1 t u) := by decide +kernel
theorem isi_ok {us : List String} (h : ∀ u ∈ us, u ∈ ["list", "tuple", "bool", "str", "int"]) : isiOk us := fun d t ht u hu => isi_ok1 u (h u hu) t (by
  cases d <;> cases ht <;> decide)
theorem kit_any {K : PySem.W.Frag} {t : String} : ∀ {us : List String}, (∀ u ∈ us, kitB t u = some (isi1 t u)) → PySem.W.kitAny K (.type t) (us.map Value.type) = some (us.any (isi1 t))
  | [], _ => kitAny_nil
  | u :: us, h => by
    have h1 := kit_ty (K := K) (h u (.head _))
    have h2 := kit_any (K := K) (us := us) fun v hv => h v (.tail _ hv)
    rw [List.any_cons]
    refine kitAny_cons h1 (fun e => ?_) fun e => by rw [e]; rfl
    rw [e]
    exact h2
theorem ev_isi {u : String} {te : TE} {F : Env → T D} (hk : isiOk [u]) (ha : EvX c te F) : EvE c (tCB (rIsi c.K) (tCons te (tCons (tC (.ty u)) tNil))) (fFn (isiD [u]) F) := fun σ H P ρ n R o er ok Q q =>
  ha σ H P ρ n _ o er (T.ok_bind.mp ok) _ fun x H1 d n1 ok1 e1 o1 rx => by
    unfold isiD at ok1
    split at ok1
    · rename_i t ht
      refine ⟨x, .ty u, .type t, .type u, _, rfl, .ty u, tyX_of ht rx, kit_ty (hk d t ht u (.head _)), q _ H1 _ n1 ok1 e1 o1 ?_⟩
      rw [List.any_cons, List.any_nil, Bool.or_false]
      exact .bl _
    · exact ok1.elim
def tTys : List String → TA
  | [] => tNil
  | u :: us => tCons (tC (.ty u)) (tTys us)
theorem tTys_run {σ : L2.St} {H : Hp} : ∀ {us : List String} {Q : List V → Hp → Prop}, Q (us.map V.ty) H → tTys us σ H Q
  | [], _, q => q
  | u :: us, Q, q => tTys_run (us := us) q
theorem paired_tys : ∀ us : List String, Paired ClsV (us.map V.ty) (us.map Value.type)
  | [] => .nil
  | u :: us => .cons (.ty u) (paired_tys us)
theorem ev_isiT {us : List String} {te : TE} {F : Env → T D} (hk : isiOk us) (hl : us.length ≤ 100) (ha : EvX c te F) : EvE c (tCB (rIsiT c.K) (tCons te (tCons (tTup (tTys us)) tNil))) (fFn (isiD us) F) := fun σ H P ρ n R o er ok Q q =>
  ha σ H P ρ n _ o er (T.ok_bind.mp ok) _ fun x H1 d n1 ok1 e1 o1 rx => by
    refine tTys_run ⟨by rw [List.length_map, sizeLine_eq]; omega, fun p hp => ?_⟩
    unfold isiD at ok1
    split at ok1
    · rename_i t ht
      have o2 := o1.new (w := HO.tup (us.map V.ty)) hp
      have e2 := ExU.new (u := c.u) (o := HO.tup (us.map V.ty)) hp
      exact ⟨x, p, us.map V.ty, .type t, us.map Value.type, _, rfl, upd_same, paired_tys us, tyX_of ht (rx.exu o1.pu e2), kit_any fun u hu => hk d t ht u hu, q _ _ _ n1 ok1 (e1.trans e2) o2 (.bl _)⟩
    · exact ok1.elim
end
end DL
end

section
set_option maxRecDepth 100000
set_option maxHeartbeats 4000000
/-! DLk: methods of lists and tuples; stores of two; unpacking a list. -/
namespace DL
open PySem PySem.Spec PyProof.Rows L2 DR
/-! ### leaves as data -/
def leafPy : Leaf → PyData
  | .none => .none
  | .num i => .int i
  | .text x => .str x
theorem reads_leaf {h : Heap} : ∀ {l : Leaf} {v : Value}, RelV (DS.lv l) v → Reads h v (leafPy l) []
  | .none, _, r => by cases r; exact .none
  | .num i, _, r => by obtain ⟨t, rfl⟩ := r; exact .int _ _
  | .text x, _, r => by obtain ⟨t, rfl⟩ := r; exact .str _ _
theorem reads_leaves {h : Heap} : ∀ {ls : List Leaf} {vs : List Value}, Vals (ls.map DS.lv) vs → ReadsAll h vs (ls.map leafPy) []
  | [], _, r => by cases r; exact .nil
  | l :: ls, _, r => by cases r with | cons r t => exact .cons (as := []) (bs := []) (reads_leaf r) (reads_leaves t)
theorem erase_map {α β : Type} (f : α → β) : ∀ (l : List α) (j : Nat), (l.map f).eraseIdx j = (l.eraseIdx j).map f
  | [], j => by simp
  | x :: l, 0 => by simp
  | x :: l, j + 1 => by simp [erase_map f l j]
theorem leaf_eqv (a b : Leaf) : PyData.eqv (leafPy a) (leafPy b) = decide (a = b) := by
  cases a <;> cases b <;> simp [leafPy, PyData.eqv] <;> (rw [Bool.eq_iff_iff]; simp)
theorem leaf_plain : ∀ l : Leaf, (leafPy l).plain = true
  | .none => rfl
  | .num _ => rfl
  | .text _ => rfl
theorem leaves_plain : ∀ ls : List Leaf, PyData.plainAll (ls.map leafPy) = true
  | [] => rfl
  | l :: ls => by simp [PyData.plainAll, leaf_plain l, leaves_plain ls]
theorem leaf_depth : ∀ l : Leaf, (leafPy l).depth = 0
  | .none => rfl
  | .num _ => rfl
  | .text _ => rfl
/-! ### t.count(x) -/
def tCnt (K : PySem.W.Frag) (to te : TE) : TE := fun σ H Q => to σ H fun x H1 => (∃ a xs, x = V.ref a ∧ SqN K H1 a xs) ∧ te σ H1 fun y H2 => ∃ (a : Addr) (ls : List Leaf) (l : Leaf), x = V.ref a ∧ y = DS.lv l ∧ SqT K H2 a (ls.map DS.lv) ∧ Q (.int (ls.countP fun z => decide (z = l) : Nat)) H2
section
variable {X : Cx}
theorem sqn_at {pins : List (Addr × Obj)} {σ : L2.St} {H : Hp} {s : Shared} {a : Addr} {xs : List V} (I : Inv X pins σ H s) (h : SqN X.K H a xs) : s.TypeIs (.ref a) "tuple" ∧ ∃ ob, s.heap.get? a = some ob ∧ ob.dict = none := by
  rcases h with ⟨o, hd, h⟩ | ⟨o, its, n, hd, h1, h2, _⟩
  · obtain ⟨g, z, its, rv, o', g', hc, _⟩ := (show ObjOk X.prog X.w H s.heap a (.frz o (.tup xs)) from I.hok a _ h)
    rw [g] at g'
    cases g'
    exact ⟨⟨o, g, hc⟩, o, g, hd⟩
  · exact ⟨⟨o, I.kIn a o h1, h2⟩, o, I.kIn a o h1, hd⟩
theorem pe_cnt {o e : Expr} {to te : TE} {apos cpos : Pos} (hu : X.A.units + 2 < cLine) (ho : PE X o to) (he : PE X e te)
    (hbase : attributeBase o "count" X.env (eval o X.env) = eval o X.env := by rfl)
    (hfew : ((backTo cpos (starEach [e] X.env)).all (fun x => !x.1) && (backToKw cpos (keywordEach [] X.env)).all (fun x => x.1.isSome)
      && decide ([e].length + ([] : List Keyword).length + (if ([] : List Keyword).isEmpty then 0 else 1) < 30)) = true := by rfl)
    (hline : (apos.endLine == cpos.line) = true := by rfl) (hs : starEach [e] X.env = (false, eval e X.env) :: starEach [] X.env := by rfl) :
    PE X (.Call (.Attribute o "count" apos) [e] [] cpos) (tCnt X.K to te) := by
  have ha : PA X [e] (tCons te tNil) := pa_cons he pa_nil hs
  refine ⟨fun pins s σ H Q I h => ?_⟩
  refine wpAny_Call_method_late hbase hfew hline rfl (thn (ho.run pins s σ H _ I h) fun v s1 ⟨x, H1, I1, r1, ⟨a, xs, hx, ha1⟩, q1⟩ => ?_)
  subst hx
  cases r1
  obtain ⟨h1, ob, hob, hd⟩ := sqn_at I1 ha1
  refine ⟨"tuple", "tuple.count", F.plainAttrs_tuple, F.slot_tuple_count, F.type_tuple_count, h1, fun b hb => by cases hb; exact ⟨ob, hob, hd⟩, ?_⟩
  have hA := ha.run cpos pins s1 σ H1 (fun ys H2 => match ys with | [y] => ∃ (a' : Addr) (ls : List Leaf) (l : Leaf), V.ref a = V.ref a' ∧ y = DS.lv l ∧ SqT X.K H2 a' (ls.map DS.lv) ∧ Q (.int (ls.countP fun z => decide (z = l) : Nat)) H2 | _ => False) I1 q1
  rw [hs] at hA ⊢
  refine Calls.callWith_builtin (by rfl) (Calls.evalArgs_plain ?_)
  refine thn hA fun us s2 ⟨vs, H2, I2, r2, q⟩ => ?_
  match vs, r2, q with
  | [y], r2, q =>
  obtain ⟨a', ls, l, e2, e3, hq, q2⟩ := q
  cases e2
  subst e3
  obtain ⟨u, rfl, ru⟩ := r2.one
  obtain ⟨its, rv, pl, hz⟩ := I2.tuple hq
  refine PySem.SeqAt.count_tuple_data (xs := ls.map leafPy) (d := leafPy l) pl (reads_leaves rv) (reads_leaf ru) (leaves_plain ls) (leaf_plain l) (by rw [leaf_depth, Nat.min_zero]; omega) ?_
  have ec : ((ls.map leafPy).countP fun y => PyData.eqv y (leafPy l)) = ls.countP fun z => decide (z = l) := by
    rw [List.countP_map]
    congr 1
    funext z
    exact leaf_eqv z l
  rw [ec]
  exact ⟨.int _, H2, I2.tok _, ⟨_, rfl⟩, q2⟩
/-! ### l.remove(x) -/
def rRemL : V → List V → Hp → VK → Prop := fun x xs H Q => ∃ (a : Addr) (ls : List Leaf) (l : Leaf) (j : Nat), x = .ref a ∧ xs = [DS.lv l] ∧ H a = some (.lst (ls.map DS.lv)) ∧ (ls.findIdx? fun z => decide (z = l)) = some j ∧ Q .non (upd H a (.lst ((ls.eraseIdx j).map DS.lv)))
theorem mt_remL (hu : X.A.units + 2 < cLine) : MtM X "list.remove" rRemL := by
  intro pins s σ H x xs v us Q I rx rxs h
  obtain ⟨a, ls, l, j, rfl, rfl, hH, hj, q⟩ := h
  cases rx
  obtain ⟨u, rfl, ru⟩ := rxs.one
  obtain ⟨z, its, n, r, hl, e⟩ := I.lstM hH
  refine PySem.SeqAt.remove_list_data (xs := ls.map leafPy) (d := leafPy l) (j := j) ⟨_, e, rfl, n, rfl⟩ (reads_leaves r) (reads_leaf ru) (leaves_plain ls) (leaf_plain l) (by rw [leaf_depth, Nat.min_zero]; omega) ?_ (by rw [List.size_toArray]; omega) ?_
  · unfold PySem.SeqAt.dataPlace
    rw [List.findIdx?_map, ← hj]
    congr 1
    funext y
    exact leaf_eqv y l
  · refine ⟨.non, _, I.lset (t' := s.toks) (its' := its.eraseIdx j) hH e (by simp) ?_ ?_, rfl, q⟩
    · rw [← erase_map]
      exact r.eraseIdx j
    · rw [List.length_map] at z ⊢
      exact Nat.le_trans (List.length_eraseIdx_le ..) z
end
section
variable {c : Ct}
def cntD (x y : D) : T D := match x with
  | .tup ds => (match leavesD ds with
    | some ls => (match leafD y with | some l => .ret (.int (ls.countP fun z => decide (z = l) : Nat)) | none => .fail)
    | none => .fail)
  | _ => .fail
def fCnt (a b : Env → T D) : Env → T D := fOp cntD a b
theorem ev_cnt {to te : TE} {F G : Env → T D} (ha : EvX c to F) (hb : EvX c te G) : EvE c (tCnt c.K to te) (fCnt F G) := fun σ H P ρ n R o er ok Q q => by
  refine ha σ H P ρ n _ o er (T.ok_bind.mp ok) _ fun x H1 d n1 ok1 e1 o1 rx => ?_
  have isT : ∃ ds, d = .tup ds := by
    refine T.ok_any (T.ok_bind.mp ok1) fun y k z => ?_
    unfold cntD at z
    split at z
    · exact ⟨_, rfl⟩
    · exact z.elim
  obtain ⟨ds, rfl⟩ := isT
  obtain ⟨a, xs, rfl, hx, hr⟩ := rx.tup
  refine ⟨⟨a, xs, rfl, hx⟩, hb σ H1 P ρ n1 _ o1 (er.exu o.pu e1) (T.ok_bind.mp ok1) _ fun y H2 e n2 ok2 e2 o2 ry => ?_⟩
  unfold cntD at ok2
  simp only at ok2
  split at ok2
  · rename_i ls hls
    split at ok2
    · rename_i l hl
      obtain ⟨a', xs', h1, hx', hr'⟩ := (rx.exu o1.pu e2).tup
      cases h1
      have e := leaves_of hls hr'
      subst e
      rcases ry with r | ⟨_, _, _, _, _, z, _⟩
      · exact ⟨a, ls, l, rfl, leaf_of hl r, hx'.sq, q _ H2 _ n2 ok2 (e1.trans e2) o2 (.int _)⟩
      · subst z; cases hl
    · exact ok2.elim
  · exact ok2.elim
/-- x.remove(e), x a list of the frame's own; e sees all -/
def sRem (i : Nat) (f : Env → T D) : Env → T Out := fun ρ => (ownL ρ i).bind fun ds => (f (fullE ρ)).bind fun d => match leavesD ds with
  | some ls => (match leafD d with
    | some l => (match ls.findIdx? fun z => decide (z = l) with
      | some j => .ret (.nx (ρ.set i (.own (.lst (ds.eraseIdx j)))))
      | none => .fail)
    | none => .fail)
  | none => .fail
theorem es_rem {te : TE} {F : Env → T D} {i : Nat} (h : EvE c te F) : EvS c (tDrop (tBM c.K "list" rRemL (tVar i) (tCons te tNil))) (sRem i F) := fun P0 Fz H0 H σ ρ n Dn sr ok => by
  obtain ⟨ds, hd, ok1⟩ := ownL_ok (T.ok_bind.mp ok)
  obtain ⟨a, xs, h1, na, h3, h4⟩ := sr.lst hd
  refine ⟨.ref a, h1, .inl ⟨rfl, xs, .of h3⟩, h σ H P0 (fullE ρ) n _ sr.full.1 sr.full.2 (T.ok_bind.mp ok1) _ fun v H' d n' q e o r => ?_⟩
  split at q
  · rename_i ls hls
    split at q
    · rename_i l hl
      split at q
      · rename_i j hj
        have ev := leaf_of hl r
        have ex := leaves_of hls h4
        subst ev ex
        have hH' := e a _ na h3
        refine ⟨a, ls, l, j, rfl, rfl, hH', hj, q _ _ ?_⟩
        have rr := (h4.sub (Sub.msk sr.ok.pu e)).eraseIdx j
        rw [erase_map] at rr
        exact sr.mut e (sr.ok.exu o e) hd h1 rr
      · exact q.elim
    · exact q.elim
  · exact q.elim
end
end DL
end

section
set_option maxRecDepth 100000
set_option maxHeartbeats 4000000
/-! DLl: more statements: a list unpacked, stores of two, x = x + (l.pop(i),). -/
namespace DL
open PySem PySem.Spec PyProof.Rows L2 DR
section
variable {c : Ct} {P0 Fz : Addr → Prop} {H0 H H' : Hp} {σ : L2.St} {ρ : Env} {n n' : Nat}
def gLstD (f : List D → Env → T Env) : D → Env → T Env := fun d ρ => match d with
  | .lst ds => f ds ρ
  | _ => .fail
theorem gs_lst {gs : TGs} {fs : List D → Env → T Env} {m : Nat} (h : EvGSs c gs fs) (hm : ∀ ds ρ n R, (fs ds ρ).ok n R → ds.length = m) : EvGS c (gLst c.K m gs) (gLstD fs) := fun P0 Fz H0 H σ ρ n R v d sr r ok Q q => by
  unfold gLstD at ok
  split at ok
  · cases r with
    | lst h1 h2 => exact ⟨_, _, rfl, SqL.of (Sub.of_msk _ _ h1), by rw [h2.length]; exact hm _ _ _ _ ok, h P0 Fz H0 H σ ρ n R _ _ sr h2 ok Q q⟩
  · exact ok.elim
/-! ### stores of two -/
theorem EnvR.more {P : Addr → Prop} {p : Addr} (er : EnvR c P H σ ρ) (hu : P c.u) (e : ExU c.u H H') (hn : H p = none) : EnvR c (fun a => P a ∨ a = p) H' σ ρ := by
  have sub : Sub (Msk P H) (Msk (fun a => P a ∨ a = p) H') := fun a w h => by
    obtain ⟨h1, h2⟩ := msk_some.mp h
    have nap : a ≠ p := fun z => by rw [z, hn] at h2; cases h2
    exact msk_some.mpr ⟨fun z => z.elim h1 nap, e a w (fun z => h1 (z ▸ hu)) h2⟩
  refine ⟨er.len, fun i s q => ?_⟩
  have z := er.at_ i s q
  cases s with
  | no => trivial
  | me => exact z
  | val d => obtain ⟨v, h1, h2⟩ := z; exact ⟨v, h1, h2.sub sub⟩
  | own d =>
    obtain ⟨a, h1, h2, h3, h4⟩ := z
    exact ⟨a, h1, .inl h2, h3, h4.move h3 sub (fun w hb => e a w h3 hb) (fun b w _ nb _ hb => e b w nb hb) fun b hb _ => .inl hb⟩
theorem pow_setOwn {i : Nat} {p : Addr} {d : D} : ∀ a, Pow P0 (σ.set i (some (.ref p))) (ρ.set i (.own d)) a → Pow P0 σ ρ a ∨ a = p := fun a h => by
  rcases h with h | ⟨j, e', h1, h2⟩
  · exact .inl (.inl h)
  · by_cases hj : i = j
    · subst hj
      have z := (set_at h2).1
      injection z with z
      injection z with z
      exact .inr z
    · obtain ⟨z1, z2⟩ := set_own hj h1 h2
      exact .inl (.inr ⟨j, e', z1, z2⟩)
def okI (i : Nat) (ρ : Env) (m : T Out) : T Out := match decide (i < ρ.length) with | true => m | false => .fail
theorem okI_ok {i : Nat} {m : T Out} {R : Out → Nat → Prop} (h : (okI i ρ m).ok n R) : i < ρ.length ∧ m.ok n R := by
  unfold okI at h
  split at h
  · rename_i hb; exact ⟨of_decide_eq_true hb, h⟩
  · exact h.elim
def sParVV (i j : Nat) (a b : Env → T D) : Env → T Out := fun ρ => (a ρ).bind fun x => (b ρ).bind fun y => .ret (.nx ((ρ.set i (.val x)).set j (.val y)))
def sParLV (i j : Nat) (a : Env → T (List D)) (b : Env → T D) : Env → T Out := fun ρ => (a ρ).bind fun x => (b ρ).bind fun y => okI i ρ (.ret (.nx ((ρ.set i (.own (.lst x))).set j (.val y))))
def sParVL (i j : Nat) (a : Env → T D) (b : Env → T (List D)) : Env → T Out := fun ρ => (a ρ).bind fun x => (b ρ).bind fun y => okI j ρ (.ret (.nx ((ρ.set i (.val x)).set j (.own (.lst y)))))
def sParLL (i j : Nat) (a b : Env → T (List D)) : Env → T Out := fun ρ => (a ρ).bind fun x => (b ρ).bind fun y => okI i ρ (okI j ρ (.ret (.nx ((ρ.set i (.own (.lst x))).set j (.own (.lst y))))))
theorem es_parVV {te tf : TE} {F G : Env → T D} {i j : Nat} (h : EvE c te F) (h' : EvE c tf G) : EvS c (tPar i j (tCons te (tCons tf tNil))) (sParVV i j F G) := fun P0 Fz H0 H σ ρ n Dn sr ok =>
  h σ H _ ρ n _ sr.ok sr.env (T.ok_bind.mp ok) _ fun v H1 d n1 ok1 e1 o1 r1 => h' σ H1 _ ρ n1 _ o1 (sr.env.exu sr.ok.pu e1) (T.ok_bind.mp ok1) _ fun w H2 d2 n2 ok2 e2 o2 r2 => by
    refine ⟨v, w, rfl, ok2 _ _ ?_⟩
    have s1 := sr.setVal e1 o1 r1 i
    exact s1.setVal e2 (o2.less pow_setVal s1.ok.pu) (r2.sub (Sub.less pow_setVal)) j
theorem es_parLV {te tf : TE} {F : Env → T (List D)} {G : Env → T D} {i j : Nat} (h : EvL c te F) (h' : EvE c tf G) : EvS c (tPar i j (tCons te (tCons tf tNil))) (sParLV i j F G) := fun P0 Fz H0 H σ ρ n Dn sr ok =>
  h σ H _ ρ n _ sr.ok sr.env (T.ok_bind.mp ok) _ fun p xs H1 ds n1 ok1 e1 o1 hn hp r1 => by
    refine h' σ H1 _ ρ n1 _ (o1.more (p := p) (by rw [hp]; simp)) (EnvR.more sr.env sr.ok.pu e1 hn) (T.ok_bind.mp ok1) _ fun w H2 d2 n2 ok2 e2 o2 r2 => ?_
    obtain ⟨hi, ok3⟩ := okI_ok ok2
    refine ⟨.ref p, w, rfl, ok3 _ _ ?_⟩
    have s1 := sr.setOwn e1 o1 hn hp r1 hi
    exact s1.setVal e2 (o2.less pow_setOwn s1.ok.pu) (r2.sub (Sub.less pow_setOwn)) j
theorem es_parVL {te tf : TE} {F : Env → T D} {G : Env → T (List D)} {i j : Nat} (h : EvE c te F) (h' : EvL c tf G) : EvS c (tPar i j (tCons te (tCons tf tNil))) (sParVL i j F G) := fun P0 Fz H0 H σ ρ n Dn sr ok =>
  h σ H _ ρ n _ sr.ok sr.env (T.ok_bind.mp ok) _ fun v H1 d n1 ok1 e1 o1 r1 => h' σ H1 _ ρ n1 _ o1 (sr.env.exu sr.ok.pu e1) (T.ok_bind.mp ok1) _ fun p xs H2 ds n2 ok2 e2 o2 hn hp r2 => by
    obtain ⟨hj, ok3⟩ := okI_ok ok2
    refine ⟨v, .ref p, rfl, ok3 _ _ ?_⟩
    have s1 := sr.setVal e1 o1 r1 i
    exact s1.setOwn e2 (o2.less pow_setVal s1.ok.pu) hn hp (r2.sub (Sub.less fun a z => z.imp (pow_setVal a) id)) (by rw [List.length_set]; exact hj)
theorem es_parLL {te tf : TE} {F G : Env → T (List D)} {i j : Nat} (h : EvL c te F) (h' : EvL c tf G) : EvS c (tPar i j (tCons te (tCons tf tNil))) (sParLL i j F G) := fun P0 Fz H0 H σ ρ n Dn sr ok =>
  h σ H _ ρ n _ sr.ok sr.env (T.ok_bind.mp ok) _ fun p xs H1 ds n1 ok1 e1 o1 hn hp r1 => by
    refine h' σ H1 _ ρ n1 _ (o1.more (p := p) (by rw [hp]; simp)) (EnvR.more sr.env sr.ok.pu e1 hn) (T.ok_bind.mp ok1) _ fun p2 ys H2 ds2 n2 ok2 e2 o2 hn2 hp2 r2 => ?_
    obtain ⟨hi, ok3⟩ := okI_ok ok2
    obtain ⟨hj, ok3⟩ := okI_ok ok3
    refine ⟨.ref p, .ref p2, rfl, ok3 _ _ ?_⟩
    have s1 := sr.setOwn e1 o1 hn hp r1 hi
    exact s1.setOwn e2 (o2.less pow_setOwn s1.ok.pu) hn2 hp2 (r2.sub (Sub.less fun a z => z.imp (pow_setOwn a) id)) (by rw [List.length_set]; exact hj)
/-! ### x = x + (l.pop(e),) -/
theorem pow_mut {i : Nat} {d d' : D} (h : ρ[i]? = some (.own d)) (a : Addr) : Pow P0 σ (ρ.set i (.own d')) a ↔ Pow P0 σ ρ a := by
  have hi : i < ρ.length := (List.getElem?_eq_some_iff.mp h).1
  constructor
  · rintro (z | ⟨j, e, h1, h2⟩)
    · exact .inl z
    · by_cases hj : i = j
      · subst hj; exact .inr ⟨i, d, h, h2⟩
      · rw [List.getElem?_set_ne hj] at h1; exact .inr ⟨j, e, h1, h2⟩
  · rintro (z | ⟨j, e, h1, h2⟩)
    · exact .inl z
    · by_cases hj : i = j
      · subst hj; exact .inr ⟨i, d', List.getElem?_set_self hi, h2⟩
      · exact .inr ⟨j, e, by rw [List.getElem?_set_ne hj]; exact h1, h2⟩
def sPopCat (x l : Nat) (f : Env → T D) : Env → T Out := fun ρ => match ρ[x]? with
  | some (.val (.tup as)) => (ownL ρ l).bind fun ds => (f ρ).bind fun e => match e with
    | .int i => (match decide (0 ≤ i ∧ i < 1000000 ∧ as.length + 1 ≤ capD) with
      | true => (match ds[i.toNat]? with
        | some d => .ret (.nx ((ρ.set l (.own (.lst (ds.eraseIdx i.toNat)))).set x (.val (.tup (as ++ [d])))))
        | none => .fail)
      | false => .fail)
    | _ => .fail
  | _ => .fail
theorem es_popCat {te : TE} {F : Env → T D} {x l : Nat} (h : EvE c te F) :
    EvS c (tAsg (tOp (rAddD c.K) (tVar x) (tTupN (tCons (tBM c.K "list" rPopAt (tVar l) (tCons te tNil)) tNil))) (gName x)) (sPopCat x l F) := fun P0 Fz H0 H σ ρ n Dn sr ok => by
  unfold sPopCat at ok
  split at ok
  · rename_i as hx
    obtain ⟨ds, hd, ok1⟩ := ownL_ok (T.ok_bind.mp ok)
    obtain ⟨a, xs, h1, na, h3, h4⟩ := sr.lst hd
    obtain ⟨vx, g1, g2⟩ := sr.env.at_ x _ hx
    refine ⟨vx, g1, .ref a, h1, .inl ⟨rfl, xs, .of h3⟩, h σ H _ ρ n _ sr.ok sr.env (T.ok_bind.mp ok1) _ fun v H1 d n1 q e1 o1 r1 => ?_⟩
    split at q
    · rename_i i
      split at q
      · rename_i hb
        obtain ⟨b1, b2, b3⟩ := of_decide_eq_true hb
        split at q
        · rename_i dv hdv
          cases r1
          have h4' := h4.sub (Sub.msk sr.ok.pu e1)
          obtain ⟨y, hy, ry⟩ := h4'.get hdv
          have hlt : i.toNat < xs.length := (List.getElem?_eq_some_iff.mp hy).1
          have hk : seqIndex? i xs.length = some i.toNat := by
            unfold seqIndex?
            have n0 : ¬ i < 0 := by omega
            have n1 : i < (xs.length : Int) := by omega
            simp only [if_neg n0]
            rw [if_pos (by simp only [Bool.and_eq_true, decide_eq_true_eq]; exact ⟨b1, n1⟩)]
          refine ⟨a, xs, i, i.toNat, y, rfl, rfl, e1 a _ na h3, by omega, by omega, hk, hy, by show 1 ≤ sizeLine; decide, fun ob p hob hp => ?_⟩
          have sm := sr.mut e1 o1 hd h1 (h4'.eraseIdx i.toNat)
          have pa : Pow P0 σ ρ a := .inr ⟨l, _, hd, h1⟩
          have sub2 : Sub (Msk (Pow P0 σ ρ) H1) (Msk (Pow P0 σ (ρ.set l (.own (.lst (ds.eraseIdx i.toNat))))) (upd H1 a (.lst (xs.eraseIdx i.toNat)))) := fun b w hb => by
            obtain ⟨b1, b2⟩ := msk_some.mp hb
            have nb : b ≠ a := fun z => b1 (z ▸ pa)
            exact msk_some.mpr ⟨fun z => b1 ((pow_mut hd b).mp z), by rw [upd_ne nb]; exact b2⟩
          have e3 := ExU.new (u := c.u) (o := HO.frz ob (.tup [y])) hp
          have o3 := sm.ok.new (w := HO.frz ob (.tup [y])) hp
          have sub3 := Sub.trans sub2 (Sub.msk sm.ok.pu e3)
          have r1 := rep_newT sm.ok hob hp (Reps.one (ry.sub sub2))
          have gx := g2.sub (Sub.trans (Sub.msk sr.ok.pu e1) sub3)
          cases gx with
          | tup k1 k2 =>
            have l2 := k2.length
            refine .inr (.inl ⟨_, p, _, [y], rfl, rfl, sub_t Sub.of_msk k1.sq, .inl (.inr ⟨ob, upd_same⟩), cap_le (by show _ + 1 ≤ _; omega), fun e0 => ?_, fun _ z => absurd z (List.cons_ne_nil _ _), fun _ _ ob2 p2 hob2 hp2 => ?_⟩)
            · subst e0
              have : as = [] := by cases as with | nil => rfl | cons _ _ => simp at l2
              subst this
              exact q _ _ (sm.setVal e3 o3 r1 x)
            · have r2 : Reps c (Msk (Pow P0 σ (ρ.set l (.own (.lst (ds.eraseIdx i.toNat))))) (upd (upd H1 a (.lst (xs.eraseIdx i.toNat))) p (.frz ob (.tup [y])))) [y] [dv] := .one (ry.sub sub3)
              exact q _ _ (sm.setVal (e3.trans (ExU.new hp2)) (o3.new hp2) (rep_newT o3 hob2 hp2 (k2.append r2)) x)
        · exact q.elim
      · exact q.elim
    · exact q.elim
  · exact ok.elim
end
end DL
end

section
set_option maxRecDepth 100000
set_option maxHeartbeats 4000000
/-! DLm: what a written program gives: defs, properties, classes. -/
namespace DL
open PySem PySem.Spec PyProof.Rows L2 DR
/-- a property of the class at C -/
structure Pr (P : Program) (w : World) (K : PySem.W.Frag) (mg : Str → Option Value) (base : Heap) (n : Nat) (C : Addr) (f : Str) (sp : Sp) : Prop where
  sc : SlX.SCls K C
  ex : ∃ p g, PySem.W.findIn K (.ref C) f = some (some (.ref p)) ∧ PySem.W.specialIn K (.ref p) "__get__" = some (some (.builtin "property.__get__")) ∧ PySem.W.takesIn K (.ref p) = some true ∧
    (∃ rest, PySem.W.recIn K p "property" = some (.ref g :: rest)) ∧ FnR P w K mg base C8.CX0 n g sp
theorem pe_pr {X : Cx} {e : Expr} {f : Str} {pos : Pos} {ta : TE} {C : Addr} {n j : Nat} {sp : Sp} (h : Pr X.prog X.w X.K X.mg X.base n C f sp) (he : PE X e ta) (hr : Room j X.A) (hk : n + 1 ≤ j)
    (hb : attributeBase e f X.env (eval e X.env) = eval e X.env := by rfl) : PE X (.Attribute e f pos) (SlX.tPropSl C sp C8.E0 ta) := by
  obtain ⟨p, g, h1, h2, h3, h4, F⟩ := h.ex
  exact SlX.pe_propSl he h.sc h1 h2 h3 h4 F (hr.mono hk) (fun _ _ _ _ z => z.elim) hb
section
variable {P : Program} {w : World} {K : PySem.W.Frag} {mg : Str → Option Value} {base : Heap} {cls : Nat → Addr}
theorem pr_def {x qual : Str} {C : Addr} {st : Stmt} {p g : Addr} {fd : FuncData} {N ps : List Str} {k : Nat} {B : Env → T Out} (sc : SlX.SCls K C)
    (h1 : PySem.W.findIn K (.ref C) x = some (some (.ref p))) (h2 : PySem.W.specialIn K (.ref p) "__get__" = some (some (.builtin "property.__get__"))) (h3 : PySem.W.takesIn K (.ref p) = some true) (h4 : ∃ rest, PySem.W.recIn K p "property" = some (.ref g :: rest))
    (F : C8.Fun K x qual st g fd) (b : Binds K fd ps []) (S : FnScope N ps (C8.fnScope st))
    (hbody : ∀ (cdv : Value) (A : Around) (outer : List PySem.Env) (s : Shared) (H : Hp) (E : XK), Room k (A.deeper (envOfC qual (C8.fnScope st) s.heap.objs.size g cdv)) →
      ∃ t, PSs (cxOf C8.CX0 P w K mg base N qual (C8.fnScope st) g cdv A outer s H E).nox (C8.fnBody st) t ∧ ∀ u me, EvS ⟨K, u, cls, me⟩ t B) : Pr P w K mg base (k + 1) C x (spF K cls (runDef ps.length (N.length - ps.length) B)) := by
  refine ⟨sc, p, g, h1, h2, h3, h4, ?_⟩
  have F1 : FnOk P w K mg base C8.CX0 (k + 1) g fd ps (spF K cls (runDef ps.length (N.length - ps.length) B)) := C8.fn0 F S (fun _ _ _ _ h => run_len h) fun cdv A outer s H vs Q E hr h => by
    obtain ⟨t, h1, h2⟩ := hbody cdv A outer s H E hr
    exact ⟨t, h1, run_body h2 h⟩
  exact (F1.raw b .nil).imp fun vs H Q E h => by rw [List.append_nil]; exact h
/-- a def of the module, as the top has written it -/
def DefW (K : PySem.W.Frag) (mg : Str → Option Value) (x : Str) (st : Stmt) (ps : List Str) : Prop := ∃ f fd, C8.Def K mg x st f fd ∧ Binds K fd ps []
/-- a property -/
def PrW (K : PySem.W.Frag) (C : Addr) (x qual : Str) (st : Stmt) : Prop := ∃ p g fd, PySem.W.findIn K (.ref C) x = some (some (.ref p)) ∧ PySem.W.specialIn K (.ref p) "__get__" = some (some (.builtin "property.__get__")) ∧ PySem.W.takesIn K (.ref p) = some true ∧
  (∃ rest, PySem.W.recIn K p "property" = some (.ref g :: rest)) ∧ C8.Fun K x qual st g fd ∧ Binds K fd ["self"] []
/-- a class -/
def MkW (K : PySem.W.Frag) (mg : Str → Option Value) (C : Addr) (x qual : Str) (st : Stmt) (ps : List Str) : Prop := ∃ f fd, Mk K C f ∧ mg x = some (.ref C) ∧ C8.Fun K "__init__" qual st f fd ∧ Binds K fd ps []
/-- a module's constant -/
def GlW (K : PySem.W.Frag) (mg : Str → Option Value) (x : Str) (v : V) (d : D) : Prop := (∃ u, mg x = some u ∧ RelV v u) ∧ ∀ c : Ct, c.K = K → ∀ G, Rep c G v d
theorem def_of {x : Str} {st : Stmt} {N ps : List Str} {k : Nat} {B : Env → T Out} (W : DefW K mg x st ps) (S : FnScope N ps (C8.fnScope st))
    (hbody : ∀ (f : Addr) (cdv : Value) (A : Around) (outer : List PySem.Env) (s : Shared) (H : Hp) (E : XK), Room k (A.deeper (envOfC x (C8.fnScope st) s.heap.objs.size f cdv)) →
      ∃ t, PSs (cxOf C8.CX0 P w K mg base N x (C8.fnScope st) f cdv A outer s H E).nox (C8.fnBody st) t ∧ ∀ u me, EvS ⟨K, u, cls, me⟩ t B) : C8.Cal P w K mg base (k + 1) x (spF K cls (runDef ps.length (N.length - ps.length) B)) [] := by
  obtain ⟨f, fd, F, b⟩ := W
  exact cal_def F b S (hbody f)
theorem pr_of {x qual : Str} {C : Addr} {st : Stmt} {N : List Str} {k : Nat} {B : Env → T Out} (sc : SlX.SCls K C) (W : PrW K C x qual st) (S : FnScope N ["self"] (C8.fnScope st))
    (hbody : ∀ (f : Addr) (cdv : Value) (A : Around) (outer : List PySem.Env) (s : Shared) (H : Hp) (E : XK), Room k (A.deeper (envOfC qual (C8.fnScope st) s.heap.objs.size f cdv)) →
      ∃ t, PSs (cxOf C8.CX0 P w K mg base N qual (C8.fnScope st) f cdv A outer s H E).nox (C8.fnBody st) t ∧ ∀ u me, EvS ⟨K, u, cls, me⟩ t B) : Pr P w K mg base (k + 1) C x (spF K cls (runDef 1 (N.length - 1) B)) := by
  obtain ⟨p, g, fd, h1, h2, h3, h4, F, b⟩ := W
  exact pr_def sc h1 h2 h3 h4 F b S (hbody g)
theorem mk_of {x qual : Str} {kk : Nat} {st : Stmt} {N ps : List Str} {k np : Nat} {B : Env → T (List D)} (W : MkW K mg (cls kk) x qual st ps) (S : FnScope N ps (C8.fnScope st)) (hps : ps.length = np + 1)
    (hbody : ∀ (f : Addr) (cdv : Value) (A : Around) (outer : List PySem.Env) (s : Shared) (H : Hp) (E : XK), Room k (A.deeper (envOfC qual (C8.fnScope st) s.heap.objs.size f cdv)) →
      ∃ t, PSs (cxOf C8.CX0 P w K mg base N qual (C8.fnScope st) f cdv A outer s H E).nox (C8.fnBody st) t ∧ ∀ u me, EvN ⟨K, u, cls, me⟩ kk t B) : C8.Mak P w K mg base (k + 1) x (cls kk) (spI K cls kk (runInit np (N.length - (np + 1)) B)) [] := by
  obtain ⟨f, fd, M, hm, F, b⟩ := W
  exact mak_def M hm F b S hps (hbody f)
end
theorem hu64 {k : Nat} {A : Around} (hr : Room k A) : A.units + 64 < cLine := by have := hr.un; omega
theorem hu66 {k : Nat} {A : Around} (hr : Room k A) : A.units + 66 < cLine := by have := hr.un; omega
theorem hu02 {k : Nat} {A : Around} (hr : Room k A) : A.units + 2 < cLine := by have := hr.un; omega
theorem bt_len : bootBuiltins "len" = some (.builtin "len") := by decide +kernel
theorem bt_sum : bootBuiltins "sum" = some (.builtin "sum") := by decide +kernel
theorem bt_all : bootBuiltins "all" = some (.builtin "all") := by decide +kernel
theorem bt_any : bootBuiltins "any" = some (.builtin "any") := by decide +kernel
theorem bt_abs : bootBuiltins "abs" = some (.builtin "abs") := by decide +kernel
theorem bt_max : bootBuiltins "max" = some (.builtin "max") := by decide +kernel
theorem bt_min : bootBuiltins "min" = some (.builtin "min") := by decide +kernel
theorem bt_sorted : bootBuiltins "sorted" = some (.builtin "sorted") := by decide +kernel
theorem bt_isinstance : bootBuiltins "isinstance" = some (.builtin "isinstance") := by decide +kernel
theorem bt_int : bootBuiltins "int" = some (.type "int") := by decide +kernel
theorem bt_list : bootBuiltins "list" = some (.type "list") := by decide +kernel
theorem bt_tuple : bootBuiltins "tuple" = some (.type "tuple") := by decide +kernel
theorem bt_set : bootBuiltins "set" = some (.type "set") := by decide +kernel
theorem bt_str : bootBuiltins "str" = some (.type "str") := by decide +kernel
theorem bt_bool : bootBuiltins "bool" = some (.type "bool") := by decide +kernel
theorem bt_dict : bootBuiltins "dict" = some (.type "dict") := by decide +kernel
theorem bt_range : bootBuiltins "range" = some (.type "range") := by decide +kernel
theorem bt_zip : bootBuiltins "zip" = some (.type "zip") := by decide +kernel
theorem bt_enumerate : bootBuiltins "enumerate" = some (.type "enumerate") := by decide +kernel
end DL
end

section
set_option maxRecDepth 100000
set_option maxHeartbeats 4000000
/-! DZa: next of a zip whose tuples are kept, over iterators of any kind. -/
namespace DZ
open PySem PySem.Spec PyProof.Rows
section
variable {prog : Program} {w : World} {A : Around} {E : Value → Shared → Prop} {s : Shared} {z TI TO i1 i2 T : Addr} {fp1 fp2 : List Addr} {n1 n2 i : Nat} {P1 P2 : Nat → Value → Prop} {St1 St2 : Nat → Heap → Prop} {f : Bool} {oT : Obj}
theorem zip_is_held {h : Heap} (hz : IsZip h z TI TO (rawInt T)) : IsZipHeld h z TI TO T false := hz
theorem zipH_next_item {Q : Value → Shared → Prop} (S : ZipSep2 z TI TO i1 i2 fp1 fp2) (D1 : Draws prog w A i1 fp1 n1 P1 St1) (D2 : Draws prog w A i2 fp2 n2 P2 St2)
    (hz : IsZipHeld s.heap z TI TO T f) (hT : s.heap.get? T = some oT) (hTI : IsTupOf2 s.heap TI (.ref i1) (.ref i2)) (st1 : St1 i s.heap) (st2 : St2 i s.heap) (hlt1 : i < n1) (hlt2 : i < n2)
    (hQ : ∀ x1 x2 h' tk, P1 i x1 → P2 i x2 → IsZipHeld h' z TI TO T true → St1 (i + 1) h' → St2 (i + 1) h' → IsTupOf2 h' s.heap.objs.size x1 x2 → h'.objs.size = s.heap.objs.size + 1 →
      (∀ c o, c ≠ z → c ≠ i1 → c ≠ i2 → s.heap.get? c = some o → h'.get? c = some o) → Q (.ref s.heap.objs.size) { s with heap := h', toks := tk }) :
    wpAny (model prog w) A (Builtin.«zip.__next__» ⟨[.ref z], []⟩) (fun fin s' => ∃ v, fin = .done (.ret v) ∧ Q v s') E s := by
  obtain ⟨hp, g, d, tk0, os⟩ := s
  show wpAny _ _ (field (.ref z) 2 >>= _) _ _ _
  refine wpAny_bind (wpAny_field hz rfl (x := .bool false) rfl ?_)
  show wpAny _ _ (field (.ref z) 3 >>= _) _ _ _
  refine wpAny_bind (wpAny_field hz rfl (x := .ref TI) rfl ?_)
  refine wpAny_bind (wpAny_seqItems hTI rfl ?_)
  show wpAny _ _ (Builtin.SmallTypes.ownedTupleIsFree (.ref z) >>= _) _ _ _
  refine wpAny_bind (wpAny_tupleHeld_zip hz hT fun h₁ hz₁ hs₁ => ?_)
  replace hs₁ : Heap.SameBut z hp h₁ := hs₁
  simp only [Bool.false_eq_true, if_false]
  refine wpAny_bind ?_
  rw [← Array.forIn_toList]
  simp only [List.forIn_cons, List.forIn_nil]
  refine wpAny_bind (wpAny_bind (wpAny_holding ?_))
  show wpAny _ _ (Builtin.SmallTypes.nextOf (.ref i1) >>= _) _ _ ⟨h₁, g, d, tk0, os⟩
  refine wpAny_bind (D1.item i _ _ _ hlt1 (D1.over st1 hs₁ S.zf1) fun x1 p1 tk1 hx1 sn1 hp1 => wpAny_pure ?_)
  replace hp1 : Heap.SameBut i1 h₁ p1 := hp1
  refine wpAny_pure ?_
  refine wpAny_bind (wpAny_bind (wpAny_holding ?_))
  show wpAny _ _ (Builtin.SmallTypes.nextOf (.ref i2) >>= _) _ _ ⟨p1, g, d, tk1, os⟩
  refine wpAny_bind (D2.item i _ _ _ hlt2 (D2.over (D2.over st2 hs₁ S.zf2) hp1 S.sep1_2) fun x2 p2 tk2 hx2 sn2 hp2 => wpAny_pure ?_)
  replace hp2 : Heap.SameBut i2 p1 p2 := hp2
  refine wpAny_pure (wpAny_pure ?_)
  show wpAny _ _ (newTuple [x1, x2] >>= _) _ _ ⟨p2, g, d, tk2, os⟩
  refine wpAny_bind (wpAny_newTuple ?_)
  have hsz : p2.objs.size = hp.objs.size := by rw [hp2.1, hp1.1, hs₁.1]
  have hz₃ : IsZipHeld p2 z TI TO T true := hp2.extBut _ _ S.zi2 (hp1.extBut _ _ S.zi1 hz₁)
  have hk : ∀ c o, c ≠ z → c ≠ i1 → c ≠ i2 → hp.get? c = some o → p2.get? c = some o := fun c o c1 c2 c3 e => hp2.extBut _ _ c3 (hp1.extBut _ _ c2 (hs₁.extBut _ _ c1 e))
  refine wpAny_pure ⟨_, rfl, ?_⟩
  show Q (.ref p2.objs.size) _
  have hq : IsTupOf2 (p2.push { cls := .type "tuple", data := .seq #[x1, x2] }) p2.objs.size x1 x2 := Heap.get?_push_size _ rfl
  have hz4 : (p2.push { cls := .type "tuple", data := .seq #[x1, x2] }).objs.size = p2.objs.size + 1 := Heap.size_push ..
  rw [hsz] at hq hz4 ⊢
  exact hQ x1 x2 _ tk2 hx1 hx2 (Heap.get?_push_of_some _ hz₃) (D1.frame _ _ _ (D1.over sn1 hp2 S.sep2_1) fun b hb o e => Heap.get?_push_of_some _ e) (D2.frame _ _ _ sn2 fun b hb o e => Heap.get?_push_of_some _ e) hq hz4 fun c o c1 c2 c3 e => Heap.get?_push_of_some _ (hk c o c1 c2 c3 e)
theorem zipH_next_end {Q : Fin → Shared → Prop} (S : ZipSep2 z TI TO i1 i2 fp1 fp2) (D1 : Draws prog w A i1 fp1 n1 P1 St1) (D2 : Draws prog w A i2 fp2 n2 P2 St2)
    (hz : IsZipHeld s.heap z TI TO T f) (hT : s.heap.get? T = some oT) (hTI : IsTupOf2 s.heap TI (.ref i1) (.ref i2)) (st1 : St1 i s.heap) (st2 : St2 i s.heap) (hle1 : i ≤ n1) (hle2 : i ≤ n2) (hend : i = n1 ∨ i = n2)
    (hE : ∀ h' tk e, (∀ c o, c ≠ z → c ≠ i1 → c ≠ i2 → s.heap.get? c = some o → h'.get? c = some o) → (∃ o, h'.get? e = some o ∧ o.cls = .type "StopIteration") → E (.ref e) { s with heap := h', toks := tk }) :
    wpAny (model prog w) A (Builtin.«zip.__next__» ⟨[.ref z], []⟩) Q E s := by
  obtain ⟨hp, g, d, tk0, os⟩ := s
  show wpAny _ _ (field (.ref z) 2 >>= _) _ _ _
  refine wpAny_bind (wpAny_field hz rfl (x := .bool false) rfl ?_)
  show wpAny _ _ (field (.ref z) 3 >>= _) _ _ _
  refine wpAny_bind (wpAny_field hz rfl (x := .ref TI) rfl ?_)
  refine wpAny_bind (wpAny_seqItems hTI rfl ?_)
  show wpAny _ _ (Builtin.SmallTypes.ownedTupleIsFree (.ref z) >>= _) _ _ _
  refine wpAny_bind (wpAny_tupleHeld_zip hz hT fun h₁ hz₁ hs₁ => ?_)
  replace hs₁ : Heap.SameBut z hp h₁ := hs₁
  simp only [Bool.false_eq_true, if_false]
  refine wpAny_bind ?_
  rw [← Array.forIn_toList]
  simp only [List.forIn_cons, List.forIn_nil]
  refine wpAny_bind (wpAny_bind (wpAny_holding ?_))
  show wpAny _ _ (Builtin.SmallTypes.nextOf (.ref i1) >>= _) _ _ ⟨h₁, g, d, tk0, os⟩
  by_cases hlt1 : i < n1
  · refine wpAny_bind (D1.item i _ _ _ hlt1 (D1.over st1 hs₁ S.zf1) fun x1 p1 tk1 hx1 sn1 hp1 => wpAny_pure ?_)
    replace hp1 : Heap.SameBut i1 h₁ p1 := hp1
    have hi2 : i = n2 := by omega
    refine wpAny_pure ?_
    refine wpAny_bind (wpAny_bind (wpAny_holding ?_))
    show wpAny _ _ (Builtin.SmallTypes.nextOf (.ref i2) >>= _) _ _ ⟨p1, g, d, tk1, os⟩
    refine wpAny_bind (D2.done ⟨p1, g, d, tk1, os⟩ _ _ (by rw [← hi2]; exact D2.over (D2.over st2 hs₁ S.zf2) hp1 S.sep1_2) fun q e hq he => ?_)
    replace hq : Heap.ExtBut i2 p1 q := hq
    exact hE q tk1 e (fun c o cz c1 c2 x => hq _ _ c2 (hp1.extBut _ _ c1 (hs₁.extBut _ _ cz x))) he
  · have hi1 : i = n1 := by omega
    refine wpAny_bind (D1.done ⟨h₁, g, d, tk0, os⟩ _ _ (by rw [← hi1]; exact D1.over st1 hs₁ S.zf1) fun q e hq he => ?_)
    replace hq : Heap.ExtBut i1 h₁ q := hq
    exact hE q tk0 e (fun c o cz c1 c2 x => hq _ _ c1 (hs₁.extBut _ _ cz x)) he
theorem pyNext_zipH_item {Q : Option Value → Shared → Prop} (S : ZipSep2 z TI TO i1 i2 fp1 fp2) (D1 : Draws prog w A.in1 i1 fp1 n1 P1 St1) (D2 : Draws prog w A.in1 i2 fp2 n2 P2 St2)
    (hz : IsZipHeld s.heap z TI TO T f) (hT : s.heap.get? T = some oT) (hTI : IsTupOf2 s.heap TI (.ref i1) (.ref i2)) (st1 : St1 i s.heap) (st2 : St2 i s.heap) (hlt1 : i < n1) (hlt2 : i < n2)
    (hQ : ∀ x1 x2 h' tk, P1 i x1 → P2 i x2 → IsZipHeld h' z TI TO T true → St1 (i + 1) h' → St2 (i + 1) h' → IsTupOf2 h' s.heap.objs.size x1 x2 → h'.objs.size = s.heap.objs.size + 1 →
      (∀ c o, c ≠ z → c ≠ i1 → c ≠ i2 → s.heap.get? c = some o → h'.get? c = some o) → Q (some (.ref s.heap.objs.size)) { s with heap := h', toks := tk }) :
    wpAny (model prog w) A (pyNext (.ref z)) Q E s := by
  have hTy : s.TypeIs (.ref z) "zip" := ⟨_, hz, rfl⟩
  unfold pyNext
  exact wpAny_bind (wpAny_attempt (wpAny_callSpecial?_slot (name := Str.ofString "__next__") hTy F.slot_zip_next
    (wpAny_call_entry F.slot_zip_next hTy F.entry_zip_next
      (zipH_next_item S D1 D2 hz hT hTI st1 st2 hlt1 hlt2 fun x1 x2 h' tk y1 y2 b1 d1 d2 b5 b6 b7 => wpAny_pure (hQ x1 x2 h' tk y1 y2 b1 d1 d2 b5 b6 b7)) (F.args_zip_next_1 _))))
theorem pyNext_zipH_end {Q : Option Value → Shared → Prop} (S : ZipSep2 z TI TO i1 i2 fp1 fp2) (D1 : Draws prog w A.in1 i1 fp1 n1 P1 St1) (D2 : Draws prog w A.in1 i2 fp2 n2 P2 St2)
    (hz : IsZipHeld s.heap z TI TO T f) (hT : s.heap.get? T = some oT) (hTI : IsTupOf2 s.heap TI (.ref i1) (.ref i2)) (st1 : St1 i s.heap) (st2 : St2 i s.heap) (hle1 : i ≤ n1) (hle2 : i ≤ n2) (hend : i = n1 ∨ i = n2)
    (hQ : ∀ h' tk, (∀ c o, c ≠ z → c ≠ i1 → c ≠ i2 → s.heap.get? c = some o → h'.get? c = some o) → Q none { s with heap := h', toks := tk }) : wpAny (model prog w) A (pyNext (.ref z)) Q E s := by
  have hTy : s.TypeIs (.ref z) "zip" := ⟨_, hz, rfl⟩
  unfold pyNext
  refine wpAny_bind (wpAny_attempt (wpAny_callSpecial?_slot (name := Str.ofString "__next__") hTy F.slot_zip_next
    (wpAny_call_entry F.slot_zip_next hTy F.entry_zip_next (zipH_next_end S D1 D2 hz hT hTI st1 st2 hle1 hle2 hend fun h' tk e hk he => ?_) (F.args_zip_next_1 _))))
  obtain ⟨o, ho, hc⟩ := he
  refine wpAny_bind (wpAny_isInstance (T := "StopIteration") (b := true) ⟨o, ho, hc⟩ isSubtype_stop ?_)
  exact wpAny_pure (hQ _ _ hk)
end
end DZ
end

section
set_option maxRecDepth 100000
set_option maxHeartbeats 4000000
/-! DZ: list(zip(x, y)) of lists and tuples in any mix. -/
namespace DZ
open PySem PySem.Spec PyProof.Rows L2 DR
theorem zip_no_len : typeLookup (.type "zip") "__len__" = pure none := am_miss_of_fast (by decide +kernel)
theorem zip_no_hint : typeLookup (.type "zip") "__length_hint__" = pure none := am_miss_of_fast (by decide +kernel)
section
variable {X : Cx} {pins : List (Addr × Obj)} {σ : L2.St} {k k' : Bool} {a b z TI TO i1 i2 S : Addr} {xs ys : List V} {H2 : Hp}
/-- the pairs made so far -/
def PairsAt (H2 H : Hp) (xs ys : List V) (ts : List Addr) : Prop := ∀ (j : Nat) (t : Addr), ts[j]? = some t → ∃ (x y : V) (ob : Obj), xs[j]? = some x ∧ ys[j]? = some y ∧ ob.dict = none ∧ H t = some (.frz ob (.tup [x, y])) ∧ H2 t = none
structure LS (X : Cx) (pins : List (Addr × Obj)) (σ : L2.St) (k k' : Bool) (a b z TI TO i1 i2 S : Addr) (xs ys : List V) (H2 : Hp) (i : Nat) (s : Shared) (H : Hp) (ts : List Addr) : Prop where
  inv : Inv X pins σ H s
  lst : H S = some (.lst (ts.map V.ref))
  len : ts.length = i
  s0 : H2 S = none
  ext : ∀ c o, H2 c = some o → H c = some o
  zip : (IsZip s.heap z TI TO .none ∧ ∃ a1 a2, IsTupOf2 s.heap TO a1 a2) ∨ ∃ T f oT, IsZipHeld s.heap z TI TO T f ∧ s.heap.get? T = some oT ∧ T ≠ z ∧ T ≠ i1 ∧ T ≠ i2 ∧ T ≠ S
  ti : IsTupOf2 s.heap TI (.ref i1) (.ref i2)
  to : ∃ o, s.heap.get? TO = some o
  k1 : ItK k s.heap i1 a i
  k2 : ItK k' s.heap i2 b i
  fp : ∀ c ∈ [z, TI, TO, i1, i2], FpOk X pins H c
  prs : PairsAt H2 H xs ys ts
theorem fp_upd {H : Hp} {c T : Addr} {o : HO} (f : FpOk X pins H c) (h : c ≠ T) : FpOk X pins (upd H T o) c := ⟨by rw [upd_ne h]; exact f.1, f.2⟩
theorem loop_zip {A : Around} {R : Result → Shared → Prop} {res : Value} (hh : A.in1.in1.handled = none) (D : ZipA z TI TO i1 i2) (hc : X.calm = true) (hx : SqK X.K k H2 a xs) (hy : SqK X.K k' H2 b ys) (hz : min xs.length ys.length ≤ 1000000)
    (hR : ∀ s' H' ts, Inv X pins σ H' s' → H' S = some (.lst (ts.map V.ref)) → ts.length = min xs.length ys.length → H2 S = none → (∀ c o, H2 c = some o → H' c = some o) → PairsAt H2 H' xs ys ts → R (.ok (.ret res)) s') :
    ∀ (m i : Nat) (s : Shared) (H : Hp) (ts : List Addr), min xs.length ys.length - i = m → i ≤ min xs.length ys.length → LS X pins σ k k' a b z TI TO i1 i2 S xs ys H2 i s H ts →
      codeAny (model X.prog X.w) A (.builtin "list.extend.loop" ⟨[.ref S, .ref z, res], []⟩) R s := by
  intro m
  induction m with
  | zero =>
    intro i s H ts hm hi L
    have ei : i = min xs.length ys.length := by omega
    have hqx : SqK X.K k H a xs := SqK.sub (fun c o e => L.ext c o e) hx
    have hqy : SqK X.K k' H b ys := SqK.sub (fun c o e => L.ext c o e) hy
    obtain ⟨its, rv, p1⟩ := inv_K L.inv hqx
    obtain ⟨its2, rv2, p2⟩ := inv_K L.inv hqy
    have l1 := rv.length
    have l2 := rv2.length
    have na : ∀ c, c ∈ [z, TI, TO, i1, i2] → a ≠ c := fun c hc => src_ne L.inv hqx (L.fp c hc)
    have nb : ∀ c, c ∈ [z, TI, TO, i1, i2] → b ≠ c := fun c hc => src_ne L.inv hqy (L.fp c hc)
    have Sp : ZipSep2 z TI TO i1 i2 [i1, a] [i2, b] :=
      { TIz := D.TIz, TOz := D.TOz, TITO := D.TITO, TIi1 := D.TIi1, mem1 := by simp, zf1 := by simp; exact ⟨D.z1, Ne.symm (na z (by simp))⟩, Tf1 := by simp; exact ⟨D.T1, Ne.symm (na TO (by simp))⟩,
        TIi2 := D.TIi2, mem2 := by simp, zf2 := by simp; exact ⟨D.z2, Ne.symm (nb z (by simp))⟩, Tf2 := by simp; exact ⟨D.T2, Ne.symm (nb TO (by simp))⟩,
        sep1_2 := by simp; exact ⟨D.i12, Ne.symm (nb i1 (by simp))⟩, sep2_1 := by simp; exact ⟨Ne.symm D.i12, Ne.symm (na i2 (by simp))⟩ }
    have D1 := draws_K (prog := X.prog) (w := X.w) hh k i1 a (na i1 (by simp)) its.toArray
    have D2 := draws_K (prog := X.prog) (w := X.w) hh k' i2 b (nb i2 (by simp)) its2.toArray
    have fin : ∀ h' tk, (∀ c o, c ∉ [z, TI, TO, i1, i2] → s.heap.get? c = some o → h'.get? c = some o) → R (.ok (.ret res)) { s with heap := h', toks := tk } := fun h' tk hk =>
      hR _ H ts (L.inv.turnedL (ch := [z, TI, TO, i1, i2]) hk L.fp) L.lst (by rw [L.len, ei]) L.s0 L.ext L.prs
    have hn1 : i ≤ its.toArray.size := by rw [List.size_toArray, ← l1]; omega
    have hn2 : i ≤ its2.toArray.size := by rw [List.size_toArray, ← l2]; omega
    have hn3 : i = its.toArray.size ∨ i = its2.toArray.size := by rw [List.size_toArray, List.size_toArray, ← l1, ← l2]; omega
    refine codeAny_builtin F.entry_extend_loop ?_
    rw [Around.under_plainId F.plain_extend_loop _]
    show wpAny _ A.in1 (pyNext (.ref z) >>= _) _ _ s
    rcases L.zip with ⟨hz0, a1, a2, hTO⟩ | ⟨T, f, oT, hz0, hT, t1, t2, t3, t4⟩
    · refine wpAny_bind (wpAny_pyNext_zipD2_end Sp D1 D2 hz0 L.ti hTO ⟨L.k1, p1⟩ ⟨L.k2, p2⟩ hn1 hn2 hn3 fun h' tk hk => wpAny_pure (fin h' tk fun c o hc e => ?_))
      simp only [List.mem_cons, List.mem_singleton, List.not_mem_nil, or_false, not_or] at hc
      exact hk c o hc.1 hc.2.2.1 hc.2.2.2.1 hc.2.2.2.2 e
    · refine wpAny_bind (pyNext_zipH_end Sp D1 D2 hz0 hT L.ti ⟨L.k1, p1⟩ ⟨L.k2, p2⟩ hn1 hn2 hn3 fun h' tk hk => wpAny_pure (fin h' tk fun c o hc e => ?_))
      simp only [List.mem_cons, List.mem_singleton, List.not_mem_nil, or_false, not_or] at hc
      exact hk c o hc.1 hc.2.2.2.1 hc.2.2.2.2 e
  | succ m ih =>
    intro i s H ts hm hi L
    have hlt : i < min xs.length ys.length := by omega
    have hqx : SqK X.K k H a xs := SqK.sub (fun c o e => L.ext c o e) hx
    have hqy : SqK X.K k' H b ys := SqK.sub (fun c o e => L.ext c o e) hy
    obtain ⟨its, rv, p1⟩ := inv_K L.inv hqx
    obtain ⟨its2, rv2, p2⟩ := inv_K L.inv hqy
    have l1 := rv.length
    have l2 := rv2.length
    have na : ∀ c, c ∈ [z, TI, TO, i1, i2] → a ≠ c := fun c hc => src_ne L.inv hqx (L.fp c hc)
    have nb : ∀ c, c ∈ [z, TI, TO, i1, i2] → b ≠ c := fun c hc => src_ne L.inv hqy (L.fp c hc)
    have Sp : ZipSep2 z TI TO i1 i2 [i1, a] [i2, b] :=
      { TIz := D.TIz, TOz := D.TOz, TITO := D.TITO, TIi1 := D.TIi1, mem1 := by simp, zf1 := by simp; exact ⟨D.z1, Ne.symm (na z (by simp))⟩, Tf1 := by simp; exact ⟨D.T1, Ne.symm (na TO (by simp))⟩,
        TIi2 := D.TIi2, mem2 := by simp, zf2 := by simp; exact ⟨D.z2, Ne.symm (nb z (by simp))⟩, Tf2 := by simp; exact ⟨D.T2, Ne.symm (nb TO (by simp))⟩,
        sep1_2 := by simp; exact ⟨D.i12, Ne.symm (nb i1 (by simp))⟩, sep2_1 := by simp; exact ⟨Ne.symm D.i12, Ne.symm (na i2 (by simp))⟩ }
    have D1 := draws_K (prog := X.prog) (w := X.w) hh k i1 a (na i1 (by simp)) its.toArray
    have D2 := draws_K (prog := X.prog) (w := X.w) hh k' i2 b (nb i2 (by simp)) its2.toArray
    have hn1 : i < its.toArray.size := by rw [List.size_toArray, ← l1]; omega
    have hn2 : i < its2.toArray.size := by rw [List.size_toArray, ← l2]; omega
    have nS : ∀ c, c ∈ [z, TI, TO, i1, i2] → c ≠ S := fun c hc e => by
      have q := (L.fp c hc).1
      rw [e, L.lst] at q
      cases q
    -- behind next
    have step : ∀ (v1 v2 : Value) (h' : Heap) (tk : Nat), its[i]? = some v1 → its2[i]? = some v2 → ((IsZip h' z TI TO .none ∧ ∃ a1 a2, IsTupOf2 h' TO a1 a2) ∨ ∃ T f oT, IsZipHeld h' z TI TO T f ∧ h'.get? T = some oT ∧ T ≠ z ∧ T ≠ i1 ∧ T ≠ i2 ∧ T ≠ S) →
        ItK k h' i1 a (i + 1) → ItK k' h' i2 b (i + 1) → IsTupOf2 h' s.heap.objs.size v1 v2 → (∀ c o, c ∉ [z, TI, TO, i1, i2] → s.heap.get? c = some o → h'.get? c = some o) → IsTupOf2 h' TI (.ref i1) (.ref i2) → (∃ o, h'.get? TO = some o) →
        wpAny (model X.prog X.w) A.in1 (updateSeq S (·.push (.ref s.heap.objs.size)) >>= fun _ => (again (.builtin "list.extend.loop" ⟨[.ref S, .ref z, res], []⟩) : Sem Fin))
          (fun fin s' => match fin with | .done f => R (.ok f) s' | .again c' => c'.quiet = true ∧ codeAny (model X.prog X.w) A c' R s') (fun e s' => R (.error e) s') { s with heap := h', toks := tk } := by
      intro v1 v2 h' tk hv1 hv2 hzip hk1 hk2 hT hk hTI hTOx
      have hTs : s.heap.objs.size ≤ s.heap.objs.size := Nat.le_refl _
      obtain ⟨x, hx1⟩ : ∃ x, xs[i]? = some x := ⟨xs[i]'(by omega), List.getElem?_eq_getElem _⟩
      obtain ⟨y, hy1⟩ : ∃ y, ys[i]? = some y := ⟨ys[i]'(by omega), List.getElem?_eq_getElem _⟩
      obtain ⟨u1, hu1, ru1⟩ := rv.get hx1
      obtain ⟨u2, hu2, ru2⟩ := rv2.get hy1
      have e1 : u1 = v1 := by rw [hv1] at hu1; exact (Option.some.inj hu1).symm
      have e2 : u2 = v2 := by rw [hv2] at hu2; exact (Option.some.inj hu2).symm
      subst e1 e2
      have hTn : H s.heap.objs.size = none := L.inv.hok.fresh (Nat.le_refl _)
      have I1 : Inv X pins σ (upd H s.heap.objs.size (.frz { cls := .type "tuple", data := .seq #[u1, u2] } (.tup [x, y]))) { s with heap := h', toks := tk } :=
        L.inv.turnedNew (ch := [z, TI, TO, i1, i2]) hk L.fp (Nat.le_refl _) ⟨hT, by show 2 ≤ sizeLine; decide, [u1, u2], .cons ru1 (.cons ru2 .nil), ⟨_, hT, rfl, _, rfl⟩⟩
      have neT : ∀ c o, H c = some o → c ≠ s.heap.objs.size := fun c o e => ne_of_none e hTn
      have hS1 : (upd H s.heap.objs.size (.frz { cls := .type "tuple", data := .seq #[u1, u2] } (.tup [x, y]))) S = some (.lst (ts.map V.ref)) := by rw [upd_ne (neT _ _ L.lst)]; exact L.lst
      obtain ⟨zz, itl, n, rl, hl, eS⟩ := I1.lstM hS1
      have eS : h'.get? S = some { cls := .type "list", data := .seq itl.toArray n } := eS
      have hlen : itl.length = i := by rw [← hl, List.length_map, L.len]
      have neS : ∀ c, c ∈ [z, TI, TO, i1, i2] → ∀ o, h'.get? c = some o → (h'.update S (Obj.mapSeq (·.push (.ref s.heap.objs.size)))).get? c = some o := fun c hc o e => (Heap.get?_update_other _ _ (Ne.symm (nS c hc))).trans e
      have hsz : min xs.length ys.length ≤ sizeLine := Nat.le_trans hz (by rw [sizeLine_eq]; omega)
      refine wpAny_bind ?_
      refine wpAny_updateSeq eS rfl (wpAny_pure ⟨plainId_quiet F.plain_extend_loop _, ih (i + 1) _ (upd (upd H s.heap.objs.size (.frz { cls := .type "tuple", data := .seq #[u1, u2] } (.tup [x, y]))) S (.lst ((ts ++ [s.heap.objs.size]).map V.ref))) (ts ++ [s.heap.objs.size]) (by omega) hlt ?_⟩) (by rw [List.size_toArray, hlen]; omega) (by show (itl.toArray.push _).size ≤ sizeLine + 1; rw [Array.size_push, List.size_toArray, hlen]; omega)
      have I2 := I1.lset (t' := tk) (f := (·.push (.ref s.heap.objs.size))) (its' := itl ++ [.ref s.heap.objs.size]) (ys := (ts ++ [s.heap.objs.size]).map V.ref) hS1 eS (by simp) (by rw [List.map_append]; exact rl.append (.cons rfl .nil)) (by rw [List.length_map, List.length_append, L.len]; simp only [List.length_cons, List.length_nil]; omega)
      refine ⟨I2, upd_same, by rw [List.length_append, L.len]; rfl, L.s0, fun c o e => ?_, ?_, neS TI (by simp) _ hTI, (by obtain ⟨o, e⟩ := hTOx; exact ⟨o, neS TO (by simp) o e⟩), hk1.at fun o e => neS i1 (by simp) o e, hk2.at fun o e => neS i2 (by simp) o e, fun c hc => ?_, fun j t hj => ?_⟩
      · have nc : c ≠ S := fun z => by rw [z, L.s0] at e; cases e
        rw [upd_ne nc, upd_ne (neT c o (L.ext c o e))]
        exact L.ext c o e
      · rcases hzip with ⟨q1, a1, a2, q2⟩ | ⟨T, f, oT, q1, q2, q3, q4, q5, q6⟩
        · exact .inl ⟨neS z (by simp) _ q1, a1, a2, neS TO (by simp) _ q2⟩
        · exact .inr ⟨T, f, oT, neS z (by simp) _ q1, (Heap.get?_update_other _ _ (Ne.symm q6)).trans q2, q3, q4, q5, q6⟩
      · refine fp_upd (fp_upd (L.fp c hc) fun e => ?_) (nS c hc)
        have hcl : ∃ o, s.heap.get? c = some o := by
          have e' : c = z ∨ c = TI ∨ c = TO ∨ c = i1 ∨ c = i2 := by simpa using hc
          rcases e' with q | q | q | q | q
          · rcases L.zip with ⟨w1, _⟩ | ⟨_, _, _, w1, _⟩ <;> (rw [q]; exact ⟨_, w1⟩)
          · rw [q]; exact ⟨_, L.ti⟩
          · rw [q]; exact L.to
          · obtain ⟨o, w1, _⟩ := L.k1.obj; rw [q]; exact ⟨o, w1⟩
          · obtain ⟨o, w1, _⟩ := L.k2.obj; rw [q]; exact ⟨o, w1⟩
        obtain ⟨o, ho⟩ := hcl
        exact absurd (Heap.lt_size ho) (by rw [e]; exact Nat.lt_irrefl _)
      · by_cases hjl : j < ts.length
        · rw [List.getElem?_append_left hjl] at hj
          obtain ⟨x', y', ob, r1, r2, r3, r4, r5⟩ := L.prs j t hj
          have nt : t ≠ S := fun z => by rw [z, L.lst] at r4; cases r4
          exact ⟨x', y', ob, r1, r2, r3, by rw [upd_ne nt, upd_ne (neT _ _ r4)]; exact r4, r5⟩
        · rw [List.getElem?_append_right (by omega)] at hj
          have ej : j = ts.length := by
            have := (List.getElem?_eq_some_iff.mp hj).1
            simp only [List.length_cons, List.length_nil] at this
            omega
          subst ej
          rw [Nat.sub_self] at hj
          cases hj
          have nt : s.heap.objs.size ≠ S := Ne.symm (neT _ _ L.lst)
          refine ⟨x, y, _, by rw [L.len]; exact hx1, by rw [L.len]; exact hy1, rfl, by rw [upd_ne nt, upd_same], ?_⟩
          cases q : H2 s.heap.objs.size with
          | none => rfl
          | some o => rw [L.ext _ _ q] at hTn; cases hTn
    refine codeAny_builtin F.entry_extend_loop ?_
    rw [Around.under_plainId F.plain_extend_loop _]
    show wpAny _ A.in1 (pyNext (.ref z) >>= _) _ _ s
    rcases L.zip with ⟨hz0, a1, a2, hTO⟩ | ⟨T, f, oT, hz0, hT, t1, t2, t3, t4⟩
    · refine wpAny_bind (wpAny_pyNext_zipD2_item Sp D1 D2 hz0 L.ti hTO ⟨L.k1, p1⟩ ⟨L.k2, p2⟩ hn1 hn2 fun v1 v2 h' tk y1 y2 b1 b2 d1 d2 b5 b6 b7 => ?_)
      have hk : ∀ c o, c ∉ [z, TI, TO, i1, i2] → s.heap.get? c = some o → h'.get? c = some o := fun c o hc e => by
        simp only [List.mem_cons, List.mem_singleton, List.not_mem_nil, or_false, not_or] at hc
        exact b7 c o hc.1 hc.2.2.1 hc.2.2.2.1 hc.2.2.2.2 e
      have nn : ∀ c o, s.heap.get? c = some o → s.heap.objs.size ≠ c := fun c o e z => absurd (Heap.lt_size e) (by rw [← z]; exact Nat.lt_irrefl _)
      obtain ⟨o1, w1, _⟩ := L.k1.obj
      obtain ⟨o2, w2, _⟩ := L.k2.obj
      have wS : ∃ o, s.heap.get? S = some o := by
        obtain ⟨_, its, n, _, e⟩ := L.inv.hok S _ L.lst
        exact ⟨_, e⟩
      obtain ⟨oS, wS⟩ := wS
      exact step v1 v2 h' tk (by simpa using y1) (by simpa using y2) (.inr ⟨s.heap.objs.size, false, _, b1, b5, nn _ _ hz0, nn _ _ w1, nn _ _ w2, nn _ _ wS⟩) d1.1 d2.1 b5 hk (b7 TI _ D.TIz D.TITO D.TIi1 D.TIi2 L.ti) ⟨_, b2⟩
    · refine wpAny_bind (pyNext_zipH_item Sp D1 D2 hz0 hT L.ti ⟨L.k1, p1⟩ ⟨L.k2, p2⟩ hn1 hn2 fun v1 v2 h' tk y1 y2 b1 d1 d2 b5 b6 b7 => ?_)
      have hk : ∀ c o, c ∉ [z, TI, TO, i1, i2] → s.heap.get? c = some o → h'.get? c = some o := fun c o hc e => by
        simp only [List.mem_cons, List.mem_singleton, List.not_mem_nil, or_false, not_or] at hc
        exact b7 c o hc.1 hc.2.2.2.1 hc.2.2.2.2 e
      exact step v1 v2 h' tk (by simpa using y1) (by simpa using y2) (.inr ⟨T, true, oT, b1, b7 T oT t1 t2 t3 hT, t1, t2, t3, t4⟩) d1.1 d2.1 b5 hk (b7 TI _ D.TIz D.TIi1 D.TIi2 L.ti) (by obtain ⟨o, e⟩ := L.to; exact ⟨o, b7 TO o D.TOz D.T1 D.T2 e⟩)
theorem call_list_zip {s : Shared} {H : Hp} {Q : VK} (I : Inv X pins σ H s) (hc : X.calm = true) (D : ZipA z TI TO i1 i2) (hx : SqK X.K k H a xs) (hy : SqK X.K k' H b ys) (hn : min xs.length ys.length ≤ 1000000)
    (hz : IsZip s.heap z TI TO .none) (hTI : IsTupOf2 s.heap TI (.ref i1) (.ref i2)) (hTO : ∃ a1 a2, IsTupOf2 s.heap TO a1 a2) (h1 : ItK k s.heap i1 a 0) (h2 : ItK k' s.heap i2 b 0) (fp : ∀ c ∈ [z, TI, TO, i1, i2], FpOk X pins H c)
    (q : ∀ p H3 ts, H p = none → H3 p = some (.lst (ts.map V.ref)) → ts.length = min xs.length ys.length → (∀ c o, H c = some o → H3 c = some o) → PairsAt H H3 xs ys ts → Q (.ref p) H3) :
    wpAny (model X.prog X.w) X.A (call (.type "list") [.ref z]) (EP X pins σ Q) X.xe s := by
  have hSn : H s.heap.objs.size = none := I.hok.fresh (Nat.le_refl _)
  refine callType_codes (Q₁ := fun obj s₁ => obj = .ref s.heap.objs.size ∧ s₁ = { s with heap := s.heap.push { cls := .type "list", data := .seq #[] } }) F.called_list (F.typeCall_list_1 _) F.entry_list_init
    (code_list_new _ ⟨rfl, rfl⟩) fun obj s₁ h₁ => ?_
  obtain ⟨rfl, rfl⟩ := h₁
  generalize hSe : s.heap.objs.size = S at hSn
  have hS : (s.heap.push { cls := .type "list", data := .seq #[] }).get? S = some { cls := .type "list", data := .seq (([] : List Value).toArray) 0 } := by rw [← hSe]; exact Heap.get?_push_size _ rfl
  have nS : ∀ c o, s.heap.get? c = some o → c ≠ S := fun c o e z => absurd (Heap.lt_size e) (by rw [z, hSe]; exact Nat.lt_irrefl _)
  have I0 : Inv X pins σ (upd H S (.lst [])) { s with heap := s.heap.push { cls := .type "list", data := .seq #[] } } := by
    subst hSe
    exact I.laid (t' := s.toks) (o := .lst []) (fun b o e => Heap.get?_push_of_some _ e) (Nat.le_refl _) ⟨Nat.zero_le _, [], 0, .nil, hS⟩
  refine ⟨⟨_, hS, rfl⟩, F.args_list_init_2 _ _, ?_⟩
  show wpAny _ X.A.in1.in1 (do let old ← Builtin.List.listItems (.ref S); Builtin.List.listUpdate (.ref S) (fun _ => #[]); letGo old.toList.reverse; Builtin.List.listExtendWith (.ref S) (.ref z) .none) _ _ _
  refine wpAny_bind ?_
  unfold Builtin.List.listItems
  refine wpAny_bind (wpAny_seqItems hS rfl (wpAny_pure ?_))
  show wpAny _ _ (updateSeq S (fun _ => #[]) >>= fun _ => letGo (([] : List Value).toArray).toList.reverse >>= fun _ => Builtin.List.listExtendWith (.ref S) (.ref z) .none) _ _ _
  refine wpAny_bind (wpAny_updateSeq hS rfl ?_)
  have I1 := I0.lset (t' := s.toks) (f := fun _ => #[]) (its' := []) (ys := []) upd_same hS rfl .nil (Nat.zero_le _)
  have hS1 := Heap.get?_update_self (Obj.mapSeq (fun _ => (#[] : Array Value))) hS rfl
  refine wpAny_bind (wpAny_letGo ?_)
  have o1 : ∀ c o, s.heap.get? c = some o → ((s.heap.push { cls := .type "list", data := .seq #[] }).update S (Obj.mapSeq (fun _ => (#[] : Array Value)))).get? c = some o := fun c o e => (Heap.get?_update_other _ _ (Ne.symm (nS c o e))).trans (Heap.get?_push_of_some _ e)
  unfold Builtin.List.listExtendWith
  refine wpAny_bind (wpAny_typeOf (T := "zip") ⟨_, o1 z _ hz, rfl⟩ ?_)
  have e1 : Builtin.List.listSameRef (.ref S) (.ref z) = false := by simp [Builtin.List.listSameRef, Ne.symm (nS z _ hz)]
  have e2 : (Value.type "zip" == Value.type "list") = false := by decide
  have e3 : (Value.type "zip" == Value.type "tuple") = false := by decide
  simp only [e1, e2, e3, Bool.or_false, Bool.false_eq_true, if_false]
  refine wpAny_bind (wpAny_pyIter_zip (o1 z _ hz) ?_)
  refine wpAny_bind (wpAny_holding ?_)
  unfold Builtin.List.listLengthHint
  refine wpAny_bind (wpAny_specialOf (T := "zip") ⟨_, o1 z _ hz, rfl⟩ zip_no_len ?_)
  show wpAny _ _ (specialOf (Value.ref z) (Str.ofString "__length_hint__") >>= _) _ _ _
  refine wpAny_bind (wpAny_specialOf (T := "zip") ⟨_, o1 z _ hz, rfl⟩ zip_no_hint ?_)
  refine wpAny_pure ?_
  show wpAny _ _ (rule "list.extend.makes-room" >>= fun _ => Builtin.List.listTouch (.ref S) >>= fun _ =>
    again (.builtin "list.extend.loop" ⟨[.ref S, .ref z, .none], []⟩)) _ _ _
  refine wpAny_bind (wpAny_rule ?_)
  refine wpAny_bind ?_
  show wpAny _ _ (updateSeq S (·.push .none) >>= fun _ => updateSeq S (·.pop)) _ _ _
  refine wpAny_bind (wpAny_updateSeq hS1 rfl ?_)
  have I2 := I1.lset (t' := s.toks) (f := (·.push .none)) (its' := [.none]) (ys := [.non]) upd_same hS1 rfl (.cons rfl .nil) (by show 1 ≤ sizeLine; decide)
  have hS2 := Heap.get?_update_self (Obj.mapSeq (·.push Value.none)) hS1 rfl
  refine wpAny_updateSeq hS2 rfl ?_
  have I3 := I2.lset (t' := s.toks) (f := (·.pop)) (its' := []) (ys := []) upd_same hS2 rfl .nil (Nat.zero_le _)
  have oth : ∀ c o, s.heap.get? c = some o → ((((s.heap.push { cls := .type "list", data := .seq #[] }).update S (Obj.mapSeq (fun _ => (#[] : Array Value)))).update S (Obj.mapSeq (·.push Value.none))).update S (Obj.mapSeq (·.pop))).get? c = some o :=
    fun c o e => (Heap.get?_update_other _ _ (Ne.symm (nS c o e))).trans ((Heap.get?_update_other _ _ (Ne.symm (nS c o e))).trans (o1 c o e))
  have ext : ∀ c o, H c = some o → upd (upd (upd (upd H S (.lst [])) S (.lst [])) S (.lst [.non])) S (.lst []) c = some o := fun c o e => by
    have nc : c ≠ S := fun z => by rw [z, hSn] at e; cases e
    rw [upd_ne nc, upd_ne nc, upd_ne nc, upd_ne nc]; exact e
  obtain ⟨w1, w2, wTO⟩ := hTO
  refine wpAny_pure ⟨plainId_quiet F.plain_extend_loop _, loop_zip (k := k) (k' := k') (a := a) (b := b) (S := S) (H2 := H) (A := X.A.in1) (I.ok.hd hc) D hc hx hy hn (fun s' H' ts J r1 r2 r3 r4 r5 => ⟨rfl, .ref S, H', J, rfl, q S H' ts r3 r1 r2 r4 r5⟩) _ 0 _ _ [] rfl (Nat.zero_le _)
    ⟨I3, upd_same, rfl, hSn, ext, .inl ⟨oth _ _ hz, w1, w2, oth _ _ wTO⟩, oth _ _ hTI, ⟨_, oth _ _ wTO⟩, h1.at fun o e => oth _ _ e, h2.at fun o e => oth _ _ e, fun c hc => ?_, fun j t h => by simp at h⟩⟩
  have hcS : c ≠ S := by
    have e' : c = z ∨ c = TI ∨ c = TO ∨ c = i1 ∨ c = i2 := by simpa using hc
    rcases e' with q | q | q | q | q
    · rw [q]; exact nS _ _ hz
    · rw [q]; exact nS _ _ hTI
    · rw [q]; exact nS _ _ wTO
    · obtain ⟨o, w, _⟩ := h1.obj; rw [q]; exact nS _ _ w
    · obtain ⟨o, w, _⟩ := h2.obj; rw [q]; exact nS _ _ w
  exact fp_upd (fp_upd (fp_upd (fp_upd (fp c hc) hcS) hcS) hcS) hcS
end
def tLz (K : PySem.W.Frag) (te tf : TE) : TE := fun σ H Q => te σ H fun x H1 => tf σ H1 fun y H2 => ∃ k a xs k' b ys, x = .ref a ∧ y = .ref b ∧ SqK K k H2 a xs ∧ SqK K k' H2 b ys ∧ min xs.length ys.length ≤ 1000000 ∧
  ∀ p H3 ts, H2 p = none → H3 p = some (.lst (ts.map V.ref)) → ts.length = min xs.length ys.length → (∀ c o, H2 c = some o → H3 c = some o) → PairsAt H2 H3 xs ys ts → Q (.ref p) H3
theorem pe_lz {X : Cx} {e e2 : Expr} {te tf : TE} {p p2 pos pos2 : Pos} (hc : X.calm = true) (hgl : Gl X "list") (hml : X.mg "list" = none) (hg : Gl X "zip") (hm : X.mg "zip" = none) (he : PE X e te) (he2 : PE X e2 tf)
    (hs : starEach [e, e2] X.env = (false, eval e X.env) :: starEach [e2] X.env := by rfl) (hs2 : starEach [e2] X.env = (false, eval e2 X.env) :: starEach [] X.env := by rfl) (hpl : (backTo pos2 (starEach [e2] X.env)).any (·.1) = false := by rfl)
    (ho : starEach [.Call (.Name "zip" p2) [e, e2] [] pos2] X.env = (false, eval (.Call (.Name "zip" p2) [e, e2] [] pos2) X.env) :: starEach [] X.env := by rfl) :
    PE X (.Call (.Name "list" p) [.Call (.Name "zip" p2) [e, e2] [] pos2] [] pos) (tLz X.K te tf) := by
  refine ⟨fun pins s σ H Q I h => ?_⟩
  refine Call_ (ld_blt I hgl hml DL.bt_list (PyProof.Rows.callWith_type1 (args_cons ?_ ho) ho))
  refine Call_ (ld_blt I hg hm PyProof.Rows.boot_zip (PyProof.Rows.callWith_type1 (args_cons (thn (he.run pins s σ H _ I h) fun v s1 ⟨x, H1, I1, r1, q1⟩ => args_cons (thn (he2.run pins s1 σ H1 _ I1 q1) fun v2 s2 ⟨y, H2, I2, r2, q2⟩ => args_nil ?_) hs2) hs) hs hpl))
  obtain ⟨k, a, xs, k', b, ys, rfl, rfl, hqx, hqy, hn, q⟩ := q2
  obtain rfl : v = .ref a := r1
  obtain rfl : v2 = .ref b := r2
  obtain ⟨its, rv, p1⟩ := inv_K I2 hqx
  obtain ⟨its2, rv2, p2⟩ := inv_K I2 hqy
  refine zip_begins2 (begins_K k a its.toArray) (begins_K k' b its2.toArray) p1 p2 fun h' hz hTI hTO h1 h2 hsz hk => args_nil ?_
  have I3 : Inv X pins σ H2 { s2 with heap := h' } := I2.kept (t' := s2.toks) hk
  have D : ZipA (s2.heap.objs.size + 4) (s2.heap.objs.size + 2) (s2.heap.objs.size + 3) s2.heap.objs.size (s2.heap.objs.size + 1) := by
    constructor <;> (show (_ : Nat) ≠ _; omega)
  refine call_list_zip I3 hc D hqx hqy hn hz hTI ⟨_, _, hTO⟩ (itK_new h1) (itK_new h2) (fun c hc => ?_) q
  have hle : s2.heap.objs.size ≤ c := by
    have e' : c = s2.heap.objs.size + 4 ∨ c = s2.heap.objs.size + 2 ∨ c = s2.heap.objs.size + 3 ∨ c = s2.heap.objs.size ∨ c = s2.heap.objs.size + 1 := by simpa using hc
    rcases e' with z | z | z | z | z <;> rw [z]
    · exact Nat.le_add_right _ _
    · exact Nat.le_add_right _ _
    · exact Nat.le_add_right _ _
    · exact Nat.le_refl _
    · exact Nat.le_add_right _ _
  exact I2.fpOk hle (I2.hok.fresh hle)
end DZ
namespace DL
open PySem PySem.Spec PyProof.Rows L2 DR
def zipT : List D → List D → List D
  | a :: r, b :: s => .tup [a, b] :: zipT r s
  | _, _ => []
def lZip (a b : Env → T D) : Env → T (List D) := fun ρ => (a ρ).bind fun x => (b ρ).bind fun y => (seqT x).bind fun xs => (seqT y).bind fun ys => match decide (xs.length ≤ capD) with | true => .ret (zipT xs ys) | false => .fail
theorem pairs_reps {c : Ct} {P : Addr → Prop} {H2 H3 : Hp} {n : Nat} {p : Addr} {ws : List V} (o : Ok c P H2 n) (hp : H2 p = none) (hp3 : H3 p = some (.lst ws)) (ext : ∀ a w, H2 a = some w → H3 a = some w) :
    ∀ {ts : List Addr} {xs ys : List V} {ds es : List D}, Reps c (Msk P H2) xs ds → Reps c (Msk P H2) ys es → ts.length = min xs.length ys.length → DZ.PairsAt H2 H3 xs ys ts → Reps c (Msk (fun a => P a ∨ a = p) H3) (ts.map V.ref) (zipT ds es) := by
  have sub : Sub (Msk P H2) (Msk (fun a => P a ∨ a = p) H3) := fun a w h => by
    obtain ⟨h1, h2⟩ := msk_some.mp h
    exact msk_some.mpr ⟨fun z => z.elim h1 (ne_of_none h2 hp), ext a w h2⟩
  intro ts
  induction ts with
  | nil =>
    intro xs ys ds es r1 r2 hl _
    cases r1 with
    | nil => exact .nil
    | cons _ _ =>
      cases r2 with
      | nil => exact .nil
      | cons _ _ => simp only [List.length_nil, List.length_cons] at hl; omega
  | cons t ts ih =>
    intro xs ys ds es r1 r2 hl pa
    obtain ⟨x, y, ob, k1, k2, k3, k4, k5⟩ := pa 0 t rfl
    cases r1 with
    | nil => cases k1
    | cons rx r1 =>
      cases r2 with
      | nil => cases k2
      | cons ry r2 =>
        cases k1
        cases k2
        have nt : t ≠ p := fun z => by rw [z, hp3] at k4; cases k4
        refine .cons (.tup (.inl ⟨ob, k3, msk_some.mpr ⟨fun z => z.elim (o.np k5) nt, k4⟩⟩) (.cons (rx.sub sub) (.cons (ry.sub sub) .nil))) (ih r1 r2 ?_ fun j t' h => ?_)
        · simp only [List.length_cons] at hl
          omega
        · exact pa (j + 1) t' h
theorem el_lz {c : Ct} {te tf : TE} {F G : Env → T D} (h : EvX c te F) (h' : EvX c tf G) : EvL c (DZ.tLz c.K te tf) (lZip F G) := fun σ H P ρ n R o er ok Q q =>
  h σ H P ρ n _ o er (T.ok_bind.mp ok) _ fun x H1 d n1 ok1 e1 o1 rx => h' σ H1 P ρ n1 _ o1 (er.exu o.pu e1) (T.ok_bind.mp ok1) _ fun y H2 d2 n2 ok2 e2 o2 ry => by
    obtain ⟨ds, hs, ok3⟩ := seqT_ok (T.ok_bind.mp ok2)
    obtain ⟨es, hs', r⟩ := seqT_ok (T.ok_bind.mp ok3)
    split at r
    · rename_i hb
      have hb := of_decide_eq_true hb
      have rx2 := rx.exu o1.pu e2
      obtain ⟨k, a, xs, rfl, h1, h2⟩ := rx2.seqK hs
      obtain ⟨k', b, ys, rfl, h3, h4⟩ := ry.seqK hs'
      have l1 := h2.length
      refine ⟨k, a, xs, k', b, ys, rfl, rfl, h1 H2 (ExU.refl _ _) o.pu, h3 H2 (ExU.refl _ _) o.pu, ?_, fun p H3 ts hp hp3 hl ext pa => ?_⟩
      · have : capD = 100000 := rfl
        omega
      · obtain ⟨u1, u2, u3, w1, w2⟩ := o2.urn
        exact q p _ H3 _ n2 r (e1.trans (e2.trans fun a w _ e => ext a w e)) ⟨⟨u1, u2, u3, ext _ _ w1, w2⟩, o2.pu, fun a ha => by
          cases z : H2 a with
          | none => exact absurd z (o2.dom a ha)
          | some w => rw [ext a w z]; simp⟩ ((e1.trans e2).free (o2.nu hp) hp) hp3 (pairs_reps o2 hp hp3 ext h2 h4 hl pa)
    · exact r.elim
/-- urn, below -/
def F__law_take : List D → T D
  | [.urn, .int m] => .take m (fun r => .ret (.int r))
  | _ => .fail
end DL
end

section
set_option maxRecDepth 100000
set_option maxHeartbeats 4000000
/-! DLn: the rules with the written part told (a block's context must not stand in a reading). -/
namespace DL
open PySem PySem.Spec PyProof.Rows L2 DR
section
variable {X : Cx} (K : PySem.W.Frag) (P : Program) (w : World)
theorem op_addK (h : X.K = K) : OpR X (binaryOp .Add) (rAddD K) := by subst h; exact op_addD
theorem op_eqK (h : X.K = K) (hu : X.A.units + 64 < cLine) : OpR X (compareOp .Eq) (rEqA K) := by subst h; exact op_eqA hu
theorem op_neK (h : X.K = K) (hu : X.A.units + 64 < cLine) : OpR X (compareOp .NotEq) (rNeA K) := by subst h; exact op_neA hu
theorem op_inK (h : X.K = K) : OpR X (compareOp .In) (rIn K false) := by subst h; exact op_in_seq
theorem op_ninK (h : X.K = K) : OpR X (compareOp .NotIn) (rIn K true) := by subst h; exact op_notIn_seq
theorem ix_K (h : X.K = K) : IxR X (rIx K) := by subst h; exact ix_seq
theorem sl_K (h : X.K = K) : L2.SlR X (rSlD K) := by subst h; exact sl_D
theorem call_lenK (h : X.K = K) : CallR X (.builtin "len") (fun xs H Q => ∃ x n, xs = [x] ∧ LenV K x H n ∧ Q (.int n) H) := by subst h; exact call_len
theorem cr_sumK (h : X.K = K) (hc : X.calm = true) : CallR X (.builtin "sum") (rSum K) := by subst h; exact cr_sum hc
theorem cr_maxK (h : X.K = K) (hc : X.calm = true) : CallR X (.builtin "max") (rMax K) := by subst h; exact cr_max hc
theorem cr_minKq (h : X.K = K) (hc : X.calm = true) : CallR X (.builtin "min") (rMin K) := by subst h; exact cr_min hc
theorem cr_allK (h : X.K = K) (hc : X.calm = true) : CallR X (.builtin "all") (rAll K) := by subst h; exact cr_all hc
theorem cr_anyK (h : X.K = K) (hc : X.calm = true) : CallR X (.builtin "any") (rAny K) := by subst h; exact cr_any hc
theorem call_listK (h : X.K = K) : CallR X (.type "list") (fun xs H Q => ∃ p ys, xs = [.ref p] ∧ (SqL K H p ys ∨ SqT K H p ys) ∧ ∀ l, H l = none → Q (.ref l) (upd H l (.lst ys))) := by subst h; exact call_list_of
theorem cr_setK (h : X.K = K) (hp : X.prog = P) (hw : X.w = w) (hc : X.calm = true) : CallR X (.type "set") (DS.rSetL K P w) := by subst h hp hw; exact DS.cr_setL hc
theorem cr_sortK (h : X.K = K) (hu : X.A.units + 66 < cLine) : CallR X (.builtin "sorted") (DS.rSortL K) := by subst h; exact DS.cr_sortL hu
theorem cr_sortSetK (hp : X.prog = P) (hw : X.w = w) (hc : X.calm = true) (hu : X.A.units + 66 < cLine) : CallR X (.builtin "sorted") (DS.rSortSetL P w) := by subst hp hw; exact DS.cr_sortSetL hc hu
theorem cr_lenSetK (hp : X.prog = P) (hw : X.w = w) : CallR X (.builtin "len") (DS.rLenSetL P w) := by subst hp hw; exact DS.cr_lenSetL
theorem call_isiKq (h : X.K = K) : CallR X (.builtin "isinstance") (rIsi K) := by subst h; exact call_isi
theorem call_isiTK (h : X.K = K) : CallR X (.builtin "isinstance") (rIsiT K) := by subst h; exact call_isiT
theorem pe_tupleK (h : X.K = K) {a : Expr} {ta : TE} {p pos : Pos} (hg : Gl X "tuple") (hm : X.mg "tuple" = none) (ha : PE X a ta) (na : starEach [a] X.env = (false, eval a X.env) :: starEach [] X.env := by rfl) :
    PE X (.Call (.Name "tuple" p) [a] [] pos) (tThen ta (kTupN K)) := by subst h; exact pe_tupleN hg hm ha na
theorem pa_starK (h : X.K = K) {e : Expr} {es : List Expr} {te : TE} {t : TA} {p : Pos} (he : PE X e te) (hr : PA X es t) (hs : starEach (.Starred e p :: es) X.env = (true, eval e X.env) :: starEach es X.env := by rfl) : PA X (.Starred e p :: es) (StX.tStar K te t) := by subst h; exact StX.pa_star he hr hs
theorem pg_tupK (h0 : X.K = K) {es : List Expr} {k : Nat} {t : TGs} {n : Nat} {pos : Pos} (hc : X.calm = true) (h : PGs X es t)
    (hn : (assignEach es X.env).length = n := by rfl) (hst : (assignEach es X.env).findIdx? (·.1) = none := by rfl) : PG X (.Tuple es k pos) (gTup K n t) := by subst h0; exact pg_tup hc h hn hst
theorem pg_lstK (h0 : X.K = K) {es : List Expr} {k : Nat} {t : TGs} {n : Nat} {pos : Pos} (hc : X.calm = true) (h : PGs X es t)
    (hn : (assignEach es X.env).length = n := by rfl) (hst : (assignEach es X.env).findIdx? (·.1) = none := by rfl) : PG X (.Tuple es k pos) (gLst K n t) := by subst h0; exact pg_lst hc h hn hst
theorem pi_sqK (h : X.K = K) {tg e : Expr} {te : TE} (he : PE X e te) : PI X tg e (iSq K te) := by subst h; exact pi_sq he
theorem pi_zpK (h : X.K = K) {e e2 : Expr} {te tf : TE} {p pos tpos : Pos} {elts : List Expr} {kk : Nat} (hg : Gl X "zip") (hm : X.mg "zip" = none) (he : PE X e te) (he2 : PE X e2 tf)
    (hs : starEach [e, e2] X.env = (false, eval e X.env) :: starEach [e2] X.env := by rfl) (hs2 : starEach [e2] X.env = (false, eval e2 X.env) :: starEach [] X.env := by rfl) (hpl : (backTo pos (starEach [e2] X.env)).any (·.1) = false := by rfl) :
    PI X (.Tuple elts kk tpos) (.Call (.Name "zip" p) [e, e2] [] pos) (iZp K te tf) := by subst h; exact pi_zp hg hm he he2 hs hs2 hpl
theorem pe_cntK (h : X.K = K) {o e : Expr} {to te : TE} {apos cpos : Pos} (hu : X.A.units + 2 < cLine) (ho : PE X o to) (he : PE X e te)
    (hbase : attributeBase o "count" X.env (eval o X.env) = eval o X.env := by rfl)
    (hfew : ((backTo cpos (starEach [e] X.env)).all (fun x => !x.1) && (backToKw cpos (keywordEach [] X.env)).all (fun x => x.1.isSome)
      && decide ([e].length + ([] : List Keyword).length + (if ([] : List Keyword).isEmpty then 0 else 1) < 30)) = true := by rfl)
    (hline : (apos.endLine == cpos.line) = true := by rfl) (hs : starEach [e] X.env = (false, eval e X.env) :: starEach [] X.env := by rfl) :
    PE X (.Call (.Attribute o "count" apos) [e] [] cpos) (tCnt K to te) := by subst h; exact pe_cnt hu ho he hbase hfew hline hs
theorem pe_slK (h : X.K = K) {e : Expr} {f : Str} {pos : Pos} {ta : TE} (he : PE X e ta) (hb : attributeBase e f X.env (eval e X.env) = eval e X.env := by rfl) : PE X (.Attribute e f pos) (SlX.tSl K ta f) := by subst h; exact SlX.pe_sl he hb
theorem pe_lzK (h : X.K = K) {e e2 : Expr} {te tf : TE} {p p2 pos pos2 : Pos} (hc : X.calm = true) (hgl : Gl X "list") (hml : X.mg "list" = none) (hg : Gl X "zip") (hm : X.mg "zip" = none) (he : PE X e te) (he2 : PE X e2 tf)
    (hs : starEach [e, e2] X.env = (false, eval e X.env) :: starEach [e2] X.env := by rfl) (hs2 : starEach [e2] X.env = (false, eval e2 X.env) :: starEach [] X.env := by rfl) (hpl : (backTo pos2 (starEach [e2] X.env)).any (·.1) = false := by rfl)
    (ho : starEach [.Call (.Name "zip" p2) [e, e2] [] pos2] X.env = (false, eval (.Call (.Name "zip" p2) [e, e2] [] pos2) X.env) :: starEach [] X.env := by rfl) :
    PE X (.Call (.Name "list" p) [.Call (.Name "zip" p2) [e, e2] [] pos2] [] pos) (DZ.tLz K te tf) := by subst h; exact DZ.pe_lz hc hgl hml hg hm he he2 hs hs2 hpl ho
theorem pi_enK (h : X.K = K) {e : Expr} {te : TE} {p pos tpos : Pos} {elts : List Expr} {kk : Nat} (hg : Gl X "enumerate") (hm : X.mg "enumerate" = none) (he : PE X e te)
    (na : starEach [e] X.env = (false, eval e X.env) :: starEach [] X.env := by rfl) :
    PI X (.Tuple elts kk tpos) (.Call (.Name "enumerate" p) [e] [] pos) (iEn K te 0) := by subst h; exact pi_en hg hm he na
end
end DL
end

section
set_option maxRecDepth 100000
set_option maxHeartbeats 4000000
/-! DTk: a draw. -/
namespace DL
open PySem PySem.Spec PyProof.Rows L2 DR
theorem take_inv {K : PySem.W.Frag} {cls : Nat → Addr} {vs : List V} {H : Hp} {Q : VK} {E : XK} (h : spF K cls F__law_take vs H Q E) :
    ∃ (u : Addr) (m a b e : Int) (n : Nat), vs = [.ref u, .int m] ∧ 0 < m ∧ m < 1073741824 ∧ n < 2 ^ 50 ∧ H u = some (.lst [.int a, .int b, .int e]) ∧ 0 ≤ a ∧ 0 ≤ b ∧ b < 2 ^ 62 ∧ 0 ≤ e ∧ e ≤ n ∧
      ∀ (r a' e' : Int), 0 ≤ r → r < m → 0 ≤ a' → 0 ≤ e' → e' ≤ e + 1 → Q (.int r) (upd H u (.lst [.int a', .int b, .int e'])) := by
  obtain ⟨u, me, P, n, ds, R, o, rs, ok, q⟩ := h
  unfold F__law_take at ok
  split at ok
  · rename_i m
    obtain ⟨h1, h2, h3, h4⟩ := ok
    cases rs with
    | cons r1 t =>
      cases t with
      | cons r2 t =>
        cases t
        cases r1
        cases r2
        obtain ⟨a, b, e, k1, k2, k3, k4, k5, k6⟩ := o.urn
        refine ⟨u, m, a, b, e, n, rfl, h1, h2, h3, k1, k2, k3, k4, k5, k6, fun r a' e' g1 g2 g3 g4 g5 => ?_⟩
        have ex : ExU u H (upd H u (.lst [.int a', .int b, .int e'])) := fun x w hx hw => by rw [upd_ne hx]; exact hw
        refine q _ _ (.int r) (n + 1) (h4 r g1 g2) ex ⟨⟨a', b, e', upd_same, g3, k3, k4, g4, by omega⟩, o.pu, fun x hx => ?_⟩ (.int r)
        by_cases z : x = u
        · rw [z, upd_same]; simp
        · rw [upd_ne z]; exact o.dom x hx
  · exact ok.elim
theorem take_len {K : PySem.W.Frag} {cls : Nat → Addr} {vs : List V} {H : Hp} {Q : VK} {E : XK} (h : spF K cls F__law_take vs H Q E) : vs.length = 2 := by
  obtain ⟨u, m, a, b, e, n, rfl, _⟩ := take_inv h
  rfl
def tTake (K : PySem.W.Frag) : TS := (tSeq (tIfS (tTest (tOp (rI0 fun i j => V.bl (decide (j < i))) (tOp (rIxL K) (tVar 0) (tC (V.int 0))) (tC (V.int 0)))) (tSeq (tAsg (tOp (rI (fun x j => 0 < j) fun i j => V.int (i % j)) (tCB (fun xs H Q => (∃ i, xs = [V.int i] ∧ Q (V.int i) H) ∨ ∃ k, xs = [V.bl k] ∧ Q (V.int (if k = true then 1 else 0)) H) (tCons (tOp (rIxL K) (tVar 0) (tC (V.int 0))) tNil)) (tVar 1)) (gName 2)) (tSeq (tAsg (tOp (rI CDiv fun i j => V.int (i / j)) (tOp (rIxL K) (tVar 0) (tC (V.int 0))) (tVar 1)) (gSub (tVar 0) (tC (V.int 0)) rSetL)) (tRet (tVar 2)))) tNext) (tSeq (tAsg (tOp (rI0 fun i j => V.int (i + j)) (tOp (rIxL K) (tVar 0) (tC (V.int 2))) (tC (V.int 1))) (gSub (tVar 0) (tC (V.int 2)) rSetL)) (tSeq (tAsg (tOp (rI (fun x j => 0 < j) fun i j => V.int (i % j)) (tCB (fun xs H Q => (∃ i, xs = [V.int i] ∧ Q (V.int i) H) ∨ ∃ k, xs = [V.bl k] ∧ Q (V.int (if k = true then 1 else 0)) H) (tCons (tOp (rI CMul fun i j => V.int (i * j)) (tOp (rI0 fun i j => V.int (i + j)) (tOp (rIxL K) (tVar 0) (tC (V.int 1))) (tOp (rI CMul fun i j => V.int (i * j)) (tC (V.int 48271)) (tOp (rIxL K) (tVar 0) (tC (V.int 2))))) (tOp (rI0 fun i j => V.int (i + j)) (tC (V.int 39373)) (tOp (rIxL K) (tVar 0) (tC (V.int 2))))) tNil)) (tC (V.int 2147483647))) (gName 3)) (tSeq (tAsg (tOp (rI0 fun i j => V.int (i + j)) (tOp (rI (fun x j => 0 < j) fun i j => V.int (i % j)) (tCB (fun xs H Q => (∃ i, xs = [V.int i] ∧ Q (V.int i) H) ∨ ∃ k, xs = [V.bl k] ∧ Q (V.int (if k = true then 1 else 0)) H) (tCons (tVar 3) tNil)) (tC (V.int 40009))) (tC (V.int 7))) (gName 4)) (tSeq (tAsg (tOp (rI (fun x j => 0 < j) fun i j => V.int (i % j)) (tCB (fun xs H Q => (∃ i, xs = [V.int i] ∧ Q (V.int i) H) ∨ ∃ k, xs = [V.bl k] ∧ Q (V.int (if k = true then 1 else 0)) H) (tCons (tOp (rI CMul fun i j => V.int (i * j)) (tOp (rI0 fun i j => V.int (i + j)) (tOp (rI0 fun i j => V.int (i + j)) (tVar 3) (tOp (rIxL K) (tVar 0) (tC (V.int 2)))) (tOp (rI CDiv fun i j => V.int (i / j)) (tOp (rIxL K) (tVar 0) (tC (V.int 1))) (tC (V.int 1000003)))) (tVar 4)) tNil)) (tC (V.int 2147483629))) (gName 5)) (tRet (tOp (rI (fun x j => 0 < j) fun i j => V.int (i % j)) (tCB (fun xs H Q => (∃ i, xs = [V.int i] ∧ Q (V.int i) H) ∨ ∃ k, xs = [V.bl k] ∧ Q (V.int (if k = true then 1 else 0)) H) (tCons (tOp (rI CDiv fun i j => V.int (i / j)) (tOp (rI (fun x j => 0 < j) fun i j => V.int (i % j)) (tCB (fun xs H Q => (∃ i, xs = [V.int i] ∧ Q (V.int i) H) ∨ ∃ k, xs = [V.bl k] ∧ Q (V.int (if k = true then 1 else 0)) H) (tCons (tOp (rI0 fun i j => V.int (i + j)) (tOp (rI CMul fun i j => V.int (i * j)) (tVar 5) (tC (V.int 48271))) (tVar 3)) tNil)) (tC (V.int 2147483587))) (tC (V.int 64))) tNil)) (tVar 1))))))))
section
variable {K : PySem.W.Frag} {σ : L2.St} {H : Hp} {Q : VK} {u : Addr} {a b e : Int}
theorem ix0 (h : σ[0]? = some (some (.ref u))) (hH : H u = some (.lst [.int a, .int b, .int e])) (q : Q (.int a) H) : (tOp (rIxL K) (tVar 0) (tC (V.int 0))) σ H Q := ⟨.ref u, h, u, _, 0, .int a, rfl, rfl, SqL.of hH, rfl, q⟩
theorem ix1 (h : σ[0]? = some (some (.ref u))) (hH : H u = some (.lst [.int a, .int b, .int e])) (q : Q (.int b) H) : (tOp (rIxL K) (tVar 0) (tC (V.int 1))) σ H Q := ⟨.ref u, h, u, _, 1, .int b, rfl, rfl, SqL.of hH, rfl, q⟩
theorem ix2 (h : σ[0]? = some (some (.ref u))) (hH : H u = some (.lst [.int a, .int b, .int e])) (q : Q (.int e) H) : (tOp (rIxL K) (tVar 0) (tC (V.int 2))) σ H Q := ⟨.ref u, h, u, _, 2, .int e, rfl, rfl, SqL.of hH, rfl, q⟩
end
theorem take_run {K : PySem.W.Frag} {cls : Nat → Addr} {vs : List V} {H : Hp} {Q : VK} {E : XK} (h : spF K cls F__law_take vs H Q E) : tTake K { nx := fun _ H' => Q .non H', rt := Q } (L2.start ["urn", "below", "drawn", "once", "far", "twice"] vs) H := by
  obtain ⟨u, m, a, b, e, n, rfl, hm, hm2, hn, hH, ha, hb, hb2, he, hen, q⟩ := take_inv h
  refine ix0 rfl hH ⟨a, 0, rfl, rfl, decide (0 < a), rfl, ?_⟩
  refine ite2 (fun _ => ?_) (fun _ => ?_)
  · refine ix0 rfl hH (.inl ⟨a, rfl, .int m, rfl, a, m, rfl, rfl, hm, ?_⟩)
    refine ix0 rfl hH ⟨.int m, rfl, a, m, rfl, rfl, ⟨hm, hm2⟩, .ref u, rfl, u, _, 0, 0, rfl, rfl, hH, rfl, ?_⟩
    exact ⟨.int (a % m), rfl, q (a % m) (a / m) e (Int.emod_nonneg a (by omega)) (Int.emod_lt_of_pos a hm) (Int.ediv_nonneg ha (by omega)) he (by omega)⟩
  · refine ix2 rfl hH ⟨e, 1, rfl, rfl, .ref u, rfl, u, _, 2, 2, rfl, rfl, hH, rfl, ?_⟩
    have hH1 : (upd H u (.lst ([V.int a, .int b, .int e].set 2 (.int (e + 1))))) u = some (.lst [V.int a, .int b, .int (e + 1)]) := upd_same
    refine ix1 rfl hH1 (ix2 rfl hH1 ⟨_, _, rfl, rfl, .inl ⟨by decide, by decide⟩, _, _, rfl, rfl, ix2 rfl hH1 ⟨_, _, rfl, rfl, _, _, rfl, rfl, .inr ⟨by omega, by omega⟩, .inl ⟨_, rfl, _, _, rfl, rfl, (show (0 : Int) < 2147483647 by decide), ?_⟩⟩⟩)
    dsimp only
    generalize ho : (b + 48271 * (e + 1)) * (39373 + (e + 1)) % 2147483647 = once
    have o1 : 0 ≤ once := by rw [← ho]; exact Int.emod_nonneg _ (by decide)
    have o2 : once < 2147483647 := by rw [← ho]; exact Int.emod_lt_of_pos _ (by decide)
    refine ⟨.int once, rfl, .inl ⟨_, rfl, _, _, rfl, rfl, (show (0 : Int) < 40009 by decide), _, _, rfl, rfl, ?_⟩⟩
    dsimp only
    generalize hf : once % 40009 + 7 = far
    have f1 : 7 ≤ far := by have := Int.emod_nonneg once (show (40009 : Int) ≠ 0 by decide); omega
    have f2 : far < 40016 := by have := Int.emod_lt_of_pos once (show (0 : Int) < 40009 by decide); omega
    refine ⟨.int once, rfl, ix2 rfl hH1 ⟨_, _, rfl, rfl, ix1 rfl hH1 ⟨_, _, rfl, rfl, (show CDiv _ 1000003 from ⟨by decide, by decide⟩), _, _, rfl, rfl, .int far, rfl, _, _, rfl, rfl, .inr ⟨by omega, by omega⟩, .inl ⟨_, rfl, _, _, rfl, rfl, (show (0 : Int) < 2147483629 by decide), ?_⟩⟩⟩⟩
    dsimp only
    generalize ht : (once + (e + 1) + b / 1000003) * far % 2147483629 = twice
    refine ⟨.int twice, rfl, _, _, rfl, rfl, .inr ⟨by decide, by decide⟩, .int once, rfl, _, _, rfl, rfl, .inl ⟨_, rfl, _, _, rfl, rfl, (show (0 : Int) < 2147483587 by decide), _, _, rfl, rfl, (show CDiv _ 64 from ⟨by decide, by decide⟩), .inl ⟨_, rfl, .int m, rfl, _, _, rfl, rfl, hm, ?_⟩⟩⟩
    exact q _ a (e + 1) (Int.emod_nonneg _ (by omega)) (Int.emod_lt_of_pos _ hm) ha (by omega) (by omega)
end DL
end

section
set_option maxRecDepth 100000
set_option maxHeartbeats 4000000
/-! DTl: the law's head: its cells, its box. -/
namespace DL
open PySem PySem.Spec PyProof.Rows L2 DR
def spCells (K : PySem.W.Frag) : Sp := fun vs H Q _ => ∃ (a : Addr) (ns : List Int), vs = [.ref a, .int 1] ∧ SqL K H a (ns.map V.int) ∧ ns.length ≤ 63 ∧
  ∀ (H' : Hp) (p : Addr) (z : Int), (∀ b o, H b = some o → H' b = some o) → H p = none → H' p = some (.lst [.int z]) → Q (.ref p) H'
/-- B bounds the box's second number -/
def spBox (K : PySem.W.Frag) : Sp := fun vs H Q _ => ∃ (a : Addr) (z : Int), vs = [.ref a, .int 0] ∧ SqL K H a [.int z] ∧
  ∀ (p : Addr) (x y : Int), H p = none → 0 ≤ x → 0 ≤ y → y < 2 ^ 62 → Q (.ref p) (upd H p (.lst [.int x, .int y, .int 0]))
theorem cells_len {K : PySem.W.Frag} {vs : List V} {H : Hp} {Q : VK} {E : XK} (h : spCells K vs H Q E) : vs.length = 2 := by
  obtain ⟨a, ns, rfl, _⟩ := h; rfl
theorem box_len {K : PySem.W.Frag} {vs : List V} {H : Hp} {Q : VK} {E : XK} (h : spBox K vs H Q E) : vs.length = 2 := by
  obtain ⟨a, ns, rfl, _⟩ := h; rfl
def tBox (K : PySem.W.Frag) (c : Int) : TS := (tSeq (tAsg (tIf (tTest (tOp (rI0 fun i j => V.bl (decide (i < j))) (tVar 1) (tCB (fun xs H_1 Q => ∃ x n, xs = [x] ∧ LenV K x H_1 n ∧ Q (V.int ↑n) H_1) (tCons (tVar 0) tNil)))) (tOp (rIxL K) (tVar 0) (tVar 1)) (tC (V.int 0))) (gName 2)) (tRet (tLst (tCons (tOp (rI CMul fun i j => V.int (i * j)) (tCB (fun xs H Q => ∃ i, xs = [V.int i] ∧ Q (V.int (if i < 0 then -i else i)) H) (tCons (tVar 2) tNil)) (tCB (fun xs H Q => (∃ i, xs = [V.int i] ∧ Q (V.int i) H) ∨ ∃ k, xs = [V.bl k] ∧ Q (V.int (if k = true then 1 else 0)) H) (tCons (tOp (rI0 fun i j => V.bl (decide (j ≤ i))) (tCB (fun xs H Q => ∃ i, xs = [V.int i] ∧ Q (V.int (if i < 0 then -i else i)) H) (tCons (tVar 2) tNil)) (tOp (rI CPow fun i j => V.int (i ^ j.toNat)) (tC (V.int 10)) (tC (V.int 18)))) tNil))) (tCons (tOp (rI0 fun i j => V.int (i + j)) (tOp (rI0 fun i j => V.int (i + j)) (tOp (rI (fun x j => 0 < j) fun i j => V.int (i % j)) (tCB (fun xs H Q => (∃ i, xs = [V.int i] ∧ Q (V.int i) H) ∨ ∃ k, xs = [V.bl k] ∧ Q (V.int (if k = true then 1 else 0)) H) (tCons (tVar 2) tNil)) (tC (V.int 2305843009213693951))) (tOp (rI CMul fun i j => V.int (i * j)) (tC (V.int 39373)) (tVar 1))) (tC (V.int c))) (tCons (tC (V.int 0)) tNil))))))
theorem box_run {K : PySem.W.Frag} {c : Int} {vs : List V} {H : Hp} {Q : VK} {E : XK} (h : spBox K vs H Q E) (h1 : 0 ≤ c := by decide) (h2 : c < 2000000000000000000 := by decide) : tBox K c { nx := fun _ H' => Q .non H', rt := Q } (L2.start ["script", "k", "cell"] vs) H := by
  obtain ⟨a, z, rfl, hS, q⟩ := h
  refine ⟨.int 0, rfl, .ref a, rfl, .ref a, 1, rfl, .inl ⟨_, hS, rfl⟩, 0, 1, rfl, rfl, decide (0 < 1), rfl, iteT ?_⟩
  refine ⟨.ref a, rfl, .int 0, rfl, a, _, 0, .int z, rfl, rfl, hS, rfl, ?_⟩
  refine ⟨.int z, rfl, z, rfl, .int z, rfl, z, rfl, _, _, rfl, rfl, (show CPow 10 18 from ⟨by decide, by decide, by decide⟩), _, _, rfl, rfl, .inr ⟨_, rfl, _, _, rfl, rfl, .inr ?_, ?_⟩⟩
  · (repeat' split) <;> exact ⟨by decide, by decide⟩
  · refine ⟨.int z, rfl, .inl ⟨z, rfl, _, _, rfl, rfl, (show (0 : Int) < 2305843009213693951 by decide), .int 0, rfl, _, _, rfl, rfl, .inl ⟨by decide, by decide⟩, _, _, rfl, rfl, _, _, rfl, rfl, ?_⟩⟩
    refine ⟨by show 3 ≤ sizeLine; decide, fun p hp => q p _ _ hp ?_ ?_ ?_⟩
    · refine Int.mul_nonneg ?_ ?_
      · split <;> omega
      · (repeat' split) <;> decide
    · have := Int.emod_nonneg z (show (2305843009213693951 : Int) ≠ 0 by decide)
      omega
    · have := Int.emod_lt_of_pos z (show (0 : Int) < 2305843009213693951 by decide)
      omega
def tCells (K : PySem.W.Frag) : TS := (tSeq (tAsg (tOrT K (tCB (fun xs H Q => ∃ p ys, xs = [V.ref p] ∧ (SqL K H p ys ∨ SqT K H p ys) ∧ ∀ l, H l = none → Q (V.ref l) (upd H l (.lst ys))) (tCons (L2.tSl (rSlL K) (tVar 0) tNoPart (tPart (tVar 1))) tNil)) (tLst (tCons (tC (V.int 0)) tNil))) (gName 2)) (tSeq (tFor (iEn K (L2.tSl (rSlL K) (tVar 0) (tPart (tVar 1)) (tPart (tC (V.int 63)))) 0) (gTup K 2 (gCons (gName 3) (gCons (gName 4) gNil))) (tSeq (tAsg (tOp (rI (fun x j => 0 < j) fun i j => V.int (i % j)) (tCB (fun xs H Q => (∃ i, xs = [V.int i] ∧ Q (V.int i) H) ∨ ∃ k, xs = [V.bl k] ∧ Q (V.int (if k = true then 1 else 0)) H) (tCons (tVar 3) tNil)) (tVar 1)) (gName 5)) (tAsg (tOp (rI0 fun i j => V.int (i + j)) (tOp (rIxL K) (tVar 2) (tVar 5)) (tOp (rI CMul fun i j => V.int (i * j)) (tVar 4) (tOp (rI0 fun i j => V.int (i + j)) (tVar 3) (tC (V.int 2))))) (gSub (tVar 2) (tVar 5) rSetL)))) (tRet (tVar 2))))
theorem cut1 (ns : List Int) : cutV (ns.map V.int) none (some 1) = (ns.take 1).map V.int := by
  unfold cutV
  rw [show HT.sIx (ns.map V.int).length (ns.map V.int).length (some 1) = min 1 (ns.map V.int).length from HT.sIx_nat _ _ 1, HT.sIx_none]
  cases ns with
  | nil => rfl
  | cons x r => simp
theorem cutAny (ns : List Int) (lo hi : Option Int) : ∃ ms : List Int, cutV (ns.map V.int) lo hi = ms.map V.int := by
  unfold cutV
  rw [← List.map_drop, ← List.map_take]
  exact ⟨_, rfl⟩
theorem cells_run {K : PySem.W.Frag} {vs : List V} {H : Hp} {Q : VK} {E : XK} (h : spCells K vs H Q E) : tCells K { nx := fun _ H' => Q .non H', rt := Q } (L2.start ["script", "many", "cells", "k", "cell", "at"] vs) H := by
  obtain ⟨a, ns, rfl, hS, hl, q⟩ := h
  -- behind cells = ..
  have rest : ∀ (H1 : Hp) (p : Addr) (z : Int), (∀ b o, H b = some o → H1 b = some o) → H p = none → H1 p = some (.lst [.int z]) →
      (tSeq (tFor (iEn K (L2.tSl (rSlL K) (tVar 0) (tPart (tVar 1)) (tPart (tC (V.int 63)))) 0) (gTup K 2 (gCons (gName 3) (gCons (gName 4) gNil))) (tSeq (tAsg (tOp (rI (fun x j => 0 < j) fun i j => V.int (i % j)) (tCB (fun xs H Q => (∃ i, xs = [V.int i] ∧ Q (V.int i) H) ∨ ∃ k, xs = [V.bl k] ∧ Q (V.int (if k = true then 1 else 0)) H) (tCons (tVar 3) tNil)) (tVar 1)) (gName 5)) (tAsg (tOp (rI0 fun i j => V.int (i + j)) (tOp (rIxL K) (tVar 2) (tVar 5)) (tOp (rI CMul fun i j => V.int (i * j)) (tVar 4) (tOp (rI0 fun i j => V.int (i + j)) (tVar 3) (tC (V.int 2))))) (gSub (tVar 2) (tVar 5) rSetL)))) (tRet (tVar 2))) { nx := fun _ H' => Q .non H', rt := Q } [some (.ref a), some (.int 1), some (.ref p), none, none, none] H1 := by
    intro H1 p z k1 hp h1
    have kS : ∀ H2 : Hp, (∀ b o, H b = some o → H2 b = some o) → SqL K H2 a (ns.map V.int) := fun H2 k => by
      rcases hS with (h | ⟨o, h⟩) | h
      · exact .inl (.inl (k _ _ h))
      · exact .inl (.inr ⟨o, k _ _ h⟩)
      · exact .inr h
    obtain ⟨ms, hms⟩ := cutAny ns (some 1) (some 63)
    refine ⟨.ref a, rfl, .int 1, rfl, 1, rfl, 63, rfl, a, _, rfl, kS H1 k1, fun c hc => ?_⟩
    rw [hms]
    have nc : c ≠ p := fun e => by rw [e, h1] at hc; cases hc
    refine ⟨false, c, ms.map V.int, rfl, SqL.of upd_same, ?_⟩
    have W : Walk (ItE K false c (ms.map V.int) 0) (ms.map V.int).length (fun G => SqL K G c (ms.map V.int)) (fun i G v G' => ∃ T m, v = .ref T ∧ G T = none ∧ G' = upd G T (.tup [.int (0 + (i : Int)), .int m])) :=
      ⟨fun i G hi hG => ⟨hi, hG⟩, fun G hG => ⟨Nat.le_refl _, hG⟩, fun i G v G' hi hG hy => by
        obtain ⟨T, x, e1, e2, e3, e4⟩ := hy
        obtain ⟨m, _, em⟩ := List.mem_map.mp (List.mem_of_getElem? e4)
        exact ⟨T, m, e1, e2, by rw [e3, ← em]⟩⟩
    refine for_it W (fun i σ G => ∃ z' y3 y4 y5, σ = [some (.ref a), some (.int 1), some (.ref p), y3, y4, y5] ∧ G p = some (.lst [.int z']) ∧ G c = some (.lst (ms.map V.int)) ∧ ∀ b o, H b = some o → G b = some o) ?_ (fun i σ G _ hv => ?_) (fun i v σ G G' hi hv hy => ?_) (fun σ G hv => ?_)
    · exact ⟨z, none, none, none, rfl, by rw [upd_ne (Ne.symm nc)]; exact h1, upd_same, fun b o e => by rw [upd_ne (ne_of_none (k1 b o e) hc)]; exact k1 b o e⟩
    · obtain ⟨z', y3, y4, y5, rfl, g1, g2, g3⟩ := hv
      exact SqL.of g2
    · obtain ⟨z', y3, y4, y5, rfl, g1, g2, g3⟩ := hv
      obtain ⟨T, m, rfl, hT, rfl⟩ := hy
      have nTp : p ≠ T := ne_of_none g1 hT
      have nTc : c ≠ T := ne_of_none g2 hT
      refine ⟨T, _, rfl, .inl (.inl upd_same), rfl, _, _, rfl, _, _, rfl, rfl, ?_⟩
      refine ⟨.int (0 + (i : Int)), rfl, .inl ⟨_, rfl, .int 1, rfl, _, _, rfl, rfl, (show (0 : Int) < 1 by decide), ?_⟩⟩
      have e0 : (0 + (i : Int)) % 1 = 0 := Int.emod_one _
      dsimp only
      rw [e0]
      have gp : (upd G T (.tup [V.int (0 + (i : Int)), V.int m])) p = some (.lst [.int z']) := by rw [upd_ne nTp]; exact g1
      refine ⟨.ref p, rfl, .int 0, rfl, p, _, 0, .int z', rfl, rfl, SqL.of gp, rfl, ?_⟩
      have hi' : i < 1000000 := by
        have h3 : (cutV (ns.map V.int) (some 1) (some 63)).length ≤ (ns.map V.int).length := cutV_length _ _ _
        rw [hms, List.length_map, List.length_map] at h3
        rw [List.length_map] at hi
        omega
      refine ⟨.int m, rfl, .int (0 + (i : Int)), rfl, _, _, rfl, rfl, _, _, rfl, rfl, .inr ⟨by omega, by omega⟩, _, _, rfl, rfl, ?_⟩
      refine ⟨.ref p, rfl, .int 0, rfl, p, _, 0, 0, rfl, rfl, gp, rfl, ?_⟩
      refine ⟨_, _, _, _, rfl, upd_same, by rw [upd_ne nc, upd_ne nTc]; exact g2, fun b o e => ?_⟩
      have nb : b ≠ p := fun x => by rw [x, hp] at e; cases e
      rw [upd_ne nb, upd_ne (ne_of_none (g3 b o e) hT)]
      exact g3 b o e
    · obtain ⟨z', y3, y4, y5, rfl, g1, g2, g3⟩ := hv
      exact ⟨.ref p, rfl, q G p z' g3 hp g1⟩
  refine ⟨.ref a, rfl, .int 1, rfl, 1, rfl, a, _, rfl, hS, fun c hc => ?_⟩
  rw [cut1]
  refine ⟨c, _, rfl, .inl (SqL.of upd_same), fun p hp => ?_⟩
  have e1 : ∀ b o, H b = some o → upd H c (.lst ((ns.take 1).map V.int)) b = some o := fun b o e => by rw [upd_ne (ne_of_none e hc)]; exact e
  have npc : p ≠ c := fun e => by rw [e, upd_same] at hp; cases hp
  have hpH : H p = none := by rw [upd_ne npc] at hp; exact hp
  have e2 : ∀ b o, H b = some o → upd (upd H c (.lst ((ns.take 1).map V.int))) p (.lst ((ns.take 1).map V.int)) b = some o := fun b o e => by rw [upd_ne (ne_of_none (e1 b o e) hp)]; exact e1 b o e
  refine ⟨_, .inl ⟨_, SqL.of upd_same, rfl⟩, ?_⟩
  cases ns with
  | nil =>
    refine iteF ⟨by show 1 ≤ sizeLine; decide, fun r hr => ?_⟩
    refine rest _ r 0 (fun b o e => ?_) ?_ upd_same
    · rw [upd_ne (ne_of_none (e2 b o e) hr)]; exact e2 b o e
    · cases q' : H r with
      | none => rfl
      | some o => rw [e2 r o q'] at hr; cases hr
  | cons n0 r0 => exact iteT (rest _ p n0 e2 hpH upd_same)
/-! ### the law -/
def spLaw (K : PySem.W.Frag) : Sp := fun vs H Q _ => ∃ (a : Addr) (ns : List Int), vs = [.ref a] ∧ SqL K H a (ns.map V.int) ∧ ns.length ≤ 63 ∧ ∀ H', Q (.bl true) H'
theorem law_len {K : PySem.W.Frag} {vs : List V} {H : Hp} {Q : VK} {E : XK} (h : spLaw K vs H Q E) : vs.length = 1 := by
  obtain ⟨a, ns, rfl, _⟩ := h; rfl
/-- all ways of the law's rest say True -/
def Says (B : Env → T Out) (m : Nat) : Prop := (B (.no :: .val .urn :: List.replicate m .no)).ok 0 fun o _ => o = .rt (.bl true)
theorem law_run {K : PySem.W.Frag} {cls : Nat → Addr} {x0 x1 : Str} {N : List Str} {t : TS} {B : Env → T Out} {vs : List V} {H : Hp} {Q : VK} {E : XK} (hB : ∀ u me, EvS ⟨K, u, cls, me⟩ t B) (ok : Says B N.length) (h : spLaw K vs H Q E) :
    (tSeq (tAsg (tCall (spBox K) [] C8.E0 (tCons (tCall (spCells K) [] C8.E0 (tCons (tVar 0) (tCons (tC (.int 1)) tNil))) (tCons (tC (.int 0)) tNil))) (gName 1)) t) { nx := fun _ H' => Q .non H', rt := Q } (L2.start (x0 :: x1 :: N) vs) H := by
  obtain ⟨a, ns, rfl, hS, hl, q⟩ := h
  refine ⟨.ref a, rfl, a, ns, rfl, hS, hl, fun H1 p z k1 hp h1 => ?_⟩
  refine ⟨p, z, rfl, SqL.of h1, fun u x y hu hx hy hy2 => ?_⟩
  have o : Ok ⟨K, u, cls, 0⟩ (fun b => b = u) (upd H1 u (.lst [.int x, .int y, .int 0])) 0 := ⟨⟨x, y, 0, upd_same, hx, hy, hy2, Int.le_refl _, Int.le_refl _⟩, rfl, fun b hb => by rw [hb, upd_same]; simp⟩
  refine hB u 0 (fun b => b = u) (fun b => b = u) _ (upd H1 u (.lst [.int x, .int y, .int 0])) _ (.no :: .val .urn :: List.replicate N.length .no) 0 _ (sr_start o ⟨?_, fun i s hs => ?_⟩ (fun i d hd => ?_) rfl) ?_
  · show (_ : Nat) = (List.length _)
    unfold L2.start
    simp
  · match i with
    | 0 => cases hs; trivial
    | 1 => cases hs; exact ⟨.ref u, rfl, .urn⟩
    | i + 2 =>
      have hs' : (List.replicate N.length Slot.no)[i]? = some s := hs
      rw [List.getElem?_replicate] at hs'
      split at hs'
      · cases hs'; trivial
      · cases hs'
  · match i with
    | 0 => cases hd
    | 1 => cases hd
    | i + 2 =>
      have hs' : (List.replicate N.length Slot.no)[i]? = some (.own d) := hd
      rw [List.getElem?_replicate] at hs'
      split at hs' <;> cases hs'
  · refine T.ok_mono ok fun o k ho => ?_
    subst ho
    exact fun v H' _ _ r => by cases r; exact q H'
end DL
end

section
set_option maxRecDepth 100000
set_option maxHeartbeats 4000000
/-! DEnd: what the top has written, from facts that k_is shows. -/
namespace DL
open PySem PySem.Spec PyProof.Rows L2 DR
section
variable {K : PySem.W.Frag} {mg : Str → Option Value} {h : Heap} {oc kV doc pm cdv ct : Value} {od an : Option Addr} {osl : Array (Option Value)}
theorem defW_mk {x : Str} {st : Stmt} {ps : List Str} {f : Addr} (X : K.In h) (G : h.Ns mainGlobals mg) (a : PySem.W.nsIn K mainGlobals x = some (some (.ref f)))
    (l : K.lookup f = some ⟨oc, od, .func (PySem.W.fnOf x x (C8.fnArgs st) (C8.fnBody st) (C8.fnScope st) .none kV doc pm an cdv ct), osl⟩) (c : PySem.W.codeIn K cdv x = true) (k : PySem.W.keepIn K (.ref f) = true)
    (hb : ∀ us : List Value, us.length = ps.length → bindArgs (PySem.W.fnOf x x (C8.fnArgs st) (C8.fnBody st) (C8.fnScope st) .none kV doc pm an cdv ct) ⟨us, []⟩ = pure (ps.zip us)) : DefW K mg x st ps :=
  ⟨f, _, ⟨⟨oc, od, .none, kV, doc, pm, an, cdv, ct, osl, rfl, l, c⟩, PySem.W.mg_of X G a, k⟩, .all hb⟩
theorem prW_mk {x qual : Str} {C : Addr} {st : Stmt} {p g : Addr} {rest : List Value} (h1 : PySem.W.findIn K (.ref C) x = some (some (.ref p))) (h2 : PySem.W.specialIn K (.ref p) "__get__" = some (some (.builtin "property.__get__"))) (h3 : PySem.W.takesIn K (.ref p) = some true)
    (h4 : PySem.W.recIn K p "property" = some (.ref g :: rest)) (l : K.lookup g = some ⟨oc, od, .func (PySem.W.fnOf x qual (C8.fnArgs st) (C8.fnBody st) (C8.fnScope st) .none kV doc pm an cdv ct), osl⟩) (c : PySem.W.codeIn K cdv qual = true)
    (hb : ∀ us : List Value, us.length = 1 → bindArgs (PySem.W.fnOf x qual (C8.fnArgs st) (C8.fnBody st) (C8.fnScope st) .none kV doc pm an cdv ct) ⟨us, []⟩ = pure ([("self" : Str)].zip us)) : PrW K C x qual st :=
  ⟨p, g, _, h1, h2, h3, ⟨rest, h4⟩, ⟨oc, od, .none, kV, doc, pm, an, cdv, ct, osl, rfl, l, c⟩, .all hb⟩
theorem mkW_mk {x qual : Str} {C : Addr} {st : Stmt} {ps : List Str} {f : Addr} (X : K.In h) (G : h.Ns mainGlobals mg) (a : PySem.W.nsIn K mainGlobals x = some (some (.ref C))) (m : PySem.W.makesIn K C = true) (i : PySem.W.findIn K (.ref C) "__init__" = some (some (.ref f)))
    (fn : PySem.W.isFn K (.ref f) = true) (k : PySem.W.keepIn K (.ref C) = true) (l : K.lookup f = some ⟨oc, od, .func (PySem.W.fnOf "__init__" qual (C8.fnArgs st) (C8.fnBody st) (C8.fnScope st) .none kV doc pm an cdv ct), osl⟩) (c : PySem.W.codeIn K cdv qual = true)
    (hb : ∀ us : List Value, us.length = ps.length → bindArgs (PySem.W.fnOf "__init__" qual (C8.fnArgs st) (C8.fnBody st) (C8.fnScope st) .none kV doc pm an cdv ct) ⟨us, []⟩ = pure (ps.zip us)) : MkW K mg C x qual st ps :=
  ⟨f, _, ⟨m, i, fn, k⟩, PySem.W.mg_of X G a, ⟨oc, od, .none, kV, doc, pm, an, cdv, ct, osl, rfl, l, c⟩, .all hb⟩
/-- .. whose __init__ has a default -/
theorem mkW_mkD {x qual : Str} {C : Addr} {st : Stmt} {ps : List Str} {f T : Addr} {cT : Value} {dT : Option Addr} {its : List Value} {mT : Nat} {slT : Array (Option Value)} (X : K.In h) (G : h.Ns mainGlobals mg) (a : PySem.W.nsIn K mainGlobals x = some (some (.ref C))) (m : PySem.W.makesIn K C = true) (i : PySem.W.findIn K (.ref C) "__init__" = some (some (.ref f)))
    (fn : PySem.W.isFn K (.ref f) = true) (k : PySem.W.keepIn K (.ref C) = true) (l : K.lookup f = some ⟨oc, od, .func (PySem.W.fnOf "__init__" qual (C8.fnArgs st) (C8.fnBody st) (C8.fnScope st) (.ref T) kV doc pm an cdv ct), osl⟩) (c : PySem.W.codeIn K cdv qual = true)
    (lT : K.lookup T = some ⟨cT, dT, .seq its.toArray mT, slT⟩)
    (hb : ∀ us : List Value, us.length = ps.length → ∃ k, bindArgs (PySem.W.fnOf "__init__" qual (C8.fnArgs st) (C8.fnBody st) (C8.fnScope st) (.ref T) kV doc pm an cdv ct) ⟨us, []⟩ = seqItems? (.ref T) >>= k ∧ k (some its.toArray) = pure (ps.zip us)) : MkW K mg C x qual st ps :=
  ⟨f, _, ⟨m, i, fn, k⟩, PySem.W.mg_of X G a, ⟨oc, od, .ref T, kV, doc, pm, an, cdv, ct, osl, rfl, l, c⟩, fun s us X' hlen => by
    rw [List.append_nil] at hlen ⊢
    obtain ⟨kk, e1, e2⟩ := hb us hlen
    refine BindsTo.of_looks fun M => ?_
    rw [e1]
    exact looks_items X' lT rfl (.of_pure e2)⟩
theorem fld_mk {C p : Addr} {f : Str} {j : Nat} (sc : SlX.SCls K C) (h1 : PySem.W.findIn K (.ref C) f = some (some (.ref p))) (h2 : PySem.W.specialIn K (.ref p) "__get__" = some (some (.builtin "member_descriptor.__get__"))) (h3 : PySem.W.takesIn K (.ref p) = some true)
    (h4 : PySem.W.typeIn K (.ref p) = some (.type "member_descriptor")) (h5 : PySem.W.slotIn K p C = some j) (lt : j < 1000 := by decide) : Fld K C f j := ⟨sc, p, h1, h2, h3, h4, h5, lt⟩
theorem glW_str {x z : Str} {t : Tok} (X : K.In h) (G : h.Ns mainGlobals mg) (a : PySem.W.nsIn K mainGlobals x = some (some (.str z t))) : GlW K mg x (.str z) (.str z) := ⟨⟨_, PySem.W.mg_of X G a, t, rfl⟩, fun _ _ _ => .str _⟩
theorem glW_strs {x : Str} {T : Addr} {o : Obj} {zs : List Str} {its : List Value} {n : Nat} (X : K.In h) (G : h.Ns mainGlobals mg) (a : PySem.W.nsIn K mainGlobals x = some (some (.ref T))) (l : K.lookup T = some o) (hd : o.dict = none) (hc : o.cls = .type "tuple") (hz : o.data = .seq its.toArray n)
    (hl : its.length ≤ sizeLine) (hv : Vals (zs.map V.str) its) : GlW K mg x (.ref T) (.tup (zs.map D.str)) :=
  ⟨⟨_, PySem.W.mg_of X G a, rfl⟩, fun c hK G' => by
    subst hK
    refine .tup (.inr ⟨o, its.toArray, n, hd, l, hc, hz, by simp only [List.size_toArray]; exact hl, hv⟩) ?_
    clear hv hl hz
    induction zs with
    | nil => exact .nil
    | cons z zs ih => exact .cons (.str z) ih⟩
end
end DL
end

section
set_option maxRecDepth 100000
set_option maxHeartbeats 4000000
namespace LW
open PySem PySem.Spec PyProof.Rows L2 DR DL
def topS (i : Nat) : Stmt := PySem.Challenge.pw_heirturns_k80_main_never_worse_for_all_l.main.body.getD i (.Pass ⟨0, 0, 0, 0⟩)
/-- what the top has written -/
structure Ws (K : PySem.W.Frag) (mg : Str → Option Value) (cls : Nat → Addr) : Prop where
  z_abs : mg "abs" = none
  z_all : mg "all" = none
  z_bool : mg "bool" = none
  z_enumerate : mg "enumerate" = none
  z_int : mg "int" = none
  z_isinstance : mg "isinstance" = none
  z_len : mg "len" = none
  z_list : mg "list" = none
  z_max : mg "max" = none
  z_min : mg "min" = none
  z_range : mg "range" = none
  z_set : mg "set" = none
  z_sorted : mg "sorted" = none
  z_str : mg "str" = none
  z_sum : mg "sum" = none
  z_tuple : mg "tuple" = none
  z_zip : mg "zip" = none
  g_HEIRS_turns : ∃ v, GlW K mg "HEIRS_turns" v (.tup [(.str (PySem.Str.ofString "a")), (.str (PySem.Str.ofString "b"))])
  g_HERS : ∃ v, GlW K mg "HERS" v (.str (PySem.Str.ofString "a"))
  d__law_of : DefW K mg "_law_of" (topS 54) ["urn", "some"]
  d__law_heirs : DefW K mg "_law_heirs" (topS 56) ["urn", "size"]
  d_tupled : DefW K mg "tupled" (topS 10) ["value"]
  d_joined_runs : DefW K mg "joined_runs" (topS 25) ["runs"]
  d_ends_of : DefW K mg "ends_of" (topS 26) ["runs"]
  m_Turns : MkW K mg (cls 0) "Turns" "Turns.__init__" ((C8.clsBody (topS 24)).getD 1 (.Pass ⟨0, 0, 0, 0⟩)) ["self", "runs"]
  s_Turns : SlX.SCls K (cls 0)
  d_turns_of : DefW K mg "turns_of" (topS 32) ["heirs_told"]
  d__law_orders : DefW K mg "_law_orders" (topS 61) ["things"]
  d__law_list : DefW K mg "_law_list" (topS 57) ["urn", "things"]
  d__law_plain : DefW K mg "_law_plain" (topS 58) ["whose", "hers", "his"]
  d__law_share : DefW K mg "_law_share" (topS 59) ["whose", "taken_so", "heir"]
  d__law_places : DefW K mg "_law_places" (topS 62) ["order", "share"]
  d__law_worse : DefW K mg "_law_worse" (topS 64) ["order", "near", "far"]
  d__law_same : DefW K mg "_law_same" (topS 55) ["got", "due"]
  p_Turns_size : PrW K (cls 0) "size" "Turns.size" ((C8.clsBody (topS 24)).getD 4 (.Pass ⟨0, 0, 0, 0⟩))
  d_set_of : DefW K mg "set_of" (topS 9) ["some"]
  d_check_lists : DefW K mg "check_lists" (topS 37) ["turns", "hers", "his"]
  p_Turns_runs : PrW K (cls 0) "runs" "Turns.runs" ((C8.clsBody (topS 24)).getD 3 (.Pass ⟨0, 0, 0, 0⟩))
  d_heirs : DefW K mg "heirs" (topS 31) ["turns"]
  d_first_of : DefW K mg "first_of" (topS 38) ["order", "left"]
  d_taken : DefW K mg "taken" (topS 39) ["turns", "hers", "his"]
  d_check_size : DefW K mg "check_size" (topS 33) ["one", "other"]
  d_shares : DefW K mg "shares" (topS 40) ["turns", "hers", "his"]
  d_worse_at : DefW K mg "worse_at" (topS 47) ["one", "other", "hers", "his"]
  d__law_above : DefW K mg "_law_above" (topS 63) ["one", "other"]
  d_begins : DefW K mg "begins" (topS 42) ["turns"]
  p_Turns_hers : PrW K (cls 0) "hers" "Turns.hers" ((C8.clsBody (topS 24)).getD 5 (.Pass ⟨0, 0, 0, 0⟩))
  p_Turns_ends : PrW K (cls 0) "ends" "Turns.ends" ((C8.clsBody (topS 24)).getD 7 (.Pass ⟨0, 0, 0, 0⟩))
  d_place_of : DefW K mg "place_of" (topS 28) ["turns", "heir", "which"]
  d_turn_of : DefW K mg "turn_of" (topS 29) ["turns", "which"]
  d_ways_later : DefW K mg "ways_later" (topS 43) ["one", "other"]
  d_against : DefW K mg "against" (topS 45) ["one", "other"]
  d_never_worse : DefW K mg "never_worse" (topS 44) ["one", "other"]
  d_corners : DefW K mg "corners" (topS 34) ["one", "other"]
  d_ahead : DefW K mg "ahead" (topS 27) ["turns", "number"]
  d_is_above : DefW K mg "is_above" (topS 49) ["one", "other"]
  d__law_turns : DefW K mg "_law_turns" (topS 60) ["whose", "heir"]
  d_swapped : DefW K mg "swapped" (topS 30) ["turns"]
  d_most_worse : DefW K mg "most_worse" (topS 46) ["one", "other"]
  d__law_box : DefW K mg "_law_box" (topS 51) ["script", "k"]
  d__law_cells : DefW K mg "_law_cells" (topS 53) ["script", "many"]
  d__law_take : DefW K mg "_law_take" (topS 52) ["urn", "below"]
  fl_own_ends : Fld K (cls 0) "own_ends" 0
  fl_own_runs : Fld K (cls 0) "own_runs" 1

abbrev st__law_take : Stmt := topS 52
abbrev N__law_take : List Str := ["urn", "below", "drawn", "once", "far", "twice"]
theorem sc__law_take : FnScope N__law_take ["urn", "below"] (C8.fnScope st__law_take) := C8.fnScope_by (by decide +kernel)
theorem c__law_take {P : Program} {w : World} {K : PySem.W.Frag} {mg : Str → Option Value} {base : Heap} {cls : Nat → Addr} (W : Ws K mg cls) : C8.Cal P w K mg base 3 "_law_take" (spF K cls F__law_take) [] := by
  obtain ⟨f, fd, F, b⟩ := W.d__law_take
  refine C8.cal0 (N := N__law_take) (k := 2) F b .nil sc__law_take (fun vs H Q E h => take_len h) fun cdv A outer s H vs Q E hr h => ?_
  have nd : N__law_take.Nodup := sc__law_take.nd
  refine ⟨_, (pss_cons (ps_if (pt_cmpR op_gt (pe_ix ix_list (pv 0) pe_int (fun _ _ => rfl)) pe_int (nomark _)) (pss_cons (ps_set (i := 2) nd rfl (Or.inl rfl) (pe_op op_mod (pe_callTy call_int1 (by rfl) W.z_int bt_int (pa_cons (pe_ix ix_list (pv 0) pe_int (fun _ _ => rfl)) pa_nil)) (pv 1))) (pss_cons (ps_asg (pe_op op_fdiv (pe_ix ix_list (pv 0) pe_int (fun _ _ => rfl)) (pv 1)) (pg_sub (pv 0) pe_int set_list)) (pss_one (ps_ret (pv 2))))) pss_nil) (pss_cons (ps_asg (pe_op op_add (pe_ix ix_list (pv 0) pe_int (fun _ _ => rfl)) pe_int) (pg_sub (pv 0) pe_int set_list)) (pss_cons (ps_set (i := 3) nd rfl (Or.inl rfl) (pe_op op_mod (pe_callTy call_int1 (by rfl) W.z_int bt_int (pa_cons (pe_op op_mul (pe_op op_add (pe_ix ix_list (pv 0) pe_int (fun _ _ => rfl)) (pe_op op_mul pe_int (pe_ix ix_list (pv 0) pe_int (fun _ _ => rfl)))) (pe_op op_add pe_int (pe_ix ix_list (pv 0) pe_int (fun _ _ => rfl)))) pa_nil)) pe_int)) (pss_cons (ps_set (i := 4) nd rfl (Or.inl rfl) (pe_op op_add (pe_op op_mod (pe_callTy call_int1 (by rfl) W.z_int bt_int (pa_cons (pv 3) pa_nil)) pe_int) pe_int)) (pss_cons (ps_set (i := 5) nd rfl (Or.inl rfl) (pe_op op_mod (pe_callTy call_int1 (by rfl) W.z_int bt_int (pa_cons (pe_op op_mul (pe_op op_add (pe_op op_add (pv 3) (pe_ix ix_list (pv 0) pe_int (fun _ _ => rfl))) (pe_op op_fdiv (pe_ix ix_list (pv 0) pe_int (fun _ _ => rfl)) pe_int)) (pv 4)) pa_nil)) pe_int)) (pss_one (ps_ret (pe_op op_mod (pe_callTy call_int1 (by rfl) W.z_int bt_int (pa_cons (pe_op op_fdiv (pe_op op_mod (pe_callTy call_int1 (by rfl) W.z_int bt_int (pa_cons (pe_op op_add (pe_op op_mul (pv 5) pe_int) (pv 3)) pa_nil)) pe_int) pe_int) pa_nil)) (pv 1))))))))), ?_⟩
  exact take_run h

abbrev st__law_cells : Stmt := topS 53
abbrev N__law_cells : List Str := ["script", "many", "cells", "k", "cell", "at"]
theorem sc__law_cells : FnScope N__law_cells ["script", "many"] (C8.fnScope st__law_cells) := C8.fnScope_by (by decide +kernel)
theorem c__law_cells {P : Program} {w : World} {K : PySem.W.Frag} {mg : Str → Option Value} {base : Heap} {cls : Nat → Addr} (W : Ws K mg cls) : C8.Cal P w K mg base 3 "_law_cells" (spCells K) [] := by
  obtain ⟨f, fd, F, b⟩ := W.d__law_cells
  refine C8.cal0 (N := N__law_cells) (k := 2) F b .nil sc__law_cells (fun vs H Q E h => cells_len h) fun cdv A outer s H vs Q E hr h => ?_
  have nd : N__law_cells.Nodup := sc__law_cells.nd
  refine ⟨_, (pss_cons (ps_set (i := 2) nd rfl (Or.inl rfl) (pe_orT (pe_callTy call_list_of (by rfl) W.z_list bt_list (pa_cons (pe_slice sl_list (pv 0) po_none (po_some (pv 1))) pa_nil)) (pe_one (pe_lst (pa_cons pe_int pa_nil))))) (pss_cons (ps_for PassesOwn.never rfl (DR.pi_en (by rfl) W.z_enumerate (pe_slice sl_list (pv 0) (po_some (pv 1)) (po_some pe_int))) (pg_tup (n := 2) rfl (pgs_cons (pg_name (i := 3) nd rfl (Or.inl rfl) (Or.inr rfl)) (pgs_cons (pg_name (i := 4) nd rfl (Or.inl rfl) (Or.inr rfl)) pgs_nil))) (pss_cons (ps_set (i := 5) nd rfl (Or.inl rfl) (pe_op op_mod (pe_callTy call_int1 (by rfl) W.z_int bt_int (pa_cons (pv 3) pa_nil)) (pv 1))) (pss_one (ps_asg (pe_op op_add (pe_ix ix_list (pv 2) (pv 5) (fun _ _ => rfl)) (pe_op op_mul (pv 4) (pe_op op_add (pv 3) pe_int))) (pg_sub (pv 2) (pv 5) set_list))))) (pss_one (ps_ret (pv 2))))), ?_⟩
  exact cells_run h

abbrev st__law_box : Stmt := topS 51
abbrev N__law_box : List Str := ["script", "k", "cell"]
theorem sc__law_box : FnScope N__law_box ["script", "k"] (C8.fnScope st__law_box) := C8.fnScope_by (by decide +kernel)
theorem c__law_box {P : Program} {w : World} {K : PySem.W.Frag} {mg : Str → Option Value} {base : Heap} {cls : Nat → Addr} (W : Ws K mg cls) : C8.Cal P w K mg base 3 "_law_box" (spBox K) [] := by
  obtain ⟨f, fd, F, b⟩ := W.d__law_box
  refine C8.cal0 (N := N__law_box) (k := 2) F b .nil sc__law_box (fun vs H Q E h => box_len h) fun cdv A outer s H vs Q E hr h => ?_
  have nd : N__law_box.Nodup := sc__law_box.nd
  refine ⟨_, (pss_cons (ps_set (i := 2) nd rfl (Or.inl rfl) (pe_ifExp (pt_cmpR op_lt (pv 1) (pe_callB call_len (by rfl) W.z_len bt_len (pa_cons (pv 0) pa_nil)) (nomark _)) (pe_ix ix_list (pv 0) (pv 1) (fun _ _ => rfl)) pe_int)) (pss_one (ps_ret (pe_lst (pa_cons (pe_op op_mul (pe_callB call_abs (by rfl) W.z_abs bt_abs (pa_cons (pv 2) pa_nil)) (pe_callTy call_int1 (by rfl) W.z_int bt_int (pa_cons (pe_cmpR op_ge (pe_callB call_abs (by rfl) W.z_abs bt_abs (pa_cons (pv 2) pa_nil)) (pe_op op_pow pe_int pe_int) (nomark _)) pa_nil))) (pa_cons (pe_op op_add (pe_op op_add (pe_op op_mod (pe_callTy call_int1 (by rfl) W.z_int bt_int (pa_cons (pv 2) pa_nil)) pe_int) (pe_op op_mul pe_int (pv 1))) pe_int) (pa_cons pe_int pa_nil))))))), ?_⟩
  exact box_run h

abbrev st__law_of : Stmt := topS 54
abbrev N__law_of : List Str := ["urn", "some"]
theorem sc__law_of : FnScope N__law_of ["urn", "some"] (C8.fnScope st__law_of) := C8.fnScope_by (by decide +kernel)
def B__law_of : DL.Env → T Out := (sRet (fOp ixD (fVar 1) (aFn F__law_take (aCons (fVar 0) (aCons (fFn lenD (fVar 1)) aNil)))))
def F__law_of : List D → T D := runDef 2 0 B__law_of
theorem c__law_of {P : Program} {w : World} {K : PySem.W.Frag} {mg : Str → Option Value} {base : Heap} {cls : Nat → Addr} (W : Ws K mg cls) : C8.Cal P w K mg base 4 "_law_of" (spF K cls F__law_of) [] := by
  refine def_of (N := N__law_of) (k := 3) W.d__law_of sc__law_of fun fa cdv A outer s H E hr => ?_
  have nd : N__law_of.Nodup := sc__law_of.nd
  refine ⟨_, (pss_one (ps_ret (pe_ix (ix_K K rfl) (pv 1) (C8.pe_c (c__law_take W) hr (by decide) (by rfl) (pa_cons (pv 0) (pa_cons (pe_callB (call_lenK K rfl) (by rfl) W.z_len bt_len (pa_cons (pv 1) pa_nil)) pa_nil))) (fun _ _ => rfl)))), ?_⟩
  exact fun u me => (es_ret (ev_op rop_ix (ev_var).x ((ev_call (ea_cons ev_var (ea_cons (ev_fn rb_len (ev_var).x) ea_nil)))).x))

abbrev st__law_heirs : Stmt := topS 56
abbrev N__law_heirs : List Str := ["urn", "size", "turn"]
theorem sc__law_heirs : FnScope N__law_heirs ["urn", "size"] (C8.fnScope st__law_heirs) := C8.fnScope_by (by decide +kernel)
def B__law_heirs : DL.Env → T Out := (sRet (fFn tupOfD (fOfL (fComp (iRange1 (aCons (fVar 1) aNil)) (gSet 2) fYes (aFn F__law_of (aCons (fVar 0) (aCons (fOfL (fLst (aCons (fC (.str (PySem.Str.ofString "a"))) (aCons (fC (.str (PySem.Str.ofString "b"))) aNil)))) aNil))) [2]))))
def F__law_heirs : List D → T D := runDef 2 1 B__law_heirs
theorem c__law_heirs {P : Program} {w : World} {K : PySem.W.Frag} {mg : Str → Option Value} {base : Heap} {cls : Nat → Addr} (W : Ws K mg cls) : C8.Cal P w K mg base 5 "_law_heirs" (spF K cls F__law_heirs) [] := by
  refine def_of (N := N__law_heirs) (k := 4) W.d__law_heirs sc__law_heirs fun fa cdv A outer s H E hr => ?_
  have nd : N__law_heirs.Nodup := sc__law_heirs.nd
  refine ⟨_, (pss_one (ps_ret (pe_tupleK K rfl (by rfl) W.z_tuple (pe_lc (by rfl) nd (pi_range1 (by rfl) W.z_range (pa_cons (pv 1) pa_nil)) (blkOk_by (N := N__law_heirs) (sc := C8.fnScope st__law_heirs) (own := [("turn", 2)]) (by decide +kernel)) (fun _ _ _ _ _ => (pg_name (i := 2) nd rfl (Or.inl rfl) (Or.inr rfl))) (fun _ _ _ _ _ => pts_nil) (fun _ _ _ _ _ => (C8.pe_c (c__law_of W) hr (by decide) (by rfl) (pa_cons (pv 0) (pa_cons (pe_lst (pa_cons pe_str (pa_cons pe_str pa_nil))) pa_nil)))))))), ?_⟩
  exact fun u me => (es_ret (ev_then rb_tup ((ev_lst (el_comp ((ei_rg1 (ea_cons ev_var ea_nil))).x eg_name et_yes (ev_call (ea_cons ev_var (ea_cons (ev_lst (el_lst (ea_cons (ev_c fun _ => .str _) (ea_cons (ev_c fun _ => .str _) ea_nil)))) ea_nil))) (by decide)))).x))

abbrev st_tupled : Stmt := topS 10
abbrev N_tupled : List Str := ["value", "part"]
theorem sc_tupled : FnScope N_tupled ["value"] (C8.fnScope st_tupled) := C8.fnScope_by (by decide +kernel)
def B_tupled (rec : List D → T D) : DL.Env → T Out := (sRet (fIf (fTest (fFn (isiD ["list", "tuple"]) (fVar 0))) (fFn tupOfD (fOfL (fComp (iSeq (fVar 0)) (gSet 1) fYes (aFn rec (aCons (fVar 1) aNil)) [1]))) (fVar 0)))
def F_tupled : Nat → List D → T D
  | 0 => runDef 1 1 sNever
  | d + 1 => runDef 1 1 (B_tupled (F_tupled d))
theorem c_tupled {P : Program} {w : World} {K : PySem.W.Frag} {mg : Str → Option Value} {base : Heap} {cls : Nat → Addr} (W : Ws K mg cls) : ∀ d : Nat, C8.Cal P w K mg base (d + 1) "tupled" (spF K cls (F_tupled d)) []
  | 0 => def_of (N := N_tupled) (k := 0) (B := sNever) W.d_tupled sc_tupled fun fa cdv A outer s H E hr => ⟨_, pss_never, fun u me => es_never⟩
  | d + 1 => by
    have hrec := c_tupled (P := P) (w := w) (base := base) W d
    refine def_of (N := N_tupled) (k := d + 1) W.d_tupled sc_tupled fun fa cdv A outer s H E hr => ?_
    have nd : N_tupled.Nodup := sc_tupled.nd
    refine ⟨_, (pss_one (ps_ret (pe_ifExp (pt_val (pe_callB (call_isiTK K rfl) (by rfl) W.z_isinstance bt_isinstance (pa_cons (pv 0) (pa_cons (pe_tup (pa_cons (pe_bltn (v := .ty "list") (by rfl) W.z_list bt_list rfl) (pa_cons (pe_bltn (v := .ty "tuple") (by rfl) W.z_tuple bt_tuple rfl) pa_nil))) pa_nil)))) (pe_tupleK K rfl (by rfl) W.z_tuple (pe_lc (by rfl) nd (pi_sqK K rfl (pv 0)) (blkOk_by (N := N_tupled) (sc := C8.fnScope st_tupled) (own := [("part", 1)]) (by decide +kernel)) (fun _ _ _ _ _ => (pg_name (i := 1) nd rfl (Or.inl rfl) (Or.inr rfl))) (fun _ _ _ _ _ => pts_nil) (fun _ _ _ _ _ => (C8.pe_c hrec hr (Nat.le_refl _) (by rfl) (pa_cons (pv 1) pa_nil))))) (pv 0)))), ?_⟩
    exact fun u me => (es_ret (ev_if (et_B ((ev_isiT (us := ["list", "tuple"]) (isi_ok (by decide)) (by decide) (ev_var).x)).x) (ev_then rb_tup ((ev_lst (el_comp (ei_sqX (ev_var).x) eg_name et_yes (ev_call (ea_cons ev_var ea_nil)) (by decide)))).x) ev_var))

abbrev st_joined_runs : Stmt := topS 25
abbrev N_joined_runs : List Str := ["runs", "found", "heir", "number"]
theorem sc_joined_runs : FnScope N_joined_runs ["runs"] (C8.fnScope st_joined_runs) := C8.fnScope_by (by decide +kernel)
def B_joined_runs : DL.Env → T Out := (sSeq (sSet 1 (fTup aNil)) (sSeq (sFor (iSeq (fVar 0)) (gTupD (gsCons (gSet 2) (gsCons (gSet 3) gsNil))) (sIf (fAnd (fTest (fOp gtD (fFn lenD (fVar 1)) (fC (.int 0)))) (fTest (fOp eqD (fOp ixD (fOp ixD (fVar 1) (fUn negD (fC (.int 1)))) (fC (.int 0))) (fVar 2)))) (sSet 1 (fTup (aStar (fSl (fVar 1) oNo (oSome (fUn negD (fC (.int 1))))) (aCons (fTup (aCons (fVar 2) (aCons (fOp addD (fOp ixD (fOp ixD (fVar 1) (fUn negD (fC (.int 1)))) (fC (.int 1))) (fVar 3)) aNil))) aNil)))) (sSet 1 (fTup (aStar (fVar 1) (aCons (fTup (aCons (fVar 2) (aCons (fVar 3) aNil))) aNil)))))) (sRet (fVar 1))))
def F_joined_runs : List D → T D := runDef 1 3 B_joined_runs
theorem c_joined_runs {P : Program} {w : World} {K : PySem.W.Frag} {mg : Str → Option Value} {base : Heap} {cls : Nat → Addr} (W : Ws K mg cls) : C8.Cal P w K mg base 1 "joined_runs" (spF K cls F_joined_runs) [] := by
  refine def_of (N := N_joined_runs) (k := 0) W.d_joined_runs sc_joined_runs fun fa cdv A outer s H E hr => ?_
  have nd : N_joined_runs.Nodup := sc_joined_runs.nd
  refine ⟨_, (pss_cons (ps_set (i := 1) nd rfl (Or.inl rfl) (pe_tupN pa_nil)) (pss_cons (ps_for PassesOwn.never rfl (pi_sqK K rfl (pv 0)) (pg_tupK (n := 2) K rfl rfl (pgs_cons (pg_name (i := 2) nd rfl (Or.inl rfl) (Or.inr rfl)) (pgs_cons (pg_name (i := 3) nd rfl (Or.inl rfl) (Or.inr rfl)) pgs_nil))) (pss_one (ps_if (PW.pt (pw_and (pt_cmpR op_gt (pe_callB (call_lenK K rfl) (by rfl) W.z_len bt_len (pa_cons (pv 1) pa_nil)) pe_int (nomark _)) (pw_and1 (pt_cmpR (op_eqK K rfl (hu64 hr)) (pe_ix (ix_K K rfl) (pe_ix (ix_K K rfl) (pv 1) (pe_un un_neg pe_int) (fun _ _ => rfl)) pe_int (fun _ _ => rfl)) (pv 2) (nomark _))))) (pss_one (ps_set (i := 1) nd rfl (Or.inl rfl) (pe_tupN (pa_starK K rfl (pe_slice (sl_K K rfl) (pv 1) po_none (po_some (pe_un un_neg pe_int))) (pa_cons (pe_tupN (pa_cons (pv 2) (pa_cons (pe_op (op_addK K rfl) (pe_ix (ix_K K rfl) (pe_ix (ix_K K rfl) (pv 1) (pe_un un_neg pe_int) (fun _ _ => rfl)) pe_int (fun _ _ => rfl)) (pv 3)) pa_nil))) pa_nil))))) (pss_one (ps_set (i := 1) nd rfl (Or.inl rfl) (pe_tupN (pa_starK K rfl (pv 1) (pa_cons (pe_tupN (pa_cons (pv 2) (pa_cons (pv 3) pa_nil))) pa_nil)))))))) (pss_one (ps_ret (pv 1))))), ?_⟩
  exact fun u me => (es_seq (es_set (ev_tup ea_nil)) (es_seq (es_for (ei_sq ev_var) (gs_tup (gs_cons gs_name (gs_cons gs_name gs_nil)) (gs_len (gs_len gs_len0))) (es_if (et_and (et_test (ev_op rop_gt ((ev_fn rb_len (ev_var).x)).x ((ev_c fun _ => .int _)).x).x) (et_test (ev_op rop_eq ((ev_op rop_ix ((ev_op rop_ix (ev_var).x ((ev_un run_neg ((ev_c fun _ => .int _)).x)).x)).x ((ev_c fun _ => .int _)).x)).x (ev_var).x).x)) (es_set (ev_tup (ea_star ((ev_sl (ev_var).x eo_no (eo_some ((ev_un run_neg ((ev_c fun _ => .int _)).x)).x))).x (ea_cons (ev_tup (ea_cons ev_var (ea_cons (ev_op rop_add ((ev_op rop_ix ((ev_op rop_ix (ev_var).x ((ev_un run_neg ((ev_c fun _ => .int _)).x)).x)).x ((ev_c fun _ => .int _)).x)).x (ev_var).x) ea_nil))) ea_nil)))) (es_set (ev_tup (ea_star (ev_var).x (ea_cons (ev_tup (ea_cons ev_var (ea_cons ev_var ea_nil))) ea_nil)))))) (es_ret ev_var)))

abbrev st_ends_of : Stmt := topS 26
abbrev N_ends_of : List Str := ["runs", "place", "heir", "number"]
theorem sc_ends_of : FnScope N_ends_of ["runs"] (C8.fnScope st_ends_of) := C8.fnScope_by (by decide +kernel)
def B_ends_of : DL.Env → T Out := (sRet (fFn tupOfD (fOfL (fComp (iRange1 (aCons (fFn lenD (fVar 0)) aNil)) (gSet 1) fYes (fFn sumD (fOfL (fComp (iSeq (fSl (fVar 0) oNo (oSome (fOp addD (fVar 1) (fC (.int 1)))))) (gTupD (gsCons (gSet 2) (gsCons (gSet 3) gsNil))) fYes (fVar 3) [2, 3]))) [1]))))
def F_ends_of : List D → T D := runDef 1 3 B_ends_of
theorem c_ends_of {P : Program} {w : World} {K : PySem.W.Frag} {mg : Str → Option Value} {base : Heap} {cls : Nat → Addr} (W : Ws K mg cls) : C8.Cal P w K mg base 1 "ends_of" (spF K cls F_ends_of) [] := by
  refine def_of (N := N_ends_of) (k := 0) W.d_ends_of sc_ends_of fun fa cdv A outer s H E hr => ?_
  have nd : N_ends_of.Nodup := sc_ends_of.nd
  refine ⟨_, (pss_one (ps_ret (pe_tupleK K rfl (by rfl) W.z_tuple (pe_lc (by rfl) nd (pi_range1 (by rfl) W.z_range (pa_cons (pe_callB (call_lenK K rfl) (by rfl) W.z_len bt_len (pa_cons (pv 0) pa_nil)) pa_nil)) (blkOk_by (N := N_ends_of) (sc := C8.fnScope st_ends_of) (own := [("place", 1)]) (by decide +kernel)) (fun _ _ _ _ _ => (pg_name (i := 1) nd rfl (Or.inl rfl) (Or.inr rfl))) (fun _ _ _ _ _ => pts_nil) (fun _ _ _ _ _ => (pe_callB (cr_sumK K rfl (by rfl)) (by rfl) W.z_sum bt_sum (pa_cons (pe_lc (by rfl) nd (pi_sqK K rfl (pe_slice (sl_K K rfl) (pv 0) po_none (po_some (pe_op (op_addK K rfl) (pv 1) pe_int)))) (blkOk_by (N := N_ends_of) (sc := ({ kind := PySem.ScopeKind.function, names := [ (PySem.Str.ofString ".0", PySem.NameKind.local), (PySem.Str.ofString "place", PySem.NameKind.local), (PySem.Str.ofString "sum", PySem.NameKind.globalImplicit), (PySem.Str.ofString "runs", PySem.NameKind.cell)], isGenerator := false, isCoroutine := false, more := [] : PySem.Scope })) (own := [("heir", 2), ("number", 3)]) (by decide +kernel)) (fun _ _ _ _ _ => (pg_tupK (n := 2) K rfl rfl (pgs_cons (pg_name (i := 2) nd rfl (Or.inl rfl) (Or.inr rfl)) (pgs_cons (pg_name (i := 3) nd rfl (Or.inl rfl) (Or.inr rfl)) pgs_nil)))) (fun _ _ _ _ _ => pts_nil) (fun _ _ _ _ _ => (pv 3))) pa_nil))))))), ?_⟩
  exact fun u me => (es_ret (ev_then rb_tup ((ev_lst (el_comp ((ei_rg1 (ea_cons (ev_fn rb_len (ev_var).x) ea_nil))).x eg_name et_yes (ev_fn rb_sum ((ev_lst (el_comp (ei_sqX ((ev_sl (ev_var).x eo_no (eo_some ((ev_op rop_add (ev_var).x ((ev_c fun _ => .int _)).x)).x))).x) (eg_tup (eg_cons eg_name (eg_cons eg_name eg_nil)) (gs_len (gs_len gs_len0))) et_yes ev_var (by decide)))).x) (by decide)))).x))

abbrev st_Turns_init : Stmt := (C8.clsBody (topS 24)).getD 1 (.Pass ⟨0, 0, 0, 0⟩)
abbrev N_Turns_init : List Str := ["self", "runs", "rows", "place", "heir", "number"]
theorem sc_Turns_init : FnScope N_Turns_init ["self", "runs"] (C8.fnScope st_Turns_init) := C8.fnScope_by (by decide +kernel)
def B_Turns_init : DL.Env → T (List D) := (nSeq (sSet 2 (aFn (F_tupled 6) (aCons (fVar 1) aNil))) (nSeq (sFor (iEnum (fVar 2)) (gTupD (gsCons (gSet 3) (gsCons (gTupD (gsCons (gSet 4) (gsCons (gSet 5) gsNil))) gsNil))) (sIf (fOr (fTest (fOp ninD (fVar 4) (fC (.tup [(.str (PySem.Str.ofString "a")), (.str (PySem.Str.ofString "b"))])))) (fTest (fOp ltD (fVar 5) (fC (.int 1))))) sNever sNext)) (nTail 2 (jSeq (jFld (kk := 0) 1 (aFn F_joined_runs (aCons (fVar 2) aNil))) (jFld (kk := 0) 0 (aFn F_ends_of (aCons (fFldO 0 0 1) aNil)))))))
def I_Turns_init : List D → T (List D) := runInit 1 4 B_Turns_init
theorem c_Turns_init {P : Program} {w : World} {K : PySem.W.Frag} {mg : Str → Option Value} {base : Heap} {cls : Nat → Addr} (W : Ws K mg cls) : C8.Mak P w K mg base 8 "Turns" (cls 0) (spI K cls 0 I_Turns_init) [] := by
  obtain ⟨v_HEIRS_turns, g_HEIRS_turns⟩ := W.g_HEIRS_turns
  refine mk_of (N := N_Turns_init) (k := 7) (np := 1) W.m_Turns sc_Turns_init rfl fun fa cdv A outer s H E hr => ?_
  have nd : N_Turns_init.Nodup := sc_Turns_init.nd
  refine ⟨_, (pss_cons (ps_set (i := 2) nd rfl (Or.inl rfl) (C8.pe_c (c_tupled W 6) hr (by decide) (by rfl) (pa_cons (pv 1) pa_nil))) (pss_cons (ps_for PassesOwn.never rfl (pi_enK K rfl (by rfl) W.z_enumerate (pv 2)) (pg_tupK (n := 2) K rfl rfl (pgs_cons (pg_name (i := 3) nd rfl (Or.inl rfl) (Or.inr rfl)) (pgs_cons (pg_tupK (n := 2) K rfl rfl (pgs_cons (pg_name (i := 4) nd rfl (Or.inl rfl) (Or.inr rfl)) (pgs_cons (pg_name (i := 5) nd rfl (Or.inl rfl) (Or.inr rfl)) pgs_nil))) pgs_nil))) (pss_one (ps_if (PW.pt (pw_or (pt_cmpR (op_ninK K rfl) (pv 4) (C8.pe_gc (by rfl) g_HEIRS_turns.1) (by with_unfolding_all rfl)) (pw_or1 (pt_cmpR op_lt (pv 5) pe_int (nomark _))))) (pss_one ps_never) pss_nil))) (pss_cons (SlX.ps_sl (pv 0) (C8.pe_c (c_joined_runs W) hr (by decide) (by rfl) (pa_cons (pv 2) pa_nil))) (pss_one (SlX.ps_sl (pv 0) (C8.pe_c (c_ends_of W) hr (by decide) (by rfl) (pa_cons (pe_slK K rfl (pv 0)) pa_nil))))))), ?_⟩
  exact fun u me => (en_seq (es_set (ev_call (ea_cons ev_var ea_nil))) (en_seq (es_for (ei_en ev_var) (gs_tup (gs_cons gs_name (gs_cons (gs_tup (gs_cons gs_name (gs_cons gs_name gs_nil)) (gs_len (gs_len gs_len0))) gs_nil)) (gs_len (gs_len gs_len0))) (es_if (et_or (et_test (ev_op rop_nin (ev_var).x ((ev_c (g_HEIRS_turns.2 _ rfl))).x).x) (et_test (ev_op rop_lt (ev_var).x ((ev_c fun _ => .int _)).x).x)) es_never es_next)) (en_tail (ej_seq (ej_fld W.fl_own_runs (ev_call (ea_cons ev_var ea_nil))) (ej_fld W.fl_own_ends (ev_call (ea_cons (ev_fldO W.fl_own_runs) ea_nil)))))))

abbrev st_turns_of : Stmt := topS 32
abbrev N_turns_of : List Str := ["heirs_told", "heir"]
theorem sc_turns_of : FnScope N_turns_of ["heirs_told"] (C8.fnScope st_turns_of) := C8.fnScope_by (by decide +kernel)
def B_turns_of : DL.Env → T Out := (sRet (fMake 0 (aCons (fOfL (fComp (iSeq (fVar 0)) (gSet 1) fYes (fTup (aCons (fVar 1) (aCons (fC (.int 1)) aNil))) [1])) aNil) I_Turns_init))
def F_turns_of : List D → T D := runDef 1 1 B_turns_of
theorem c_turns_of {P : Program} {w : World} {K : PySem.W.Frag} {mg : Str → Option Value} {base : Heap} {cls : Nat → Addr} (W : Ws K mg cls) : C8.Cal P w K mg base 10 "turns_of" (spF K cls F_turns_of) [] := by
  refine def_of (N := N_turns_of) (k := 9) W.d_turns_of sc_turns_of fun fa cdv A outer s H E hr => ?_
  have nd : N_turns_of.Nodup := sc_turns_of.nd
  refine ⟨_, (pss_one (ps_ret (C8.pe_mk (c_Turns_init W) hr (by decide) (by rfl) (pa_cons (pe_lc (by rfl) nd (pi_sqK K rfl (pv 0)) (blkOk_by (N := N_turns_of) (sc := C8.fnScope st_turns_of) (own := [("heir", 1)]) (by decide +kernel)) (fun _ _ _ _ _ => (pg_name (i := 1) nd rfl (Or.inl rfl) (Or.inr rfl))) (fun _ _ _ _ _ => pts_nil) (fun _ _ _ _ _ => (pe_tupN (pa_cons (pv 1) (pa_cons pe_int pa_nil))))) pa_nil)))), ?_⟩
  exact fun u me => (es_ret (ev_make (ea_cons (ev_lst (el_comp (ei_sqX (ev_var).x) eg_name et_yes (ev_tup (ea_cons ev_var (ea_cons (ev_c fun _ => .int _) ea_nil))) (by decide))) ea_nil)))

abbrev st__law_orders : Stmt := topS 61
abbrev N__law_orders : List Str := ["things", "found", "turn", "longer", "own", "name"]
theorem sc__law_orders : FnScope N__law_orders ["things"] (C8.fnScope st__law_orders) := C8.fnScope_by (by decide +kernel)
def B__law_orders : DL.Env → T Out := (sSeq (sSet 1 (fOfL (fLst (aCons (fTup aNil) aNil)))) (sSeq (sFor (iRange1 (aCons (fFn lenD (fVar 0)) aNil)) (gSet 2) (sSeq (sSet 3 (fOfL (fLst aNil))) (sSeq (sFor (iSeq (fVar 1)) (gSet 4) (sSet 3 (fOp addD (fVar 3) (fOfL (fComp (iSeq (fOfL (lFn sortD (fVar 0)))) (gSet 5) (fTest (fOp ninD (fVar 5) (fVar 4))) (fOp addD (fVar 4) (fTup (aCons (fVar 5) aNil))) [5]))))) (sSet 1 (fVar 3))))) (sRet (fVar 1))))
def F__law_orders : List D → T D := runDef 1 5 B__law_orders
theorem c__law_orders {P : Program} {w : World} {K : PySem.W.Frag} {mg : Str → Option Value} {base : Heap} {cls : Nat → Addr} (W : Ws K mg cls) : C8.Cal P w K mg base 1 "_law_orders" (spF K cls F__law_orders) [] := by
  refine def_of (N := N__law_orders) (k := 0) W.d__law_orders sc__law_orders fun fa cdv A outer s H E hr => ?_
  have nd : N__law_orders.Nodup := sc__law_orders.nd
  refine ⟨_, (pss_cons (ps_set (i := 1) nd rfl (Or.inl rfl) (pe_lst (pa_cons (pe_tupN pa_nil) pa_nil))) (pss_cons (ps_for PassesOwn.never rfl (pi_range1 (by rfl) W.z_range (pa_cons (pe_callB (call_lenK K rfl) (by rfl) W.z_len bt_len (pa_cons (pv 0) pa_nil)) pa_nil)) (pg_name (i := 2) nd rfl (Or.inl rfl) (Or.inr rfl)) (pss_cons (ps_set (i := 3) nd rfl (Or.inl rfl) (pe_lst pa_nil)) (pss_cons (ps_for PassesOwn.never rfl (pi_sqK K rfl (pv 1)) (pg_name (i := 4) nd rfl (Or.inr rfl) (Or.inl rfl)) (pss_one (ps_set (i := 3) nd rfl (Or.inl rfl) (pe_op (op_addK K rfl) (pv 3) (pe_lc (by rfl) nd (pi_sqK K rfl (pe_callB (cr_sortK K rfl (hu66 hr)) (by rfl) W.z_sorted bt_sorted (pa_cons (pv 0) pa_nil))) (blkOk_by (N := N__law_orders) (sc := C8.fnScope st__law_orders) (own := [("name", 5)]) (by decide +kernel)) (fun _ _ _ _ _ => (pg_name (i := 5) nd rfl (Or.inl rfl) (Or.inr rfl))) (fun _ _ _ _ _ => (pts_one (pt_cmpR (op_ninK K rfl) (pv 5) (pv 4) (by with_unfolding_all rfl)))) (fun _ _ _ _ _ => (pe_op (op_addK K rfl) (pv 4) (pe_tupN (pa_cons (pv 5) pa_nil))))))))) (pss_one (ps_set (i := 1) nd rfl (Or.inl rfl) (pv 3)))))) (pss_one (ps_ret (pv 1))))), ?_⟩
  exact fun u me => (es_seq (es_set (ev_lst (el_lst (ea_cons (ev_tup ea_nil) ea_nil)))) (es_seq (es_for (ei_rg1 (ea_cons (ev_fn rb_len (ev_var).x) ea_nil)) gs_name (es_seq (es_set (ev_lst (el_lst ea_nil))) (es_seq (es_for (ei_sq ev_var) gs_name (es_set (ev_op rop_add (ev_var).x ((ev_lst (el_comp (ei_sqX ((ev_lst (el_fn rb_sort (ev_var).x))).x) eg_name (et_test (ev_op rop_nin (ev_var).x (ev_var).x).x) (ev_op rop_add (ev_var).x ((ev_tup (ea_cons ev_var ea_nil))).x) (by decide)))).x))) (es_set ev_var)))) (es_ret ev_var)))

abbrev st__law_list : Stmt := topS 57
abbrev N__law_list : List Str := ["urn", "things", "turn", "left", "found"]
theorem sc__law_list : FnScope N__law_list ["urn", "things"] (C8.fnScope st__law_list) := C8.fnScope_by (by decide +kernel)
def B__law_list : DL.Env → T Out := (sSeq (sParLV 3 4 (lFn listOfD (fVar 1)) (fTup aNil)) (sSeq (sFor (iRange1 (aCons (fFn lenD (fVarX 3)) aNil)) (gSet 2) (sPopCat 4 3 (aFn F__law_take (aCons (fVar 0) (aCons (fFn lenD (fVarX 3)) aNil))))) (sRet (fVar 4))))
def F__law_list : List D → T D := runDef 2 3 B__law_list
theorem c__law_list {P : Program} {w : World} {K : PySem.W.Frag} {mg : Str → Option Value} {base : Heap} {cls : Nat → Addr} (W : Ws K mg cls) : C8.Cal P w K mg base 4 "_law_list" (spF K cls F__law_list) [] := by
  refine def_of (N := N__law_list) (k := 3) W.d__law_list sc__law_list fun fa cdv A outer s H E hr => ?_
  have nd : N__law_list.Nodup := sc__law_list.nd
  refine ⟨_, (pss_cons (ps_par (i := 3) (j := 4) rfl nd rfl rfl (by decide) rfl rfl (pa_cons (pe_callTy (call_listK K rfl) (by rfl) W.z_list bt_list (pa_cons (pv 1) pa_nil)) (pa_cons (pe_tupN pa_nil) pa_nil)) (by rfl)) (pss_cons (ps_for PassesOwn.never rfl (pi_range1 (by rfl) W.z_range (pa_cons (pe_callB (call_lenK K rfl) (by rfl) W.z_len bt_len (pa_cons (pv 3) pa_nil)) pa_nil)) (pg_name (i := 2) nd rfl (Or.inl rfl) (Or.inr rfl)) (pss_one (ps_set (i := 4) nd rfl (Or.inl rfl) (pe_op (op_addK K rfl) (pv 4) (pe_tupN (pa_cons (pe_bm PySem.F.plainAttrs_list PySem.F.slot_list_pop PySem.F.type_list_pop mt_popAt (pv 3) (pa_cons (C8.pe_c (c__law_take W) hr (by decide) (by rfl) (pa_cons (pv 0) (pa_cons (pe_callB (call_lenK K rfl) (by rfl) W.z_len bt_len (pa_cons (pv 3) pa_nil)) pa_nil))) pa_nil)) pa_nil)))))) (pss_one (ps_ret (pv 4))))), ?_⟩
  exact fun u me => (es_seq (es_parLV (el_fn rb_list (ev_var).x) (ev_tup ea_nil)) (es_seq (es_for (ei_rg1 (ea_cons (ev_fn rb_len ev_varX) ea_nil)) gs_name (es_popCat (ev_call (ea_cons ev_var (ea_cons (ev_fn rb_len ev_varX) ea_nil))))) (es_ret ev_var)))

abbrev st__law_plain : Stmt := topS 58
abbrev N__law_plain : List Str := ["whose", "hers", "his", "gone", "heir", "name"]
theorem sc__law_plain : FnScope N__law_plain ["whose", "hers", "his"] (C8.fnScope st__law_plain) := C8.fnScope_by (by decide +kernel)
def B__law_plain : DL.Env → T Out := (sSeq (sSetL 3 (fLst aNil)) (sSeq (sFor (iSeq (fVar 0)) (gSet 4) (sApp 3 (fOp ixD (fOfL (fComp (iSeq (fIf (fTest (fOp eqD (fVar 4) (fC (.str (PySem.Str.ofString "a"))))) (fVar 1) (fVar 2))) (gSet 5) (fTest (fOp ninD (fVar 5) (fVarX 3))) (fVar 5) [5])) (fC (.int 0))))) (sRet (fFn tupOfD (fVar 3)))))
def F__law_plain : List D → T D := runDef 3 3 B__law_plain
theorem c__law_plain {P : Program} {w : World} {K : PySem.W.Frag} {mg : Str → Option Value} {base : Heap} {cls : Nat → Addr} (W : Ws K mg cls) : C8.Cal P w K mg base 1 "_law_plain" (spF K cls F__law_plain) [] := by
  refine def_of (N := N__law_plain) (k := 0) W.d__law_plain sc__law_plain fun fa cdv A outer s H E hr => ?_
  have nd : N__law_plain.Nodup := sc__law_plain.nd
  refine ⟨_, (pss_cons (ps_set (i := 3) nd rfl (Or.inr rfl) (pe_lst pa_nil)) (pss_cons (ps_for PassesOwn.never rfl (pi_sqK K rfl (pv 0)) (pg_name (i := 4) nd rfl (Or.inl rfl) (Or.inr rfl)) (pss_one (ps_expr (pe_bm PySem.F.plainAttrs_list PySem.F.slot_list_append PySem.F.type_list_append mt_append (pv 3) (pa_cons (pe_ix (ix_K K rfl) (pe_lc (by rfl) nd (pi_sqK K rfl (pe_ifExp (pt_cmpR (op_eqK K rfl (hu64 hr)) (pv 4) pe_str (nomark _)) (pv 1) (pv 2))) (blkOk_by (N := N__law_plain) (sc := C8.fnScope st__law_plain) (own := [("name", 5)]) (by decide +kernel)) (fun _ _ _ _ _ => (pg_name (i := 5) nd rfl (Or.inl rfl) (Or.inr rfl))) (fun _ _ _ _ _ => (pts_one (pt_cmpR (op_ninK K rfl) (pv 5) (pv 3) (by with_unfolding_all rfl)))) (fun _ _ _ _ _ => (pv 5))) pe_int (fun _ _ => rfl)) pa_nil))))) (pss_one (ps_ret (pe_tupleK K rfl (by rfl) W.z_tuple (pv 3)))))), ?_⟩
  exact fun u me => (es_seq (es_setL (el_lst ea_nil)) (es_seq (es_for (ei_sq ev_var) gs_name (es_app (ev_op rop_ix ((ev_lst (el_comp (ei_sqX ((ev_if (et_test (ev_op rop_eq (ev_var).x ((ev_c fun _ => .str _)).x).x) ev_var ev_var)).x) eg_name (et_test (ev_op rop_nin (ev_var).x ev_varX).x) ev_var (by decide)))).x ((ev_c fun _ => .int _)).x))) (es_ret (ev_then rb_tup (ev_var).x))))

abbrev st__law_share : Stmt := topS 59
abbrev N__law_share : List Str := ["whose", "taken_so", "heir", "own", "name"]
theorem sc__law_share : FnScope N__law_share ["whose", "taken_so", "heir"] (C8.fnScope st__law_share) := C8.fnScope_by (by decide +kernel)
def B__law_share : DL.Env → T Out := (sRet (fFn tupOfD (fOfL (lFn sortD (fOfL (fComp (iZip (fVar 0) (fVar 1)) (gTupD (gsCons (gSet 3) (gsCons (gSet 4) gsNil))) (fTest (fOp eqD (fVar 3) (fVar 2))) (fVar 4) [3, 4]))))))
def F__law_share : List D → T D := runDef 3 2 B__law_share
theorem c__law_share {P : Program} {w : World} {K : PySem.W.Frag} {mg : Str → Option Value} {base : Heap} {cls : Nat → Addr} (W : Ws K mg cls) : C8.Cal P w K mg base 1 "_law_share" (spF K cls F__law_share) [] := by
  refine def_of (N := N__law_share) (k := 0) W.d__law_share sc__law_share fun fa cdv A outer s H E hr => ?_
  have nd : N__law_share.Nodup := sc__law_share.nd
  refine ⟨_, (pss_one (ps_ret (pe_tupleK K rfl (by rfl) W.z_tuple (pe_callB (cr_sortK K rfl (hu66 hr)) (by rfl) W.z_sorted bt_sorted (pa_cons (pe_lc (by rfl) nd (pi_zpK K rfl (by rfl) W.z_zip (pv 0) (pv 1)) (blkOk_by (N := N__law_share) (sc := C8.fnScope st__law_share) (own := [("own", 3), ("name", 4)]) (by decide +kernel)) (fun _ _ _ _ _ => (pg_tupK (n := 2) K rfl rfl (pgs_cons (pg_name (i := 3) nd rfl (Or.inl rfl) (Or.inr rfl)) (pgs_cons (pg_name (i := 4) nd rfl (Or.inl rfl) (Or.inr rfl)) pgs_nil)))) (fun _ _ _ _ _ => (pts_one (pt_cmpR (op_eqK K rfl (hu64 hr)) (pv 3) (pv 2) (nomark _)))) (fun _ _ _ _ _ => (pv 4))) pa_nil))))), ?_⟩
  exact fun u me => (es_ret (ev_then rb_tup ((ev_lst (el_fn rb_sort ((ev_lst (el_comp (ei_zpX (ev_var).x (ev_var).x) (eg_tup (eg_cons eg_name (eg_cons eg_name eg_nil)) (gs_len (gs_len gs_len0))) (et_test (ev_op rop_eq (ev_var).x (ev_var).x).x) ev_var (by decide)))).x))).x))

abbrev st__law_places : Stmt := topS 62
abbrev N__law_places : List Str := ["order", "share", "place", "name"]
theorem sc__law_places : FnScope N__law_places ["order", "share"] (C8.fnScope st__law_places) := C8.fnScope_by (by decide +kernel)
def B__law_places : DL.Env → T Out := (sRet (fOfL (fComp (iEnum (fVar 0)) (gTupD (gsCons (gSet 2) (gsCons (gSet 3) gsNil))) (fTest (fOp inD (fVar 3) (fVar 1))) (fOp addD (fVar 2) (fC (.int 1))) [2, 3])))
def F__law_places : List D → T D := runDef 2 2 B__law_places
theorem c__law_places {P : Program} {w : World} {K : PySem.W.Frag} {mg : Str → Option Value} {base : Heap} {cls : Nat → Addr} (W : Ws K mg cls) : C8.Cal P w K mg base 1 "_law_places" (spF K cls F__law_places) [] := by
  refine def_of (N := N__law_places) (k := 0) W.d__law_places sc__law_places fun fa cdv A outer s H E hr => ?_
  have nd : N__law_places.Nodup := sc__law_places.nd
  refine ⟨_, (pss_one (ps_ret (pe_lc (by rfl) nd (pi_enK K rfl (by rfl) W.z_enumerate (pv 0)) (blkOk_by (N := N__law_places) (sc := C8.fnScope st__law_places) (own := [("place", 2), ("name", 3)]) (by decide +kernel)) (fun _ _ _ _ _ => (pg_tupK (n := 2) K rfl rfl (pgs_cons (pg_name (i := 2) nd rfl (Or.inl rfl) (Or.inr rfl)) (pgs_cons (pg_name (i := 3) nd rfl (Or.inl rfl) (Or.inr rfl)) pgs_nil)))) (fun _ _ _ _ _ => (pts_one (pt_cmpR (op_inK K rfl) (pv 3) (pv 1) (by with_unfolding_all rfl)))) (fun _ _ _ _ _ => (pe_op (op_addK K rfl) (pv 2) pe_int))))), ?_⟩
  exact fun u me => (es_ret (ev_lst (el_comp (ei_enX (ev_var).x) (eg_tup (eg_cons eg_name (eg_cons eg_name eg_nil)) (gs_len (gs_len gs_len0))) (et_test (ev_op rop_in (ev_var).x (ev_var).x).x) (ev_op rop_add (ev_var).x ((ev_c fun _ => .int _)).x) (by decide))))

abbrev st__law_worse : Stmt := topS 64
abbrev N__law_worse : List Str := ["order", "near", "far", "k", "mine", "yours"]
theorem sc__law_worse : FnScope N__law_worse ["order", "near", "far"] (C8.fnScope st__law_worse) := C8.fnScope_by (by decide +kernel)
def B__law_worse : DL.Env → T Out := (sSeq (sParVV 4 5 (aFn F__law_places (aCons (fVar 0) (aCons (fVar 1) aNil))) (aFn F__law_places (aCons (fVar 0) (aCons (fVar 2) aNil)))) (sSeq (sFor (iRange1 (aCons (fFn lenD (fVar 5)) aNil)) (gSet 3) (sIf (fOr (fTest (fOp geD (fVar 3) (fFn lenD (fVar 4)))) (fTest (fOp gtD (fOp ixD (fVar 4) (fVar 3)) (fOp ixD (fVar 5) (fVar 3))))) (sRet (fOp addD (fVar 3) (fC (.int 1)))) sNext)) (sRet (fC .non))))
def F__law_worse : List D → T D := runDef 3 3 B__law_worse
theorem c__law_worse {P : Program} {w : World} {K : PySem.W.Frag} {mg : Str → Option Value} {base : Heap} {cls : Nat → Addr} (W : Ws K mg cls) : C8.Cal P w K mg base 2 "_law_worse" (spF K cls F__law_worse) [] := by
  refine def_of (N := N__law_worse) (k := 1) W.d__law_worse sc__law_worse fun fa cdv A outer s H E hr => ?_
  have nd : N__law_worse.Nodup := sc__law_worse.nd
  refine ⟨_, (pss_cons (ps_par (i := 4) (j := 5) rfl nd rfl rfl (by decide) rfl rfl (pa_cons (C8.pe_c (c__law_places W) hr (by decide) (by rfl) (pa_cons (pv 0) (pa_cons (pv 1) pa_nil))) (pa_cons (C8.pe_c (c__law_places W) hr (by decide) (by rfl) (pa_cons (pv 0) (pa_cons (pv 2) pa_nil))) pa_nil)) (by rfl)) (pss_cons (ps_for PassesOwn.never rfl (pi_range1 (by rfl) W.z_range (pa_cons (pe_callB (call_lenK K rfl) (by rfl) W.z_len bt_len (pa_cons (pv 5) pa_nil)) pa_nil)) (pg_name (i := 3) nd rfl (Or.inl rfl) (Or.inr rfl)) (pss_one (ps_if (PW.pt (pw_or (pt_cmpR op_ge (pv 3) (pe_callB (call_lenK K rfl) (by rfl) W.z_len bt_len (pa_cons (pv 4) pa_nil)) (nomark _)) (pw_or1 (pt_cmpR op_gt (pe_ix (ix_K K rfl) (pv 4) (pv 3) (fun _ _ => rfl)) (pe_ix (ix_K K rfl) (pv 5) (pv 3) (fun _ _ => rfl)) (nomark _))))) (pss_one (ps_ret (pe_op (op_addK K rfl) (pv 3) pe_int))) pss_nil))) (pss_one (ps_ret pe_non)))), ?_⟩
  exact fun u me => (es_seq (es_parVV (ev_call (ea_cons ev_var (ea_cons ev_var ea_nil))) (ev_call (ea_cons ev_var (ea_cons ev_var ea_nil)))) (es_seq (es_for (ei_rg1 (ea_cons (ev_fn rb_len (ev_var).x) ea_nil)) gs_name (es_if (et_or (et_test (ev_op rop_ge (ev_var).x ((ev_fn rb_len (ev_var).x)).x).x) (et_test (ev_op rop_gt ((ev_op rop_ix (ev_var).x (ev_var).x)).x ((ev_op rop_ix (ev_var).x (ev_var).x)).x).x)) (es_ret (ev_op rop_add (ev_var).x ((ev_c fun _ => .int _)).x)) es_next)) (es_ret (ev_c fun _ => .non))))

abbrev st__law_same : Stmt := topS 55
abbrev N__law_same : List Str := ["got", "due", "mine", "own"]
theorem sc__law_same : FnScope N__law_same ["got", "due"] (C8.fnScope st__law_same) := C8.fnScope_by (by decide +kernel)
def B__law_same (rec : List D → T D) : DL.Env → T Out := (sSeq (sIf (fTest (fFn (isiD ["list", "tuple"]) (fVar 1))) (sSeq (sIf (fOr (fTest (fOp neD (fFn (isiD ["list"]) (fVar 0)) (fFn (isiD ["list"]) (fVar 1)))) (fTest (fOp neD (fFn (isiD ["tuple"]) (fVar 0)) (fFn (isiD ["tuple"]) (fVar 1))))) (sRet (fC (.bl false))) sNext) (sRet (fAndV (fOp eqD (fFn lenD (fVar 0)) (fFn lenD (fVar 1))) (fFn allD (fOfL (fComp (iZip (fVar 0) (fVar 1)) (gTupD (gsCons (gSet 2) (gsCons (gSet 3) gsNil))) fYes (aFn rec (aCons (fVar 2) (aCons (fVar 3) aNil))) [2, 3])))))) sNext) (sSeq (sIf (fOr (fTest (fIsN (fVar 1))) (fTest (fFn (isiD ["bool", "str"]) (fVar 1)))) (sRet (fAndV (fOp eqD (fFn (isiD ["str"]) (fVar 0)) (fFn (isiD ["str"]) (fVar 1))) (fAndV (fOp eqD (fFn (isiD ["bool"]) (fVar 0)) (fFn (isiD ["bool"]) (fVar 1))) (fAndV (fOp eqD (fIsN (fVar 0)) (fIsN (fVar 1))) (fOp eqD (fVar 0) (fVar 1)))))) sNext) (sRet (fAndV (fFn (isiD ["int"]) (fVar 0)) (fAndV (fNotV (fFn (isiD ["bool"]) (fVar 0))) (fOp eqD (fVar 0) (fVar 1)))))))
def F__law_same : Nat → List D → T D
  | 0 => runDef 2 2 sNever
  | d + 1 => runDef 2 2 (B__law_same (F__law_same d))
theorem c__law_same {P : Program} {w : World} {K : PySem.W.Frag} {mg : Str → Option Value} {base : Heap} {cls : Nat → Addr} (W : Ws K mg cls) : ∀ d : Nat, C8.Cal P w K mg base (d + 1) "_law_same" (spF K cls (F__law_same d)) []
  | 0 => def_of (N := N__law_same) (k := 0) (B := sNever) W.d__law_same sc__law_same fun fa cdv A outer s H E hr => ⟨_, pss_never, fun u me => es_never⟩
  | d + 1 => by
    have hrec := c__law_same (P := P) (w := w) (base := base) W d
    refine def_of (N := N__law_same) (k := d + 1) W.d__law_same sc__law_same fun fa cdv A outer s H E hr => ?_
    have nd : N__law_same.Nodup := sc__law_same.nd
    refine ⟨_, (pss_cons (ps_if (pt_val (pe_callB (call_isiTK K rfl) (by rfl) W.z_isinstance bt_isinstance (pa_cons (pv 1) (pa_cons (pe_tup (pa_cons (pe_bltn (v := .ty "list") (by rfl) W.z_list bt_list rfl) (pa_cons (pe_bltn (v := .ty "tuple") (by rfl) W.z_tuple bt_tuple rfl) pa_nil))) pa_nil)))) (pss_cons (ps_if (PW.pt (pw_or (pt_cmpR (op_neK K rfl (hu64 hr)) (pe_callB (call_isiKq K rfl) (by rfl) W.z_isinstance bt_isinstance (pa_cons (pv 0) (pa_cons (pe_bltn (v := .ty "list") (by rfl) W.z_list bt_list rfl) pa_nil))) (pe_callB (call_isiKq K rfl) (by rfl) W.z_isinstance bt_isinstance (pa_cons (pv 1) (pa_cons (pe_bltn (v := .ty "list") (by rfl) W.z_list bt_list rfl) pa_nil))) (nomark _)) (pw_or1 (pt_cmpR (op_neK K rfl (hu64 hr)) (pe_callB (call_isiKq K rfl) (by rfl) W.z_isinstance bt_isinstance (pa_cons (pv 0) (pa_cons (pe_bltn (v := .ty "tuple") (by rfl) W.z_tuple bt_tuple rfl) pa_nil))) (pe_callB (call_isiKq K rfl) (by rfl) W.z_isinstance bt_isinstance (pa_cons (pv 1) (pa_cons (pe_bltn (v := .ty "tuple") (by rfl) W.z_tuple bt_tuple rfl) pa_nil))) (nomark _))))) (pss_one (ps_ret pe_bl)) pss_nil) (pss_one (ps_ret (pe_and (pe_cmpR (op_eqK K rfl (hu64 hr)) (pe_callB (call_lenK K rfl) (by rfl) W.z_len bt_len (pa_cons (pv 0) pa_nil)) (pe_callB (call_lenK K rfl) (by rfl) W.z_len bt_len (pa_cons (pv 1) pa_nil)) (nomark _)) (pe_one (pe_callB (cr_allK K rfl (by rfl)) (by rfl) W.z_all bt_all (pa_cons (pe_lc (by rfl) nd (pi_zpK K rfl (by rfl) W.z_zip (pv 0) (pv 1)) (blkOk_by (N := N__law_same) (sc := C8.fnScope st__law_same) (own := [("mine", 2), ("own", 3)]) (by decide +kernel)) (fun _ _ _ _ _ => (pg_tupK (n := 2) K rfl rfl (pgs_cons (pg_name (i := 2) nd rfl (Or.inl rfl) (Or.inr rfl)) (pgs_cons (pg_name (i := 3) nd rfl (Or.inl rfl) (Or.inr rfl)) pgs_nil)))) (fun _ _ _ _ _ => pts_nil) (fun _ _ _ _ _ => (C8.pe_c hrec hr (Nat.le_refl _) (by rfl) (pa_cons (pv 2) (pa_cons (pv 3) pa_nil))))) pa_nil))))))) pss_nil) (pss_cons (ps_if (PW.pt (pw_or (pt_cmp (pc_isN (pv 1))) (pw_or1 (pt_val (pe_callB (call_isiTK K rfl) (by rfl) W.z_isinstance bt_isinstance (pa_cons (pv 1) (pa_cons (pe_tup (pa_cons (pe_bltn (v := .ty "bool") (by rfl) W.z_bool bt_bool rfl) (pa_cons (pe_bltn (v := .ty "str") (by rfl) W.z_str bt_str rfl) pa_nil))) pa_nil))))))) (pss_one (ps_ret (pe_and (pe_cmpR (op_eqK K rfl (hu64 hr)) (pe_callB (call_isiKq K rfl) (by rfl) W.z_isinstance bt_isinstance (pa_cons (pv 0) (pa_cons (pe_bltn (v := .ty "str") (by rfl) W.z_str bt_str rfl) pa_nil))) (pe_callB (call_isiKq K rfl) (by rfl) W.z_isinstance bt_isinstance (pa_cons (pv 1) (pa_cons (pe_bltn (v := .ty "str") (by rfl) W.z_str bt_str rfl) pa_nil))) (nomark _)) (pe_and (pe_cmpR (op_eqK K rfl (hu64 hr)) (pe_callB (call_isiKq K rfl) (by rfl) W.z_isinstance bt_isinstance (pa_cons (pv 0) (pa_cons (pe_bltn (v := .ty "bool") (by rfl) W.z_bool bt_bool rfl) pa_nil))) (pe_callB (call_isiKq K rfl) (by rfl) W.z_isinstance bt_isinstance (pa_cons (pv 1) (pa_cons (pe_bltn (v := .ty "bool") (by rfl) W.z_bool bt_bool rfl) pa_nil))) (nomark _)) (pe_and (pe_cmpR (op_eqK K rfl (hu64 hr)) (pe_cmp (pc_isN (pv 0))) (pe_cmp (pc_isN (pv 1))) (nomark _)) (pe_one (pe_cmpR (op_eqK K rfl (hu64 hr)) (pv 0) (pv 1) (nomark _)))))))) pss_nil) (pss_one (ps_ret (pe_and (pe_callB (call_isiKq K rfl) (by rfl) W.z_isinstance bt_isinstance (pa_cons (pv 0) (pa_cons (pe_bltn (v := .ty "int") (by rfl) W.z_int bt_int rfl) pa_nil))) (pe_and (pe_not (pe_callB (call_isiKq K rfl) (by rfl) W.z_isinstance bt_isinstance (pa_cons (pv 0) (pa_cons (pe_bltn (v := .ty "bool") (by rfl) W.z_bool bt_bool rfl) pa_nil)))) (pe_one (pe_cmpR (op_eqK K rfl (hu64 hr)) (pv 0) (pv 1) (nomark _))))))))), ?_⟩
    exact fun u me => (es_seq (es_if (et_B ((ev_isiT (us := ["list", "tuple"]) (isi_ok (by decide)) (by decide) (ev_var).x)).x) (es_seq (es_if (et_or (et_test (ev_op rop_ne ((ev_isi (isi_ok (by decide)) (ev_var).x)).x ((ev_isi (isi_ok (by decide)) (ev_var).x)).x).x) (et_test (ev_op rop_ne ((ev_isi (isi_ok (by decide)) (ev_var).x)).x ((ev_isi (isi_ok (by decide)) (ev_var).x)).x).x)) (es_ret (ev_c fun _ => .bl _)) es_next) (es_ret (ev_andV ((ev_op rop_eq ((ev_fn rb_len (ev_var).x)).x ((ev_fn rb_len (ev_var).x)).x)).x (ev_fn rb_all ((ev_lst (el_comp (ei_zpX (ev_var).x (ev_var).x) (eg_tup (eg_cons eg_name (eg_cons eg_name eg_nil)) (gs_len (gs_len gs_len0))) et_yes (ev_call (ea_cons ev_var (ea_cons ev_var ea_nil))) (by decide)))).x)))) es_next) (es_seq (es_if (et_or (et_B (ev_isN (ev_var).x).x) (et_B ((ev_isiT (us := ["bool", "str"]) (isi_ok (by decide)) (by decide) (ev_var).x)).x)) (es_ret (ev_andV ((ev_op rop_eq ((ev_isi (isi_ok (by decide)) (ev_var).x)).x ((ev_isi (isi_ok (by decide)) (ev_var).x)).x)).x (ev_andV ((ev_op rop_eq ((ev_isi (isi_ok (by decide)) (ev_var).x)).x ((ev_isi (isi_ok (by decide)) (ev_var).x)).x)).x (ev_andV ((ev_op rop_eq ((ev_isN (ev_var).x)).x ((ev_isN (ev_var).x)).x)).x (ev_op rop_eq (ev_var).x (ev_var).x))))) es_next) (es_ret (ev_andV ((ev_isi (isi_ok (by decide)) (ev_var).x)).x (ev_andV ((ev_notV ((ev_isi (isi_ok (by decide)) (ev_var).x)).x)).x (ev_op rop_eq (ev_var).x (ev_var).x))))))

abbrev st_Turns_size : Stmt := (C8.clsBody (topS 24)).getD 4 (.Pass ⟨0, 0, 0, 0⟩)
abbrev N_Turns_size : List Str := ["self", "heir", "number"]
theorem sc_Turns_size : FnScope N_Turns_size ["self"] (C8.fnScope st_Turns_size) := C8.fnScope_by (by decide +kernel)
def B_Turns_size : DL.Env → T Out := (sRet (fFn sumD (fOfL (fComp (iSeq (fFld 0 1 (fVar 0))) (gTupD (gsCons (gSet 1) (gsCons (gSet 2) gsNil))) fYes (fVar 2) [1, 2]))))
def F_Turns_size : List D → T D := runDef 1 2 B_Turns_size
theorem c_Turns_size {P : Program} {w : World} {K : PySem.W.Frag} {mg : Str → Option Value} {base : Heap} {cls : Nat → Addr} (W : Ws K mg cls) : Pr P w K mg base 1 (cls 0) "size" (spF K cls F_Turns_size) := by
  refine pr_of (N := N_Turns_size) (k := 0) W.s_Turns W.p_Turns_size sc_Turns_size fun fa cdv A outer s H E hr => ?_
  have nd : N_Turns_size.Nodup := sc_Turns_size.nd
  refine ⟨_, (pss_one (ps_ret (pe_callB (cr_sumK K rfl (by rfl)) (by rfl) W.z_sum bt_sum (pa_cons (pe_lc (by rfl) nd (pi_sqK K rfl (pe_slK K rfl (pv 0))) (blkOk_by (N := N_Turns_size) (sc := C8.fnScope st_Turns_size) (own := [("heir", 1), ("number", 2)]) (by decide +kernel)) (fun _ _ _ _ _ => (pg_tupK (n := 2) K rfl rfl (pgs_cons (pg_name (i := 1) nd rfl (Or.inl rfl) (Or.inr rfl)) (pgs_cons (pg_name (i := 2) nd rfl (Or.inl rfl) (Or.inr rfl)) pgs_nil)))) (fun _ _ _ _ _ => pts_nil) (fun _ _ _ _ _ => (pv 2))) pa_nil)))), ?_⟩
  exact fun u me => (es_ret (ev_fn rb_sum ((ev_lst (el_comp (ei_sqX ((ev_fld W.fl_own_runs ev_var)).x) (eg_tup (eg_cons eg_name (eg_cons eg_name eg_nil)) (gs_len (gs_len gs_len0))) et_yes ev_var (by decide)))).x))

abbrev st_set_of : Stmt := topS 9
abbrev N_set_of : List Str := ["some"]
theorem sc_set_of : FnScope N_set_of ["some"] (C8.fnScope st_set_of) := C8.fnScope_by (by decide +kernel)
def B_set_of : DL.Env → T Out := (sRet (fFn tupOfD (fOfL (lFn sortSetD (fVar 0)))))
def F_set_of : List D → T D := runDef 1 0 B_set_of
theorem c_set_of {P : Program} {w : World} {K : PySem.W.Frag} {mg : Str → Option Value} {base : Heap} {cls : Nat → Addr} (W : Ws K mg cls) : C8.Cal P w K mg base 1 "set_of" (spF K cls F_set_of) [] := by
  refine def_of (N := N_set_of) (k := 0) W.d_set_of sc_set_of fun fa cdv A outer s H E hr => ?_
  have nd : N_set_of.Nodup := sc_set_of.nd
  refine ⟨_, (pss_one (ps_ret (pe_tupleK K rfl (by rfl) W.z_tuple (pe_callB (cr_sortSetK P w rfl rfl (by rfl) (hu66 hr)) (by rfl) W.z_sorted bt_sorted (pa_cons (pe_callTy (cr_setK K P w rfl rfl rfl (by rfl)) (by rfl) W.z_set bt_set (pa_cons (pv 0) pa_nil)) pa_nil))))), ?_⟩
  exact fun u me => (es_ret (ev_then rb_tup ((ev_lst (el_sortSet (ev_var).x))).x))

abbrev st_check_lists : Stmt := topS 37
abbrev N_check_lists : List Str := ["turns", "hers", "his"]
theorem sc_check_lists : FnScope N_check_lists ["turns", "hers", "his"] (C8.fnScope st_check_lists) := C8.fnScope_by (by decide +kernel)
def B_check_lists : DL.Env → T Out := (sIf (fOr (fTest (fOp neD (aFn F_set_of (aCons (fVar 1) aNil)) (aFn F_set_of (aCons (fVar 2) aNil)))) (fTest (fOp neD (fFn lenD (fVar 1)) (fProp 0 F_Turns_size (fVar 0))))) sNever sNext)
def F_check_lists : List D → T D := runDef 3 0 B_check_lists
theorem c_check_lists {P : Program} {w : World} {K : PySem.W.Frag} {mg : Str → Option Value} {base : Heap} {cls : Nat → Addr} (W : Ws K mg cls) : C8.Cal P w K mg base 3 "check_lists" (spF K cls F_check_lists) [] := by
  refine def_of (N := N_check_lists) (k := 2) W.d_check_lists sc_check_lists fun fa cdv A outer s H E hr => ?_
  have nd : N_check_lists.Nodup := sc_check_lists.nd
  refine ⟨_, (pss_one (ps_if (PW.pt (pw_or (pt_cmpR (op_neK K rfl (hu64 hr)) (C8.pe_c (c_set_of W) hr (by decide) (by rfl) (pa_cons (pv 1) pa_nil)) (C8.pe_c (c_set_of W) hr (by decide) (by rfl) (pa_cons (pv 2) pa_nil)) (nomark _)) (pw_or1 (pt_cmpR (op_neK K rfl (hu64 hr)) (pe_callB (call_lenK K rfl) (by rfl) W.z_len bt_len (pa_cons (pv 1) pa_nil)) (pe_pr (c_Turns_size W) (pv 0) hr (by decide)) (nomark _))))) (pss_one ps_never) pss_nil)), ?_⟩
  exact fun u me => (es_if (et_or (et_test (ev_op rop_ne ((ev_call (ea_cons ev_var ea_nil))).x ((ev_call (ea_cons ev_var ea_nil))).x).x) (et_test (ev_op rop_ne ((ev_fn rb_len (ev_var).x)).x ((ev_prop ev_var)).x).x)) es_never es_next)

abbrev st_Turns_runs : Stmt := (C8.clsBody (topS 24)).getD 3 (.Pass ⟨0, 0, 0, 0⟩)
abbrev N_Turns_runs : List Str := ["self"]
theorem sc_Turns_runs : FnScope N_Turns_runs ["self"] (C8.fnScope st_Turns_runs) := C8.fnScope_by (by decide +kernel)
def B_Turns_runs : DL.Env → T Out := (sRet (fFld 0 1 (fVar 0)))
def F_Turns_runs : List D → T D := runDef 1 0 B_Turns_runs
theorem c_Turns_runs {P : Program} {w : World} {K : PySem.W.Frag} {mg : Str → Option Value} {base : Heap} {cls : Nat → Addr} (W : Ws K mg cls) : Pr P w K mg base 1 (cls 0) "runs" (spF K cls F_Turns_runs) := by
  refine pr_of (N := N_Turns_runs) (k := 0) W.s_Turns W.p_Turns_runs sc_Turns_runs fun fa cdv A outer s H E hr => ?_
  have nd : N_Turns_runs.Nodup := sc_Turns_runs.nd
  refine ⟨_, (pss_one (ps_ret (pe_slK K rfl (pv 0)))), ?_⟩
  exact fun u me => (es_ret (ev_fld W.fl_own_runs ev_var))

abbrev st_heirs : Stmt := topS 31
abbrev N_heirs : List Str := ["turns", "found", "heir", "number"]
theorem sc_heirs : FnScope N_heirs ["turns"] (C8.fnScope st_heirs) := C8.fnScope_by (by decide +kernel)
def B_heirs : DL.Env → T Out := (sSeq (sSetL 1 (fLst aNil)) (sSeq (sFor (iSeq (fProp 0 F_Turns_runs (fVar 0))) (gTupD (gsCons (gSet 2) (gsCons (gSet 3) gsNil))) (sExt 1 (fOp mulD (fOfL (fLst (aCons (fVar 2) aNil))) (fVar 3)))) (sRet (fFn tupOfD (fVar 1)))))
def F_heirs : List D → T D := runDef 1 3 B_heirs
theorem c_heirs {P : Program} {w : World} {K : PySem.W.Frag} {mg : Str → Option Value} {base : Heap} {cls : Nat → Addr} (W : Ws K mg cls) : C8.Cal P w K mg base 3 "heirs" (spF K cls F_heirs) [] := by
  refine def_of (N := N_heirs) (k := 2) W.d_heirs sc_heirs fun fa cdv A outer s H E hr => ?_
  have nd : N_heirs.Nodup := sc_heirs.nd
  refine ⟨_, (pss_cons (ps_set (i := 1) nd rfl (Or.inl rfl) (pe_lst pa_nil)) (pss_cons (ps_for PassesOwn.never rfl (pi_sqK K rfl (pe_pr (c_Turns_runs W) (pv 0) hr (by decide))) (pg_tupK (n := 2) K rfl rfl (pgs_cons (pg_name (i := 2) nd rfl (Or.inl rfl) (Or.inr rfl)) (pgs_cons (pg_name (i := 3) nd rfl (Or.inl rfl) (Or.inr rfl)) pgs_nil))) (pss_one (ps_expr (pe_bm PySem.F.plainAttrs_list PySem.F.slot_list_extend PySem.F.type_list_extend mt_extend (pv 1) (pa_cons (pe_op op_mulD (pe_lst (pa_cons (pv 2) pa_nil)) (pv 3)) pa_nil))))) (pss_one (ps_ret (pe_tupleK K rfl (by rfl) W.z_tuple (pv 1)))))), ?_⟩
  exact fun u me => (es_seq (es_setL (el_lst ea_nil)) (es_seq (es_for (ei_sq (ev_prop ev_var)) (gs_tup (gs_cons gs_name (gs_cons gs_name gs_nil)) (gs_len (gs_len gs_len0))) (es_ext (ev_op rop_mul ((ev_lst (el_lst (ea_cons ev_var ea_nil)))).x (ev_var).x))) (es_ret (ev_then rb_tup (ev_var).x))))

abbrev st_first_of : Stmt := topS 38
abbrev N_first_of : List Str := ["order", "left", "own"]
theorem sc_first_of : FnScope N_first_of ["order", "left"] (C8.fnScope st_first_of) := C8.fnScope_by (by decide +kernel)
def B_first_of : DL.Env → T Out := (sRet (fOp ixD (fOfL (fComp (iSeq (fVar 0)) (gSet 2) (fTest (fOp inD (fVar 2) (fVar 1))) (fVar 2) [2])) (fC (.int 0))))
def F_first_of : List D → T D := runDef 2 1 B_first_of
theorem c_first_of {P : Program} {w : World} {K : PySem.W.Frag} {mg : Str → Option Value} {base : Heap} {cls : Nat → Addr} (W : Ws K mg cls) : C8.Cal P w K mg base 1 "first_of" (spF K cls F_first_of) [] := by
  refine def_of (N := N_first_of) (k := 0) W.d_first_of sc_first_of fun fa cdv A outer s H E hr => ?_
  have nd : N_first_of.Nodup := sc_first_of.nd
  refine ⟨_, (pss_one (ps_ret (pe_ix (ix_K K rfl) (pe_lc (by rfl) nd (pi_sqK K rfl (pv 0)) (blkOk_by (N := N_first_of) (sc := C8.fnScope st_first_of) (own := [("own", 2)]) (by decide +kernel)) (fun _ _ _ _ _ => (pg_name (i := 2) nd rfl (Or.inl rfl) (Or.inr rfl))) (fun _ _ _ _ _ => (pts_one (pt_cmpR (op_inK K rfl) (pv 2) (pv 1) (by with_unfolding_all rfl)))) (fun _ _ _ _ _ => (pv 2))) pe_int (fun _ _ => rfl)))), ?_⟩
  exact fun u me => (es_ret (ev_op rop_ix ((ev_lst (el_comp (ei_sqX (ev_var).x) eg_name (et_test (ev_op rop_in (ev_var).x (ev_var).x).x) ev_var (by decide)))).x ((ev_c fun _ => .int _)).x))

abbrev st_taken : Stmt := topS 39
abbrev N_taken : List Str := ["turns", "hers", "his", "heir", "found", "left"]
theorem sc_taken : FnScope N_taken ["turns", "hers", "his"] (C8.fnScope st_taken) := C8.fnScope_by (by decide +kernel)
def B_taken : DL.Env → T Out := (sSeq (sDrop (aFn F_check_lists (aCons (fVar 0) (aCons (fVar 1) (aCons (fVar 2) aNil))))) (sSeq (sParLL 4 5 (fLst aNil) (lFn listOfD (fVar 1))) (sSeq (sFor (iSeq (aFn F_heirs (aCons (fVar 0) aNil))) (gSet 3) (sSeq (sAppF 4 (aFn F_first_of (aCons (fIf (fTest (fOp eqD (fVar 3) (fC (.str (PySem.Str.ofString "a"))))) (fVar 1) (fVar 2)) (aCons (fVar 5) aNil)))) (sRem 5 (fOp ixD (fVar 4) (fUn negD (fC (.int 1))))))) (sRet (fFn tupOfD (fVar 4))))))
def F_taken : List D → T D := runDef 3 3 B_taken
theorem c_taken {P : Program} {w : World} {K : PySem.W.Frag} {mg : Str → Option Value} {base : Heap} {cls : Nat → Addr} (W : Ws K mg cls) : C8.Cal P w K mg base 4 "taken" (spF K cls F_taken) [] := by
  obtain ⟨v_HERS, g_HERS⟩ := W.g_HERS
  refine def_of (N := N_taken) (k := 3) W.d_taken sc_taken fun fa cdv A outer s H E hr => ?_
  have nd : N_taken.Nodup := sc_taken.nd
  refine ⟨_, (pss_cons (ps_expr (C8.pe_c (c_check_lists W) hr (by decide) (by rfl) (pa_cons (pv 0) (pa_cons (pv 1) (pa_cons (pv 2) pa_nil))))) (pss_cons (ps_par (i := 4) (j := 5) rfl nd rfl rfl (by decide) rfl rfl (pa_cons (pe_lst pa_nil) (pa_cons (pe_callTy (call_listK K rfl) (by rfl) W.z_list bt_list (pa_cons (pv 1) pa_nil)) pa_nil)) (by rfl)) (pss_cons (ps_for PassesOwn.never rfl (pi_sqK K rfl (C8.pe_c (c_heirs W) hr (by decide) (by rfl) (pa_cons (pv 0) pa_nil))) (pg_name (i := 3) nd rfl (Or.inl rfl) (Or.inr rfl)) (pss_cons (ps_expr (pe_bm PySem.F.plainAttrs_list PySem.F.slot_list_append PySem.F.type_list_append mt_append (pv 4) (pa_cons (C8.pe_c (c_first_of W) hr (by decide) (by rfl) (pa_cons (pe_ifExp (pt_cmpR (op_eqK K rfl (hu64 hr)) (pv 3) (C8.pe_gc (by rfl) g_HERS.1) (nomark _)) (pv 1) (pv 2)) (pa_cons (pv 5) pa_nil))) pa_nil))) (pss_one (ps_expr (pe_bm PySem.F.plainAttrs_list PySem.F.slot_list_remove PySem.F.type_list_remove (mt_remL (hu02 hr)) (pv 5) (pa_cons (pe_ix (ix_K K rfl) (pv 4) (pe_un un_neg pe_int) (fun _ _ => rfl)) pa_nil)))))) (pss_one (ps_ret (pe_tupleK K rfl (by rfl) W.z_tuple (pv 4))))))), ?_⟩
  exact fun u me => (es_seq (es_drop (ev_call (ea_cons ev_var (ea_cons ev_var (ea_cons ev_var ea_nil))))) (es_seq (es_parLL (el_lst ea_nil) (el_fn rb_list (ev_var).x)) (es_seq (es_for (ei_sq (ev_call (ea_cons ev_var ea_nil))) gs_name (es_seq (es_appF (ev_call (ea_cons (ev_if (et_test (ev_op rop_eq (ev_var).x ((ev_c (g_HERS.2 _ rfl))).x).x) ev_var ev_var) (ea_cons ev_var ea_nil)))) (es_rem (ev_op rop_ix (ev_var).x ((ev_un run_neg ((ev_c fun _ => .int _)).x)).x)))) (es_ret (ev_then rb_tup (ev_var).x)))))

abbrev st_check_size : Stmt := topS 33
abbrev N_check_size : List Str := ["one", "other"]
theorem sc_check_size : FnScope N_check_size ["one", "other"] (C8.fnScope st_check_size) := C8.fnScope_by (by decide +kernel)
def B_check_size : DL.Env → T Out := (sIf (fTest (fOp neD (fProp 0 F_Turns_size (fVar 0)) (fProp 0 F_Turns_size (fVar 1)))) sNever sNext)
def F_check_size : List D → T D := runDef 2 0 B_check_size
theorem c_check_size {P : Program} {w : World} {K : PySem.W.Frag} {mg : Str → Option Value} {base : Heap} {cls : Nat → Addr} (W : Ws K mg cls) : C8.Cal P w K mg base 3 "check_size" (spF K cls F_check_size) [] := by
  refine def_of (N := N_check_size) (k := 2) W.d_check_size sc_check_size fun fa cdv A outer s H E hr => ?_
  have nd : N_check_size.Nodup := sc_check_size.nd
  refine ⟨_, (pss_one (ps_if (pt_cmpR (op_neK K rfl (hu64 hr)) (pe_pr (c_Turns_size W) (pv 0) hr (by decide)) (pe_pr (c_Turns_size W) (pv 1) hr (by decide)) (nomark _)) (pss_one ps_never) pss_nil)), ?_⟩
  exact fun u me => (es_if (et_test (ev_op rop_ne ((ev_prop ev_var)).x ((ev_prop ev_var)).x).x) es_never es_next)

abbrev st_shares : Stmt := topS 40
abbrev N_shares : List Str := ["turns", "hers", "his", "rows", "mine", "its", "heir", "own"]
theorem sc_shares : FnScope N_shares ["turns", "hers", "his"] (C8.fnScope st_shares) := C8.fnScope_by (by decide +kernel)
def B_shares : DL.Env → T Out := (sSeq (sSet 3 (fOfL (lZip (aFn F_heirs (aCons (fVar 0) aNil)) (aFn F_taken (aCons (fVar 0) (aCons (fVar 1) (aCons (fVar 2) aNil))))))) (sSeq (sParVV 4 5 (fOfL (fComp (iSeq (fVar 3)) (gTupD (gsCons (gSet 6) (gsCons (gSet 7) gsNil))) (fTest (fOp eqD (fVar 6) (fC (.str (PySem.Str.ofString "a"))))) (fVar 7) [6, 7])) (fOfL (fComp (iSeq (fVar 3)) (gTupD (gsCons (gSet 6) (gsCons (gSet 7) gsNil))) (fTest (fOp neD (fVar 6) (fC (.str (PySem.Str.ofString "a"))))) (fVar 7) [6, 7]))) (sRet (fTup (aCons (aFn F_set_of (aCons (fVar 4) aNil)) (aCons (aFn F_set_of (aCons (fVar 5) aNil)) aNil))))))
def F_shares : List D → T D := runDef 3 5 B_shares
theorem c_shares {P : Program} {w : World} {K : PySem.W.Frag} {mg : Str → Option Value} {base : Heap} {cls : Nat → Addr} (W : Ws K mg cls) : C8.Cal P w K mg base 5 "shares" (spF K cls F_shares) [] := by
  obtain ⟨v_HERS, g_HERS⟩ := W.g_HERS
  refine def_of (N := N_shares) (k := 4) W.d_shares sc_shares fun fa cdv A outer s H E hr => ?_
  have nd : N_shares.Nodup := sc_shares.nd
  refine ⟨_, (pss_cons (ps_set (i := 3) nd rfl (Or.inl rfl) (pe_lzK K rfl (by rfl) (by rfl) W.z_list (by rfl) W.z_zip (C8.pe_c (c_heirs W) hr (by decide) (by rfl) (pa_cons (pv 0) pa_nil)) (C8.pe_c (c_taken W) hr (by decide) (by rfl) (pa_cons (pv 0) (pa_cons (pv 1) (pa_cons (pv 2) pa_nil)))))) (pss_cons (ps_par (i := 4) (j := 5) rfl nd rfl rfl (by decide) rfl rfl (pa_cons (pe_lc (by rfl) nd (pi_sqK K rfl (pv 3)) (blkOk_by (N := N_shares) (sc := C8.fnScope st_shares) (own := [("heir", 6), ("own", 7)]) (by decide +kernel)) (fun _ _ _ _ _ => (pg_tupK (n := 2) K rfl rfl (pgs_cons (pg_name (i := 6) nd rfl (Or.inl rfl) (Or.inr rfl)) (pgs_cons (pg_name (i := 7) nd rfl (Or.inl rfl) (Or.inr rfl)) pgs_nil)))) (fun _ _ _ _ _ => (pts_one (pt_cmpR (op_eqK K rfl (hu64 hr)) (pv 6) (C8.pe_gc (by rfl) g_HERS.1) (nomark _)))) (fun _ _ _ _ _ => (pv 7))) (pa_cons (pe_lc (by rfl) nd (pi_sqK K rfl (pv 3)) (blkOk_by (N := N_shares) (sc := C8.fnScope st_shares) (own := [("heir", 6), ("own", 7)]) (by decide +kernel)) (fun _ _ _ _ _ => (pg_tupK (n := 2) K rfl rfl (pgs_cons (pg_name (i := 6) nd rfl (Or.inl rfl) (Or.inr rfl)) (pgs_cons (pg_name (i := 7) nd rfl (Or.inl rfl) (Or.inr rfl)) pgs_nil)))) (fun _ _ _ _ _ => (pts_one (pt_cmpR (op_neK K rfl (hu64 hr)) (pv 6) (C8.pe_gc (by rfl) g_HERS.1) (nomark _)))) (fun _ _ _ _ _ => (pv 7))) pa_nil)) (by rfl)) (pss_one (ps_ret (pe_tupN (pa_cons (C8.pe_c (c_set_of W) hr (by decide) (by rfl) (pa_cons (pv 4) pa_nil)) (pa_cons (C8.pe_c (c_set_of W) hr (by decide) (by rfl) (pa_cons (pv 5) pa_nil)) pa_nil))))))), ?_⟩
  exact fun u me => (es_seq (es_set (ev_lst (el_lz ((ev_call (ea_cons ev_var ea_nil))).x ((ev_call (ea_cons ev_var (ea_cons ev_var (ea_cons ev_var ea_nil))))).x))) (es_seq (es_parVV (ev_lst (el_comp (ei_sqX (ev_var).x) (eg_tup (eg_cons eg_name (eg_cons eg_name eg_nil)) (gs_len (gs_len gs_len0))) (et_test (ev_op rop_eq (ev_var).x ((ev_c (g_HERS.2 _ rfl))).x).x) ev_var (by decide))) (ev_lst (el_comp (ei_sqX (ev_var).x) (eg_tup (eg_cons eg_name (eg_cons eg_name eg_nil)) (gs_len (gs_len gs_len0))) (et_test (ev_op rop_ne (ev_var).x ((ev_c (g_HERS.2 _ rfl))).x).x) ev_var (by decide)))) (es_ret (ev_tup (ea_cons (ev_call (ea_cons ev_var ea_nil)) (ea_cons (ev_call (ea_cons ev_var ea_nil)) ea_nil))))))

abbrev st_worse_at : Stmt := topS 47
abbrev N_worse_at : List Str := ["one", "other", "hers", "his", "mine", "its", "near", "far", "number", "place", "thing"]
theorem sc_worse_at : FnScope N_worse_at ["one", "other", "hers", "his"] (C8.fnScope st_worse_at) := C8.fnScope_by (by decide +kernel)
def B_worse_at : DL.Env → T Out := (sSeq (sDrop (aFn F_check_size (aCons (fVar 0) (aCons (fVar 1) aNil)))) (sSeq (sDrop (aFn F_check_lists (aCons (fVar 0) (aCons (fVar 2) (aCons (fVar 3) aNil))))) (sSeq (sUnp (fTup (aCons (fOp ixD (aFn F_shares (aCons (fVar 0) (aCons (fVar 2) (aCons (fVar 3) aNil)))) (fC (.int 0))) (aCons (fOp ixD (aFn F_shares (aCons (fVar 1) (aCons (fVar 2) (aCons (fVar 3) aNil)))) (fC (.int 0))) aNil))) (gTupD (gsCons (gSet 6) (gsCons (gSet 7) gsNil)))) (sSeq (sSet 4 (fOfL (fComp (iEnum (fVar 2)) (gTupD (gsCons (gSet 9) (gsCons (gSet 10) gsNil))) (fTest (fOp inD (fVar 10) (fVar 6))) (fVar 9) [9, 10]))) (sSeq (sSet 5 (fOfL (fComp (iEnum (fVar 2)) (gTupD (gsCons (gSet 9) (gsCons (gSet 10) gsNil))) (fTest (fOp inD (fVar 10) (fVar 7))) (fVar 9) [9, 10]))) (sSeq (sFor (iEnum (fVar 5)) (gTupD (gsCons (gSet 8) (gsCons (gSet 9) gsNil))) (sIf (fOr (fTest (fOp geD (fVar 8) (fFn lenD (fVar 4)))) (fTest (fOp gtD (fOp ixD (fVar 4) (fVar 8)) (fVar 9)))) (sRet (fOp addD (fVar 8) (fC (.int 1)))) sNext)) (sRet (fC .non))))))))
def F_worse_at : List D → T D := runDef 4 7 B_worse_at
theorem c_worse_at {P : Program} {w : World} {K : PySem.W.Frag} {mg : Str → Option Value} {base : Heap} {cls : Nat → Addr} (W : Ws K mg cls) : C8.Cal P w K mg base 6 "worse_at" (spF K cls F_worse_at) [] := by
  refine def_of (N := N_worse_at) (k := 5) W.d_worse_at sc_worse_at fun fa cdv A outer s H E hr => ?_
  have nd : N_worse_at.Nodup := sc_worse_at.nd
  refine ⟨_, (pss_cons (ps_expr (C8.pe_c (c_check_size W) hr (by decide) (by rfl) (pa_cons (pv 0) (pa_cons (pv 1) pa_nil)))) (pss_cons (ps_expr (C8.pe_c (c_check_lists W) hr (by decide) (by rfl) (pa_cons (pv 0) (pa_cons (pv 2) (pa_cons (pv 3) pa_nil))))) (pss_cons (ps_asg (pe_tupN (pa_cons (pe_ix (ix_K K rfl) (C8.pe_c (c_shares W) hr (by decide) (by rfl) (pa_cons (pv 0) (pa_cons (pv 2) (pa_cons (pv 3) pa_nil)))) pe_int (fun _ _ => rfl)) (pa_cons (pe_ix (ix_K K rfl) (C8.pe_c (c_shares W) hr (by decide) (by rfl) (pa_cons (pv 1) (pa_cons (pv 2) (pa_cons (pv 3) pa_nil)))) pe_int (fun _ _ => rfl)) pa_nil))) (pg_tupK (n := 2) K rfl rfl (pgs_cons (pg_name (i := 6) nd rfl (Or.inr rfl) (Or.inl rfl)) (pgs_cons (pg_name (i := 7) nd rfl (Or.inr rfl) (Or.inl rfl)) pgs_nil)))) (pss_cons (ps_setLc (i := 4) (by rfl) nd rfl rfl (sw_true rfl rfl rfl (by decide +kernel)) (pi_enK K rfl (by rfl) W.z_enumerate (pv 2)) (blkOk_by (N := N_worse_at) (sc := C8.fnScope st_worse_at) (own := [("place", 9), ("thing", 10)]) (by decide +kernel)) (fun _ _ _ _ _ => (pg_tupK (n := 2) K rfl rfl (pgs_cons (pg_name (i := 9) nd rfl (Or.inl rfl) (Or.inr rfl)) (pgs_cons (pg_name (i := 10) nd rfl (Or.inl rfl) (Or.inr rfl)) pgs_nil)))) (fun _ _ _ _ _ => (pts_one (pt_cmpR (op_inK K rfl) (pv 10) (pv 6) (by with_unfolding_all rfl)))) (fun _ _ _ _ _ => (pv 9))) (pss_cons (ps_setLc (i := 5) (by rfl) nd rfl rfl (sw_true rfl rfl rfl (by decide +kernel)) (pi_enK K rfl (by rfl) W.z_enumerate (pv 2)) (blkOk_by (N := N_worse_at) (sc := C8.fnScope st_worse_at) (own := [("place", 9), ("thing", 10)]) (by decide +kernel)) (fun _ _ _ _ _ => (pg_tupK (n := 2) K rfl rfl (pgs_cons (pg_name (i := 9) nd rfl (Or.inl rfl) (Or.inr rfl)) (pgs_cons (pg_name (i := 10) nd rfl (Or.inl rfl) (Or.inr rfl)) pgs_nil)))) (fun _ _ _ _ _ => (pts_one (pt_cmpR (op_inK K rfl) (pv 10) (pv 7) (by with_unfolding_all rfl)))) (fun _ _ _ _ _ => (pv 9))) (pss_cons (ps_for PassesOwn.never rfl (pi_enK K rfl (by rfl) W.z_enumerate (pv 5)) (pg_tupK (n := 2) K rfl rfl (pgs_cons (pg_name (i := 8) nd rfl (Or.inl rfl) (Or.inr rfl)) (pgs_cons (pg_name (i := 9) nd rfl (Or.inl rfl) (Or.inr rfl)) pgs_nil))) (pss_one (ps_if (PW.pt (pw_or (pt_cmpR op_ge (pv 8) (pe_callB (call_lenK K rfl) (by rfl) W.z_len bt_len (pa_cons (pv 4) pa_nil)) (nomark _)) (pw_or1 (pt_cmpR op_gt (pe_ix (ix_K K rfl) (pv 4) (pv 8) (fun _ _ => rfl)) (pv 9) (nomark _))))) (pss_one (ps_ret (pe_op (op_addK K rfl) (pv 8) pe_int))) pss_nil))) (pss_one (ps_ret pe_non)))))))), ?_⟩
  exact fun u me => (es_seq (es_drop (ev_call (ea_cons ev_var (ea_cons ev_var ea_nil)))) (es_seq (es_drop (ev_call (ea_cons ev_var (ea_cons ev_var (ea_cons ev_var ea_nil))))) (es_seq (es_unp (ev_tup (ea_cons (ev_op rop_ix ((ev_call (ea_cons ev_var (ea_cons ev_var (ea_cons ev_var ea_nil))))).x ((ev_c fun _ => .int _)).x) (ea_cons (ev_op rop_ix ((ev_call (ea_cons ev_var (ea_cons ev_var (ea_cons ev_var ea_nil))))).x ((ev_c fun _ => .int _)).x) ea_nil))) (gs_tup (gs_cons gs_name (gs_cons gs_name gs_nil)) (gs_len (gs_len gs_len0)))) (es_seq (es_set (ev_lst (el_comp (ei_enX (ev_var).x) (eg_tup (eg_cons eg_name (eg_cons eg_name eg_nil)) (gs_len (gs_len gs_len0))) (et_test (ev_op rop_in (ev_var).x (ev_var).x).x) ev_var (by decide)))) (es_seq (es_set (ev_lst (el_comp (ei_enX (ev_var).x) (eg_tup (eg_cons eg_name (eg_cons eg_name eg_nil)) (gs_len (gs_len gs_len0))) (et_test (ev_op rop_in (ev_var).x (ev_var).x).x) ev_var (by decide)))) (es_seq (es_for (ei_en ev_var) (gs_tup (gs_cons gs_name (gs_cons gs_name gs_nil)) (gs_len (gs_len gs_len0))) (es_if (et_or (et_test (ev_op rop_ge (ev_var).x ((ev_fn rb_len (ev_var).x)).x).x) (et_test (ev_op rop_gt ((ev_op rop_ix (ev_var).x (ev_var).x)).x (ev_var).x).x)) (es_ret (ev_op rop_add (ev_var).x ((ev_c fun _ => .int _)).x)) es_next)) (es_ret (ev_c fun _ => .non))))))))

abbrev st__law_above : Stmt := topS 63
abbrev N__law_above : List Str := ["one", "other", "place"]
theorem sc__law_above : FnScope N__law_above ["one", "other"] (C8.fnScope st__law_above) := C8.fnScope_by (by decide +kernel)
def B__law_above : DL.Env → T Out := (sRet (fOp eqD (fOfL (fComp (iRange1 (aCons (fOp addD (fFn lenD (fVar 0)) (fC (.int 1))) aNil)) (gSet 2) (fTest (fOp ltD (fCnt (fSl (fVar 0) oNo (oSome (fVar 2))) (fC (.str (PySem.Str.ofString "a")))) (fCnt (fSl (fVar 1) oNo (oSome (fVar 2))) (fC (.str (PySem.Str.ofString "a")))))) (fC (.int 1)) [2])) (fOfL (fLst aNil))))
def F__law_above : List D → T D := runDef 2 1 B__law_above
theorem c__law_above {P : Program} {w : World} {K : PySem.W.Frag} {mg : Str → Option Value} {base : Heap} {cls : Nat → Addr} (W : Ws K mg cls) : C8.Cal P w K mg base 1 "_law_above" (spF K cls F__law_above) [] := by
  refine def_of (N := N__law_above) (k := 0) W.d__law_above sc__law_above fun fa cdv A outer s H E hr => ?_
  have nd : N__law_above.Nodup := sc__law_above.nd
  refine ⟨_, (pss_one (ps_ret (pe_cmpR (op_eqK K rfl (hu64 hr)) (pe_lc (by rfl) nd (pi_range1 (by rfl) W.z_range (pa_cons (pe_op (op_addK K rfl) (pe_callB (call_lenK K rfl) (by rfl) W.z_len bt_len (pa_cons (pv 0) pa_nil)) pe_int) pa_nil)) (blkOk_by (N := N__law_above) (sc := C8.fnScope st__law_above) (own := [("place", 2)]) (by decide +kernel)) (fun _ _ _ _ _ => (pg_name (i := 2) nd rfl (Or.inl rfl) (Or.inr rfl))) (fun _ _ _ _ _ => (pts_one (pt_cmpR op_lt (pe_cntK K rfl (hu02 hr) (pe_slice (sl_K K rfl) (pv 0) po_none (po_some (pv 2))) pe_str) (pe_cntK K rfl (hu02 hr) (pe_slice (sl_K K rfl) (pv 1) po_none (po_some (pv 2))) pe_str) (nomark _)))) (fun _ _ _ _ _ => pe_int)) (pe_lst pa_nil) (nomark _)))), ?_⟩
  exact fun u me => (es_ret (ev_op rop_eq ((ev_lst (el_comp ((ei_rg1 (ea_cons (ev_op rop_add ((ev_fn rb_len (ev_var).x)).x ((ev_c fun _ => .int _)).x) ea_nil))).x eg_name (et_test (ev_op rop_lt ((ev_cnt ((ev_sl (ev_var).x eo_no (eo_some (ev_var).x))).x ((ev_c fun _ => .str _)).x)).x ((ev_cnt ((ev_sl (ev_var).x eo_no (eo_some (ev_var).x))).x ((ev_c fun _ => .str _)).x)).x).x) (ev_c fun _ => .int _) (by decide)))).x ((ev_lst (el_lst ea_nil))).x))

abbrev st_begins : Stmt := topS 42
abbrev N_begins : List Str := ["turns", "found", "total", "heir", "number"]
theorem sc_begins : FnScope N_begins ["turns"] (C8.fnScope st_begins) := C8.fnScope_by (by decide +kernel)
def B_begins : DL.Env → T Out := (sSeq (sParLV 1 2 (fLst aNil) (fC (.int 0))) (sSeq (sFor (iSeq (fProp 0 F_Turns_runs (fVar 0))) (gTupD (gsCons (gSet 3) (gsCons (gSet 4) gsNil))) (sIf (fTest (fOp eqD (fVar 3) (fC (.str (PySem.Str.ofString "a"))))) (sSeq (sApp 1 (fOp addD (fVar 2) (fC (.int 1)))) (sAug 2 (fun i j => i + j) (fVar 4))) sNext)) (sRet (fVar 1))))
def F_begins : List D → T D := runDef 1 4 B_begins
theorem c_begins {P : Program} {w : World} {K : PySem.W.Frag} {mg : Str → Option Value} {base : Heap} {cls : Nat → Addr} (W : Ws K mg cls) : C8.Cal P w K mg base 3 "begins" (spF K cls F_begins) [] := by
  refine def_of (N := N_begins) (k := 2) W.d_begins sc_begins fun fa cdv A outer s H E hr => ?_
  have nd : N_begins.Nodup := sc_begins.nd
  refine ⟨_, (pss_cons (ps_par (i := 1) (j := 2) rfl nd rfl rfl (by decide) rfl rfl (pa_cons (pe_lst pa_nil) (pa_cons pe_int pa_nil)) (by rfl)) (pss_cons (ps_for PassesOwn.never rfl (pi_sqK K rfl (pe_pr (c_Turns_runs W) (pv 0) hr (by decide))) (pg_tupK (n := 2) K rfl rfl (pgs_cons (pg_name (i := 3) nd rfl (Or.inl rfl) (Or.inr rfl)) (pgs_cons (pg_name (i := 4) nd rfl (Or.inl rfl) (Or.inr rfl)) pgs_nil))) (pss_one (ps_if (pt_cmpR (op_eqK K rfl (hu64 hr)) (pv 3) pe_str (nomark _)) (pss_cons (ps_expr (pe_bm PySem.F.plainAttrs_list PySem.F.slot_list_append PySem.F.type_list_append mt_append (pv 1) (pa_cons (pe_op (op_addK K rfl) (pv 2) pe_int) pa_nil))) (pss_one (ps_aug (i := 2) nd rfl (Or.inl rfl) (pv 4) ip_add))) pss_nil))) (pss_one (ps_ret (pv 1))))), ?_⟩
  exact fun u me => (es_seq (es_parLV (el_lst ea_nil) (ev_c fun _ => .int _)) (es_seq (es_for (ei_sq (ev_prop ev_var)) (gs_tup (gs_cons gs_name (gs_cons gs_name gs_nil)) (gs_len (gs_len gs_len0))) (es_if (et_test (ev_op rop_eq (ev_var).x ((ev_c fun _ => .str _)).x).x) (es_seq (es_app (ev_op rop_add (ev_var).x ((ev_c fun _ => .int _)).x)) (es_aug (ev_var).x)) es_next)) (es_ret ev_var)))

abbrev st_Turns_hers : Stmt := (C8.clsBody (topS 24)).getD 5 (.Pass ⟨0, 0, 0, 0⟩)
abbrev N_Turns_hers : List Str := ["self", "heir", "number"]
theorem sc_Turns_hers : FnScope N_Turns_hers ["self"] (C8.fnScope st_Turns_hers) := C8.fnScope_by (by decide +kernel)
def B_Turns_hers : DL.Env → T Out := (sRet (fFn sumD (fOfL (fComp (iSeq (fFld 0 1 (fVar 0))) (gTupD (gsCons (gSet 1) (gsCons (gSet 2) gsNil))) (fTest (fOp eqD (fVar 1) (fC (.str (PySem.Str.ofString "a"))))) (fVar 2) [1, 2]))))
def F_Turns_hers : List D → T D := runDef 1 2 B_Turns_hers
theorem c_Turns_hers {P : Program} {w : World} {K : PySem.W.Frag} {mg : Str → Option Value} {base : Heap} {cls : Nat → Addr} (W : Ws K mg cls) : Pr P w K mg base 1 (cls 0) "hers" (spF K cls F_Turns_hers) := by
  refine pr_of (N := N_Turns_hers) (k := 0) W.s_Turns W.p_Turns_hers sc_Turns_hers fun fa cdv A outer s H E hr => ?_
  have nd : N_Turns_hers.Nodup := sc_Turns_hers.nd
  refine ⟨_, (pss_one (ps_ret (pe_callB (cr_sumK K rfl (by rfl)) (by rfl) W.z_sum bt_sum (pa_cons (pe_lc (by rfl) nd (pi_sqK K rfl (pe_slK K rfl (pv 0))) (blkOk_by (N := N_Turns_hers) (sc := C8.fnScope st_Turns_hers) (own := [("heir", 1), ("number", 2)]) (by decide +kernel)) (fun _ _ _ _ _ => (pg_tupK (n := 2) K rfl rfl (pgs_cons (pg_name (i := 1) nd rfl (Or.inl rfl) (Or.inr rfl)) (pgs_cons (pg_name (i := 2) nd rfl (Or.inl rfl) (Or.inr rfl)) pgs_nil)))) (fun _ _ _ _ _ => (pts_one (pt_cmpR (op_eqK K rfl (hu64 hr)) (pv 1) pe_str (nomark _)))) (fun _ _ _ _ _ => (pv 2))) pa_nil)))), ?_⟩
  exact fun u me => (es_ret (ev_fn rb_sum ((ev_lst (el_comp (ei_sqX ((ev_fld W.fl_own_runs ev_var)).x) (eg_tup (eg_cons eg_name (eg_cons eg_name eg_nil)) (gs_len (gs_len gs_len0))) (et_test (ev_op rop_eq (ev_var).x ((ev_c fun _ => .str _)).x).x) ev_var (by decide)))).x))

abbrev st_Turns_ends : Stmt := (C8.clsBody (topS 24)).getD 7 (.Pass ⟨0, 0, 0, 0⟩)
abbrev N_Turns_ends : List Str := ["self"]
theorem sc_Turns_ends : FnScope N_Turns_ends ["self"] (C8.fnScope st_Turns_ends) := C8.fnScope_by (by decide +kernel)
def B_Turns_ends : DL.Env → T Out := (sRet (fFld 0 0 (fVar 0)))
def F_Turns_ends : List D → T D := runDef 1 0 B_Turns_ends
theorem c_Turns_ends {P : Program} {w : World} {K : PySem.W.Frag} {mg : Str → Option Value} {base : Heap} {cls : Nat → Addr} (W : Ws K mg cls) : Pr P w K mg base 1 (cls 0) "ends" (spF K cls F_Turns_ends) := by
  refine pr_of (N := N_Turns_ends) (k := 0) W.s_Turns W.p_Turns_ends sc_Turns_ends fun fa cdv A outer s H E hr => ?_
  have nd : N_Turns_ends.Nodup := sc_Turns_ends.nd
  refine ⟨_, (pss_one (ps_ret (pe_slK K rfl (pv 0)))), ?_⟩
  exact fun u me => (es_ret (ev_fld W.fl_own_ends ev_var))

abbrev st_place_of : Stmt := topS 28
abbrev N_place_of : List Str := ["turns", "heir", "which", "left", "end", "own", "many"]
theorem sc_place_of : FnScope N_place_of ["turns", "heir", "which"] (C8.fnScope st_place_of) := C8.fnScope_by (by decide +kernel)
def B_place_of : DL.Env → T Out := (sSeq (sSet 3 (fVar 2)) (sSeq (sIf (fTest (fOp gtD (fVar 3) (fC (.int 0)))) (sFor (iZip (fProp 0 F_Turns_runs (fVar 0)) (fProp 0 F_Turns_ends (fVar 0))) (gTupD (gsCons (gTupD (gsCons (gSet 5) (gsCons (gSet 6) gsNil))) (gsCons (gSet 4) gsNil))) (sIf (fTest (fOp eqD (fVar 5) (fVar 1))) (sSeq (sIf (fTest (fOp leD (fVar 3) (fVar 6))) (sRet (fOp addD (fOp subD (fVar 4) (fVar 6)) (fVar 3))) sNext) (sAug 3 (fun i j => i - j) (fVar 6))) sNext)) sNext) sNever))
def F_place_of : List D → T D := runDef 3 4 B_place_of
theorem c_place_of {P : Program} {w : World} {K : PySem.W.Frag} {mg : Str → Option Value} {base : Heap} {cls : Nat → Addr} (W : Ws K mg cls) : C8.Cal P w K mg base 3 "place_of" (spF K cls F_place_of) [] := by
  refine def_of (N := N_place_of) (k := 2) W.d_place_of sc_place_of fun fa cdv A outer s H E hr => ?_
  have nd : N_place_of.Nodup := sc_place_of.nd
  refine ⟨_, (pss_cons (ps_set (i := 3) nd rfl (Or.inl rfl) (pv 2)) (pss_cons (ps_if (pt_cmpR op_gt (pv 3) pe_int (nomark _)) (pss_one (ps_for PassesOwn.never rfl (pi_zpK K rfl (by rfl) W.z_zip (pe_pr (c_Turns_runs W) (pv 0) hr (by decide)) (pe_pr (c_Turns_ends W) (pv 0) hr (by decide))) (pg_tupK (n := 2) K rfl rfl (pgs_cons (pg_tupK (n := 2) K rfl rfl (pgs_cons (pg_name (i := 5) nd rfl (Or.inl rfl) (Or.inr rfl)) (pgs_cons (pg_name (i := 6) nd rfl (Or.inl rfl) (Or.inr rfl)) pgs_nil))) (pgs_cons (pg_name (i := 4) nd rfl (Or.inl rfl) (Or.inr rfl)) pgs_nil))) (pss_one (ps_if (pt_cmpR (op_eqK K rfl (hu64 hr)) (pv 5) (pv 1) (nomark _)) (pss_cons (ps_if (pt_cmpR op_le (pv 3) (pv 6) (nomark _)) (pss_one (ps_ret (pe_op (op_addK K rfl) (pe_op op_sub (pv 4) (pv 6)) (pv 3)))) pss_nil) (pss_one (ps_aug (i := 3) nd rfl (Or.inl rfl) (pv 6) ip_sub))) pss_nil)))) pss_nil) (pss_one ps_never))), ?_⟩
  exact fun u me => (es_seq (es_set ev_var) (es_seq (es_if (et_test (ev_op rop_gt (ev_var).x ((ev_c fun _ => .int _)).x).x) (es_for (ei_zp (ev_prop ev_var) (ev_prop ev_var)) (gs_tup (gs_cons (gs_tup (gs_cons gs_name (gs_cons gs_name gs_nil)) (gs_len (gs_len gs_len0))) (gs_cons gs_name gs_nil)) (gs_len (gs_len gs_len0))) (es_if (et_test (ev_op rop_eq (ev_var).x (ev_var).x).x) (es_seq (es_if (et_test (ev_op rop_le (ev_var).x (ev_var).x).x) (es_ret (ev_op rop_add ((ev_op rop_sub (ev_var).x (ev_var).x)).x (ev_var).x)) es_next) (es_aug (ev_var).x)) es_next)) es_next) es_never))

abbrev st_turn_of : Stmt := topS 29
abbrev N_turn_of : List Str := ["turns", "which"]
theorem sc_turn_of : FnScope N_turn_of ["turns", "which"] (C8.fnScope st_turn_of) := C8.fnScope_by (by decide +kernel)
def B_turn_of : DL.Env → T Out := (sRet (aFn F_place_of (aCons (fVar 0) (aCons (fC (.str (PySem.Str.ofString "a"))) (aCons (fVar 1) aNil)))))
def F_turn_of : List D → T D := runDef 2 0 B_turn_of
theorem c_turn_of {P : Program} {w : World} {K : PySem.W.Frag} {mg : Str → Option Value} {base : Heap} {cls : Nat → Addr} (W : Ws K mg cls) : C8.Cal P w K mg base 4 "turn_of" (spF K cls F_turn_of) [] := by
  refine def_of (N := N_turn_of) (k := 3) W.d_turn_of sc_turn_of fun fa cdv A outer s H E hr => ?_
  have nd : N_turn_of.Nodup := sc_turn_of.nd
  refine ⟨_, (pss_one (ps_ret (C8.pe_c (c_place_of W) hr (by decide) (by rfl) (pa_cons (pv 0) (pa_cons pe_str (pa_cons (pv 1) pa_nil)))))), ?_⟩
  exact fun u me => (es_ret (ev_call (ea_cons ev_var (ea_cons (ev_c fun _ => .str _) (ea_cons ev_var ea_nil)))))

abbrev st_ways_later : Stmt := topS 43
abbrev N_ways_later : List Str := ["one", "other", "some", "which"]
theorem sc_ways_later : FnScope N_ways_later ["one", "other"] (C8.fnScope st_ways_later) := C8.fnScope_by (by decide +kernel)
def B_ways_later : DL.Env → T Out := (sSeq (sSet 2 (fOfL (fComp (iSeq (aFn F_set_of (aCons (fOp addD (aFn F_begins (aCons (fVar 0) aNil)) (aFn F_begins (aCons (fVar 1) aNil))) aNil))) (gSet 3) (fTest (fOp leD (fVar 3) (aFn min2D (aCons (fProp 0 F_Turns_hers (fVar 0)) (aCons (fProp 0 F_Turns_hers (fVar 1)) aNil))))) (fVar 3) [3]))) (sRet (fOfL (fComp (iSeq (fVar 2)) (gSet 3) fYes (fTup (aCons (fVar 3) (aCons (fOp subD (aFn F_turn_of (aCons (fVar 0) (aCons (fVar 3) aNil))) (aFn F_turn_of (aCons (fVar 1) (aCons (fVar 3) aNil)))) aNil))) [3]))))
def F_ways_later : List D → T D := runDef 2 2 B_ways_later
theorem c_ways_later {P : Program} {w : World} {K : PySem.W.Frag} {mg : Str → Option Value} {base : Heap} {cls : Nat → Addr} (W : Ws K mg cls) : C8.Cal P w K mg base 5 "ways_later" (spF K cls F_ways_later) [] := by
  refine def_of (N := N_ways_later) (k := 4) W.d_ways_later sc_ways_later fun fa cdv A outer s H E hr => ?_
  have nd : N_ways_later.Nodup := sc_ways_later.nd
  refine ⟨_, (pss_cons (ps_setLc (i := 2) (by rfl) nd rfl rfl (sw_true rfl rfl rfl (by decide +kernel)) (pi_sqK K rfl (C8.pe_c (c_set_of W) hr (by decide) (by rfl) (pa_cons (pe_op (op_addK K rfl) (C8.pe_c (c_begins W) hr (by decide) (by rfl) (pa_cons (pv 0) pa_nil)) (C8.pe_c (c_begins W) hr (by decide) (by rfl) (pa_cons (pv 1) pa_nil))) pa_nil))) (blkOk_by (N := N_ways_later) (sc := C8.fnScope st_ways_later) (own := [("which", 3)]) (by decide +kernel)) (fun _ _ _ _ _ => (pg_name (i := 3) nd rfl (Or.inl rfl) (Or.inr rfl))) (fun _ _ _ _ _ => (pts_one (pt_cmpR op_le (pv 3) (pe_callB (call_min2 (by rfl)) (by rfl) W.z_min bt_min (pa_cons (pe_pr (c_Turns_hers W) (pv 0) hr (by decide)) (pa_cons (pe_pr (c_Turns_hers W) (pv 1) hr (by decide)) pa_nil))) (nomark _)))) (fun _ _ _ _ _ => (pv 3))) (pss_one (ps_ret (pe_lc (by rfl) nd (pi_sqK K rfl (pv 2)) (blkOk_by (N := N_ways_later) (sc := C8.fnScope st_ways_later) (own := [("which", 3)]) (by decide +kernel)) (fun _ _ _ _ _ => (pg_name (i := 3) nd rfl (Or.inl rfl) (Or.inr rfl))) (fun _ _ _ _ _ => pts_nil) (fun _ _ _ _ _ => (pe_tupN (pa_cons (pv 3) (pa_cons (pe_op op_sub (C8.pe_c (c_turn_of W) hr (by decide) (by rfl) (pa_cons (pv 0) (pa_cons (pv 3) pa_nil))) (C8.pe_c (c_turn_of W) hr (by decide) (by rfl) (pa_cons (pv 1) (pa_cons (pv 3) pa_nil)))) pa_nil)))))))), ?_⟩
  exact fun u me => (es_seq (es_set (ev_lst (el_comp (ei_sqX ((ev_call (ea_cons (ev_op rop_add ((ev_call (ea_cons ev_var ea_nil))).x ((ev_call (ea_cons ev_var ea_nil))).x) ea_nil))).x) eg_name (et_test (ev_op rop_le (ev_var).x ((ev_fnA rb_min2 (ea_cons (ev_prop ev_var) (ea_cons (ev_prop ev_var) ea_nil)))).x).x) ev_var (by decide)))) (es_ret (ev_lst (el_comp (ei_sqX (ev_var).x) eg_name et_yes (ev_tup (ea_cons ev_var (ea_cons (ev_op rop_sub ((ev_call (ea_cons ev_var (ea_cons ev_var ea_nil)))).x ((ev_call (ea_cons ev_var (ea_cons ev_var ea_nil)))).x) ea_nil))) (by decide)))))

abbrev st_against : Stmt := topS 45
abbrev N_against : List Str := ["one", "other", "later", "which", "number"]
theorem sc_against : FnScope N_against ["one", "other"] (C8.fnScope st_against) := C8.fnScope_by (by decide +kernel)
def B_against : DL.Env → T Out := (sSeq (sDrop (aFn F_check_size (aCons (fVar 0) (aCons (fVar 1) aNil)))) (sSeq (sSet 2 (fOfL (fComp (iSeq (aFn F_ways_later (aCons (fVar 0) (aCons (fVar 1) aNil)))) (gTupD (gsCons (gSet 3) (gsCons (gSet 4) gsNil))) (fTest (fOp gtD (fVar 4) (fC (.int 0)))) (fVar 3) [3, 4]))) (sSeq (sIf (fTest (fOp gtD (fFn lenD (fVar 2)) (fC (.int 0)))) (sRet (fOp ixD (fVar 2) (fC (.int 0)))) sNext) (sRet (fIf (fTest (fOp ltD (fProp 0 F_Turns_hers (fVar 0)) (fProp 0 F_Turns_hers (fVar 1)))) (fOp addD (fProp 0 F_Turns_hers (fVar 0)) (fC (.int 1))) (fC .non))))))
def F_against : List D → T D := runDef 2 3 B_against
theorem c_against {P : Program} {w : World} {K : PySem.W.Frag} {mg : Str → Option Value} {base : Heap} {cls : Nat → Addr} (W : Ws K mg cls) : C8.Cal P w K mg base 6 "against" (spF K cls F_against) [] := by
  refine def_of (N := N_against) (k := 5) W.d_against sc_against fun fa cdv A outer s H E hr => ?_
  have nd : N_against.Nodup := sc_against.nd
  refine ⟨_, (pss_cons (ps_expr (C8.pe_c (c_check_size W) hr (by decide) (by rfl) (pa_cons (pv 0) (pa_cons (pv 1) pa_nil)))) (pss_cons (ps_setLc (i := 2) (by rfl) nd rfl rfl (sw_true rfl rfl rfl (by decide +kernel)) (pi_sqK K rfl (C8.pe_c (c_ways_later W) hr (by decide) (by rfl) (pa_cons (pv 0) (pa_cons (pv 1) pa_nil)))) (blkOk_by (N := N_against) (sc := C8.fnScope st_against) (own := [("which", 3), ("number", 4)]) (by decide +kernel)) (fun _ _ _ _ _ => (pg_tupK (n := 2) K rfl rfl (pgs_cons (pg_name (i := 3) nd rfl (Or.inl rfl) (Or.inr rfl)) (pgs_cons (pg_name (i := 4) nd rfl (Or.inl rfl) (Or.inr rfl)) pgs_nil)))) (fun _ _ _ _ _ => (pts_one (pt_cmpR op_gt (pv 4) pe_int (nomark _)))) (fun _ _ _ _ _ => (pv 3))) (pss_cons (ps_if (pt_cmpR op_gt (pe_callB (call_lenK K rfl) (by rfl) W.z_len bt_len (pa_cons (pv 2) pa_nil)) pe_int (nomark _)) (pss_one (ps_ret (pe_ix (ix_K K rfl) (pv 2) pe_int (fun _ _ => rfl)))) pss_nil) (pss_one (ps_ret (pe_ifExp (pt_cmpR op_lt (pe_pr (c_Turns_hers W) (pv 0) hr (by decide)) (pe_pr (c_Turns_hers W) (pv 1) hr (by decide)) (nomark _)) (pe_op (op_addK K rfl) (pe_pr (c_Turns_hers W) (pv 0) hr (by decide)) pe_int) pe_non)))))), ?_⟩
  exact fun u me => (es_seq (es_drop (ev_call (ea_cons ev_var (ea_cons ev_var ea_nil)))) (es_seq (es_set (ev_lst (el_comp (ei_sqX ((ev_call (ea_cons ev_var (ea_cons ev_var ea_nil)))).x) (eg_tup (eg_cons eg_name (eg_cons eg_name eg_nil)) (gs_len (gs_len gs_len0))) (et_test (ev_op rop_gt (ev_var).x ((ev_c fun _ => .int _)).x).x) ev_var (by decide)))) (es_seq (es_if (et_test (ev_op rop_gt ((ev_fn rb_len (ev_var).x)).x ((ev_c fun _ => .int _)).x).x) (es_ret (ev_op rop_ix (ev_var).x ((ev_c fun _ => .int _)).x)) es_next) (es_ret (ev_if (et_test (ev_op rop_lt ((ev_prop ev_var)).x ((ev_prop ev_var)).x).x) (ev_op rop_add ((ev_prop ev_var)).x ((ev_c fun _ => .int _)).x) (ev_c fun _ => .non))))))

abbrev st_never_worse : Stmt := topS 44
abbrev N_never_worse : List Str := ["one", "other"]
theorem sc_never_worse : FnScope N_never_worse ["one", "other"] (C8.fnScope st_never_worse) := C8.fnScope_by (by decide +kernel)
def B_never_worse : DL.Env → T Out := (sRet (fIsN (aFn F_against (aCons (fVar 0) (aCons (fVar 1) aNil)))))
def F_never_worse : List D → T D := runDef 2 0 B_never_worse
theorem c_never_worse {P : Program} {w : World} {K : PySem.W.Frag} {mg : Str → Option Value} {base : Heap} {cls : Nat → Addr} (W : Ws K mg cls) : C8.Cal P w K mg base 7 "never_worse" (spF K cls F_never_worse) [] := by
  refine def_of (N := N_never_worse) (k := 6) W.d_never_worse sc_never_worse fun fa cdv A outer s H E hr => ?_
  have nd : N_never_worse.Nodup := sc_never_worse.nd
  refine ⟨_, (pss_one (ps_ret (pe_cmp (pc_isN (C8.pe_c (c_against W) hr (by decide) (by rfl) (pa_cons (pv 0) (pa_cons (pv 1) pa_nil))))))), ?_⟩
  exact fun u me => (es_ret (ev_isN ((ev_call (ea_cons ev_var (ea_cons ev_var ea_nil)))).x))

abbrev st_corners : Stmt := topS 34
abbrev N_corners : List Str := ["one", "other"]
theorem sc_corners : FnScope N_corners ["one", "other"] (C8.fnScope st_corners) := C8.fnScope_by (by decide +kernel)
def B_corners : DL.Env → T Out := (sRet (aFn F_set_of (aCons (fTup (aCons (fC (.int 0)) (aStar (fProp 0 F_Turns_ends (fVar 0)) (aStar (fProp 0 F_Turns_ends (fVar 1)) aNil)))) aNil)))
def F_corners : List D → T D := runDef 2 0 B_corners
theorem c_corners {P : Program} {w : World} {K : PySem.W.Frag} {mg : Str → Option Value} {base : Heap} {cls : Nat → Addr} (W : Ws K mg cls) : C8.Cal P w K mg base 3 "corners" (spF K cls F_corners) [] := by
  refine def_of (N := N_corners) (k := 2) W.d_corners sc_corners fun fa cdv A outer s H E hr => ?_
  have nd : N_corners.Nodup := sc_corners.nd
  refine ⟨_, (pss_one (ps_ret (C8.pe_c (c_set_of W) hr (by decide) (by rfl) (pa_cons (pe_tupN (pa_cons pe_int (pa_starK K rfl (pe_pr (c_Turns_ends W) (pv 0) hr (by decide)) (pa_starK K rfl (pe_pr (c_Turns_ends W) (pv 1) hr (by decide)) pa_nil)))) pa_nil)))), ?_⟩
  exact fun u me => (es_ret (ev_call (ea_cons (ev_tup (ea_cons (ev_c fun _ => .int _) (ea_star ((ev_prop ev_var)).x (ea_star ((ev_prop ev_var)).x ea_nil)))) ea_nil)))

abbrev st_ahead : Stmt := topS 27
abbrev N_ahead : List Str := ["turns", "number", "found", "end", "heir", "many"]
theorem sc_ahead : FnScope N_ahead ["turns", "number"] (C8.fnScope st_ahead) := C8.fnScope_by (by decide +kernel)
def B_ahead : DL.Env → T Out := (sSeq (sSet 2 (fC (.int 0))) (sSeq (sFor (iZip (fProp 0 F_Turns_runs (fVar 0)) (fProp 0 F_Turns_ends (fVar 0))) (gTupD (gsCons (gTupD (gsCons (gSet 4) (gsCons (gSet 5) gsNil))) (gsCons (gSet 3) gsNil))) (sIf (fTest (fOp eqD (fVar 4) (fC (.str (PySem.Str.ofString "a"))))) (sAug 2 (fun i j => i + j) (aFn max2D (aCons (fC (.int 0)) (aCons (aFn min2D (aCons (fVar 5) (aCons (fOp addD (fOp subD (fVar 1) (fVar 3)) (fVar 5)) aNil))) aNil)))) sNext)) (sRet (fVar 2))))
def F_ahead : List D → T D := runDef 2 4 B_ahead
theorem c_ahead {P : Program} {w : World} {K : PySem.W.Frag} {mg : Str → Option Value} {base : Heap} {cls : Nat → Addr} (W : Ws K mg cls) : C8.Cal P w K mg base 3 "ahead" (spF K cls F_ahead) [] := by
  refine def_of (N := N_ahead) (k := 2) W.d_ahead sc_ahead fun fa cdv A outer s H E hr => ?_
  have nd : N_ahead.Nodup := sc_ahead.nd
  refine ⟨_, (pss_cons (ps_set (i := 2) nd rfl (Or.inl rfl) pe_int) (pss_cons (ps_for PassesOwn.never rfl (pi_zpK K rfl (by rfl) W.z_zip (pe_pr (c_Turns_runs W) (pv 0) hr (by decide)) (pe_pr (c_Turns_ends W) (pv 0) hr (by decide))) (pg_tupK (n := 2) K rfl rfl (pgs_cons (pg_tupK (n := 2) K rfl rfl (pgs_cons (pg_name (i := 4) nd rfl (Or.inl rfl) (Or.inr rfl)) (pgs_cons (pg_name (i := 5) nd rfl (Or.inl rfl) (Or.inr rfl)) pgs_nil))) (pgs_cons (pg_name (i := 3) nd rfl (Or.inl rfl) (Or.inr rfl)) pgs_nil))) (pss_one (ps_if (pt_cmpR (op_eqK K rfl (hu64 hr)) (pv 4) pe_str (nomark _)) (pss_one (ps_aug (i := 2) nd rfl (Or.inl rfl) (pe_callB (call_max2 (by rfl)) (by rfl) W.z_max bt_max (pa_cons pe_int (pa_cons (pe_callB (call_min2 (by rfl)) (by rfl) W.z_min bt_min (pa_cons (pv 5) (pa_cons (pe_op (op_addK K rfl) (pe_op op_sub (pv 1) (pv 3)) (pv 5)) pa_nil))) pa_nil))) ip_add)) pss_nil))) (pss_one (ps_ret (pv 2))))), ?_⟩
  exact fun u me => (es_seq (es_set (ev_c fun _ => .int _)) (es_seq (es_for (ei_zp (ev_prop ev_var) (ev_prop ev_var)) (gs_tup (gs_cons (gs_tup (gs_cons gs_name (gs_cons gs_name gs_nil)) (gs_len (gs_len gs_len0))) (gs_cons gs_name gs_nil)) (gs_len (gs_len gs_len0))) (es_if (et_test (ev_op rop_eq (ev_var).x ((ev_c fun _ => .str _)).x).x) (es_aug ((ev_fnA rb_max2 (ea_cons (ev_c fun _ => .int _) (ea_cons (ev_fnA rb_min2 (ea_cons ev_var (ea_cons (ev_op rop_add ((ev_op rop_sub (ev_var).x (ev_var).x)).x (ev_var).x) ea_nil))) ea_nil)))).x) es_next)) (es_ret ev_var)))

abbrev st_is_above : Stmt := topS 49
abbrev N_is_above : List Str := ["one", "other", "number"]
theorem sc_is_above : FnScope N_is_above ["one", "other"] (C8.fnScope st_is_above) := C8.fnScope_by (by decide +kernel)
def B_is_above : DL.Env → T Out := (sSeq (sDrop (aFn F_check_size (aCons (fVar 0) (aCons (fVar 1) aNil)))) (sRet (fFn allD (fOfL (fComp (iSeq (aFn F_corners (aCons (fVar 0) (aCons (fVar 1) aNil)))) (gSet 2) fYes (fOp geD (aFn F_ahead (aCons (fVar 0) (aCons (fVar 2) aNil))) (aFn F_ahead (aCons (fVar 1) (aCons (fVar 2) aNil)))) [2])))))
def F_is_above : List D → T D := runDef 2 1 B_is_above
theorem c_is_above {P : Program} {w : World} {K : PySem.W.Frag} {mg : Str → Option Value} {base : Heap} {cls : Nat → Addr} (W : Ws K mg cls) : C8.Cal P w K mg base 4 "is_above" (spF K cls F_is_above) [] := by
  refine def_of (N := N_is_above) (k := 3) W.d_is_above sc_is_above fun fa cdv A outer s H E hr => ?_
  have nd : N_is_above.Nodup := sc_is_above.nd
  refine ⟨_, (pss_cons (ps_expr (C8.pe_c (c_check_size W) hr (by decide) (by rfl) (pa_cons (pv 0) (pa_cons (pv 1) pa_nil)))) (pss_one (ps_ret (pe_callB (cr_allK K rfl (by rfl)) (by rfl) W.z_all bt_all (pa_cons (pe_lc (by rfl) nd (pi_sqK K rfl (C8.pe_c (c_corners W) hr (by decide) (by rfl) (pa_cons (pv 0) (pa_cons (pv 1) pa_nil)))) (blkOk_by (N := N_is_above) (sc := C8.fnScope st_is_above) (own := [("number", 2)]) (by decide +kernel)) (fun _ _ _ _ _ => (pg_name (i := 2) nd rfl (Or.inl rfl) (Or.inr rfl))) (fun _ _ _ _ _ => pts_nil) (fun _ _ _ _ _ => (pe_cmpR op_ge (C8.pe_c (c_ahead W) hr (by decide) (by rfl) (pa_cons (pv 0) (pa_cons (pv 2) pa_nil))) (C8.pe_c (c_ahead W) hr (by decide) (by rfl) (pa_cons (pv 1) (pa_cons (pv 2) pa_nil))) (nomark _)))) pa_nil))))), ?_⟩
  exact fun u me => (es_seq (es_drop (ev_call (ea_cons ev_var (ea_cons ev_var ea_nil)))) (es_ret (ev_fn rb_all ((ev_lst (el_comp (ei_sqX ((ev_call (ea_cons ev_var (ea_cons ev_var ea_nil)))).x) eg_name et_yes (ev_op rop_ge ((ev_call (ea_cons ev_var (ea_cons ev_var ea_nil)))).x ((ev_call (ea_cons ev_var (ea_cons ev_var ea_nil)))).x) (by decide)))).x)))

abbrev st__law_turns : Stmt := topS 60
abbrev N__law_turns : List Str := ["whose", "heir", "place", "own"]
theorem sc__law_turns : FnScope N__law_turns ["whose", "heir"] (C8.fnScope st__law_turns) := C8.fnScope_by (by decide +kernel)
def B__law_turns : DL.Env → T Out := (sRet (fOfL (fComp (iEnum (fVar 0)) (gTupD (gsCons (gSet 2) (gsCons (gSet 3) gsNil))) (fTest (fOp eqD (fVar 3) (fVar 1))) (fOp addD (fVar 2) (fC (.int 1))) [2, 3])))
def F__law_turns : List D → T D := runDef 2 2 B__law_turns
theorem c__law_turns {P : Program} {w : World} {K : PySem.W.Frag} {mg : Str → Option Value} {base : Heap} {cls : Nat → Addr} (W : Ws K mg cls) : C8.Cal P w K mg base 1 "_law_turns" (spF K cls F__law_turns) [] := by
  refine def_of (N := N__law_turns) (k := 0) W.d__law_turns sc__law_turns fun fa cdv A outer s H E hr => ?_
  have nd : N__law_turns.Nodup := sc__law_turns.nd
  refine ⟨_, (pss_one (ps_ret (pe_lc (by rfl) nd (pi_enK K rfl (by rfl) W.z_enumerate (pv 0)) (blkOk_by (N := N__law_turns) (sc := C8.fnScope st__law_turns) (own := [("place", 2), ("own", 3)]) (by decide +kernel)) (fun _ _ _ _ _ => (pg_tupK (n := 2) K rfl rfl (pgs_cons (pg_name (i := 2) nd rfl (Or.inl rfl) (Or.inr rfl)) (pgs_cons (pg_name (i := 3) nd rfl (Or.inl rfl) (Or.inr rfl)) pgs_nil)))) (fun _ _ _ _ _ => (pts_one (pt_cmpR (op_eqK K rfl (hu64 hr)) (pv 3) (pv 1) (nomark _)))) (fun _ _ _ _ _ => (pe_op (op_addK K rfl) (pv 2) pe_int))))), ?_⟩
  exact fun u me => (es_ret (ev_lst (el_comp (ei_enX (ev_var).x) (eg_tup (eg_cons eg_name (eg_cons eg_name eg_nil)) (gs_len (gs_len gs_len0))) (et_test (ev_op rop_eq (ev_var).x (ev_var).x).x) (ev_op rop_add (ev_var).x ((ev_c fun _ => .int _)).x) (by decide))))

abbrev st_swapped : Stmt := topS 30
abbrev N_swapped : List Str := ["turns", "heir", "number"]
theorem sc_swapped : FnScope N_swapped ["turns"] (C8.fnScope st_swapped) := C8.fnScope_by (by decide +kernel)
def B_swapped : DL.Env → T Out := (sRet (fMake 0 (aCons (fOfL (fComp (iSeq (fProp 0 F_Turns_runs (fVar 0))) (gTupD (gsCons (gSet 1) (gsCons (gSet 2) gsNil))) fYes (fTup (aCons (fIf (fTest (fOp eqD (fVar 1) (fC (.str (PySem.Str.ofString "a"))))) (fC (.str (PySem.Str.ofString "b"))) (fC (.str (PySem.Str.ofString "a")))) (aCons (fVar 2) aNil))) [1, 2])) aNil) I_Turns_init))
def F_swapped : List D → T D := runDef 1 2 B_swapped
theorem c_swapped {P : Program} {w : World} {K : PySem.W.Frag} {mg : Str → Option Value} {base : Heap} {cls : Nat → Addr} (W : Ws K mg cls) : C8.Cal P w K mg base 10 "swapped" (spF K cls F_swapped) [] := by
  refine def_of (N := N_swapped) (k := 9) W.d_swapped sc_swapped fun fa cdv A outer s H E hr => ?_
  have nd : N_swapped.Nodup := sc_swapped.nd
  refine ⟨_, (pss_one (ps_ret (C8.pe_mk (c_Turns_init W) hr (by decide) (by rfl) (pa_cons (pe_lc (by rfl) nd (pi_sqK K rfl (pe_pr (c_Turns_runs W) (pv 0) hr (by decide))) (blkOk_by (N := N_swapped) (sc := C8.fnScope st_swapped) (own := [("heir", 1), ("number", 2)]) (by decide +kernel)) (fun _ _ _ _ _ => (pg_tupK (n := 2) K rfl rfl (pgs_cons (pg_name (i := 1) nd rfl (Or.inl rfl) (Or.inr rfl)) (pgs_cons (pg_name (i := 2) nd rfl (Or.inl rfl) (Or.inr rfl)) pgs_nil)))) (fun _ _ _ _ _ => pts_nil) (fun _ _ _ _ _ => (pe_tupN (pa_cons (pe_ifExp (pt_cmpR (op_eqK K rfl (hu64 hr)) (pv 1) pe_str (nomark _)) pe_str pe_str) (pa_cons (pv 2) pa_nil))))) pa_nil)))), ?_⟩
  exact fun u me => (es_ret (ev_make (ea_cons (ev_lst (el_comp (ei_sqX ((ev_prop ev_var)).x) (eg_tup (eg_cons eg_name (eg_cons eg_name eg_nil)) (gs_len (gs_len gs_len0))) et_yes (ev_tup (ea_cons (ev_if (et_test (ev_op rop_eq (ev_var).x ((ev_c fun _ => .str _)).x).x) (ev_c fun _ => .str _) (ev_c fun _ => .str _)) (ea_cons ev_var ea_nil))) (by decide))) ea_nil)))

abbrev st_most_worse : Stmt := topS 46
abbrev N_most_worse : List Str := ["one", "other", "which", "number"]
theorem sc_most_worse : FnScope N_most_worse ["one", "other"] (C8.fnScope st_most_worse) := C8.fnScope_by (by decide +kernel)
def B_most_worse : DL.Env → T Out := (sSeq (sDrop (aFn F_check_size (aCons (fVar 0) (aCons (fVar 1) aNil)))) (sSeq (sIf (fTest (fOp ltD (fProp 0 F_Turns_hers (fVar 0)) (fProp 0 F_Turns_hers (fVar 1)))) (sRet (fC .non)) sNext) (sRet (fFn maxLD (fOfL (fLst (aCons (fC (.int 0)) (aStar (fOfL (fComp (iSeq (aFn F_ways_later (aCons (fVar 0) (aCons (fVar 1) aNil)))) (gTupD (gsCons (gSet 2) (gsCons (gSet 3) gsNil))) fYes (fVar 3) [2, 3])) aNil))))))))
def F_most_worse : List D → T D := runDef 2 2 B_most_worse
theorem c_most_worse {P : Program} {w : World} {K : PySem.W.Frag} {mg : Str → Option Value} {base : Heap} {cls : Nat → Addr} (W : Ws K mg cls) : C8.Cal P w K mg base 6 "most_worse" (spF K cls F_most_worse) [] := by
  refine def_of (N := N_most_worse) (k := 5) W.d_most_worse sc_most_worse fun fa cdv A outer s H E hr => ?_
  have nd : N_most_worse.Nodup := sc_most_worse.nd
  refine ⟨_, (pss_cons (ps_expr (C8.pe_c (c_check_size W) hr (by decide) (by rfl) (pa_cons (pv 0) (pa_cons (pv 1) pa_nil)))) (pss_cons (ps_if (pt_cmpR op_lt (pe_pr (c_Turns_hers W) (pv 0) hr (by decide)) (pe_pr (c_Turns_hers W) (pv 1) hr (by decide)) (nomark _)) (pss_one (ps_ret pe_non)) pss_nil) (pss_one (ps_ret (pe_callB (cr_maxK K rfl (by rfl)) (by rfl) W.z_max bt_max (pa_cons (pe_lst (pa_cons pe_int (pa_starK K rfl (pe_lc (by rfl) nd (pi_sqK K rfl (C8.pe_c (c_ways_later W) hr (by decide) (by rfl) (pa_cons (pv 0) (pa_cons (pv 1) pa_nil)))) (blkOk_by (N := N_most_worse) (sc := C8.fnScope st_most_worse) (own := [("which", 2), ("number", 3)]) (by decide +kernel)) (fun _ _ _ _ _ => (pg_tupK (n := 2) K rfl rfl (pgs_cons (pg_name (i := 2) nd rfl (Or.inl rfl) (Or.inr rfl)) (pgs_cons (pg_name (i := 3) nd rfl (Or.inl rfl) (Or.inr rfl)) pgs_nil)))) (fun _ _ _ _ _ => pts_nil) (fun _ _ _ _ _ => (pv 3))) pa_nil))) pa_nil)))))), ?_⟩
  exact fun u me => (es_seq (es_drop (ev_call (ea_cons ev_var (ea_cons ev_var ea_nil)))) (es_seq (es_if (et_test (ev_op rop_lt ((ev_prop ev_var)).x ((ev_prop ev_var)).x).x) (es_ret (ev_c fun _ => .non)) es_next) (es_ret (ev_fn rb_max ((ev_lst (el_lst (ea_cons (ev_c fun _ => .int _) (ea_star ((ev_lst (el_comp (ei_sqX ((ev_call (ea_cons ev_var (ea_cons ev_var ea_nil)))).x) (eg_tup (eg_cons eg_name (eg_cons eg_name eg_nil)) (gs_len (gs_len gs_len0))) et_yes ev_var (by decide)))).x ea_nil))))).x))))

abbrev st_law : Stmt := topS 65
abbrev N_law : List Str := ["script", "urn", "size", "things", "rows", "orders", "hers_so", "hers", "shown", "up", "told", "late", "one", "other", "seen", "harm", "his", "k", "side", "takes", "worse", "mine", "yours", "near", "far", "turn", "row", "own"]
theorem sc_law : FnScope N_law ["script"] (C8.fnScope st_law) := C8.fnScope_by (by decide +kernel)
def B_law : DL.Env → T Out := (sSeq (sSet 2 (fOp addD (fC (.int 1)) (aFn F__law_take (aCons (fVar 1) (aCons (fC (.int 4)) aNil))))) (sSeq (sSet 3 (fSl (fTup (aCons (fC (.str (PySem.Str.ofString "p"))) (aCons (fC (.str (PySem.Str.ofString "q"))) (aCons (fC (.str (PySem.Str.ofString "r"))) (aCons (fC (.str (PySem.Str.ofString "s"))) aNil))))) oNo (oSome (fVar 2)))) (sSeq (sSet 4 (fOfL (fComp (iRange1 (aCons (fC (.int 2)) aNil)) (gSet 18) fYes (aFn F__law_heirs (aCons (fVar 1) (aCons (fVar 2) aNil))) [18]))) (sSeq (sParVV 12 13 (aFn F_turns_of (aCons (fOp ixD (fVar 4) (fC (.int 0))) aNil)) (aFn F_turns_of (aCons (fOp ixD (fVar 4) (fC (.int 1))) aNil))) (sSeq (sSet 5 (aFn F__law_orders (aCons (fVar 3) aNil))) (sSeq (sSet 6 (fIf (fTest (fOp ltD (fVar 2) (fC (.int 4)))) (fVar 5) (fOp addD (fOfL (fComp (iRange1 (aCons (fC (.int 8)) aNil)) (gSet 25) fYes (aFn F__law_list (aCons (fVar 1) (aCons (fVar 3) aNil))) [25])) (fOfL (fLst (aCons (fOp ixD (fVar 5) (fC (.int 0))) aNil)))))) (sSeq (sUnp (fTup (aCons (fC (.bl false)) (aCons (fC (.bl false)) aNil))) (gTupD (gsCons (gSet 14) (gsCons (gSet 15) gsNil)))) (sSeq (sFor (iSeq (fVar 6)) (gSet 7) (sFor (iSeq (fVar 5)) (gSet 16) (sSeq (sSet 19 (fOfL (fComp (iSeq (fVar 4)) (gSet 26) fYes (aFn F__law_plain (aCons (fVar 26) (aCons (fVar 7) (aCons (fVar 16) aNil)))) [26]))) (sSeq (sUnp (fOfL (fComp (iZip (fVar 4) (fVar 19)) (gTupD (gsCons (gSet 26) (gsCons (gSet 27) gsNil))) fYes (aFn F__law_share (aCons (fVar 26) (aCons (fVar 27) (aCons (fC (.str (PySem.Str.ofString "a"))) aNil)))) [26, 27])) (gLstD (gsCons (gSet 23) (gsCons (gSet 24) gsNil)))) (sSeq (sSet 20 (aFn F__law_worse (aCons (fVar 7) (aCons (fVar 23) (aCons (fVar 24) aNil))))) (sSeq (sSet 14 (fOrV (fVar 14) (fNotN (fVar 20)))) (sSeq (sUnp (fOfL (fComp (iZip (fVar 4) (fVar 19)) (gTupD (gsCons (gSet 26) (gsCons (gSet 27) gsNil))) fYes (aFn F__law_share (aCons (fVar 26) (aCons (fVar 27) (aCons (fC (.str (PySem.Str.ofString "b"))) aNil)))) [26, 27])) (gLstD (gsCons (gSet 21) (gsCons (gSet 22) gsNil)))) (sSeq (sSet 15 (fOrV (fVar 15) (fNotN (aFn F__law_worse (aCons (fVar 16) (aCons (fVar 22) (aCons (fVar 21) aNil))))))) (sIf (fAnd (fTest (fOp eqD (aFn F__law_take (aCons (fVar 1) (aCons (fC (.int 20)) aNil))) (fC (.int 0)))) (fNot (fTest (aFn (F__law_same 6) (aCons (fOfL (fLst (aCons (aFn F_worse_at (aCons (fVar 12) (aCons (fVar 13) (aCons (fVar 7) (aCons (fVar 16) aNil))))) (aCons (aFn F_taken (aCons (fVar 12) (aCons (fVar 7) (aCons (fVar 16) aNil)))) aNil)))) (aCons (fOfL (fLst (aCons (fVar 20) (aCons (fOp ixD (fVar 19) (fC (.int 0))) aNil)))) aNil)))))) (sRet (fC (.bl false))) sNext))))))))) (sSeq (sSet 8 (fOfL (fComp (iSeq (fSl (fVar 5) oNo (oSome (fC (.int 3))))) (gSet 7) fYes (aFn F__law_worse (aCons (fVar 7) (aCons (aFn F__law_share (aCons (fOp ixD (fVar 4) (fC (.int 0))) (aCons (fVar 7) (aCons (fC (.str (PySem.Str.ofString "a"))) aNil)))) (aCons (aFn F__law_share (aCons (fOp ixD (fVar 4) (fC (.int 1))) (aCons (fVar 7) (aCons (fC (.str (PySem.Str.ofString "a"))) aNil)))) aNil)))) [7]))) (sSeq (sSet 9 (aFn F__law_above (aCons (fOp ixD (fVar 4) (fC (.int 0))) (aCons (fOp ixD (fVar 4) (fC (.int 1))) aNil)))) (sSeq (sIf (fOr (fTest (fOp neD (fNotN (fOp ixD (fVar 8) (fC (.int 0)))) (fNotV (fVar 9)))) (fOr (fTest (fOp neD (fFn lenSetD (fVar 8)) (fC (.int 1)))) (fAnd (fTest (fVar 14)) (fTest (fVar 9))))) (sRet (fC (.bl false))) sNext) (sSeq (sSet 10 (aFn F_never_worse (aCons (fVar 12) (aCons (fVar 13) aNil)))) (sSeq (sIf (fNot (fTest (aFn (F__law_same 6) (aCons (fOfL (fLst (aCons (fVar 10) (aCons (aFn F_is_above (aCons (fVar 12) (aCons (fVar 13) aNil))) (aCons (fIsN (aFn F_against (aCons (fVar 12) (aCons (fVar 13) aNil)))) aNil))))) (aCons (fOfL (fLst (aCons (fVar 9) (aCons (fVar 9) (aCons (fVar 9) aNil))))) aNil))))) (sRet (fC (.bl false))) sNext) (sSeq (sIf (fNot (fTest (fVar 9))) (sSeq (sSet 17 (aFn F_against (aCons (fVar 12) (aCons (fVar 13) aNil)))) (sSeq (sParVV 21 22 (aFn F__law_turns (aCons (fOp ixD (fVar 4) (fC (.int 0))) (aCons (fC (.str (PySem.Str.ofString "a"))) aNil))) (aFn F__law_turns (aCons (fOp ixD (fVar 4) (fC (.int 1))) (aCons (fC (.str (PySem.Str.ofString "a"))) aNil)))) (sIf (fOr (fTest (fOp gtD (fVar 17) (fFn lenD (fVar 22)))) (fAnd (fTest (fOp leD (fVar 17) (fFn lenD (fVar 21)))) (fTest (fOp leD (fOp ixD (fVar 21) (fOp subD (fVar 17) (fC (.int 1)))) (fOp ixD (fVar 22) (fOp subD (fVar 17) (fC (.int 1)))))))) (sRet (fC (.bl false))) sNext))) sNext) (sSeq (sIf (fOr (fAnd (fTest (fVar 9)) (fTest (fVar 15))) (fNot (fTest (aFn (F__law_same 6) (aCons (aFn F_never_worse (aCons (aFn F_swapped (aCons (fVar 13) aNil)) (aCons (aFn F_swapped (aCons (fVar 12) aNil)) aNil))) (aCons (fVar 9) aNil)))))) (sRet (fC (.bl false))) sNext) (sSeq (sSet 11 (aFn F_most_worse (aCons (fVar 12) (aCons (fVar 13) aNil)))) (sSeq (sIf (fTest (fIsN (fVar 11))) (sRet (fOp ltD (fCnt (fOp ixD (fVar 4) (fC (.int 0))) (fC (.str (PySem.Str.ofString "a")))) (fCnt (fOp ixD (fVar 4) (fC (.int 1))) (fC (.str (PySem.Str.ofString "a")))))) sNext) (sRet (fAndV (aFn (F__law_same 6) (aCons (fOp eqD (fVar 11) (fC (.int 0))) (aCons (fVar 9) aNil))) (fOp geD (fCnt (fOp ixD (fVar 4) (fC (.int 0))) (fC (.str (PySem.Str.ofString "a")))) (fCnt (fOp ixD (fVar 4) (fC (.int 1))) (fC (.str (PySem.Str.ofString "a"))))))))))))))))))))))))
theorem law_rest {P : Program} {w : World} {K : PySem.W.Frag} {mg : Str → Option Value} {base : Heap} {cls : Nat → Addr} (W : Ws K mg cls) (fa : Addr) (cdv : Value) (A : Around) (outer : List PySem.Env) (s : Shared) (H : Hp) (E : XK) (hr : Room 10 (A.deeper (envOfC "law" (C8.fnScope st_law) s.heap.objs.size fa cdv))) :
    ∃ t, PSs (cxOf C8.CX0 P w K mg base N_law "law" (C8.fnScope st_law) fa cdv A outer s H E).nox (C8.fnBody st_law).tail t ∧ ∀ u me, EvS ⟨K, u, cls, me⟩ t B_law := by
  have nd : N_law.Nodup := sc_law.nd
  refine ⟨_, (pss_cons (ps_set (i := 2) nd rfl (Or.inr rfl) (pe_op (op_addK K rfl) pe_int (C8.pe_c (c__law_take W) hr (by decide) (by rfl) (pa_cons (pv 1) (pa_cons pe_int pa_nil))))) (pss_cons (ps_set (i := 3) nd rfl (Or.inr rfl) (pe_slice (sl_K K rfl) (pe_tupN (pa_cons pe_str (pa_cons pe_str (pa_cons pe_str (pa_cons pe_str pa_nil))))) po_none (po_some (pv 2)))) (pss_cons (ps_set (i := 4) nd rfl (Or.inr rfl) (pe_lc (by rfl) nd (pi_range1 (by rfl) W.z_range (pa_cons pe_int pa_nil)) (blkOk_by (N := N_law) (sc := C8.fnScope st_law) (own := [("side", 18)]) (by decide +kernel)) (fun _ _ _ _ _ => (pg_name (i := 18) nd rfl (Or.inl rfl) (Or.inr rfl))) (fun _ _ _ _ _ => pts_nil) (fun _ _ _ _ _ => (C8.pe_c (c__law_heirs W) hr (by decide) (by rfl) (pa_cons (pv 1) (pa_cons (pv 2) pa_nil)))))) (pss_cons (ps_par (i := 12) (j := 13) rfl nd rfl rfl (by decide) rfl rfl (pa_cons (C8.pe_c (c_turns_of W) hr (by decide) (by rfl) (pa_cons (pe_ix (ix_K K rfl) (pv 4) pe_int (fun _ _ => rfl)) pa_nil)) (pa_cons (C8.pe_c (c_turns_of W) hr (by decide) (by rfl) (pa_cons (pe_ix (ix_K K rfl) (pv 4) pe_int (fun _ _ => rfl)) pa_nil)) pa_nil)) (by rfl)) (pss_cons (ps_set (i := 5) nd rfl (Or.inl rfl) (C8.pe_c (c__law_orders W) hr (by decide) (by rfl) (pa_cons (pv 3) pa_nil))) (pss_cons (ps_set (i := 6) nd rfl (Or.inl rfl) (pe_ifExp (pt_cmpR op_lt (pv 2) pe_int (nomark _)) (pv 5) (pe_op (op_addK K rfl) (pe_lc (by rfl) nd (pi_range1 (by rfl) W.z_range (pa_cons pe_int pa_nil)) (blkOk_by (N := N_law) (sc := C8.fnScope st_law) (own := [("turn", 25)]) (by decide +kernel)) (fun _ _ _ _ _ => (pg_name (i := 25) nd rfl (Or.inl rfl) (Or.inr rfl))) (fun _ _ _ _ _ => pts_nil) (fun _ _ _ _ _ => (C8.pe_c (c__law_list W) hr (by decide) (by rfl) (pa_cons (pv 1) (pa_cons (pv 3) pa_nil))))) (pe_lst (pa_cons (pe_ix (ix_K K rfl) (pv 5) pe_int (fun _ _ => rfl)) pa_nil))))) (pss_cons (ps_asg (pe_tupN (pa_cons pe_bl (pa_cons pe_bl pa_nil))) (pg_tupK (n := 2) K rfl rfl (pgs_cons (pg_name (i := 14) nd rfl (Or.inl rfl) (Or.inr rfl)) (pgs_cons (pg_name (i := 15) nd rfl (Or.inl rfl) (Or.inr rfl)) pgs_nil)))) (pss_cons (ps_for PassesOwn.never rfl (pi_sqK K rfl (pv 6)) (pg_name (i := 7) nd rfl (Or.inr rfl) (Or.inl rfl)) (pss_one (ps_for PassesOwn.never rfl (pi_sqK K rfl (pv 5)) (pg_name (i := 16) nd rfl (Or.inr rfl) (Or.inl rfl)) (pss_cons (ps_setLc (i := 19) (by rfl) nd rfl rfl (sw_true rfl rfl rfl (by decide +kernel)) (pi_sqK K rfl (pv 4)) (blkOk_by (N := N_law) (sc := C8.fnScope st_law) (own := [("row", 26)]) (by decide +kernel)) (fun _ _ _ _ _ => (pg_name (i := 26) nd rfl (Or.inl rfl) (Or.inr rfl))) (fun _ _ _ _ _ => pts_nil) (fun _ _ _ _ _ => (C8.pe_c (c__law_plain W) hr (by decide) (by rfl) (pa_cons (pv 26) (pa_cons (pv 7) (pa_cons (pv 16) pa_nil)))))) (pss_cons (ps_asg (pe_lc (by rfl) nd (pi_zpK K rfl (by rfl) W.z_zip (pv 4) (pv 19)) (blkOk_by (N := N_law) (sc := C8.fnScope st_law) (own := [("row", 26), ("own", 27)]) (by decide +kernel)) (fun _ _ _ _ _ => (pg_tupK (n := 2) K rfl rfl (pgs_cons (pg_name (i := 26) nd rfl (Or.inl rfl) (Or.inr rfl)) (pgs_cons (pg_name (i := 27) nd rfl (Or.inl rfl) (Or.inr rfl)) pgs_nil)))) (fun _ _ _ _ _ => pts_nil) (fun _ _ _ _ _ => (C8.pe_c (c__law_share W) hr (by decide) (by rfl) (pa_cons (pv 26) (pa_cons (pv 27) (pa_cons pe_str pa_nil)))))) (pg_lstK (n := 2) K rfl rfl (pgs_cons (pg_name (i := 23) nd rfl (Or.inl rfl) (Or.inr rfl)) (pgs_cons (pg_name (i := 24) nd rfl (Or.inl rfl) (Or.inr rfl)) pgs_nil)))) (pss_cons (ps_set (i := 20) nd rfl (Or.inl rfl) (C8.pe_c (c__law_worse W) hr (by decide) (by rfl) (pa_cons (pv 7) (pa_cons (pv 23) (pa_cons (pv 24) pa_nil))))) (pss_cons (ps_set (i := 14) nd rfl (Or.inl rfl) (pe_or (pv 14) (pe_one (pe_cmp (pc_notN (pv 20)))))) (pss_cons (ps_asg (pe_lc (by rfl) nd (pi_zpK K rfl (by rfl) W.z_zip (pv 4) (pv 19)) (blkOk_by (N := N_law) (sc := C8.fnScope st_law) (own := [("row", 26), ("own", 27)]) (by decide +kernel)) (fun _ _ _ _ _ => (pg_tupK (n := 2) K rfl rfl (pgs_cons (pg_name (i := 26) nd rfl (Or.inl rfl) (Or.inr rfl)) (pgs_cons (pg_name (i := 27) nd rfl (Or.inl rfl) (Or.inr rfl)) pgs_nil)))) (fun _ _ _ _ _ => pts_nil) (fun _ _ _ _ _ => (C8.pe_c (c__law_share W) hr (by decide) (by rfl) (pa_cons (pv 26) (pa_cons (pv 27) (pa_cons pe_str pa_nil)))))) (pg_lstK (n := 2) K rfl rfl (pgs_cons (pg_name (i := 21) nd rfl (Or.inl rfl) (Or.inr rfl)) (pgs_cons (pg_name (i := 22) nd rfl (Or.inl rfl) (Or.inr rfl)) pgs_nil)))) (pss_cons (ps_set (i := 15) nd rfl (Or.inl rfl) (pe_or (pv 15) (pe_one (pe_cmp (pc_notN (C8.pe_c (c__law_worse W) hr (by decide) (by rfl) (pa_cons (pv 16) (pa_cons (pv 22) (pa_cons (pv 21) pa_nil))))))))) (pss_one (ps_if (PW.pt (pw_and (pt_cmpR (op_eqK K rfl (hu64 hr)) (C8.pe_c (c__law_take W) hr (by decide) (by rfl) (pa_cons (pv 1) (pa_cons pe_int pa_nil))) pe_int (nomark _)) (pw_and1 (pt_not (pt_val (C8.pe_c (c__law_same W 6) hr (by decide) (by rfl) (pa_cons (pe_lst (pa_cons (C8.pe_c (c_worse_at W) hr (by decide) (by rfl) (pa_cons (pv 12) (pa_cons (pv 13) (pa_cons (pv 7) (pa_cons (pv 16) pa_nil))))) (pa_cons (C8.pe_c (c_taken W) hr (by decide) (by rfl) (pa_cons (pv 12) (pa_cons (pv 7) (pa_cons (pv 16) pa_nil)))) pa_nil))) (pa_cons (pe_lst (pa_cons (pv 20) (pa_cons (pe_ix (ix_K K rfl) (pv 19) pe_int (fun _ _ => rfl)) pa_nil))) pa_nil)))))))) (pss_one (ps_ret pe_bl)) pss_nil))))))))))) (pss_cons (ps_setLc (i := 8) (by rfl) nd rfl rfl (sw_true rfl rfl rfl (by decide +kernel)) (pi_sqK K rfl (pe_slice (sl_K K rfl) (pv 5) po_none (po_some pe_int))) (blkOk_by (N := N_law) (sc := C8.fnScope st_law) (own := [("hers", 7)]) (by decide +kernel)) (fun _ _ _ _ _ => (pg_name (i := 7) nd rfl (Or.inl rfl) (Or.inr rfl))) (fun _ _ _ _ _ => pts_nil) (fun _ _ _ _ _ => (C8.pe_c (c__law_worse W) hr (by decide) (by rfl) (pa_cons (pv 7) (pa_cons (C8.pe_c (c__law_share W) hr (by decide) (by rfl) (pa_cons (pe_ix (ix_K K rfl) (pv 4) pe_int (fun _ _ => rfl)) (pa_cons (pv 7) (pa_cons pe_str pa_nil)))) (pa_cons (C8.pe_c (c__law_share W) hr (by decide) (by rfl) (pa_cons (pe_ix (ix_K K rfl) (pv 4) pe_int (fun _ _ => rfl)) (pa_cons (pv 7) (pa_cons pe_str pa_nil)))) pa_nil)))))) (pss_cons (ps_set (i := 9) nd rfl (Or.inl rfl) (C8.pe_c (c__law_above W) hr (by decide) (by rfl) (pa_cons (pe_ix (ix_K K rfl) (pv 4) pe_int (fun _ _ => rfl)) (pa_cons (pe_ix (ix_K K rfl) (pv 4) pe_int (fun _ _ => rfl)) pa_nil)))) (pss_cons (ps_if (PW.pt (pw_or (pt_cmpR (op_neK K rfl (hu64 hr)) (pe_cmp (pc_notN (pe_ix (ix_K K rfl) (pv 8) pe_int (fun _ _ => rfl)))) (pe_not (pv 9)) (nomark _)) (pw_or (pt_cmpR (op_neK K rfl (hu64 hr)) (pe_callB (cr_lenSetK P w rfl rfl) (by rfl) W.z_len bt_len (pa_cons (pe_callTy (cr_setK K P w rfl rfl rfl (by rfl)) (by rfl) W.z_set bt_set (pa_cons (pv 8) pa_nil)) pa_nil)) pe_int (nomark _)) (pw_or1 (PW.pt (pw_and (pt_val (pv 14)) (pw_and1 (pt_val (pv 9))))))))) (pss_one (ps_ret pe_bl)) pss_nil) (pss_cons (ps_set (i := 10) nd rfl (Or.inl rfl) (C8.pe_c (c_never_worse W) hr (by decide) (by rfl) (pa_cons (pv 12) (pa_cons (pv 13) pa_nil)))) (pss_cons (ps_if (pt_not (pt_val (C8.pe_c (c__law_same W 6) hr (by decide) (by rfl) (pa_cons (pe_lst (pa_cons (pv 10) (pa_cons (C8.pe_c (c_is_above W) hr (by decide) (by rfl) (pa_cons (pv 12) (pa_cons (pv 13) pa_nil))) (pa_cons (pe_cmp (pc_isN (C8.pe_c (c_against W) hr (by decide) (by rfl) (pa_cons (pv 12) (pa_cons (pv 13) pa_nil))))) pa_nil)))) (pa_cons (pe_lst (pa_cons (pv 9) (pa_cons (pv 9) (pa_cons (pv 9) pa_nil)))) pa_nil))))) (pss_one (ps_ret pe_bl)) pss_nil) (pss_cons (ps_if (pt_not (pt_val (pv 9))) (pss_cons (ps_set (i := 17) nd rfl (Or.inl rfl) (C8.pe_c (c_against W) hr (by decide) (by rfl) (pa_cons (pv 12) (pa_cons (pv 13) pa_nil)))) (pss_cons (ps_par (i := 21) (j := 22) rfl nd rfl rfl (by decide) rfl rfl (pa_cons (C8.pe_c (c__law_turns W) hr (by decide) (by rfl) (pa_cons (pe_ix (ix_K K rfl) (pv 4) pe_int (fun _ _ => rfl)) (pa_cons pe_str pa_nil))) (pa_cons (C8.pe_c (c__law_turns W) hr (by decide) (by rfl) (pa_cons (pe_ix (ix_K K rfl) (pv 4) pe_int (fun _ _ => rfl)) (pa_cons pe_str pa_nil))) pa_nil)) (by rfl)) (pss_one (ps_if (PW.pt (pw_or (pt_cmpR op_gt (pv 17) (pe_callB (call_lenK K rfl) (by rfl) W.z_len bt_len (pa_cons (pv 22) pa_nil)) (nomark _)) (pw_or1 (PW.pt (pw_and (pt_cmpR op_le (pv 17) (pe_callB (call_lenK K rfl) (by rfl) W.z_len bt_len (pa_cons (pv 21) pa_nil)) (nomark _)) (pw_and1 (pt_cmpR op_le (pe_ix (ix_K K rfl) (pv 21) (pe_op op_sub (pv 17) pe_int) (fun _ _ => rfl)) (pe_ix (ix_K K rfl) (pv 22) (pe_op op_sub (pv 17) pe_int) (fun _ _ => rfl)) (nomark _)))))))) (pss_one (ps_ret pe_bl)) pss_nil)))) pss_nil) (pss_cons (ps_if (PW.pt (pw_or (PW.pt (pw_and (pt_val (pv 9)) (pw_and1 (pt_val (pv 15))))) (pw_or1 (pt_not (pt_val (C8.pe_c (c__law_same W 6) hr (by decide) (by rfl) (pa_cons (C8.pe_c (c_never_worse W) hr (by decide) (by rfl) (pa_cons (C8.pe_c (c_swapped W) hr (by decide) (by rfl) (pa_cons (pv 13) pa_nil)) (pa_cons (C8.pe_c (c_swapped W) hr (by decide) (by rfl) (pa_cons (pv 12) pa_nil)) pa_nil))) (pa_cons (pv 9) pa_nil)))))))) (pss_one (ps_ret pe_bl)) pss_nil) (pss_cons (ps_set (i := 11) nd rfl (Or.inl rfl) (C8.pe_c (c_most_worse W) hr (by decide) (by rfl) (pa_cons (pv 12) (pa_cons (pv 13) pa_nil)))) (pss_cons (ps_if (pt_cmp (pc_isN (pv 11))) (pss_one (ps_ret (pe_cmpR op_lt (pe_cntK K rfl (hu02 hr) (pe_ix (ix_K K rfl) (pv 4) pe_int (fun _ _ => rfl)) pe_str) (pe_cntK K rfl (hu02 hr) (pe_ix (ix_K K rfl) (pv 4) pe_int (fun _ _ => rfl)) pe_str) (nomark _)))) pss_nil) (pss_one (ps_ret (pe_and (C8.pe_c (c__law_same W 6) hr (by decide) (by rfl) (pa_cons (pe_cmpR (op_eqK K rfl (hu64 hr)) (pv 11) pe_int (nomark _)) (pa_cons (pv 9) pa_nil))) (pe_one (pe_cmpR op_ge (pe_cntK K rfl (hu02 hr) (pe_ix (ix_K K rfl) (pv 4) pe_int (fun _ _ => rfl)) pe_str) (pe_cntK K rfl (hu02 hr) (pe_ix (ix_K K rfl) (pv 4) pe_int (fun _ _ => rfl)) pe_str) (nomark _))))))))))))))))))))))), ?_⟩
  exact fun u me => (es_seq (es_set (ev_op rop_add ((ev_c fun _ => .int _)).x ((ev_call (ea_cons ev_var (ea_cons (ev_c fun _ => .int _) ea_nil)))).x)) (es_seq (es_set (ev_sl ((ev_tup (ea_cons (ev_c fun _ => .str _) (ea_cons (ev_c fun _ => .str _) (ea_cons (ev_c fun _ => .str _) (ea_cons (ev_c fun _ => .str _) ea_nil)))))).x eo_no (eo_some (ev_var).x))) (es_seq (es_set (ev_lst (el_comp ((ei_rg1 (ea_cons (ev_c fun _ => .int _) ea_nil))).x eg_name et_yes (ev_call (ea_cons ev_var (ea_cons ev_var ea_nil))) (by decide)))) (es_seq (es_parVV (ev_call (ea_cons (ev_op rop_ix (ev_var).x ((ev_c fun _ => .int _)).x) ea_nil)) (ev_call (ea_cons (ev_op rop_ix (ev_var).x ((ev_c fun _ => .int _)).x) ea_nil))) (es_seq (es_set (ev_call (ea_cons ev_var ea_nil))) (es_seq (es_set (ev_if (et_test (ev_op rop_lt (ev_var).x ((ev_c fun _ => .int _)).x).x) ev_var (ev_op rop_add ((ev_lst (el_comp ((ei_rg1 (ea_cons (ev_c fun _ => .int _) ea_nil))).x eg_name et_yes (ev_call (ea_cons ev_var (ea_cons ev_var ea_nil))) (by decide)))).x ((ev_lst (el_lst (ea_cons (ev_op rop_ix (ev_var).x ((ev_c fun _ => .int _)).x) ea_nil)))).x))) (es_seq (es_unp (ev_tup (ea_cons (ev_c fun _ => .bl _) (ea_cons (ev_c fun _ => .bl _) ea_nil))) (gs_tup (gs_cons gs_name (gs_cons gs_name gs_nil)) (gs_len (gs_len gs_len0)))) (es_seq (es_for (ei_sq ev_var) gs_name (es_for (ei_sq ev_var) gs_name (es_seq (es_set (ev_lst (el_comp (ei_sqX (ev_var).x) eg_name et_yes (ev_call (ea_cons ev_var (ea_cons ev_var (ea_cons ev_var ea_nil)))) (by decide)))) (es_seq (es_unp (ev_lst (el_comp (ei_zpX (ev_var).x (ev_var).x) (eg_tup (eg_cons eg_name (eg_cons eg_name eg_nil)) (gs_len (gs_len gs_len0))) et_yes (ev_call (ea_cons ev_var (ea_cons ev_var (ea_cons (ev_c fun _ => .str _) ea_nil)))) (by decide))) (gs_lst (gs_cons gs_name (gs_cons gs_name gs_nil)) (gs_len (gs_len gs_len0)))) (es_seq (es_set (ev_call (ea_cons ev_var (ea_cons ev_var (ea_cons ev_var ea_nil))))) (es_seq (es_set (ev_orV (ev_var).x (ev_notN (ev_var).x))) (es_seq (es_unp (ev_lst (el_comp (ei_zpX (ev_var).x (ev_var).x) (eg_tup (eg_cons eg_name (eg_cons eg_name eg_nil)) (gs_len (gs_len gs_len0))) et_yes (ev_call (ea_cons ev_var (ea_cons ev_var (ea_cons (ev_c fun _ => .str _) ea_nil)))) (by decide))) (gs_lst (gs_cons gs_name (gs_cons gs_name gs_nil)) (gs_len (gs_len gs_len0)))) (es_seq (es_set (ev_orV (ev_var).x (ev_notN ((ev_call (ea_cons ev_var (ea_cons ev_var (ea_cons ev_var ea_nil))))).x))) (es_if (et_and (et_test (ev_op rop_eq ((ev_call (ea_cons ev_var (ea_cons (ev_c fun _ => .int _) ea_nil)))).x ((ev_c fun _ => .int _)).x).x) (et_not (et_B ((ev_call (ea_cons (ev_lst (el_lst (ea_cons (ev_call (ea_cons ev_var (ea_cons ev_var (ea_cons ev_var (ea_cons ev_var ea_nil))))) (ea_cons (ev_call (ea_cons ev_var (ea_cons ev_var (ea_cons ev_var ea_nil)))) ea_nil)))) (ea_cons (ev_lst (el_lst (ea_cons ev_var (ea_cons (ev_op rop_ix (ev_var).x ((ev_c fun _ => .int _)).x) ea_nil)))) ea_nil)))).x))) (es_ret (ev_c fun _ => .bl _)) es_next))))))))) (es_seq (es_set (ev_lst (el_comp (ei_sqX ((ev_sl (ev_var).x eo_no (eo_some ((ev_c fun _ => .int _)).x))).x) eg_name et_yes (ev_call (ea_cons ev_var (ea_cons (ev_call (ea_cons (ev_op rop_ix (ev_var).x ((ev_c fun _ => .int _)).x) (ea_cons ev_var (ea_cons (ev_c fun _ => .str _) ea_nil)))) (ea_cons (ev_call (ea_cons (ev_op rop_ix (ev_var).x ((ev_c fun _ => .int _)).x) (ea_cons ev_var (ea_cons (ev_c fun _ => .str _) ea_nil)))) ea_nil)))) (by decide)))) (es_seq (es_set (ev_call (ea_cons (ev_op rop_ix (ev_var).x ((ev_c fun _ => .int _)).x) (ea_cons (ev_op rop_ix (ev_var).x ((ev_c fun _ => .int _)).x) ea_nil)))) (es_seq (es_if (et_or (et_test (ev_op rop_ne ((ev_notN ((ev_op rop_ix (ev_var).x ((ev_c fun _ => .int _)).x)).x)).x ((ev_notV (ev_var).x)).x).x) (et_or (et_test (ev_op rop_ne ((ev_lenSet (ev_var).x)).x ((ev_c fun _ => .int _)).x).x) (et_and (et_B (ev_var).x) (et_B (ev_var).x)))) (es_ret (ev_c fun _ => .bl _)) es_next) (es_seq (es_set (ev_call (ea_cons ev_var (ea_cons ev_var ea_nil)))) (es_seq (es_if (et_not (et_B ((ev_call (ea_cons (ev_lst (el_lst (ea_cons ev_var (ea_cons (ev_call (ea_cons ev_var (ea_cons ev_var ea_nil))) (ea_cons (ev_isN ((ev_call (ea_cons ev_var (ea_cons ev_var ea_nil)))).x) ea_nil))))) (ea_cons (ev_lst (el_lst (ea_cons ev_var (ea_cons ev_var (ea_cons ev_var ea_nil))))) ea_nil)))).x)) (es_ret (ev_c fun _ => .bl _)) es_next) (es_seq (es_if (et_not (et_B (ev_var).x)) (es_seq (es_set (ev_call (ea_cons ev_var (ea_cons ev_var ea_nil)))) (es_seq (es_parVV (ev_call (ea_cons (ev_op rop_ix (ev_var).x ((ev_c fun _ => .int _)).x) (ea_cons (ev_c fun _ => .str _) ea_nil))) (ev_call (ea_cons (ev_op rop_ix (ev_var).x ((ev_c fun _ => .int _)).x) (ea_cons (ev_c fun _ => .str _) ea_nil)))) (es_if (et_or (et_test (ev_op rop_gt (ev_var).x ((ev_fn rb_len (ev_var).x)).x).x) (et_and (et_test (ev_op rop_le (ev_var).x ((ev_fn rb_len (ev_var).x)).x).x) (et_test (ev_op rop_le ((ev_op rop_ix (ev_var).x ((ev_op rop_sub (ev_var).x ((ev_c fun _ => .int _)).x)).x)).x ((ev_op rop_ix (ev_var).x ((ev_op rop_sub (ev_var).x ((ev_c fun _ => .int _)).x)).x)).x).x))) (es_ret (ev_c fun _ => .bl _)) es_next))) es_next) (es_seq (es_if (et_or (et_and (et_B (ev_var).x) (et_B (ev_var).x)) (et_not (et_B ((ev_call (ea_cons (ev_call (ea_cons (ev_call (ea_cons ev_var ea_nil)) (ea_cons (ev_call (ea_cons ev_var ea_nil)) ea_nil))) (ea_cons ev_var ea_nil)))).x))) (es_ret (ev_c fun _ => .bl _)) es_next) (es_seq (es_set (ev_call (ea_cons ev_var (ea_cons ev_var ea_nil)))) (es_seq (es_if (et_B (ev_isN (ev_var).x).x) (es_ret (ev_op rop_lt ((ev_cnt ((ev_op rop_ix (ev_var).x ((ev_c fun _ => .int _)).x)).x ((ev_c fun _ => .str _)).x)).x ((ev_cnt ((ev_op rop_ix (ev_var).x ((ev_c fun _ => .int _)).x)).x ((ev_c fun _ => .str _)).x)).x)) es_next) (es_ret (ev_andV ((ev_call (ea_cons (ev_op rop_eq (ev_var).x ((ev_c fun _ => .int _)).x) (ea_cons ev_var ea_nil)))).x (ev_op rop_ge ((ev_cnt ((ev_op rop_ix (ev_var).x ((ev_c fun _ => .int _)).x)).x ((ev_c fun _ => .str _)).x)).x ((ev_cnt ((ev_op rop_ix (ev_var).x ((ev_c fun _ => .int _)).x)).x ((ev_c fun _ => .str _)).x)).x))))))))))))))))))))
theorem c_law {P : Program} {w : World} {K : PySem.W.Frag} {mg : Str → Option Value} {base : Heap} {cls : Nat → Addr} (W : Ws K mg cls) {f : Addr} {fd : FuncData} (F : C8.Def K mg "law" st_law f fd) (says : Says B_law 26) : FnOk P w K mg base C8.CX0 11 f fd ["script"] (spLaw K) := by
  refine C8.fn0 F.fn sc_law (fun vs H Q E h => law_len h) fun cdv A outer s H vs Q E hr h => ?_
  obtain ⟨t, h1, h2⟩ := law_rest (P := P) (w := w) (base := base) W f cdv A outer s H E hr
  have nd : N_law.Nodup := sc_law.nd
  refine ⟨_, pss_cons (ps_set (i := 1) nd rfl (Or.inr rfl) (C8.pe_c (c__law_box W) hr (by decide) (by rfl) (pa_cons (C8.pe_c (c__law_cells W) hr (by decide) (by rfl) (pa_cons (pv 0) (pa_cons pe_int pa_nil))) (pa_cons pe_int pa_nil)))) h1, ?_⟩
  exact law_run h2 says h
end LW
end

section
set_option maxRecDepth 100000
open PySem PySem.Spec PyProof.Rows L2 DR DL
open LW in
set_option maxHeartbeats 0 in
theorem LW.all_mk {P : Program} {w : World} {K : PySem.W.Frag} {h : Heap} {mg : Str → Option Value} {fa : Addr} {C_Turns : Addr}
  {p_own_ends : Addr}
  {p_own_runs : Addr}
  {T_HEIRS_turns : Addr} {n_HEIRS_turns : Nat} {sl_HEIRS_turns : Array (Option Value)} {t0_HEIRS_turns t1_HEIRS_turns : Tok}
  {t_HERS : Tok}
  {f__law_of : Addr} {oc__law_of kV__law_of dc__law_of pm__law_of cd__law_of ct__law_of : Value} {od__law_of an__law_of : Option Addr} {sl__law_of : Array (Option Value)}
  {f__law_heirs : Addr} {oc__law_heirs kV__law_heirs dc__law_heirs pm__law_heirs cd__law_heirs ct__law_heirs : Value} {od__law_heirs an__law_heirs : Option Addr} {sl__law_heirs : Array (Option Value)}
  {f_tupled : Addr} {oc_tupled kV_tupled dc_tupled pm_tupled cd_tupled ct_tupled : Value} {od_tupled an_tupled : Option Addr} {sl_tupled : Array (Option Value)}
  {f_joined_runs : Addr} {oc_joined_runs kV_joined_runs dc_joined_runs pm_joined_runs cd_joined_runs ct_joined_runs : Value} {od_joined_runs an_joined_runs : Option Addr} {sl_joined_runs : Array (Option Value)}
  {f_ends_of : Addr} {oc_ends_of kV_ends_of dc_ends_of pm_ends_of cd_ends_of ct_ends_of : Value} {od_ends_of an_ends_of : Option Addr} {sl_ends_of : Array (Option Value)}
  {f_Turns_init : Addr} {oc_Turns_init kV_Turns_init dc_Turns_init pm_Turns_init cd_Turns_init ct_Turns_init : Value} {od_Turns_init an_Turns_init : Option Addr} {sl_Turns_init : Array (Option Value)}
  {T_Turns_init : Addr} {cT_Turns_init : Value} {dT_Turns_init : Option Addr} {mT_Turns_init : Nat} {sT_Turns_init : Array (Option Value)} {v0_Turns_init : Value}
  {f_turns_of : Addr} {oc_turns_of kV_turns_of dc_turns_of pm_turns_of cd_turns_of ct_turns_of : Value} {od_turns_of an_turns_of : Option Addr} {sl_turns_of : Array (Option Value)}
  {f__law_orders : Addr} {oc__law_orders kV__law_orders dc__law_orders pm__law_orders cd__law_orders ct__law_orders : Value} {od__law_orders an__law_orders : Option Addr} {sl__law_orders : Array (Option Value)}
  {f__law_list : Addr} {oc__law_list kV__law_list dc__law_list pm__law_list cd__law_list ct__law_list : Value} {od__law_list an__law_list : Option Addr} {sl__law_list : Array (Option Value)}
  {f__law_plain : Addr} {oc__law_plain kV__law_plain dc__law_plain pm__law_plain cd__law_plain ct__law_plain : Value} {od__law_plain an__law_plain : Option Addr} {sl__law_plain : Array (Option Value)}
  {f__law_share : Addr} {oc__law_share kV__law_share dc__law_share pm__law_share cd__law_share ct__law_share : Value} {od__law_share an__law_share : Option Addr} {sl__law_share : Array (Option Value)}
  {f__law_places : Addr} {oc__law_places kV__law_places dc__law_places pm__law_places cd__law_places ct__law_places : Value} {od__law_places an__law_places : Option Addr} {sl__law_places : Array (Option Value)}
  {f__law_worse : Addr} {oc__law_worse kV__law_worse dc__law_worse pm__law_worse cd__law_worse ct__law_worse : Value} {od__law_worse an__law_worse : Option Addr} {sl__law_worse : Array (Option Value)}
  {f__law_same : Addr} {oc__law_same kV__law_same dc__law_same pm__law_same cd__law_same ct__law_same : Value} {od__law_same an__law_same : Option Addr} {sl__law_same : Array (Option Value)}
  {f_Turns_size : Addr} {oc_Turns_size kV_Turns_size dc_Turns_size pm_Turns_size cd_Turns_size ct_Turns_size : Value} {od_Turns_size an_Turns_size : Option Addr} {sl_Turns_size : Array (Option Value)}
  {p_Turns_size : Addr} {r_Turns_size : List Value}
  {f_set_of : Addr} {oc_set_of kV_set_of dc_set_of pm_set_of cd_set_of ct_set_of : Value} {od_set_of an_set_of : Option Addr} {sl_set_of : Array (Option Value)}
  {f_check_lists : Addr} {oc_check_lists kV_check_lists dc_check_lists pm_check_lists cd_check_lists ct_check_lists : Value} {od_check_lists an_check_lists : Option Addr} {sl_check_lists : Array (Option Value)}
  {f_Turns_runs : Addr} {oc_Turns_runs kV_Turns_runs dc_Turns_runs pm_Turns_runs cd_Turns_runs ct_Turns_runs : Value} {od_Turns_runs an_Turns_runs : Option Addr} {sl_Turns_runs : Array (Option Value)}
  {p_Turns_runs : Addr} {r_Turns_runs : List Value}
  {f_heirs : Addr} {oc_heirs kV_heirs dc_heirs pm_heirs cd_heirs ct_heirs : Value} {od_heirs an_heirs : Option Addr} {sl_heirs : Array (Option Value)}
  {f_first_of : Addr} {oc_first_of kV_first_of dc_first_of pm_first_of cd_first_of ct_first_of : Value} {od_first_of an_first_of : Option Addr} {sl_first_of : Array (Option Value)}
  {f_taken : Addr} {oc_taken kV_taken dc_taken pm_taken cd_taken ct_taken : Value} {od_taken an_taken : Option Addr} {sl_taken : Array (Option Value)}
  {f_check_size : Addr} {oc_check_size kV_check_size dc_check_size pm_check_size cd_check_size ct_check_size : Value} {od_check_size an_check_size : Option Addr} {sl_check_size : Array (Option Value)}
  {f_shares : Addr} {oc_shares kV_shares dc_shares pm_shares cd_shares ct_shares : Value} {od_shares an_shares : Option Addr} {sl_shares : Array (Option Value)}
  {f_worse_at : Addr} {oc_worse_at kV_worse_at dc_worse_at pm_worse_at cd_worse_at ct_worse_at : Value} {od_worse_at an_worse_at : Option Addr} {sl_worse_at : Array (Option Value)}
  {f__law_above : Addr} {oc__law_above kV__law_above dc__law_above pm__law_above cd__law_above ct__law_above : Value} {od__law_above an__law_above : Option Addr} {sl__law_above : Array (Option Value)}
  {f_begins : Addr} {oc_begins kV_begins dc_begins pm_begins cd_begins ct_begins : Value} {od_begins an_begins : Option Addr} {sl_begins : Array (Option Value)}
  {f_Turns_hers : Addr} {oc_Turns_hers kV_Turns_hers dc_Turns_hers pm_Turns_hers cd_Turns_hers ct_Turns_hers : Value} {od_Turns_hers an_Turns_hers : Option Addr} {sl_Turns_hers : Array (Option Value)}
  {p_Turns_hers : Addr} {r_Turns_hers : List Value}
  {f_Turns_ends : Addr} {oc_Turns_ends kV_Turns_ends dc_Turns_ends pm_Turns_ends cd_Turns_ends ct_Turns_ends : Value} {od_Turns_ends an_Turns_ends : Option Addr} {sl_Turns_ends : Array (Option Value)}
  {p_Turns_ends : Addr} {r_Turns_ends : List Value}
  {f_place_of : Addr} {oc_place_of kV_place_of dc_place_of pm_place_of cd_place_of ct_place_of : Value} {od_place_of an_place_of : Option Addr} {sl_place_of : Array (Option Value)}
  {f_turn_of : Addr} {oc_turn_of kV_turn_of dc_turn_of pm_turn_of cd_turn_of ct_turn_of : Value} {od_turn_of an_turn_of : Option Addr} {sl_turn_of : Array (Option Value)}
  {f_ways_later : Addr} {oc_ways_later kV_ways_later dc_ways_later pm_ways_later cd_ways_later ct_ways_later : Value} {od_ways_later an_ways_later : Option Addr} {sl_ways_later : Array (Option Value)}
  {f_against : Addr} {oc_against kV_against dc_against pm_against cd_against ct_against : Value} {od_against an_against : Option Addr} {sl_against : Array (Option Value)}
  {f_never_worse : Addr} {oc_never_worse kV_never_worse dc_never_worse pm_never_worse cd_never_worse ct_never_worse : Value} {od_never_worse an_never_worse : Option Addr} {sl_never_worse : Array (Option Value)}
  {f_corners : Addr} {oc_corners kV_corners dc_corners pm_corners cd_corners ct_corners : Value} {od_corners an_corners : Option Addr} {sl_corners : Array (Option Value)}
  {f_ahead : Addr} {oc_ahead kV_ahead dc_ahead pm_ahead cd_ahead ct_ahead : Value} {od_ahead an_ahead : Option Addr} {sl_ahead : Array (Option Value)}
  {f_is_above : Addr} {oc_is_above kV_is_above dc_is_above pm_is_above cd_is_above ct_is_above : Value} {od_is_above an_is_above : Option Addr} {sl_is_above : Array (Option Value)}
  {f__law_turns : Addr} {oc__law_turns kV__law_turns dc__law_turns pm__law_turns cd__law_turns ct__law_turns : Value} {od__law_turns an__law_turns : Option Addr} {sl__law_turns : Array (Option Value)}
  {f_swapped : Addr} {oc_swapped kV_swapped dc_swapped pm_swapped cd_swapped ct_swapped : Value} {od_swapped an_swapped : Option Addr} {sl_swapped : Array (Option Value)}
  {f_most_worse : Addr} {oc_most_worse kV_most_worse dc_most_worse pm_most_worse cd_most_worse ct_most_worse : Value} {od_most_worse an_most_worse : Option Addr} {sl_most_worse : Array (Option Value)}
  {f_law : Addr} {oc_law kV_law dc_law pm_law cd_law ct_law : Value} {od_law an_law : Option Addr} {sl_law : Array (Option Value)}
  {f__law_box : Addr} {oc__law_box kV__law_box dc__law_box pm__law_box cd__law_box ct__law_box : Value} {od__law_box an__law_box : Option Addr} {sl__law_box : Array (Option Value)}
  {f__law_cells : Addr} {oc__law_cells kV__law_cells dc__law_cells pm__law_cells cd__law_cells ct__law_cells : Value} {od__law_cells an__law_cells : Option Addr} {sl__law_cells : Array (Option Value)}
  {f__law_take : Addr} {oc__law_take kV__law_take dc__law_take pm__law_take cd__law_take ct__law_take : Value} {od__law_take an__law_take : Option Addr} {sl__law_take : Array (Option Value)}
  (X : K.In h) (G : h.Ns mainGlobals mg) (hfa : mg "law" = some (.ref fa))
  (a_Turns : PySem.W.nsIn K mainGlobals "Turns" = some (some (.ref C_Turns)))
  (spg_Turns : PySem.W.plainGet K C_Turns Str.empty = true)
  (sic_Turns : PySem.W.isClsIn K C_Turns = true)
  (spo_Turns : PySem.W.plainOver K C_Turns = true)
  (ssa_Turns : PySem.W.findIn K (.ref C_Turns) "__setattr__" = some (some (.builtin "object.__setattr__")))
  (z_abs : PySem.W.nsIn K mainGlobals "abs" = some none)
  (z_all : PySem.W.nsIn K mainGlobals "all" = some none)
  (z_bool : PySem.W.nsIn K mainGlobals "bool" = some none)
  (z_enumerate : PySem.W.nsIn K mainGlobals "enumerate" = some none)
  (z_int : PySem.W.nsIn K mainGlobals "int" = some none)
  (z_isinstance : PySem.W.nsIn K mainGlobals "isinstance" = some none)
  (z_len : PySem.W.nsIn K mainGlobals "len" = some none)
  (z_list : PySem.W.nsIn K mainGlobals "list" = some none)
  (z_max : PySem.W.nsIn K mainGlobals "max" = some none)
  (z_min : PySem.W.nsIn K mainGlobals "min" = some none)
  (z_range : PySem.W.nsIn K mainGlobals "range" = some none)
  (z_set : PySem.W.nsIn K mainGlobals "set" = some none)
  (z_sorted : PySem.W.nsIn K mainGlobals "sorted" = some none)
  (z_str : PySem.W.nsIn K mainGlobals "str" = some none)
  (z_sum : PySem.W.nsIn K mainGlobals "sum" = some none)
  (z_tuple : PySem.W.nsIn K mainGlobals "tuple" = some none)
  (z_zip : PySem.W.nsIn K mainGlobals "zip" = some none)
  (f1_own_ends : PySem.W.findIn K (.ref C_Turns) "own_ends" = some (some (.ref p_own_ends)))
  (f2_own_ends : PySem.W.specialIn K (.ref p_own_ends) "__get__" = some (some (.builtin "member_descriptor.__get__")))
  (f3_own_ends : PySem.W.takesIn K (.ref p_own_ends) = some true)
  (f4_own_ends : PySem.W.typeIn K (.ref p_own_ends) = some (.type "member_descriptor"))
  (f5_own_ends : PySem.W.slotIn K p_own_ends C_Turns = some 0)
  (f1_own_runs : PySem.W.findIn K (.ref C_Turns) "own_runs" = some (some (.ref p_own_runs)))
  (f2_own_runs : PySem.W.specialIn K (.ref p_own_runs) "__get__" = some (some (.builtin "member_descriptor.__get__")))
  (f3_own_runs : PySem.W.takesIn K (.ref p_own_runs) = some true)
  (f4_own_runs : PySem.W.typeIn K (.ref p_own_runs) = some (.type "member_descriptor"))
  (f5_own_runs : PySem.W.slotIn K p_own_runs C_Turns = some 1)
  (g1_HEIRS_turns : PySem.W.nsIn K mainGlobals "HEIRS_turns" = some (some (.ref T_HEIRS_turns)))
  (g2_HEIRS_turns : K.lookup T_HEIRS_turns = some ⟨.type "tuple", none, .seq ([Value.str (PySem.Str.ofString "a") t0_HEIRS_turns, Value.str (PySem.Str.ofString "b") t1_HEIRS_turns] : List Value).toArray n_HEIRS_turns, sl_HEIRS_turns⟩)
  (g1_HERS : PySem.W.nsIn K mainGlobals "HERS" = some (some (.str (PySem.Str.ofString "a") t_HERS)))
  (a__law_of : PySem.W.nsIn K mainGlobals "_law_of" = some (some (.ref f__law_of)))
  (l__law_of : K.lookup f__law_of = some ⟨oc__law_of, od__law_of, .func (PySem.W.fnOf "_law_of" "_law_of" (C8.fnArgs st__law_of) (C8.fnBody st__law_of) (C8.fnScope st__law_of) .none kV__law_of dc__law_of pm__law_of an__law_of cd__law_of ct__law_of), sl__law_of⟩)
  (c__law_of : PySem.W.codeIn K cd__law_of "_law_of" = true)
  (k__law_of : PySem.W.keepIn K (.ref f__law_of) = true)
  (a__law_heirs : PySem.W.nsIn K mainGlobals "_law_heirs" = some (some (.ref f__law_heirs)))
  (l__law_heirs : K.lookup f__law_heirs = some ⟨oc__law_heirs, od__law_heirs, .func (PySem.W.fnOf "_law_heirs" "_law_heirs" (C8.fnArgs st__law_heirs) (C8.fnBody st__law_heirs) (C8.fnScope st__law_heirs) .none kV__law_heirs dc__law_heirs pm__law_heirs an__law_heirs cd__law_heirs ct__law_heirs), sl__law_heirs⟩)
  (c__law_heirs : PySem.W.codeIn K cd__law_heirs "_law_heirs" = true)
  (k__law_heirs : PySem.W.keepIn K (.ref f__law_heirs) = true)
  (a_tupled : PySem.W.nsIn K mainGlobals "tupled" = some (some (.ref f_tupled)))
  (l_tupled : K.lookup f_tupled = some ⟨oc_tupled, od_tupled, .func (PySem.W.fnOf "tupled" "tupled" (C8.fnArgs st_tupled) (C8.fnBody st_tupled) (C8.fnScope st_tupled) .none kV_tupled dc_tupled pm_tupled an_tupled cd_tupled ct_tupled), sl_tupled⟩)
  (c_tupled : PySem.W.codeIn K cd_tupled "tupled" = true)
  (k_tupled : PySem.W.keepIn K (.ref f_tupled) = true)
  (a_joined_runs : PySem.W.nsIn K mainGlobals "joined_runs" = some (some (.ref f_joined_runs)))
  (l_joined_runs : K.lookup f_joined_runs = some ⟨oc_joined_runs, od_joined_runs, .func (PySem.W.fnOf "joined_runs" "joined_runs" (C8.fnArgs st_joined_runs) (C8.fnBody st_joined_runs) (C8.fnScope st_joined_runs) .none kV_joined_runs dc_joined_runs pm_joined_runs an_joined_runs cd_joined_runs ct_joined_runs), sl_joined_runs⟩)
  (c_joined_runs : PySem.W.codeIn K cd_joined_runs "joined_runs" = true)
  (k_joined_runs : PySem.W.keepIn K (.ref f_joined_runs) = true)
  (a_ends_of : PySem.W.nsIn K mainGlobals "ends_of" = some (some (.ref f_ends_of)))
  (l_ends_of : K.lookup f_ends_of = some ⟨oc_ends_of, od_ends_of, .func (PySem.W.fnOf "ends_of" "ends_of" (C8.fnArgs st_ends_of) (C8.fnBody st_ends_of) (C8.fnScope st_ends_of) .none kV_ends_of dc_ends_of pm_ends_of an_ends_of cd_ends_of ct_ends_of), sl_ends_of⟩)
  (c_ends_of : PySem.W.codeIn K cd_ends_of "ends_of" = true)
  (k_ends_of : PySem.W.keepIn K (.ref f_ends_of) = true)
  (m1_Turns_init : PySem.W.makesIn K C_Turns = true)
  (m2_Turns_init : PySem.W.findIn K (.ref C_Turns) "__init__" = some (some (.ref f_Turns_init)))
  (m3_Turns_init : PySem.W.isFn K (.ref f_Turns_init) = true)
  (m4_Turns_init : PySem.W.keepIn K (.ref C_Turns) = true)
  (l_Turns_init : K.lookup f_Turns_init = some ⟨oc_Turns_init, od_Turns_init, .func (PySem.W.fnOf "__init__" "Turns.__init__" (C8.fnArgs st_Turns_init) (C8.fnBody st_Turns_init) (C8.fnScope st_Turns_init) (.ref T_Turns_init) kV_Turns_init dc_Turns_init pm_Turns_init an_Turns_init cd_Turns_init ct_Turns_init), sl_Turns_init⟩)
  (c_Turns_init : PySem.W.codeIn K cd_Turns_init "Turns.__init__" = true)
  (lT_Turns_init : K.lookup T_Turns_init = some ⟨cT_Turns_init, dT_Turns_init, .seq ([v0_Turns_init] : List Value).toArray mT_Turns_init, sT_Turns_init⟩)
  (a_turns_of : PySem.W.nsIn K mainGlobals "turns_of" = some (some (.ref f_turns_of)))
  (l_turns_of : K.lookup f_turns_of = some ⟨oc_turns_of, od_turns_of, .func (PySem.W.fnOf "turns_of" "turns_of" (C8.fnArgs st_turns_of) (C8.fnBody st_turns_of) (C8.fnScope st_turns_of) .none kV_turns_of dc_turns_of pm_turns_of an_turns_of cd_turns_of ct_turns_of), sl_turns_of⟩)
  (c_turns_of : PySem.W.codeIn K cd_turns_of "turns_of" = true)
  (k_turns_of : PySem.W.keepIn K (.ref f_turns_of) = true)
  (a__law_orders : PySem.W.nsIn K mainGlobals "_law_orders" = some (some (.ref f__law_orders)))
  (l__law_orders : K.lookup f__law_orders = some ⟨oc__law_orders, od__law_orders, .func (PySem.W.fnOf "_law_orders" "_law_orders" (C8.fnArgs st__law_orders) (C8.fnBody st__law_orders) (C8.fnScope st__law_orders) .none kV__law_orders dc__law_orders pm__law_orders an__law_orders cd__law_orders ct__law_orders), sl__law_orders⟩)
  (c__law_orders : PySem.W.codeIn K cd__law_orders "_law_orders" = true)
  (k__law_orders : PySem.W.keepIn K (.ref f__law_orders) = true)
  (a__law_list : PySem.W.nsIn K mainGlobals "_law_list" = some (some (.ref f__law_list)))
  (l__law_list : K.lookup f__law_list = some ⟨oc__law_list, od__law_list, .func (PySem.W.fnOf "_law_list" "_law_list" (C8.fnArgs st__law_list) (C8.fnBody st__law_list) (C8.fnScope st__law_list) .none kV__law_list dc__law_list pm__law_list an__law_list cd__law_list ct__law_list), sl__law_list⟩)
  (c__law_list : PySem.W.codeIn K cd__law_list "_law_list" = true)
  (k__law_list : PySem.W.keepIn K (.ref f__law_list) = true)
  (a__law_plain : PySem.W.nsIn K mainGlobals "_law_plain" = some (some (.ref f__law_plain)))
  (l__law_plain : K.lookup f__law_plain = some ⟨oc__law_plain, od__law_plain, .func (PySem.W.fnOf "_law_plain" "_law_plain" (C8.fnArgs st__law_plain) (C8.fnBody st__law_plain) (C8.fnScope st__law_plain) .none kV__law_plain dc__law_plain pm__law_plain an__law_plain cd__law_plain ct__law_plain), sl__law_plain⟩)
  (c__law_plain : PySem.W.codeIn K cd__law_plain "_law_plain" = true)
  (k__law_plain : PySem.W.keepIn K (.ref f__law_plain) = true)
  (a__law_share : PySem.W.nsIn K mainGlobals "_law_share" = some (some (.ref f__law_share)))
  (l__law_share : K.lookup f__law_share = some ⟨oc__law_share, od__law_share, .func (PySem.W.fnOf "_law_share" "_law_share" (C8.fnArgs st__law_share) (C8.fnBody st__law_share) (C8.fnScope st__law_share) .none kV__law_share dc__law_share pm__law_share an__law_share cd__law_share ct__law_share), sl__law_share⟩)
  (c__law_share : PySem.W.codeIn K cd__law_share "_law_share" = true)
  (k__law_share : PySem.W.keepIn K (.ref f__law_share) = true)
  (a__law_places : PySem.W.nsIn K mainGlobals "_law_places" = some (some (.ref f__law_places)))
  (l__law_places : K.lookup f__law_places = some ⟨oc__law_places, od__law_places, .func (PySem.W.fnOf "_law_places" "_law_places" (C8.fnArgs st__law_places) (C8.fnBody st__law_places) (C8.fnScope st__law_places) .none kV__law_places dc__law_places pm__law_places an__law_places cd__law_places ct__law_places), sl__law_places⟩)
  (c__law_places : PySem.W.codeIn K cd__law_places "_law_places" = true)
  (k__law_places : PySem.W.keepIn K (.ref f__law_places) = true)
  (a__law_worse : PySem.W.nsIn K mainGlobals "_law_worse" = some (some (.ref f__law_worse)))
  (l__law_worse : K.lookup f__law_worse = some ⟨oc__law_worse, od__law_worse, .func (PySem.W.fnOf "_law_worse" "_law_worse" (C8.fnArgs st__law_worse) (C8.fnBody st__law_worse) (C8.fnScope st__law_worse) .none kV__law_worse dc__law_worse pm__law_worse an__law_worse cd__law_worse ct__law_worse), sl__law_worse⟩)
  (c__law_worse : PySem.W.codeIn K cd__law_worse "_law_worse" = true)
  (k__law_worse : PySem.W.keepIn K (.ref f__law_worse) = true)
  (a__law_same : PySem.W.nsIn K mainGlobals "_law_same" = some (some (.ref f__law_same)))
  (l__law_same : K.lookup f__law_same = some ⟨oc__law_same, od__law_same, .func (PySem.W.fnOf "_law_same" "_law_same" (C8.fnArgs st__law_same) (C8.fnBody st__law_same) (C8.fnScope st__law_same) .none kV__law_same dc__law_same pm__law_same an__law_same cd__law_same ct__law_same), sl__law_same⟩)
  (c__law_same : PySem.W.codeIn K cd__law_same "_law_same" = true)
  (k__law_same : PySem.W.keepIn K (.ref f__law_same) = true)
  (p1_Turns_size : PySem.W.findIn K (.ref C_Turns) "size" = some (some (.ref p_Turns_size)))
  (p2_Turns_size : PySem.W.specialIn K (.ref p_Turns_size) "__get__" = some (some (.builtin "property.__get__")))
  (p3_Turns_size : PySem.W.takesIn K (.ref p_Turns_size) = some true)
  (p4_Turns_size : PySem.W.recIn K p_Turns_size "property" = some (.ref f_Turns_size :: r_Turns_size))
  (l_Turns_size : K.lookup f_Turns_size = some ⟨oc_Turns_size, od_Turns_size, .func (PySem.W.fnOf "size" "Turns.size" (C8.fnArgs st_Turns_size) (C8.fnBody st_Turns_size) (C8.fnScope st_Turns_size) .none kV_Turns_size dc_Turns_size pm_Turns_size an_Turns_size cd_Turns_size ct_Turns_size), sl_Turns_size⟩)
  (c_Turns_size : PySem.W.codeIn K cd_Turns_size "Turns.size" = true)
  (a_set_of : PySem.W.nsIn K mainGlobals "set_of" = some (some (.ref f_set_of)))
  (l_set_of : K.lookup f_set_of = some ⟨oc_set_of, od_set_of, .func (PySem.W.fnOf "set_of" "set_of" (C8.fnArgs st_set_of) (C8.fnBody st_set_of) (C8.fnScope st_set_of) .none kV_set_of dc_set_of pm_set_of an_set_of cd_set_of ct_set_of), sl_set_of⟩)
  (c_set_of : PySem.W.codeIn K cd_set_of "set_of" = true)
  (k_set_of : PySem.W.keepIn K (.ref f_set_of) = true)
  (a_check_lists : PySem.W.nsIn K mainGlobals "check_lists" = some (some (.ref f_check_lists)))
  (l_check_lists : K.lookup f_check_lists = some ⟨oc_check_lists, od_check_lists, .func (PySem.W.fnOf "check_lists" "check_lists" (C8.fnArgs st_check_lists) (C8.fnBody st_check_lists) (C8.fnScope st_check_lists) .none kV_check_lists dc_check_lists pm_check_lists an_check_lists cd_check_lists ct_check_lists), sl_check_lists⟩)
  (c_check_lists : PySem.W.codeIn K cd_check_lists "check_lists" = true)
  (k_check_lists : PySem.W.keepIn K (.ref f_check_lists) = true)
  (p1_Turns_runs : PySem.W.findIn K (.ref C_Turns) "runs" = some (some (.ref p_Turns_runs)))
  (p2_Turns_runs : PySem.W.specialIn K (.ref p_Turns_runs) "__get__" = some (some (.builtin "property.__get__")))
  (p3_Turns_runs : PySem.W.takesIn K (.ref p_Turns_runs) = some true)
  (p4_Turns_runs : PySem.W.recIn K p_Turns_runs "property" = some (.ref f_Turns_runs :: r_Turns_runs))
  (l_Turns_runs : K.lookup f_Turns_runs = some ⟨oc_Turns_runs, od_Turns_runs, .func (PySem.W.fnOf "runs" "Turns.runs" (C8.fnArgs st_Turns_runs) (C8.fnBody st_Turns_runs) (C8.fnScope st_Turns_runs) .none kV_Turns_runs dc_Turns_runs pm_Turns_runs an_Turns_runs cd_Turns_runs ct_Turns_runs), sl_Turns_runs⟩)
  (c_Turns_runs : PySem.W.codeIn K cd_Turns_runs "Turns.runs" = true)
  (a_heirs : PySem.W.nsIn K mainGlobals "heirs" = some (some (.ref f_heirs)))
  (l_heirs : K.lookup f_heirs = some ⟨oc_heirs, od_heirs, .func (PySem.W.fnOf "heirs" "heirs" (C8.fnArgs st_heirs) (C8.fnBody st_heirs) (C8.fnScope st_heirs) .none kV_heirs dc_heirs pm_heirs an_heirs cd_heirs ct_heirs), sl_heirs⟩)
  (c_heirs : PySem.W.codeIn K cd_heirs "heirs" = true)
  (k_heirs : PySem.W.keepIn K (.ref f_heirs) = true)
  (a_first_of : PySem.W.nsIn K mainGlobals "first_of" = some (some (.ref f_first_of)))
  (l_first_of : K.lookup f_first_of = some ⟨oc_first_of, od_first_of, .func (PySem.W.fnOf "first_of" "first_of" (C8.fnArgs st_first_of) (C8.fnBody st_first_of) (C8.fnScope st_first_of) .none kV_first_of dc_first_of pm_first_of an_first_of cd_first_of ct_first_of), sl_first_of⟩)
  (c_first_of : PySem.W.codeIn K cd_first_of "first_of" = true)
  (k_first_of : PySem.W.keepIn K (.ref f_first_of) = true)
  (a_taken : PySem.W.nsIn K mainGlobals "taken" = some (some (.ref f_taken)))
  (l_taken : K.lookup f_taken = some ⟨oc_taken, od_taken, .func (PySem.W.fnOf "taken" "taken" (C8.fnArgs st_taken) (C8.fnBody st_taken) (C8.fnScope st_taken) .none kV_taken dc_taken pm_taken an_taken cd_taken ct_taken), sl_taken⟩)
  (c_taken : PySem.W.codeIn K cd_taken "taken" = true)
  (k_taken : PySem.W.keepIn K (.ref f_taken) = true)
  (a_check_size : PySem.W.nsIn K mainGlobals "check_size" = some (some (.ref f_check_size)))
  (l_check_size : K.lookup f_check_size = some ⟨oc_check_size, od_check_size, .func (PySem.W.fnOf "check_size" "check_size" (C8.fnArgs st_check_size) (C8.fnBody st_check_size) (C8.fnScope st_check_size) .none kV_check_size dc_check_size pm_check_size an_check_size cd_check_size ct_check_size), sl_check_size⟩)
  (c_check_size : PySem.W.codeIn K cd_check_size "check_size" = true)
  (k_check_size : PySem.W.keepIn K (.ref f_check_size) = true)
  (a_shares : PySem.W.nsIn K mainGlobals "shares" = some (some (.ref f_shares)))
  (l_shares : K.lookup f_shares = some ⟨oc_shares, od_shares, .func (PySem.W.fnOf "shares" "shares" (C8.fnArgs st_shares) (C8.fnBody st_shares) (C8.fnScope st_shares) .none kV_shares dc_shares pm_shares an_shares cd_shares ct_shares), sl_shares⟩)
  (c_shares : PySem.W.codeIn K cd_shares "shares" = true)
  (k_shares : PySem.W.keepIn K (.ref f_shares) = true)
  (a_worse_at : PySem.W.nsIn K mainGlobals "worse_at" = some (some (.ref f_worse_at)))
  (l_worse_at : K.lookup f_worse_at = some ⟨oc_worse_at, od_worse_at, .func (PySem.W.fnOf "worse_at" "worse_at" (C8.fnArgs st_worse_at) (C8.fnBody st_worse_at) (C8.fnScope st_worse_at) .none kV_worse_at dc_worse_at pm_worse_at an_worse_at cd_worse_at ct_worse_at), sl_worse_at⟩)
  (c_worse_at : PySem.W.codeIn K cd_worse_at "worse_at" = true)
  (k_worse_at : PySem.W.keepIn K (.ref f_worse_at) = true)
  (a__law_above : PySem.W.nsIn K mainGlobals "_law_above" = some (some (.ref f__law_above)))
  (l__law_above : K.lookup f__law_above = some ⟨oc__law_above, od__law_above, .func (PySem.W.fnOf "_law_above" "_law_above" (C8.fnArgs st__law_above) (C8.fnBody st__law_above) (C8.fnScope st__law_above) .none kV__law_above dc__law_above pm__law_above an__law_above cd__law_above ct__law_above), sl__law_above⟩)
  (c__law_above : PySem.W.codeIn K cd__law_above "_law_above" = true)
  (k__law_above : PySem.W.keepIn K (.ref f__law_above) = true)
  (a_begins : PySem.W.nsIn K mainGlobals "begins" = some (some (.ref f_begins)))
  (l_begins : K.lookup f_begins = some ⟨oc_begins, od_begins, .func (PySem.W.fnOf "begins" "begins" (C8.fnArgs st_begins) (C8.fnBody st_begins) (C8.fnScope st_begins) .none kV_begins dc_begins pm_begins an_begins cd_begins ct_begins), sl_begins⟩)
  (c_begins : PySem.W.codeIn K cd_begins "begins" = true)
  (k_begins : PySem.W.keepIn K (.ref f_begins) = true)
  (p1_Turns_hers : PySem.W.findIn K (.ref C_Turns) "hers" = some (some (.ref p_Turns_hers)))
  (p2_Turns_hers : PySem.W.specialIn K (.ref p_Turns_hers) "__get__" = some (some (.builtin "property.__get__")))
  (p3_Turns_hers : PySem.W.takesIn K (.ref p_Turns_hers) = some true)
  (p4_Turns_hers : PySem.W.recIn K p_Turns_hers "property" = some (.ref f_Turns_hers :: r_Turns_hers))
  (l_Turns_hers : K.lookup f_Turns_hers = some ⟨oc_Turns_hers, od_Turns_hers, .func (PySem.W.fnOf "hers" "Turns.hers" (C8.fnArgs st_Turns_hers) (C8.fnBody st_Turns_hers) (C8.fnScope st_Turns_hers) .none kV_Turns_hers dc_Turns_hers pm_Turns_hers an_Turns_hers cd_Turns_hers ct_Turns_hers), sl_Turns_hers⟩)
  (c_Turns_hers : PySem.W.codeIn K cd_Turns_hers "Turns.hers" = true)
  (p1_Turns_ends : PySem.W.findIn K (.ref C_Turns) "ends" = some (some (.ref p_Turns_ends)))
  (p2_Turns_ends : PySem.W.specialIn K (.ref p_Turns_ends) "__get__" = some (some (.builtin "property.__get__")))
  (p3_Turns_ends : PySem.W.takesIn K (.ref p_Turns_ends) = some true)
  (p4_Turns_ends : PySem.W.recIn K p_Turns_ends "property" = some (.ref f_Turns_ends :: r_Turns_ends))
  (l_Turns_ends : K.lookup f_Turns_ends = some ⟨oc_Turns_ends, od_Turns_ends, .func (PySem.W.fnOf "ends" "Turns.ends" (C8.fnArgs st_Turns_ends) (C8.fnBody st_Turns_ends) (C8.fnScope st_Turns_ends) .none kV_Turns_ends dc_Turns_ends pm_Turns_ends an_Turns_ends cd_Turns_ends ct_Turns_ends), sl_Turns_ends⟩)
  (c_Turns_ends : PySem.W.codeIn K cd_Turns_ends "Turns.ends" = true)
  (a_place_of : PySem.W.nsIn K mainGlobals "place_of" = some (some (.ref f_place_of)))
  (l_place_of : K.lookup f_place_of = some ⟨oc_place_of, od_place_of, .func (PySem.W.fnOf "place_of" "place_of" (C8.fnArgs st_place_of) (C8.fnBody st_place_of) (C8.fnScope st_place_of) .none kV_place_of dc_place_of pm_place_of an_place_of cd_place_of ct_place_of), sl_place_of⟩)
  (c_place_of : PySem.W.codeIn K cd_place_of "place_of" = true)
  (k_place_of : PySem.W.keepIn K (.ref f_place_of) = true)
  (a_turn_of : PySem.W.nsIn K mainGlobals "turn_of" = some (some (.ref f_turn_of)))
  (l_turn_of : K.lookup f_turn_of = some ⟨oc_turn_of, od_turn_of, .func (PySem.W.fnOf "turn_of" "turn_of" (C8.fnArgs st_turn_of) (C8.fnBody st_turn_of) (C8.fnScope st_turn_of) .none kV_turn_of dc_turn_of pm_turn_of an_turn_of cd_turn_of ct_turn_of), sl_turn_of⟩)
  (c_turn_of : PySem.W.codeIn K cd_turn_of "turn_of" = true)
  (k_turn_of : PySem.W.keepIn K (.ref f_turn_of) = true)
  (a_ways_later : PySem.W.nsIn K mainGlobals "ways_later" = some (some (.ref f_ways_later)))
  (l_ways_later : K.lookup f_ways_later = some ⟨oc_ways_later, od_ways_later, .func (PySem.W.fnOf "ways_later" "ways_later" (C8.fnArgs st_ways_later) (C8.fnBody st_ways_later) (C8.fnScope st_ways_later) .none kV_ways_later dc_ways_later pm_ways_later an_ways_later cd_ways_later ct_ways_later), sl_ways_later⟩)
  (c_ways_later : PySem.W.codeIn K cd_ways_later "ways_later" = true)
  (k_ways_later : PySem.W.keepIn K (.ref f_ways_later) = true)
  (a_against : PySem.W.nsIn K mainGlobals "against" = some (some (.ref f_against)))
  (l_against : K.lookup f_against = some ⟨oc_against, od_against, .func (PySem.W.fnOf "against" "against" (C8.fnArgs st_against) (C8.fnBody st_against) (C8.fnScope st_against) .none kV_against dc_against pm_against an_against cd_against ct_against), sl_against⟩)
  (c_against : PySem.W.codeIn K cd_against "against" = true)
  (k_against : PySem.W.keepIn K (.ref f_against) = true)
  (a_never_worse : PySem.W.nsIn K mainGlobals "never_worse" = some (some (.ref f_never_worse)))
  (l_never_worse : K.lookup f_never_worse = some ⟨oc_never_worse, od_never_worse, .func (PySem.W.fnOf "never_worse" "never_worse" (C8.fnArgs st_never_worse) (C8.fnBody st_never_worse) (C8.fnScope st_never_worse) .none kV_never_worse dc_never_worse pm_never_worse an_never_worse cd_never_worse ct_never_worse), sl_never_worse⟩)
  (c_never_worse : PySem.W.codeIn K cd_never_worse "never_worse" = true)
  (k_never_worse : PySem.W.keepIn K (.ref f_never_worse) = true)
  (a_corners : PySem.W.nsIn K mainGlobals "corners" = some (some (.ref f_corners)))
  (l_corners : K.lookup f_corners = some ⟨oc_corners, od_corners, .func (PySem.W.fnOf "corners" "corners" (C8.fnArgs st_corners) (C8.fnBody st_corners) (C8.fnScope st_corners) .none kV_corners dc_corners pm_corners an_corners cd_corners ct_corners), sl_corners⟩)
  (c_corners : PySem.W.codeIn K cd_corners "corners" = true)
  (k_corners : PySem.W.keepIn K (.ref f_corners) = true)
  (a_ahead : PySem.W.nsIn K mainGlobals "ahead" = some (some (.ref f_ahead)))
  (l_ahead : K.lookup f_ahead = some ⟨oc_ahead, od_ahead, .func (PySem.W.fnOf "ahead" "ahead" (C8.fnArgs st_ahead) (C8.fnBody st_ahead) (C8.fnScope st_ahead) .none kV_ahead dc_ahead pm_ahead an_ahead cd_ahead ct_ahead), sl_ahead⟩)
  (c_ahead : PySem.W.codeIn K cd_ahead "ahead" = true)
  (k_ahead : PySem.W.keepIn K (.ref f_ahead) = true)
  (a_is_above : PySem.W.nsIn K mainGlobals "is_above" = some (some (.ref f_is_above)))
  (l_is_above : K.lookup f_is_above = some ⟨oc_is_above, od_is_above, .func (PySem.W.fnOf "is_above" "is_above" (C8.fnArgs st_is_above) (C8.fnBody st_is_above) (C8.fnScope st_is_above) .none kV_is_above dc_is_above pm_is_above an_is_above cd_is_above ct_is_above), sl_is_above⟩)
  (c_is_above : PySem.W.codeIn K cd_is_above "is_above" = true)
  (k_is_above : PySem.W.keepIn K (.ref f_is_above) = true)
  (a__law_turns : PySem.W.nsIn K mainGlobals "_law_turns" = some (some (.ref f__law_turns)))
  (l__law_turns : K.lookup f__law_turns = some ⟨oc__law_turns, od__law_turns, .func (PySem.W.fnOf "_law_turns" "_law_turns" (C8.fnArgs st__law_turns) (C8.fnBody st__law_turns) (C8.fnScope st__law_turns) .none kV__law_turns dc__law_turns pm__law_turns an__law_turns cd__law_turns ct__law_turns), sl__law_turns⟩)
  (c__law_turns : PySem.W.codeIn K cd__law_turns "_law_turns" = true)
  (k__law_turns : PySem.W.keepIn K (.ref f__law_turns) = true)
  (a_swapped : PySem.W.nsIn K mainGlobals "swapped" = some (some (.ref f_swapped)))
  (l_swapped : K.lookup f_swapped = some ⟨oc_swapped, od_swapped, .func (PySem.W.fnOf "swapped" "swapped" (C8.fnArgs st_swapped) (C8.fnBody st_swapped) (C8.fnScope st_swapped) .none kV_swapped dc_swapped pm_swapped an_swapped cd_swapped ct_swapped), sl_swapped⟩)
  (c_swapped : PySem.W.codeIn K cd_swapped "swapped" = true)
  (k_swapped : PySem.W.keepIn K (.ref f_swapped) = true)
  (a_most_worse : PySem.W.nsIn K mainGlobals "most_worse" = some (some (.ref f_most_worse)))
  (l_most_worse : K.lookup f_most_worse = some ⟨oc_most_worse, od_most_worse, .func (PySem.W.fnOf "most_worse" "most_worse" (C8.fnArgs st_most_worse) (C8.fnBody st_most_worse) (C8.fnScope st_most_worse) .none kV_most_worse dc_most_worse pm_most_worse an_most_worse cd_most_worse ct_most_worse), sl_most_worse⟩)
  (c_most_worse : PySem.W.codeIn K cd_most_worse "most_worse" = true)
  (k_most_worse : PySem.W.keepIn K (.ref f_most_worse) = true)
  (a_law : PySem.W.nsIn K mainGlobals "law" = some (some (.ref f_law)))
  (l_law : K.lookup f_law = some ⟨oc_law, od_law, .func (PySem.W.fnOf "law" "law" (C8.fnArgs st_law) (C8.fnBody st_law) (C8.fnScope st_law) .none kV_law dc_law pm_law an_law cd_law ct_law), sl_law⟩)
  (c_law : PySem.W.codeIn K cd_law "law" = true)
  (k_law : PySem.W.keepIn K (.ref f_law) = true)
  (a__law_box : PySem.W.nsIn K mainGlobals "_law_box" = some (some (.ref f__law_box)))
  (l__law_box : K.lookup f__law_box = some ⟨oc__law_box, od__law_box, .func (PySem.W.fnOf "_law_box" "_law_box" (C8.fnArgs st__law_box) (C8.fnBody st__law_box) (C8.fnScope st__law_box) .none kV__law_box dc__law_box pm__law_box an__law_box cd__law_box ct__law_box), sl__law_box⟩)
  (c__law_box : PySem.W.codeIn K cd__law_box "_law_box" = true)
  (k__law_box : PySem.W.keepIn K (.ref f__law_box) = true)
  (a__law_cells : PySem.W.nsIn K mainGlobals "_law_cells" = some (some (.ref f__law_cells)))
  (l__law_cells : K.lookup f__law_cells = some ⟨oc__law_cells, od__law_cells, .func (PySem.W.fnOf "_law_cells" "_law_cells" (C8.fnArgs st__law_cells) (C8.fnBody st__law_cells) (C8.fnScope st__law_cells) .none kV__law_cells dc__law_cells pm__law_cells an__law_cells cd__law_cells ct__law_cells), sl__law_cells⟩)
  (c__law_cells : PySem.W.codeIn K cd__law_cells "_law_cells" = true)
  (k__law_cells : PySem.W.keepIn K (.ref f__law_cells) = true)
  (a__law_take : PySem.W.nsIn K mainGlobals "_law_take" = some (some (.ref f__law_take)))
  (l__law_take : K.lookup f__law_take = some ⟨oc__law_take, od__law_take, .func (PySem.W.fnOf "_law_take" "_law_take" (C8.fnArgs st__law_take) (C8.fnBody st__law_take) (C8.fnScope st__law_take) .none kV__law_take dc__law_take pm__law_take an__law_take cd__law_take ct__law_take), sl__law_take⟩)
  (c__law_take : PySem.W.codeIn K cd__law_take "_law_take" = true)
  (k__law_take : PySem.W.keepIn K (.ref f__law_take) = true)
  (says : Says B_law 26) :
  ∃ fd : FuncData, (∀ (s : Shared) (v : Value), BindsTo s fd ⟨[v], []⟩ [("script", v)]) ∧ ∀ base : Heap, K.In base → base.Ns mainGlobals mg → FnOk P w K mg base C8.CX0 11 fa fd ["script"] (spLaw K) := by
  have W : Ws K mg (fun _ => C_Turns) := {
    s_Turns := ⟨spg_Turns, sic_Turns, spo_Turns, ssa_Turns⟩,
    z_abs := PySem.W.mg_none_of X G z_abs,
    z_all := PySem.W.mg_none_of X G z_all,
    z_bool := PySem.W.mg_none_of X G z_bool,
    z_enumerate := PySem.W.mg_none_of X G z_enumerate,
    z_int := PySem.W.mg_none_of X G z_int,
    z_isinstance := PySem.W.mg_none_of X G z_isinstance,
    z_len := PySem.W.mg_none_of X G z_len,
    z_list := PySem.W.mg_none_of X G z_list,
    z_max := PySem.W.mg_none_of X G z_max,
    z_min := PySem.W.mg_none_of X G z_min,
    z_range := PySem.W.mg_none_of X G z_range,
    z_set := PySem.W.mg_none_of X G z_set,
    z_sorted := PySem.W.mg_none_of X G z_sorted,
    z_str := PySem.W.mg_none_of X G z_str,
    z_sum := PySem.W.mg_none_of X G z_sum,
    z_tuple := PySem.W.mg_none_of X G z_tuple,
    z_zip := PySem.W.mg_none_of X G z_zip,
    fl_own_ends := fld_mk ⟨spg_Turns, sic_Turns, spo_Turns, ssa_Turns⟩ f1_own_ends f2_own_ends f3_own_ends f4_own_ends f5_own_ends,
    fl_own_runs := fld_mk ⟨spg_Turns, sic_Turns, spo_Turns, ssa_Turns⟩ f1_own_runs f2_own_runs f3_own_runs f4_own_runs f5_own_runs,
    g_HEIRS_turns := ⟨_, glW_strs (zs := [(PySem.Str.ofString "a"), (PySem.Str.ofString "b")]) X G g1_HEIRS_turns g2_HEIRS_turns rfl rfl rfl (by show 2 ≤ sizeLine; decide) (.cons ⟨_, rfl⟩ (.cons ⟨_, rfl⟩ .nil))⟩,
    g_HERS := ⟨_, glW_str X G g1_HERS⟩,
    d__law_of := defW_mk X G a__law_of l__law_of c__law_of k__law_of (fun us hl => match us, hl with | [_, _], _ => rfl),
    d__law_heirs := defW_mk X G a__law_heirs l__law_heirs c__law_heirs k__law_heirs (fun us hl => match us, hl with | [_, _], _ => rfl),
    d_tupled := defW_mk X G a_tupled l_tupled c_tupled k_tupled (fun us hl => match us, hl with | [_], _ => rfl),
    d_joined_runs := defW_mk X G a_joined_runs l_joined_runs c_joined_runs k_joined_runs (fun us hl => match us, hl with | [_], _ => rfl),
    d_ends_of := defW_mk X G a_ends_of l_ends_of c_ends_of k_ends_of (fun us hl => match us, hl with | [_], _ => rfl),
    m_Turns := mkW_mkD X G a_Turns m1_Turns_init m2_Turns_init m3_Turns_init m4_Turns_init l_Turns_init c_Turns_init lT_Turns_init (fun us hl => match us, hl with | [_, _], _ => ⟨_, rfl, rfl⟩),
    d_turns_of := defW_mk X G a_turns_of l_turns_of c_turns_of k_turns_of (fun us hl => match us, hl with | [_], _ => rfl),
    d__law_orders := defW_mk X G a__law_orders l__law_orders c__law_orders k__law_orders (fun us hl => match us, hl with | [_], _ => rfl),
    d__law_list := defW_mk X G a__law_list l__law_list c__law_list k__law_list (fun us hl => match us, hl with | [_, _], _ => rfl),
    d__law_plain := defW_mk X G a__law_plain l__law_plain c__law_plain k__law_plain (fun us hl => match us, hl with | [_, _, _], _ => rfl),
    d__law_share := defW_mk X G a__law_share l__law_share c__law_share k__law_share (fun us hl => match us, hl with | [_, _, _], _ => rfl),
    d__law_places := defW_mk X G a__law_places l__law_places c__law_places k__law_places (fun us hl => match us, hl with | [_, _], _ => rfl),
    d__law_worse := defW_mk X G a__law_worse l__law_worse c__law_worse k__law_worse (fun us hl => match us, hl with | [_, _, _], _ => rfl),
    d__law_same := defW_mk X G a__law_same l__law_same c__law_same k__law_same (fun us hl => match us, hl with | [_, _], _ => rfl),
    p_Turns_size := prW_mk p1_Turns_size p2_Turns_size p3_Turns_size p4_Turns_size l_Turns_size c_Turns_size (fun us hl => match us, hl with | [_], _ => rfl),
    d_set_of := defW_mk X G a_set_of l_set_of c_set_of k_set_of (fun us hl => match us, hl with | [_], _ => rfl),
    d_check_lists := defW_mk X G a_check_lists l_check_lists c_check_lists k_check_lists (fun us hl => match us, hl with | [_, _, _], _ => rfl),
    p_Turns_runs := prW_mk p1_Turns_runs p2_Turns_runs p3_Turns_runs p4_Turns_runs l_Turns_runs c_Turns_runs (fun us hl => match us, hl with | [_], _ => rfl),
    d_heirs := defW_mk X G a_heirs l_heirs c_heirs k_heirs (fun us hl => match us, hl with | [_], _ => rfl),
    d_first_of := defW_mk X G a_first_of l_first_of c_first_of k_first_of (fun us hl => match us, hl with | [_, _], _ => rfl),
    d_taken := defW_mk X G a_taken l_taken c_taken k_taken (fun us hl => match us, hl with | [_, _, _], _ => rfl),
    d_check_size := defW_mk X G a_check_size l_check_size c_check_size k_check_size (fun us hl => match us, hl with | [_, _], _ => rfl),
    d_shares := defW_mk X G a_shares l_shares c_shares k_shares (fun us hl => match us, hl with | [_, _, _], _ => rfl),
    d_worse_at := defW_mk X G a_worse_at l_worse_at c_worse_at k_worse_at (fun us hl => match us, hl with | [_, _, _, _], _ => rfl),
    d__law_above := defW_mk X G a__law_above l__law_above c__law_above k__law_above (fun us hl => match us, hl with | [_, _], _ => rfl),
    d_begins := defW_mk X G a_begins l_begins c_begins k_begins (fun us hl => match us, hl with | [_], _ => rfl),
    p_Turns_hers := prW_mk p1_Turns_hers p2_Turns_hers p3_Turns_hers p4_Turns_hers l_Turns_hers c_Turns_hers (fun us hl => match us, hl with | [_], _ => rfl),
    p_Turns_ends := prW_mk p1_Turns_ends p2_Turns_ends p3_Turns_ends p4_Turns_ends l_Turns_ends c_Turns_ends (fun us hl => match us, hl with | [_], _ => rfl),
    d_place_of := defW_mk X G a_place_of l_place_of c_place_of k_place_of (fun us hl => match us, hl with | [_, _, _], _ => rfl),
    d_turn_of := defW_mk X G a_turn_of l_turn_of c_turn_of k_turn_of (fun us hl => match us, hl with | [_, _], _ => rfl),
    d_ways_later := defW_mk X G a_ways_later l_ways_later c_ways_later k_ways_later (fun us hl => match us, hl with | [_, _], _ => rfl),
    d_against := defW_mk X G a_against l_against c_against k_against (fun us hl => match us, hl with | [_, _], _ => rfl),
    d_never_worse := defW_mk X G a_never_worse l_never_worse c_never_worse k_never_worse (fun us hl => match us, hl with | [_, _], _ => rfl),
    d_corners := defW_mk X G a_corners l_corners c_corners k_corners (fun us hl => match us, hl with | [_, _], _ => rfl),
    d_ahead := defW_mk X G a_ahead l_ahead c_ahead k_ahead (fun us hl => match us, hl with | [_, _], _ => rfl),
    d_is_above := defW_mk X G a_is_above l_is_above c_is_above k_is_above (fun us hl => match us, hl with | [_, _], _ => rfl),
    d__law_turns := defW_mk X G a__law_turns l__law_turns c__law_turns k__law_turns (fun us hl => match us, hl with | [_, _], _ => rfl),
    d_swapped := defW_mk X G a_swapped l_swapped c_swapped k_swapped (fun us hl => match us, hl with | [_], _ => rfl),
    d_most_worse := defW_mk X G a_most_worse l_most_worse c_most_worse k_most_worse (fun us hl => match us, hl with | [_, _], _ => rfl),
    d__law_box := defW_mk X G a__law_box l__law_box c__law_box k__law_box (fun us hl => match us, hl with | [_, _], _ => rfl),
    d__law_cells := defW_mk X G a__law_cells l__law_cells c__law_cells k__law_cells (fun us hl => match us, hl with | [_, _], _ => rfl),
    d__law_take := defW_mk X G a__law_take l__law_take c__law_take k__law_take (fun us hl => match us, hl with | [_, _], _ => rfl) }
  have e := hfa.symm.trans (PySem.W.mg_of X G a_law)
  cases e
  refine ⟨_, fun s v => ?_, fun base _ _ => LW.c_law W ⟨⟨oc_law, od_law, .none, kV_law, dc_law, pm_law, an_law, cd_law, ct_law, sl_law, rfl, l_law, c_law⟩, PySem.W.mg_of X G a_law, k_law⟩ says⟩
  exact .of_eq rfl
end

section
set_option maxRecDepth 100000
set_option maxHeartbeats 1000000
/-! ML: what the mirrors compute, in plain words. -/
namespace LW
open PySem DL
theorem comp_map {g : D → DL.Env → T DL.Env} {t : DL.Env → T Bool} {f : DL.Env → T D} {ρ : DL.Env} {k : D → D} : ∀ {ds : List D}, (∀ d ∈ ds, ∃ ρ', g d ρ = .ret ρ' ∧ t ρ' = .ret true ∧ f ρ' = .ret (k d)) → compT g t f ρ ds = .ret (ds.map k)
  | [], _ => rfl
  | d :: ds, h => by
    obtain ⟨ρ', h1, h2, h3⟩ := h d (.head _)
    unfold compT
    rw [h1, T.bind_ret, h2, T.bind_ret, h3]
    simp only [T.bind_ret]
    rw [comp_map fun d hd => h d (.tail _ hd)]
    rfl
theorem comp_filter {g : D → DL.Env → T DL.Env} {t : DL.Env → T Bool} {f : DL.Env → T D} {ρ : DL.Env} {p : D → Bool} {k : D → D} : ∀ {ds : List D}, (∀ d ∈ ds, ∃ ρ', g d ρ = .ret ρ' ∧ t ρ' = .ret (p d) ∧ (p d = true → f ρ' = .ret (k d))) → compT g t f ρ ds = .ret ((ds.filter p).map k)
  | [], _ => rfl
  | d :: ds, h => by
    obtain ⟨ρ', h1, h2, h3⟩ := h d (.head _)
    have ih := comp_filter (fun d hd => h d (.tail _ hd)) (ds := ds)
    unfold compT
    rw [h1, T.bind_ret, h2, T.bind_ret]
    cases hp : p d with
    | true =>
      rw [List.filter_cons_of_pos hp]
      simp only []
      rw [h3 hp, T.bind_ret, ih]
      rfl
    | false =>
      rw [List.filter_cons_of_neg (by rw [hp]; exact Bool.false_ne_true)]
      exact ih
theorem fcomp {i : DL.Env → T (List D)} {g : D → DL.Env → T DL.Env} {t : DL.Env → T Bool} {f : DL.Env → T D} {vs : List Nat} {ρ : DL.Env} {ds : List D} {r : T (List D)} (h : i ρ = .ret ds) (hl : ds.length < capD) (h2 : compT g t f (wipeE ρ vs) ds = r) : fComp i g t f vs ρ = r := by
  unfold fComp
  rw [h, T.bind_ret, decide_eq_true hl]
  exact h2
theorem turns_of_eq {ds : List D} (hl : ds.length < capD) : F_turns_of [.tup ds] = (I_Turns_init [.lst (ds.map fun d => .tup [d, .int 1])]).bind fun fs => .ret (.obj 0 fs) := by
  have hc : fComp (iSeq (fVar 0)) (gSet 1) fYes (fTup (aCons (fVar 1) (aCons (fC (.int 1)) aNil))) [1] [.val (.tup ds), .no] = .ret (ds.map fun d => .tup [d, .int 1]) :=
    fcomp rfl hl (comp_map fun d _ => ⟨_, rfl, rfl, rfl⟩)
  have e : F_turns_of [.tup ds] = (((((fComp (iSeq (fVar 0)) (gSet 1) fYes (fTup (aCons (fVar 1) (aCons (fC (.int 1)) aNil))) [1] [.val (.tup ds), .no]).bind fun x => T.ret (D.lst x)).bind fun x => (aNil [.val (.tup ds), .no]).bind fun xs => T.ret (x :: xs)).bind fun z => (I_Turns_init z).bind fun fs => T.ret (D.obj 0 fs)).bind fun d => T.ret (Out.rt d)).bind outD := rfl
  rw [e, hc]
  simp only [T.bind_ret, aNil]
  rw [T.bind_assoc, T.bind_assoc]
  rfl
end LW
end

section
set_option maxRecDepth 100000
set_option maxHeartbeats 1000000
/-! MP: the law's plain picks, and taken, in plain words. -/
namespace LW
open PySem DL
def sA : Str := Str.ofString "a"
def sB : Str := Str.ofString "b"
def hS (b : Bool) : Str := bif b then sA else sB
def hD (b : Bool) : D := .str (hS b)
def rowD (l : List Bool) : D := .tup (l.map hD)
def txD (l : List Str) : List D := l.map .str
theorem sAB : sA ≠ sB := by decide
theorem sBA : (sB == sA) = false := by decide
/-- the first of order that is not in gone -/
def pick (order gone : List Str) : Option Str := (order.filter fun x => !gone.any fun z => z == x).head?
def greedy (hers his : List Str) : List Bool → List Str → Option (List Str)
  | [], gone => some gone
  | h :: r, gone => match pick (bif h then hers else his) gone with
    | some x => greedy hers his r (gone ++ [x])
    | none => none
theorem eqv_str (a b : Str) : D.eqv (.str a) (.str b) = (a == b) := by unfold D.eqv; rfl
theorem all_flat (l : List Str) : (txD l).all flatD = true := by
  unfold txD
  rw [List.all_map, List.all_eq_true]
  intro x _; rfl
theorem any_tx (l : List Str) (x : Str) : ((txD l).any fun z => D.eqv z (.str x)) = l.any fun z => z == x := by
  unfold txD
  rw [List.any_map]
  rfl
theorem nin_tx (l : List Str) (x : Str) : ninD (.str x) (.lst (txD l)) = .ret (.bl (!l.any fun z => z == x)) := by
  unfold ninD inB
  simp only [seqD, flatD, all_flat, Bool.and_true, T.bind_ret, any_tx]
theorem in_txl (l : List Str) (x : Str) : inD (.str x) (.lst (txD l)) = .ret (.bl (l.any fun z => z == x)) := by
  unfold inD inB
  simp only [seqD, flatD, all_flat, Bool.and_true, T.bind_ret, any_tx]
theorem eq_h (h : Bool) : (fTest (fOp eqD (fVar 4) (fC (.str (PySem.Str.ofString "a")))) : DL.Env → T Bool) = fTest (fOp eqD (fVar 4) (fC (.str sA))) := rfl
theorem eqD_h (h : Bool) : eqD (hD h) (.str sA) = .ret (.bl h) := by
  cases h <;> rfl
theorem blD_bl (b : Bool) : blD (.bl b) = .ret b := by cases b <;> rfl
theorem comp_pick {vs : List Nat} {order gone : List Str} {ρ : DL.Env} {i : DL.Env → T (List D)} (hi : i ρ = .ret (txD order)) (hl : order.length < capD) (h5 : 5 < ρ.length) (h3 : ∀ s, ((wipeE ρ [5]).set 5 s)[3]? = some (.own (.lst (txD gone)))) :
    fComp i (gSet 5) (fTest (fOp ninD (fVar 5) (fVarX 3))) (fVar 5) [5] ρ = .ret (txD (order.filter fun x => !gone.any fun z => z == x)) := by
  have hw : (wipeE ρ [5]).length = ρ.length := wipeE_len _ _
  have k := comp_filter (g := gSet 5) (t := fTest (fOp ninD (fVar 5) (fVarX 3))) (f := fVar 5) (ρ := wipeE ρ [5]) (p := fun d => match d with | .str x => !gone.any fun z => z == x | _ => false) (k := id) (ds := txD order) (fun d hd => by
    obtain ⟨x, _, rfl⟩ := List.mem_map.mp hd
    have g5 : ((wipeE ρ [5]).set 5 (.val (.str x)))[5]? = some (.val (.str x)) := List.getElem?_set_self (by rw [hw]; exact h5)
    refine ⟨_, rfl, ?_, fun _ => ?_⟩
    · unfold fTest fOp fVar fVarX
      rw [g5, h3]
      simp only [T.bind_ret, nin_tx, blD_bl]
    · unfold fVar
      rw [g5]; rfl)
  refine fcomp hi (by unfold txD; rw [List.length_map]; exact hl) (k.trans ?_)
  unfold txD
  rw [List.filter_map, List.map_map]
  congr 1
theorem ix0D (x : D) (l : List D) : ixD (.lst (x :: l)) (.int 0) = .ret x := by
  have h : L2.atI (x :: l) (0 : Int) = some x := L2.atI_nat (j := 0) rfl
  show (match L2.atI (x :: l) (0 : Int) with | some d => T.ret d | none => T.fail) = _
  rw [h]
theorem plain_step (hers his : List Str) (h1 : hers.length < capD) (h2 : his.length < capD) (h : Bool) (gone : List Str) (hg : gone.length < 1000) (R : D) (x : Str) (hx : pick (bif h then hers else his) gone = some x) :
    sApp 3 (fOp ixD (fOfL (fComp (iSeq (fIf (fTest (fOp eqD (fVar 4) (fC (.str (PySem.Str.ofString "a"))))) (fVar 1) (fVar 2))) (gSet 5) (fTest (fOp ninD (fVar 5) (fVarX 3))) (fVar 5) [5])) (fC (.int 0)))
      [.val R, .val (.tup (txD hers)), .val (.tup (txD his)), .own (.lst (txD gone)), .val (hD h), .no] =
    .ret (.nx [.val R, .val (.tup (txD hers)), .val (.tup (txD his)), .own (.lst (txD (gone ++ [x]))), .val (hD h), .no]) := by
  have src : iSeq (fIf (fTest (fOp eqD (fVar 4) (fC (.str (PySem.Str.ofString "a"))))) (fVar 1) (fVar 2)) [.val R, .val (.tup (txD hers)), .val (.tup (txD his)), .own (.lst (txD gone)), .val (hD h), .no] = .ret (txD (bif h then hers else his)) := by
    cases h <;> rfl
  have c := comp_pick (vs := [5]) (gone := gone) src (by cases h <;> assumption) (by show 5 < 6; decide) (fun s => rfl)
  obtain ⟨y, hy⟩ : ∃ y, (bif h then hers else his).filter (fun x => !gone.any fun z => z == x) = x :: y := by
    unfold pick at hx
    cases e : (bif h then hers else his).filter (fun x => !gone.any fun z => z == x) with
    | nil => rw [e] at hx; cases hx
    | cons a b => rw [e] at hx; cases hx; exact ⟨b, rfl⟩
  have hcap : (txD gone).length < capD := by unfold txD; rw [List.length_map]; exact Nat.lt_trans hg (by decide)
  generalize hC : fComp (iSeq (fIf (fTest (fOp eqD (fVar 4) (fC (.str (PySem.Str.ofString "a"))))) (fVar 1) (fVar 2))) (gSet 5) (fTest (fOp ninD (fVar 5) (fVarX 3))) (fVar 5) [5] = C at c
  rw [hy] at c
  have e : (fOp ixD (fOfL C) (fC (.int 0))) [.val R, .val (.tup (txD hers)), .val (.tup (txD his)), .own (.lst (txD gone)), .val (hD h), .no] = .ret (.str x) := by
    unfold fOp fOfL
    rw [c]
    exact ix0D _ _
  unfold sApp
  rw [e]
  show (match decide ((txD gone).length < capD) with | true => T.ret _ | false => T.fail) = _
  rw [decide_eq_true hcap]
  unfold txD
  rw [List.map_append]
  rfl
theorem plain_loop (hers his : List Str) (h1 : hers.length < capD) (h2 : his.length < capD) (R : D) : ∀ (r : List Bool) (gone res : List Str) (s4 : Slot), gone.length + r.length < 1000 → greedy hers his r gone = some res →
    ∃ s4', forT (gSet 4) (sApp 3 (fOp ixD (fOfL (fComp (iSeq (fIf (fTest (fOp eqD (fVar 4) (fC (.str (PySem.Str.ofString "a"))))) (fVar 1) (fVar 2))) (gSet 5) (fTest (fOp ninD (fVar 5) (fVarX 3))) (fVar 5) [5])) (fC (.int 0))))
      [.val R, .val (.tup (txD hers)), .val (.tup (txD his)), .own (.lst (txD gone)), s4, .no] (r.map hD) = .ret (.nx [.val R, .val (.tup (txD hers)), .val (.tup (txD his)), .own (.lst (txD res)), s4', .no])
  | [], gone, res, s4, _, hg => by
    cases hg
    exact ⟨s4, rfl⟩
  | h :: r, gone, res, s4, hl, hg => by
    unfold greedy at hg
    cases hp : pick (bif h then hers else his) gone with
    | none => rw [hp] at hg; cases hg
    | some x =>
      rw [hp] at hg
      obtain ⟨s4', e⟩ := plain_loop hers his h1 h2 R r (gone ++ [x]) res (.val (hD h)) (by rw [List.length_append, List.length_cons] at *; simp only [List.length_nil] at *; omega) hg
      refine ⟨s4', ?_⟩
      show (T.bind (T.ret _) fun ρ1 => _) = _
      rw [T.bind_ret]
      have st := plain_step hers his h1 h2 h gone (by rw [List.length_cons] at hl; omega) R x hp
      rw [show ([Slot.val R, .val (.tup (txD hers)), .val (.tup (txD his)), .own (.lst (txD gone)), s4, .no].set 4 (.val (hD h))) = [.val R, .val (.tup (txD hers)), .val (.tup (txD his)), .own (.lst (txD gone)), .val (hD h), .no] from rfl, st, T.bind_ret]
      exact e
theorem plain_eq {hers his : List Str} {r : List Bool} {res : List Str} (h1 : hers.length < capD) (h2 : his.length < capD) (hl : r.length < 1000) (hg : greedy hers his r [] = some res) :
    F__law_plain [rowD r, .tup (txD hers), .tup (txD his)] = .ret (.tup (txD res)) := by
  obtain ⟨s4', e⟩ := plain_loop hers his h1 h2 (rowD r) r [] res .no (by simp only [List.length_nil]; omega) hg
  have e1 : F__law_plain [rowD r, .tup (txD hers), .tup (txD his)] = ((forT (gSet 4) (sApp 3 (fOp ixD (fOfL (fComp (iSeq (fIf (fTest (fOp eqD (fVar 4) (fC (.str (PySem.Str.ofString "a"))))) (fVar 1) (fVar 2))) (gSet 5) (fTest (fOp ninD (fVar 5) (fVarX 3))) (fVar 5) [5])) (fC (.int 0))))
      [.val (rowD r), .val (.tup (txD hers)), .val (.tup (txD his)), .own (.lst (txD [])), .no, .no] (r.map hD)).bind fun o => match o with
        | .nx ρ => sRet (fFn tupOfD (fVar 3)) ρ
        | o => .ret o).bind outD := rfl
  rw [e1, e]
  rfl
end LW
end

section
set_option maxRecDepth 100000
set_option maxHeartbeats 1000000
/-! MQ: taken in plain words. -/
namespace LW
open PySem DL
theorem in_txl' (l : List Str) (x : Str) : inD (.str x) (.lst (txD l)) = .ret (.bl (l.any fun z => z == x)) := in_txl l x
theorem first_of_eq {order left : List Str} {x : Str} {y : List Str} (hl : order.length < capD) (hx : order.filter (fun o => left.any fun z => z == o) = x :: y) : F_first_of [.tup (txD order), .lst (txD left)] = .ret (.str x) := by
  have c : fComp (iSeq (fVar 0)) (gSet 2) (fTest (fOp inD (fVar 2) (fVar 1))) (fVar 2) [2] [.val (.tup (txD order)), .val (.lst (txD left)), .no] = .ret (txD (x :: y)) := by
    refine fcomp rfl (by unfold txD; rw [List.length_map]; exact hl) ?_
    have k := comp_filter (g := gSet 2) (t := fTest (fOp inD (fVar 2) (fVar 1))) (f := fVar 2) (ρ := [.val (.tup (txD order)), .val (.lst (txD left)), .no]) (p := fun d => match d with | .str o => left.any fun z => z == o | _ => false) (k := id) (ds := txD order) (fun d hd => by
      obtain ⟨o, _, rfl⟩ := List.mem_map.mp hd
      refine ⟨_, rfl, ?_, fun _ => rfl⟩
      show (T.bind (inD (.str o) (.lst (txD left))) blD) = _
      rw [in_txl, T.bind_ret]
      exact blD_bl _)
    refine Eq.trans (show _ = _ from rfl) (k.trans ?_)
    rw [← hx]
    unfold txD
    rw [List.filter_map, List.map_map]
    congr 1
  have e : F_first_of [.tup (txD order), .lst (txD left)] = ((((fComp (iSeq (fVar 0)) (gSet 2) (fTest (fOp inD (fVar 2) (fVar 1))) (fVar 2) [2] [.val (.tup (txD order)), .val (.lst (txD left)), .no]).bind fun ds => T.ret (D.lst ds)).bind fun x => (T.ret (D.int 0)).bind fun y => ixD x y).bind fun d => T.ret (Out.rt d)).bind outD := rfl
  rw [e, c]
  show (((ixD (.lst (.str x :: txD y)) (.int 0)).bind fun d => T.ret (Out.rt d)).bind outD) = _
  rw [ix0D]
  rfl
def TB : DL.Env → T Out := sSeq (sAppF 4 (aFn F_first_of (aCons (fIf (fTest (fOp eqD (fVar 3) (fC (.str (PySem.Str.ofString "a"))))) (fVar 1) (fVar 2)) (aCons (fVar 5) aNil)))) (sRem 5 (fOp ixD (fVar 4) (fUn negD (fC (.int 1)))))
theorem leavesD_tx : ∀ l : List Str, leavesD (txD l) = some (l.map .text)
  | [] => rfl
  | x :: l => by
    show (match leafD (.str x) with | some a => (match leavesD (txD l) with | some ls => some (a :: ls) | none => none) | none => none) = _
    rw [leavesD_tx l]; rfl
theorem find_tx (x : Str) : ∀ l : List Str, ((l.map Leaf.text).findIdx? fun z => decide (z = .text x)) = l.findIdx? fun z => z == x := by
  intro l
  rw [List.findIdx?_map]
  congr 1
  funext z
  rw [Bool.eq_iff_iff]
  simp
theorem last_ix (l : List D) (x : D) : ixD (.lst (l ++ [x])) (.int (-1)) = .ret x := by
  have h : L2.atI (l ++ [x]) (-1) = some x := L2.atI_last _ _
  show (match L2.atI (l ++ [x]) (-1) with | some d => T.ret d | none => T.fail) = _
  rw [h]
theorem erase_tx (l : List Str) (j : Nat) : (txD l).eraseIdx j = txD (l.eraseIdx j) := erase_map _ _ _
theorem taken_step {hers his gone left : List Str} (h1 : hers.length < capD) (h2 : his.length < capD) (h : Bool) (hg : gone.length < 1000) {R : D} {x : Str} {y : List Str} {j : Nat} (hx : (bif h then hers else his).filter (fun o => left.any fun z => z == o) = x :: y) (hj : (left.findIdx? fun z => z == x) = some j) :
    TB [.val R, .val (.tup (txD hers)), .val (.tup (txD his)), .val (hD h), .own (.lst (txD gone)), .own (.lst (txD left))] =
      .ret (.nx [.val R, .val (.tup (txD hers)), .val (.tup (txD his)), .val (hD h), .own (.lst (txD (gone ++ [x]))), .own (.lst (txD (left.eraseIdx j)))]) := by
  have hcap : (txD gone).length < capD := by unfold txD; rw [List.length_map]; exact Nat.lt_trans hg (by decide)
  have f := first_of_eq (order := bif h then hers else his) (left := left) (by cases h <;> assumption) hx
  have a1 : (aFn F_first_of (aCons (fIf (fTest (fOp eqD (fVar 3) (fC (.str (PySem.Str.ofString "a"))))) (fVar 1) (fVar 2)) (aCons (fVar 5) aNil))) (fullE [.val R, .val (.tup (txD hers)), .val (.tup (txD his)), .val (hD h), .own (.lst (txD gone)), .own (.lst (txD left))]) = .ret (.str x) := by
    cases h <;> exact f
  have s1 : sAppF 4 (aFn F_first_of (aCons (fIf (fTest (fOp eqD (fVar 3) (fC (.str (PySem.Str.ofString "a"))))) (fVar 1) (fVar 2)) (aCons (fVar 5) aNil))) [.val R, .val (.tup (txD hers)), .val (.tup (txD his)), .val (hD h), .own (.lst (txD gone)), .own (.lst (txD left))] =
      .ret (.nx [.val R, .val (.tup (txD hers)), .val (.tup (txD his)), .val (hD h), .own (.lst (txD gone ++ [.str x])), .own (.lst (txD left))]) := by
    unfold sAppF
    rw [a1]
    show (match true && decide ((txD gone).length < capD) with | true => T.ret _ | false => T.fail) = _
    rw [decide_eq_true hcap]
    rfl
  unfold TB sSeq
  rw [s1, T.bind_ret]
  show sRem 5 (fOp ixD (fVar 4) (fUn negD (fC (.int 1)))) [.val R, .val (.tup (txD hers)), .val (.tup (txD his)), .val (hD h), .own (.lst (txD gone ++ [.str x])), .own (.lst (txD left))] = _
  unfold sRem
  have a2 : (fOp ixD (fVar 4) (fUn negD (fC (.int 1)))) (fullE [.val R, .val (.tup (txD hers)), .val (.tup (txD his)), .val (hD h), .own (.lst (txD gone ++ [.str x])), .own (.lst (txD left))]) = .ret (.str x) := last_ix _ _
  rw [a2]
  have o5 : ownL [.val R, .val (.tup (txD hers)), .val (.tup (txD his)), .val (hD h), .own (.lst (txD gone ++ [.str x])), .own (.lst (txD left))] 5 = .ret (txD left) := rfl
  rw [o5]
  simp only [T.bind_ret, leavesD_tx, leafD, find_tx, hj]
  show T.ret (Out.nx [.val R, .val (.tup (txD hers)), .val (.tup (txD his)), .val (hD h), .own (.lst (txD gone ++ [.str x])), .own (.lst ((txD left).eraseIdx j))]) = _
  rw [erase_tx]
  unfold txD
  rw [List.map_append]
  rfl
end LW
end

section
set_option maxRecDepth 100000
set_option maxHeartbeats 1000000
/-! MR: taken answers as the law's plain picks. -/
namespace LW
open PySem DL
theorem find_erase : ∀ (l : List Str) (x : Str), l.Nodup → x ∈ l → ∃ j, (l.findIdx? fun z => z == x) = some j ∧ l.eraseIdx j = l.filter fun y => !(x == y)
  | [], x, _, h => absurd h (List.not_mem_nil)
  | y :: l, x, hn, h => by
    obtain ⟨h1, h2⟩ := List.nodup_cons.mp hn
    by_cases e : y = x
    · subst e
      refine ⟨0, (by rw [List.findIdx?_cons]; simp), ?_⟩
      rw [List.eraseIdx_cons_zero, List.filter_cons_of_neg (by simp)]
      rw [List.filter_eq_self.mpr]
      intro a ha
      simp only [Bool.not_eq_true', beq_eq_false_iff_ne, ne_eq]
      intro z
      exact h1 (z ▸ ha)
    · have hx : x ∈ l := (List.mem_cons.mp h).resolve_left fun z => e z.symm
      obtain ⟨j, k1, k2⟩ := find_erase l x h2 hx
      refine ⟨j + 1, ?_, ?_⟩
      · rw [List.findIdx?_cons, k1]
        have : (y == x) = false := by simp [e]
        rw [this]; rfl
      · rw [List.eraseIdx_cons_succ, k2, List.filter_cons_of_pos (by simp only [Bool.not_eq_true', beq_eq_false_iff_ne, ne_eq]; exact fun z => e z.symm)]
def leftOf (hers gone : List Str) : List Str := hers.filter fun y => !gone.any fun z => z == y
theorem any_iff (l : List Str) (x : Str) : (l.any fun z => z == x) = true ↔ x ∈ l := by
  rw [List.any_eq_true]
  constructor
  · rintro ⟨z, h1, h2⟩
    rw [← beq_iff_eq.mp h2]; exact h1
  · intro h
    exact ⟨x, h, beq_self_eq_true _⟩
theorem mem_left {hers gone : List Str} {x : Str} : x ∈ leftOf hers gone ↔ x ∈ hers ∧ x ∉ gone := by
  unfold leftOf
  rw [List.mem_filter, Bool.not_eq_true', Bool.eq_false_iff, ne_eq, any_iff]
theorem left_step {hers gone : List Str} {x : Str} (hn : hers.Nodup) (hx : x ∈ leftOf hers gone) : ∃ j, ((leftOf hers gone).findIdx? fun z => z == x) = some j ∧ (leftOf hers gone).eraseIdx j = leftOf hers (gone ++ [x]) := by
  obtain ⟨j, h1, h2⟩ := find_erase _ x (List.Nodup.sublist List.filter_sublist hn : (leftOf hers gone).Nodup) hx
  refine ⟨j, h1, h2.trans ?_⟩
  unfold leftOf
  rw [List.filter_filter]
  congr 1
  funext y
  rw [List.any_append]
  simp only [List.any_cons, List.any_nil, Bool.or_false, Bool.not_or]
  exact Bool.and_comm _ _
theorem pick_same {hers order gone : List Str} (ho : ∀ o ∈ order, o ∈ hers) : (order.filter fun o => (leftOf hers gone).any fun z => z == o) = order.filter fun o => !gone.any fun z => z == o := by
  refine List.filter_congr fun o h => ?_
  rw [Bool.eq_iff_iff, any_iff, mem_left, Bool.not_eq_true', Bool.eq_false_iff, ne_eq, any_iff]
  exact ⟨fun z => z.2, fun z => ⟨ho o h, z⟩⟩
theorem taken_loop {hers his : List Str} (h1 : hers.length < capD) (h2 : his.length < capD) (hn : hers.Nodup) (hs : ∀ o ∈ his, o ∈ hers) {R : D} : ∀ (r : List Bool) (gone res : List Str) (s3 : Slot), gone.length + r.length < 1000 → greedy hers his r gone = some res →
    ∃ s3' left', forT (gSet 3) TB [.val R, .val (.tup (txD hers)), .val (.tup (txD his)), s3, .own (.lst (txD gone)), .own (.lst (txD (leftOf hers gone)))] (r.map hD) =
      .ret (.nx [.val R, .val (.tup (txD hers)), .val (.tup (txD his)), s3', .own (.lst (txD res)), .own (.lst left')])
  | [], gone, res, s3, _, hg => by
    cases hg
    exact ⟨s3, _, rfl⟩
  | h :: r, gone, res, s3, hl, hg => by
    unfold greedy at hg
    cases hp : pick (bif h then hers else his) gone with
    | none => rw [hp] at hg; cases hg
    | some x =>
      rw [hp] at hg
      have ho : ∀ o ∈ (bif h then hers else his), o ∈ hers := by cases h <;> (first | exact hs | exact fun o z => z)
      obtain ⟨y, hy⟩ : ∃ y, (bif h then hers else his).filter (fun x => !gone.any fun z => z == x) = x :: y := by
        unfold pick at hp
        cases e : (bif h then hers else his).filter (fun x => !gone.any fun z => z == x) with
        | nil => rw [e] at hp; cases hp
        | cons a b => rw [e] at hp; cases hp; exact ⟨b, rfl⟩
      have hy2 := hy
      rw [← pick_same ho] at hy
      have hxm : x ∈ (bif h then hers else his).filter (fun x => !gone.any fun z => z == x) := by rw [hy2]; exact .head _
      obtain ⟨m1, m2⟩ := List.mem_filter.mp hxm
      have hxl : x ∈ leftOf hers gone := mem_left.mpr ⟨ho x m1, fun z => by rw [(any_iff gone x).mpr z] at m2; cases m2⟩
      obtain ⟨j, j1, j2⟩ := left_step hn hxl
      have st := taken_step (gone := gone) h1 h2 h (by rw [List.length_cons] at hl; omega) (R := R) hy j1
      have hl2 : (gone ++ [x]).length + r.length < 1000 := by rw [List.length_append]; rw [List.length_cons] at hl; simp only [List.length_cons, List.length_nil]; omega
      obtain ⟨s3', left', e⟩ := taken_loop h1 h2 hn hs (R := R) r (gone ++ [x]) res (.val (hD h)) hl2 hg
      refine ⟨s3', left', ?_⟩
      show (T.bind (T.ret _) fun ρ1 => _) = _
      rw [T.bind_ret]
      rw [show ([Slot.val R, .val (.tup (txD hers)), .val (.tup (txD his)), s3, .own (.lst (txD gone)), .own (.lst (txD (leftOf hers gone)))].set 3 (.val (hD h))) = [.val R, .val (.tup (txD hers)), .val (.tup (txD his)), .val (hD h), .own (.lst (txD gone)), .own (.lst (txD (leftOf hers gone)))] from rfl, st, T.bind_ret, j2]
      exact e
theorem left_nil (hers : List Str) : leftOf hers [] = hers := by
  unfold leftOf
  exact List.filter_eq_self.mpr fun _ _ => rfl
theorem taken_eq {hers his res : List Str} {r : List Bool} {R : D} (h1 : hers.length < capD) (h2 : his.length < capD) (hn : hers.Nodup) (hs : ∀ o ∈ his, o ∈ hers) (hl : r.length < 1000)
    (hch : F_check_lists [R, .tup (txD hers), .tup (txD his)] = .ret .non) (hh : F_heirs [R] = .ret (rowD r)) (hg : greedy hers his r [] = some res) :
    F_taken [R, .tup (txD hers), .tup (txD his)] = .ret (.tup (txD res)) := by
  obtain ⟨s3', left', e⟩ := taken_loop h1 h2 hn hs (R := R) r [] res .no (by simp only [List.length_nil]; omega) hg
  rw [left_nil] at e
  have e1 : F_taken [R, .tup (txD hers), .tup (txD his)] = (((F_check_lists [R, .tup (txD hers), .tup (txD his)]).bind fun _ => T.ret (Out.nx [.val R, .val (.tup (txD hers)), .val (.tup (txD his)), .no, .no, .no])).bind fun o => match o with
      | .nx ρ => sSeq (sParLL 4 5 (fLst aNil) (lFn listOfD (fVar 1))) (sSeq (sFor (iSeq (aFn F_heirs (aCons (fVar 0) aNil))) (gSet 3) TB) (sRet (fFn tupOfD (fVar 4)))) ρ
      | o => .ret o).bind outD := rfl
  rw [e1, hch]
  simp only [T.bind_ret]
  have e2 : sSeq (sParLL 4 5 (fLst aNil) (lFn listOfD (fVar 1))) (sSeq (sFor (iSeq (aFn F_heirs (aCons (fVar 0) aNil))) (gSet 3) TB) (sRet (fFn tupOfD (fVar 4)))) [.val R, .val (.tup (txD hers)), .val (.tup (txD his)), .no, .no, .no] =
      (((F_heirs [R]).bind seqT).bind fun ds => forT (gSet 3) TB [.val R, .val (.tup (txD hers)), .val (.tup (txD his)), .no, .own (.lst (txD [])), .own (.lst (txD hers))] ds).bind fun o => match o with
      | .nx ρ => sRet (fFn tupOfD (fVar 4)) ρ
      | o => .ret o := rfl
  rw [e2, hh]
  show ((forT (gSet 3) TB [.val R, .val (.tup (txD hers)), .val (.tup (txD his)), .no, .own (.lst (txD [])), .own (.lst (txD hers))] (r.map hD)).bind _).bind outD = _
  rw [e]
  rfl
end LW
end

section
set_option maxRecDepth 100000
set_option maxHeartbeats 1000000
/-! MU: shares in plain words. -/
namespace LW
open PySem DL
def sel (b : Bool) : List Bool → List Str → List Str
  | x :: r, p :: ps => bif x == b then p :: sel b r ps else sel b r ps
  | _, _ => []
theorem eqD_hh (x b : Bool) : eqD (hD x) (hD b) = .ret (.bl (x == b)) := by cases x <;> cases b <;> rfl
theorem share_comp {g : D → DL.Env → T DL.Env} {t : DL.Env → T Bool} {f : DL.Env → T D} {ρ : DL.Env} {b : Bool}
    (h : ∀ (x : Bool) (p : Str), ∃ ρ', g (.pr (hD x) (.str p)) ρ = .ret ρ' ∧ t ρ' = .ret (x == b) ∧ f ρ' = .ret (.str p)) : ∀ (r : List Bool) (ps : List Str), compT g t f ρ (zipD (r.map hD) (txD ps)) = .ret (txD (sel b r ps))
  | [], ps => by cases ps <;> rfl
  | x :: r, [] => rfl
  | x :: r, p :: ps => by
    obtain ⟨ρ', h1, h2, h3⟩ := h x p
    have ih := share_comp h r ps
    show ((g (.pr (hD x) (.str p)) ρ).bind fun ρ' => (t ρ').bind fun c => match c with
      | true => (f ρ').bind fun y => (compT g t f ρ (zipD (r.map hD) (txD ps))).bind fun ys => .ret (y :: ys)
      | false => compT g t f ρ (zipD (r.map hD) (txD ps))) = _
    rw [h1, T.bind_ret, h2, T.bind_ret]
    unfold sel
    cases x == b with
    | true =>
      simp only []
      rw [h3, T.bind_ret, ih, T.bind_ret]
      rfl
    | false => exact ih
/-- the same over tuples, as list(zip(..)) gives them -/
theorem share_compT {g : D → DL.Env → T DL.Env} {t : DL.Env → T Bool} {f : DL.Env → T D} {ρ : DL.Env} {b : Bool}
    (h : ∀ (x : Bool) (p : Str), ∃ ρ', g (.tup [hD x, .str p]) ρ = .ret ρ' ∧ t ρ' = .ret (x == b) ∧ f ρ' = .ret (.str p)) : ∀ (r : List Bool) (ps : List Str), compT g t f ρ (zipT (r.map hD) (txD ps)) = .ret (txD (sel b r ps))
  | [], ps => by cases ps <;> rfl
  | x :: r, [] => rfl
  | x :: r, p :: ps => by
    obtain ⟨ρ', h1, h2, h3⟩ := h x p
    have ih := share_compT h r ps
    show ((g (.tup [hD x, .str p]) ρ).bind fun ρ' => (t ρ').bind fun c => match c with
      | true => (f ρ').bind fun y => (compT g t f ρ (zipT (r.map hD) (txD ps))).bind fun ys => .ret (y :: ys)
      | false => compT g t f ρ (zipT (r.map hD) (txD ps))) = _
    rw [h1, T.bind_ret, h2, T.bind_ret]
    unfold sel
    cases x == b with
    | true =>
      simp only []
      rw [h3, T.bind_ret, ih, T.bind_ret]
      rfl
    | false => exact ih
/-- sorted -/
def srtT (ps : List Str) : List D := (DS.srtL (ps.map .text)).map dLeaf
theorem alk_tx (ps : List Str) : DS.alkB (ps.map .text) = true := by
  unfold DS.alkB
  rw [Bool.or_eq_true]
  right
  rw [List.all_map, List.all_eq_true]
  intro x _; rfl
theorem sortD_tx (ps : List Str) : sortD (.lst (txD ps)) = .ret (srtT ps) := by
  unfold sortD
  simp only [seqD, leavesD_tx, alk_tx]
  rfl
theorem ded_tx : ∀ ps : List Str, ps.Nodup → DS.dedL (ps.map .text) = ps.map .text
  | [], _ => rfl
  | p :: ps, h => by
    obtain ⟨h1, h2⟩ := List.nodup_cons.mp h
    show (bif (DS.dedL (ps.map .text)).contains (.text p) then _ else _) = _
    rw [ded_tx ps h2]
    have e : (ps.map Leaf.text).contains (.text p) = false := by
      rw [Bool.eq_false_iff]
      intro z
      obtain ⟨q, hq, e⟩ := List.mem_map.mp (DS.contains_iff.mp z)
      cases e
      exact h1 hq
    rw [e]; rfl
theorem sortSet_tx (ps : List Str) (hn : ps.Nodup) (hl : ps.length ≤ 3000) : sortSetD (.lst (txD ps)) = .ret (srtT ps) := by
  unfold sortSetD
  simp only [seqD, leavesD_tx, ded_tx ps hn, alk_tx, Bool.and_true, List.length_map]
  rw [decide_eq_true hl]
  rfl
theorem zip_len (r : List Bool) (ps : List Str) : (zipD (r.map hD) (txD ps)).length ≤ r.length := by
  rw [zipD_len, List.length_map]
  exact Nat.min_le_left _ _
theorem share_eq {r : List Bool} {ps : List Str} {b : Bool} (hl : r.length < 1000) : F__law_share [rowD r, .tup (txD ps), hD b] = .ret (.tup (srtT (sel b r ps))) := by
  have c : fComp (iZip (fVar 0) (fVar 1)) (gTupD (gsCons (gSet 3) (gsCons (gSet 4) gsNil))) (fTest (fOp eqD (fVar 3) (fVar 2))) (fVar 4) [3, 4] [.val (rowD r), .val (.tup (txD ps)), .val (hD b), .no, .no] = .ret (txD (sel b r ps)) := by
    refine fcomp rfl (Nat.lt_of_le_of_lt (zip_len r ps) (Nat.lt_trans hl (by decide))) (share_comp (fun x p => ⟨_, rfl, ?_, rfl⟩) r ps)
    show (T.bind (eqD (hD x) (hD b)) blD) = _
    rw [eqD_hh, T.bind_ret]
    exact blD_bl _
  have e : F__law_share [rowD r, .tup (txD ps), hD b] = (((((fComp (iZip (fVar 0) (fVar 1)) (gTupD (gsCons (gSet 3) (gsCons (gSet 4) gsNil))) (fTest (fOp eqD (fVar 3) (fVar 2))) (fVar 4) [3, 4] [.val (rowD r), .val (.tup (txD ps)), .val (hD b), .no, .no]).bind fun ds => T.ret (D.lst ds)).bind sortD).bind fun ds => T.ret (D.lst ds)).bind tupOfD |>.bind fun d => T.ret (Out.rt d)).bind outD := rfl
  rw [e, c]
  simp only [T.bind_ret, sortD_tx]
  rfl
end LW
end

section
set_option maxRecDepth 100000
set_option maxHeartbeats 1000000
/-! MV: shares(turns, hers, his) in plain words. -/
namespace LW
open PySem DL
theorem zipT_len : ∀ xs ys : List D, (zipT xs ys).length ≤ xs.length
  | [], ys => by cases ys <;> exact Nat.le_refl _
  | x :: xs, [] => Nat.zero_le _
  | x :: xs, y :: ys => Nat.succ_le_succ (zipT_len xs ys)
theorem neD_h (x : Bool) : neD (hD x) (.str sA) = .ret (.bl (x == false)) := by cases x <;> rfl
theorem eqD_h1 (x : Bool) : eqD (hD x) (.str sA) = .ret (.bl (x == true)) := by cases x <;> rfl
theorem sel_sub (b : Bool) : ∀ (r : List Bool) (ps : List Str), (sel b r ps).Sublist ps
  | [], ps => by cases ps <;> exact List.nil_sublist _
  | x :: r, [] => List.nil_sublist _
  | x :: r, p :: ps => by
    unfold sel
    cases x == b with
    | true => exact (sel_sub b r ps).cons₂ p
    | false => exact (sel_sub b r ps).cons p
theorem set_of_eq {ps : List Str} (hn : ps.Nodup) (hl : ps.length ≤ 3000) : F_set_of [.lst (txD ps)] = .ret (.tup (srtT ps)) := by
  have e : F_set_of [.lst (txD ps)] = ((((sortSetD (.lst (txD ps))).bind fun ds => T.ret (D.lst ds)).bind tupOfD).bind fun d => T.ret (Out.rt d)).bind outD := rfl
  rw [e, sortSet_tx ps hn hl]
  rfl
theorem shares_eq {r : List Bool} {res : List Str} {R H I : D} (hl : r.length < 1000) (hrl : res.length ≤ 1000) (hn : res.Nodup)
    (hh : F_heirs [R] = .ret (rowD r)) (ht : F_taken [R, H, I] = .ret (.tup (txD res))) :
    F_shares [R, H, I] = .ret (.tup [.tup (srtT (sel true r res)), .tup (srtT (sel false r res))]) := by
  have hz : (zipT (r.map hD) (txD res)).length < capD := Nat.lt_of_le_of_lt (zipT_len _ _) (by rw [List.length_map]; exact Nat.lt_trans hl (by decide))
  have hz2 : (r.map hD).length ≤ capD := by rw [List.length_map]; exact Nat.le_of_lt (Nat.lt_trans hl (by decide))
  have c0 : lZip (aFn F_heirs (aCons (fVar 0) aNil)) (aFn F_taken (aCons (fVar 0) (aCons (fVar 1) (aCons (fVar 2) aNil)))) [.val R, .val H, .val I, .no, .no, .no, .no, .no] = .ret (zipT (r.map hD) (txD res)) := by
    show ((F_heirs [R]).bind fun x => (F_taken [R, H, I]).bind fun y => (seqT x).bind fun xs => (seqT y).bind fun ys => match decide (xs.length ≤ capD) with | true => T.ret (zipT xs ys) | false => .fail) = _
    rw [hh, T.bind_ret, ht, T.bind_ret]
    show (match decide ((r.map hD).length ≤ capD) with | true => T.ret (zipT (r.map hD) (txD res)) | false => .fail) = _
    rw [decide_eq_true hz2]
  have c1 : fComp (iSeq (fVar 3)) (gTupD (gsCons (gSet 6) (gsCons (gSet 7) gsNil))) (fTest (fOp eqD (fVar 6) (fC (.str sA)))) (fVar 7) [6, 7] [.val R, .val H, .val I, .val (.lst (zipT (r.map hD) (txD res))), .no, .no, .no, .no] = .ret (txD (sel true r res)) := by
    refine fcomp rfl hz (share_compT (b := true) (fun x p => ⟨_, rfl, ?_, rfl⟩) r res)
    show (T.bind (eqD (hD x) (.str sA)) blD) = _
    rw [eqD_h1, T.bind_ret]
    exact blD_bl _
  have c2 : fComp (iSeq (fVar 3)) (gTupD (gsCons (gSet 6) (gsCons (gSet 7) gsNil))) (fTest (fOp neD (fVar 6) (fC (.str sA)))) (fVar 7) [6, 7] [.val R, .val H, .val I, .val (.lst (zipT (r.map hD) (txD res))), .no, .no, .no, .no] = .ret (txD (sel false r res)) := by
    refine fcomp rfl hz (share_compT (b := false) (fun x p => ⟨_, rfl, ?_, rfl⟩) r res)
    show (T.bind (neD (hD x) (.str sA)) blD) = _
    rw [neD_h, T.bind_ret]
    exact blD_bl _
  have n1 := (sel_sub true r res).nodup hn
  have n2 := (sel_sub false r res).nodup hn
  have l1 : (sel true r res).length ≤ 3000 := Nat.le_trans (sel_sub true r res).length_le (Nat.le_trans hrl (by decide))
  have l2 : (sel false r res).length ≤ 3000 := Nat.le_trans (sel_sub false r res).length_le (Nat.le_trans hrl (by decide))
  have e : F_shares [R, H, I] = ((((lZip (aFn F_heirs (aCons (fVar 0) aNil)) (aFn F_taken (aCons (fVar 0) (aCons (fVar 1) (aCons (fVar 2) aNil)))) [.val R, .val H, .val I, .no, .no, .no, .no, .no]).bind fun ds => T.ret (D.lst ds)).bind fun d => T.ret (Out.nx [.val R, .val H, .val I, .val d, .no, .no, .no, .no])).bind fun o => match o with
      | .nx ρ => sSeq (sParVV 4 5 (fOfL (fComp (iSeq (fVar 3)) (gTupD (gsCons (gSet 6) (gsCons (gSet 7) gsNil))) (fTest (fOp eqD (fVar 6) (fC (.str sA)))) (fVar 7) [6, 7])) (fOfL (fComp (iSeq (fVar 3)) (gTupD (gsCons (gSet 6) (gsCons (gSet 7) gsNil))) (fTest (fOp neD (fVar 6) (fC (.str sA)))) (fVar 7) [6, 7]))) (sRet (fTup (aCons (aFn F_set_of (aCons (fVar 4) aNil)) (aCons (aFn F_set_of (aCons (fVar 5) aNil)) aNil)))) ρ
      | o => .ret o).bind outD := rfl
  rw [e, c0]
  simp only [T.bind_ret]
  have e2 : sSeq (sParVV 4 5 (fOfL (fComp (iSeq (fVar 3)) (gTupD (gsCons (gSet 6) (gsCons (gSet 7) gsNil))) (fTest (fOp eqD (fVar 6) (fC (.str sA)))) (fVar 7) [6, 7])) (fOfL (fComp (iSeq (fVar 3)) (gTupD (gsCons (gSet 6) (gsCons (gSet 7) gsNil))) (fTest (fOp neD (fVar 6) (fC (.str sA)))) (fVar 7) [6, 7]))) (sRet (fTup (aCons (aFn F_set_of (aCons (fVar 4) aNil)) (aCons (aFn F_set_of (aCons (fVar 5) aNil)) aNil)))) [.val R, .val H, .val I, .val (.lst (zipT (r.map hD) (txD res))), .no, .no, .no, .no] =
      ((((fComp (iSeq (fVar 3)) (gTupD (gsCons (gSet 6) (gsCons (gSet 7) gsNil))) (fTest (fOp eqD (fVar 6) (fC (.str sA)))) (fVar 7) [6, 7] [.val R, .val H, .val I, .val (.lst (zipT (r.map hD) (txD res))), .no, .no, .no, .no]).bind fun ds => T.ret (D.lst ds)).bind fun x => ((fComp (iSeq (fVar 3)) (gTupD (gsCons (gSet 6) (gsCons (gSet 7) gsNil))) (fTest (fOp neD (fVar 6) (fC (.str sA)))) (fVar 7) [6, 7] [.val R, .val H, .val I, .val (.lst (zipT (r.map hD) (txD res))), .no, .no, .no, .no]).bind fun ds => T.ret (D.lst ds)).bind fun y => T.ret (Out.nx [.val R, .val H, .val I, .val (.lst (zipT (r.map hD) (txD res))), .val x, .val y, .no, .no])).bind fun o => match o with
      | .nx ρ => sRet (fTup (aCons (aFn F_set_of (aCons (fVar 4) aNil)) (aCons (aFn F_set_of (aCons (fVar 5) aNil)) aNil))) ρ
      | o => .ret o) := rfl
  rw [e2, c1, c2]
  simp only [T.bind_ret]
  have e3 : sRet (fTup (aCons (aFn F_set_of (aCons (fVar 4) aNil)) (aCons (aFn F_set_of (aCons (fVar 5) aNil)) aNil))) [.val R, .val H, .val I, .val (.lst (zipT (r.map hD) (txD res))), .val (.lst (txD (sel true r res))), .val (.lst (txD (sel false r res))), .no, .no] =
      (((F_set_of [.lst (txD (sel true r res))]).bind fun x => ((F_set_of [.lst (txD (sel false r res))]).bind fun x => (T.ret []).bind fun xs => T.ret (x :: xs)).bind fun xs => T.ret (x :: xs)).bind fun ds => match decide (ds.length ≤ capD) with | true => T.ret (D.tup ds) | false => .fail).bind fun d => T.ret (Out.rt d) := rfl
  rw [e3, set_of_eq n1 l1, set_of_eq n2 l2]
  rfl
end LW
end

section
set_option maxRecDepth 100000
set_option maxHeartbeats 1000000
/-! MX: places in a list, and the first worse best thing. -/
namespace LW
open PySem DL
def iD (l : List Int) : List D := l.map D.int
def posOf (q : Str → Bool) : Int → List Str → List Int
  | _, [] => []
  | k, x :: r => bif q x then k :: posOf q (k + 1) r else posOf q (k + 1) r
def unText : Leaf → Str
  | .text x => x
  | _ => sA
theorem srt_tx (ps : List Str) : ∃ qs, srtT ps = txD qs ∧ qs.Perm ps := by
  have p := DS.srt_perm (ps.map Leaf.text)
  refine ⟨(DS.srtL (ps.map .text)).map unText, ?_, ?_⟩
  · unfold srtT txD
    rw [List.map_map]
    refine List.map_congr_left fun a ha => ?_
    obtain ⟨x, _, e⟩ := List.mem_map.mp (p.mem_iff.mp ha)
    subst e; rfl
  · have h := p.map unText
    rw [List.map_map] at h
    have e : ps.map (unText ∘ Leaf.text) = ps := by
      rw [show (unText ∘ Leaf.text) = id from rfl, List.map_id]
    rw [e] at h
    exact h
def inP (ps : List Str) (x : Str) : Bool := ps.any fun z => z == x
theorem in_srt (ps : List Str) (x : Str) : inD (.str x) (.tup (srtT ps)) = .ret (.bl (inP ps x)) := by
  obtain ⟨qs, e, p⟩ := srt_tx ps
  have h : inD (.str x) (.tup (txD qs)) = .ret (.bl (qs.any fun z => z == x)) := by
    unfold inD inB
    simp only [seqD, flatD, all_flat, Bool.and_true, T.bind_ret, any_tx]
  rw [e, h]
  unfold inP
  rw [p.any_eq]
theorem pos_comp {g : D → DL.Env → T DL.Env} {t : DL.Env → T Bool} {f : DL.Env → T D} {ρ : DL.Env} {q : Str → Bool} {F : Int → Int}
    (h : ∀ (k : Int) (x : Str), ∃ ρ', g (.pr (.int k) (.str x)) ρ = .ret ρ' ∧ t ρ' = .ret (q x) ∧ f ρ' = .ret (.int (F k))) : ∀ (k : Int) (l : List Str), compT g t f ρ (enumFrom k (txD l)) = .ret (iD ((posOf q k l).map F))
  | k, [] => rfl
  | k, x :: l => by
    obtain ⟨ρ', h1, h2, h3⟩ := h k x
    have ih := pos_comp h (k + 1) l
    show ((g (.pr (.int k) (.str x)) ρ).bind fun ρ' => (t ρ').bind fun c => match c with
      | true => (f ρ').bind fun y => (compT g t f ρ (enumFrom (k + 1) (txD l))).bind fun ys => .ret (y :: ys)
      | false => compT g t f ρ (enumFrom (k + 1) (txD l))) = _
    rw [h1, T.bind_ret, h2, T.bind_ret]
    unfold posOf
    cases q x with
    | true =>
      simp only []
      rw [h3, T.bind_ret, ih, T.bind_ret]
      rfl
    | false => exact ih
theorem enum_lt {l : List Str} (h : l.length < 1000) : (enumFrom 0 (txD l)).length < capD := by
  rw [enumFrom_len]
  unfold txD
  rw [List.length_map]
  exact Nat.lt_trans h (by decide)
theorem places_eq {l ps : List Str} (h : l.length < 1000) : F__law_places [.tup (txD l), .tup (srtT ps)] = .ret (.lst (iD ((posOf (inP ps) 0 l).map fun k => k + 1))) := by
  have c : fComp (iEnum (fVar 0)) (gTupD (gsCons (gSet 2) (gsCons (gSet 3) gsNil))) (fTest (fOp inD (fVar 3) (fVar 1))) (fOp addD (fVar 2) (fC (.int 1))) [2, 3] [.val (.tup (txD l)), .val (.tup (srtT ps)), .no, .no] = .ret (iD ((posOf (inP ps) 0 l).map fun k => k + 1)) := by
    refine fcomp rfl (enum_lt h) (pos_comp (fun k x => ⟨_, rfl, ?_, rfl⟩) 0 l)
    show (T.bind (inD (.str x) (.tup (srtT ps))) blD) = _
    rw [in_srt, T.bind_ret]
    exact blD_bl _
  have e : F__law_places [.tup (txD l), .tup (srtT ps)] = (((fComp (iEnum (fVar 0)) (gTupD (gsCons (gSet 2) (gsCons (gSet 3) gsNil))) (fTest (fOp inD (fVar 3) (fVar 1))) (fOp addD (fVar 2) (fC (.int 1))) [2, 3] [.val (.tup (txD l)), .val (.tup (srtT ps)), .no, .no]).bind fun ds => T.ret (D.lst ds)).bind fun d => T.ret (Out.rt d)).bind outD := rfl
  rw [e, c]
  rfl
/-- the first number at which mine is worse than its -/
def wr : List Int → List Int → Int → Option Int
  | _, [], _ => none
  | [], _ :: _, k => some (k + 1)
  | x :: m, y :: r, k => bif decide (y < x) then some (k + 1) else wr m r (k + 1)
def wD : Option Int → D
  | none => .non
  | some k => .int k
end LW
end

section
set_option maxRecDepth 100000
set_option maxHeartbeats 1000000
/-! MY: the loops of _law_worse and worse_at. -/
namespace LW
open PySem DL
theorem at_mid (pre r : List Int) (y : Int) : ixD (.lst (iD (pre ++ y :: r))) (.int (pre.length : Nat)) = .ret (.int y) := by
  have h : L2.atI (iD (pre ++ y :: r)) ((pre.length : Nat) : Int) = some (.int y) := L2.atI_nat (by
    unfold iD
    rw [List.getElem?_map, List.getElem?_append_right (Nat.le_refl _), Nat.sub_self]; rfl)
  show (match L2.atI (iD (pre ++ y :: r)) ((pre.length : Nat) : Int) with | some d => T.ret d | none => T.fail) = _
  rw [h]
theorem ge_len (k : Nat) (m : List Int) : geD (.int (k : Nat)) (.int (m.length : Nat)) = .ret (.bl (decide (m.length ≤ k))) := by
  show T.ret (D.bl (decide ((m.length : Int) ≤ (k : Int)))) = _
  congr 2
  exact decide_eq_decide.mpr Int.ofNat_le
theorem iD_len (l : List Int) : (iD l).length = l.length := by unfold iD; rw [List.length_map]
abbrev LB : DL.Env → T Out := sIf (fOr (fTest (fOp geD (fVar 3) (fFn lenD (fVar 4)))) (fTest (fOp gtD (fOp ixD (fVar 4) (fVar 3)) (fOp ixD (fVar 5) (fVar 3))))) (sRet (fOp addD (fVar 3) (fC (.int 1)))) sNext
theorem lb_step (a b c : D) (pm m py r : List Int) (y : Int) (hk : py.length = pm.length) :
    LB [.val a, .val b, .val c, .val (.int (pm.length : Nat)), .val (.lst (iD (pm ++ m))), .val (.lst (iD (py ++ y :: r)))] =
      match m with
      | [] => .ret (.rt (.int ((pm.length : Nat) + 1)))
      | x :: _ => bif decide (y < x) then .ret (.rt (.int ((pm.length : Nat) + 1))) else .ret (.nx [.val a, .val b, .val c, .val (.int (pm.length : Nat)), .val (.lst (iD (pm ++ m))), .val (.lst (iD (py ++ y :: r)))]) := by
  have e : LB [.val a, .val b, .val c, .val (.int (pm.length : Nat)), .val (.lst (iD (pm ++ m))), .val (.lst (iD (py ++ y :: r)))] =
      ((((geD (.int (pm.length : Nat)) (.int ((iD (pm ++ m)).length : Nat))).bind blD).bind fun k => match k with
        | true => T.ret true
        | false => ((ixD (.lst (iD (pm ++ m))) (.int (pm.length : Nat))).bind fun u => (ixD (.lst (iD (py ++ y :: r))) (.int (pm.length : Nat))).bind fun v => gtD u v).bind blD).bind fun k => match k with
        | true => T.ret (.rt (.int ((pm.length : Nat) + 1)))
        | false => T.ret (.nx [.val a, .val b, .val c, .val (.int (pm.length : Nat)), .val (.lst (iD (pm ++ m))), .val (.lst (iD (py ++ y :: r)))])) := rfl
  rw [e, iD_len, ge_len, T.bind_ret, blD_bl, T.bind_ret]
  cases m with
  | nil =>
    rw [List.append_nil, decide_eq_true (Nat.le_refl _)]
    rfl
  | cons x m =>
    rw [decide_eq_false (by rw [List.length_append, List.length_cons]; omega)]
    simp only []
    rw [at_mid, T.bind_ret, ← hk, at_mid, T.bind_ret]
    show (T.bind (T.bind (T.ret (D.bl (decide (y < x)))) blD) _) = _
    rw [T.bind_ret, blD_bl, T.bind_ret]
    cases decide (y < x) <;> rfl
theorem lb_loop (a b c : D) : ∀ (r m pm py : List Int) (s3 : Slot), py.length = pm.length →
    ∃ s3', forT (gSet 3) LB [.val a, .val b, .val c, s3, .val (.lst (iD (pm ++ m))), .val (.lst (iD (py ++ r)))] (rangeD (pm.length : Nat) r.length) =
      .ret (match wr m r (pm.length : Nat) with
        | some k => .rt (.int k)
        | none => .nx [.val a, .val b, .val c, s3', .val (.lst (iD (pm ++ m))), .val (.lst (iD (py ++ r)))])
  | [], m, pm, py, s3, hk => ⟨s3, by unfold wr; rfl⟩
  | y :: r, m, pm, py, s3, hk => by
    have st := lb_step a b c pm m py r y hk
    cases m with
    | nil =>
      refine ⟨s3, ?_⟩
      show (T.bind (LB [.val a, .val b, .val c, .val (.int (pm.length : Nat)), .val (.lst (iD (pm ++ []))), .val (.lst (iD (py ++ y :: r)))]) _) = _
      rw [st]; rfl
    | cons x m =>
      cases hd : decide (y < x) with
      | true =>
        refine ⟨s3, ?_⟩
        show (T.bind (LB [.val a, .val b, .val c, .val (.int (pm.length : Nat)), .val (.lst (iD (pm ++ x :: m))), .val (.lst (iD (py ++ y :: r)))]) _) = _
        rw [st]
        unfold wr
        simp only [hd]
        rfl
      | false =>
        obtain ⟨s3', ih⟩ := lb_loop a b c r m (pm ++ [x]) (py ++ [y]) (.val (.int (pm.length : Nat))) (by rw [List.length_append, List.length_append, hk]; rfl)
        rw [List.append_assoc, List.append_assoc, List.length_append] at ih
        refine ⟨s3', ?_⟩
        show (T.bind (LB [.val a, .val b, .val c, .val (.int (pm.length : Nat)), .val (.lst (iD (pm ++ x :: m))), .val (.lst (iD (py ++ y :: r)))]) _) = _
        rw [st]
        unfold wr
        simp only [hd, cond_false]
        exact ih
theorem wr_map : ∀ (m r : List Int) (k : Int), wr (m.map fun k => k + 1) (r.map fun k => k + 1) k = wr m r k
  | m, [], k => by cases m <;> rfl
  | [], y :: r, k => rfl
  | x :: m, y :: r, k => by
    show (bif decide (y + 1 < x + 1) then _ else wr (m.map fun k => k + 1) (r.map fun k => k + 1) (k + 1)) = _
    rw [wr_map m r (k + 1), show decide (y + 1 < x + 1) = decide (y < x) from decide_eq_decide.mpr (by omega)]
    rfl
end LW
end

section
set_option maxRecDepth 100000
set_option maxHeartbeats 1000000
/-! MZ: _law_worse and worse_at are the same number. -/
namespace LW
open PySem DL
theorem pos_len (q : Str → Bool) : ∀ (k : Int) (l : List Str), (posOf q k l).length ≤ l.length
  | _, [] => Nat.le_refl _
  | k, x :: l => by
    unfold posOf
    have ih := pos_len q (k + 1) l
    cases q x with
    | true => exact Nat.succ_le_succ ih
    | false => exact Nat.le_succ_of_le ih
def worseN (l near far : List Str) : Option Int := wr (posOf (inP near) 0 l) (posOf (inP far) 0 l) 0
theorem law_worse_eq {l near far : List Str} (h : l.length < 1000) : F__law_worse [.tup (txD l), .tup (srtT near), .tup (srtT far)] = .ret (wD (worseN l near far)) := by
  generalize hm : (posOf (inP near) 0 l).map (fun k => k + 1) = m
  generalize hy : (posOf (inP far) 0 l).map (fun k => k + 1) = y
  have ly : y.length < 1000 := by rw [← hy, List.length_map]; exact Nat.lt_of_le_of_lt (pos_len _ _ _) h
  have e : F__law_worse [.tup (txD l), .tup (srtT near), .tup (srtT far)] = (((F__law_places [.tup (txD l), .tup (srtT near)]).bind fun x => (F__law_places [.tup (txD l), .tup (srtT far)]).bind fun z => T.ret (Out.nx [.val (.tup (txD l)), .val (.tup (srtT near)), .val (.tup (srtT far)), .no, .val x, .val z])).bind fun o => match o with
      | .nx ρ => sSeq (sFor (iRange1 (aCons (fFn lenD (fVar 5)) aNil)) (gSet 3) LB) (sRet (fC .non)) ρ
      | o => .ret o).bind outD := rfl
  rw [e, places_eq h, places_eq h, hm, hy]
  simp only [T.bind_ret]
  have hr : iRange1 (aCons (fFn lenD (fVar 5)) aNil) [.val (.tup (txD l)), .val (.tup (srtT near)), .val (.tup (srtT far)), .no, .val (.lst (iD m)), .val (.lst (iD y))] = .ret (rangeD 0 y.length) := by
    have e2 : iRange1 (aCons (fFn lenD (fVar 5)) aNil) [.val (.tup (txD l)), .val (.tup (srtT near)), .val (.tup (srtT far)), .no, .val (.lst (iD m)), .val (.lst (iD y))] = (match okR ((iD y).length : Nat) with | true => T.ret (rangeD 0 (((iD y).length : Nat) : Int).toNat) | false => .fail) := rfl
    rw [e2, iD_len, show okR (y.length : Nat) = true from decide_eq_true ⟨by omega, by omega⟩]
    rfl
  have e3 : sSeq (sFor (iRange1 (aCons (fFn lenD (fVar 5)) aNil)) (gSet 3) LB) (sRet (fC .non)) [.val (.tup (txD l)), .val (.tup (srtT near)), .val (.tup (srtT far)), .no, .val (.lst (iD m)), .val (.lst (iD y))] =
      ((iRange1 (aCons (fFn lenD (fVar 5)) aNil) [.val (.tup (txD l)), .val (.tup (srtT near)), .val (.tup (srtT far)), .no, .val (.lst (iD m)), .val (.lst (iD y))]).bind fun ds => forT (gSet 3) LB [.val (.tup (txD l)), .val (.tup (srtT near)), .val (.tup (srtT far)), .no, .val (.lst (iD m)), .val (.lst (iD y))] ds).bind fun o => match o with
      | .nx ρ => sRet (fC .non) ρ
      | o => .ret o := rfl
  rw [e3, hr, T.bind_ret]
  obtain ⟨s3', q⟩ := lb_loop (.tup (txD l)) (.tup (srtT near)) (.tup (srtT far)) y m [] [] .no rfl
  have q' : forT (gSet 3) LB [.val (.tup (txD l)), .val (.tup (srtT near)), .val (.tup (srtT far)), .no, .val (.lst (iD m)), .val (.lst (iD y))] (rangeD 0 y.length) = _ := q
  rw [q']
  have w : wr m y 0 = worseN l near far := by rw [← hm, ← hy]; exact wr_map _ _ _
  show (T.bind (T.bind (T.ret (match wr m y 0 with
        | some k => Out.rt (D.int k)
        | none => .nx [.val (.tup (txD l)), .val (.tup (srtT near)), .val (.tup (srtT far)), s3', .val (.lst (iD m)), .val (.lst (iD y))])) _) outD) = _
  rw [w, T.bind_ret]
  cases worseN l near far <;> rfl
abbrev WB : DL.Env → T Out := sIf (fOr (fTest (fOp geD (fVar 8) (fFn lenD (fVar 4)))) (fTest (fOp gtD (fOp ixD (fVar 4) (fVar 8)) (fVar 9)))) (sRet (fOp addD (fVar 8) (fC (.int 1)))) sNext
theorem wb_step (a b c d f g h : D) (pm m : List Int) (y : Int) (s : Slot) :
    WB [.val a, .val b, .val c, .val d, .val (.lst (iD (pm ++ m))), .val f, .val g, .val h, .val (.int (pm.length : Nat)), .val (.int y), s] =
      match m with
      | [] => .ret (.rt (.int ((pm.length : Nat) + 1)))
      | x :: _ => bif decide (y < x) then .ret (.rt (.int ((pm.length : Nat) + 1))) else .ret (.nx [.val a, .val b, .val c, .val d, .val (.lst (iD (pm ++ m))), .val f, .val g, .val h, .val (.int (pm.length : Nat)), .val (.int y), s]) := by
  have e : WB [.val a, .val b, .val c, .val d, .val (.lst (iD (pm ++ m))), .val f, .val g, .val h, .val (.int (pm.length : Nat)), .val (.int y), s] =
      ((((geD (.int (pm.length : Nat)) (.int ((iD (pm ++ m)).length : Nat))).bind blD).bind fun k => match k with
        | true => T.ret true
        | false => ((ixD (.lst (iD (pm ++ m))) (.int (pm.length : Nat))).bind fun u => gtD u (.int y)).bind blD).bind fun k => match k with
        | true => T.ret (.rt (.int ((pm.length : Nat) + 1)))
        | false => T.ret (.nx [.val a, .val b, .val c, .val d, .val (.lst (iD (pm ++ m))), .val f, .val g, .val h, .val (.int (pm.length : Nat)), .val (.int y), s])) := rfl
  rw [e, iD_len, ge_len, T.bind_ret, blD_bl, T.bind_ret]
  cases m with
  | nil =>
    rw [List.append_nil, decide_eq_true (Nat.le_refl _)]
    rfl
  | cons x m =>
    rw [decide_eq_false (by rw [List.length_append, List.length_cons]; omega)]
    simp only []
    rw [at_mid, T.bind_ret]
    show (T.bind (T.bind (T.ret (D.bl (decide (y < x)))) blD) _) = _
    rw [T.bind_ret, blD_bl, T.bind_ret]
    cases decide (y < x) <;> rfl
theorem wb_loop (a b c d f g h : D) (s : Slot) : ∀ (r m pm : List Int) (s8 s9 : Slot),
    ∃ s8' s9', forT (gTupD (gsCons (gSet 8) (gsCons (gSet 9) gsNil))) WB [.val a, .val b, .val c, .val d, .val (.lst (iD (pm ++ m))), .val f, .val g, .val h, s8, s9, s] (enumFrom (pm.length : Nat) (iD r)) =
      .ret (match wr m r (pm.length : Nat) with
        | some k => .rt (.int k)
        | none => .nx [.val a, .val b, .val c, .val d, .val (.lst (iD (pm ++ m))), .val f, .val g, .val h, s8', s9', s])
  | [], m, pm, s8, s9 => ⟨s8, s9, by unfold wr; rfl⟩
  | y :: r, m, pm, s8, s9 => by
    have st := wb_step a b c d f g h pm m y s
    cases m with
    | nil =>
      refine ⟨s8, s9, ?_⟩
      show (T.bind (WB [.val a, .val b, .val c, .val d, .val (.lst (iD (pm ++ []))), .val f, .val g, .val h, .val (.int (pm.length : Nat)), .val (.int y), s]) _) = _
      rw [st]; rfl
    | cons x m =>
      cases hd : decide (y < x) with
      | true =>
        refine ⟨s8, s9, ?_⟩
        show (T.bind (WB [.val a, .val b, .val c, .val d, .val (.lst (iD (pm ++ x :: m))), .val f, .val g, .val h, .val (.int (pm.length : Nat)), .val (.int y), s]) _) = _
        rw [st]
        unfold wr
        simp only [hd]
        rfl
      | false =>
        obtain ⟨s8', s9', ih⟩ := wb_loop a b c d f g h s r m (pm ++ [x]) (.val (.int (pm.length : Nat))) (.val (.int y))
        rw [List.append_assoc, List.length_append] at ih
        refine ⟨s8', s9', ?_⟩
        show (T.bind (WB [.val a, .val b, .val c, .val d, .val (.lst (iD (pm ++ x :: m))), .val f, .val g, .val h, .val (.int (pm.length : Nat)), .val (.int y), s]) _) = _
        rw [st]
        unfold wr
        simp only [hd, cond_false]
        exact ih
end LW
end

section
set_option maxRecDepth 100000
set_option maxHeartbeats 1000000
/-! MA1: worse_at in plain words. -/
namespace LW
open PySem DL
theorem worse_comp {l ps : List Str} {ρ : DL.Env} {i : Nat} (h : l.length < 1000)
    (hi : iEnum (fVar 2) ρ = .ret (enumFrom 0 (txD l)))
    (hc : ∀ (k : Int) (x : Str), ∃ ρ', gTupD (gsCons (gSet 9) (gsCons (gSet 10) gsNil)) (.pr (.int k) (.str x)) (wipeE ρ [9, 10]) = .ret ρ' ∧ ρ'[i]? = some (.val (.tup (srtT ps))) ∧ fVar 10 ρ' = .ret (.str x) ∧ fVar 9 ρ' = .ret (.int k)) :
    fComp (iEnum (fVar 2)) (gTupD (gsCons (gSet 9) (gsCons (gSet 10) gsNil))) (fTest (fOp inD (fVar 10) (fVar i))) (fVar 9) [9, 10] ρ = .ret (iD (posOf (inP ps) 0 l)) := by
  have c := fcomp (r := .ret (iD ((posOf (inP ps) 0 l).map fun k => k))) hi (enum_lt h) (pos_comp (q := inP ps) (F := fun k => k) (g := gTupD (gsCons (gSet 9) (gsCons (gSet 10) gsNil))) (t := fTest (fOp inD (fVar 10) (fVar i))) (f := fVar 9) (fun k x => by
    obtain ⟨ρ', h1, h2, h3, h4⟩ := hc k x
    refine ⟨ρ', h1, ?_, h4⟩
    have hv : fVar i ρ' = .ret (.tup (srtT ps)) := by unfold fVar; rw [h2]
    show (T.bind (T.bind (fVar 10 ρ') fun x => (fVar i ρ').bind fun y => inD x y) blD) = _
    rw [h3, T.bind_ret, hv, T.bind_ret, in_srt, T.bind_ret]
    exact blD_bl _) 0 l)
  rw [List.map_id' ] at c
  exact c
abbrev WW3 : DL.Env → T Out := sSeq (sSet 4 (fOfL (fComp (iEnum (fVar 2)) (gTupD (gsCons (gSet 9) (gsCons (gSet 10) gsNil))) (fTest (fOp inD (fVar 10) (fVar 6))) (fVar 9) [9, 10]))) (sSeq (sSet 5 (fOfL (fComp (iEnum (fVar 2)) (gTupD (gsCons (gSet 9) (gsCons (gSet 10) gsNil))) (fTest (fOp inD (fVar 10) (fVar 7))) (fVar 9) [9, 10]))) (sSeq (sFor (iEnum (fVar 5)) (gTupD (gsCons (gSet 8) (gsCons (gSet 9) gsNil))) WB) (sRet (fC .non))))
abbrev WW2 : DL.Env → T Out := sSeq (sUnp (fTup (aCons (fOp ixD (aFn F_shares (aCons (fVar 0) (aCons (fVar 2) (aCons (fVar 3) aNil)))) (fC (.int 0))) (aCons (fOp ixD (aFn F_shares (aCons (fVar 1) (aCons (fVar 2) (aCons (fVar 3) aNil)))) (fC (.int 0))) aNil))) (gTupD (gsCons (gSet 6) (gsCons (gSet 7) gsNil)))) WW3
abbrev WW1 : DL.Env → T Out := sSeq (sDrop (aFn F_check_lists (aCons (fVar 0) (aCons (fVar 2) (aCons (fVar 3) aNil))))) WW2
theorem worse_at_eq {l near far : List Str} {R S I X Y : D} (h : l.length < 1000)
    (h0 : F_check_size [R, S] = .ret .non) (h1 : F_check_lists [R, .tup (txD l), I] = .ret .non)
    (h2 : F_shares [R, .tup (txD l), I] = .ret (.tup [.tup (srtT near), X])) (h3 : F_shares [S, .tup (txD l), I] = .ret (.tup [.tup (srtT far), Y])) :
    F_worse_at [R, S, .tup (txD l), I] = .ret (wD (worseN l near far)) := by
  have e1 : F_worse_at [R, S, .tup (txD l), I] = (((F_check_size [R, S]).bind fun _ => T.ret (Out.nx [.val R, .val S, .val (.tup (txD l)), .val I, .no, .no, .no, .no, .no, .no, .no])).bind fun o => match o with
      | .nx ρ => WW1 ρ
      | o => .ret o).bind outD := rfl
  rw [e1, h0]
  simp only [T.bind_ret]
  have e2 : WW1 [.val R, .val S, .val (.tup (txD l)), .val I, .no, .no, .no, .no, .no, .no, .no] = ((F_check_lists [R, .tup (txD l), I]).bind fun _ => T.ret (Out.nx [.val R, .val S, .val (.tup (txD l)), .val I, .no, .no, .no, .no, .no, .no, .no])).bind fun o => match o with
      | .nx ρ => WW2 ρ
      | o => .ret o := rfl
  rw [e2, h1]
  simp only [T.bind_ret]
  have e3 : WW2 [.val R, .val S, .val (.tup (txD l)), .val I, .no, .no, .no, .no, .no, .no, .no] = (((((F_shares [R, .tup (txD l), I]).bind fun z => ixD z (.int 0)).bind fun x => (((F_shares [S, .tup (txD l), I]).bind fun z => ixD z (.int 0)).bind fun x => (T.ret []).bind fun xs => T.ret (x :: xs)).bind fun xs => T.ret (x :: xs)).bind fun ds => match decide (ds.length ≤ capD) with | true => T.ret (D.tup ds) | false => .fail).bind fun d => (gTupD (gsCons (gSet 6) (gsCons (gSet 7) gsNil)) d [.val R, .val S, .val (.tup (txD l)), .val I, .no, .no, .no, .no, .no, .no, .no]).bind fun ρ' => T.ret (Out.nx ρ')).bind fun o => match o with
      | .nx ρ => WW3 ρ
      | o => .ret o := rfl
  rw [e3, h2, h3]
  show (T.bind (WW3 [.val R, .val S, .val (.tup (txD l)), .val I, .no, .no, .val (.tup (srtT near)), .val (.tup (srtT far)), .no, .no, .no]) outD) = _
  have c1 := worse_comp (i := 6) (ps := near) (ρ := [.val R, .val S, .val (.tup (txD l)), .val I, .no, .no, .val (.tup (srtT near)), .val (.tup (srtT far)), .no, .no, .no]) h rfl (fun k x => ⟨_, rfl, rfl, rfl, rfl⟩)
  have c2 := worse_comp (i := 7) (ps := far) (ρ := [.val R, .val S, .val (.tup (txD l)), .val I, .val (.lst (iD (posOf (inP near) 0 l))), .no, .val (.tup (srtT near)), .val (.tup (srtT far)), .no, .no, .no]) h rfl (fun k x => ⟨_, rfl, rfl, rfl, rfl⟩)
  show (T.bind (T.bind (T.bind (T.bind (fComp (iEnum (fVar 2)) (gTupD (gsCons (gSet 9) (gsCons (gSet 10) gsNil))) (fTest (fOp inD (fVar 10) (fVar 6))) (fVar 9) [9, 10] [.val R, .val S, .val (.tup (txD l)), .val I, .no, .no, .val (.tup (srtT near)), .val (.tup (srtT far)), .no, .no, .no]) _) _) _) outD) = _
  rw [c1]
  show (T.bind (T.bind (T.bind (T.bind (fComp (iEnum (fVar 2)) (gTupD (gsCons (gSet 9) (gsCons (gSet 10) gsNil))) (fTest (fOp inD (fVar 10) (fVar 7))) (fVar 9) [9, 10] [.val R, .val S, .val (.tup (txD l)), .val I, .val (.lst (iD (posOf (inP near) 0 l))), .no, .val (.tup (srtT near)), .val (.tup (srtT far)), .no, .no, .no]) _) _) _) outD) = _
  rw [c2]
  obtain ⟨s8, s9, q⟩ := wb_loop R S (.tup (txD l)) I (.lst (iD (posOf (inP far) 0 l))) (.tup (srtT near)) (.tup (srtT far)) .no (posOf (inP far) 0 l) (posOf (inP near) 0 l) [] .no .no
  show (T.bind (T.bind (forT (gTupD (gsCons (gSet 8) (gsCons (gSet 9) gsNil))) WB [.val R, .val S, .val (.tup (txD l)), .val I, .val (.lst (iD (posOf (inP near) 0 l))), .val (.lst (iD (posOf (inP far) 0 l))), .val (.tup (srtT near)), .val (.tup (srtT far)), .no, .no, .no] (enumFrom 0 (iD (posOf (inP far) 0 l)))) _) outD) = _
  have q' : forT (gTupD (gsCons (gSet 8) (gsCons (gSet 9) gsNil))) WB [.val R, .val S, .val (.tup (txD l)), .val I, .val (.lst (iD (posOf (inP near) 0 l))), .val (.lst (iD (posOf (inP far) 0 l))), .val (.tup (srtT near)), .val (.tup (srtT far)), .no, .no, .no] (enumFrom 0 (iD (posOf (inP far) 0 l))) = _ := q
  rw [q']
  show (T.bind (T.bind (T.ret (match worseN l near far with
        | some k => Out.rt (D.int k)
        | none => .nx [.val R, .val S, .val (.tup (txD l)), .val I, .val (.lst (iD (posOf (inP near) 0 l))), .val (.lst (iD (posOf (inP far) 0 l))), .val (.tup (srtT near)), .val (.tup (srtT far)), s8, s9, .no])) _) outD) = _
  rw [T.bind_ret]
  cases worseN l near far <;> rfl
end LW
end

section
set_option maxRecDepth 100000
set_option maxHeartbeats 1000000
/-! MB1: facts of the kernel about the few rows. -/
namespace LW
open PySem DL
mutual
def dq : D → D → Bool
  | .non, .non => true
  | .bl a, .bl b => a == b
  | .int a, .int b => a == b
  | .str a, .str b => a == b
  | .lst a, .lst b => dql a b
  | .tup a, .tup b => dql a b
  | .obj c a, .obj d b => c == d && dql a b
  | _, _ => false
def dql : List D → List D → Bool
  | [], [] => true
  | a :: r, b :: s => dq a b && dql r s
  | _, _ => false
end
mutual
theorem dq_ok : ∀ a b : D, dq a b = true → a = b
  | .non, b, h => by cases b <;> simp [dq] at h ⊢
  | .bl _, b, h => by cases b <;> simp [dq] at h ⊢; exact h
  | .int _, b, h => by cases b <;> simp [dq] at h ⊢; exact h
  | .str _, b, h => by cases b <;> simp [dq] at h ⊢; exact h
  | .lst x, b, h => by cases b <;> simp [dq] at h ⊢; exact dql_ok x _ h
  | .tup x, b, h => by cases b <;> simp [dq] at h ⊢; exact dql_ok x _ h
  | .obj c x, b, h => by cases b <;> simp [dq] at h ⊢; exact ⟨h.1, dql_ok x _ h.2⟩
  | .dic _ _, b, h => by cases b <;> simp [dq] at h
  | .urn, b, h => by cases b <;> simp [dq] at h
  | .pr _ _, b, h => by cases b <;> simp [dq] at h
theorem dql_ok : ∀ a b : List D, dql a b = true → a = b
  | [], b, h => by cases b <;> simp [dql] at h ⊢
  | x :: r, b, h => by
    cases b with
    | nil => simp [dql] at h
    | cons y s =>
      simp [dql] at h
      rw [dq_ok x y h.1, dql_ok r s h.2]
end
def isR (t : T D) (d : D) : Bool := match t with
  | .ret e => dq e d
  | _ => false
theorem isR_ok {t : T D} {d : D} (h : isR t d = true) : t = .ret d := by
  cases t with
  | ret e => rw [dq_ok e d h]
  | fail => cases h
  | take m k => cases h
def rows : Nat → List (List Bool)
  | 0 => [[]]
  | n + 1 => (rows n).flatMap fun r => [true :: r, false :: r]
theorem rows_all : ∀ (n : Nat) (r : List Bool), r.length = n → r ∈ rows n
  | 0, [], _ => .head _
  | n + 1, x :: r, h => by
    unfold rows
    rw [List.mem_flatMap]
    refine ⟨r, rows_all n r (Nat.succ.inj h), ?_⟩
    cases x
    · exact .tail _ (.head _)
    · exact .head _
def rows4 : List (List Bool) := rows 1 ++ rows 2 ++ rows 3 ++ rows 4
theorem rows4_all {r : List Bool} (h1 : 1 ≤ r.length) (h4 : r.length ≤ 4) : r ∈ rows4 := by
  unfold rows4
  rw [List.mem_append, List.mem_append, List.mem_append]
  have h : r.length = 1 ∨ r.length = 2 ∨ r.length = 3 ∨ r.length = 4 := by omega
  rcases h with h | h | h | h
  · exact .inl (.inl (.inl (rows_all 1 r h)))
  · exact .inl (.inl (.inr (rows_all 2 r h)))
  · exact .inl (.inr (rows_all 3 r h))
  · exact .inr (rows_all 4 r h)
def FR (r : List Bool) : List D := match F_turns_of [rowD r] with
  | .ret (.obj _ fs) => fs
  | _ => []
def TR (r : List Bool) : D := .obj 0 (FR r)
theorem rows_fact : (rows4.all fun r => isR (F_turns_of [rowD r]) (TR r) && isR (F_heirs [TR r]) (rowD r) && isR (F_Turns_size [TR r]) (.int (r.length : Nat))) = true := by decide +kernel
theorem row_fact {r : List Bool} (h1 : 1 ≤ r.length) (h4 : r.length ≤ 4) : F_turns_of [rowD r] = .ret (TR r) ∧ F_heirs [TR r] = .ret (rowD r) ∧ F_Turns_size [TR r] = .ret (.int (r.length : Nat)) := by
  have h := List.all_eq_true.mp rows_fact r (rows4_all h1 h4)
  rw [Bool.and_eq_true, Bool.and_eq_true] at h
  exact ⟨isR_ok h.1.1, isR_ok h.1.2, isR_ok h.2⟩
theorem ne_same (n : Int) : neD (.int n) (.int n) = .ret (.bl false) := by
  have e : D.eqv (.int n) (.int n) = true := by unfold D.eqv; simp
  have e2 : eqB (.int n) (.int n) = .ret (D.eqv (.int n) (.int n)) := by unfold eqB; rfl
  unfold neD
  rw [e2, T.bind_ret, e]
  rfl
theorem check_size_gen {fs gs : List D} {n : Int} (h : F_Turns_size [.obj 0 fs] = .ret (.int n)) (h2 : F_Turns_size [.obj 0 gs] = .ret (.int n)) : F_check_size [.obj 0 fs, .obj 0 gs] = .ret .non := by
  have e : F_check_size [.obj 0 fs, .obj 0 gs] = ((((F_Turns_size [.obj 0 fs]).bind fun x => (F_Turns_size [.obj 0 gs]).bind fun y => neD x y).bind blD).bind fun k => match k with
    | true => T.fail
    | false => T.ret (Out.nx [.val (.obj 0 fs), .val (.obj 0 gs)])).bind outD := rfl
  rw [e, h, h2, T.bind_ret, T.bind_ret, ne_same]
  rfl
theorem check_size_fact {r s : List Bool} (h1 : 1 ≤ r.length) (h4 : r.length ≤ 4) (he : s.length = r.length) : F_check_size [TR r, TR s] = .ret .non :=
  check_size_gen (row_fact h1 h4).2.2 (he ▸ (row_fact (r := s) (by omega) (by omega)).2.2)
end LW
end

section
set_option maxRecDepth 100000
set_option maxHeartbeats 1000000
/-! MC1: facts of the kernel about pairs of rows. -/
namespace LW
open PySem DL
def pairsOf (n : Nat) : List (List Bool × List Bool) := (rows n).flatMap fun r => (rows n).map fun s => (r, s)
theorem pairs_all {n : Nat} {r s : List Bool} (h1 : r.length = n) (h2 : s.length = n) : (r, s) ∈ pairsOf n := by
  unfold pairsOf
  rw [List.mem_flatMap]
  exact ⟨r, rows_all n r h1, List.mem_map.mpr ⟨s, rows_all n s h2, rfl⟩⟩
def cntT : List Bool → Nat → Nat
  | _, 0 => 0
  | [], _ => 0
  | x :: r, k + 1 => (bif x then 1 else 0) + cntT r k
/-- one is above other: at each place at least as many turns of hers -/
def above (r s : List Bool) : Bool := (List.range (r.length + 1)).all fun k => decide (cntT s k ≤ cntT r k)
theorem above_fact2 : ((pairsOf 1 ++ pairsOf 2 ++ pairsOf 3).all fun p => isR (F__law_above [rowD p.1, rowD p.2]) (.bl (above p.1 p.2))) = true := by decide +kernel
theorem never_fact2 : ((pairsOf 1 ++ pairsOf 2 ++ pairsOf 3).all fun p => isR (F_never_worse [TR p.1, TR p.2]) (.bl (above p.1 p.2))) = true := by decide +kernel
theorem is_above_fact2 : ((pairsOf 1 ++ pairsOf 2 ++ pairsOf 3).all fun p => isR (F_is_above [TR p.1, TR p.2]) (.bl (above p.1 p.2))) = true := by decide +kernel
end LW
end

section
set_option maxRecDepth 100000
set_option maxHeartbeats 1000000
/-! MC2: pairs of rows of size 4. -/
namespace LW
open PySem DL
theorem above_fact4 : ((pairsOf 4).all fun p => isR (F__law_above [rowD p.1, rowD p.2]) (.bl (above p.1 p.2))) = true := by decide +kernel
theorem never_fact4 : ((pairsOf 4).all fun p => isR (F_never_worse [TR p.1, TR p.2]) (.bl (above p.1 p.2))) = true := by decide +kernel
theorem is_above_fact4 : ((pairsOf 4).all fun p => isR (F_is_above [TR p.1, TR p.2]) (.bl (above p.1 p.2))) = true := by decide +kernel
end LW
end

section
set_option maxRecDepth 100000
set_option maxHeartbeats 1000000
/-! MC3: the orders. -/
namespace LW
open PySem DL
theorem pair_of {L : List (List Bool × List Bool)} {r s : List Bool} (F : List Bool → List Bool → Bool) (h : (L.all fun p => F p.1 p.2) = true) (f : (r, s) ∈ L) : F r s = true := List.all_eq_true.mp h _ f
theorem law_above_eq {r s : List Bool} (h1 : 1 ≤ r.length) (h4 : r.length ≤ 4) (he : s.length = r.length) :
    F__law_above [rowD r, rowD s] = .ret (.bl (above r s)) ∧ F_never_worse [TR r, TR s] = .ret (.bl (above r s)) ∧ F_is_above [TR r, TR s] = .ret (.bl (above r s)) := by
  have h : r.length = 1 ∨ r.length = 2 ∨ r.length = 3 ∨ r.length = 4 := by omega
  have f : (r, s) ∈ pairsOf 1 ++ pairsOf 2 ++ pairsOf 3 ∨ (r, s) ∈ pairsOf 4 := by
    rw [List.mem_append, List.mem_append]
    rcases h with h | h | h | h
    · exact .inl (.inl (.inl (pairs_all h (he.trans h))))
    · exact .inl (.inl (.inr (pairs_all h (he.trans h))))
    · exact .inl (.inr (pairs_all h (he.trans h)))
    · exact .inr (pairs_all h (he.trans h))
  rcases f with f | f
  · exact ⟨isR_ok (pair_of (fun r s => isR (F__law_above [rowD r, rowD s]) (.bl (above r s))) above_fact2 f), isR_ok (pair_of (fun r s => isR (F_never_worse [TR r, TR s]) (.bl (above r s))) never_fact2 f), isR_ok (pair_of (fun r s => isR (F_is_above [TR r, TR s]) (.bl (above r s))) is_above_fact2 f)⟩
  · exact ⟨isR_ok (pair_of (fun r s => isR (F__law_above [rowD r, rowD s]) (.bl (above r s))) above_fact4 f), isR_ok (pair_of (fun r s => isR (F_never_worse [TR r, TR s]) (.bl (above r s))) never_fact4 f), isR_ok (pair_of (fun r s => isR (F_is_above [TR r, TR s]) (.bl (above r s))) is_above_fact4 f)⟩
def things : List Str := ["p", "q", "r", "s"]
/-- the orders of the law, in its own order: each time one more of the things not yet in it -/
def ords (l : List Str) : Nat → List (List Str)
  | 0 => [[]]
  | n + 1 => (ords l n).flatMap fun o => (l.filter fun x => !o.any fun z => z == x).map fun x => o ++ [x]
def ordsOf (n : Nat) : List (List Str) := ords (things.take n) n
theorem ords_fact : ([1, 2, 3, 4].all fun n => isR (F__law_orders [.tup (txD (things.take n))]) (.lst ((ordsOf n).map fun o => .tup (txD o)))) = true := by decide +kernel
end LW
end

section
set_option maxRecDepth 100000
set_option maxHeartbeats 1000000
/-! MC4: check_lists. -/
namespace LW
open PySem DL
theorem set_of_eqT {ps : List Str} (hn : ps.Nodup) (hl : ps.length ≤ 3000) : F_set_of [.tup (txD ps)] = .ret (.tup (srtT ps)) := by
  have q : sortSetD (.tup (txD ps)) = .ret (srtT ps) := sortSet_tx ps hn hl
  have e : F_set_of [.tup (txD ps)] = ((((sortSetD (.tup (txD ps))).bind fun ds => T.ret (D.lst ds)).bind tupOfD).bind fun d => T.ret (Out.rt d)).bind outD := rfl
  rw [e, q]
  rfl
theorem srtT_perm {ps qs : List Str} (p : ps.Perm qs) : srtT ps = srtT qs := by
  unfold srtT
  rw [DS.srt_of_perm (p.map Leaf.text) (alk_tx qs)]
theorem check_lists_eq {hers his : List Str} {fs : List D} (hn : hers.Nodup) (p : his.Perm hers) (hl : hers.length ≤ 1000) (hs : F_Turns_size [.obj 0 fs] = .ret (.int (hers.length : Nat)))
    (hq : neD (.tup (srtT hers)) (.tup (srtT hers)) = .ret (.bl false)) :
    F_check_lists [.obj 0 fs, .tup (txD hers), .tup (txD his)] = .ret .non := by
  have e : F_check_lists [.obj 0 fs, .tup (txD hers), .tup (txD his)] = ((((((F_set_of [.tup (txD hers)]).bind fun x => (F_set_of [.tup (txD his)]).bind fun y => neD x y).bind blD).bind fun k => match k with
      | true => T.ret true
      | false => ((F_Turns_size [.obj 0 fs]).bind fun y => neD (.int ((txD hers).length : Nat)) y).bind blD).bind fun k => match k with
    | true => T.fail
    | false => T.ret (Out.nx [.val (.obj 0 fs), .val (.tup (txD hers)), .val (.tup (txD his))])).bind outD) := rfl
  have l : (txD hers).length = hers.length := by unfold txD; rw [List.length_map]
  rw [e, set_of_eqT hn (Nat.le_trans hl (by decide)), T.bind_ret, set_of_eqT (p.nodup_iff.mpr hn) (by rw [p.length_eq]; exact Nat.le_trans hl (by decide)), T.bind_ret, srtT_perm p, hq, hs, l]
  show (T.bind (T.bind (T.bind (neD (.int (hers.length : Nat)) (.int (hers.length : Nat))) blD) _) outD) = _
  rw [ne_same]
  rfl
end LW
end

section
set_option maxRecDepth 100000
set_option maxHeartbeats 1000000
/-! MC5: few things. -/
namespace LW
open PySem DL
theorem same_things : ([1, 2, 3, 4].all fun n => isR (neD (.tup (srtT (things.take n))) (.tup (srtT (things.take n)))) (.bl false)) = true := by decide +kernel
theorem greedy_fact2 : ([1, 2, 3].all fun n => (ordsOf n).all fun hers => (ordsOf n).all fun his => (rows n).all fun r => match greedy hers his r [] with
  | some res => decide (res.length = n) && decide res.Nodup
  | none => false) = true := by decide +kernel
end LW
end

section
set_option maxRecDepth 100000
set_option maxHeartbeats 1000000
/-! MC6: four things. -/
namespace LW
open PySem DL
theorem greedy_fact4 : ((ordsOf 4).all fun hers => (ordsOf 4).all fun his => (rows 4).all fun r => match greedy hers his r [] with
  | some res => decide (res.length = 4) && decide res.Nodup
  | none => false) = true := by decide +kernel
end LW
end

section
set_option maxRecDepth 100000
set_option maxHeartbeats 1000000
/-! MC7: above means: never worse (sizes 1 to 3). -/
namespace LW
open PySem DL
def pk (hers his : List Str) (r : List Bool) : List Str := (greedy hers his r []).getD []
/-- with one above other: hers is never worse in one, his is never worse in other -/
def fine (hers his : List Str) (r s : List Bool) : Bool :=
  !above r s || ((worseN hers (sel true r (pk hers his r)) (sel true s (pk hers his s))).isNone && (worseN his (sel false s (pk hers his s)) (sel false r (pk hers his r))).isNone)
theorem fine_fact2 : ([1, 2, 3].all fun n => (ordsOf n).all fun hers => (ordsOf n).all fun his => (pairsOf n).all fun p => fine hers his p.1 p.2) = true := by decide +kernel
end LW
end

section
set_option maxRecDepth 100000
set_option maxHeartbeats 1000000
/-! MD1: names do not matter: the picks by numbers. -/
namespace LW
open PySem DL
def pickN (order gone : List Nat) : Option Nat := (order.filter fun x => !gone.any fun z => Nat.beq z x).head?
def greedyN (hers his : List Nat) : List Bool → List Nat → Option (List Nat)
  | [], gone => some gone
  | h :: r, gone => match pickN (bif h then hers else his) gone with
    | some x => greedyN hers his r (gone ++ [x])
    | none => none
def selN (b : Bool) : List Bool → List Nat → List Nat
  | x :: r, p :: ps => bif x == b then p :: selN b r ps else selN b r ps
  | _, _ => []
def posN (ps : List Nat) : Nat → List Nat → List Nat
  | _, [] => []
  | k, x :: r => bif ps.any (fun z => Nat.beq z x) then k :: posN ps (k + 1) r else posN ps (k + 1) r
/-- never worse -/
def nwN : List Nat → List Nat → Bool
  | _, [] => true
  | [], _ :: _ => false
  | x :: m, y :: r => bif Nat.ble x y then nwN m r else false
def Inj (g : Str → Nat) (S : List Str) : Prop := ∀ x ∈ S, ∀ y ∈ S, g x = g y → x = y
theorem any_map {g : Str → Nat} {S : List Str} (hg : Inj g S) {gone : List Str} (h : ∀ z ∈ gone, z ∈ S) {x : Str} (hx : x ∈ S) : ((gone.map g).any fun z => Nat.beq z (g x)) = gone.any fun z => z == x := by
  rw [Bool.eq_iff_iff, any_iff, List.any_eq_true]
  constructor
  · rintro ⟨z, h1, h2⟩
    obtain ⟨y, hy, rfl⟩ := List.mem_map.mp h1
    rw [← hg y (h y hy) x hx (Nat.eq_of_beq_eq_true h2)]; exact hy
  · intro hz
    exact ⟨g x, List.mem_map.mpr ⟨x, hz, rfl⟩, Nat.beq_refl _⟩
theorem pick_map {g : Str → Nat} {S : List Str} (hg : Inj g S) {order gone : List Str} (ho : ∀ z ∈ order, z ∈ S) (h : ∀ z ∈ gone, z ∈ S) : pickN (order.map g) (gone.map g) = (pick order gone).map g := by
  unfold pickN pick
  rw [List.filter_map, List.head?_map]
  congr 2
  refine List.filter_congr fun x hx => ?_
  show (!((gone.map g).any fun z => Nat.beq z (g x))) = _
  rw [any_map hg h (ho x hx)]
theorem pick_mem {order gone : List Str} {x : Str} (h : pick order gone = some x) : x ∈ order := (List.mem_filter.mp (List.mem_of_mem_head? (Option.mem_def.mpr h))).1
theorem greedy_map {g : Str → Nat} {S : List Str} (hg : Inj g S) {hers his : List Str} (h1 : ∀ z ∈ hers, z ∈ S) (h2 : ∀ z ∈ his, z ∈ S) : ∀ (r : List Bool) (gone : List Str), (∀ z ∈ gone, z ∈ S) →
    greedyN (hers.map g) (his.map g) r (gone.map g) = (greedy hers his r gone).map fun l => l.map g
  | [], gone, h => rfl
  | b :: r, gone, h => by
    have ho : ∀ z ∈ (bif b then hers else his), z ∈ S := by cases b; exact h2; exact h1
    have e : (bif b then hers.map g else his.map g) = (bif b then hers else his).map g := by cases b <;> rfl
    unfold greedyN greedy
    rw [e, pick_map hg ho h]
    cases hp : pick (bif b then hers else his) gone with
    | none => rfl
    | some x =>
      have hx := ho x (pick_mem hp)
      have ih := greedy_map hg h1 h2 r (gone ++ [x]) (fun z hz => by
        rcases List.mem_append.mp hz with q | q
        · exact h z q
        · rw [List.mem_singleton.mp q]; exact hx)
      rw [List.map_append] at ih
      exact ih
theorem greedy_sub {S : List Str} {hers his : List Str} (h1 : ∀ z ∈ hers, z ∈ S) (h2 : ∀ z ∈ his, z ∈ S) : ∀ (r : List Bool) (gone res : List Str), (∀ z ∈ gone, z ∈ S) → greedy hers his r gone = some res → ∀ z ∈ res, z ∈ S
  | [], gone, res, h, e => by cases e; exact h
  | b :: r, gone, res, h, e => by
    unfold greedy at e
    have ho : ∀ z ∈ (bif b then hers else his), z ∈ S := by cases b; exact h2; exact h1
    cases hp : pick (bif b then hers else his) gone with
    | none => rw [hp] at e; cases e
    | some x =>
      rw [hp] at e
      refine greedy_sub h1 h2 r (gone ++ [x]) res (fun z hz => ?_) e
      rcases List.mem_append.mp hz with q | q
      · exact h z q
      · rw [List.mem_singleton.mp q]; exact ho x (pick_mem hp)
theorem sel_map (g : Str → Nat) (b : Bool) : ∀ (r : List Bool) (ps : List Str), selN b r (ps.map g) = (sel b r ps).map g
  | [], ps => by cases ps <;> rfl
  | x :: r, [] => rfl
  | x :: r, p :: ps => by
    show (bif x == b then g p :: selN b r (ps.map g) else selN b r (ps.map g)) = (bif x == b then p :: sel b r ps else sel b r ps).map g
    rw [sel_map g b r ps]
    cases x == b <;> rfl
theorem pos_map {g : Str → Nat} {S : List Str} (hg : Inj g S) {ps : List Str} (h : ∀ z ∈ ps, z ∈ S) : ∀ (k : Nat) (l : List Str), (∀ z ∈ l, z ∈ S) → posOf (inP ps) (k : Nat) l = (posN (ps.map g) k (l.map g)).map Int.ofNat
  | k, [], _ => rfl
  | k, x :: l, hl => by
    have ih := pos_map hg h (k + 1) l fun z hz => hl z (.tail _ hz)
    show (bif inP ps x then (k : Int) :: posOf (inP ps) ((k : Int) + 1) l else posOf (inP ps) ((k : Int) + 1) l) = (bif (ps.map g).any (fun z => Nat.beq z (g x)) then k :: posN (ps.map g) (k + 1) (l.map g) else posN (ps.map g) (k + 1) (l.map g)).map Int.ofNat
    rw [any_map hg h (hl x (.head _)), show ((k : Int) + 1) = ((k + 1 : Nat) : Int) from rfl, ih]
    show (bif inP ps x then _ else _) = (bif inP ps x then _ else _ : List Nat).map Int.ofNat
    cases inP ps x <;> rfl
theorem nw_wr : ∀ (m r : List Nat) (k : Int), nwN m r = true → wr (m.map Int.ofNat) (r.map Int.ofNat) k = none
  | m, [], k, _ => by cases m <;> rfl
  | [], y :: r, k, h => by cases h
  | x :: m, y :: r, k, h => by
    unfold nwN at h
    cases e : Nat.ble x y with
    | false => rw [e] at h; cases h
    | true =>
      rw [e] at h
      show (bif decide (Int.ofNat y < Int.ofNat x) then _ else wr (m.map Int.ofNat) (r.map Int.ofNat) (k + 1)) = none
      have : ¬ (Int.ofNat y < Int.ofNat x) := by
        have := Nat.le_of_ble_eq_true e
        show ¬ ((y : Int) < (x : Int))
        omega
      rw [decide_eq_false this]
      exact nw_wr m r (k + 1) h
theorem worse_map {g : Str → Nat} {S : List Str} (hg : Inj g S) {l near far : List Str} (hl : ∀ z ∈ l, z ∈ S) (h1 : ∀ z ∈ near, z ∈ S) (h2 : ∀ z ∈ far, z ∈ S)
    (h : nwN (posN (near.map g) 0 (l.map g)) (posN (far.map g) 0 (l.map g)) = true) : worseN l near far = none := by
  unfold worseN
  rw [show (0 : Int) = ((0 : Nat) : Int) from rfl, pos_map hg h1 0 l hl, pos_map hg h2 0 l hl]
  exact nw_wr _ _ _ h
def perms : Nat → List (List Nat)
  | 0 => [[]]
  | n + 1 => (perms n).flatMap fun p => (List.range (n + 1)).map fun i => p.take i ++ n :: p.drop i
def tabN (his : List Nat) (n : Nat) : List (List Bool × List Nat × List Nat) := (rows n).map fun r =>
  (r, posN (selN true r ((greedyN (List.range n) his r []).getD [])) 0 (List.range n), posN (selN false r ((greedyN (List.range n) his r []).getD [])) 0 his)
def fineN (his : List Nat) (n : Nat) : Bool := (tabN his n).all fun a => (tabN his n).all fun b => !above a.1 b.1 || (nwN a.2.1 b.2.1 && nwN b.2.2 a.2.2)
theorem fineN_fact : ((perms 4).all fun his => fineN his 4) = true := by decide +kernel
theorem perms_fact : ((ordsOf 4).all fun hers => (ordsOf 4).all fun his => (perms 4).contains (his.map hers.idxOf)) = true := by decide +kernel
theorem range_fact : ((ordsOf 4).all fun hers => hers.map hers.idxOf == List.range 4) = true := by decide +kernel
theorem ords_in : ((ordsOf 4).all fun hers => (ordsOf 4).all fun his => his.all fun z => hers.contains z) = true := by decide +kernel
end LW
end

section
set_option maxRecDepth 100000
set_option maxHeartbeats 1000000
/-! MT: all ways of a computation. -/
namespace DL
open PySem
/-- looks at all ways -/
def T.chk {α : Type} (p : α → Bool) : T α → Nat → Bool
  | .ret a, _ => p a
  | .fail, _ => false
  | .take m k, n => decide (0 < m ∧ m < 1073741824) && decide (n < 1125899906842624) && (List.range m.toNat).all fun i => (k (i : Nat)).chk p (n + 1)
theorem chk_ok {α : Type} {p : α → Bool} : ∀ {m : T α} {n : Nat}, m.chk p n = true → m.ok n fun a _ => p a = true := by
  intro m
  induction m with
  | ret a => intro n h; exact h
  | fail => intro n h; cases h
  | take m k ih =>
    intro n h
    simp only [T.chk, Bool.and_eq_true, decide_eq_true_eq] at h
    obtain ⟨⟨⟨h1, h2⟩, h3⟩, h4⟩ := h
    refine ⟨h1, h2, h3, fun r r0 r1 => ?_⟩
    have e : ((r.toNat : Nat) : Int) = r := Int.toNat_of_nonneg r0
    have q := List.all_eq_true.mp h4 r.toNat (List.mem_range.mpr (by omega))
    have q2 := ih ((r.toNat : Nat) : Int) q
    rw [e] at q2
    exact q2
/-- the number of draws along any way is at most q -/
def T.ok_of_ret {α : Type} {m : T α} {a : α} {n : Nat} {R : α → Nat → Prop} (h : m = .ret a) (q : R a n) : m.ok n R := by rw [h]; exact q
theorem ok_ret {α : Type} {a : α} {n : Nat} {R : α → Nat → Prop} (q : R a n) : (T.ret a).ok n R := q
/-- a loop: I holds of the frame at each turn; c: the draws of a turn at most -/
theorem for_ok {g : D → Env → T Env} {b : Env → T Out} {R : Out → Nat → Prop} {I : Env → Prop} {N c : Nat} {ok : D → Prop}
    (step : ∀ (d : D) (ρ : Env) (n : Nat), ok d → I ρ → n + c ≤ N → ((g d ρ).bind b).ok n fun o n' => n' ≤ n + c ∧ ∃ ρ', o = .nx ρ' ∧ I ρ') :
    ∀ (ds : List D) (ρ : Env) (n : Nat), (∀ d ∈ ds, ok d) → I ρ → n + c * ds.length ≤ N → (∀ ρ' n', I ρ' → n' ≤ n + c * ds.length → R (.nx ρ') n') → (forT g b ρ ds).ok n R
  | [], ρ, n, _, hI, hn, q => q ρ n hI (Nat.le_add_right _ _)
  | d :: ds, ρ, n, hd, hI, hn, q => by
    rw [List.length_cons, Nat.mul_succ] at hn
    have st := step d ρ n (hd d (.head _)) hI (by omega)
    have e : forT g b ρ (d :: ds) = ((g d ρ).bind b).bind fun o => match o with
      | .nx ρ' => forT g b ρ' ds
      | .ct ρ' => forT g b ρ' ds
      | .bk ρ' => .ret (.nx ρ')
      | .rt d => .ret (.rt d) := by
      show (g d ρ).bind (fun ρ1 => (b ρ1).bind _) = _
      rw [T.bind_assoc] <;> rfl
    rw [e, T.ok_bind]
    refine T.ok_mono st fun o n' h => ?_
    obtain ⟨hn', ρ', rfl, hI'⟩ := h
    exact for_ok step ds ρ' n' (fun d hd' => hd d (.tail _ hd')) hI' (by omega) fun ρ2 n2 h1 h2 => q ρ2 n2 h1 (by rw [List.length_cons, Nat.mul_succ]; omega)
end DL
end

section
set_option maxRecDepth 100000
set_option maxHeartbeats 1000000
/-! MD2: draws. -/
namespace DL
open PySem
/-- looks at all ways, of at most c draws -/
def T.chkD {α : Type} (p : α → Bool) : T α → Nat → Bool
  | .ret a, _ => p a
  | .fail, _ => false
  | .take _ _, 0 => false
  | .take m k, c + 1 => decide (0 < m ∧ m < 1073741824) && (List.range m.toNat).all fun i => (k (i : Nat)).chkD p c
theorem chkD_ok {α : Type} {p : α → Bool} : ∀ {m : T α} {c n : Nat}, m.chkD p c = true → n + c ≤ 1125899906842624 → m.ok n fun a n' => n' ≤ n + c ∧ p a = true := by
  intro m
  induction m with
  | ret a => intro c n h _; exact ⟨Nat.le_add_right _ _, h⟩
  | fail => intro c n h _; cases h
  | take m k ih =>
    intro c n h hn
    cases c with
    | zero => cases h
    | succ c =>
      simp only [T.chkD, Bool.and_eq_true, decide_eq_true_eq] at h
      obtain ⟨⟨h1, h2⟩, h4⟩ := h
      refine ⟨h1, h2, by show n < 1125899906842624; omega, fun r r0 r1 => ?_⟩
      have e : ((r.toNat : Nat) : Int) = r := Int.toNat_of_nonneg r0
      have q := List.all_eq_true.mp h4 r.toNat (List.mem_range.mpr (by omega))
      have q2 := ih ((r.toNat : Nat) : Int) (n := n + 1) q (by omega)
      rw [e] at q2
      exact T.ok_mono q2 fun a n' z => ⟨by omega, z.2⟩
theorem comp_ok {g : D → Env → T Env} {t : Env → T Bool} {f : Env → T D} {ρ : Env} {Q : D → Prop} {c N : Nat} : ∀ {ds : List D} {n : Nat},
    (∀ d ∈ ds, ∀ n, n + c ≤ N → ∃ ρ', g d ρ = .ret ρ' ∧ t ρ' = .ret true ∧ (f ρ').ok n fun x n' => n' ≤ n + c ∧ Q x) → n + c * ds.length ≤ N →
    (compT g t f ρ ds).ok n fun xs n' => n' ≤ n + c * ds.length ∧ xs.length = ds.length ∧ ∀ x ∈ xs, Q x
  | [], n, _, _ => ⟨Nat.le_add_right _ _, rfl, fun _ h => absurd h List.not_mem_nil⟩
  | d :: ds, n, h, hn => by
    rw [List.length_cons, Nat.mul_succ] at hn
    obtain ⟨ρ', h1, h2, h3⟩ := h d (.head _) n (by omega)
    have e : compT g t f ρ (d :: ds) = (f ρ').bind fun y => (compT g t f ρ ds).bind fun ys => .ret (y :: ys) := by
      show ((g d ρ).bind fun ρ' => (t ρ').bind fun c => match c with
        | true => (f ρ').bind fun y => (compT g t f ρ ds).bind fun ys => .ret (y :: ys)
        | false => compT g t f ρ ds) = _
      rw [h1, T.bind_ret, h2, T.bind_ret]
    rw [e, T.ok_bind]
    refine T.ok_mono h3 fun x n' hx => ?_
    rw [T.ok_bind]
    refine T.ok_mono (comp_ok (fun d hd => h d (.tail _ hd)) (by omega)) fun xs n'' hxs => ?_
    refine ⟨by rw [List.length_cons, Nat.mul_succ]; omega, by rw [List.length_cons, List.length_cons, hxs.2.1], fun y hy => ?_⟩
    rcases List.mem_cons.mp hy with q | q
    · rw [q]; exact hx.2
    · exact hxs.2.2 y q
end DL
namespace LW
open PySem DL
theorem heirs_fact : ([1, 2, 3, 4].all fun n => (F__law_heirs [.urn, .int (n : Nat)]).chkD (fun d => (rows n).any fun r => dq d (rowD r)) n) = true := by decide +kernel
theorem rows_len : ∀ (n : Nat) (r : List Bool), r ∈ rows n → r.length = n
  | 0, r, h => by rw [List.mem_singleton.mp h]; rfl
  | n + 1, r, h => by
    unfold rows at h
    obtain ⟨q, h1, h2⟩ := List.mem_flatMap.mp h
    have := rows_len n q h1
    rcases List.mem_cons.mp h2 with e | e
    · rw [e, List.length_cons, this]
    · rw [List.mem_singleton.mp e, List.length_cons, this]
theorem heirs_ok {n k : Nat} (h : n ∈ [1, 2, 3, 4]) (hk : k + n ≤ 1125899906842624) : (F__law_heirs [.urn, .int (n : Nat)]).ok k fun d k' => k' ≤ k + n ∧ ∃ r, r.length = n ∧ d = rowD r :=
  T.ok_mono (chkD_ok (List.all_eq_true.mp heirs_fact n h) hk) fun d k' z => ⟨z.1, by
    obtain ⟨r, h1, h2⟩ := List.any_eq_true.mp z.2
    exact ⟨r, rows_len n r h1, dq_ok _ _ h2⟩⟩
theorem list_fact : (F__law_list [.urn, .tup (txD (things.take 4))]).chkD (fun d => (ordsOf 4).any fun o => dq d (.tup (txD o))) 4 = true := by decide +kernel
theorem list_ok {k : Nat} (hk : k + 4 ≤ 1125899906842624) : (F__law_list [.urn, .tup (txD (things.take 4))]).ok k fun d k' => k' ≤ k + 4 ∧ ∃ o, o ∈ ordsOf 4 ∧ d = .tup (txD o) :=
  T.ok_mono (chkD_ok list_fact hk) fun d k' z => ⟨z.1, by
    obtain ⟨r, h1, h2⟩ := List.any_eq_true.mp z.2
    exact ⟨r, h1, dq_ok _ _ h2⟩⟩
end LW
end

section
set_option maxRecDepth 100000
set_option maxHeartbeats 1000000
/-! MS: the steps of mirrors as rewriting. -/
namespace DL
open PySem
theorem fVar_at {i : Nat} {ρ : Env} {d : D} (h : ρ[i]? = some (.val d)) : fVar i ρ = .ret d := by unfold fVar; rw [h]
theorem fVarX_at {i : Nat} {ρ : Env} {ds : List D} (h : ρ[i]? = some (.own (.lst ds))) : fVarX i ρ = .ret (.lst ds) := by unfold fVarX; rw [h]
theorem fVarX_val {i : Nat} {ρ : Env} {d : D} (h : ρ[i]? = some (.val d)) : fVarX i ρ = .ret d := by unfold fVarX; rw [h]
theorem ok_seq {a b : Env → T Out} {ρ : Env} {n : Nat} {R : Out → Nat → Prop} (h : (a ρ).ok n fun o n' => match o with | .nx ρ' => (b ρ').ok n' R | o => R o n') : (sSeq a b ρ).ok n R := by
  unfold sSeq
  rw [T.ok_bind]
  refine T.ok_mono h fun o n' z => ?_
  cases o <;> exact z
theorem ok_eq {α : Type} {m m' : T α} {n : Nat} {R : α → Nat → Prop} (e : m = m') (h : m'.ok n R) : m.ok n R := by rw [e]; exact h
theorem ok_nx {α : Type} {a : α} {n : Nat} {R : α → Nat → Prop} (h : R a n) : (T.ret a).ok n R := h
/-! steps, each with its parts' values -/
section
variable {a b : Env → T Out} {t u : Env → T Bool} {f g h : Env → T D} {ρ ρ' : Env} {d e x y : D} {m : T Out} {i : Nat}
theorem seq_nx (h : a ρ = .ret (.nx ρ')) (k : b ρ' = m) : sSeq a b ρ = m := by unfold sSeq; rw [h, T.bind_ret]; exact k
theorem seq_rt (h : a ρ = .ret (.rt d)) : sSeq a b ρ = .ret (.rt d) := by unfold sSeq; rw [h, T.bind_ret]
theorem if_t (h : t ρ = .ret true) (k : a ρ = m) : sIf t a b ρ = m := by unfold sIf; rw [h, T.bind_ret]; exact k
theorem if_f (h : t ρ = .ret false) (k : b ρ = m) : sIf t a b ρ = m := by unfold sIf; rw [h, T.bind_ret]; exact k
theorem if_nx (h : t ρ = .ret false) : sIf t a sNext ρ = .ret (.nx ρ) := if_f h rfl
theorem ret_v (h : f (fullE ρ) = .ret d) : sRet f ρ = .ret (.rt d) := by unfold sRet; rw [h, T.bind_ret]
theorem set_v (h : f ρ = .ret d) : sSet i f ρ = .ret (.nx (ρ.set i (.val d))) := by unfold sSet; rw [h, T.bind_ret]
theorem par_v {j : Nat} (h : f ρ = .ret d) (k : g ρ = .ret e) : sParVV i j f g ρ = .ret (.nx ((ρ.set i (.val d)).set j (.val e))) := by unfold sParVV; rw [h, T.bind_ret, k, T.bind_ret]
theorem drop_v (h : f ρ = .ret d) : sDrop f ρ = .ret (.nx ρ) := by unfold sDrop; rw [h, T.bind_ret]
theorem unp_v {gg : D → Env → T Env} (h : f ρ = .ret d) (k : gg d ρ = .ret ρ') : sUnp f gg ρ = .ret (.nx ρ') := by unfold sUnp; rw [h, T.bind_ret, k, T.bind_ret]
theorem for_v {ii : Env → T (List D)} {gg : D → Env → T Env} {ds : List D} (h : ii ρ = .ret ds) (k : forT gg b ρ ds = m) : sFor ii gg b ρ = m := by unfold sFor; rw [h, T.bind_ret]; exact k
theorem op_v {o : D → D → T D} {r : T D} (h : f ρ = .ret d) (k : g ρ = .ret e) (z : o d e = r) : fOp o f g ρ = r := by unfold fOp; rw [h, T.bind_ret, k, T.bind_ret]; exact z
theorem un_v {o : D → T D} {r : T D} (h : f ρ = .ret d) (z : o d = r) : fUn o f ρ = r := by unfold fUn; rw [h, T.bind_ret]; exact z
theorem fn_v {o : D → T D} {r : T D} (h : f ρ = .ret d) (z : o d = r) : fFn o f ρ = r := by unfold fFn; rw [h, T.bind_ret]; exact z
theorem lfn_v {o : D → T (List D)} {r : T (List D)} (h : f ρ = .ret d) (z : o d = r) : lFn o f ρ = r := by unfold lFn; rw [h, T.bind_ret]; exact z
theorem afn_v {o : List D → T D} {aa : Env → T (List D)} {ds : List D} {r : T D} (h : aa ρ = .ret ds) (z : o ds = r) : aFn o aa ρ = r := by unfold aFn; rw [h, T.bind_ret]; exact z
theorem ofl_v {aa : Env → T (List D)} {ds : List D} (h : aa ρ = .ret ds) : fOfL aa ρ = .ret (.lst ds) := by unfold fOfL; rw [h, T.bind_ret]
theorem cons_v {aa : Env → T (List D)} {ds : List D} (h : f ρ = .ret d) (k : aa ρ = .ret ds) : aCons f aa ρ = .ret (d :: ds) := by unfold aCons; rw [h, T.bind_ret, k, T.bind_ret]
theorem nil_v : aNil ρ = .ret [] := rfl
theorem tup_v {aa : Env → T (List D)} {ds : List D} (h : aa ρ = .ret ds) (hl : ds.length ≤ capD) : fTup aa ρ = .ret (.tup ds) := by unfold fTup; rw [h, T.bind_ret, decide_eq_true hl]
theorem lst_v {aa : Env → T (List D)} {ds : List D} (h : aa ρ = .ret ds) (hl : ds.length ≤ capD) : fLst aa ρ = .ret ds := by unfold fLst; rw [h, T.bind_ret, decide_eq_true hl]
theorem test_v {c : Bool} (h : f ρ = .ret (.bl c)) : fTest f ρ = .ret c := by unfold fTest; rw [h, T.bind_ret]; rfl
theorem not_v {c : Bool} (h : t ρ = .ret c) : fNot t ρ = .ret (!c) := by unfold fNot; rw [h, T.bind_ret]
theorem and_v {c c' : Bool} (h : t ρ = .ret c) (k : u ρ = .ret c') : fAnd t u ρ = .ret (c && c') := by unfold fAnd; rw [h, T.bind_ret]; cases c; rfl; exact k
theorem and_f (h : t ρ = .ret false) : fAnd t u ρ = .ret false := by unfold fAnd; rw [h, T.bind_ret]
theorem or_v {c c' : Bool} (h : t ρ = .ret c) (k : u ρ = .ret c') : fOr t u ρ = .ret (c || c') := by unfold fOr; rw [h, T.bind_ret]; cases c; exact k; rfl
theorem or_t (h : t ρ = .ret true) : fOr t u ρ = .ret true := by unfold fOr; rw [h, T.bind_ret]
theorem notV_v {c : Bool} (h : f ρ = .ret (.bl c)) : fNotV f ρ = .ret (.bl (!c)) := by unfold fNotV; rw [h, T.bind_ret]; rfl
theorem andV_t {r : T D} (h : f ρ = .ret (.bl true)) (k : g ρ = r) : fAndV f g ρ = r := by unfold fAndV; rw [h, T.bind_ret]; exact k
theorem andV_f (h : f ρ = .ret (.bl false)) : fAndV f g ρ = .ret (.bl false) := by unfold fAndV; rw [h, T.bind_ret]; rfl
theorem orV_f {r : T D} (h : f ρ = .ret (.bl false)) (k : g ρ = r) : fOrV f g ρ = r := by unfold fOrV; rw [h, T.bind_ret]; exact k
theorem orV_t (h : f ρ = .ret (.bl true)) : fOrV f g ρ = .ret (.bl true) := by unfold fOrV; rw [h, T.bind_ret]; rfl
theorem isN_v (h : f ρ = .ret d) : fIsN f ρ = .ret (.bl (isNonD d)) := by unfold fIsN; rw [h, T.bind_ret]
theorem notN_v (h : f ρ = .ret d) : fNotN f ρ = .ret (.bl (!isNonD d)) := by unfold fNotN; rw [h, T.bind_ret]
theorem ifE_t {r : T D} (h : t ρ = .ret true) (k : f ρ = r) : fIf t f g ρ = r := by unfold fIf; rw [h, T.bind_ret]; exact k
theorem ifE_f {r : T D} (h : t ρ = .ret false) (k : g ρ = r) : fIf t f g ρ = r := by unfold fIf; rw [h, T.bind_ret]; exact k
theorem run_rt {B : Env → T Out} (h : B ρ = .ret (.rt d)) : (B ρ).bind outD = .ret d := by rw [h]; rfl
theorem run_nx {B : Env → T Out} (h : B ρ = .ret (.nx ρ')) : (B ρ).bind outD = .ret .non := by rw [h]; rfl
theorem if_draw {p : Int} {j : Int} {X : Int → T Out} (hf : f ρ = .take p fun r => .ret (.int r)) (hg : g ρ = .ret (.int j)) (k : ∀ r : Int, sIf (fAnd (fTest (fC (.bl (decide (r = j))))) t) a b ρ = X r) :
    sIf (fAnd (fTest (fOp eqD f g)) t) a b ρ = .take p X := by
  have e : fTest (fOp eqD f g) ρ = .take p fun r => .ret (decide (r = j)) := by
    unfold fTest fOp
    rw [hf]
    show T.take p _ = _
    congr 1
    funext r
    show (T.bind (T.bind (g ρ) fun y => eqD (.int r) y) blD) = _
    rw [hg]
    rfl
  unfold sIf fAnd
  rw [e]
  show T.take p _ = _
  congr 1
  funext r
  rw [← k r]
  rfl
end
end DL
end

section
set_option maxRecDepth 100000
set_option maxHeartbeats 1000000
/-! MD3: facts for the end of the law. -/
namespace LW
open PySem DL
def posT : Int → List Bool → List Int
  | _, [] => []
  | k, x :: r => bif x then k :: posT (k + 1) r else posT (k + 1) r
def showN (r s : List Bool) : Option Int := wr (posT 0 r) (posT 0 s) 0
theorem show_fact : ([1, 2, 3, 4].all fun n => ((ordsOf n).take 3).all fun hers => (pairsOf n).all fun p => decide (worseN hers (sel true p.1 hers) (sel true p.2 hers) = showN p.1 p.2)) = true := by decide +kernel
theorem up_fact : ([1, 2, 3, 4].all fun n => (pairsOf n).all fun p => (showN p.1 p.2).isSome == !above p.1 p.2) = true := by decide +kernel
def isRL (t : T D) : Bool := match t with | .ret (.lst _) => true | _ => false
/-- the numbers of her turns -/
def MTn (r : List Bool) : List D := match F__law_turns [rowD r, .str sA] with
  | .ret (.lst l) => l
  | _ => []
def SW (r : List Bool) : D := match F_swapped [TR r] with
  | .ret d => d
  | _ => .urn
theorem rowsT_fact : (rows4.all fun r => isR (F__law_turns [rowD r, .str sA]) (.lst (MTn r)) && isR (F_swapped [TR r]) (SW r)) = true := by decide +kernel
def agB (r s : List Bool) : Bool := match F_against [TR r, TR s] with
  | .ret .non => above r s
  | .ret (.int k) => !above r s && isR (gtD (.int k) (.int (MTn s).length)) (.bl false) && (isR (leD (.int k) (.int (MTn r).length)) (.bl false) || (isR (leD (.int k) (.int (MTn r).length)) (.bl true) &&
      isR ((ixD (.lst (MTn r)) (.int (k - 1))).bind fun a => (ixD (.lst (MTn s)) (.int (k - 1))).bind fun b => leD a b) (.bl false)))
  | _ => false
def cntB (r : List Bool) : Int := (r.countP fun b => b : Nat)
def mwB (r s : List Bool) : Bool := match F_most_worse [TR r, TR s] with
  | .ret .non => decide (cntB r < cntB s)
  | .ret (.int k) => (decide (k = 0) == above r s) && decide (cntB s ≤ cntB r)
  | _ => false
theorem cnt_fact : (rows4.all fun r => isR (cntD (rowD r) (.str sA)) (.int (cntB r))) = true := by decide +kernel
theorem ag_fact2 : ((pairsOf 1 ++ pairsOf 2 ++ pairsOf 3).all fun p => agB p.1 p.2) = true := by decide +kernel
theorem mw_fact2 : ((pairsOf 1 ++ pairsOf 2 ++ pairsOf 3).all fun p => mwB p.1 p.2) = true := by decide +kernel
theorem sw_fact2 : ((pairsOf 1 ++ pairsOf 2 ++ pairsOf 3).all fun p => isR (F_never_worse [SW p.2, SW p.1]) (.bl (above p.1 p.2))) = true := by decide +kernel
end LW
end

section
set_option maxRecDepth 100000
set_option maxHeartbeats 1000000
/-! MD4: the same for size 4. -/
namespace LW
open PySem DL
theorem ag_fact4 : ((pairsOf 4).all fun p => agB p.1 p.2) = true := by decide +kernel
theorem mw_fact4 : ((pairsOf 4).all fun p => mwB p.1 p.2) = true := by decide +kernel
theorem sw_fact4 : ((pairsOf 4).all fun p => isR (F_never_worse [SW p.2, SW p.1]) (.bl (above p.1 p.2))) = true := by decide +kernel
end LW
end

section
set_option maxRecDepth 100000
set_option maxHeartbeats 1000000
/-! ME1: _law_same of the same data says True. -/
namespace LW
open PySem DL
mutual
def plS : Nat → D → Bool
  | _, .non => true
  | _, .bl _ => true
  | _, .int _ => true
  | _, .str _ => true
  | n + 1, .lst xs => decide (xs.length < capD) && plSs n xs
  | n + 1, .tup xs => decide (xs.length < capD) && plSs n xs
  | _, _ => false
def plSs : Nat → List D → Bool
  | _, [] => true
  | n, x :: xs => plS n x && plSs n xs
end
theorem zipD_same : ∀ xs : List D, zipD xs xs = xs.map fun x => .pr x x
  | [] => rfl
  | x :: xs => by show D.pr x x :: zipD xs xs = _; rw [zipD_same xs]; rfl
theorem eqD_int (i j : Int) : eqD (.int i) (.int j) = .ret (.bl (decide (i = j))) := rfl
theorem neD_bl (a b : Bool) : neD (.bl a) (.bl b) = .ret (.bl (!decide (a = b))) := rfl
theorem eqD_bl (a b : Bool) : eqD (.bl a) (.bl b) = .ret (.bl (decide (a = b))) := rfl
theorem plSs_mem : ∀ {n : Nat} {xs : List D}, plSs n xs = true → ∀ x ∈ xs, plS n x = true
  | n, [], _, x, h => absurd h List.not_mem_nil
  | n, y :: ys, h, x, hx => by
    unfold plSs at h
    rw [Bool.and_eq_true] at h
    rcases List.mem_cons.mp hx with e | e
    · rw [e]; exact h.1
    · exact plSs_mem h.2 x e
theorem blsD_true : ∀ xs : List D, blsD (xs.map fun _ => D.bl true) = some (xs.map fun _ => true)
  | [] => rfl
  | x :: xs => by
    show (match blsD (xs.map fun _ => D.bl true) with | some is => some (true :: is) | none => none) = _
    rw [blsD_true xs]; rfl
theorem allD_true (xs : List D) : allD (.lst (xs.map fun _ => D.bl true)) = .ret (.bl true) := by
  unfold allD
  simp only [blsD_true]
  congr 2
  rw [List.all_eq_true]
  intro b hb
  obtain ⟨_, _, e⟩ := List.mem_map.mp hb
  rw [← e]; rfl
theorem compT_map {g : D → DL.Env → T DL.Env} {t : DL.Env → T Bool} {f : DL.Env → T D} {ρ : DL.Env} {α : Type} {h : α → D} {k : α → D} {ds : List α}
    (hh : ∀ a ∈ ds, ∃ ρ', g (h a) ρ = .ret ρ' ∧ t ρ' = .ret true ∧ f ρ' = .ret (k a)) : compT g t f ρ (ds.map h) = .ret (ds.map k) := by
  induction ds with
  | nil => rfl
  | cons a ds ih =>
    obtain ⟨ρ', h1, h2, h3⟩ := hh a (.head _)
    show ((g (h a) ρ).bind fun ρ' => (t ρ').bind fun c => match c with
        | true => (f ρ').bind fun y => (compT g t f ρ (ds.map h)).bind fun ys => .ret (y :: ys)
        | false => compT g t f ρ (ds.map h)) = _
    rw [h1, T.bind_ret, h2, T.bind_ret]
    simp only []
    rw [h3, T.bind_ret, ih fun a ha => hh a (.tail _ ha), T.bind_ret]
    rfl
theorem same_comp {d : Nat} {xs : List D} (hl : xs.length < capD) (ih : ∀ x ∈ xs, F__law_same d [x, x] = .ret (.bl true)) {a b : D} (ha : seqD a = some xs) (hb : seqD b = some xs) :
    fComp (iZip (fVar 0) (fVar 1)) (gTupD (gsCons (gSet 2) (gsCons (gSet 3) gsNil))) fYes (aFn (F__law_same d) (aCons (fVar 2) (aCons (fVar 3) aNil))) [2, 3] [.val a, .val b, .no, .no] = .ret (xs.map fun _ => D.bl true) := by
  have hz : iZip (fVar 0) (fVar 1) [.val a, .val b, .no, .no] = .ret (xs.map fun x => .pr x x) := by
    show ((seqT a).bind fun xs => (seqT b).bind fun ys => T.ret (zipD xs ys)) = _
    unfold seqT
    rw [ha, hb]
    show T.ret (zipD xs xs) = _
    rw [zipD_same]
  refine fcomp hz (by rw [List.length_map]; exact hl) (compT_map fun x hx => ⟨_, rfl, rfl, ?_⟩)
  exact ih x hx
theorem same_refl : ∀ (d : Nat) (x : D), plS d x = true → F__law_same (d + 1) [x, x] = .ret (.bl true) := by
  intro d
  induction d with
  | zero =>
    intro x h
    cases x with
    | non => rfl
    | bl b => cases b <;> rfl
    | int i =>
      have e : F__law_same 1 [.int i, .int i] = ((eqD (.int i) (.int i)).bind fun d => T.ret (Out.rt d)).bind outD := rfl
      rw [e, eqD_int, decide_eq_true rfl]; rfl
    | str x =>
      have e : F__law_same 1 [.str x, .str x] = ((eqD (.str x) (.str x)).bind fun d => T.ret (Out.rt d)).bind outD := rfl
      rw [e, show eqD (.str x) (.str x) = .ret (.bl (decide (x = x))) from rfl, decide_eq_true rfl]; rfl
    | _ => cases h
  | succ d ih =>
    intro x h
    cases x with
    | non => rfl
    | bl b => cases b <;> rfl
    | int i =>
      have e : F__law_same (d + 2) [.int i, .int i] = ((eqD (.int i) (.int i)).bind fun d => T.ret (Out.rt d)).bind outD := rfl
      rw [e, eqD_int, decide_eq_true rfl]; rfl
    | str x =>
      have e : F__law_same (d + 2) [.str x, .str x] = ((eqD (.str x) (.str x)).bind fun d => T.ret (Out.rt d)).bind outD := rfl
      rw [e, show eqD (.str x) (.str x) = .ret (.bl (decide (x = x))) from rfl, decide_eq_true rfl]; rfl
    | lst xs =>
      unfold plS at h
      rw [Bool.and_eq_true, decide_eq_true_eq] at h
      refine run_rt (seq_rt (if_t (by rfl) (seq_nx (if_nx (by rfl)) (ret_v (andV_t ?_ (fn_v (ofl_v (same_comp h.1 (fun x hx => ih x (plSs_mem h.2 x hx)) rfl rfl)) (allD_true xs)))))))
      exact op_v rfl rfl ((eqD_int _ _).trans (by rw [decide_eq_true rfl]))
    | tup xs =>
      unfold plS at h
      rw [Bool.and_eq_true, decide_eq_true_eq] at h
      refine run_rt (seq_rt (if_t (by rfl) (seq_nx (if_nx (by rfl)) (ret_v (andV_t ?_ (fn_v (ofl_v (same_comp h.1 (fun x hx => ih x (plSs_mem h.2 x hx)) rfl rfl)) (allD_true xs)))))))
      exact op_v rfl rfl ((eqD_int _ _).trans (by rw [decide_eq_true rfl]))
    | _ => cases h
end LW
end

section
set_option maxRecDepth 100000
set_option maxHeartbeats 2000000
/-! MD5: the law's double loop: one turn. -/
namespace LW
open PySem DL
abbrev Ls1 : DL.Env → T Out := (sSet 2 (fOp addD (fC (.int 1)) (aFn F__law_take (aCons (fVar 1) (aCons (fC (.int 4)) aNil)))))
abbrev Ls2 : DL.Env → T Out := (sSet 3 (fSl (fTup (aCons (fC (.str (PySem.Str.ofString "p"))) (aCons (fC (.str (PySem.Str.ofString "q"))) (aCons (fC (.str (PySem.Str.ofString "r"))) (aCons (fC (.str (PySem.Str.ofString "s"))) aNil))))) oNo (oSome (fVar 2))))
abbrev Ls3 : DL.Env → T Out := (sSet 4 (fOfL (fComp (iRange1 (aCons (fC (.int 2)) aNil)) (gSet 18) fYes (aFn F__law_heirs (aCons (fVar 1) (aCons (fVar 2) aNil))) [18])))
abbrev Ls4 : DL.Env → T Out := (sParVV 12 13 (aFn F_turns_of (aCons (fOp ixD (fVar 4) (fC (.int 0))) aNil)) (aFn F_turns_of (aCons (fOp ixD (fVar 4) (fC (.int 1))) aNil)))
abbrev Ls5 : DL.Env → T Out := (sSet 5 (aFn F__law_orders (aCons (fVar 3) aNil)))
abbrev Ls6 : DL.Env → T Out := (sSet 6 (fIf (fTest (fOp ltD (fVar 2) (fC (.int 4)))) (fVar 5) (fOp addD (fOfL (fComp (iRange1 (aCons (fC (.int 8)) aNil)) (gSet 25) fYes (aFn F__law_list (aCons (fVar 1) (aCons (fVar 3) aNil))) [25])) (fOfL (fLst (aCons (fOp ixD (fVar 5) (fC (.int 0))) aNil))))))
abbrev Ls7 : DL.Env → T Out := (sUnp (fTup (aCons (fC (.bl false)) (aCons (fC (.bl false)) aNil))) (gTupD (gsCons (gSet 14) (gsCons (gSet 15) gsNil))))
abbrev L8b1bs1 : DL.Env → T Out := (sSet 19 (fOfL (fComp (iSeq (fVar 4)) (gSet 26) fYes (aFn F__law_plain (aCons (fVar 26) (aCons (fVar 7) (aCons (fVar 16) aNil)))) [26])))
abbrev L8b1bs2 : DL.Env → T Out := (sUnp (fOfL (fComp (iZip (fVar 4) (fVar 19)) (gTupD (gsCons (gSet 26) (gsCons (gSet 27) gsNil))) fYes (aFn F__law_share (aCons (fVar 26) (aCons (fVar 27) (aCons (fC (.str (PySem.Str.ofString "a"))) aNil)))) [26, 27])) (gLstD (gsCons (gSet 23) (gsCons (gSet 24) gsNil))))
abbrev L8b1bs3 : DL.Env → T Out := (sSet 20 (aFn F__law_worse (aCons (fVar 7) (aCons (fVar 23) (aCons (fVar 24) aNil)))))
abbrev L8b1bs4 : DL.Env → T Out := (sSet 14 (fOrV (fVar 14) (fNotN (fVar 20))))
abbrev L8b1bs5 : DL.Env → T Out := (sUnp (fOfL (fComp (iZip (fVar 4) (fVar 19)) (gTupD (gsCons (gSet 26) (gsCons (gSet 27) gsNil))) fYes (aFn F__law_share (aCons (fVar 26) (aCons (fVar 27) (aCons (fC (.str (PySem.Str.ofString "b"))) aNil)))) [26, 27])) (gLstD (gsCons (gSet 21) (gsCons (gSet 22) gsNil))))
abbrev L8b1bs6 : DL.Env → T Out := (sSet 15 (fOrV (fVar 15) (fNotN (aFn F__law_worse (aCons (fVar 16) (aCons (fVar 22) (aCons (fVar 21) aNil)))))))
abbrev L8b1bs7 : DL.Env → T Out := (sIf (fAnd (fTest (fOp eqD (aFn F__law_take (aCons (fVar 1) (aCons (fC (.int 20)) aNil))) (fC (.int 0)))) (fNot (fTest (aFn (F__law_same 6) (aCons (fOfL (fLst (aCons (aFn F_worse_at (aCons (fVar 12) (aCons (fVar 13) (aCons (fVar 7) (aCons (fVar 16) aNil))))) (aCons (aFn F_taken (aCons (fVar 12) (aCons (fVar 7) (aCons (fVar 16) aNil)))) aNil)))) (aCons (fOfL (fLst (aCons (fVar 20) (aCons (fOp ixD (fVar 19) (fC (.int 0))) aNil)))) aNil)))))) (sRet (fC (.bl false))) sNext)
abbrev L8b1br7 : DL.Env → T Out := L8b1bs7
abbrev L8b1br6 : DL.Env → T Out := sSeq L8b1bs6 L8b1br7
abbrev L8b1br5 : DL.Env → T Out := sSeq L8b1bs5 L8b1br6
abbrev L8b1br4 : DL.Env → T Out := sSeq L8b1bs4 L8b1br5
abbrev L8b1br3 : DL.Env → T Out := sSeq L8b1bs3 L8b1br4
abbrev L8b1br2 : DL.Env → T Out := sSeq L8b1bs2 L8b1br3
abbrev L8b1br1 : DL.Env → T Out := sSeq L8b1bs1 L8b1br2
abbrev L8bs1 : DL.Env → T Out := (sFor (iSeq (fVar 5)) (gSet 16) L8b1br1)
abbrev L8br1 : DL.Env → T Out := L8bs1
abbrev Ls8 : DL.Env → T Out := (sFor (iSeq (fVar 6)) (gSet 7) L8br1)
abbrev Ls9 : DL.Env → T Out := (sSet 8 (fOfL (fComp (iSeq (fSl (fVar 5) oNo (oSome (fC (.int 3))))) (gSet 7) fYes (aFn F__law_worse (aCons (fVar 7) (aCons (aFn F__law_share (aCons (fOp ixD (fVar 4) (fC (.int 0))) (aCons (fVar 7) (aCons (fC (.str (PySem.Str.ofString "a"))) aNil)))) (aCons (aFn F__law_share (aCons (fOp ixD (fVar 4) (fC (.int 1))) (aCons (fVar 7) (aCons (fC (.str (PySem.Str.ofString "a"))) aNil)))) aNil)))) [7])))
abbrev Ls10 : DL.Env → T Out := (sSet 9 (aFn F__law_above (aCons (fOp ixD (fVar 4) (fC (.int 0))) (aCons (fOp ixD (fVar 4) (fC (.int 1))) aNil))))
abbrev Ls11 : DL.Env → T Out := (sIf (fOr (fTest (fOp neD (fNotN (fOp ixD (fVar 8) (fC (.int 0)))) (fNotV (fVar 9)))) (fOr (fTest (fOp neD (fFn lenSetD (fVar 8)) (fC (.int 1)))) (fAnd (fTest (fVar 14)) (fTest (fVar 9))))) (sRet (fC (.bl false))) sNext)
abbrev Ls12 : DL.Env → T Out := (sSet 10 (aFn F_never_worse (aCons (fVar 12) (aCons (fVar 13) aNil))))
abbrev Ls13 : DL.Env → T Out := (sIf (fNot (fTest (aFn (F__law_same 6) (aCons (fOfL (fLst (aCons (fVar 10) (aCons (aFn F_is_above (aCons (fVar 12) (aCons (fVar 13) aNil))) (aCons (fIsN (aFn F_against (aCons (fVar 12) (aCons (fVar 13) aNil)))) aNil))))) (aCons (fOfL (fLst (aCons (fVar 9) (aCons (fVar 9) (aCons (fVar 9) aNil))))) aNil))))) (sRet (fC (.bl false))) sNext)
abbrev Ls14 : DL.Env → T Out := (sIf (fNot (fTest (fVar 9))) (sSeq (sSet 17 (aFn F_against (aCons (fVar 12) (aCons (fVar 13) aNil)))) (sSeq (sParVV 21 22 (aFn F__law_turns (aCons (fOp ixD (fVar 4) (fC (.int 0))) (aCons (fC (.str (PySem.Str.ofString "a"))) aNil))) (aFn F__law_turns (aCons (fOp ixD (fVar 4) (fC (.int 1))) (aCons (fC (.str (PySem.Str.ofString "a"))) aNil)))) (sIf (fOr (fTest (fOp gtD (fVar 17) (fFn lenD (fVar 22)))) (fAnd (fTest (fOp leD (fVar 17) (fFn lenD (fVar 21)))) (fTest (fOp leD (fOp ixD (fVar 21) (fOp subD (fVar 17) (fC (.int 1)))) (fOp ixD (fVar 22) (fOp subD (fVar 17) (fC (.int 1)))))))) (sRet (fC (.bl false))) sNext))) sNext)
abbrev Ls15 : DL.Env → T Out := (sIf (fOr (fAnd (fTest (fVar 9)) (fTest (fVar 15))) (fNot (fTest (aFn (F__law_same 6) (aCons (aFn F_never_worse (aCons (aFn F_swapped (aCons (fVar 13) aNil)) (aCons (aFn F_swapped (aCons (fVar 12) aNil)) aNil))) (aCons (fVar 9) aNil)))))) (sRet (fC (.bl false))) sNext)
abbrev Ls16 : DL.Env → T Out := (sSet 11 (aFn F_most_worse (aCons (fVar 12) (aCons (fVar 13) aNil))))
abbrev Ls17 : DL.Env → T Out := (sIf (fTest (fIsN (fVar 11))) (sRet (fOp ltD (fCnt (fOp ixD (fVar 4) (fC (.int 0))) (fC (.str (PySem.Str.ofString "a")))) (fCnt (fOp ixD (fVar 4) (fC (.int 1))) (fC (.str (PySem.Str.ofString "a")))))) sNext)
abbrev Ls18 : DL.Env → T Out := (sRet (fAndV (aFn (F__law_same 6) (aCons (fOp eqD (fVar 11) (fC (.int 0))) (aCons (fVar 9) aNil))) (fOp geD (fCnt (fOp ixD (fVar 4) (fC (.int 0))) (fC (.str (PySem.Str.ofString "a")))) (fCnt (fOp ixD (fVar 4) (fC (.int 1))) (fC (.str (PySem.Str.ofString "a")))))))
abbrev Lr18 : DL.Env → T Out := Ls18
abbrev Lr17 : DL.Env → T Out := sSeq Ls17 Lr18
abbrev Lr16 : DL.Env → T Out := sSeq Ls16 Lr17
abbrev Lr15 : DL.Env → T Out := sSeq Ls15 Lr16
abbrev Lr14 : DL.Env → T Out := sSeq Ls14 Lr15
abbrev Lr13 : DL.Env → T Out := sSeq Ls13 Lr14
abbrev Lr12 : DL.Env → T Out := sSeq Ls12 Lr13
abbrev Lr11 : DL.Env → T Out := sSeq Ls11 Lr12
abbrev Lr10 : DL.Env → T Out := sSeq Ls10 Lr11
abbrev Lr9 : DL.Env → T Out := sSeq Ls9 Lr10
abbrev Lr8 : DL.Env → T Out := sSeq Ls8 Lr9
abbrev Lr7 : DL.Env → T Out := sSeq Ls7 Lr8
abbrev Lr6 : DL.Env → T Out := sSeq Ls6 Lr7
abbrev Lr5 : DL.Env → T Out := sSeq Ls5 Lr6
abbrev Lr4 : DL.Env → T Out := sSeq Ls4 Lr5
abbrev Lr3 : DL.Env → T Out := sSeq Ls3 Lr4
abbrev Lr2 : DL.Env → T Out := sSeq Ls2 Lr3
abbrev Lr1 : DL.Env → T Out := sSeq Ls1 Lr2
def LE (n : Nat) (r s : List Bool) (od hs : List D) (a b : Bool) (x7 x16 x19 x20 x21 x22 x23 x24 : Slot) : DL.Env :=
  [.no, .val .urn, .val (.int (n : Nat)), .val (.tup (txD (things.take n))), .val (.lst [rowD r, rowD s]), .val (.lst od), .val (.lst hs), x7, .no, .no, .no, .no, .val (TR r), .val (TR s), .val (.bl a), .val (.bl b), x16, .no, .no, x19, x20, x21, x22, x23, x24, .no, .no, .no]
theorem fcomp2 {i : DL.Env → T (List D)} {g : D → DL.Env → T DL.Env} {f : DL.Env → T D} {vs : List Nat} {ρ ρ1 ρ2 : DL.Env} {d e x y : D} (h : i ρ = .ret [d, e])
    (h1 : g d (wipeE ρ vs) = .ret ρ1) (h2 : g e (wipeE ρ vs) = .ret ρ2) (k1 : f ρ1 = .ret x) (k2 : f ρ2 = .ret y) : fComp i g fYes f vs ρ = .ret [x, y] := by
  refine fcomp h (by decide : (2 : Nat) < capD) ?_
  show ((g d (wipeE ρ vs)).bind fun ρ' => (fYes ρ').bind fun c => match c with
        | true => (f ρ').bind fun y => (compT g fYes f (wipeE ρ vs) [e]).bind fun ys => .ret (y :: ys)
        | false => compT g fYes f (wipeE ρ vs) [e]) = _
  rw [h1, T.bind_ret]
  show ((f ρ1).bind fun y => (compT g fYes f (wipeE ρ vs) [e]).bind fun ys => .ret (y :: ys)) = _
  rw [k1, T.bind_ret]
  show (T.bind ((g e (wipeE ρ vs)).bind fun ρ' => (fYes ρ').bind fun c => match c with
        | true => (f ρ').bind fun y => (compT g fYes f (wipeE ρ vs) []).bind fun ys => .ret (y :: ys)
        | false => compT g fYes f (wipeE ρ vs) []) _) = _
  rw [h2, T.bind_ret]
  show (T.bind ((f ρ2).bind fun y => (T.ret []).bind fun ys => .ret (y :: ys)) _) = _
  rw [k2]
  rfl
theorem wD_non (x : Option Int) : isNonD (wD x) = x.isNone := by cases x <;> rfl
theorem plS_wD (n : Nat) (x : Option Int) : plS n (wD x) = true := by cases x <;> cases n <;> rfl
theorem plSs_tx (n : Nat) : ∀ l : List Str, plSs n (txD l) = true
  | [] => by cases n <;> rfl
  | x :: l => by
    show plSs n (.str x :: txD l) = true
    unfold plSs
    rw [plSs_tx n l]
    cases n <;> rfl
theorem same_wt (x : Option Int) (l : List Str) (hl : l.length < capD) : F__law_same 6 [.lst [wD x, .tup (txD l)], .lst [wD x, .tup (txD l)]] = .ret (.bl true) := by
  refine same_refl 5 _ ?_
  have h1 : plS 4 (.tup (txD l)) = true := by
    unfold plS
    rw [plSs_tx, show (txD l).length = l.length from List.length_map _, decide_eq_true hl]; rfl
  show (decide (2 < capD) && (plS 4 (wD x) && (plS 4 (.tup (txD l)) && plSs 4 []))) = true
  rw [h1, plS_wD]; rfl
theorem body_eq {n : Nat} {r s : List Bool} {hers his pr ps : List Str} {od hs : List D} {a b : Bool} {x19 x20 x21 x22 x23 x24 : Slot} (lh : hers.length < 1000) (li : his.length < 1000) (lr : r.length < 1000) (ls : s.length < 1000) (lp : pr.length < 1000)
    (p1 : F__law_plain [rowD r, .tup (txD hers), .tup (txD his)] = .ret (.tup (txD pr))) (p2 : F__law_plain [rowD s, .tup (txD hers), .tup (txD his)] = .ret (.tup (txD ps)))
    (p3 : F_taken [TR r, .tup (txD hers), .tup (txD his)] = .ret (.tup (txD pr)))
    (p4 : F_worse_at [TR r, TR s, .tup (txD hers), .tup (txD his)] = .ret (wD (worseN hers (sel true r pr) (sel true s ps)))) :
    ∃ y19 y20 y21 y22 y23 y24, L8b1br1 (LE n r s od hs a b (.val (.tup (txD hers))) (.val (.tup (txD his))) x19 x20 x21 x22 x23 x24) =
      .take 20 fun _ => .ret (.nx (LE n r s od hs (a || (worseN hers (sel true r pr) (sel true s ps)).isSome) (b || (worseN his (sel false s ps) (sel false r pr)).isSome) (.val (.tup (txD hers))) (.val (.tup (txD his))) y19 y20 y21 y22 y23 y24)) := by
  refine ⟨.val (.lst [.tup (txD pr), .tup (txD ps)]), .val (wD (worseN hers (sel true r pr) (sel true s ps))), .val (.tup (srtT (sel false r pr))), .val (.tup (srtT (sel false s ps))), .val (.tup (srtT (sel true r pr))), .val (.tup (srtT (sel true s ps))), ?_⟩
  refine seq_nx (ρ' := LE n r s od hs a b (.val (.tup (txD hers))) (.val (.tup (txD his))) (.val (.lst [.tup (txD pr), .tup (txD ps)])) x20 x21 x22 x23 x24) ?_ ?_
  · show ((fComp (iSeq (fVar 4)) (gSet 26) fYes (aFn F__law_plain (aCons (fVar 26) (aCons (fVar 7) (aCons (fVar 16) aNil)))) [26] _).bind fun ds => T.ret (D.lst ds)).bind _ = _
    rw [fcomp2 (x := .tup (txD pr)) (y := .tup (txD ps)) (d := rowD r) (e := rowD s) rfl rfl rfl p1 p2]
    rfl
  refine seq_nx (ρ' := LE n r s od hs a b (.val (.tup (txD hers))) (.val (.tup (txD his))) (.val (.lst [.tup (txD pr), .tup (txD ps)])) x20 x21 x22 (.val (.tup (srtT (sel true r pr)))) (.val (.tup (srtT (sel true s ps))))) ?_ ?_
  · have e := fcomp2 (i := iZip (fVar 4) (fVar 19)) (g := gTupD (gsCons (gSet 26) (gsCons (gSet 27) gsNil))) (f := aFn F__law_share (aCons (fVar 26) (aCons (fVar 27) (aCons (fC (.str (PySem.Str.ofString "a"))) aNil)))) (vs := [26, 27]) (ρ := LE n r s od hs a b (.val (.tup (txD hers))) (.val (.tup (txD his))) (.val (.lst [.tup (txD pr), .tup (txD ps)])) x20 x21 x22 x23 x24)
      (d := .pr (rowD r) (.tup (txD pr))) (e := .pr (rowD s) (.tup (txD ps))) rfl rfl rfl (share_eq (b := true) lr) (share_eq (b := true) ls)
    show ((T.bind _ _).bind _) = _
    rw [e]
    rfl
  refine seq_nx (ρ' := LE n r s od hs a b (.val (.tup (txD hers))) (.val (.tup (txD his))) (.val (.lst [.tup (txD pr), .tup (txD ps)])) (.val (wD (worseN hers (sel true r pr) (sel true s ps)))) x21 x22 (.val (.tup (srtT (sel true r pr)))) (.val (.tup (srtT (sel true s ps))))) ?_ ?_
  · show (F__law_worse [.tup (txD hers), .tup (srtT (sel true r pr)), .tup (srtT (sel true s ps))]).bind _ = _
    rw [law_worse_eq lh]
    rfl
  refine seq_nx (ρ' := LE n r s od hs (a || (worseN hers (sel true r pr) (sel true s ps)).isSome) b (.val (.tup (txD hers))) (.val (.tup (txD his))) (.val (.lst [.tup (txD pr), .tup (txD ps)])) (.val (wD (worseN hers (sel true r pr) (sel true s ps)))) x21 x22 (.val (.tup (srtT (sel true r pr)))) (.val (.tup (srtT (sel true s ps))))) ?_ ?_
  · cases a <;> cases (worseN hers (sel true r pr) (sel true s ps)) <;> rfl
  generalize (a || (worseN hers (sel true r pr) (sel true s ps)).isSome) = a'
  refine seq_nx (ρ' := LE n r s od hs a' b (.val (.tup (txD hers))) (.val (.tup (txD his))) (.val (.lst [.tup (txD pr), .tup (txD ps)])) (.val (wD (worseN hers (sel true r pr) (sel true s ps)))) (.val (.tup (srtT (sel false r pr)))) (.val (.tup (srtT (sel false s ps)))) (.val (.tup (srtT (sel true r pr)))) (.val (.tup (srtT (sel true s ps))))) ?_ ?_
  · have e := fcomp2 (i := iZip (fVar 4) (fVar 19)) (g := gTupD (gsCons (gSet 26) (gsCons (gSet 27) gsNil))) (f := aFn F__law_share (aCons (fVar 26) (aCons (fVar 27) (aCons (fC (.str (PySem.Str.ofString "b"))) aNil)))) (vs := [26, 27]) (ρ := LE n r s od hs a' b (.val (.tup (txD hers))) (.val (.tup (txD his))) (.val (.lst [.tup (txD pr), .tup (txD ps)])) (.val (wD (worseN hers (sel true r pr) (sel true s ps)))) x21 x22 (.val (.tup (srtT (sel true r pr)))) (.val (.tup (srtT (sel true s ps)))))
      (d := .pr (rowD r) (.tup (txD pr))) (e := .pr (rowD s) (.tup (txD ps))) rfl rfl rfl (share_eq (b := false) lr) (share_eq (b := false) ls)
    show ((T.bind _ _).bind _) = _
    rw [e]
    rfl
  refine seq_nx (ρ' := LE n r s od hs a' (b || (worseN his (sel false s ps) (sel false r pr)).isSome) (.val (.tup (txD hers))) (.val (.tup (txD his))) (.val (.lst [.tup (txD pr), .tup (txD ps)])) (.val (wD (worseN hers (sel true r pr) (sel true s ps)))) (.val (.tup (srtT (sel false r pr)))) (.val (.tup (srtT (sel false s ps)))) (.val (.tup (srtT (sel true r pr)))) (.val (.tup (srtT (sel true s ps))))) ?_ ?_
  · cases b with
    | true => rfl
    | false =>
      show ((F__law_worse [.tup (txD his), .tup (srtT (sel false s ps)), .tup (srtT (sel false r pr))]).bind _).bind _ = _
      rw [law_worse_eq li]
      cases worseN his (sel false s ps) (sel false r pr) <;> rfl
  generalize (b || (worseN his (sel false s ps) (sel false r pr)).isSome) = b'
  have sm := same_wt (worseN hers (sel true r pr) (sel true s ps)) pr (Nat.lt_trans lp (by decide))
  refine if_draw rfl rfl fun i => ?_
  refine if_nx ((and_v (test_v rfl) (not_v (test_v (afn_v (cons_v (ofl_v (lst_v (cons_v (afn_v (by rfl) p4) (cons_v (afn_v (by rfl) p3) rfl)) (by show 2 ≤ capD; decide))) (cons_v (ofl_v (lst_v (cons_v (by rfl) (cons_v (op_v rfl rfl rfl) rfl)) (by show 2 ≤ capD; decide))) rfl)) sm)))).trans ?_)
  rw [Bool.not_true, Bool.and_false]
end LW
end

section
set_option maxRecDepth 100000
set_option maxHeartbeats 1000000
/-! MD6: all that a turn of the double loop asks. -/
namespace LW
open PySem DL
theorem ords_fact2 : ([1, 2, 3, 4].all fun n => (ordsOf n).all fun o => decide o.Nodup && o.isPerm (things.take n) && decide (o.length = n)) = true := by decide +kernel
theorem ords_ok {n : Nat} (hn : n ∈ [1, 2, 3, 4]) {o : List Str} (h : o ∈ ordsOf n) : o.Nodup ∧ o.Perm (things.take n) ∧ o.length = n := by
  have q := List.all_eq_true.mp (List.all_eq_true.mp ords_fact2 n hn) o h
  rw [Bool.and_eq_true, Bool.and_eq_true, decide_eq_true_eq, decide_eq_true_eq, List.isPerm_iff] at q
  exact ⟨q.1.1, q.1.2, q.2⟩
theorem n14 {n : Nat} (hn : n ∈ [1, 2, 3, 4]) : 1 ≤ n ∧ n ≤ 4 := by
  simp only [List.mem_cons, List.not_mem_nil, or_false] at hn
  omega
theorem check_ok {n : Nat} (hn : n ∈ [1, 2, 3, 4]) {hers his : List Str} (h1 : hers ∈ ordsOf n) (h2 : his ∈ ordsOf n) {r : List Bool} (hr : r.length = n) :
    F_check_lists [TR r, .tup (txD hers), .tup (txD his)] = .ret .non := by
  obtain ⟨a1, a2, a3⟩ := ords_ok hn h1
  obtain ⟨b1, b2, b3⟩ := ords_ok hn h2
  have hb := n14 hn
  refine check_lists_eq a1 (b2.trans a2.symm) (by omega) ?_ ?_
  · have := (row_fact (r := r) (by omega) (by omega)).2.2
    rw [a3, ← hr]; exact this
  · rw [srtT_perm a2]
    exact isR_ok (List.all_eq_true.mp same_things n hn)
theorem greedy_ok {n : Nat} (hn : n ∈ [1, 2, 3, 4]) {hers his : List Str} (h1 : hers ∈ ordsOf n) (h2 : his ∈ ordsOf n) {r : List Bool} (hr : r.length = n) :
    ∃ p, greedy hers his r [] = some p ∧ p.length = n ∧ p.Nodup := by
  have hm := rows_all n r hr
  have key : (match greedy hers his r [] with
    | some res => decide (res.length = n) && decide res.Nodup
    | none => false) = true := by
    have c : n ∈ [1, 2, 3] ∨ n = 4 := by
      simp only [List.mem_cons, List.not_mem_nil, or_false] at hn ⊢
      omega
    rcases c with c | c
    · exact List.all_eq_true.mp (List.all_eq_true.mp (List.all_eq_true.mp (List.all_eq_true.mp greedy_fact2 n c) hers h1) his h2) r hm
    · subst c
      exact List.all_eq_true.mp (List.all_eq_true.mp (List.all_eq_true.mp greedy_fact4 hers h1) his h2) r hm
  cases hg : greedy hers his r [] with
  | none => rw [hg] at key; cases key
  | some p =>
    rw [hg] at key
    simp only [Bool.and_eq_true, decide_eq_true_eq] at key
    exact ⟨p, rfl, key.1, key.2⟩
theorem idx_inj (l : List Str) : Inj l.idxOf l := by
  intro x hx y hy e
  have h1 := List.idxOf_lt_length_of_mem hx
  have h2 := List.idxOf_lt_length_of_mem hy
  have e1 := List.getElem_idxOf h1
  have e2 := List.getElem_idxOf h2
  rw [← e1, ← e2]
  congr 1
theorem fine4 {hers his : List Str} (h1 : hers ∈ ordsOf 4) (h2 : his ∈ ordsOf 4) {r s : List Bool} (hr : r.length = 4) (hs : s.length = 4) {pr ps : List Str} (g1 : greedy hers his r [] = some pr) (g2 : greedy hers his s [] = some ps) (ha : above r s = true) :
    worseN hers (sel true r pr) (sel true s ps) = none ∧ worseN his (sel false s ps) (sel false r pr) = none := by
  have ij := idx_inj hers
  have s1 : ∀ z ∈ hers, z ∈ hers := fun z h => h
  have s2 : ∀ z ∈ his, z ∈ hers := fun z hz => by
    have q := List.all_eq_true.mp (List.all_eq_true.mp (List.all_eq_true.mp ords_in hers h1) his h2) z hz
    exact List.contains_iff_mem.mp q
  have pm : his.map hers.idxOf ∈ perms 4 := List.contains_iff_mem.mp (List.all_eq_true.mp (List.all_eq_true.mp perms_fact hers h1) his h2)
  have rg : hers.map hers.idxOf = List.range 4 := beq_iff_eq.mp (List.all_eq_true.mp range_fact hers h1)
  have m1 := greedy_map ij s1 s2 r [] (fun z h => absurd h List.not_mem_nil)
  have m2 := greedy_map ij s1 s2 s [] (fun z h => absurd h List.not_mem_nil)
  rw [rg, g1] at m1
  rw [rg, g2] at m2
  have u1 := greedy_sub s1 s2 r [] pr (fun z h => absurd h List.not_mem_nil) g1
  have u2 := greedy_sub s1 s2 s [] ps (fun z h => absurd h List.not_mem_nil) g2
  have f := List.all_eq_true.mp fineN_fact _ pm
  unfold fineN at f
  have mem : ∀ q : List Bool, q.length = 4 → (q, posN (selN true q ((greedyN (List.range 4) (his.map hers.idxOf) q []).getD [])) 0 (List.range 4), posN (selN false q ((greedyN (List.range 4) (his.map hers.idxOf) q []).getD [])) 0 (his.map hers.idxOf)) ∈ tabN (his.map hers.idxOf) 4 := fun q hq => List.mem_map.mpr ⟨q, rows_all 4 q hq, rfl⟩
  have ff := List.all_eq_true.mp (List.all_eq_true.mp f _ (mem r hr)) _ (mem s hs)
  simp only [ha, Bool.not_true, Bool.false_or, Bool.and_eq_true] at ff
  rw [show ([] : List Nat) = ([] : List Str).map hers.idxOf from rfl, m1, m2] at ff
  have gd : ∀ p : List Str, ((some p).map fun l => l.map hers.idxOf).getD (([] : List Str).map hers.idxOf) = p.map hers.idxOf := fun _ => rfl
  rw [gd, gd, sel_map, sel_map, sel_map, sel_map, ← rg] at ff
  have sub : ∀ (b : Bool) (q : List Bool) (p : List Str), (∀ z ∈ p, z ∈ hers) → ∀ z ∈ sel b q p, z ∈ hers := fun b q p h z hz => h z ((sel_sub b q p).subset hz)
  exact ⟨worse_map ij s1 (sub true r pr u1) (sub true s ps u2) ff.1, worse_map ij s2 (sub false s ps u2) (sub false r pr u1) ff.2⟩
theorem fine_ok {n : Nat} (hn : n ∈ [1, 2, 3, 4]) {hers his : List Str} (h1 : hers ∈ ordsOf n) (h2 : his ∈ ordsOf n) {r s : List Bool} (hr : r.length = n) (hs : s.length = n) {pr ps : List Str} (g1 : greedy hers his r [] = some pr) (g2 : greedy hers his s [] = some ps) (ha : above r s = true) :
    worseN hers (sel true r pr) (sel true s ps) = none ∧ worseN his (sel false s ps) (sel false r pr) = none := by
  have c : n ∈ [1, 2, 3] ∨ n = 4 := by
    simp only [List.mem_cons, List.not_mem_nil, or_false] at hn ⊢
    omega
  rcases c with c | c
  · have f := List.all_eq_true.mp (List.all_eq_true.mp (List.all_eq_true.mp (List.all_eq_true.mp fine_fact2 n c) hers h1) his h2) _ (pairs_all hr hs)
    unfold fine at f
    rw [show pk hers his r = pr by unfold pk; rw [g1]; rfl, show pk hers his s = ps by unfold pk; rw [g2]; rfl] at f
    simp only [ha, Bool.not_true, Bool.false_or, Bool.and_eq_true, Option.isNone_iff_eq_none] at f
    exact f
  · subst c
    exact fine4 h1 h2 hr hs g1 g2 ha
/-- one turn -/
theorem turn_ok {n : Nat} (hn : n ∈ [1, 2, 3, 4]) {hers his : List Str} (h1 : hers ∈ ordsOf n) (h2 : his ∈ ordsOf n) {r s : List Bool} (hr : r.length = n) (hs : s.length = n) {od hd : List D} {a b : Bool} {x19 x20 x21 x22 x23 x24 : Slot} (hab : above r s = true → a = false ∧ b = false) :
    ∃ a' b' y19 y20 y21 y22 y23 y24, L8b1br1 (LE n r s od hd a b (.val (.tup (txD hers))) (.val (.tup (txD his))) x19 x20 x21 x22 x23 x24) =
      .take 20 (fun _ => .ret (.nx (LE n r s od hd a' b' (.val (.tup (txD hers))) (.val (.tup (txD his))) y19 y20 y21 y22 y23 y24))) ∧ (above r s = true → a' = false ∧ b' = false) := by
  have hb := n14 hn
  obtain ⟨a1, a2, a3⟩ := ords_ok hn h1
  obtain ⟨b1, b2, b3⟩ := ords_ok hn h2
  obtain ⟨pr, g1, l1, d1⟩ := greedy_ok hn h1 h2 hr
  obtain ⟨ps, g2, l2, d2⟩ := greedy_ok hn h1 h2 hs
  have cap : (4 : Nat) < capD := by decide
  have c1 := check_ok hn h1 h2 hr
  have c2 := check_ok hn h1 h2 hs
  have k1 := row_fact (r := r) (by omega) (by omega)
  have k2 := row_fact (r := s) (by omega) (by omega)
  have sub : ∀ o ∈ his, o ∈ hers := fun o ho => (b2.trans a2.symm).mem_iff.mp ho
  have t1 := taken_eq (R := TR r) (by omega) (by omega) a1 sub (by omega) c1 k1.2.1 g1
  have t2 := taken_eq (R := TR s) (by omega) (by omega) a1 sub (by omega) c2 k2.2.1 g2
  have e1 := shares_eq (R := TR r) (by omega) (by omega) d1 k1.2.1 t1
  have e2 := shares_eq (R := TR s) (by omega) (by omega) d2 k2.2.1 t2
  have w := worse_at_eq (by omega) (check_size_fact (r := r) (s := s) (by omega) (by omega) (by omega)) c1 e1 e2
  obtain ⟨y19, y20, y21, y22, y23, y24, e⟩ := body_eq (n := n) (od := od) (hs := hd) (a := a) (b := b) (x19 := x19) (x20 := x20) (x21 := x21) (x22 := x22) (x23 := x23) (x24 := x24) (by omega) (by omega) (by omega) (by omega) (by omega) (plain_eq (by omega) (by omega) (by omega) g1) (plain_eq (by omega) (by omega) (by omega) g2) t1 w
  refine ⟨_, _, y19, y20, y21, y22, y23, y24, e, fun ha => ?_⟩
  obtain ⟨z1, z2⟩ := fine_ok hn h1 h2 hr hs g1 g2 ha
  obtain ⟨w1, w2⟩ := hab ha
  rw [z1, z2, w1, w2]
  exact ⟨rfl, rfl⟩
end LW
end

section
set_option maxRecDepth 100000
set_option maxHeartbeats 1000000
/-! MD7: the end of the law, behind the double loop. -/
namespace LW
open PySem DL
theorem cut_take (xs : List D) (k : Nat) : cutD xs none (some (k : Int)) = xs.take k := by
  show (xs.drop 0).take ((if (k : Int) < 0 then ((k : Int) + (xs.length : Int)).toNat else min (k : Int).toNat xs.length) - 0) = _
  rw [if_neg (by omega), Int.toNat_natCast, List.drop_zero, Nat.sub_zero]
  rcases Nat.le_total k xs.length with h | h
  · rw [Nat.min_eq_left h]
  · rw [Nat.min_eq_right h, List.take_length, List.take_of_length_le h]
def txO (o : List Str) : D := .tup (txD o)
theorem take3_fact : ([1, 2, 3, 4].all fun n => decide (1 ≤ ((ordsOf n).take 3).length)) = true := by decide +kernel
def wL : Option Int → Leaf
  | none => .none
  | some k => .num k
theorem leaves_w {α : Type} (x : Option Int) : ∀ L : List α, leavesD (L.map fun _ => wD x) = some (L.map fun _ => wL x)
  | [] => rfl
  | a :: L => by
    have ih := leaves_w x L
    show (match leafD (wD x) with
      | some l => (match leavesD (L.map fun _ => wD x) with | some ls => some (l :: ls) | none => none)
      | none => none) = _
    rw [ih]
    cases x <;> rfl
theorem ded_w {α : Type} (l : Leaf) : ∀ L : List α, L ≠ [] → DS.dedL (L.map fun _ => l) = [l]
  | [], h => absurd rfl h
  | [a], _ => by
    show (bif (DS.dedL []).contains l then _ else _) = _
    rfl
  | a :: b :: L, _ => by
    have ih := ded_w l (b :: L) (List.cons_ne_nil _ _)
    show (bif (DS.dedL ((b :: L).map fun _ => l)).contains l then DS.dedL ((b :: L).map fun _ => l) else _) = _
    rw [ih, show [l].contains l = true by simp]
    rfl
theorem lenSet_w {α : Type} (x : Option Int) (L : List α) (h : L ≠ []) (hl : L.length ≤ 3000) : lenSetD (.lst (L.map fun _ => wD x)) = .ret (.int 1) := by
  unfold lenSetD
  simp only [seqD, leaves_w, ded_w (wL x) L h, List.length_map, decide_eq_true hl]
  rfl
def LT (n : Nat) (r s : List Bool) (od hs : List D) (a b up : Bool) (x7 x8 x10 x16 x17 x19 x20 x21 x22 x23 x24 : Slot) : DL.Env :=
  [.no, .val .urn, .val (.int (n : Nat)), .val (.tup (txD (things.take n))), .val (.lst [rowD r, rowD s]), .val (.lst od), .val (.lst hs), x7, x8, .val (.bl up), x10, .no, .val (TR r), .val (TR s), .val (.bl a), .val (.bl b), x16, x17, .no, x19, x20, x21, x22, x23, x24, .no, .no, .no]
structure Facts (r s : List Bool) : Prop where
  ag : ∃ d, F_against [TR r, TR s] = .ret d ∧ isNonD d = above r s ∧ (above r s = false → ∃ k, d = .int k ∧ gtD (.int k) (.int (MTn s).length) = .ret (.bl false) ∧
    (leD (.int k) (.int (MTn r).length) = .ret (.bl false) ∨ leD (.int k) (.int (MTn r).length) = .ret (.bl true) ∧ ((ixD (.lst (MTn r)) (.int (k - 1))).bind fun a => (ixD (.lst (MTn s)) (.int (k - 1))).bind fun b => leD a b) = .ret (.bl false)))
  mw : (F_most_worse [TR r, TR s] = .ret .non ∧ cntB r < cntB s) ∨ ∃ k, F_most_worse [TR r, TR s] = .ret (.int k) ∧ decide (k = 0) = above r s ∧ cntB s ≤ cntB r
  sw : F_never_worse [SW s, SW r] = .ret (.bl (above r s))
  s1 : F_swapped [TR r] = .ret (SW r)
  s2 : F_swapped [TR s] = .ret (SW s)
  t1 : F__law_turns [rowD r, .str sA] = .ret (.lst (MTn r))
  t2 : F__law_turns [rowD s, .str sA] = .ret (.lst (MTn s))
  c1 : cntD (rowD r) (.str sA) = .ret (.int (cntB r))
  c2 : cntD (rowD s) (.str sA) = .ret (.int (cntB s))
  ab : F__law_above [rowD r, rowD s] = .ret (.bl (above r s))
  nw : F_never_worse [TR r, TR s] = .ret (.bl (above r s))
  ia : F_is_above [TR r, TR s] = .ret (.bl (above r s))
  up : (showN r s).isSome = !above r s
theorem facts_of {n : Nat} (hn : n ∈ [1, 2, 3, 4]) {r s : List Bool} (hr : r.length = n) (hs : s.length = n) : Facts r s := by
  have hb := n14 hn
  have f : (r, s) ∈ pairsOf 1 ++ pairsOf 2 ++ pairsOf 3 ∨ (r, s) ∈ pairsOf 4 := by
    rw [List.mem_append, List.mem_append]
    have h : n = 1 ∨ n = 2 ∨ n = 3 ∨ n = 4 := by omega
    rcases h with h | h | h | h <;> subst h
    · exact .inl (.inl (.inl (pairs_all hr hs)))
    · exact .inl (.inl (.inr (pairs_all hr hs)))
    · exact .inl (.inr (pairs_all hr hs))
    · exact .inr (pairs_all hr hs)
  have ag : agB r s = true := f.elim (pair_of agB ag_fact2) (pair_of agB ag_fact4)
  have mw : mwB r s = true := f.elim (pair_of mwB mw_fact2) (pair_of mwB mw_fact4)
  have sw : isR (F_never_worse [SW s, SW r]) (.bl (above r s)) = true := f.elim (pair_of (fun r s => isR (F_never_worse [SW s, SW r]) (.bl (above r s))) sw_fact2) (pair_of (fun r s => isR (F_never_worse [SW s, SW r]) (.bl (above r s))) sw_fact4)
  have rr : ∀ q : List Bool, q.length = n → (F__law_turns [rowD q, .str sA] = .ret (.lst (MTn q)) ∧ F_swapped [TR q] = .ret (SW q)) ∧ cntD (rowD q) (.str sA) = .ret (.int (cntB q)) := fun q hq => by
    have m := rows4_all (r := q) (by omega) (by omega)
    have h := List.all_eq_true.mp rowsT_fact q m
    rw [Bool.and_eq_true] at h
    exact ⟨⟨isR_ok h.1, isR_ok h.2⟩, isR_ok (List.all_eq_true.mp cnt_fact q m)⟩
  have la := law_above_eq (r := r) (s := s) (by omega) (by omega) (by omega)
  refine ⟨?_, ?_, isR_ok sw, (rr r hr).1.2, (rr s hs).1.2, (rr r hr).1.1, (rr s hs).1.1, (rr r hr).2, (rr s hs).2, la.1, la.2.1, la.2.2, ?_⟩
  · unfold agB at ag
    split at ag
    · rename_i e
      exact ⟨_, e, by rw [ag]; rfl, fun h => by rw [h] at ag; cases ag⟩
    · rename_i k e
      simp only [Bool.and_eq_true, Bool.or_eq_true, Bool.not_eq_true'] at ag
      refine ⟨_, e, by rw [ag.1.1]; rfl, fun _ => ⟨k, rfl, isR_ok ag.1.2, ?_⟩⟩
      rcases ag.2 with h | h
      · exact .inl (isR_ok h)
      · exact .inr ⟨isR_ok h.1, isR_ok h.2⟩
    · cases ag
  · unfold mwB at mw
    split at mw
    · rename_i e; exact .inl ⟨e, of_decide_eq_true mw⟩
    · rename_i k e
      rw [Bool.and_eq_true, beq_iff_eq, decide_eq_true_eq] at mw
      exact .inr ⟨k, e, mw⟩
    · cases mw
  · have := List.all_eq_true.mp (List.all_eq_true.mp up_fact n hn) _ (pairs_all hr hs)
    exact beq_iff_eq.mp this
theorem tail3 {r s : List Bool} (F : Facts r s) {n : Nat} {od hs : List D} {a b : Bool} {x7 x8 x10 x16 x17 x19 x20 x21 x22 x23 x24 : Slot} (hb : above r s = true → b = false) :
    Lr15 (LT n r s od hs a b (above r s) x7 x8 x10 x16 x17 x19 x20 x21 x22 x23 x24) = .ret (.rt (.bl true)) := by
  refine seq_nx (if_nx ((or_v (and_v (test_v rfl) (test_v rfl)) (not_v (test_v (afn_v (cons_v (afn_v (cons_v (afn_v (cons_v rfl rfl) F.s2) (cons_v (afn_v (cons_v rfl rfl) F.s1) rfl)) F.sw) (cons_v rfl rfl)) (same_refl 5 _ rfl))))).trans ?_)) ?_
  · cases h : above r s with
    | false => rfl
    | true => rw [hb h]; rfl
  rcases F.mw with ⟨e, h⟩ | ⟨k, e, h1, h2⟩
  · refine seq_nx (set_v (afn_v (by rfl) e)) (seq_rt (if_t (by rfl) (ret_v (op_v (op_v (op_v rfl rfl rfl) rfl F.c1) (op_v (op_v rfl rfl rfl) rfl F.c2) ?_))))
    show T.ret (D.bl (decide (cntB r < cntB s))) = _
    rw [decide_eq_true h]
  · refine seq_nx (set_v (afn_v (by rfl) e)) (seq_nx (if_nx (by rfl)) (ret_v (andV_t (afn_v (cons_v (op_v rfl rfl (eqD_int _ _)) (cons_v rfl rfl)) (by rw [h1]; exact same_refl 5 _ rfl)) (op_v (op_v (op_v rfl rfl rfl) rfl F.c1) (op_v (op_v rfl rfl rfl) rfl F.c2) ?_))))
    show T.ret (D.bl (decide (cntB s ≤ cntB r))) = _
    rw [decide_eq_true h2]
theorem tail2 {r s : List Bool} (F : Facts r s) {n : Nat} {od hs : List D} {a b : Bool} {x7 x8 x10 x16 x17 x19 x20 x21 x22 x23 x24 : Slot} (hb : above r s = true → b = false) :
    Lr12 (LT n r s od hs a b (above r s) x7 x8 x10 x16 x17 x19 x20 x21 x22 x23 x24) = .ret (.rt (.bl true)) := by
  obtain ⟨d, g1, g2, g3⟩ := F.ag
  have sm : F__law_same 6 [.lst [.bl (above r s), .bl (above r s), .bl (isNonD d)], .lst [.bl (above r s), .bl (above r s), .bl (above r s)]] = .ret (.bl true) := by
    rw [g2]
    exact same_refl 5 (.lst [.bl (above r s), .bl (above r s), .bl (above r s)]) rfl
  refine seq_nx (set_v (afn_v (by rfl) F.nw)) (seq_nx (if_nx (not_v (c := true) (test_v (afn_v (cons_v (ofl_v (lst_v (cons_v (by rfl) (cons_v (afn_v (by rfl) F.ia) (cons_v (isN_v (afn_v (by rfl) g1)) rfl))) (by show 3 ≤ capD; decide))) (cons_v (ofl_v (lst_v (cons_v (by rfl) (cons_v (by rfl) (cons_v (by rfl) rfl))) (by show 3 ≤ capD; decide))) rfl)) sm)))) ?_)
  have t3 : ∀ (up : Bool) (x7 x8 x10 x16 x17 x19 x20 x21 x22 x23 x24 : DL.Slot), up = above r s → Lr15 (LT n r s od hs a b up x7 x8 x10 x16 x17 x19 x20 x21 x22 x23 x24) = .ret (.rt (.bl true)) := by
    rintro _ _ _ _ _ _ _ _ _ _ _ _ rfl
    exact tail3 F hb
  cases h : above r s with
  | true =>
    refine seq_nx (if_nx (not_v (c := true) (test_v rfl))) ?_
    exact t3 true x7 x8 (.val (.bl true)) x16 x17 x19 x20 x21 x22 x23 x24 h.symm
  | false =>
    obtain ⟨k, rfl, k1, k2⟩ := g3 h
    have st : Ls14 (LT n r s od hs a b false x7 x8 (.val (.bl false)) x16 x17 x19 x20 x21 x22 x23 x24) = .ret (.nx (LT n r s od hs a b false x7 x8 (.val (.bl false)) x16 (.val (.int k)) x19 x20 (.val (.lst (MTn r))) (.val (.lst (MTn s))) x23 x24)) := by
      refine if_t (not_v (c := false) (test_v rfl)) (seq_nx (set_v (afn_v (by rfl) g1)) (seq_nx (par_v (afn_v (cons_v (op_v rfl rfl rfl) rfl) F.t1) (afn_v (cons_v (op_v rfl rfl rfl) rfl) F.t2)) (if_nx ?_)))
      rcases k2 with q | ⟨q1, q2⟩
      · exact or_v (c := false) (c' := false) (test_v (op_v rfl (fn_v rfl rfl) k1)) (and_f (test_v (op_v rfl (fn_v rfl rfl) q)))
      · exact or_v (c := false) (c' := false) (test_v (op_v rfl (fn_v rfl rfl) k1)) (and_v (c := true) (c' := false) (test_v (op_v rfl (fn_v rfl rfl) q1)) (test_v q2))
    refine seq_nx st ?_
    exact t3 false x7 x8 _ x16 _ x19 x20 _ _ x23 x24 h.symm
theorem tail1 {n : Nat} (hn : n ∈ [1, 2, 3, 4]) {r s : List Bool} (hr : r.length = n) (hs : s.length = n) {hd : List D} {a b : Bool} {x7 x16 x19 x20 x21 x22 x23 x24 : Slot} (hab : above r s = true → a = false ∧ b = false) :
    Lr9 (LE n r s ((ordsOf n).map txO) hd a b x7 x16 x19 x20 x21 x22 x23 x24) = .ret (.rt (.bl true)) := by
  have F := facts_of hn hr hs
  have hb := n14 hn
  have ne : (ordsOf n).take 3 ≠ [] := fun e => by
    have := List.all_eq_true.mp take3_fact n hn
    rw [e] at this; cases this
  have l3 : ((ordsOf n).take 3).length ≤ 3 := List.length_take_le _ _
  have cp : 3 < capD := by decide
  have c9 : fComp (iSeq (fSl (fVar 5) oNo (oSome (fC (.int 3))))) (gSet 7) fYes (aFn F__law_worse (aCons (fVar 7) (aCons (aFn F__law_share (aCons (fOp ixD (fVar 4) (fC (.int 0))) (aCons (fVar 7) (aCons (fC (.str (PySem.Str.ofString "a"))) aNil)))) (aCons (aFn F__law_share (aCons (fOp ixD (fVar 4) (fC (.int 1))) (aCons (fVar 7) (aCons (fC (.str (PySem.Str.ofString "a"))) aNil)))) aNil)))) [7]
      (LE n r s ((ordsOf n).map txO) hd a b x7 x16 x19 x20 x21 x22 x23 x24) = .ret (((ordsOf n).take 3).map fun _ => wD (showN r s)) := by
    refine fcomp (ds := ((ordsOf n).take 3).map txO) ?_ (by rw [List.length_map]; omega) (compT_map fun o ho => ⟨_, rfl, rfl, ?_⟩)
    · show T.ret (cutD ((ordsOf n).map txO) none (some ((3 : Nat) : Int))) = _
      rw [cut_take, List.map_take]
    · have e := of_decide_eq_true (List.all_eq_true.mp (List.all_eq_true.mp (List.all_eq_true.mp show_fact n hn) o ho) _ (pairs_all hr hs))
      obtain ⟨o1, o2, o3⟩ := ords_ok hn (List.mem_of_mem_take ho)
      refine afn_v (cons_v rfl (cons_v (afn_v (cons_v (op_v rfl rfl rfl) (cons_v rfl rfl)) (share_eq (b := true) (by omega))) (cons_v (afn_v (cons_v (op_v rfl rfl rfl) (cons_v rfl rfl)) (share_eq (b := true) (by omega))) rfl))) ((law_worse_eq (by omega)).trans ?_)
      rw [e]
  refine seq_nx (set_v (ofl_v c9)) (seq_nx (set_v (afn_v (cons_v (op_v rfl rfl rfl) (cons_v (op_v rfl rfl rfl) rfl)) F.ab)) (seq_nx (if_nx ?_) ?_))
  · have e0 : ixD (.lst (((ordsOf n).take 3).map fun _ => wD (showN r s))) (.int 0) = .ret (wD (showN r s)) := by
      cases h : (ordsOf n).take 3 with
      | nil => exact absurd h ne
      | cons o L => exact ix0D _ _
    have t1 : neD (.bl (!isNonD (wD (showN r s)))) (.bl (!above r s)) = .ret (.bl false) := by
      rw [wD_non, ← F.up]
      cases showN r s <;> rfl
    have ls := lenSet_w (showN r s) ((ordsOf n).take 3) ne (by omega)
    refine (or_v (c := false) (c' := false) (test_v (op_v (f := fNotN (fOp ixD (fVar 8) (fC (.int 0)))) (d := .bl (!isNonD (wD (showN r s)))) (notN_v (op_v rfl rfl e0)) (notV_v rfl) t1)) (or_v (c := false) (c' := false) (test_v (op_v (fn_v rfl ls) rfl rfl)) ?_))
    · refine (and_v (test_v rfl) (test_v rfl)).trans ?_
      cases h : above r s with
      | false => rw [Bool.and_false]
      | true => rw [(hab h).1]; rfl
  · exact tail2 (n := n) F fun h => (hab h).2
end LW
end

section
set_option maxRecDepth 100000
set_option maxHeartbeats 1000000
/-! MD8: k80: all ways of the law say True. -/
namespace LW
open PySem DL
theorem len24 : ([1, 2, 3, 4].all fun n => decide ((ordsOf n).length ≤ 24)) = true := by decide +kernel
def J7 (n : Nat) (r s : List Bool) (od hd : List D) (ρ : DL.Env) : Prop := ∃ a b x7 x16 x19 x20 x21 x22 x23 x24, ρ = LE n r s od hd a b x7 x16 x19 x20 x21 x22 x23 x24 ∧ (above r s = true → a = false ∧ b = false)
def J16 (n : Nat) (r s : List Bool) (hers : List Str) (od hd : List D) (ρ : DL.Env) : Prop := ∃ a b x16 x19 x20 x21 x22 x23 x24, ρ = LE n r s od hd a b (.val (.tup (txD hers))) x16 x19 x20 x21 x22 x23 x24 ∧ (above r s = true → a = false ∧ b = false)
theorem gset_bind {i : Nat} {d : D} {ρ : DL.Env} {b : DL.Env → T Out} : (gSet i d ρ).bind b = b (ρ.set i (.val d)) := rfl
theorem take_ok {m : T Out} {n : Nat} {r s : List Bool} {hers : List Str} {od hd : List D} {x16 : Slot} {k : Nat} (hk : k + 1 ≤ 1125899906842624)
    (Z : ∃ a' b' y19 y20 y21 y22 y23 y24, m = .take 20 (fun _ => .ret (.nx (LE n r s od hd a' b' (.val (.tup (txD hers))) x16 y19 y20 y21 y22 y23 y24))) ∧ (above r s = true → a' = false ∧ b' = false)) :
    m.ok k fun o k' => k' ≤ k + 1 ∧ ∃ ρ', o = .nx ρ' ∧ J16 n r s hers od hd ρ' := by
  obtain ⟨a', b', y19, y20, y21, y22, y23, y24, e, hab'⟩ := Z
  refine ok_eq e ?_
  exact ⟨by decide, by decide, by show k < 1125899906842624; omega, fun i _ _ => ⟨Nat.le_refl _, _, rfl, a', b', _, y19, y20, y21, y22, y23, y24, rfl, hab'⟩⟩
theorem turn_ok2 {n : Nat} (hn : n ∈ [1, 2, 3, 4]) {hers his : List Str} (h1 : hers ∈ ordsOf n) (h2 : his ∈ ordsOf n) {r s : List Bool} (hr : r.length = n) (hs : s.length = n) {od hd : List D} {ρ : DL.Env} (hρ : J16 n r s hers od hd ρ) {k : Nat} (hk : k + 1 ≤ 1125899906842624) :
    ((gSet 16 (.tup (txD his)) ρ).bind L8b1br1).ok k fun o k' => k' ≤ k + 1 ∧ ∃ ρ', o = .nx ρ' ∧ J16 n r s hers od hd ρ' := by
  rw [gset_bind]
  obtain ⟨a, b, x16, x19, x20, x21, x22, x23, x24, e, hab⟩ := hρ
  have e1 : ρ.set 16 (.val (.tup (txD his))) = LE n r s od hd a b (.val (.tup (txD hers))) (.val (.tup (txD his))) x19 x20 x21 x22 x23 x24 := by rw [e]; rfl
  rw [e1]
  exact take_ok hk (turn_ok hn h1 h2 hr hs hab)
theorem inner_ok {n : Nat} (hn : n ∈ [1, 2, 3, 4]) {hers : List Str} (h1 : hers ∈ ordsOf n) {r s : List Bool} (hr : r.length = n) (hs : s.length = n) {od hd : List D} (hod : ∀ d ∈ od, ∃ his, his ∈ ordsOf n ∧ d = .tup (txD his)) (hl : od.length ≤ 24) {ρ : DL.Env} (hρ : J16 n r s hers od hd ρ) {k : Nat} (hk : k + 24 ≤ 1125899906842624) :
    (L8br1 ρ).ok k fun o k' => k' ≤ k + 24 ∧ ∃ ρ', o = .nx ρ' ∧ J16 n r s hers od hd ρ' := by
  have e : L8br1 ρ = forT (gSet 16) L8b1br1 ρ od := by
    obtain ⟨a, b, x16, x19, x20, x21, x22, x23, x24, rfl, hab⟩ := hρ
    exact for_v rfl rfl
  refine ok_eq e (for_ok (I := J16 n r s hers od hd) (N := 1125899906842624) (c := 1) (ok := fun d => ∃ his, his ∈ ordsOf n ∧ d = .tup (txD his)) ?_ _ ρ k hod hρ (by omega) ?_)
  · rintro d ρ k ⟨his, h2, rfl⟩ hJ hk
    exact turn_ok2 hn h1 h2 hr hs hJ hk
  · intro ρ' k' hJ hk'
    exact ⟨by omega, ρ', rfl, hJ⟩
theorem outer_ok {n : Nat} (hn : n ∈ [1, 2, 3, 4]) {r s : List Bool} (hr : r.length = n) (hs : s.length = n) {od hd : List D} (hod : ∀ d ∈ od, ∃ his, his ∈ ordsOf n ∧ d = .tup (txD his)) (hlo : od.length ≤ 24) (hhd : ∀ d ∈ hd, ∃ hers, hers ∈ ordsOf n ∧ d = .tup (txD hers)) (hl : hd.length ≤ 24) {ρ : DL.Env} (hρ : J7 n r s od hd ρ) {k : Nat} (hk : k + 576 ≤ 1125899906842624) :
    (Ls8 ρ).ok k fun o k' => k' ≤ k + 576 ∧ ∃ ρ', o = .nx ρ' ∧ J7 n r s od hd ρ' := by
  have e : Ls8 ρ = forT (gSet 7) L8br1 ρ hd := by
    obtain ⟨a, b, x7, x16, x19, x20, x21, x22, x23, x24, rfl, hab⟩ := hρ
    exact for_v rfl rfl
  refine ok_eq e (for_ok (I := J7 n r s od hd) (N := 1125899906842624) (c := 24) (ok := fun d => ∃ hers, hers ∈ ordsOf n ∧ d = .tup (txD hers)) ?_ _ ρ k hhd hρ (by omega) ?_)
  · rintro d ρ k ⟨hers, h1, rfl⟩ ⟨a, b, x7, x16, x19, x20, x21, x22, x23, x24, rfl, hab⟩ hk
    have J : J16 n r s hers od hd ((LE n r s od hd a b x7 x16 x19 x20 x21 x22 x23 x24).set 7 (.val (.tup (txD hers)))) := ⟨a, b, x16, x19, x20, x21, x22, x23, x24, rfl, hab⟩
    refine ok_eq (gset_bind (i := 7) (d := .tup (txD hers)) (ρ := LE n r s od hd a b x7 x16 x19 x20 x21 x22 x23 x24) (b := L8br1)) (T.ok_mono (inner_ok hn h1 hr hs hod hlo J (k := k) (by omega)) fun o k' z => ?_)
    obtain ⟨z1, ρ', z2, a', b', y16, y19, y20, y21, y22, y23, y24, z3, z4⟩ := z
    exact ⟨z1, ρ', z2, a', b', _, y16, y19, y20, y21, y22, y23, y24, z3, z4⟩
  · intro ρ' k' hJ hk'
    exact ⟨by omega, ρ', rfl, hJ⟩
/-- behind the heads' draws -/
theorem odM {n : Nat} : ∀ d ∈ (ordsOf n).map txO, ∃ hers, hers ∈ ordsOf n ∧ d = .tup (txD hers) := fun d hd => by
  obtain ⟨o, ho, rfl⟩ := List.mem_map.mp hd
  exact ⟨o, ho, rfl⟩
theorem odL {n : Nat} (hn : n ∈ [1, 2, 3, 4]) : ((ordsOf n).map txO).length ≤ 24 := by
  rw [List.length_map]
  exact of_decide_eq_true (List.all_eq_true.mp len24 n hn)
theorem rest_ok0 {n : Nat} (hn : n ∈ [1, 2, 3, 4]) {r s : List Bool} (hr : r.length = n) (hs : s.length = n) {od hd : List D} (hod : od = (ordsOf n).map txO) (hhd : ∀ d ∈ hd, ∃ hers, hers ∈ ordsOf n ∧ d = .tup (txD hers)) (hl : hd.length ≤ 24) {a b : Slot} {k : Nat} (hk : k + 576 ≤ 1125899906842624) :
    (Lr7 [.no, .val .urn, .val (.int (n : Nat)), .val (.tup (txD (things.take n))), .val (.lst [rowD r, rowD s]), .val (.lst od), .val (.lst hd), .no, .no, .no, .no, .no, .val (TR r), .val (TR s), a, b, .no, .no, .no, .no, .no, .no, .no, .no, .no, .no, .no, .no]).ok k
      fun o _ => o = .rt (.bl true) := by
  have st : Ls7 [.no, .val .urn, .val (.int (n : Nat)), .val (.tup (txD (things.take n))), .val (.lst [rowD r, rowD s]), .val (.lst od), .val (.lst hd), .no, .no, .no, .no, .no, .val (TR r), .val (TR s), a, b, .no, .no, .no, .no, .no, .no, .no, .no, .no, .no, .no, .no] = .ret (.nx (LE n r s od hd false false .no .no .no .no .no .no .no .no)) :=
    unp_v (tup_v (cons_v rfl (cons_v rfl rfl)) (by show 2 ≤ capD; decide)) rfl
  refine ok_seq (ok_eq st ?_)
  show (Lr8 (LE n r s od hd false false .no .no .no .no .no .no .no .no)).ok k _
  refine ok_seq (T.ok_mono (outer_ok hn hr hs (hod ▸ odM) (hod ▸ odL hn) hhd hl ⟨false, false, .no, .no, .no, .no, .no, .no, .no, .no, rfl, fun _ => ⟨rfl, rfl⟩⟩ hk) fun o k' z => ?_)
  obtain ⟨_, ρ', rfl, a, b, x7, x16, x19, x20, x21, x22, x23, x24, rfl, hab⟩ := z
  show (Lr9 _).ok k' _
  subst hod
  exact ok_eq (tail1 hn hr hs hab) rfl
theorem ok_set {i : Nat} {f : DL.Env → T D} {ρ : DL.Env} {n : Nat} {R : Out → Nat → Prop} (h : (f ρ).ok n fun d n' => R (.nx (ρ.set i (.val d))) n') : (sSet i f ρ).ok n R := by
  unfold sSet
  rw [T.ok_bind]
  exact h
theorem ok_ofl {f : DL.Env → T (List D)} {ρ : DL.Env} {n : Nat} {R : D → Nat → Prop} (h : (f ρ).ok n fun d n' => R (.lst d) n') : (fOfL f ρ).ok n R := by
  unfold fOfL
  rw [T.ok_bind]
  exact h
theorem ok_comp {i : DL.Env → T (List D)} {g : D → DL.Env → T DL.Env} {t : DL.Env → T Bool} {f : DL.Env → T D} {vs : List Nat} {ρ : DL.Env} {ds : List D} {n : Nat} {R : List D → Nat → Prop} (h : i ρ = .ret ds) (hl : ds.length < capD) (h2 : (compT g t f (wipeE ρ vs) ds).ok n R) : (fComp i g t f vs ρ).ok n R :=
  ok_eq (fcomp h hl rfl) h2
theorem range_mem {d : D} : ∀ (k : Nat) (lo : Int), d ∈ rangeD lo k → ∃ i, d = .int i
  | 0, lo, h => absurd h List.not_mem_nil
  | k + 1, lo, h => by
    rcases List.mem_cons.mp h with e | e
    · exact ⟨lo, e⟩
    · exact range_mem k _ e
theorem ords_eq {n : Nat} (hn : n ∈ [1, 2, 3, 4]) : F__law_orders [.tup (txD (things.take n))] = .ret (.lst ((ordsOf n).map txO)) := isR_ok (List.all_eq_true.mp ords_fact n hn)
theorem ords_ne : ([1, 2, 3, 4].all fun n => decide (1 ≤ (ordsOf n).length)) = true := by decide +kernel
/-- her lists -/
theorem hers_ok {n : Nat} (hn : n ∈ [1, 2, 3, 4]) {r s : List Bool} (hr : r.length = n) (hs : s.length = n) {k : Nat} (hk : k + 32 ≤ 1125899906842624) {R : Out → Nat → Prop}
    (q : ∀ hd : List D, (∀ d ∈ hd, ∃ hers, hers ∈ ordsOf n ∧ d = .tup (txD hers)) → hd.length ≤ 24 → ∀ k', k' ≤ k + 32 → R (.nx [.no, .val .urn, .val (.int (n : Nat)), .val (.tup (txD (things.take n))), .val (.lst [rowD r, rowD s]), .val (.lst ((ordsOf n).map txO)), .val (.lst hd), .no, .no, .no, .no, .no, .val (TR r), .val (TR s), .no, .no, .no, .no, .no, .no, .no, .no, .no, .no, .no, .no, .no, .no]) k') :
    (Ls6 [.no, .val .urn, .val (.int (n : Nat)), .val (.tup (txD (things.take n))), .val (.lst [rowD r, rowD s]), .val (.lst ((ordsOf n).map txO)), .no, .no, .no, .no, .no, .no, .val (TR r), .val (TR s), .no, .no, .no, .no, .no, .no, .no, .no, .no, .no, .no, .no, .no, .no]).ok k R := by
  have hl := odL hn
  have hmem := odM (n := n)
  refine ok_set ?_
  by_cases c : n < 4
  · refine ok_eq (ifE_t (test_v (op_v rfl rfl (show ltD (.int (n : Nat)) (.int 4) = .ret (.bl true) from ?_))) rfl) (q _ hmem hl k (by omega))
    show T.ret (D.bl (decide ((n : Int) < 4))) = _
    rw [decide_eq_true (by omega)]
  · have e4 : n = 4 := by
      have := n14 hn
      omega
    subst e4
    refine ok_eq (ifE_f (test_v (op_v rfl rfl rfl)) rfl) ?_
    unfold fOp
    rw [T.ok_bind]
    refine ok_ofl (ok_comp (ds := rangeD 0 8) rfl (by decide) (T.ok_mono (comp_ok (c := 4) (N := 1125899906842624) (Q := fun d => ∃ hers, hers ∈ ordsOf 4 ∧ d = .tup (txD hers)) ?_ (by show k + 4 * 8 ≤ _; omega)) fun xs k' z => ?_))
    · intro d hd k hk
      obtain ⟨i, rfl⟩ := range_mem 8 0 hd
      refine ⟨_, rfl, rfl, ?_⟩
      exact ok_eq (afn_v (cons_v (d := .urn) rfl (cons_v (d := .tup (txD (things.take 4))) rfl rfl)) rfl) (list_ok hk)
    · obtain ⟨z1, z2, z3⟩ := z
      have z2' : xs.length = 8 := z2
      have z1' : k' ≤ k + 4 * 8 := z1
      rw [T.ok_bind]
      cases ho : (ordsOf 4).map txO with
      | nil =>
        have := of_decide_eq_true (List.all_eq_true.mp ords_ne 4 hn)
        have l := congrArg List.length ho
        rw [List.length_map] at l
        rw [l] at this
        cases this
      | cons o os =>
        have om : o ∈ (ordsOf 4).map txO := by rw [ho]; exact .head _
        refine ok_eq (ofl_v (lst_v (cons_v (op_v rfl rfl (ix0D o os)) rfl) (by show 1 ≤ capD; decide))) ?_
        have e2 : addD (.lst xs) (.lst [o]) = .ret (.lst (xs ++ [o])) := by
          show (match decide (xs.length + 1 ≤ capD) with | true => T.ret (D.lst (xs ++ [o])) | false => .fail) = _
          rw [z2', decide_eq_true (by decide)]
        show (addD (.lst xs) (.lst [o])).ok k' _
        refine ok_eq e2 ?_
        rw [← ho]
        refine q (xs ++ [o]) (fun d hd => ?_) (by rw [List.length_append, z2']; show 8 + 1 ≤ 24; decide) k' (by omega)
        rcases List.mem_append.mp hd with h | h
        · exact z3 d h
        · rw [List.mem_singleton.mp h]; exact hmem o om
theorem says : DL.Says B_law 26 := by
  refine ⟨by decide, by decide, by decide, fun i i0 i1 => ?_⟩
  have hn : i.toNat + 1 ∈ [1, 2, 3, 4] := by
    have e : ((i.toNat : Nat) : Int) = i := Int.toNat_of_nonneg i0
    have : i.toNat = 0 ∨ i.toNat = 1 ∨ i.toNat = 2 ∨ i.toNat = 3 := by omega
    rcases this with h | h | h | h <;> rw [h] <;> decide
  have en : (1 : Int) + i = ((i.toNat + 1 : Nat) : Int) := by omega
  generalize hN : i.toNat + 1 = n at hn en
  have start : (Lr2 [.no, .val .urn, .val (.int (n : Nat)), .no, .no, .no, .no, .no, .no, .no, .no, .no, .no, .no, .no, .no, .no, .no, .no, .no, .no, .no, .no, .no, .no, .no, .no, .no]).ok 1 fun o _ => o = .rt (.bl true) := by
    have hb := n14 hn
    refine ok_eq (seq_nx (ρ' := [.no, .val .urn, .val (.int (n : Nat)), .val (.tup (txD (things.take n))), .no, .no, .no, .no, .no, .no, .no, .no, .no, .no, .no, .no, .no, .no, .no, .no, .no, .no, .no, .no, .no, .no, .no, .no]) ?_ rfl) ?_
    · have e : slD (.tup (txD things)) none (some ((n : Nat) : Int)) = .ret (.tup (txD (things.take n))) := by
        show T.ret (D.tup (cutD (txD things) none (some ((n : Nat) : Int)))) = _
        rw [cut_take]
        unfold txD
        rw [List.map_take]
      refine (set_v (d := .tup (txD (things.take n))) ?_)
      exact e
    refine ok_seq (ok_set (ok_ofl (ok_comp (ds := rangeD 0 2) rfl (by decide) (T.ok_mono (comp_ok (c := n) (N := 1125899906842624) (Q := fun d => ∃ r, r.length = n ∧ d = rowD r) ?_ (by show 1 + n * 2 ≤ _; omega)) fun xs k z => ?_))))
    · intro d hd k hk
      obtain ⟨i, rfl⟩ := range_mem 2 0 hd
      refine ⟨_, rfl, rfl, ?_⟩
      exact ok_eq (afn_v (cons_v (d := .urn) rfl (cons_v (d := .int (n : Nat)) rfl rfl)) rfl) (heirs_ok hn hk)
    obtain ⟨z1, z2, z3⟩ := z
    have z1' : k ≤ 1 + n * 2 := z1
    have z2' : xs.length = 2 := z2
    match xs, z2', z3 with
    | [x, y], _, z3 =>
      obtain ⟨r, hr, rfl⟩ := z3 x (.head _)
      obtain ⟨s, hs, rfl⟩ := z3 y (.tail _ (.head _))
      have k1 := (row_fact (r := r) (by omega) (by omega)).1
      have k2 := (row_fact (r := s) (by omega) (by omega)).1
      show (Lr4 [.no, .val .urn, .val (.int (n : Nat)), .val (.tup (txD (things.take n))), .val (.lst [rowD r, rowD s]), .no, .no, .no, .no, .no, .no, .no, .no, .no, .no, .no, .no, .no, .no, .no, .no, .no, .no, .no, .no, .no, .no, .no]).ok k _
      refine ok_eq (seq_nx (par_v (afn_v (cons_v (op_v rfl rfl rfl) rfl) k1) (afn_v (cons_v (op_v rfl rfl rfl) rfl) k2)) (seq_nx (set_v (afn_v (cons_v rfl rfl) (ords_eq hn))) rfl)) ?_
      exact ok_seq (hers_ok hn hr hs (k := k) (by omega) fun hd h1 h2 k' hk' => rest_ok0 hn hr hs rfl h1 h2 (by omega))
  rw [← en] at start
  exact start
end LW
end

section
set_option maxRecDepth 100000
open PySem PySem.W PyProof.Rows
set_option maxHeartbeats 0 in
theorem PySem.Challenge.cw_heirturns_k80_main_never_worse_for_all_l_holds : PySem.Challenge.rw_heirturns_k80_main_never_worse_for_all_l.Holds := by
  w_on; o_law; k_head; (case hw => w_witness2)
  k_fill
  refine L2.walk_of (l := PySem.Challenge.rw_heirturns_k80_main_never_worse_for_all_l) (n := 63) (k := 11) (x := "script") (CX := fun _ => C8.CX0) (sp := fun w => DL.spLaw _) rfl (by decide) rfl ⟨rfl, by decide, by decide⟩ (fun w h Y => PySem.W.kIn_of Y) ?F (fun _ _ a ns hl _ hS => ⟨a, ns, rfl, hS, hl, fun _ => rfl⟩) (fun _ _ _ _ _ h => h)
  case F =>
    intro w mg fa h KX G hmg
    refine' LW.all_mk KX G hmg ?a_Turns ?spg_Turns ?sic_Turns ?spo_Turns ?ssa_Turns ?z_abs ?z_all ?z_bool ?z_enumerate ?z_int ?z_isinstance ?z_len ?z_list ?z_max ?z_min ?z_range ?z_set ?z_sorted ?z_str ?z_sum ?z_tuple ?z_zip ?f1_own_ends ?f2_own_ends ?f3_own_ends ?f4_own_ends ?f5_own_ends ?f1_own_runs ?f2_own_runs ?f3_own_runs ?f4_own_runs ?f5_own_runs ?g1_HEIRS_turns ?g2_HEIRS_turns ?g1_HERS ?a__law_of ?l__law_of ?c__law_of ?k__law_of ?a__law_heirs ?l__law_heirs ?c__law_heirs ?k__law_heirs ?a_tupled ?l_tupled ?c_tupled ?k_tupled ?a_joined_runs ?l_joined_runs ?c_joined_runs ?k_joined_runs ?a_ends_of ?l_ends_of ?c_ends_of ?k_ends_of ?m1_Turns_init ?m2_Turns_init ?m3_Turns_init ?m4_Turns_init ?l_Turns_init ?c_Turns_init ?lT_Turns_init ?a_turns_of ?l_turns_of ?c_turns_of ?k_turns_of ?a__law_orders ?l__law_orders ?c__law_orders ?k__law_orders ?a__law_list ?l__law_list ?c__law_list ?k__law_list ?a__law_plain ?l__law_plain ?c__law_plain ?k__law_plain ?a__law_share ?l__law_share ?c__law_share ?k__law_share ?a__law_places ?l__law_places ?c__law_places ?k__law_places ?a__law_worse ?l__law_worse ?c__law_worse ?k__law_worse ?a__law_same ?l__law_same ?c__law_same ?k__law_same ?p1_Turns_size ?p2_Turns_size ?p3_Turns_size ?p4_Turns_size ?l_Turns_size ?c_Turns_size ?a_set_of ?l_set_of ?c_set_of ?k_set_of ?a_check_lists ?l_check_lists ?c_check_lists ?k_check_lists ?p1_Turns_runs ?p2_Turns_runs ?p3_Turns_runs ?p4_Turns_runs ?l_Turns_runs ?c_Turns_runs ?a_heirs ?l_heirs ?c_heirs ?k_heirs ?a_first_of ?l_first_of ?c_first_of ?k_first_of ?a_taken ?l_taken ?c_taken ?k_taken ?a_check_size ?l_check_size ?c_check_size ?k_check_size ?a_shares ?l_shares ?c_shares ?k_shares ?a_worse_at ?l_worse_at ?c_worse_at ?k_worse_at ?a__law_above ?l__law_above ?c__law_above ?k__law_above ?a_begins ?l_begins ?c_begins ?k_begins ?p1_Turns_hers ?p2_Turns_hers ?p3_Turns_hers ?p4_Turns_hers ?l_Turns_hers ?c_Turns_hers ?p1_Turns_ends ?p2_Turns_ends ?p3_Turns_ends ?p4_Turns_ends ?l_Turns_ends ?c_Turns_ends ?a_place_of ?l_place_of ?c_place_of ?k_place_of ?a_turn_of ?l_turn_of ?c_turn_of ?k_turn_of ?a_ways_later ?l_ways_later ?c_ways_later ?k_ways_later ?a_against ?l_against ?c_against ?k_against ?a_never_worse ?l_never_worse ?c_never_worse ?k_never_worse ?a_corners ?l_corners ?c_corners ?k_corners ?a_ahead ?l_ahead ?c_ahead ?k_ahead ?a_is_above ?l_is_above ?c_is_above ?k_is_above ?a__law_turns ?l__law_turns ?c__law_turns ?k__law_turns ?a_swapped ?l_swapped ?c_swapped ?k_swapped ?a_most_worse ?l_most_worse ?c_most_worse ?k_most_worse ?a_law ?l_law ?c_law ?k_law ?a__law_box ?l__law_box ?c__law_box ?k__law_box ?a__law_cells ?l__law_cells ?c__law_cells ?k__law_cells ?a__law_take ?l__law_take ?c__law_take ?k__law_take LW.says
    (case a_Turns => k_is); (case spg_Turns => k_is); (case sic_Turns => k_is); (case spo_Turns => k_is); (case ssa_Turns => k_is); (case z_abs => k_is); (case z_all => k_is); (case z_bool => k_is); (case z_enumerate => k_is); (case z_int => k_is); (case z_isinstance => k_is); (case z_len => k_is); (case z_list => k_is); (case z_max => k_is); (case z_min => k_is); (case z_range => k_is); (case z_set => k_is); (case z_sorted => k_is); (case z_str => k_is); (case z_sum => k_is); (case z_tuple => k_is); (case z_zip => k_is); (case f1_own_ends => k_is); (case f2_own_ends => k_is); (case f3_own_ends => k_is); (case f4_own_ends => k_is); (case f5_own_ends => k_is); (case f1_own_runs => k_is); (case f2_own_runs => k_is); (case f3_own_runs => k_is); (case f4_own_runs => k_is); (case f5_own_runs => k_is); (case g1_HEIRS_turns => k_is); (case g2_HEIRS_turns => k_is); (case g1_HERS => k_is); (case a__law_of => k_is); (case l__law_of => k_is); (case c__law_of => k_is); (case k__law_of => k_is); (case a__law_heirs => k_is); (case l__law_heirs => k_is); (case c__law_heirs => k_is); (case k__law_heirs => k_is); (case a_tupled => k_is); (case l_tupled => k_is); (case c_tupled => k_is); (case k_tupled => k_is); (case a_joined_runs => k_is); (case l_joined_runs => k_is); (case c_joined_runs => k_is); (case k_joined_runs => k_is); (case a_ends_of => k_is); (case l_ends_of => k_is); (case c_ends_of => k_is); (case k_ends_of => k_is); (case m1_Turns_init => k_is); (case m2_Turns_init => k_is); (case m3_Turns_init => k_is); (case m4_Turns_init => k_is); (case l_Turns_init => k_is); (case c_Turns_init => k_is); (case lT_Turns_init => k_is); (case a_turns_of => k_is); (case l_turns_of => k_is); (case c_turns_of => k_is); (case k_turns_of => k_is); (case a__law_orders => k_is); (case l__law_orders => k_is); (case c__law_orders => k_is); (case k__law_orders => k_is); (case a__law_list => k_is); (case l__law_list => k_is); (case c__law_list => k_is); (case k__law_list => k_is); (case a__law_plain => k_is); (case l__law_plain => k_is); (case c__law_plain => k_is); (case k__law_plain => k_is); (case a__law_share => k_is); (case l__law_share => k_is); (case c__law_share => k_is); (case k__law_share => k_is); (case a__law_places => k_is); (case l__law_places => k_is); (case c__law_places => k_is); (case k__law_places => k_is); (case a__law_worse => k_is); (case l__law_worse => k_is); (case c__law_worse => k_is); (case k__law_worse => k_is); (case a__law_same => k_is); (case l__law_same => k_is); (case c__law_same => k_is); (case k__law_same => k_is); (case p1_Turns_size => k_is); (case p2_Turns_size => k_is); (case p3_Turns_size => k_is); (case p4_Turns_size => k_is); (case l_Turns_size => k_is); (case c_Turns_size => k_is); (case a_set_of => k_is); (case l_set_of => k_is); (case c_set_of => k_is); (case k_set_of => k_is); (case a_check_lists => k_is); (case l_check_lists => k_is); (case c_check_lists => k_is); (case k_check_lists => k_is); (case p1_Turns_runs => k_is); (case p2_Turns_runs => k_is); (case p3_Turns_runs => k_is); (case p4_Turns_runs => k_is); (case l_Turns_runs => k_is); (case c_Turns_runs => k_is); (case a_heirs => k_is); (case l_heirs => k_is); (case c_heirs => k_is); (case k_heirs => k_is); (case a_first_of => k_is); (case l_first_of => k_is); (case c_first_of => k_is); (case k_first_of => k_is); (case a_taken => k_is); (case l_taken => k_is); (case c_taken => k_is); (case k_taken => k_is); (case a_check_size => k_is); (case l_check_size => k_is); (case c_check_size => k_is); (case k_check_size => k_is); (case a_shares => k_is); (case l_shares => k_is); (case c_shares => k_is); (case k_shares => k_is); (case a_worse_at => k_is); (case l_worse_at => k_is); (case c_worse_at => k_is); (case k_worse_at => k_is); (case a__law_above => k_is); (case l__law_above => k_is); (case c__law_above => k_is); (case k__law_above => k_is); (case a_begins => k_is); (case l_begins => k_is); (case c_begins => k_is); (case k_begins => k_is); (case p1_Turns_hers => k_is); (case p2_Turns_hers => k_is); (case p3_Turns_hers => k_is); (case p4_Turns_hers => k_is); (case l_Turns_hers => k_is); (case c_Turns_hers => k_is); (case p1_Turns_ends => k_is); (case p2_Turns_ends => k_is); (case p3_Turns_ends => k_is); (case p4_Turns_ends => k_is); (case l_Turns_ends => k_is); (case c_Turns_ends => k_is); (case a_place_of => k_is); (case l_place_of => k_is); (case c_place_of => k_is); (case k_place_of => k_is); (case a_turn_of => k_is); (case l_turn_of => k_is); (case c_turn_of => k_is); (case k_turn_of => k_is); (case a_ways_later => k_is); (case l_ways_later => k_is); (case c_ways_later => k_is); (case k_ways_later => k_is); (case a_against => k_is); (case l_against => k_is); (case c_against => k_is); (case k_against => k_is); (case a_never_worse => k_is); (case l_never_worse => k_is); (case c_never_worse => k_is); (case k_never_worse => k_is); (case a_corners => k_is); (case l_corners => k_is); (case c_corners => k_is); (case k_corners => k_is); (case a_ahead => k_is); (case l_ahead => k_is); (case c_ahead => k_is); (case k_ahead => k_is); (case a_is_above => k_is); (case l_is_above => k_is); (case c_is_above => k_is); (case k_is_above => k_is); (case a__law_turns => k_is); (case l__law_turns => k_is); (case c__law_turns => k_is); (case k__law_turns => k_is); (case a_swapped => k_is); (case l_swapped => k_is); (case c_swapped => k_is); (case k_swapped => k_is); (case a_most_worse => k_is); (case l_most_worse => k_is); (case c_most_worse => k_is); (case k_most_worse => k_is); (case a_law => k_is); (case l_law => k_is); (case c_law => k_is); (case k_law => k_is); (case a__law_box => k_is); (case l__law_box => k_is); (case c__law_box => k_is); (case k__law_box => k_is); (case a__law_cells => k_is); (case l__law_cells => k_is); (case c__law_cells => k_is); (case k__law_cells => k_is); (case a__law_take => k_is); (case l__law_take => k_is); (case c__law_take => k_is); (case k__law_take => k_is)
end
