import PyProof.Rows.All
import HandS.ForMost
import HandS.Walk
import HandS.Conv
import KE.GoesNew
import KE.GoesMore
import HandS.Star
import HandS.Codes
import HandS.SlotsOwn
import HandS.TupAny
import KE.KDictCopyH
import KE.SortData
import HandS.Set
import HandS.SetFor
import HandS.IsInst
import KE.DataFind
import HandS.TryOnly
import KE.KDictZip
import KE.GoesZip
import HandS.Iter
import HandS.Flow
import HandS.Defaults
import HandS.Style
import KE.KRevSl
import PySem.Challenge.RW_heirturns_k96_whole_each_turn_so_many_ti
set_option Elab.async false
set_option linter.all false
section
set_option maxRecDepth 100000
set_option maxHeartbeats 4000000
/-! DR: further rules over the machine: enumerate and zip of lists and tuples in any mix. -/
namespace DR
open PySem PySem.Spec PyProof.Rows L2
open Sem (wp)

theorem meets_enum1 {v : Value} {o : Obj} {H : Heap → Prop} (B : Begins v o H) :
    Meets (Builtin.«enumerate.__new__» ⟨[.type "enumerate", v], []⟩) (fun _ R s => H s.heap ∧
      R (.ok (.ret (.ref (s.heap.push o).objs.size))) { s with heap := (s.heap.push o).push { cls := .type "enumerate", data := .fields #[.none, .bool false, .ref s.heap.objs.size, rawInt 0, .none, .none] } }) :=
  .of_wp fun prog w A R s h => by
    obtain ⟨hp, g, d, tk, os⟩ := s; obtain ⟨h1, h⟩ := h
    have hsub := sub_enumerate
    have q1 : ∀ {A' : Around} {E : Value → Shared → Prop} {Q : Value → Shared → Prop}, Q (.ref hp.objs.size) ⟨hp.push o, g, d, tk, os⟩ → wpAny (model prog w) A' (pyIter v) Q E ⟨hp, g, d, tk, os⟩ :=
      fun q => B.iter prog w _ _ ⟨hp, g, d, tk, os⟩ _ h1 q
    wp_walk using q1
    refine wpAny_stack_any fun st => wpAny_pure ?_
    split
    · rename_i c _ _ _ _ _
      cases (c == Value.type "enumerate")
      · wp_walk using q1
        exact ⟨_, rfl, h⟩
      · wp_walk using q1
        exact ⟨_, rfl, h⟩
    · wp_walk using q1
      exact ⟨_, rfl, h⟩
section
variable {prog : Program} {w : World} {A : Around} {E : Value → Shared → Prop} {s : Shared}
theorem enum_begins1 {v : Value} {o : Obj} {H : Heap → Prop} {Q : Value → Shared → Prop} (B : Begins v o H) (h1 : H s.heap)
    (h : ∀ h', IsEnum h' (s.heap.objs.size + 1) s.heap.objs.size 0 .none → h'.get? s.heap.objs.size = some o → h'.objs.size = s.heap.objs.size + 2 →
      (∀ b o, s.heap.get? b = some o → h'.get? b = some o) → Q (.ref (s.heap.objs.size + 1)) { s with heap := h' }) :
    wpAny (model prog w) A (call (.type "enumerate") [v]) Q E s := by
  refine callType_new F.called_enumerate (by decide) (F.typeCall_enumerate_1 _) (F.newCall_enumerate_1 _) (fun obj => F.args_object_init_2 obj _) F.entry_enumerate_new
    (meets_enum1 B) ⟨h1, ?_⟩
  have hz : (s.heap.push o).objs.size = s.heap.objs.size + 1 := Heap.size_push ..
  show _ ∧ _
  rw [hz]
  have he : IsEnum ((s.heap.push o).push { cls := .type "enumerate", data := .fields #[.none, .bool false, .ref s.heap.objs.size, rawInt 0, .none, .none] }) (s.heap.objs.size + 1) s.heap.objs.size 0 .none := by
    have := Heap.get?_push_size (s.heap.push o) (o := { cls := .type "enumerate", data := .fields #[.none, .bool false, .ref s.heap.objs.size, rawInt 0, .none, .none] }) rfl
    rw [hz] at this; exact this
  refine ⟨⟨_, he, rfl⟩, h _ he (Heap.get?_push_of_some _ (Heap.get?_push_size _ B.free)) (by rw [Heap.size_push, hz]) fun b o x => Heap.get?_push_of_some _ (Heap.get?_push_of_some _ x)⟩
end

/-! ### a list or a tuple -/
def SqK (K : PySem.W.Frag) : Bool → Hp → Addr → List V → Prop
  | true, H, a, xs => SqT K H a xs
  | false, H, a, xs => SqL K H a xs
def IsK : Bool → Heap → Addr → Array Value → Prop
  | true, h, a, its => h.IsTuple a its
  | false, h, a, its => h.IsList a its
def ItK : Bool → Heap → Addr → Addr → Nat → Prop
  | true, h, it, a, i => h.IsTupleIter it a i
  | false, h, it, a, i => h.IsListIter it a i
def itObj : Bool → Addr → Obj
  | true, a => { cls := .type "tuple_iterator", data := .fields #[.ref a, .int 0 0] }
  | false, a => { cls := .type "list_iterator", data := .fields #[.ref a, .int 0 0] }
theorem begins_K (k : Bool) (a : Addr) (its : Array Value) : Begins (.ref a) (itObj k a) fun h => IsK k h a its := by
  cases k
  · exact begins_list a its
  · exact begins_tuple a its
theorem itK_new {k : Bool} {h : Heap} {it a : Addr} (e : h.get? it = some (itObj k a)) : ItK k h it a 0 := by
  cases k
  · exact ⟨_, e, rfl, rfl⟩
  · exact ⟨_, e, rfl, rfl⟩
theorem ItK.at {k : Bool} {h h' : Heap} {it a : Addr} {i : Nat} (x : ItK k h it a i) (e : ∀ o, h.get? it = some o → h'.get? it = some o) : ItK k h' it a i := by
  cases k
  · exact Heap.IsListIter.at x e
  · exact Heap.IsTupleIter.at x e
theorem ItK.obj {k : Bool} {h : Heap} {it a : Addr} {i : Nat} (x : ItK k h it a i) : ∃ o, h.get? it = some o ∧ ∀ v, o.data ≠ .cell v := by
  cases k
  · obtain ⟨o, e, c, d⟩ := x
    exact ⟨o, e, fun v z => by rw [d] at z; cases z⟩
  · obtain ⟨o, e, c, d⟩ := x
    exact ⟨o, e, fun v z => by rw [d] at z; cases z⟩
theorem ItK.ne {k : Bool} {h : Heap} {it a b : Addr} {i : Nat} {its : Array Value} {k' : Bool} (x : ItK k h it a i) (y : IsK k' h b its) : b ≠ it := by
  rintro rfl
  cases k <;> cases k' <;>
  · obtain ⟨o, e, c, d⟩ := x
    obtain ⟨o', e', c', d'⟩ := y
    rw [e] at e'
    have e2 := Option.some.inj e'
    subst e2
    rw [c] at c'
    injection c' with q
    exact absurd q (by decide)
theorem draws_K {prog : Program} {w : World} {A : Around} (hh : A.handled = none) (k : Bool) (it a : Addr) (hne : a ≠ it) (items : Array Value) :
    Draws prog w A it [it, a] items.size (fun i v => items[i]? = some v) (fun i h => ItK k h it a i ∧ IsK k h a items) := by
  cases k
  · exact Draws.list hh it a hne items
  · exact Draws.tuple hh it a hne items
section
variable {X : Cx} {pins : List (Addr × Obj)} {σ : L2.St} {H : Hp} {s : Shared} {a : Addr} {xs : List V}
theorem inv_K {k : Bool} (I : Inv X pins σ H s) (h : SqK X.K k H a xs) : ∃ its : List Value, Vals xs its ∧ IsK k s.heap a its.toArray := by
  cases k
  · obtain ⟨its, r, p, _⟩ := I.list h
    exact ⟨its, r, p.isList⟩
  · obtain ⟨its, r, p, _⟩ := I.tuple h
    exact ⟨its, r, p⟩
end

/-! ### enumerate -/
def ItE (K : PySem.W.Frag) (k : Bool) (a : Addr) (xs : List V) (c : Int) : It :=
  ⟨fun i H => i < xs.length ∧ SqK K k H a xs, fun i H v H' => ∃ T x, v = .ref T ∧ H T = none ∧ H' = upd H T (.tup [.int (c + (i : Int)), x]) ∧ xs[i]? = some x,
    fun i H => xs.length ≤ i ∧ SqK K k H a xs⟩
theorem turn_E {P : Program} {w : World} {K : PySem.W.Frag} {elts : List Expr} {kk : Nat} {tpos : Pos} (k : Bool) (a e it : Addr) (xs : List V) (c : Int) :
    Turn P w K (.Tuple elts kk tpos) (ItE K k a xs c) [e, it] e (fun i h => i ≤ xs.length ∧ (∃ old, IsEnum h e it (c + (i : Int)) old) ∧ ItK k h it a i ∧ e ≠ it) where
  mem := by simp
  obj := fun i h st b hb => by
    obtain ⟨_, ⟨old, he⟩, hi, _⟩ := st
    have e' : b = e ∨ b = it := by simpa using hb
    rcases e' with z | z
    · rw [z]; exact ⟨_, he, fun v q => nomatch q⟩
    · rw [z]; exact hi.obj
  keep := fun i h h' st kp => by
    obtain ⟨hl, ⟨old, he⟩, hi, hne⟩ := st
    exact ⟨hl, ⟨old, kp e (by simp) _ he⟩, hi.at fun o q => kp it (by simp) o q, hne⟩
  item := by
    intro X hP hw hK hc i pins s σ H E I hf st hg
    subst hP hw hK
    obtain ⟨_, ⟨old, he⟩, hi, hne⟩ := st
    obtain ⟨hlt, hq⟩ := hg
    obtain ⟨its, rv, p⟩ := inv_K I hq
    have hl := rv.length
    have nit : a ≠ it := hi.ne p
    have ne_e : a ≠ e := by
      rintro rfl
      cases k <;>
      · obtain ⟨o, q, cc, d⟩ := p
        have he : s.heap.get? _ = some _ := he
        rw [he] at q
        have e2 := Option.some.inj q
        subst e2
        injection cc with q
        exact absurd q (by decide)
    have hh : X.A.in1.handled = none := I.ok.hd hc
    have G := GoesN.enumFrom (elts := elts) (x1 := kk) (pos := tpos) c (draws_K (prog := X.prog) (w := X.w) hh k it a nit its.toArray) e hne (by simp; exact ⟨hne, Ne.symm ne_e⟩) (by simp)
    have hlt' : i < its.toArray.size := by rw [List.size_toArray, ← hl]; exact hlt
    refine G.goes i s _ _ hlt' ⟨⟨old, he⟩, hi, p⟩ fun v h' tk hY st' hk htk => ?_
    obtain ⟨T, t, x, rfl, hT, hx, hTup⟩ := hY
    obtain ⟨y, hy1⟩ : ∃ y, xs[i]? = some y := ⟨xs[i], List.getElem?_eq_getElem hlt⟩
    obtain ⟨u, hu, ru⟩ := rv.get hy1
    have exu : u = x := by
      have : its[i]? = some x := by simpa using hx
      rw [hu] at this
      exact Option.some.inj this
    subst exu
    have new : ObjOk X.prog X.w (upd H T (.tup [.int (c + (i : Int)), y])) h' T (.tup [.int (c + (i : Int)), y]) :=
      ⟨by show 2 ≤ sizeLine; decide, [.int (c + (i : Int)) t, u], .cons ⟨_, rfl⟩ (.cons ru .nil), hTup⟩
    have I1 : Inv X pins σ (upd H T (.tup [.int (c + (i : Int)), y])) { s with heap := h', toks := tk } := I.turnedNew (ch := [e, it]) hk hf hT new
    obtain ⟨⟨old', he'⟩, hi', _⟩ := st'
    refine ⟨.ref T, _, I1, rfl, ⟨T, y, rfl, I.hok.fresh hT, rfl, hy1⟩, ⟨hlt, ⟨old', he'⟩, hi', hne⟩, fun b hb => ?_⟩
    have hb' : b < s.heap.objs.size := by
      have e' : b = e ∨ b = it := by simpa using hb
      rcases e' with z | z
      · rw [z]; exact Heap.lt_size he
      · rw [z]; obtain ⟨o, q, _⟩ := hi.obj; exact Heap.lt_size q
    rw [upd_ne (Nat.ne_of_lt (Nat.lt_of_lt_of_le hb' hT))]
    exact (hf b hb).1
  done := by
    intro X hP hw hK hc i pins s σ H E I hf st hg
    subst hP hw hK
    obtain ⟨hle, ⟨old, he⟩, hi, hne⟩ := st
    obtain ⟨hge, hq⟩ := hg
    obtain ⟨its, rv, p⟩ := inv_K I hq
    have hl := rv.length
    have nit : a ≠ it := hi.ne p
    have ne_e : a ≠ e := by
      rintro rfl
      cases k <;>
      · obtain ⟨o, q, cc, d⟩ := p
        have he : s.heap.get? _ = some _ := he
        rw [he] at q
        have e2 := Option.some.inj q
        subst e2
        injection cc with q
        exact absurd q (by decide)
    have hh : X.A.in1.handled = none := I.ok.hd hc
    have G := GoesN.enumFrom (elts := elts) (x1 := kk) (pos := tpos) c (draws_K (prog := X.prog) (w := X.w) hh k it a nit its.toArray) e hne (by simp; exact ⟨hne, Ne.symm ne_e⟩) (by simp)
    have ei : i = its.toArray.size := by rw [List.size_toArray, ← hl]; omega
    subst ei
    refine G.stops s _ _ ⟨⟨old, he⟩, hi, p⟩ fun h' tk hk htk => ?_
    exact I.turnedL (ch := [e, it]) hk hf
  self := fun A i s Q E st h => by
    obtain ⟨_, ⟨_, he⟩, _⟩ := st
    exact wpAny_pyIter_enum he h
def iEn (K : PySem.W.Frag) (te : TE) (c : Int) : TI := fun σ H R => te σ H fun x H1 => ∃ k a xs, x = .ref a ∧ SqK K k H1 a xs ∧ R (ItE K k a xs c) H1
theorem pi_en {X : Cx} {e : Expr} {te : TE} {p pos tpos : Pos} {elts : List Expr} {kk : Nat} (hg : Gl X "enumerate") (hm : X.mg "enumerate" = none) (he : PE X e te)
    (na : starEach [e] X.env = (false, eval e X.env) :: starEach [] X.env := by rfl) :
    PI X (.Tuple elts kk tpos) (.Call (.Name "enumerate" p) [e] [] pos) (iEn X.K te 0) := by
  refine ⟨fun pins s σ H R I h => ?_⟩
  refine Call_ (ld_blt I hg hm boot_enumerate (PyProof.Rows.callWith_type1 (one_arg he I h (fun v s1 x H1 I1 r q => ?_) na) na rfl))
  obtain ⟨k, a, xs, rfl, hq, q⟩ := q
  obtain rfl : v = .ref a := r
  obtain ⟨its, rv, p'⟩ := inv_K I1 hq
  refine enum_begins1 (begins_K k a its.toArray) p' fun h' he hit hsz hk => wpAny_pyIter_enum he ?_
  have I2 : Inv X pins σ H1 { s1 with heap := h' } := I1.kept (t' := s1.toks) hk
  refine ⟨s1.heap.objs.size + 1, [s1.heap.objs.size + 1, s1.heap.objs.size], _, _, H1, rfl, I2, turn_E k a (s1.heap.objs.size + 1) s1.heap.objs.size xs 0, ⟨Nat.zero_le _, ⟨.none, he⟩, itK_new hit, Nat.succ_ne_self _⟩, fun b hb => ?_, q⟩
  have e' : b = s1.heap.objs.size + 1 ∨ b = s1.heap.objs.size := by simpa using hb
  have hle : s1.heap.objs.size ≤ b := by
    rcases e' with z | z
    · rw [z]; exact Nat.le_add_right _ _
    · rw [z]; exact Nat.le_refl _
  exact I1.fpOk hle (I1.hok.fresh hle)

/-! ### zip -/
theorem src_ne {X : Cx} {pins : List (Addr × Obj)} {σ : L2.St} {H : Hp} {s : Shared} {a b : Addr} {xs : List V} {k : Bool} (I : Inv X pins σ H s) (h : SqK X.K k H a xs) (f : FpOk X pins H b) : a ≠ b := by
  have base : ∀ o, X.K.lookup a = some o → a ≠ b := fun o e z => by
    have q := I.mod.kin a o e
    rcases f.2.2.2.1 with w | w
    · exact I.ok.noex a o q (z ▸ w)
    · have h1 := Heap.lt_size q
      have h2 := I.ok.bsz
      have h3 : X.s_0.heap.objs.size ≤ a := by rw [z]; exact w
      exact absurd (Nat.lt_of_lt_of_le h1 (Nat.le_trans h2 h3)) (Nat.lt_irrefl _)
  have rd : ∀ u, Rd H a u → a ≠ b := fun u r z => by
    have q := f.1
    rcases r with r | ⟨o, r⟩ <;> (rw [z, q] at r; cases r)
  cases k
  · rcases h with h | ⟨o, _, _, e, _⟩
    · exact rd _ h
    · exact base o e
  · rcases h with h | ⟨o, _, _, e, _⟩
    · exact rd _ h
    · exact base o e
def ItZ (K : PySem.W.Frag) (k : Bool) (a : Addr) (xs : List V) (k' : Bool) (b : Addr) (ys : List V) : It :=
  ⟨fun i H => i < xs.length ∧ i < ys.length ∧ SqK K k H a xs ∧ SqK K k' H b ys, fun i H v H' => ∃ T x y, v = .ref T ∧ H T = none ∧ H' = upd H T (.tup [x, y]) ∧ xs[i]? = some x ∧ ys[i]? = some y,
    fun i H => min xs.length ys.length ≤ i ∧ SqK K k H a xs ∧ SqK K k' H b ys⟩
structure ZipA (z TI TO i1 i2 : Addr) : Prop where
  TIz : TI ≠ z
  TOz : TO ≠ z
  TITO : TI ≠ TO
  TIi1 : TI ≠ i1
  TIi2 : TI ≠ i2
  z1 : z ≠ i1
  z2 : z ≠ i2
  T1 : TO ≠ i1
  T2 : TO ≠ i2
  i12 : i1 ≠ i2
theorem turn_Z {P : Program} {w : World} {K : PySem.W.Frag} {elts : List Expr} {kk : Nat} {tpos : Pos} (k : Bool) (a : Addr) (xs : List V) (k' : Bool) (b : Addr) (ys : List V) {z TI TO i1 i2 : Addr} (D : ZipA z TI TO i1 i2) :
    Turn P w K (.Tuple elts kk tpos) (ItZ K k a xs k' b ys) [z, TI, TO, i1, i2] z
      (fun i h => i ≤ min xs.length ys.length ∧ IsZip h z TI TO .none ∧ IsTupOf2 h TI (.ref i1) (.ref i2) ∧ (∃ a1 a2, IsTupOf2 h TO a1 a2) ∧ ItK k h i1 a i ∧ ItK k' h i2 b i) where
  mem := by simp
  obj := fun i h st c hc => by
    obtain ⟨_, hz, hTI, ⟨x, y, hTO⟩, h1, h2⟩ := st
    have e' : c = z ∨ c = TI ∨ c = TO ∨ c = i1 ∨ c = i2 := by simpa using hc
    rcases e' with q | q | q | q | q
    · rw [q]; exact ⟨_, hz, fun v q => nomatch q⟩
    · rw [q]; exact ⟨_, hTI, fun v q => nomatch q⟩
    · rw [q]; exact ⟨_, hTO, fun v q => nomatch q⟩
    · rw [q]; exact h1.obj
    · rw [q]; exact h2.obj
  keep := fun i h h' st kp => by
    obtain ⟨hl, hz, hTI, ⟨x, y, hTO⟩, h1, h2⟩ := st
    exact ⟨hl, kp z (by simp) _ hz, kp TI (by simp) _ hTI, ⟨x, y, kp TO (by simp) _ hTO⟩, h1.at fun o q => kp i1 (by simp) o q, h2.at fun o q => kp i2 (by simp) o q⟩
  item := by
    intro X hP hw hK hc i pins s σ H E I hf st hg
    subst hP hw hK
    obtain ⟨_, hz, hTI, ⟨x0, y0, hTO⟩, h1, h2⟩ := st
    obtain ⟨lt1, lt2, hqx, hqy⟩ := hg
    obtain ⟨its, rv, p⟩ := inv_K I hqx
    obtain ⟨its2, rv2, p2⟩ := inv_K I hqy
    have l1 := rv.length
    have l2 := rv2.length
    have na : ∀ c, c ∈ [z, TI, TO, i1, i2] → a ≠ c := fun c hc => src_ne I hqx (hf c hc)
    have nb : ∀ c, c ∈ [z, TI, TO, i1, i2] → b ≠ c := fun c hc => src_ne I hqy (hf c hc)
    have hh : X.A.in1.handled = none := I.ok.hd hc
    have S : ZipSep2 z TI TO i1 i2 [i1, a] [i2, b] :=
      { TIz := D.TIz, TOz := D.TOz, TITO := D.TITO, TIi1 := D.TIi1, mem1 := by simp, zf1 := by simp; exact ⟨D.z1, Ne.symm (na z (by simp))⟩, Tf1 := by simp; exact ⟨D.T1, Ne.symm (na TO (by simp))⟩,
        TIi2 := D.TIi2, mem2 := by simp, zf2 := by simp; exact ⟨D.z2, Ne.symm (nb z (by simp))⟩, Tf2 := by simp; exact ⟨D.T2, Ne.symm (nb TO (by simp))⟩,
        sep1_2 := by simp; exact ⟨D.i12, Ne.symm (nb i1 (by simp))⟩, sep2_1 := by simp; exact ⟨Ne.symm D.i12, Ne.symm (na i2 (by simp))⟩ }
    have G := GoesN.zip2 (elts := elts) (x1 := kk) (pos := tpos) S (draws_K (prog := X.prog) (w := X.w) hh k i1 a (na i1 (by simp)) its.toArray) (draws_K (prog := X.prog) (w := X.w) hh k' i2 b (nb i2 (by simp)) its2.toArray)
    have hlt' : i < min its.toArray.size its2.toArray.size := by rw [List.size_toArray, List.size_toArray, ← l1, ← l2]; omega
    refine G.goes i s _ _ hlt' ⟨hz, hTI, ⟨_, _, hTO⟩, ⟨h1, p⟩, h2, p2⟩ fun v h' tk hY st' hk htk => ?_
    obtain ⟨T, x, y, rfl, hT, hx, hy, hTup⟩ := hY
    obtain ⟨x', hx1⟩ : ∃ y, xs[i]? = some y := ⟨xs[i], List.getElem?_eq_getElem lt1⟩
    obtain ⟨y', hy1⟩ : ∃ y, ys[i]? = some y := ⟨ys[i], List.getElem?_eq_getElem lt2⟩
    obtain ⟨u, hu, ru⟩ := rv.get hx1
    obtain ⟨u2, hu2, ru2⟩ := rv2.get hy1
    have exu : u = x := by
      have : its[i]? = some x := by simpa using hx
      rw [hu] at this
      exact Option.some.inj this
    have eyu : u2 = y := by
      have : its2[i]? = some y := by simpa using hy
      rw [hu2] at this
      exact Option.some.inj this
    subst exu eyu
    have new : ObjOk X.prog X.w (upd H T (.tup [x', y'])) h' T (.tup [x', y']) := ⟨by show 2 ≤ sizeLine; decide, [u, u2], .cons ru (.cons ru2 .nil), hTup⟩
    have hk' : ∀ c o, c ∉ [z, TI, TO, i1, i2] → s.heap.get? c = some o → h'.get? c = some o := fun c o hc q => hk c o (fun m => hc (by
      have e' : c = z ∨ c = TO ∨ c = i1 ∨ c = i2 := by simpa using m
      rcases e' with q | q | q | q <;> simp [q])) q
    have I1 : Inv X pins σ (upd H T (.tup [x', y'])) { s with heap := h', toks := tk } := I.turnedNew (ch := [z, TI, TO, i1, i2]) hk' hf hT new
    obtain ⟨hz', hTI', hTO', ⟨h1', _⟩, h2', _⟩ := st'
    refine ⟨.ref T, _, I1, rfl, ⟨T, x', y', rfl, I.hok.fresh hT, rfl, hx1, hy1⟩, ⟨by show i + 1 ≤ min xs.length ys.length; omega, hz', hTI', hTO', h1', h2'⟩, fun c hcm => ?_⟩
    have hlt : c < s.heap.objs.size := by
      have e' : c = z ∨ c = TI ∨ c = TO ∨ c = i1 ∨ c = i2 := by simpa using hcm
      rcases e' with q | q | q | q | q
      · rw [q]; exact Heap.lt_size hz
      · rw [q]; exact Heap.lt_size hTI
      · rw [q]; exact Heap.lt_size hTO
      · rw [q]; obtain ⟨_, e1, _⟩ := h1.obj; exact Heap.lt_size e1
      · rw [q]; obtain ⟨_, e2, _⟩ := h2.obj; exact Heap.lt_size e2
    rw [upd_ne (Nat.ne_of_lt (Nat.lt_of_lt_of_le hlt hT))]
    exact (hf c hcm).1
  done := by
    intro X hP hw hK hc i pins s σ H E I hf st hg
    subst hP hw hK
    obtain ⟨hle, hz, hTI, ⟨x0, y0, hTO⟩, h1, h2⟩ := st
    obtain ⟨hge, hqx, hqy⟩ := hg
    obtain ⟨its, rv, p⟩ := inv_K I hqx
    obtain ⟨its2, rv2, p2⟩ := inv_K I hqy
    have l1 := rv.length
    have l2 := rv2.length
    have na : ∀ c, c ∈ [z, TI, TO, i1, i2] → a ≠ c := fun c hc => src_ne I hqx (hf c hc)
    have nb : ∀ c, c ∈ [z, TI, TO, i1, i2] → b ≠ c := fun c hc => src_ne I hqy (hf c hc)
    have hh : X.A.in1.handled = none := I.ok.hd hc
    have S : ZipSep2 z TI TO i1 i2 [i1, a] [i2, b] :=
      { TIz := D.TIz, TOz := D.TOz, TITO := D.TITO, TIi1 := D.TIi1, mem1 := by simp, zf1 := by simp; exact ⟨D.z1, Ne.symm (na z (by simp))⟩, Tf1 := by simp; exact ⟨D.T1, Ne.symm (na TO (by simp))⟩,
        TIi2 := D.TIi2, mem2 := by simp, zf2 := by simp; exact ⟨D.z2, Ne.symm (nb z (by simp))⟩, Tf2 := by simp; exact ⟨D.T2, Ne.symm (nb TO (by simp))⟩,
        sep1_2 := by simp; exact ⟨D.i12, Ne.symm (nb i1 (by simp))⟩, sep2_1 := by simp; exact ⟨Ne.symm D.i12, Ne.symm (na i2 (by simp))⟩ }
    have G := GoesN.zip2 (elts := elts) (x1 := kk) (pos := tpos) S (draws_K (prog := X.prog) (w := X.w) hh k i1 a (na i1 (by simp)) its.toArray) (draws_K (prog := X.prog) (w := X.w) hh k' i2 b (nb i2 (by simp)) its2.toArray)
    have ei : i = min its.toArray.size its2.toArray.size := by rw [List.size_toArray, List.size_toArray, ← l1, ← l2]; omega
    subst ei
    refine G.stops s _ _ ⟨hz, hTI, ⟨_, _, hTO⟩, ⟨h1, p⟩, h2, p2⟩ fun h' tk hk htk => ?_
    exact I.turnedL (ch := [z, TI, TO, i1, i2]) (fun c o hc q => hk c o (fun m => hc (by
      have e' : c = z ∨ c = TO ∨ c = i1 ∨ c = i2 := by simpa using m
      rcases e' with q | q | q | q <;> simp [q])) q) hf
  self := fun A i s Q E st h => wpAny_pyIter_zip st.2.1 h
def iZp (K : PySem.W.Frag) (te tf : TE) : TI := fun σ H R => te σ H fun x H1 => tf σ H1 fun y H2 => ∃ k a xs k' b ys, x = .ref a ∧ y = .ref b ∧ SqK K k H2 a xs ∧ SqK K k' H2 b ys ∧ R (ItZ K k a xs k' b ys) H2
theorem pi_zp {X : Cx} {e e2 : Expr} {te tf : TE} {p pos tpos : Pos} {elts : List Expr} {kk : Nat} (hg : Gl X "zip") (hm : X.mg "zip" = none) (he : PE X e te) (he2 : PE X e2 tf)
    (hs : starEach [e, e2] X.env = (false, eval e X.env) :: starEach [e2] X.env := by rfl) (hs2 : starEach [e2] X.env = (false, eval e2 X.env) :: starEach [] X.env := by rfl) (hpl : (backTo pos (starEach [e2] X.env)).any (·.1) = false := by rfl) :
    PI X (.Tuple elts kk tpos) (.Call (.Name "zip" p) [e, e2] [] pos) (iZp X.K te tf) := by
  refine ⟨fun pins s σ H R I h => ?_⟩
  refine Call_ (ld_blt I hg hm PyProof.Rows.boot_zip (PyProof.Rows.callWith_type1 (args_cons (thn (he.run pins s σ H _ I h) fun v s1 ⟨x, H1, I1, r1, q1⟩ => args_cons (thn (he2.run pins s1 σ H1 _ I1 q1) fun v2 s2 ⟨y, H2, I2, r2, q2⟩ => args_nil ?_) hs2) hs) hs hpl))
  obtain ⟨k, a, xs, k', b, ys, rfl, rfl, hqx, hqy, q⟩ := q2
  obtain rfl : v = .ref a := r1
  obtain rfl : v2 = .ref b := r2
  obtain ⟨its, rv, p1⟩ := inv_K I2 hqx
  obtain ⟨its2, rv2, p2⟩ := inv_K I2 hqy
  refine zip_begins2 (begins_K k a its.toArray) (begins_K k' b its2.toArray) p1 p2 fun h' hz hTI hTO h1 h2 hsz hk => wpAny_pyIter_zip hz ?_
  have I3 : Inv X pins σ H2 { s2 with heap := h' } := I2.kept (t' := s2.toks) hk
  have D : ZipA (s2.heap.objs.size + 4) (s2.heap.objs.size + 2) (s2.heap.objs.size + 3) s2.heap.objs.size (s2.heap.objs.size + 1) := by
    constructor <;> (show (_ : Nat) ≠ _; omega)
  refine ⟨_, [s2.heap.objs.size + 4, s2.heap.objs.size + 2, s2.heap.objs.size + 3, s2.heap.objs.size, s2.heap.objs.size + 1], _, _, H2, rfl, I3, turn_Z k a xs k' b ys D, ⟨Nat.zero_le _, hz, hTI, ⟨_, _, hTO⟩, itK_new h1, itK_new h2⟩, fun c hc => ?_, q⟩
  have hle : s2.heap.objs.size ≤ c := by
    have e' : c = s2.heap.objs.size + 4 ∨ c = s2.heap.objs.size + 2 ∨ c = s2.heap.objs.size + 3 ∨ c = s2.heap.objs.size ∨ c = s2.heap.objs.size + 1 := by simpa using hc
    rcases e' with z | z | z | z | z <;> rw [z]
    · exact Nat.le_add_right _ _
    · exact Nat.le_add_right _ _
    · exact Nat.le_add_right _ _
    · exact Nat.le_refl _
    · exact Nat.le_add_right _ _
  exact I2.fpOk hle (I2.hok.fresh hle)

/-! ### a list or a tuple -/
def ItS (K : PySem.W.Frag) (k : Bool) (a : Addr) : It := match k with
  | true => Itt K a
  | false => Itl K a
def iSq (K : PySem.W.Frag) (te : TE) : TI := fun σ H R => te σ H fun x H1 => ∃ k a xs, x = .ref a ∧ SqK K k H1 a xs ∧ R (ItS K k a) H1
theorem pi_sq {X : Cx} {tg e : Expr} {te : TE} (he : PE X e te) : PI X tg e (iSq X.K te) := by
  refine ⟨fun pins s σ H R I h => ?_⟩
  refine thn (he.run pins s σ H _ I h) fun v s1 ⟨x, H1, I1, r1, q1⟩ => ?_
  obtain ⟨k, a, xs, rfl, hq, q⟩ := q1
  obtain rfl : v = .ref a := r1
  obtain ⟨its, rv, p'⟩ := inv_K I1 hq
  refine (begins_K k a its.toArray).iter _ _ _ _ _ _ p' ?_
  have I2 : Inv X pins σ H1 { s1 with heap := s1.heap.push (itObj k a) } := I1.kept (t' := s1.toks) fun b o e => Heap.get?_push_of_some _ e
  have fp : ∀ b ∈ [s1.heap.objs.size], FpOk X pins H1 b := fun b hb => by
    have : b = s1.heap.objs.size := by simpa using hb
    subst this
    exact I1.fpOk (Nat.le_refl _) (I1.hok.fresh (Nat.le_refl _))
  cases k
  · exact ⟨s1.heap.objs.size, [s1.heap.objs.size], _, _, H1, rfl, I2, turn_list a _, ⟨_, Heap.get?_push_size _ rfl, rfl, rfl⟩, fp, q⟩
  · exact ⟨s1.heap.objs.size, [s1.heap.objs.size], _, _, H1, rfl, I2, turn_tuple a _, ⟨_, Heap.get?_push_size _ rfl, rfl, rfl⟩, fp, q⟩
end DR
end

section
set_option maxRecDepth 100000
set_option maxHeartbeats 2000000
/-! DLa: deep values, the monad of draws, what a value stands for in a heap. -/
namespace DL
open PySem PySem.Spec PyProof.Rows L2

/-- deep values -/
inductive D where
  | non | bl (b : Bool) | int (i : Int) | str (x : Str)
  | lst (xs : List D) | tup (xs : List D)
  | obj (c : Nat) (fs : List D)
  | dic (ks : List D) (vs : List D)
  | urn
  /-- a pair that enumerate, zip give -/
  | pr (x y : D)

/-- computations: a result, a failure (nothing is claimed then), or a draw from 0 to m - 1 -/
inductive T (α : Type) where
  | ret (a : α) | fail | take (m : Int) (k : Int → T α)
def T.bind {α β : Type} : T α → (α → T β) → T β
  | .ret a, f => f a
  | .fail, _ => .fail
  | .take m k, f => .take m fun r => (k r).bind f
instance : Monad T where
  pure := T.ret
  bind := T.bind
@[simp] theorem T.bind_ret {α β : Type} (a : α) (f : α → T β) : (T.ret a).bind f = f a := rfl
@[simp] theorem T.bind_fail {α β : Type} (f : α → T β) : (T.fail : T α).bind f = .fail := rfl
@[simp] theorem T.bind_take {α β : Type} (m : Int) (k : Int → T α) (f : α → T β) : (T.take m k).bind f = .take m fun r => (k r).bind f := rfl
theorem T.bind_assoc {α β γ : Type} (m : T α) (f : α → T β) (g : β → T γ) : (m.bind f).bind g = m.bind fun a => (f a).bind g := by
  induction m with
  | ret a => rfl
  | fail => rfl
  | take m k ih => simp only [T.bind_take, ih]
theorem T.bind_ret_right {α : Type} (m : T α) : m.bind T.ret = m := by
  induction m with
  | ret a => rfl
  | fail => rfl
  | take m k ih => simp only [T.bind_take, ih]
/-- all ways end, with what R says; n counts the draws -/
def T.ok {α : Type} : T α → Nat → (α → Nat → Prop) → Prop
  | .ret a, n, R => R a n
  | .fail, _, _ => False
  | .take m k, n, R => 0 < m ∧ m < 1073741824 ∧ n < 2 ^ 50 ∧ ∀ r : Int, 0 ≤ r → r < m → (k r).ok (n + 1) R
theorem T.ok_mono {α : Type} {m : T α} : ∀ {n : Nat} {R R' : α → Nat → Prop}, m.ok n R → (∀ a k, R a k → R' a k) → m.ok n R' := by
  induction m with
  | ret a => intro n R R' h q; exact q _ _ h
  | fail => intro n R R' h q; exact h
  | take m k ih => intro n R R' h q; exact ⟨h.1, h.2.1, h.2.2.1, fun r h0 h1 => ih r (h.2.2.2 r h0 h1) q⟩
theorem T.ok_bind {α β : Type} {m : T α} {f : α → T β} : ∀ {n : Nat} {R : β → Nat → Prop}, (m.bind f).ok n R ↔ m.ok n fun a k => (f a).ok k R := by
  induction m with
  | ret a => intro n R; exact Iff.rfl
  | fail => intro n R; exact Iff.rfl
  | take m k ih =>
    intro n R
    constructor
    · rintro ⟨a, b, c, h⟩
      exact ⟨a, b, c, fun r h0 h1 => (ih r).mp (h r h0 h1)⟩
    · rintro ⟨a, b, c, h⟩
      exact ⟨a, b, c, fun r h0 h1 => (ih r).mpr (h r h0 h1)⟩

/-! ### heaps -/
/-- what stood stands, but for the urn -/
def ExU (u : Addr) (H H' : Hp) : Prop := ∀ a o, a ≠ u → H a = some o → H' a = some o
theorem ExU.refl (u : Addr) (H : Hp) : ExU u H H := fun _ _ _ h => h
theorem ExU.trans {u : Addr} {H H1 H2 : Hp} (a : ExU u H H1) (b : ExU u H1 H2) : ExU u H H2 := fun x o n h => b x o n (a x o n h)
theorem ExU.new {u : Addr} {H : Hp} {p : Addr} {o : HO} (h : H p = none) : ExU u H (upd H p o) := fun a w _ e => by
  rw [upd_ne (ne_of_none e h)]
  exact e
theorem ExU.free {u : Addr} {H H' : Hp} (e : ExU u H H') {p : Addr} (hu : p ≠ u) (h : H' p = none) : H p = none := by
  cases q : H p with
  | none => rfl
  | some o =>
    rw [e p o hu q] at h
    cases h
open Classical in
/-- the heap without P -/
noncomputable def Msk (P : Addr → Prop) (H : Hp) : Hp := fun a => if P a then none else H a
theorem msk_in {P : Addr → Prop} {H : Hp} {a : Addr} (h : ¬ P a) : Msk P H a = H a := by unfold Msk; rw [if_neg h]
theorem msk_some {P : Addr → Prop} {H : Hp} {a : Addr} {o : HO} : Msk P H a = some o ↔ ¬ P a ∧ H a = some o := by
  unfold Msk
  by_cases h : P a
  · rw [if_pos h]; simp [h]
  · rw [if_neg h]; simp [h]
/-- G' has all that G has -/
def Sub (G G' : Hp) : Prop := ∀ a o, G a = some o → G' a = some o
theorem Sub.refl (G : Hp) : Sub G G := fun _ _ h => h
theorem Sub.trans {G G1 G2 : Hp} (a : Sub G G1) (b : Sub G1 G2) : Sub G G2 := fun x o h => b x o (a x o h)
theorem Sub.msk {P : Addr → Prop} {u : Addr} {H H' : Hp} (hu : P u) (e : ExU u H H') : Sub (Msk P H) (Msk P H') := fun a o h => by
  obtain ⟨h1, h2⟩ := msk_some.mp h
  exact msk_some.mpr ⟨h1, e a o (fun z => h1 (z ▸ hu)) h2⟩
theorem Sub.less {P P' : Addr → Prop} {H : Hp} (h : ∀ a, P' a → P a) : Sub (Msk P H) (Msk P' H) := fun a o q => by
  obtain ⟨h1, h2⟩ := msk_some.mp q
  exact msk_some.mpr ⟨fun z => h1 (h a z), h2⟩
theorem Sub.of_msk {P : Addr → Prop} {H : Hp} : Sub (Msk P H) H := fun a o q => (msk_some.mp q).2

theorem sub_rd {G G' : Hp} {a : Addr} {u : HO} (e : Sub G G') (h : Rd G a u) : Rd G' a u := by
  rcases h with h | ⟨o, h⟩
  · exact Or.inl (e a _ h)
  · exact Or.inr ⟨o, e a _ h⟩
theorem sub_l {K : PySem.W.Frag} {G G' : Hp} {a : Addr} {xs : List V} (e : Sub G G') (h : SqL K G a xs) : SqL K G' a xs := by
  rcases h with h | h
  · exact Or.inl (sub_rd e h)
  · exact Or.inr h
theorem sub_t {K : PySem.W.Frag} {G G' : Hp} {a : Addr} {xs : List V} (e : Sub G G') (h : SqT K G a xs) : SqT K G' a xs := by
  rcases h with h | h
  · exact Or.inl (sub_rd e h)
  · exact Or.inr h

/-! ### a tuple whose object has no dict -/
def SqN (K : PySem.W.Frag) (G : Hp) (a : Addr) (xs : List V) : Prop := (∃ o : Obj, o.dict = none ∧ G a = some (.frz o (.tup xs))) ∨
  ∃ (o : Obj) (its : Array Value) (n : Nat), o.dict = none ∧ K.lookup a = some o ∧ o.cls = .type "tuple" ∧ o.data = .seq its n ∧ its.size ≤ sizeLine ∧ Vals xs its.toList
theorem SqN.sq {K : PySem.W.Frag} {G : Hp} {a : Addr} {xs : List V} (h : SqN K G a xs) : SqT K G a xs := by
  rcases h with ⟨o, _, h⟩ | ⟨o, its, n, _, h⟩
  · exact .inl (.inr ⟨o, h⟩)
  · exact .inr ⟨o, its, n, h⟩
theorem sub_n {K : PySem.W.Frag} {G G' : Hp} {a : Addr} {xs : List V} (e : Sub G G') (h : SqN K G a xs) : SqN K G' a xs := by
  rcases h with ⟨o, h1, h⟩ | h
  · exact .inl ⟨o, h1, e _ _ h⟩
  · exact .inr h
/-! ### what a value stands for -/
structure Ct where
  K : PySem.W.Frag
  u : Addr
  cls : Nat → Addr
  me : Addr

mutual
inductive Rep (c : Ct) (G : Hp) : V → D → Prop
  | non : Rep c G .non .non
  | bl (b : Bool) : Rep c G (.bl b) (.bl b)
  | int (i : Int) : Rep c G (.int i) (.int i)
  | str (x : Str) : Rep c G (.str x) (.str x)
  | lst {a : Addr} {xs : List V} {ds : List D} : G a = some (.lst xs) → Reps c G xs ds → Rep c G (.ref a) (.lst ds)
  | tup {a : Addr} {xs : List V} {ds : List D} : SqN c.K G a xs → Reps c G xs ds → Rep c G (.ref a) (.tup ds)
  | pr {a : Addr} {x y : V} {d e : D} : SqT c.K G a [x, y] → Rep c G x d → Rep c G y e → Rep c G (.ref a) (.pr d e)
  | obj {a dx : Addr} {k : Nat} {xs : List V} {ds : List D} : SlX.Slt G a (c.cls k) dx (xs.map some) → Reps c G xs ds → Rep c G (.ref a) (.obj k ds)
  | urn : Rep c G (.ref c.u) .urn
inductive Reps (c : Ct) (G : Hp) : List V → List D → Prop
  | nil : Reps c G [] []
  | cons {v : V} {vs : List V} {d : D} {ds : List D} : Rep c G v d → Reps c G vs ds → Reps c G (v :: vs) (d :: ds)
end

theorem sub_slt {G G' : Hp} {a C dx : Addr} {vs : List (Option V)} (e : Sub G G') (h : SlX.Slt G a C dx vs) : SlX.Slt G' a C dx vs := by
  rcases h with ⟨h1, h2⟩ | ⟨h1, h2⟩
  · exact .inl ⟨e _ _ h1, h2⟩
  · exact .inr ⟨e _ _ h1, e _ _ h2⟩
mutual
theorem Rep.sub {c : Ct} {G G' : Hp} {v : V} {d : D} (e : Sub G G') : Rep c G v d → Rep c G' v d
  | .non => .non
  | .bl b => .bl b
  | .int i => .int i
  | .str x => .str x
  | .lst h r => .lst (e _ _ h) (Reps.sub e r)
  | .tup h r => .tup (sub_n e h) (Reps.sub e r)
  | .pr h r1 r2 => .pr (sub_t e h) (Rep.sub e r1) (Rep.sub e r2)
  | .obj h r => .obj (sub_slt e h) (Reps.sub e r)
  | .urn => .urn
theorem Reps.sub {c : Ct} {G G' : Hp} {vs : List V} {ds : List D} (e : Sub G G') : Reps c G vs ds → Reps c G' vs ds
  | .nil => .nil
  | .cons h r => .cons (Rep.sub e h) (Reps.sub e r)
end
theorem Reps.length {c : Ct} {G : Hp} : ∀ {vs : List V} {ds : List D}, Reps c G vs ds → vs.length = ds.length
  | _, _, .nil => rfl
  | _, _, .cons _ r => by rw [List.length_cons, List.length_cons, Reps.length r]
theorem Reps.append {c : Ct} {G : Hp} : ∀ {vs ws : List V} {ds es : List D}, Reps c G vs ds → Reps c G ws es → Reps c G (vs ++ ws) (ds ++ es)
  | _, _, _, _, .nil, s => s
  | _, _, _, _, .cons h r, s => .cons h (Reps.append r s)
theorem Reps.one {c : Ct} {G : Hp} {v : V} {d : D} (h : Rep c G v d) : Reps c G [v] [d] := .cons h .nil
theorem Reps.get {c : Ct} {G : Hp} : ∀ {vs : List V} {ds : List D} {i : Nat} {d : D}, Reps c G vs ds → ds[i]? = some d → ∃ v, vs[i]? = some v ∧ Rep c G v d
  | _, _, _, _, .nil, h => by simp at h
  | _, _, 0, d, .cons h r, e => ⟨_, rfl, by have : _ = d := Option.some.inj e; exact this ▸ h⟩
  | _, _, i + 1, d, .cons h r, e => Reps.get (i := i) r e
theorem Reps.getV {c : Ct} {G : Hp} : ∀ {vs : List V} {ds : List D} {i : Nat} {v : V}, Reps c G vs ds → vs[i]? = some v → ∃ d, ds[i]? = some d ∧ Rep c G v d
  | _, _, _, _, .nil, h => by simp at h
  | _, _, 0, v, .cons h r, e => ⟨_, rfl, by have : _ = v := Option.some.inj e; exact this ▸ h⟩
  | _, _, i + 1, v, .cons h r, e => Reps.getV (i := i) r e
theorem Reps.take {c : Ct} {G : Hp} : ∀ (n : Nat) {vs : List V} {ds : List D}, Reps c G vs ds → Reps c G (vs.take n) (ds.take n)
  | 0, _, _, _ => by simp; exact .nil
  | n + 1, _, _, .nil => .nil
  | n + 1, _, _, .cons h r => .cons h (Reps.take n r)
theorem Reps.drop {c : Ct} {G : Hp} : ∀ (n : Nat) {vs : List V} {ds : List D}, Reps c G vs ds → Reps c G (vs.drop n) (ds.drop n)
  | 0, _, _, r => r
  | n + 1, _, _, .nil => .nil
  | n + 1, _, _, .cons h r => Reps.drop n r
theorem Reps.set {c : Ct} {G : Hp} {v : V} {d : D} (h : Rep c G v d) : ∀ (n : Nat) {vs : List V} {ds : List D}, Reps c G vs ds → Reps c G (vs.set n v) (ds.set n d)
  | _, _, _, .nil => .nil
  | 0, _, _, .cons _ r => .cons h r
  | n + 1, _, _, .cons k r => .cons k (Reps.set h n r)
theorem Reps.eraseIdx {c : Ct} {G : Hp} : ∀ (n : Nat) {vs : List V} {ds : List D}, Reps c G vs ds → Reps c G (vs.eraseIdx n) (ds.eraseIdx n)
  | _, _, _, .nil => .nil
  | 0, _, _, .cons _ r => r
  | n + 1, _, _, .cons k r => .cons k (Reps.eraseIdx n r)
theorem Reps.reverse {c : Ct} {G : Hp} : ∀ {vs : List V} {ds : List D}, Reps c G vs ds → Reps c G vs.reverse ds.reverse
  | _, _, .nil => .nil
  | _, _, .cons h r => by
    rw [List.reverse_cons, List.reverse_cons]
    exact (Reps.reverse r).append (.one h)

/-! ### the state at an expression -/
inductive Slot where
  | no | val (d : D)
  /-- a list of the frame's own; an instance within its __init__ -/
  | own (d : D)
  /-- the instance whose __init__ this is -/
  | me
abbrev Env := List Slot

/-- the urn at u, at most n draws behind it -/
def UrnAt (u : Addr) (H : Hp) (n : Nat) : Prop := ∃ a b e : Int, H u = some (.lst [.int a, .int b, .int e]) ∧ 0 ≤ a ∧ 0 ≤ b ∧ b < 2 ^ 62 ∧ 0 ≤ e ∧ e ≤ n

structure Ok (c : Ct) (P : Addr → Prop) (H : Hp) (n : Nat) : Prop where
  urn : UrnAt c.u H n
  pu : P c.u
  dom : ∀ a, P a → H a ≠ none
theorem Ok.exu {c : Ct} {P P' : Addr → Prop} {H H' : Hp} {n n' : Nat} (o : Ok c P H n) (o' : Ok c P' H' n') (e : ExU c.u H H') : Ok c P H' n' :=
  ⟨o'.urn, o.pu, fun a h => by
    by_cases z : a = c.u
    · rw [z]; exact o'.dom _ o'.pu
    · cases q : H a with
      | none => exact absurd q (o.dom a h)
      | some w => rw [e a w z q]; simp⟩
theorem Ok.new {c : Ct} {P : Addr → Prop} {H : Hp} {n : Nat} {p : Addr} {w : HO} (o : Ok c P H n) (h : H p = none) : Ok c P (upd H p w) n := by
  have nu : c.u ≠ p := by
    obtain ⟨a, b, e, h1, _⟩ := o.urn
    exact ne_of_none h1 h
  refine ⟨?_, o.pu, fun a ha => ?_⟩
  · obtain ⟨a, b, e, h1, h2⟩ := o.urn
    exact ⟨a, b, e, by rw [upd_ne nu]; exact h1, h2⟩
  · by_cases z : a = p
    · rw [z, upd_same]; simp
    · rw [upd_ne z]; exact o.dom a ha
theorem Ok.np {c : Ct} {P : Addr → Prop} {H : Hp} {n : Nat} {p : Addr} (o : Ok c P H n) (h : H p = none) : ¬ P p := fun z => o.dom p z h
theorem Ok.nu {c : Ct} {P : Addr → Prop} {H : Hp} {n : Nat} {p : Addr} (o : Ok c P H n) (h : H p = none) : p ≠ c.u := fun z => o.np h (z ▸ o.pu)
/-- one more address set apart -/
theorem Ok.more {c : Ct} {P : Addr → Prop} {H : Hp} {n : Nat} {p : Addr} (o : Ok c P H n) (h : H p ≠ none) : Ok c (fun a => P a ∨ a = p) H n :=
  ⟨o.urn, .inl o.pu, fun a ha => by
    rcases ha with z | z
    · exact o.dom a z
    · rw [z]; exact h⟩
theorem Ok.less {c : Ct} {P P' : Addr → Prop} {H : Hp} {n : Nat} (o : Ok c P H n) (h : ∀ a, P' a → P a) (hu : P' c.u) : Ok c P' H n := ⟨o.urn, hu, fun a ha => o.dom a (h a ha)⟩

/-- what stands at the address of a local list, of an instance within its __init__ -/
def OwnAt (c : Ct) (P : Addr → Prop) (H : Hp) (a : Addr) : D → Prop
  | .lst ds => ∃ xs, H a = some (.lst xs) ∧ Reps c (Msk P H) xs ds
  | .obj k fs => ∃ (dx : Addr) (xs : List (Option V)), P dx ∧ dx ≠ c.u ∧ dx ≠ a ∧ (H dx = some (.own a) ∨ H dx = some (.xd [])) ∧ SlX.Slt H a (c.cls k) dx xs ∧
      ∀ (i : Nat) (d : D), fs[i]? = some d → d = .urn ∨ ∃ w, xs[i]? = some (some w) ∧ Rep c (Msk P H) w d
  | _ => False
def SlotAt (c : Ct) (P : Addr → Prop) (H : Hp) (x : Option (Option V)) : Slot → Prop
  | .no => True
  | .val d => ∃ v, x = some (some v) ∧ Rep c (Msk P H) v d
  | .own d => ∃ a, x = some (some (.ref a)) ∧ P a ∧ a ≠ c.u ∧ OwnAt c P H a d
  | .me => x = some (some (.ref c.me))
structure EnvR (c : Ct) (P : Addr → Prop) (H : Hp) (σ : L2.St) (ρ : Env) : Prop where
  len : ρ.length = σ.length
  at_ : ∀ (i : Nat) (s : Slot), ρ[i]? = some s → SlotAt c P H σ[i]? s

theorem slt_exu {u : Addr} {H H' : Hp} {a C dx : Addr} {vs : List (Option V)} (e : ExU u H H') (n1 : a ≠ u) (n2 : dx ≠ u) (h : SlX.Slt H a C dx vs) : SlX.Slt H' a C dx vs := by
  rcases h with ⟨h1, h2⟩ | ⟨h1, h2⟩
  · exact .inl ⟨e _ _ n1 h1, h2⟩
  · exact .inr ⟨e _ _ n1 h1, e _ _ n2 h2⟩
/-- what the dict of an instance within its __init__ is -/
def DxH (H : Hp) (b : Addr) : Prop := (∃ x, H b = some (.own x)) ∨ H b = some (.xd [])
/-- what stands apart stays, and the part that is not apart grows -/
theorem OwnAt.move {c : Ct} {P P' : Addr → Prop} {H H' : Hp} {a : Addr} {d : D} (h : OwnAt c P H a d) (na : a ≠ c.u) (sub : Sub (Msk P H) (Msk P' H')) (ka : ∀ w, H a = some w → H' a = some w)
    (kx : ∀ b w, P b → b ≠ c.u → DxH H b → H b = some w → H' b = some w) (px : ∀ b, P b → DxH H b → P' b) : OwnAt c P' H' a d := by
  cases d with
  | lst ds =>
    obtain ⟨xs, h1, h2⟩ := h
    exact ⟨xs, ka _ h1, h2.sub sub⟩
  | obj k fs =>
    obtain ⟨dx, xs, h1, h2, h3, h4, h5, h6⟩ := h
    have dh : DxH H dx := h4.elim (fun z => .inl ⟨_, z⟩) .inr
    refine ⟨dx, xs, px dx h1 dh, h2, h3, h4.elim (fun z => .inl (kx _ _ h1 h2 dh z)) (fun z => .inr (kx _ _ h1 h2 dh z)), ?_, fun i d q => ?_⟩
    · rcases h5 with ⟨q1, q2⟩ | ⟨q1, q2⟩
      · exact .inl ⟨ka _ q1, q2⟩
      · exact .inr ⟨ka _ q1, kx _ _ h1 h2 dh q2⟩
    · rcases h6 i d q with z | ⟨w, w1, w2⟩
      · exact .inl z
      · exact .inr ⟨w, w1, w2.sub sub⟩
  | _ => exact h.elim
theorem OwnAt.exu {c : Ct} {P : Addr → Prop} {H H' : Hp} {a : Addr} {d : D} (hu : P c.u) (pa : P a) (na : a ≠ c.u) (e : ExU c.u H H') (h : OwnAt c P H a d) : OwnAt c P H' a d :=
  h.move na (Sub.msk hu e) (fun w hb => e a w na hb) (fun b w _ nb _ hb => e b w nb hb) fun b hb _ => hb
/-- what stands where a list or an instance of the frame's own stands is no such dict -/
theorem OwnAt.kind {c : Ct} {P : Addr → Prop} {H : Hp} {a : Addr} {d : D} (h : OwnAt c P H a d) : ¬ DxH H a := by
  cases d with
  | lst ds =>
    obtain ⟨xs, h1, h2⟩ := h
    rintro (⟨x, z⟩ | z) <;> (rw [h1] at z; cases z)
  | obj k fs =>
    obtain ⟨dx, xs, h1, h2, h3, h4, h5, h6⟩ := h
    rcases h5 with ⟨q1, q2⟩ | ⟨q1, q2⟩
    · rintro (⟨x, z⟩ | z) <;> (rw [q1] at z; cases z)
    · unfold SlX.SlO at q1
      rintro (⟨x, z⟩ | z) <;> (rw [q1] at z; cases z)
  | _ => exact h.elim
theorem SlotAt.exu {c : Ct} {P : Addr → Prop} {H H' : Hp} {x : Option (Option V)} {s : Slot} (hu : P c.u) (e : ExU c.u H H') (h : SlotAt c P H x s) : SlotAt c P H' x s := by
  cases s with
  | no => trivial
  | me => exact h
  | val d =>
    obtain ⟨v, h1, h2⟩ := h
    exact ⟨v, h1, h2.sub (Sub.msk hu e)⟩
  | own d =>
    obtain ⟨a, h1, h2, h3, h4⟩ := h
    exact ⟨a, h1, h2, h3, h4.exu hu h2 h3 e⟩
theorem EnvR.exu {c : Ct} {P : Addr → Prop} {H H' : Hp} {σ : L2.St} {ρ : Env} (hu : P c.u) (e : ExU c.u H H') (h : EnvR c P H σ ρ) : EnvR c P H' σ ρ := ⟨h.len, fun i s q => (h.at_ i s q).exu hu e⟩

/-! ### judgements on readings -/
/-- a value: all of it apart from P -/
def EvE (c : Ct) (te : TE) (F : Env → T D) : Prop := ∀ (σ : L2.St) (H : Hp) (P : Addr → Prop) (ρ : Env) (n : Nat) (R : D → Nat → Prop), Ok c P H n → EnvR c P H σ ρ → (F ρ).ok n R →
  ∀ Q : VK, (∀ v H' d n', R d n' → ExU c.u H H' → Ok c P H' n' → Rep c (Msk P H') v d → Q v H') → te σ H Q
/-- a new list -/
def EvL (c : Ct) (te : TE) (F : Env → T (List D)) : Prop := ∀ (σ : L2.St) (H : Hp) (P : Addr → Prop) (ρ : Env) (n : Nat) (R : List D → Nat → Prop), Ok c P H n → EnvR c P H σ ρ → (F ρ).ok n R →
  ∀ Q : VK, (∀ p xs H' ds n', R ds n' → ExU c.u H H' → Ok c P H' n' → H p = none → H' p = some (.lst xs) → Reps c (Msk (fun a => P a ∨ a = p) H') xs ds → Q (.ref p) H') → te σ H Q
/-- a value; if it is a list, its items alone are apart from P -/
def RepX (c : Ct) (P : Addr → Prop) (H : Hp) (v : V) (d : D) : Prop := Rep c (Msk P H) v d ∨ ∃ a xs ds, v = .ref a ∧ a ≠ c.u ∧ d = .lst ds ∧ H a = some (.lst xs) ∧ Reps c (Msk P H) xs ds
def EvX (c : Ct) (te : TE) (F : Env → T D) : Prop := ∀ (σ : L2.St) (H : Hp) (P : Addr → Prop) (ρ : Env) (n : Nat) (R : D → Nat → Prop), Ok c P H n → EnvR c P H σ ρ → (F ρ).ok n R →
  ∀ Q : VK, (∀ v H' d n', R d n' → ExU c.u H H' → Ok c P H' n' → RepX c P H' v d → Q v H') → te σ H Q
def EvT (c : Ct) (tt : TT) (F : Env → T Bool) : Prop := ∀ (σ : L2.St) (H : Hp) (P : Addr → Prop) (ρ : Env) (n : Nat) (R : Bool → Nat → Prop), Ok c P H n → EnvR c P H σ ρ → (F ρ).ok n R →
  ∀ Q : Bool → Hp → Prop, (∀ b H' n', R b n' → ExU c.u H H' → Ok c P H' n' → Q b H') → tt σ H Q
def EvA (c : Ct) (ta : TA) (F : Env → T (List D)) : Prop := ∀ (σ : L2.St) (H : Hp) (P : Addr → Prop) (ρ : Env) (n : Nat) (R : List D → Nat → Prop), Ok c P H n → EnvR c P H σ ρ → (F ρ).ok n R →
  ∀ Q : List V → Hp → Prop, (∀ vs H' ds n', R ds n' → ExU c.u H H' → Ok c P H' n' → Reps c (Msk P H') vs ds → Q vs H') → ta σ H Q

theorem RepX.exu {c : Ct} {P : Addr → Prop} {H H' : Hp} {v : V} {d : D} (hu : P c.u) (e : ExU c.u H H') (h : RepX c P H v d) : RepX c P H' v d := by
  rcases h with h | ⟨a, xs, ds, h1, h2, h3, h4, h5⟩
  · exact .inl (h.sub (Sub.msk hu e))
  · exact .inr ⟨a, xs, ds, h1, h2, h3, e _ _ h2 h4, h5.sub (Sub.msk hu e)⟩
theorem RepX.lst {c : Ct} {P : Addr → Prop} {H : Hp} {v : V} {ds : List D} (h : RepX c P H v (.lst ds)) : ∃ a xs, v = .ref a ∧ H a = some (.lst xs) ∧ Reps c (Msk P H) xs ds := by
  rcases h with h | ⟨a, xs, es, h1, h2, h3, h4, h5⟩
  · cases h with
    | lst h r => exact ⟨_, _, rfl, Sub.of_msk _ _ h, r⟩
  · cases h3
    exact ⟨a, xs, h1, h4, h5⟩
theorem RepX.tup {c : Ct} {P : Addr → Prop} {H : Hp} {v : V} {ds : List D} (h : RepX c P H v (.tup ds)) : ∃ a xs, v = .ref a ∧ SqN c.K H a xs ∧ Reps c (Msk P H) xs ds := by
  rcases h with h | ⟨a, xs, es, h1, h2, h3, h4, h5⟩
  · cases h with
    | tup h r => exact ⟨_, _, rfl, sub_n Sub.of_msk h, r⟩
  · cases h3
/-- a sequence: its items -/
def seqD : D → Option (List D)
  | .lst ds => some ds
  | .tup ds => some ds
  | _ => none
theorem RepX.seq {c : Ct} {P : Addr → Prop} {H : Hp} {v : V} {d : D} {ds : List D} (h : RepX c P H v d) (e : seqD d = some ds) : ∃ a xs, v = .ref a ∧ (SqL c.K H a xs ∨ SqT c.K H a xs) ∧ Reps c (Msk P H) xs ds := by
  cases d with
  | lst es =>
    cases e
    obtain ⟨a, xs, h1, h2, h3⟩ := h.lst
    exact ⟨a, xs, h1, .inl (.of h2), h3⟩
  | tup es =>
    cases e
    obtain ⟨a, xs, h1, h2, h3⟩ := h.tup
    exact ⟨a, xs, h1, .inr h2.sq, h3⟩
  | _ => cases e
theorem EvE.x {c : Ct} {te : TE} {F : Env → T D} (h : EvE c te F) : EvX c te F := fun σ H P ρ n R o er ok Q q => h σ H P ρ n R o er ok Q fun v H' d n' r e o' rp => q v H' d n' r e o' (.inl rp)
theorem EvL.e {c : Ct} {te : TE} {F : Env → T (List D)} (h : EvL c te F) : EvE c te (fun ρ => (F ρ).bind fun ds => .ret (.lst ds)) := fun σ H P ρ n R o er ok Q q =>
  h σ H P ρ n _ o er (T.ok_bind.mp ok) Q fun p xs H' ds n' r e o' hn hp rp => q (.ref p) H' (.lst ds) n' r e o'
    (.lst (msk_some.mpr ⟨o.np hn, hp⟩) (rp.sub (Sub.less fun a h => .inl h)))
end DL
end

section
set_option maxRecDepth 100000
set_option maxHeartbeats 2000000
/-! DLb: expressions. -/
namespace DL
open PySem PySem.Spec PyProof.Rows L2

/-! ### plain functions on deep values -/
def flatD : D → Bool
  | .non => true
  | .bl _ => true
  | .int _ => true
  | .str _ => true
  | _ => false
mutual
/-- == of data -/
def D.eqv : D → D → Bool
  | .non, .non => true
  | .bl a, .bl b => a == b
  | .bl a, .int j => (if a then 1 else 0) == j
  | .int i, .bl b => i == (if b then 1 else 0)
  | .int i, .int j => i == j
  | .str x, .str y => x == y
  | .lst xs, .lst ys => D.eqvs xs ys
  | .tup xs, .tup ys => D.eqvs xs ys
  | _, _ => false
def D.eqvs : List D → List D → Bool
  | [], [] => true
  | x :: xs, y :: ys => D.eqv x y && D.eqvs xs ys
  | _, _ => false
end
mutual
/-- plain data, n deep at most -/
def D.good : Nat → D → Bool
  | _, .non => true
  | _, .bl _ => true
  | _, .int _ => true
  | _, .str x => PyData.strOk x
  | n + 1, .lst xs => D.goods n xs
  | n + 1, .tup xs => D.goods n xs
  | _, _ => false
def D.goods : Nat → List D → Bool
  | _, [] => true
  | n, x :: xs => D.good n x && D.goods n xs
end
mutual
def D.py : D → PyData
  | .non => .none
  | .bl b => .bool b
  | .int i => .int i
  | .str x => .str x
  | .lst xs => .list (D.pys xs)
  | .tup xs => .tuple (D.pys xs)
  | _ => .none
def D.pys : List D → List PyData
  | [] => []
  | x :: xs => D.py x :: D.pys xs
end
mutual
theorem D.eqv_py : ∀ (n m : Nat) (x y : D), x.good n = true → y.good m = true → PyData.eqv x.py y.py = D.eqv x y := by
  intro n m x y hx hy
  cases x <;> cases y <;> first
    | (simp only [D.py, PyData.eqv, D.eqv]; done)
    | (exfalso; simp [D.good] at hx; done)
    | (exfalso; simp [D.good] at hy; done)
    | (rename_i xs ys
       cases n with
       | zero => exact absurd hx (by simp [D.good])
       | succ n =>
         cases m with
         | zero => exact absurd hy (by simp [D.good])
         | succ m =>
           simp only [D.good] at hx hy
           simp only [D.py, PyData.eqv, D.eqv]
           exact D.eqvs_pys n m xs ys hx hy)
theorem D.eqvs_pys : ∀ (n m : Nat) (xs ys : List D), D.goods n xs = true → D.goods m ys = true → PyData.eqvAll (D.pys xs) (D.pys ys) = D.eqvs xs ys := by
  intro n m xs ys hx hy
  cases xs with
  | nil => cases ys <;> simp only [D.pys, PyData.eqvAll, D.eqvs]
  | cons x xs =>
    cases ys with
    | nil => simp only [D.pys, PyData.eqvAll, D.eqvs]
    | cons y ys =>
      simp only [D.goods, Bool.and_eq_true] at hx hy
      simp only [D.pys, PyData.eqvAll, D.eqvs]
      rw [D.eqv_py n m x y hx.1 hy.1, D.eqvs_pys n m xs ys hx.2 hy.2]
end
mutual
theorem D.good_lay : ∀ (n : Nat) (x : D), x.good n = true → x.py.canLay0 = true ∧ x.py.depth ≤ n := by
  intro n x h
  cases x <;> first
    | (simp only [D.py, PyData.canLay0, PyData.depth]; exact ⟨trivial, Nat.zero_le _⟩)
    | (simp only [D.py, PyData.canLay0, PyData.depth]; simp only [D.good] at h; exact ⟨h, Nat.zero_le _⟩)
    | (exfalso; simp [D.good] at h; done)
    | (rename_i xs
       cases n with
       | zero => exact absurd h (by simp [D.good])
       | succ n =>
         simp only [D.good] at h
         simp only [D.py, PyData.canLay0, PyData.depth]
         have q := D.goods_lay n xs h
         exact ⟨q.1, Nat.succ_le_succ q.2⟩)
theorem D.goods_lay : ∀ (n : Nat) (xs : List D), D.goods n xs = true → PyData.canLayAll0 (D.pys xs) = true ∧ PyData.depthAll (D.pys xs) ≤ n := by
  intro n xs h
  cases xs with
  | nil => simp only [D.pys, PyData.canLayAll0, PyData.depthAll]; exact ⟨trivial, Nat.zero_le _⟩
  | cons x xs =>
    simp only [D.goods, Bool.and_eq_true] at h
    simp only [D.pys, PyData.canLayAll0, PyData.depthAll]
    have q1 := D.good_lay n x h.1
    have q2 := D.goods_lay n xs h.2
    exact ⟨by rw [q1.1, q2.1]; rfl, Nat.max_le.mpr ⟨q1.2, q2.2⟩⟩
end
theorem D.good_shaped {x : D} (h : x.good 60 = true) : SeqAt.shaped x.py = true := by
  obtain ⟨h1, h2⟩ := D.good_lay 60 x h
  unfold SeqAt.shaped
  rw [h1, decide_eq_true (by omega : x.py.depth ≤ 64)]
  rfl
mutual
theorem Rep.dp {c : Ct} {G : Hp} : ∀ {v : V} {d : D}, ∀ n, Rep c G v d → d.good n = true → Dp c.K G v d.py
  | _, _, n, .non, h => .non
  | _, _, n, .bl b, h => .bl b
  | _, _, n, .int i, h => .int i
  | _, _, n, .str x, h => .str x
  | _, _, n, .lst h r, g => by
    cases n with
    | zero => exact absurd g (by simp [D.good])
    | succ n =>
      simp only [D.good] at g
      exact .lst (.of h) (Reps.dp n r g)
  | _, _, n, .tup h r, g => by
    cases n with
    | zero => exact absurd g (by simp [D.good])
    | succ n =>
      simp only [D.good] at g
      exact .tup h.sq (Reps.dp n r g)
  | _, _, n, .obj h r, g => absurd g (by cases n <;> simp [D.good])
  | _, _, n, .urn, g => absurd g (by cases n <;> simp [D.good])
  | _, _, n, .pr _ _ _, g => absurd g (by cases n <;> simp [D.good])
theorem Reps.dp {c : Ct} {G : Hp} : ∀ {vs : List V} {ds : List D}, ∀ n, Reps c G vs ds → D.goods n ds = true → DpAll c.K G vs (D.pys ds)
  | _, _, n, .nil, h => .nil
  | _, _, n, .cons h r, g => by
    simp only [D.goods, Bool.and_eq_true] at g
    exact .cons (Rep.dp n h g.1) (Reps.dp n r g.2)
end
mutual
theorem Dp.sub {K : PySem.W.Frag} {G G' : Hp} (e : Sub G G') : ∀ {v : V} {d : PyData}, Dp K G v d → Dp K G' v d
  | _, _, .non => .non
  | _, _, .bl b => .bl b
  | _, _, .int i => .int i
  | _, _, .str x => .str x
  | _, _, .lst h r => .lst (sub_l e h) (DpAll.sub e r)
  | _, _, .tup h r => .tup (sub_t e h) (DpAll.sub e r)
theorem DpAll.sub {K : PySem.W.Frag} {G G' : Hp} (e : Sub G G') : ∀ {vs : List V} {ds : List PyData}, DpAll K G vs ds → DpAll K G' vs ds
  | _, _, .nil => .nil
  | _, _, .cons h r => .cons (Dp.sub e h) (DpAll.sub e r)
end
theorem RepX.dp {c : Ct} {P : Addr → Prop} {H : Hp} {v : V} {d : D} (h : RepX c P H v d) (g : d.good 60 = true) : Dp c.K H v d.py := by
  rcases h with h | ⟨a, xs, ds, h1, h2, h3, h4, h5⟩
  · exact Dp.sub Sub.of_msk (h.dp 60 g)
  · subst h1 h3
    simp only [D.good] at g
    exact .lst (.of h4) (DpAll.sub Sub.of_msk (h5.dp 59 g))

/-! ### expressions -/
section
variable {c : Ct}
def fVar (i : Nat) : Env → T D := fun ρ => match ρ[i]? with
  | some (.val d) => .ret d
  | _ => .fail
def fVarX (i : Nat) : Env → T D := fun ρ => match ρ[i]? with
  | some (.val d) => .ret d
  | some (.own (.lst ds)) => .ret (.lst ds)
  | _ => .fail
def fC (d : D) : Env → T D := fun _ => .ret d
def fOp (f : D → D → T D) (a b : Env → T D) : Env → T D := fun ρ => (a ρ).bind fun x => (b ρ).bind fun y => f x y
def fUn (f : D → T D) (a : Env → T D) : Env → T D := fun ρ => (a ρ).bind f
theorem ev_var {i : Nat} : EvE c (tVar i) (fVar i) := by
  intro σ H P ρ n R o er ok Q q
  unfold fVar at ok
  split at ok
  · rename_i d h
    obtain ⟨v, h1, h2⟩ := er.at_ i _ h
    exact ⟨v, h1, q v H d n ok (ExU.refl _ _) o h2⟩
  · exact ok.elim
theorem ev_varX {i : Nat} : EvX c (tVar i) (fVarX i) := by
  intro σ H P ρ n R o er ok Q q
  unfold fVarX at ok
  split at ok
  · rename_i d h
    obtain ⟨v, h1, h2⟩ := er.at_ i _ h
    exact ⟨v, h1, q v H d n ok (ExU.refl _ _) o (.inl h2)⟩
  · rename_i ds h
    obtain ⟨a, h1, h2, h3, xs, k1, k2⟩ := er.at_ i _ h
    exact ⟨.ref a, h1, q _ H _ n ok (ExU.refl _ _) o (.inr ⟨a, xs, ds, rfl, h3, rfl, k1, k2⟩)⟩
  · exact ok.elim
theorem ev_c {v : V} {d : D} (h : ∀ G, Rep c G v d) : EvE c (tC v) (fC d) := fun σ H P ρ n R o er ok Q q => q v H d n ok (ExU.refl _ _) o (h _)

/-- a two-place operation on values -/
def RopE (c : Ct) (r : R2) (f : D → D → T D) : Prop := ∀ (H : Hp) (P : Addr → Prop) (n : Nat) (x y : V) (d e : D) (R : D → Nat → Prop), Ok c P H n → RepX c P H x d → RepX c P H y e → (f d e).ok n R →
  ∀ Q : VK, (∀ v H' d' n', R d' n' → ExU c.u H H' → Ok c P H' n' → Rep c (Msk P H') v d' → Q v H') → r x y H Q
def RunE (c : Ct) (r : V → Hp → VK → Prop) (f : D → T D) : Prop := ∀ (H : Hp) (P : Addr → Prop) (n : Nat) (x : V) (d : D) (R : D → Nat → Prop), Ok c P H n → RepX c P H x d → (f d).ok n R →
  ∀ Q : VK, (∀ v H' d' n', R d' n' → ExU c.u H H' → Ok c P H' n' → Rep c (Msk P H') v d' → Q v H') → r x H Q
theorem ev_op {r : R2} {f : D → D → T D} {ta tb : TE} {F G : Env → T D} (hr : RopE c r f) (ha : EvX c ta F) (hb : EvX c tb G) : EvE c (tOp r ta tb) (fOp f F G) := fun σ H P ρ n R o er ok Q q =>
  ha σ H P ρ n _ o er (T.ok_bind.mp ok) _ fun x H1 d n1 ok1 e1 o1 rx => hb σ H1 P ρ n1 _ o1 (er.exu o.pu e1) (T.ok_bind.mp ok1) _ fun y H2 e n2 ok2 e2 o2 ry =>
    hr H2 P n2 x y d e R o2 (rx.exu o.pu e2) ry ok2 Q fun v H3 d' n3 r e3 o3 rp => q v H3 d' n3 r (e1.trans (e2.trans e3)) o3 rp
theorem ev_un {r : V → Hp → VK → Prop} {f : D → T D} {ta : TE} {F : Env → T D} (hr : RunE c r f) (ha : EvX c ta F) : EvE c (tUn r ta) (fUn f F) := fun σ H P ρ n R o er ok Q q =>
  ha σ H P ρ n _ o er (T.ok_bind.mp ok) _ fun x H1 d n1 ok1 e1 o1 rx => hr H1 P n1 x d R o1 rx ok1 Q fun v H3 d' n3 r e3 o3 rp => q v H3 d' n3 r (e1.trans e3) o3 rp

/-! #### the operators -/
theorem RepX.int {P : Addr → Prop} {H : Hp} {v : V} {i : Int} (h : RepX c P H v (.int i)) : v = .int i := by
  rcases h with h | ⟨a, xs, ds, h1, h2, h3, h4, h5⟩
  · cases h; rfl
  · cases h3
theorem RepX.bl {P : Addr → Prop} {H : Hp} {v : V} {i : Bool} (h : RepX c P H v (.bl i)) : v = .bl i := by
  rcases h with h | ⟨a, xs, ds, h1, h2, h3, h4, h5⟩
  · cases h; rfl
  · cases h3
theorem RepX.str {P : Addr → Prop} {H : Hp} {v : V} {i : Str} (h : RepX c P H v (.str i)) : v = .str i := by
  rcases h with h | ⟨a, xs, ds, h1, h2, h3, h4, h5⟩
  · cases h; rfl
  · cases h3
theorem RepX.non {P : Addr → Prop} {H : Hp} {v : V} (h : RepX c P H v .non) : v = .non := by
  rcases h with h | ⟨a, xs, ds, h1, h2, h3, h4, h5⟩
  · cases h; rfl
  · cases h3
/-- ints to a flat value -/
def iiD (f : Int → Int → D) : D → D → T D
  | .int i, .int j => .ret (f i j)
  | _, _ => .fail
def iiC (b : Int → Int → Bool) (f : Int → Int → D) : D → D → T D
  | .int i, .int j => match b i j with | true => .ret (f i j) | false => .fail
  | _, _ => .fail
theorem rop_I0 {g : Int → Int → V} {f : Int → Int → D} (h : ∀ i j G, Rep c G (g i j) (f i j)) : RopE c (rI0 g) (iiD f) := by
  intro H P n x y d e R o rx ry ok Q q
  unfold iiD at ok
  split at ok
  · obtain rfl := rx.int
    obtain rfl := ry.int
    exact ⟨_, _, rfl, rfl, q _ H _ n ok (ExU.refl _ _) o (h _ _ _)⟩
  · exact ok.elim
theorem rop_I {C : Int → Int → Prop} {g : Int → Int → V} {f : Int → Int → D} {b : Int → Int → Bool} (hc : ∀ i j, b i j = true → C i j) (h : ∀ i j G, Rep c G (g i j) (f i j)) :
    RopE c (rI C g) (iiC b f) := by
  intro H P n x y d e R o rx ry ok Q q
  unfold iiC at ok
  split at ok
  · obtain rfl := rx.int
    obtain rfl := ry.int
    split at ok
    · rename_i hb
      exact ⟨_, _, rfl, rfl, hc _ _ hb, q _ H _ n ok (ExU.refl _ _) o (h _ _ _)⟩
    · exact ok.elim
  · exact ok.elim
def capD : Nat := 100000
theorem cap_le {n : Nat} (h : n ≤ capD) : n ≤ sizeLine := Nat.le_trans h (by decide)
theorem cap_lt {n : Nat} (h : n < capD) : n < sizeLine := Nat.lt_of_lt_of_le h (by decide)

/-- + -/
def addD : D → D → T D
  | .int i, .int j => .ret (.int (i + j))
  | .tup a, .tup b => match decide (a.length + b.length ≤ capD) with | true => .ret (.tup (a ++ b)) | false => .fail
  | .lst a, .lst b => match decide (a.length + b.length ≤ capD) with | true => .ret (.lst (a ++ b)) | false => .fail
  | .str a, .str b => match decide (a.length + b.length ≤ capD) with | true => .ret (.str (a ++ b)) | false => .fail
  | _, _ => .fail
/-- t + u: a new tuple without a dict -/
def rCatN (K : PySem.W.Frag) : R2 := fun x y H Q => ∃ a b xs ys, x = .ref a ∧ y = .ref b ∧ SqT K H a xs ∧ SqT K H b ys ∧ xs.length + ys.length ≤ sizeLine ∧
  (xs = [] → Q (.ref b) H) ∧ (xs ≠ [] → ys = [] → Q (.ref a) H) ∧ (xs ≠ [] → ys ≠ [] → ∀ (ob : Obj) (p : Addr), ob.dict = none → H p = none → Q (.ref p) (upd H p (.frz ob (.tup (xs ++ ys)))))
theorem op_catN {X : Cx} : OpR X (binaryOp .Add) (rCatN X.K) := by
  intro pins s σ H x y v u Q I rx ry h
  obtain ⟨a, b, xs, ys, rfl, rfl, ha, hb, hz, q0, q1, q2⟩ := h
  cases rx
  cases ry
  obtain ⟨its, r1, p1, _⟩ := I.tuple ha
  obtain ⟨its2, r2, p2, _⟩ := I.tuple hb
  by_cases hx : xs = []
  · subst hx
    cases r1
    exact cat_tup0 p1 p2 ⟨.ref b, H, I, rfl, q0 rfl⟩
  · refine HT.cat_tup p1 p2 (fun z => hx (r1.nil_iff.mp z)) (fun z => ⟨.ref a, H, I, rfl, q1 hx (r2.nil_iff.mp z)⟩) (fun z => ?_) (by rw [← r1.length, ← r2.length]; exact hz)
    refine ⟨.ref s.heap.objs.size, _, I.laid (t' := s.toks) (o := .frz _ (.tup (xs ++ ys))) (fun b ob q => Heap.get?_push_of_some _ q) (Nat.le_refl _) ⟨Heap.get?_push_size _ rfl, ?_⟩, rfl, q2 hx (fun w => z (r2.nil_iff.mpr w)) _ _ rfl (I.hok.fresh (Nat.le_refl _))⟩
    exact ⟨by rw [List.length_append]; exact hz, _, r1.append r2, IsTup.new _ _⟩
def rAddD (K : PySem.W.Frag) : R2 := fun x y H Q => (∃ i j, x = .int i ∧ y = .int j ∧ Q (.int (i + j)) H) ∨ rCatN K x y H Q ∨ rCat x y H Q ∨
  ∃ i j, x = .str i ∧ y = .str j ∧ i.length + j.length ≤ sizeLine ∧ Q (.str (i ++ j)) H
theorem op_addD {X : Cx} : OpR X (binaryOp .Add) (rAddD X.K) := by
  intro pins s σ H x y v u Q I rx ry h
  rcases h with h | h | h | h
  · exact op_add pins s σ H x y v u Q I rx ry h
  · exact op_catN pins s σ H x y v u Q I rx ry h
  · exact op_cat pins s σ H x y v u Q I rx ry h
  · exact op_add_str pins s σ H x y v u Q I rx ry h
/-- a new tuple, a new list of items that are apart -/
theorem rep_newT {P : Addr → Prop} {H : Hp} {n : Nat} {p : Addr} {ob : Obj} {xs : List V} {ds : List D} (o : Ok c P H n) (hd : ob.dict = none) (hp : H p = none) (r : Reps c (Msk P H) xs ds) : Rep c (Msk P (upd H p (.frz ob (.tup xs)))) (.ref p) (.tup ds) :=
  .tup (.inl ⟨ob, hd, msk_some.mpr ⟨o.np hp, upd_same⟩⟩) (r.sub (Sub.msk o.pu (ExU.new hp)))
theorem rep_newP {P : Addr → Prop} {H : Hp} {n : Nat} {p : Addr} {x y : V} {d e : D} (o : Ok c P H n) (hp : H p = none) (r1 : Rep c (Msk P H) x d) (r2 : Rep c (Msk P H) y e) : Rep c (Msk P (upd H p (.tup [x, y]))) (.ref p) (.pr d e) :=
  .pr (.inl (.inl (msk_some.mpr ⟨o.np hp, upd_same⟩))) (r1.sub (Sub.msk o.pu (ExU.new hp))) (r2.sub (Sub.msk o.pu (ExU.new hp)))
theorem rep_newL {P : Addr → Prop} {H : Hp} {n : Nat} {p : Addr} {xs : List V} {ds : List D} (o : Ok c P H n) (hp : H p = none) (r : Reps c (Msk P H) xs ds) : Rep c (Msk P (upd H p (.lst xs))) (.ref p) (.lst ds) :=
  .lst (msk_some.mpr ⟨o.np hp, upd_same⟩) (r.sub (Sub.msk o.pu (ExU.new hp)))
theorem RepX.tupR {P : Addr → Prop} {H : Hp} {v : V} {ds : List D} (h : RepX c P H v (.tup ds)) : Rep c (Msk P H) v (.tup ds) := by
  rcases h with h | ⟨a, xs, es, h1, h2, h3, h4, h5⟩
  · exact h
  · cases h3
theorem rop_add : RopE c (rAddD c.K) addD := by
  intro H P n x y d e R o rx ry ok Q q
  unfold addD at ok
  split at ok
  · obtain rfl := rx.int
    obtain rfl := ry.int
    exact .inl ⟨_, _, rfl, rfl, q _ H _ n ok (ExU.refl _ _) o (.int _)⟩
  · split at ok
    · rename_i a b _ hb
      have hb := of_decide_eq_true hb
      have tx := rx.tupR
      have ty := ry.tupR
      obtain ⟨p, xs, rfl, hx, hxr⟩ := rx.tup
      obtain ⟨p', ys, rfl, hy, hyr⟩ := ry.tup
      have l1 := hxr.length
      have l2 := hyr.length
      refine .inr (.inl ⟨p, p', xs, ys, rfl, rfl, hx.sq, hy.sq, cap_le (by omega), fun e0 => ?_, fun _ e1 => ?_, fun _ _ ob t hob ht => ?_⟩)
      · subst e0
        have : a = [] := by cases a with | nil => rfl | cons _ _ => simp at l1
        subst this
        exact q _ H _ n ok (ExU.refl _ _) o ty
      · subst e1
        have : b = [] := by cases b with | nil => rfl | cons _ _ => simp at l2
        subst this
        rw [List.append_nil] at ok
        exact q _ H _ n ok (ExU.refl _ _) o tx
      · exact q _ _ _ n ok (ExU.new ht) (o.new ht) (rep_newT o hob ht (hxr.append hyr))
    · exact ok.elim
  · split at ok
    · rename_i a b _ hb
      have hb := of_decide_eq_true hb
      obtain ⟨p, xs, rfl, hx, hxr⟩ := rx.lst
      obtain ⟨p', ys, rfl, hy, hyr⟩ := ry.lst
      have l1 := hxr.length
      have l2 := hyr.length
      exact .inr (.inr (.inl ⟨p, p', xs, ys, rfl, rfl, hx, hy, cap_le (by omega), fun t ht => q _ _ _ n ok (ExU.new ht) (o.new ht) (rep_newL o ht (hxr.append hyr))⟩))
    · exact ok.elim
  · split at ok
    · rename_i a b _ hb
      have hb := of_decide_eq_true hb
      obtain rfl := rx.str
      obtain rfl := ry.str
      exact .inr (.inr (.inr ⟨_, _, rfl, rfl, cap_le hb, q _ H _ n ok (ExU.refl _ _) o (.str _)⟩))
    · exact ok.elim
  · exact ok.elim
def subD : D → D → T D
  | .int i, .int j => .ret (.int (i - j))
  | _, _ => .fail
theorem rop_sub : RopE c (rI0 fun i j => .int (i - j)) subD := by
  intro H P n x y d e R o rx ry ok Q q
  unfold subD at ok
  split at ok
  · obtain rfl := rx.int
    obtain rfl := ry.int
    exact ⟨_, _, rfl, rfl, q _ H _ n ok (ExU.refl _ _) o (.int _)⟩
  · exact ok.elim
def small (i : Int) : Bool := decide (i.natAbs < 18446744073709551616)
/-- * : ints (one of them small), a list times an int -/
def mulD : D → D → T D
  | .int i, .int j => match small i || small j with | true => .ret (.int (i * j)) | false => .fail
  | .lst a, .int k => match decide (0 ≤ k ∧ a.length * k.toNat ≤ capD ∧ k < 1000000) with | true => .ret (.lst (List.replicate k.toNat a).flatten) | false => .fail
  | _, _ => .fail
theorem small_ok {i : Int} (h : small i = true) : -(2 ^ 64) < i ∧ i < 2 ^ 64 := by
  have := of_decide_eq_true h
  omega
def rMulD : R2 := fun x y H Q => rI CMul (fun i j => .int (i * j)) x y H Q ∨ rRep x y H Q
theorem op_mulD {X : Cx} : OpR X (binaryOp .Mult) rMulD := by
  intro pins s σ H x y v u Q I rx ry h
  rcases h with h | h
  · exact op_mul pins s σ H x y v u Q I rx ry h
  · exact op_rep pins s σ H x y v u Q I rx ry h
end
end DL
end

section
set_option maxRecDepth 100000
set_option maxHeartbeats 2000000
/-! DLc: more operators, tests, displays, subscripts. -/
namespace DL
open PySem PySem.Spec PyProof.Rows L2
section
variable {c : Ct}
theorem flat_reps {G : Hp} : ∀ {vs : List V} {n : Nat} {a : List V} {ds : List D}, Reps c G a ds → Reps c G (List.replicate n a).flatten (List.replicate n ds).flatten
  | _, 0, _, _, _ => by simp; exact .nil
  | vs, n + 1, a, ds, r => by
    rw [List.replicate_succ, List.replicate_succ, List.flatten_cons, List.flatten_cons]
    exact r.append (flat_reps (vs := vs) r)
theorem rop_mul : RopE c rMulD mulD := by
  intro H P n x y d e R o rx ry ok Q q
  unfold mulD at ok
  split at ok
  · obtain rfl := rx.int
    obtain rfl := ry.int
    split at ok
    · rename_i hb
      refine .inl ⟨_, _, rfl, rfl, ?_, q _ H _ n ok (ExU.refl _ _) o (.int _)⟩
      rcases Bool.or_eq_true_iff.mp hb with h | h
      · exact .inl (small_ok h)
      · exact .inr (small_ok h)
    · exact ok.elim
  · split at ok
    · rename_i a k _ hb
      obtain ⟨h1, h2, h3⟩ := of_decide_eq_true hb
      obtain ⟨p, xs, rfl, hx, hxr⟩ := rx.lst
      obtain rfl := ry.int
      have l1 := hxr.length
      exact .inr ⟨p, k, xs, rfl, rfl, hx, by omega, by omega, cap_le (by rw [l1]; exact h2), fun t ht => q _ _ _ n ok (ExU.new ht) (o.new ht) (rep_newL o ht (flat_reps (vs := []) hxr))⟩
    · exact ok.elim
  · exact ok.elim
/-- //, % by a positive number below 2 ^ 30, by any positive number -/
def fdivD : D → D → T D := iiC (fun _ j => decide (0 < j ∧ j < 1073741824)) fun i j => .int (i / j)
def modD : D → D → T D := iiC (fun _ j => decide (0 < j)) fun i j => .int (i % j)
theorem rop_fdiv : RopE c (rI CDiv fun i j => .int (i / j)) fdivD := rop_I (fun _ _ h => (of_decide_eq_true h : _ ∧ _)) fun _ _ _ => .int _
theorem rop_mod : RopE c (rI (fun _ j => 0 < j) fun i j => .int (i % j)) modD := rop_I (fun _ _ h => (of_decide_eq_true h : (0:Int) < _)) fun _ _ _ => .int _
def negD : D → T D
  | .int i => .ret (.int (-i))
  | _ => .fail
theorem run_neg : RunE c (rU fun i => .int (-i)) negD := by
  intro H P n x d R o rx ok Q q
  unfold negD at ok
  split at ok
  · obtain rfl := rx.int
    exact ⟨_, rfl, q _ H _ n ok (ExU.refl _ _) o (.int _)⟩
  · exact ok.elim
/-! #### comparisons -/
def strLt (x y : Str) : Bool := decide (x.cps.toList < y.cps.toList)
def ltD : D → D → T D := iiD fun i j => .bl (decide (i < j))
def leD : D → D → T D := iiD fun i j => .bl (decide (i ≤ j))
def gtD : D → D → T D := iiD fun i j => .bl (decide (j < i))
def geD : D → D → T D := iiD fun i j => .bl (decide (j ≤ i))
theorem rop_lt : RopE c (rI0 fun i j => .bl (decide (i < j))) ltD := rop_I0 fun _ _ _ => .bl _
theorem rop_le : RopE c (rI0 fun i j => .bl (decide (i ≤ j))) leD := rop_I0 fun _ _ _ => .bl _
theorem rop_gt : RopE c (rI0 fun i j => .bl (decide (j < i))) gtD := rop_I0 fun _ _ _ => .bl _
theorem rop_ge : RopE c (rI0 fun i j => .bl (decide (j ≤ i))) geD := rop_I0 fun _ _ _ => .bl _
/-- ==, != of data -/
def eqB : D → D → T Bool
  | .int i, .int j => .ret (decide (i = j))
  | .str i, .str j => .ret (decide (i = j))
  | .bl i, .bl j => .ret (decide (i = j))
  | x, y => match x.good 60 && y.good 60 with | true => .ret (D.eqv x y) | false => .fail
def eqD (x y : D) : T D := (eqB x y).bind fun b => .ret (.bl b)
def neD (x y : D) : T D := (eqB x y).bind fun b => .ret (.bl (!b))
def rEqA (K : PySem.W.Frag) : R2 := fun x y H Q => rEq x y H Q ∨ rEqD K x y H Q
def rNeA (K : PySem.W.Frag) : R2 := fun x y H Q => rNe x y H Q ∨ rNeD K x y H Q
theorem op_eqA {X : Cx} (hu : X.A.units + 64 < cLine) : OpR X (compareOp .Eq) (rEqA X.K) := by
  intro pins s σ H x y v u Q I rx ry h
  rcases h with h | h
  · exact op_eq pins s σ H x y v u Q I rx ry h
  · exact op_eqD hu pins s σ H x y v u Q I rx ry h
theorem op_neA {X : Cx} (hu : X.A.units + 64 < cLine) : OpR X (compareOp .NotEq) (rNeA X.K) := by
  intro pins s σ H x y v u Q I rx ry h
  rcases h with h | h
  · exact op_ne pins s σ H x y v u Q I rx ry h
  · exact op_neD hu pins s σ H x y v u Q I rx ry h
theorem eqB_sound {P : Addr → Prop} {H : Hp} {x y : V} {d e : D} {n : Nat} {R : Bool → Nat → Prop} (rx : RepX c P H x d) (ry : RepX c P H y e) (ok : (eqB d e).ok n R) :
    ∃ b, R b n ∧ ((scal x y = true ∧ b = decide (x = y)) ∨ ∃ p q, Dp c.K H x p ∧ Dp c.K H y q ∧ SeqAt.shaped p = true ∧ SeqAt.shaped q = true ∧ b = PyData.eqv p q) := by
  unfold eqB at ok
  split at ok
  · obtain rfl := rx.int
    obtain rfl := ry.int
    exact ⟨_, ok, .inl ⟨rfl, by simp⟩⟩
  · obtain rfl := rx.str
    obtain rfl := ry.str
    exact ⟨_, ok, .inl ⟨rfl, by simp⟩⟩
  · obtain rfl := rx.bl
    obtain rfl := ry.bl
    exact ⟨_, ok, .inl ⟨rfl, by simp⟩⟩
  · split at ok
    · rename_i hb
      obtain ⟨h1, h2⟩ := Bool.and_eq_true_iff.mp hb
      exact ⟨_, ok, .inr ⟨_, _, rx.dp h1, ry.dp h2, D.good_shaped h1, D.good_shaped h2, (D.eqv_py 60 60 _ _ h1 h2).symm⟩⟩
    · exact ok.elim
theorem rop_eq : RopE c (rEqA c.K) eqD := by
  intro H P n x y d e R o rx ry ok Q q
  obtain ⟨b, hb, h | ⟨p, p', h1, h2, h3, h4, h5⟩⟩ := eqB_sound rx ry (T.ok_bind.mp ok)
  · exact .inl ⟨h.1, by rw [← h.2]; exact q _ H _ n hb (ExU.refl _ _) o (.bl _)⟩
  · exact .inr ⟨p, p', h1, h2, h3, h4, by rw [← h5]; exact q _ H _ n hb (ExU.refl _ _) o (.bl _)⟩
theorem rop_ne : RopE c (rNeA c.K) neD := by
  intro H P n x y d e R o rx ry ok Q q
  obtain ⟨b, hb, h | ⟨p, p', h1, h2, h3, h4, h5⟩⟩ := eqB_sound rx ry (T.ok_bind.mp ok)
  · exact .inl ⟨h.1, by rw [← h.2]; exact q _ H _ n hb (ExU.refl _ _) o (.bl _)⟩
  · exact .inr ⟨p, p', h1, h2, h3, h4, by rw [← h5]; exact q _ H _ n hb (ExU.refl _ _) o (.bl _)⟩
/-! #### in -/
theorem rep_flat {G : Hp} {v : V} {d : D} (r : Rep c G v d) (h : flatD d = true) : flatV v = true := by
  cases r <;> first | rfl | cases h
theorem flat_rep {G G' : Hp} {v : V} {d : D} (r : Rep c G v d) (h : flatD d = true) : Rep c G' v d := by
  cases r <;> first | exact .non | exact .bl _ | exact .int _ | exact .str _ | cases h
theorem eqV_eqv {G : Hp} {v w : V} {d e : D} (r : Rep c G v d) (s : Rep c G w e) (h : flatD d = true) (h' : flatD e = true) : eqV v w = D.eqv d e := by
  cases r <;> cases s <;> first | (simp [eqV, D.eqv]; done) | cases h | cases h'
theorem reps_flat {G : Hp} : ∀ {vs : List V} {ds : List D}, Reps c G vs ds → ds.all flatD = true → vs.all flatV = true
  | _, _, .nil, _ => rfl
  | _, _, .cons h r, g => by
    rw [List.all_cons, Bool.and_eq_true] at g ⊢
    exact ⟨rep_flat h g.1, reps_flat r g.2⟩
theorem inV_any {G : Hp} {v : V} {d : D} (s : Rep c G v d) (h' : flatD d = true) : ∀ {vs : List V} {ds : List D}, Reps c G vs ds → ds.all flatD = true → inV v vs = ds.any fun y => D.eqv y d
  | _, _, .nil, _ => rfl
  | _, _, .cons h r, g => by
    rw [List.all_cons, Bool.and_eq_true] at g
    show (eqV _ _ || inV _ _) = _
    rw [List.any_cons, eqV_eqv h s g.1 h', inV_any s h' r g.2]
def inB (x y : D) : T Bool := match seqD y with
  | some ds => (match flatD x && ds.all flatD with | true => .ret (ds.any fun z => D.eqv z x) | false => .fail)
  | none => .fail
def inD (x y : D) : T D := (inB x y).bind fun b => .ret (.bl b)
def ninD (x y : D) : T D := (inB x y).bind fun b => .ret (.bl (!b))
theorem RepX.flat {P : Addr → Prop} {H : Hp} {v : V} {d : D} (h : RepX c P H v d) (g : flatD d = true) : Rep c (Msk P H) v d := by
  rcases h with h | ⟨a, xs, ds, h1, h2, h3, h4, h5⟩
  · exact h
  · subst h3; cases g
theorem rop_in : RopE c (rIn c.K false) inD := by
  intro H P n x y d e R o rx ry ok Q q
  unfold inD inB at ok
  split at ok
  · rename_i ds hs
    split at ok
    · rename_i hb
      obtain ⟨h1, h2⟩ := Bool.and_eq_true_iff.mp hb
      obtain ⟨a, xs, rfl, hx, hr⟩ := ry.seq hs
      have fx := rx.flat h1
      exact ⟨a, xs, rfl, hx, rep_flat fx h1, reps_flat hr h2, q _ H _ n ok (ExU.refl _ _) o (by rw [if_neg Bool.false_ne_true, inV_any fx h1 hr h2]; exact .bl _)⟩
    · exact ok.elim
  · exact ok.elim
theorem rop_nin : RopE c (rIn c.K true) ninD := by
  intro H P n x y d e R o rx ry ok Q q
  unfold ninD inB at ok
  split at ok
  · rename_i ds hs
    split at ok
    · rename_i hb
      obtain ⟨h1, h2⟩ := Bool.and_eq_true_iff.mp hb
      obtain ⟨a, xs, rfl, hx, hr⟩ := ry.seq hs
      have fx := rx.flat h1
      exact ⟨a, xs, rfl, hx, rep_flat fx h1, reps_flat hr h2, q _ H _ n ok (ExU.refl _ _) o (by rw [if_pos rfl, inV_any fx h1 hr h2]; exact .bl _)⟩
    · exact ok.elim
  · exact ok.elim
/-! #### is None -/
def isNonD : D → Bool
  | .non => true
  | _ => false
theorem RepX.isNon {P : Addr → Prop} {H : Hp} {v : V} {d : D} (h : RepX c P H v d) : decide (v = .non) = isNonD d := by
  rcases h with h | ⟨a, xs, ds, h1, h2, h3, h4, h5⟩
  · cases h <;> simp [isNonD]
  · subst h1 h3; simp [isNonD]
def fIsN (a : Env → T D) : Env → T D := fun ρ => (a ρ).bind fun x => .ret (.bl (isNonD x))
def fNotN (a : Env → T D) : Env → T D := fun ρ => (a ρ).bind fun x => .ret (.bl (!isNonD x))
theorem ev_isN {ta : TE} {F : Env → T D} (ha : EvX c ta F) : EvE c (tIsN ta) (fIsN F) := fun σ H P ρ n R o er ok Q q =>
  ha σ H P ρ n _ o er (T.ok_bind.mp ok) _ fun x H1 d n1 ok1 e1 o1 rx => q _ H1 _ n1 ok1 e1 o1 (by rw [rx.isNon]; exact .bl _)
theorem ev_notN {ta : TE} {F : Env → T D} (ha : EvX c ta F) : EvE c (tNotN ta) (fNotN F) := fun σ H P ρ n R o er ok Q q =>
  ha σ H P ρ n _ o er (T.ok_bind.mp ok) _ fun x H1 d n1 ok1 e1 o1 rx => q _ H1 _ n1 ok1 e1 o1 (by rw [rx.isNon]; exact .bl _)

/-! #### bools as values -/
def blD : D → T Bool
  | .bl b => .ret b
  | _ => .fail
def fAndV (a b : Env → T D) : Env → T D := fun ρ => ((a ρ).bind blD).bind fun k => match k with | true => b ρ | false => .ret (.bl false)
def fOrV (a b : Env → T D) : Env → T D := fun ρ => ((a ρ).bind blD).bind fun k => match k with | true => .ret (.bl true) | false => b ρ
def fNotV (a : Env → T D) : Env → T D := fun ρ => ((a ρ).bind blD).bind fun k => .ret (.bl (!k))
theorem blD_sound {P : Addr → Prop} {H : Hp} {v : V} {d : D} {n : Nat} {R : Bool → Nat → Prop} (h : RepX c P H v d) (ok : (blD d).ok n R) : ∃ b, v = .bl b ∧ R b n := by
  unfold blD at ok
  split at ok
  · exact ⟨_, h.bl, ok⟩
  · exact ok.elim
theorem ev_andV {ta tb : TE} {F G : Env → T D} (ha : EvX c ta F) (hb : EvE c tb G) : EvE c (tAndV ta tb) (fAndV F G) := fun σ H P ρ n R o er ok Q q =>
  ha σ H P ρ n _ o er (T.ok_bind.mp (T.ok_bind.mp ok)) _ fun x H1 d n1 ok1 e1 o1 rx => by
    obtain ⟨b, rfl, ok2⟩ := blD_sound rx ok1
    refine ⟨b, rfl, ?_⟩
    cases b with
    | true =>
      rw [if_pos rfl]
      exact hb σ H1 P ρ n1 _ o1 (er.exu o.pu e1) ok2 _ fun v H2 d' n2 r e2 o2 rp => q v H2 d' n2 r (e1.trans e2) o2 rp
    | false =>
      rw [if_neg Bool.false_ne_true]
      exact q _ H1 _ n1 ok2 e1 o1 (.bl _)
theorem ev_orV {ta tb : TE} {F G : Env → T D} (ha : EvX c ta F) (hb : EvE c tb G) : EvE c (tOrV ta tb) (fOrV F G) := fun σ H P ρ n R o er ok Q q =>
  ha σ H P ρ n _ o er (T.ok_bind.mp (T.ok_bind.mp ok)) _ fun x H1 d n1 ok1 e1 o1 rx => by
    obtain ⟨b, rfl, ok2⟩ := blD_sound rx ok1
    refine ⟨b, rfl, ?_⟩
    cases b with
    | false =>
      rw [if_neg Bool.false_ne_true]
      exact hb σ H1 P ρ n1 _ o1 (er.exu o.pu e1) ok2 _ fun v H2 d' n2 r e2 o2 rp => q v H2 d' n2 r (e1.trans e2) o2 rp
    | true =>
      rw [if_pos rfl]
      exact q _ H1 _ n1 ok2 e1 o1 (.bl _)
theorem ev_notV {ta : TE} {F : Env → T D} (ha : EvX c ta F) : EvE c (tNotV ta) (fNotV F) := fun σ H P ρ n R o er ok Q q =>
  ha σ H P ρ n _ o er (T.ok_bind.mp (T.ok_bind.mp ok)) _ fun x H1 d n1 ok1 e1 o1 rx => by
    obtain ⟨b, rfl, ok2⟩ := blD_sound rx ok1
    exact ⟨b, rfl, q _ H1 _ n1 ok2 e1 o1 (.bl _)⟩

/-! #### tests -/
def fTest (a : Env → T D) : Env → T Bool := fun ρ => (a ρ).bind blD
def fAnd (a b : Env → T Bool) : Env → T Bool := fun ρ => (a ρ).bind fun k => match k with | true => b ρ | false => .ret false
def fOr (a b : Env → T Bool) : Env → T Bool := fun ρ => (a ρ).bind fun k => match k with | true => .ret true | false => b ρ
def fNot (a : Env → T Bool) : Env → T Bool := fun ρ => (a ρ).bind fun k => .ret (!k)
def fYes : Env → T Bool := fun _ => .ret true
theorem et_test {ta : TE} {F : Env → T D} (ha : EvX c ta F) : EvT c (tTest ta) (fTest F) := fun σ H P ρ n R o er ok Q q =>
  ha σ H P ρ n _ o er (T.ok_bind.mp ok) _ fun x H1 d n1 ok1 e1 o1 rx => by
    obtain ⟨b, rfl, ok2⟩ := blD_sound rx ok1
    exact ⟨b, rfl, q b H1 n1 ok2 e1 o1⟩
theorem et_B {ta : TE} {F : Env → T D} (ha : EvX c ta F) : EvT c (tB ta) (fTest F) := fun σ H P ρ n R o er ok Q q =>
  ha σ H P ρ n _ o er (T.ok_bind.mp ok) _ fun x H1 d n1 ok1 e1 o1 rx => by
    obtain ⟨b, rfl, ok2⟩ := blD_sound rx ok1
    exact ⟨b, rfl, q b H1 n1 ok2 e1 o1⟩
theorem et_and {t u : TT} {F G : Env → T Bool} (ha : EvT c t F) (hb : EvT c u G) : EvT c (tAnd t u) (fAnd F G) := fun σ H P ρ n R o er ok Q q =>
  ha σ H P ρ n _ o er (T.ok_bind.mp ok) _ fun b H1 n1 ok1 e1 o1 => by
    cases b with
    | true =>
      rw [if_pos rfl]
      exact hb σ H1 P ρ n1 _ o1 (er.exu o.pu e1) ok1 _ fun v H2 n2 r e2 o2 => q v H2 n2 r (e1.trans e2) o2
    | false =>
      rw [if_neg Bool.false_ne_true]
      exact q _ H1 n1 ok1 e1 o1
theorem et_or {t u : TT} {F G : Env → T Bool} (ha : EvT c t F) (hb : EvT c u G) : EvT c (tOr t u) (fOr F G) := fun σ H P ρ n R o er ok Q q =>
  ha σ H P ρ n _ o er (T.ok_bind.mp ok) _ fun b H1 n1 ok1 e1 o1 => by
    cases b with
    | false =>
      rw [if_neg Bool.false_ne_true]
      exact hb σ H1 P ρ n1 _ o1 (er.exu o.pu e1) ok1 _ fun v H2 n2 r e2 o2 => q v H2 n2 r (e1.trans e2) o2
    | true =>
      rw [if_pos rfl]
      exact q _ H1 n1 ok1 e1 o1
theorem et_not {t : TT} {F : Env → T Bool} (ha : EvT c t F) : EvT c (tNot t) (fNot F) := fun σ H P ρ n R o er ok Q q =>
  ha σ H P ρ n _ o er (T.ok_bind.mp ok) _ fun b H1 n1 ok1 e1 o1 => q _ H1 n1 ok1 e1 o1
theorem et_yes : EvT c tYes fYes := fun σ H P ρ n R o er ok Q q => q true H n ok (ExU.refl _ _) o
def fIf (t : Env → T Bool) (a b : Env → T D) : Env → T D := fun ρ => (t ρ).bind fun k => match k with | true => a ρ | false => b ρ
theorem ev_if {t : TT} {ta tb : TE} {Ft : Env → T Bool} {F G : Env → T D} (ht : EvT c t Ft) (ha : EvE c ta F) (hb : EvE c tb G) : EvE c (tIf t ta tb) (fIf Ft F G) := fun σ H P ρ n R o er ok Q q =>
  ht σ H P ρ n _ o er (T.ok_bind.mp ok) _ fun b H1 n1 ok1 e1 o1 => by
    cases b with
    | true =>
      rw [if_pos rfl]
      exact ha σ H1 P ρ n1 _ o1 (er.exu o.pu e1) ok1 _ fun v H2 d n2 r e2 o2 => q v H2 d n2 r (e1.trans e2) o2
    | false =>
      rw [if_neg Bool.false_ne_true]
      exact hb σ H1 P ρ n1 _ o1 (er.exu o.pu e1) ok1 _ fun v H2 d n2 r e2 o2 => q v H2 d n2 r (e1.trans e2) o2
/-- a < b < c -/
def fChain (f g : D → D → T D) (a b e : Env → T D) : Env → T D := fun ρ => (a ρ).bind fun x => (b ρ).bind fun y => ((f x y).bind blD).bind fun k => match k with | true => (e ρ).bind fun z => g y z | false => .ret (.bl false)
/-- what is the same at any heap (ints, bools, texts) stays -/
theorem ev_chain {r r' : R2} {f g : D → D → T D} {ta tb tc : TE} {F G E : Env → T D} (hr : RopE c r f) (hr' : RopE c r' g) (ha : EvX c ta F) (hb : EvX c tb G) (hc : EvX c tc E) :
    EvE c (tChain r r' ta tb tc) (fChain f g F G E) := fun σ H P ρ n R o er ok Q q =>
  ha σ H P ρ n _ o er (T.ok_bind.mp ok) _ fun x H1 d n1 ok1 e1 o1 rx => hb σ H1 P ρ n1 _ o1 (er.exu o.pu e1) (T.ok_bind.mp ok1) _ fun y H2 e n2 ok2 e2 o2 ry =>
    hr H2 P n2 x y d e _ o2 (rx.exu o.pu e2) ry (T.ok_bind.mp (T.ok_bind.mp ok2)) _ fun z H3 d' n3 ok3 e3 o3 rz => by
      obtain ⟨b, rfl, ok4⟩ := blD_sound (.inl rz) ok3
      refine ⟨b, rfl, ?_⟩
      cases b with
      | true =>
        rw [if_pos rfl]
        exact hc σ H3 P ρ n3 _ o3 (er.exu o.pu (e1.trans (e2.trans e3))) (T.ok_bind.mp ok4) _ fun w H4 d4 n4 ok5 e4 o4 rw' =>
          hr' H4 P n4 y w e d4 R o4 (ry.exu o.pu (e3.trans e4)) rw' ok5 Q fun v H5 d5 n5 r e5 o5 rp => q v H5 d5 n5 r (e1.trans (e2.trans (e3.trans (e4.trans e5)))) o5 rp
      | false =>
        rw [if_neg Bool.false_ne_true]
        exact q _ H3 _ n3 ok4 (e1.trans (e2.trans e3)) o3 (.bl _)

/-! #### arguments, displays -/
def aNil : Env → T (List D) := fun _ => .ret []
def aCons (a : Env → T D) (r : Env → T (List D)) : Env → T (List D) := fun ρ => (a ρ).bind fun x => (r ρ).bind fun xs => .ret (x :: xs)
def aStar (a : Env → T D) (r : Env → T (List D)) : Env → T (List D) := fun ρ => (a ρ).bind fun x => match seqD x with | some ys => (r ρ).bind fun xs => .ret (ys ++ xs) | none => .fail
theorem ea_nil : EvA c tNil aNil := fun σ H P ρ n R o er ok Q q => q [] H [] n ok (ExU.refl _ _) o .nil
theorem ea_cons {te : TE} {ta : TA} {F : Env → T D} {G : Env → T (List D)} (h : EvE c te F) (hr : EvA c ta G) : EvA c (tCons te ta) (aCons F G) := fun σ H P ρ n R o er ok Q q =>
  h σ H P ρ n _ o er (T.ok_bind.mp ok) _ fun x H1 d n1 ok1 e1 o1 rx => hr σ H1 P ρ n1 _ o1 (er.exu o.pu e1) (T.ok_bind.mp ok1) _ fun xs H2 ds n2 ok2 e2 o2 rs =>
    q _ H2 _ n2 ok2 (e1.trans e2) o2 (.cons (rx.sub (Sub.msk o.pu e2)) rs)
theorem ea_star {te : TE} {ta : TA} {F : Env → T D} {G : Env → T (List D)} (h : EvX c te F) (hr : EvA c ta G) : EvA c (StX.tStar c.K te ta) (aStar F G) := fun σ H P ρ n R o er ok Q q =>
  h σ H P ρ n _ o er (T.ok_bind.mp ok) _ fun x H1 d n1 ok1 e1 o1 rx => by
    split at ok1
    · rename_i ys hs
      obtain ⟨a, xs, rfl, hx, hxr⟩ := rx.seq hs
      exact ⟨a, xs, rfl, hx.symm, hr σ H1 P ρ n1 _ o1 (er.exu o.pu e1) (T.ok_bind.mp ok1) _ fun zs H2 ds n2 ok2 e2 o2 rs =>
        q _ H2 _ n2 ok2 (e1.trans e2) o2 ((hxr.sub (Sub.msk o.pu e2)).append rs)⟩
    · exact ok1.elim
/-- a tuple display: the new tuple has no dict -/
def tTupN (t : TA) : TE := fun σ H Q => t σ H fun xs H1 => xs.length ≤ sizeLine ∧ ∀ (ob : Obj) (p : Addr), ob.dict = none → H1 p = none → Q (.ref p) (upd H1 p (.frz ob (.tup xs)))
theorem pe_tupN {X : Cx} {es : List Expr} {x1} {pos : Pos} {t : TA} (h : PA X es t) : PE X (.Tuple es x1 pos) (tTupN t) := by
  refine ⟨fun pins s σ H Q I hq => ?_⟩
  refine wpAny_Tuple_spliced (thn (h.run pos pins s σ H _ I hq) fun us s1 ⟨xs, H1, I1, r, z, q⟩ => ⟨by rw [← r.length]; exact z, ?_⟩)
  have hf : H1 s1.heap.objs.size = none := I1.hok.fresh (Nat.le_refl _)
  refine ⟨.ref s1.heap.objs.size, _, I1.laid (t' := s1.toks) (o := .frz _ (.tup xs)) (fun b u e => Heap.get?_push_of_some _ e) (Nat.le_refl _) ⟨Heap.get?_push_size _ rfl, ?_⟩, rfl, q _ _ rfl hf⟩
  exact ⟨z, us, r, ⟨_, Heap.get?_push_size _ rfl, rfl, _, rfl⟩⟩
def fTup (a : Env → T (List D)) : Env → T D := fun ρ => (a ρ).bind fun xs => match decide (xs.length ≤ capD) with | true => .ret (.tup xs) | false => .fail
def fLst (a : Env → T (List D)) : Env → T (List D) := fun ρ => (a ρ).bind fun xs => match decide (xs.length ≤ capD) with | true => .ret xs | false => .fail
def fOfL (a : Env → T (List D)) : Env → T D := fun ρ => (a ρ).bind fun ds => .ret (.lst ds)
theorem ev_tup {ta : TA} {F : Env → T (List D)} (h : EvA c ta F) : EvE c (tTupN ta) (fTup F) := fun σ H P ρ n R o er ok Q q =>
  h σ H P ρ n _ o er (T.ok_bind.mp ok) _ fun xs H1 ds n1 ok1 e1 o1 rs => by
    split at ok1
    · rename_i hb
      have hl := of_decide_eq_true hb
      have l1 := rs.length
      exact ⟨cap_le (by omega), fun ob p hob hp => q _ _ _ n1 ok1 (e1.trans (ExU.new hp)) (o1.new hp) (rep_newT o1 hob hp rs)⟩
    · exact ok1.elim
theorem el_lst {ta : TA} {F : Env → T (List D)} (h : EvA c ta F) : EvL c (tLst ta) (fLst F) := fun σ H P ρ n R o er ok Q q =>
  h σ H P ρ n _ o er (T.ok_bind.mp ok) _ fun xs H1 ds n1 ok1 e1 o1 rs => by
    split at ok1
    · rename_i hb
      have hl := of_decide_eq_true hb
      have l1 := rs.length
      refine ⟨cap_le (by omega), fun p hp => q p xs _ ds n1 ok1 (e1.trans (ExU.new hp)) (o1.new hp) (e1.free (o1.nu hp) hp) upd_same (rs.sub ?_)⟩
      intro a w ha
      obtain ⟨h1, h2⟩ := msk_some.mp ha
      have na : a ≠ p := ne_of_none h2 hp
      exact msk_some.mpr ⟨fun z => z.elim h1 na, by rw [upd_ne na]; exact h2⟩
    · exact ok1.elim
theorem ev_lst {te : TE} {F : Env → T (List D)} (h : EvL c te F) : EvE c te (fOfL F) := h.e

/-! #### subscripts -/
/-- the item at i of a list, a tuple, a text -/
def ixD (x i : D) : T D := match i with
  | .int i => (match x with
    | .lst ds => (match atI ds i with | some d => .ret d | none => .fail)
    | .tup ds => (match atI ds i with | some d => .ret d | none => .fail)
    | .str z => (match decide (z.length ≤ capD) with | true => (match atI z.cps.toList i with | some k => .ret (.str ⟨#[k]⟩) | none => .fail) | false => .fail)
    | _ => .fail)
  | _ => .fail
theorem Reps.at {G : Hp} {vs : List V} {ds : List D} {i : Int} {d : D} (r : Reps c G vs ds) (h : atI ds i = some d) : ∃ v, atI vs i = some v ∧ Rep c G v d := by
  unfold atI at h ⊢
  rw [r.length]
  cases e : ixN ds.length i with
  | none => rw [e] at h; cases h
  | some j =>
    rw [e] at h
    exact r.get h
theorem rop_ix : RopE c (rIx c.K) ixD := by
  intro H P n x y d e R o rx ry ok Q q
  unfold ixD at ok
  split at ok
  · obtain rfl := ry.int
    split at ok
    · split at ok
      · rename_i hd
        obtain ⟨a, xs, rfl, hx, hr⟩ := rx.lst
        obtain ⟨v, h1, h2⟩ := hr.at hd
        exact .inl ⟨a, xs, _, v, rfl, rfl, .of hx, h1, q _ H _ n ok (ExU.refl _ _) o h2⟩
      · exact ok.elim
    · split at ok
      · rename_i hd
        obtain ⟨a, xs, rfl, hx, hr⟩ := rx.tup
        obtain ⟨v, h1, h2⟩ := hr.at hd
        exact .inr (.inl ⟨a, xs, _, v, rfl, rfl, hx.sq, h1, q _ H _ n ok (ExU.refl _ _) o h2⟩)
      · exact ok.elim
    · split at ok
      · rename_i hl
        split at ok
        · rename_i hd
          obtain rfl := rx.str
          exact .inr (.inr ⟨_, _, _, rfl, rfl, cap_le (of_decide_eq_true hl), hd, q _ H _ n ok (ExU.refl _ _) o (.str _)⟩)
        · exact ok.elim
      · exact ok.elim
    · exact ok.elim
  · exact ok.elim
/-- x[lo:hi] -/
def cutD (xs : List D) (lo hi : Option Int) : List D := (xs.drop (HT.sIx xs.length 0 lo)).take (HT.sIx xs.length xs.length hi - HT.sIx xs.length 0 lo)
theorem Reps.cut {G : Hp} {vs : List V} {ds : List D} (r : Reps c G vs ds) (lo hi : Option Int) : Reps c G (cutV vs lo hi) (cutD ds lo hi) := by
  unfold cutV cutD
  rw [r.length]
  exact (r.drop _).take _
def slD (x : D) (lo hi : Option Int) : T D := match x with
  | .lst ds => .ret (.lst (cutD ds lo hi))
  | .tup ds => .ret (.tup (cutD ds lo hi))
  | _ => .fail
/-- t[lo:hi]: a new tuple without a dict, or t itself -/
def rSlN (K : PySem.W.Frag) : V → Option Int → Option Int → Hp → VK → Prop := fun x lo hi H Q => ∃ a xs, x = .ref a ∧ SqT K H a xs ∧
  (HT.sIx xs.length 0 lo = 0 ∧ HT.sIx xs.length xs.length hi = xs.length → Q (.ref a) H) ∧
  (¬ (HT.sIx xs.length 0 lo = 0 ∧ HT.sIx xs.length xs.length hi = xs.length) → ∀ (ob : Obj) (p : Addr), ob.dict = none → H p = none → Q (.ref p) (upd H p (.frz ob (.tup (cutV xs lo hi)))))
theorem sl_tupN {X : Cx} : L2.SlR X (rSlN X.K) := by
  intro pins s σ H x v vl vu lo hi sl Q I rx hs pl pu h
  obtain ⟨a, xs, rfl, hx, q1, q2⟩ := h
  cases rx
  obtain ⟨its, r, ht, hz⟩ := I.tuple hx
  have hlen : its.toArray.size = xs.length := by rw [List.size_toArray]; exact r.length.symm
  refine ⟨"tuple", _, PyProof.Rows.slot_tuple_getitem.lookup, ht.typeIs, ?_⟩
  by_cases hw : HT.sIx xs.length 0 lo = 0 ∧ HT.sIx xs.length xs.length hi = xs.length
  · exact getItem_tuple_whole ht hs pl pu (by rw [hlen]; exact hw) ⟨.ref a, H, I, rfl, q1 hw⟩
  · refine HT.getItem_tuple_cut ht hs pl pu (by rw [hlen]; exact hw) ?_ (by rw [hlen]; exact hz)
    rw [hlen]
    refine ⟨.ref s.heap.objs.size, _, I.laid (t' := s.toks) (o := .frz _ (.tup (cutV xs lo hi))) (fun b ob q => Heap.get?_push_of_some _ q) (Nat.le_refl _) ⟨Heap.get?_push_size _ rfl, ?_⟩, rfl, q2 hw _ _ rfl (I.hok.fresh (Nat.le_refl _))⟩
    exact ⟨Nat.le_trans (cutV_length xs lo hi) hz, _, (r.drop (HT.sIx xs.length 0 lo)).take (HT.sIx xs.length xs.length hi - HT.sIx xs.length 0 lo), IsTup.new _ _⟩
def rSlD (K : PySem.W.Frag) : V → Option Int → Option Int → Hp → VK → Prop := fun x lo hi H Q => rSlL K x lo hi H Q ∨ rSlN K x lo hi H Q
theorem sl_D {X : Cx} : L2.SlR X (rSlD X.K) := sl_list.or sl_tupN
/-- a part of a slice -/
def EvO (c : Ct) (to : TO) (F : Env → T (Option Int)) : Prop := ∀ (σ : L2.St) (H : Hp) (P : Addr → Prop) (ρ : Env) (n : Nat) (R : Option Int → Nat → Prop), Ok c P H n → EnvR c P H σ ρ → (F ρ).ok n R →
  ∀ Q : Option Int → Hp → Prop, (∀ b H' n', R b n' → ExU c.u H H' → Ok c P H' n' → Q b H') → to σ H Q
def oNo : Env → T (Option Int) := fun _ => .ret none
def intD : D → T Int
  | .int i => .ret i
  | _ => .fail
def oSome (a : Env → T D) : Env → T (Option Int) := fun ρ => ((a ρ).bind intD).bind fun i => .ret (some i)
theorem eo_no : EvO c tNoPart oNo := fun σ H P ρ n R o er ok Q q => q none H n ok (ExU.refl _ _) o
theorem eo_some {te : TE} {F : Env → T D} (h : EvX c te F) : EvO c (tPart te) (oSome F) := fun σ H P ρ n R o er ok Q q =>
  h σ H P ρ n _ o er (T.ok_bind.mp (T.ok_bind.mp ok)) _ fun x H1 d n1 ok1 e1 o1 rx => by
    unfold intD at ok1
    split at ok1
    · exact ⟨_, rx.int, q _ H1 n1 ok1 e1 o1⟩
    · exact ok1.elim
def fSl (a : Env → T D) (lo hi : Env → T (Option Int)) : Env → T D := fun ρ => (a ρ).bind fun x => (lo ρ).bind fun l => (hi ρ).bind fun h => slD x l h
theorem ev_sl {te : TE} {tl th : TO} {F : Env → T D} {L U : Env → T (Option Int)} (h : EvX c te F) (hl : EvO c tl L) (hh : EvO c th U) : EvE c (L2.tSl (rSlD c.K) te tl th) (fSl F L U) := fun σ H P ρ n R o er ok Q q =>
  h σ H P ρ n _ o er (T.ok_bind.mp ok) _ fun x H1 d n1 ok1 e1 o1 rx => hl σ H1 P ρ n1 _ o1 (er.exu o.pu e1) (T.ok_bind.mp ok1) _ fun l H2 n2 ok2 e2 o2 =>
    hh σ H2 P ρ n2 _ o2 (er.exu o.pu (e1.trans e2)) (T.ok_bind.mp ok2) _ fun u H3 n3 ok3 e3 o3 => by
      have rx3 := rx.exu o.pu (e2.trans e3)
      have ee := e1.trans (e2.trans e3)
      unfold slD at ok3
      split at ok3
      · obtain ⟨a, xs, rfl, hx, hr⟩ := rx3.lst
        exact .inl ⟨a, xs, rfl, .of hx, fun p hp => q _ _ _ n3 ok3 (ee.trans (ExU.new hp)) (o3.new hp) (rep_newL o3 hp (hr.cut l u))⟩
      · rename_i ds0
        have ty := rx3.tupR
        obtain ⟨a, xs, rfl, hx, hr⟩ := rx3.tup
        refine .inr ⟨a, xs, rfl, hx.sq, fun hw => ?_, fun hw ob p hob hp => q _ _ _ n3 ok3 (ee.trans (ExU.new hp)) (o3.new hp) (rep_newT o3 hob hp (hr.cut l u))⟩
        have hl := hr.length
        have e : cutD ds0 l u = ds0 := by
          unfold cutD
          rw [← hl, hw.1, hw.2]
          rw [List.drop_zero, Nat.sub_zero, hl]
          exact List.take_length
        rw [e] at ok3
        exact q _ H3 _ n3 ok3 ee o3 ty
      · exact ok3.elim
end
end DL
end

section
set_option maxRecDepth 100000
set_option maxHeartbeats 2000000
/-! DLd: what is walked; comprehensions. -/
namespace DL
open PySem PySem.Spec PyProof.Rows L2 DR
/-- an iterator gives these, as long as Kp holds of the heap; H0: the heap where it began -/
structure Yl (c : Ct) (P : Addr → Prop) (J : It) (H0 : Hp) (ds : List D) (Kp : Hp → Prop) : Prop where
  go : ∀ i H, Kp H → i < ds.length → J.go i H
  stop : ∀ H, Kp H → J.stop ds.length H
  yl : ∀ i H v H' d, Kp H → ds[i]? = some d → J.yld i H v H' →
    (H' = H ∧ Rep c (Msk P H0) v d) ∨ ∃ T x y d1 d2, v = .ref T ∧ H T = none ∧ H' = upd H T (.tup [x, y]) ∧ d = .pr d1 d2 ∧ Rep c (Msk P H0) x d1 ∧ Rep c (Msk P H0) y d2
/-- the source is apart from P; it may be a list of the frame's own -/
def EvI (c : Ct) (wi : TI) (F : Env → T (List D)) : Prop := ∀ (σ : L2.St) (H : Hp) (P : Addr → Prop) (ρ : Env) (n : Nat) (R : List D → Nat → Prop), Ok c P H n → EnvR c P H σ ρ → (F ρ).ok n R →
  ∀ Rk : It → Hp → Prop, (∀ J H' ds n', R ds n' → ExU c.u H H' → Ok c P H' n' → Yl c P J H' ds (fun G => Sub (Msk P H') G) → Rk J H') → wi σ H Rk
def EvIX (c : Ct) (wi : TI) (F : Env → T (List D)) : Prop := ∀ (σ : L2.St) (H : Hp) (P : Addr → Prop) (ρ : Env) (n : Nat) (R : List D → Nat → Prop), Ok c P H n → EnvR c P H σ ρ → (F ρ).ok n R →
  ∀ Rk : It → Hp → Prop, (∀ J H' ds n', R ds n' → ExU c.u H H' → Ok c P H' n' → Yl c P J H' ds (fun G => ExU c.u H' G) → Rk J H') → wi σ H Rk
section
variable {c : Ct} {P : Addr → Prop} {H H' : Hp}
theorem Yl.weak {J : It} {ds : List D} {Kp Kp' : Hp → Prop} (y : Yl c P J H ds Kp) (h : ∀ G, Kp' G → Kp G) : Yl c P J H ds Kp' :=
  ⟨fun i G k => y.go i G (h G k), fun G k => y.stop G (h G k), fun i G v G' d k => y.yl i G v G' d (h G k)⟩
theorem EvI.x {wi : TI} {F : Env → T (List D)} (h : EvI c wi F) : EvIX c wi F := fun σ H P ρ n R o er ok Rk q =>
  h σ H P ρ n R o er ok Rk fun J H' ds n' r e o' y => q J H' ds n' r e o' (y.weak fun G g => Sub.trans (Sub.msk o.pu g) Sub.of_msk)

/-! ### sources -/
def seqT (d : D) : T (List D) := match seqD d with
  | some ds => .ret ds
  | none => .fail
def iSeq (a : Env → T D) : Env → T (List D) := fun ρ => (a ρ).bind seqT
theorem seqT_ok {d : D} {n : Nat} {R : List D → Nat → Prop} (h : (seqT d).ok n R) : ∃ ds, seqD d = some ds ∧ R ds n := by
  unfold seqT at h
  split at h
  · rename_i ds e
    exact ⟨ds, e, h⟩
  · exact h.elim
/-- where a sequence stands: in the part apart, or as a list of the frame's own -/
def SrcK (K : PySem.W.Frag) (k : Bool) (P : Addr → Prop) (H : Hp) (a : Addr) (xs : List V) : Prop := SqK K k (Msk P H) a xs
theorem _root_.DR.SqK.sub {K : PySem.W.Frag} {k : Bool} {G G' : Hp} {a : Addr} {xs : List V} (e : Sub G G') (h : SqK K k G a xs) : SqK K k G' a xs := by
  cases k
  · exact sub_l e h
  · exact sub_t e h
theorem Rep.seqK {v : V} {d : D} {ds : List D} (h : Rep c (Msk P H) v d) (e : seqD d = some ds) : ∃ k a xs, v = .ref a ∧ SqK c.K k (Msk P H) a xs ∧ Reps c (Msk P H) xs ds := by
  cases d with
  | lst es =>
    cases e
    cases h with
    | lst h r => exact ⟨false, _, _, rfl, SqL.of h, r⟩
  | tup es =>
    cases e
    cases h with
    | tup h r => exact ⟨true, _, _, rfl, h.sq, r⟩
  | _ => cases e
theorem RepX.seqK {v : V} {d : D} {ds : List D} (h : RepX c P H v d) (e : seqD d = some ds) : ∃ k a xs, v = .ref a ∧ (∀ G, ExU c.u H G → P c.u → SqK c.K k G a xs) ∧ Reps c (Msk P H) xs ds := by
  rcases h with h | ⟨a, xs, es, h1, h2, h3, h4, h5⟩
  · obtain ⟨k, a, xs, h1, h2, h3⟩ := h.seqK e
    exact ⟨k, a, xs, h1, fun G g hu => h2.sub (Sub.trans (Sub.msk hu g) Sub.of_msk), h3⟩
  · subst h3
    cases e
    exact ⟨false, a, xs, h1, fun G g _ => SqL.of (g _ _ h2 h4), h5⟩

theorem yl_sq {k : Bool} {a : Addr} {xs : List V} {ds : List D} {Kp : Hp → Prop} (hk : ∀ G, Kp G → SqK c.K k G a xs) (r : Reps c (Msk P H) xs ds) : Yl c P (ItS c.K k a) H ds Kp := by
  have l := r.length
  refine ⟨fun i G g hi => ?_, fun G g => ?_, fun i G v G' d g hd y => ?_⟩
  · have hs := hk G g
    cases k
    · exact ⟨xs, xs[i]'(by omega), hs, by simp [show i < xs.length by omega]⟩
    · exact ⟨xs, xs[i]'(by omega), hs, by simp [show i < xs.length by omega]⟩
  · have hs := hk G g
    cases k
    · exact ⟨xs, hs, Nat.le_of_eq l⟩
    · exact ⟨xs, hs, Nat.le_of_eq l⟩
  · have hs := hk G g
    obtain ⟨w, hw, rw'⟩ := r.get hd
    cases k
    · obtain ⟨rfl, y2⟩ := y
      have := y2 xs hs
      rw [hw] at this
      cases this
      exact .inl ⟨rfl, rw'⟩
    · obtain ⟨rfl, y2⟩ := y
      have := y2 xs hs
      rw [hw] at this
      cases this
      exact .inl ⟨rfl, rw'⟩
theorem ei_sq {te : TE} {F : Env → T D} (h : EvE c te F) : EvI c (DR.iSq c.K te) (iSeq F) := fun σ H P ρ n R o er ok Rk q =>
  h σ H P ρ n _ o er (T.ok_bind.mp ok) _ fun x H1 d n1 ok1 e1 o1 rx => by
    obtain ⟨ds, hs, r⟩ := seqT_ok ok1
    obtain ⟨k, a, xs, rfl, h1, h2⟩ := rx.seqK hs
    exact ⟨k, a, xs, rfl, h1.sub Sub.of_msk, q _ H1 ds n1 r e1 o1 (yl_sq (fun G g => h1.sub g) h2)⟩
theorem ei_sqX {te : TE} {F : Env → T D} (h : EvX c te F) : EvIX c (DR.iSq c.K te) (iSeq F) := fun σ H P ρ n R o er ok Rk q =>
  h σ H P ρ n _ o er (T.ok_bind.mp ok) _ fun x H1 d n1 ok1 e1 o1 rx => by
    obtain ⟨ds, hs, r⟩ := seqT_ok ok1
    obtain ⟨k, a, xs, rfl, h1, h2⟩ := rx.seqK hs
    exact ⟨k, a, xs, rfl, h1 H1 (ExU.refl _ _) o.pu, q _ H1 ds n1 r e1 o1 (yl_sq (fun G g => h1 G g o.pu) h2)⟩
/-! enumerate -/
def enumFrom (k : Int) : List D → List D
  | [] => []
  | d :: r => .pr (.int k) d :: enumFrom (k + 1) r
theorem enumFrom_len : ∀ (k : Int) (ds : List D), (enumFrom k ds).length = ds.length
  | _, [] => rfl
  | k, d :: r => by show (enumFrom (k + 1) r).length + 1 = _; rw [enumFrom_len]; rfl
theorem enumFrom_get : ∀ (k : Int) (ds : List D) (i : Nat), (enumFrom k ds)[i]? = ds[i]?.map fun d => .pr (.int (k + (i : Int))) d
  | _, [], i => by simp [enumFrom]
  | k, d :: r, 0 => by simp [enumFrom]
  | k, d :: r, i + 1 => by
    show (enumFrom (k + 1) r)[i]? = r[i]?.map _
    rw [enumFrom_get]
    have e : k + 1 + (i : Int) = k + ((i + 1 : Nat) : Int) := by omega
    rw [e]
def iEnum (a : Env → T D) : Env → T (List D) := fun ρ => ((a ρ).bind seqT).bind fun ds => .ret (enumFrom 0 ds)
theorem yl_en {k : Bool} {a : Addr} {xs : List V} {ds : List D} {Kp : Hp → Prop} (st : Int) (hk : ∀ G, Kp G → SqK c.K k G a xs) (r : Reps c (Msk P H) xs ds) : Yl c P (DR.ItE c.K k a xs st) H (enumFrom st ds) Kp := by
  have l := r.length
  refine ⟨fun i G g hi => ⟨by rw [enumFrom_len] at hi; omega, hk G g⟩, fun G g => ⟨by rw [enumFrom_len]; omega, hk G g⟩, fun i G v G' d g hd y => ?_⟩
  obtain ⟨T, x, rfl, hT, rfl, hx⟩ := y
  rw [enumFrom_get] at hd
  obtain ⟨e, he, re⟩ := r.getV hx
  rw [he] at hd
  cases hd
  exact .inr ⟨T, _, _, _, _, rfl, hT, rfl, rfl, .int _, re⟩
theorem ei_en {te : TE} {F : Env → T D} (h : EvE c te F) : EvI c (DR.iEn c.K te 0) (iEnum F) := fun σ H P ρ n R o er ok Rk q =>
  h σ H P ρ n _ o er (T.ok_bind.mp (T.ok_bind.mp ok)) _ fun x H1 d n1 ok1 e1 o1 rx => by
    obtain ⟨ds, hs, r⟩ := seqT_ok ok1
    obtain ⟨k, a, xs, rfl, h1, h2⟩ := rx.seqK hs
    exact ⟨k, a, xs, rfl, h1.sub Sub.of_msk, q _ H1 _ n1 r e1 o1 (yl_en 0 (fun G g => h1.sub g) h2)⟩
theorem ei_enX {te : TE} {F : Env → T D} (h : EvX c te F) : EvIX c (DR.iEn c.K te 0) (iEnum F) := fun σ H P ρ n R o er ok Rk q =>
  h σ H P ρ n _ o er (T.ok_bind.mp (T.ok_bind.mp ok)) _ fun x H1 d n1 ok1 e1 o1 rx => by
    obtain ⟨ds, hs, r⟩ := seqT_ok ok1
    obtain ⟨k, a, xs, rfl, h1, h2⟩ := rx.seqK hs
    exact ⟨k, a, xs, rfl, h1 H1 (ExU.refl _ _) o.pu, q _ H1 _ n1 r e1 o1 (yl_en 0 (fun G g => h1 G g o.pu) h2)⟩
/-! zip -/
def zipD : List D → List D → List D
  | a :: r, b :: s => .pr a b :: zipD r s
  | _, _ => []
theorem zipD_len : ∀ (a b : List D), (zipD a b).length = min a.length b.length
  | a :: r, b :: s => by show (zipD r s).length + 1 = _; rw [zipD_len, List.length_cons, List.length_cons]; omega
  | [], b => by simp [zipD]
  | a :: r, [] => by simp [zipD]
theorem zipD_get : ∀ (a b : List D) (i : Nat) (x y : D), a[i]? = some x → b[i]? = some y → (zipD a b)[i]? = some (.pr x y)
  | a :: r, b :: s, 0, x, y, h1, h2 => by cases h1; cases h2; rfl
  | a :: r, b :: s, i + 1, x, y, h1, h2 => zipD_get r s i x y h1 h2
  | [], b, i, x, y, h1, h2 => by simp at h1
  | a :: r, [], i, x, y, h1, h2 => by simp at h2
def iZip (a b : Env → T D) : Env → T (List D) := fun ρ => (a ρ).bind fun x => (b ρ).bind fun y => (seqT x).bind fun xs => (seqT y).bind fun ys => .ret (zipD xs ys)
theorem yl_zp {k k' : Bool} {a b : Addr} {xs ys : List V} {ds es : List D} {Kp : Hp → Prop} (hk : ∀ G, Kp G → SqK c.K k G a xs) (hk' : ∀ G, Kp G → SqK c.K k' G b ys) (r : Reps c (Msk P H) xs ds) (r' : Reps c (Msk P H) ys es) :
    Yl c P (DR.ItZ c.K k a xs k' b ys) H (zipD ds es) Kp := by
  have l := r.length
  have l' := r'.length
  refine ⟨fun i G g hi => ⟨by rw [zipD_len] at hi; omega, by rw [zipD_len] at hi; omega, hk G g, hk' G g⟩, fun G g => ⟨by rw [zipD_len]; omega, hk G g, hk' G g⟩, fun i G v G' d g hd y => ?_⟩
  obtain ⟨T, x, y, rfl, hT, rfl, hx, hy⟩ := y
  obtain ⟨e, he, re⟩ := r.getV hx
  obtain ⟨f, hf, rf⟩ := r'.getV hy
  rw [zipD_get _ _ _ _ _ he hf] at hd
  cases hd
  exact .inr ⟨T, _, _, _, _, rfl, hT, rfl, rfl, re, rf⟩
theorem ei_zp {te tf : TE} {F G : Env → T D} (h : EvE c te F) (h' : EvE c tf G) : EvI c (DR.iZp c.K te tf) (iZip F G) := fun σ H P ρ n R o er ok Rk q =>
  h σ H P ρ n _ o er (T.ok_bind.mp ok) _ fun x H1 d n1 ok1 e1 o1 rx => h' σ H1 P ρ n1 _ o1 (er.exu o.pu e1) (T.ok_bind.mp ok1) _ fun y H2 d2 n2 ok2 e2 o2 ry => by
    obtain ⟨ds, hs, ok3⟩ := seqT_ok (T.ok_bind.mp ok2)
    obtain ⟨es, hs', r⟩ := seqT_ok (T.ok_bind.mp ok3)
    obtain ⟨k, a, xs, rfl, h1, h2⟩ := (rx.sub (Sub.msk o.pu e2)).seqK hs
    obtain ⟨k', b, ys, rfl, h3, h4⟩ := ry.seqK hs'
    exact ⟨k, a, xs, k', b, ys, rfl, rfl, h1.sub Sub.of_msk, h3.sub Sub.of_msk, q _ H2 _ n2 r (e1.trans e2) o2 (yl_zp (fun G g => h1.sub g) (fun G g => h3.sub g) h2 h4)⟩
theorem ei_zpX {te tf : TE} {F G : Env → T D} (h : EvX c te F) (h' : EvX c tf G) : EvIX c (DR.iZp c.K te tf) (iZip F G) := fun σ H P ρ n R o er ok Rk q =>
  h σ H P ρ n _ o er (T.ok_bind.mp ok) _ fun x H1 d n1 ok1 e1 o1 rx => h' σ H1 P ρ n1 _ o1 (er.exu o.pu e1) (T.ok_bind.mp ok1) _ fun y H2 d2 n2 ok2 e2 o2 ry => by
    obtain ⟨ds, hs, ok3⟩ := seqT_ok (T.ok_bind.mp ok2)
    obtain ⟨es, hs', r⟩ := seqT_ok (T.ok_bind.mp ok3)
    obtain ⟨k, a, xs, rfl, h1, h2⟩ := (rx.exu o.pu e2).seqK hs
    obtain ⟨k', b, ys, rfl, h3, h4⟩ := ry.seqK hs'
    exact ⟨k, a, xs, k', b, ys, rfl, rfl, h1 H2 (ExU.refl _ _) o.pu, h3 H2 (ExU.refl _ _) o.pu, q _ H2 _ n2 r (e1.trans e2) o2 (yl_zp (fun G g => h1 G g o.pu) (fun G g => h3 G g o.pu) h2 h4)⟩
/-! range -/
def rangeD (lo : Int) : Nat → List D
  | 0 => []
  | n + 1 => .int lo :: rangeD (lo + 1) n
theorem rangeD_len : ∀ (lo : Int) (n : Nat), (rangeD lo n).length = n
  | _, 0 => rfl
  | lo, n + 1 => by show (rangeD (lo + 1) n).length + 1 = _; rw [rangeD_len]
theorem rangeD_get : ∀ (lo : Int) (n i : Nat), i < n → (rangeD lo n)[i]? = some (.int (lo + (i : Int)))
  | lo, 0, i, h => absurd h (Nat.not_lt_zero _)
  | lo, n + 1, 0, h => by simp [rangeD]
  | lo, n + 1, i + 1, h => by
    show (rangeD (lo + 1) n)[i]? = _
    rw [rangeD_get (lo + 1) n i (by omega)]
    have e : lo + 1 + (i : Int) = lo + ((i + 1 : Nat) : Int) := by omega
    rw [e]
theorem yl_rg {lo : Int} {n : Nat} {Kp : Hp → Prop} : Yl c P (Itr lo n) H (rangeD lo n) Kp := by
  refine ⟨fun i G g hi => by rw [rangeD_len] at hi; exact hi, fun G g => by rw [rangeD_len]; exact Nat.le_refl _, fun i G v G' d g hd y => ?_⟩
  obtain ⟨rfl, rfl⟩ := y
  have hi : i < n := by
    have := (List.getElem?_eq_some_iff.mp hd).1
    rw [rangeD_len] at this
    exact this
  rw [rangeD_get lo n i hi] at hd
  cases hd
  exact .inl ⟨rfl, .int _⟩
def okR (i : Int) : Bool := decide (-1000000000000 ≤ i ∧ i ≤ 1000000000000)
def iRange1 (a : Env → T (List D)) : Env → T (List D) := fun ρ => (a ρ).bind fun l => match l with
  | [.int n] => (match okR n with | true => .ret (rangeD 0 n.toNat) | false => .fail)
  | _ => .fail
def iRange2 (a : Env → T (List D)) : Env → T (List D) := fun ρ => (a ρ).bind fun l => match l with
  | [.int i, .int j] => (match okR i && okR j with | true => .ret (rangeD i (j - i).toNat) | false => .fail)
  | _ => .fail
end
end DL
namespace DL
open PySem PySem.Spec PyProof.Rows L2 DR
section
variable {c : Ct} {P : Addr → Prop} {H H' : Hp}
theorem reps1 {G : Hp} {vs : List V} {d : D} (r : Reps c G vs [d]) : ∃ v, vs = [v] ∧ Rep c G v d := by
  cases r with
  | cons h r => cases r; exact ⟨_, rfl, h⟩
theorem reps2 {G : Hp} {vs : List V} {d e : D} (r : Reps c G vs [d, e]) : ∃ v w, vs = [v, w] ∧ Rep c G v d ∧ Rep c G w e := by
  cases r with
  | cons h r =>
    obtain ⟨w, rfl, k⟩ := reps1 r
    exact ⟨_, w, rfl, h, k⟩
theorem rep_int {G : Hp} {v : V} {i : Int} (r : Rep c G v (.int i)) : v = .int i := by cases r; rfl
theorem ei_rg1 {ta : TA} {F : Env → T (List D)} (h : EvA c ta F) : EvI c (iRng1 ta) (iRange1 F) := fun σ H P ρ n R o er ok Rk q =>
  h σ H P ρ n _ o er (T.ok_bind.mp ok) _ fun vs H1 ds n1 ok1 e1 o1 rs => by
    split at ok1
    · split at ok1
      · rename_i hb
        have hb := of_decide_eq_true hb
        obtain ⟨v, rfl, r⟩ := reps1 rs
        obtain rfl := rep_int r
        exact ⟨_, rfl, by omega, by omega, q _ H1 _ n1 ok1 e1 o1 yl_rg⟩
      · exact ok1.elim
    · exact ok1.elim
theorem ei_rg2 {ta : TA} {F : Env → T (List D)} (h : EvA c ta F) : EvI c (iRng2 ta) (iRange2 F) := fun σ H P ρ n R o er ok Rk q =>
  h σ H P ρ n _ o er (T.ok_bind.mp ok) _ fun vs H1 ds n1 ok1 e1 o1 rs => by
    split at ok1
    · split at ok1
      · rename_i hb
        obtain ⟨hb1, hb2⟩ := Bool.and_eq_true_iff.mp hb
        have hb1 := of_decide_eq_true hb1
        have hb2 := of_decide_eq_true hb2
        obtain ⟨v, w, rfl, r, r'⟩ := reps2 rs
        obtain rfl := rep_int r
        obtain rfl := rep_int r'
        exact ⟨_, _, rfl, ⟨by omega, by omega, by omega, by omega⟩, q _ H1 _ n1 ok1 e1 o1 yl_rg⟩
      · exact ok1.elim
    · exact ok1.elim

/-! ### targets -/
/-- a target: the names it sets are among vs -/
structure EvG (c : Ct) (g : TG) (vs : List Nat) (F : D → Env → T Env) : Prop where
  ev : ∀ (σ : L2.St) (H : Hp) (P : Addr → Prop) (ρ : Env) (n : Nat) (R : Env → Nat → Prop) (v : V) (d : D), Ok c P H n → EnvR c P H σ ρ → Rep c (Msk P H) v d → (F d ρ).ok n R →
    ∀ Q : L2.St → Hp → Prop, (∀ σ' ρ' n', R ρ' n' → n' = n → EnvR c P H σ' ρ' → σ'.length = σ.length → (∀ j, j ∉ vs → σ'[j]? = σ[j]? ∧ ρ'[j]? = ρ[j]?) → Q σ' H) → g v σ H Q
def gSet (i : Nat) : D → Env → T Env := fun d ρ => .ret (ρ.set i (.val d))
theorem EnvR.set {σ : L2.St} {ρ : Env} {v : V} {d : D} (er : EnvR c P H σ ρ) (r : Rep c (Msk P H) v d) (i : Nat) : EnvR c P H (σ.set i (some v)) (ρ.set i (.val d)) := by
  refine ⟨by rw [List.length_set, List.length_set]; exact er.len, fun j s hs => ?_⟩
  by_cases hj : i = j
  · subst hj
    have hi : i < ρ.length := by
      have := (List.getElem?_eq_some_iff.mp hs).1
      rwa [List.length_set] at this
    rw [List.getElem?_set_self hi] at hs
    cases hs
    rw [List.getElem?_set_self (by rw [← er.len]; exact hi)]
    exact ⟨v, rfl, r⟩
  · rw [List.getElem?_set_ne hj] at hs ⊢
    exact er.at_ j s hs
theorem eg_name {i : Nat} : EvG c (gName i) [i] (gSet i) :=
  ⟨fun σ H P ρ n R v d o er r ok Q q => q _ _ n ok rfl (er.set r i) (by rw [List.length_set]) fun j hj => by
    have : i ≠ j := fun e => hj (by simp [e])
    exact ⟨by rw [List.getElem?_set_ne this], by rw [List.getElem?_set_ne this]⟩⟩
/-- targets in a tuple -/
structure EvGs (c : Ct) (g : TGs) (vs : List Nat) (F : List D → Env → T Env) : Prop where
  ev : ∀ (σ : L2.St) (H : Hp) (P : Addr → Prop) (ρ : Env) (n : Nat) (R : Env → Nat → Prop) (xs : List V) (ds : List D), Ok c P H n → EnvR c P H σ ρ → Reps c (Msk P H) xs ds → (F ds ρ).ok n R →
    ∀ Q : L2.St → Hp → Prop, (∀ σ' ρ' n', R ρ' n' → n' = n → EnvR c P H σ' ρ' → σ'.length = σ.length → (∀ j, j ∉ vs → σ'[j]? = σ[j]? ∧ ρ'[j]? = ρ[j]?) → Q σ' H) → g xs σ H Q
def gsNil : List D → Env → T Env := fun ds ρ => match ds with
  | [] => .ret ρ
  | _ => .fail
def gsCons (f : D → Env → T Env) (g : List D → Env → T Env) : List D → Env → T Env := fun ds ρ => match ds with
  | d :: r => (f d ρ).bind fun ρ' => g r ρ'
  | _ => .fail
theorem eg_nil : EvGs c gNil [] gsNil := ⟨fun σ H P ρ n R xs ds o er r ok Q q => by
  unfold gsNil at ok
  split at ok
  · cases r
    exact ⟨rfl, q σ ρ n ok rfl er rfl fun _ _ => ⟨rfl, rfl⟩⟩
  · exact ok.elim⟩
theorem eg_cons {g : TG} {gs : TGs} {vs ws : List Nat} {f : D → Env → T Env} {fs : List D → Env → T Env} (h : EvG c g vs f) (hs : EvGs c gs ws fs) : EvGs c (gCons g gs) (vs ++ ws) (gsCons f fs) :=
  ⟨fun σ H P ρ n R xs ds o er r ok Q q => by
    unfold gsCons at ok
    split at ok
    · rename_i d rr
      cases r with
      | cons h1 h2 =>
        refine ⟨_, _, rfl, h.ev σ H P ρ n _ _ d o er h1 (T.ok_bind.mp ok) _ fun σ1 ρ1 n1 ok1 en er1 l1 k1 => ?_⟩
        subst en
        refine hs.ev σ1 H P ρ1 n1 R _ rr o er1 h2 ok1 Q fun σ2 ρ2 n2 ok2 en er2 l2 k2 => q σ2 ρ2 n2 ok2 en er2 (l2.trans l1) fun j hj => ?_
        have j1 : j ∉ vs := fun m => hj (List.mem_append_left _ m)
        have j2 : j ∉ ws := fun m => hj (List.mem_append_right _ m)
        exact ⟨(k2 j j2).1.trans (k1 j j1).1, (k2 j j2).2.trans (k1 j j1).2⟩
    · exact ok.elim⟩
def gTupD (f : List D → Env → T Env) : D → Env → T Env := fun d ρ => match d with
  | .tup ds => f ds ρ
  | .pr x y => f [x, y] ρ
  | _ => .fail
/-- the targets' number is seen in what they take -/
theorem eg_tup {gs : TGs} {vs : List Nat} {fs : List D → Env → T Env} {m : Nat} (h : EvGs c gs vs fs) (hm : ∀ ds ρ n R, (fs ds ρ).ok n R → ds.length = m) : EvG c (gTup c.K m gs) vs (gTupD fs) :=
  ⟨fun σ H P ρ n R v d o er r ok Q q => by
    unfold gTupD at ok
    split at ok
    · cases r with
      | tup h1 h2 =>
        exact ⟨_, _, rfl, sub_t Sub.of_msk h1.sq, by rw [h2.length]; exact hm _ _ _ _ ok, h.ev σ H P ρ n R _ _ o er h2 ok Q q⟩
    · cases r with
      | pr h1 h2 h3 => exact ⟨_, _, rfl, sub_t Sub.of_msk h1, hm _ _ _ _ ok, h.ev σ H P ρ n R _ _ o er (.cons h2 (.cons h3 .nil)) ok Q q⟩
    · exact ok.elim⟩
theorem gs_len0 : ∀ ds ρ n R, (gsNil ds ρ).ok n R → ds.length = 0 := fun ds ρ n R h => by
  unfold gsNil at h
  split at h
  · rfl
  · exact h.elim
theorem T.ok_any {α : Type} : ∀ {m : T α} {n : Nat} {R : α → Nat → Prop} {p : Prop}, m.ok n R → (∀ a k, R a k → p) → p := by
  intro m
  induction m with
  | ret a => intro n R p h q; exact q _ _ h
  | fail => intro n R p h q; exact h.elim
  | take m k ih => intro n R p h q; exact ih 0 (h.2.2.2 0 (Int.le_refl _) h.1) q
theorem gs_len {f : D → Env → T Env} {g : List D → Env → T Env} {m : Nat} (h : ∀ ds ρ n R, (g ds ρ).ok n R → ds.length = m) : ∀ ds ρ n R, (gsCons f g ds ρ).ok n R → ds.length = m + 1 := fun ds ρ n R q => by
  unfold gsCons at q
  split at q
  · rename_i d rr
    exact T.ok_any (T.ok_bind.mp q) fun a k z => by
      rw [List.length_cons, h _ _ _ _ z]
  · exact q.elim

/-! ### comprehensions -/
def wipeE (ρ : Env) : List Nat → Env
  | [] => ρ
  | v :: vs => (wipeE ρ vs).set v .no
theorem wipeE_len : ∀ (ρ : Env) (vs : List Nat), (wipeE ρ vs).length = ρ.length
  | _, [] => rfl
  | ρ, v :: vs => by show ((wipeE ρ vs).set v .no).length = _; rw [List.length_set, wipeE_len]
theorem wipe_get : ∀ (σ : L2.St) (vs : List Nat) (j : Nat), (wipe σ vs)[j]? = if j ∈ vs ∧ j < σ.length then some none else σ[j]?
  | σ, [], j => by simp [wipe]
  | σ, v :: vs, j => by
    show ((wipe σ vs).set v none)[j]? = _
    by_cases hv : v = j
    · subst hv
      by_cases hl : v < σ.length
      · rw [List.getElem?_set_self (by rw [wipe_length]; exact hl), if_pos ⟨by simp, hl⟩]
      · rw [if_neg (fun z => hl z.2), List.getElem?_eq_none (by rw [List.length_set, wipe_length]; omega), List.getElem?_eq_none (by omega)]
    · rw [List.getElem?_set_ne hv, wipe_get]
      have e : (j ∈ v :: vs) ↔ j ∈ vs := by simp [Ne.symm hv]
      simp only [e]
theorem wipe_eq {σ τ : L2.St} {vs : List Nat} (hl : τ.length = σ.length) (h : ∀ j, j ∉ vs → τ[j]? = (wipe σ vs)[j]?) : wipe τ vs = wipe σ vs := by
  apply List.ext_getElem?
  intro j
  rw [wipe_get]
  by_cases hj : j ∈ vs
  · rw [wipe_get]
    by_cases hlt : j < τ.length
    · rw [if_pos ⟨hj, hlt⟩, if_pos ⟨hj, by omega⟩]
    · rw [if_neg (fun z => hlt z.2), if_neg (fun z => hlt (by omega)), List.getElem?_eq_none (by omega), List.getElem?_eq_none (by omega)]
  · rw [if_neg (fun z => hj z.1)]
    exact h j hj
theorem EnvR.wipe {σ : L2.St} {ρ : Env} (er : EnvR c P H σ ρ) : ∀ vs : List Nat, EnvR c P H (L2.wipe σ vs) (wipeE ρ vs)
  | [] => er
  | v :: vs => by
    have ih := EnvR.wipe er vs
    refine ⟨by rw [wipeE_len, wipe_length]; exact er.len, fun j s hs => ?_⟩
    have hs : ((wipeE ρ vs).set v .no)[j]? = some s := hs
    show SlotAt c P H (((L2.wipe σ vs).set v none)[j]?) s
    by_cases hj : v = j
    · subst hj
      have hi : v < (wipeE ρ vs).length := by
        have := (List.getElem?_eq_some_iff.mp hs).1
        rwa [List.length_set] at this
      rw [List.getElem?_set_self hi] at hs
      cases hs
      trivial
    · rw [List.getElem?_set_ne hj] at hs ⊢
      exact ih.at_ j s hs
def compT (g : D → Env → T Env) (t : Env → T Bool) (f : Env → T D) (ρ : Env) : List D → T (List D)
  | [] => .ret []
  | d :: r => (g d ρ).bind fun ρ' => (t ρ').bind fun b => match b with
    | true => (f ρ').bind fun y => (compT g t f ρ r).bind fun ys => .ret (y :: ys)
    | false => compT g t f ρ r
def fComp (i : Env → T (List D)) (g : D → Env → T Env) (t : Env → T Bool) (f : Env → T D) (vs : List Nat) : Env → T (List D) := fun ρ => (i ρ).bind fun ds => match decide (ds.length < capD) with
  | true => compT g t f (wipeE ρ vs) ds
  | false => .fail
/-- a comprehension: its source may be a list of the frame's own -/
theorem el_comp {wi : TI} {g : TG} {tt : TT} {te : TE} {vs ws : List Nat} {I : Env → T (List D)} {G : D → Env → T Env} {B : Env → T Bool} {F : Env → T D}
    (hi : EvIX c wi I) (hg : EvG c g ws G) (ht : EvT c tt B) (he : EvE c te F) (hw : ∀ j, j ∈ ws → j ∈ vs) : EvL c (tLc wi g tt te vs) (fComp I G B F vs) := by
  intro σ H P ρ n R o er ok Q q
  refine hi σ H P ρ n _ o er (T.ok_bind.mp ok) _ fun J H1 ds n1 ok1 e1 o1 yl => ?_
  split at ok1
  · rename_i hcap
    have hcap := of_decide_eq_true hcap
    intro L hL
    have nu : L ≠ c.u := o1.nu hL
    -- the new list is set apart
    let P' : Addr → Prop := fun a => P a ∨ a = L
    have o2 : Ok c P' (upd H1 L (.lst [])) n1 := (o1.new hL).more (by rw [upd_same]; simp)
    -- Pv: behind i turns
    let Pv : Nat → Hp → Prop := fun i G1 => ∃ m xs es, Ok c P' G1 m ∧ (∀ a w, a ≠ c.u → a ≠ L → H1 a = some w → G1 a = some w) ∧ G1 L = some (.lst xs) ∧ Reps c (Msk P' G1) xs es ∧ es.length ≤ i ∧
      (compT G B F (wipeE ρ vs) (ds.drop i)).ok m fun ys m' => R (es ++ ys) m'
    have kp : ∀ i G1, Pv i G1 → ExU c.u H1 G1 := fun i G1 ⟨m, xs, es, p1, p2, p3, p4, p5, p6⟩ a w ha hw' => p2 a w ha (ne_of_none hw' hL) hw'
    have W : Walk J ds.length (fun G1 => ExU c.u H1 G1) (fun i G1 v G2 => ∃ d, ds[i]? = some d ∧ ((G2 = G1 ∧ Rep c (Msk P H1) v d) ∨ ∃ T x y d1 d2, v = .ref T ∧ G1 T = none ∧ G2 = upd G1 T (.tup [x, y]) ∧ d = .pr d1 d2 ∧ Rep c (Msk P H1) x d1 ∧ Rep c (Msk P H1) y d2)) :=
      ⟨fun i G1 hi hG => yl.go i G1 hG hi, fun G1 hG => yl.stop G1 hG, fun i G1 v G2 hi hG hy => ⟨ds[i], List.getElem?_eq_getElem hi, yl.yl i G1 v G2 _ hG (List.getElem?_eq_getElem hi) hy⟩⟩
    refine lc_it W Pv ⟨n1, [], [], o2, fun a w _ na hw' => by rw [upd_ne na]; exact hw', upd_same, .nil, Nat.le_refl _, ?_⟩ (fun i G1 _ p => kp i G1 p) (fun i v G1 G2 hi p hy => ?_) fun G1 p => ?_
    · rw [List.drop_zero]
      exact T.ok_mono ok1 fun a k h => h
    · have hx := kp i G1 p
      obtain ⟨m, xs, es, p1, p2, p3, p4, p5, p6⟩ := p
      obtain ⟨d, hd, hy⟩ := hy
      have hdrop : ds.drop i = d :: ds.drop (i + 1) := by
        have h1 : i < ds.length := (List.getElem?_eq_some_iff.mp hd).1
        have h2 := List.drop_eq_getElem_cons h1
        have h3 : ds[i] = d := by rw [List.getElem?_eq_getElem h1] at hd; exact Option.some.inj hd
        rw [h2, h3]
      rw [hdrop] at p6
      -- the heap with the item
      have sub1 : Sub (Msk P H1) (Msk P' G1) := fun a w ha => by
        obtain ⟨h1, h2⟩ := msk_some.mp ha
        have na : a ≠ L := ne_of_none h2 hL
        exact msk_some.mpr ⟨fun z => z.elim h1 na, p2 a w (fun z => h1 (z ▸ o1.pu)) na h2⟩
      have key : ∃ m2, Ok c P' G2 m ∧ (∀ a w, a ≠ c.u → a ≠ L → H1 a = some w → G2 a = some w) ∧ G2 L = some (.lst xs) ∧ Reps c (Msk P' G2) xs es ∧ Rep c (Msk P' G2) v d ∧ ExU c.u G1 G2 ∧ m2 = m := by
        rcases hy with ⟨rfl, r⟩ | ⟨T, x, y, d1, d2, rfl, hT, rfl, rfl, r1, r2⟩
        · exact ⟨m, p1, p2, p3, p4, r.sub sub1, ExU.refl _ _, rfl⟩
        · have nT : L ≠ T := ne_of_none p3 hT
          have ex : ExU c.u G1 (upd G1 T (.tup [x, y])) := ExU.new hT
          exact ⟨m, p1.new hT, fun a w h1 h2 h3 => by rw [upd_ne (ne_of_none (p2 a w h1 h2 h3) hT)]; exact p2 a w h1 h2 h3, by rw [upd_ne nT]; exact p3, p4.sub (Sub.msk p1.pu ex),
            rep_newP p1 hT (r1.sub sub1) (r2.sub sub1), ex, rfl⟩
      obtain ⟨_, k1, k2, k3, k4, k5, k6, _⟩ := key
      have er2 : EnvR c P' G2 (wipe σ vs) (wipeE ρ vs) := by
        have e0 : EnvR c P H1 σ ρ := er.exu o.pu e1
        have e3 : ∀ j s, ρ[j]? = some s → SlotAt c P' G2 σ[j]? s := fun j s hs => by
          have h0 := e0.at_ j s hs
          have sub2 : Sub (Msk P H1) (Msk P' G2) := Sub.trans sub1 (Sub.msk p1.pu k6)
          cases s with
          | no => trivial
          | me => exact h0
          | val d => obtain ⟨w, h1, h2⟩ := h0; exact ⟨w, h1, h2.sub sub2⟩
          | own d =>
            obtain ⟨a, h1, h2, h3, h4⟩ := h0
            exact ⟨a, h1, .inl h2, h3, h4.move h3 sub2 (fun w hb => k2 a w h3 (ne_of_none hb hL) hb) (fun b w _ nb _ hb => k2 b w nb (ne_of_none hb hL) hb) fun b hb _ => .inl hb⟩
        exact EnvR.wipe ⟨e0.len, e3⟩ vs
      refine hg.ev (wipe σ vs) G2 P' (wipeE ρ vs) m _ v d k1 er2 k5 (T.ok_bind.mp p6) _ fun σ3 ρ3 n3 ok3 en er3 l3 kk3 => ?_
      subst en
      refine ⟨wipe_eq (by rw [l3, wipe_length]) fun j hj => (kk3 j (fun z => hj (hw j z))).1, ?_⟩
      refine ht σ3 G2 P' ρ3 n3 _ k1 er3 (T.ok_bind.mp ok3) _ fun b G3 n4 ok4 e4 o4 => ?_
      have k2' : ∀ a w, a ≠ c.u → a ≠ L → H1 a = some w → G3 a = some w := fun a w h1 h2 h3 => e4 a w h1 (k2 a w h1 h2 h3)
      cases b with
      | false =>
        rw [if_neg Bool.false_ne_true]
        exact ⟨n4, xs, es, o4, k2', e4 L _ nu k3, k4.sub (Sub.msk k1.pu e4), by omega, ok4⟩
      | true =>
        rw [if_pos rfl]
        refine he σ3 G3 P' ρ3 n4 _ o4 (er3.exu k1.pu e4) (T.ok_bind.mp ok4) _ fun y G4 dy n5 ok5 e5 o5 ry => ?_
        have hL4 : G4 L = some (.lst xs) := e5 L _ nu (e4 L _ nu k3)
        have hxl : xs.length = es.length := k4.length
        refine ⟨xs, hL4, cap_lt (by omega), n5, xs ++ [y], es ++ [dy], ?_, ?_, upd_same, ?_, by simp; omega, ?_⟩
        · refine ⟨?_, o5.pu, fun a ha => ?_⟩
          · obtain ⟨a, b, e, h1, h2⟩ := o5.urn
            exact ⟨a, b, e, by rw [upd_ne (Ne.symm nu)]; exact h1, h2⟩
          · by_cases z : a = L
            · rw [z, upd_same]; simp
            · rw [upd_ne z]; exact o5.dom a ha
        · intro a w h1 h2 h3
          rw [upd_ne h2]
          exact e5 a w h1 (k2' a w h1 h2 h3)
        · have sub5 : Sub (Msk P' G4) (Msk P' (upd G4 L (.lst (xs ++ [y])))) := fun a w ha => by
            obtain ⟨h1, h2⟩ := msk_some.mp ha
            exact msk_some.mpr ⟨h1, by rw [upd_ne (fun z => h1 (.inr z))]; exact h2⟩
          exact ((k4.sub (Sub.trans (Sub.msk k1.pu e4) (Sub.msk k1.pu e5))).append (.one ry)).sub sub5
        · refine T.ok_mono (T.ok_bind.mp ok5) fun ys k h => ?_
          have h : R (es ++ dy :: ys) k := h
          rw [List.append_assoc]
          exact h
    · obtain ⟨m, xs, es, p1, p2, p3, p4, p5, p6⟩ := p
      rw [List.drop_of_length_le (Nat.le_refl _)] at p6
      have p6 : R (es ++ []) m := p6
      rw [List.append_nil] at p6
      have eL : H L = none := e1.free nu hL
      refine q L xs G1 es m p6 (fun a w ha hw' => p2 a w ha (ne_of_none hw' eL |> fun z => z) (e1 a w ha hw')) (p1.less (fun a h => .inl h) o1.pu) eL p3 p4
  · exact ok1.elim
end
end DL
end

section
set_option maxRecDepth 100000
set_option maxHeartbeats 2000000
/-! DLe: statements. -/
namespace DL
open PySem PySem.Spec PyProof.Rows L2 DR
/-- what stands apart: the callers' and the frame's own lists -/
def Pow (P0 : Addr → Prop) (σ : L2.St) (ρ : Env) : Addr → Prop := fun a => P0 a ∨ ∃ (i : Nat) (d : D), ρ[i]? = some (.own d) ∧ σ[i]? = some (some (.ref a))
/-- the state at a statement. H0: the heap at the entry (of the def, of a loop); Fz: what may have changed since -/
structure SR (c : Ct) (P0 Fz : Addr → Prop) (H0 H : Hp) (σ : L2.St) (ρ : Env) (n : Nat) : Prop where
  ok : Ok c (Pow P0 σ ρ) H n
  env : EnvR c (Pow P0 σ ρ) H σ ρ
  inj : ∀ (i j : Nat) (a : Addr) (d e : D), ρ[i]? = some (.own d) → σ[i]? = some (some (.ref a)) → ρ[j]? = some (.own e) → σ[j]? = some (some (.ref a)) → i = j
  new : ∀ (i : Nat) (a : Addr) (d : D), ρ[i]? = some (.own d) → σ[i]? = some (some (.ref a)) → ¬ P0 a ∧ (Fz a ∨ H0 a = none)
  fr : ∀ a w, ¬ Fz a → H0 a = some w → H a = some w
  fz : Fz c.u
  pu : P0 c.u
inductive Out where
  | nx (ρ : Env) | rt (d : D) | bk (ρ : Env) | ct (ρ : Env)
def endR (c : Ct) (P0 Fz : Addr → Prop) (H0 : Hp) (Dn : Ends) : Out → Nat → Prop
  | .nx ρ, n => ∀ σ H, SR c P0 Fz H0 H σ ρ n → Dn.nx σ H
  | .rt d, n => ∀ v H, (∀ a w, ¬ Fz a → H0 a = some w → H a = some w) → Ok c P0 H n → Rep c (Msk P0 H) v d → Dn.rt v H
  | .bk ρ, n => ∀ σ H, SR c P0 Fz H0 H σ ρ n → Dn.bk σ H
  | .ct ρ, n => ∀ σ H, SR c P0 Fz H0 H σ ρ n → Dn.ct σ H
def EvS (c : Ct) (t : TS) (G : Env → T Out) : Prop := ∀ (P0 Fz : Addr → Prop) (H0 H : Hp) (σ : L2.St) (ρ : Env) (n : Nat) (Dn : Ends), SR c P0 Fz H0 H σ ρ n → (G ρ).ok n (endR c P0 Fz H0 Dn) → t Dn σ H

section
variable {c : Ct} {P0 Fz : Addr → Prop} {H0 H H' : Hp} {σ : L2.St} {ρ : Env} {n n' : Nat}
theorem SR.own (sr : SR c P0 Fz H0 H σ ρ n) {i : Nat} {d : D} (h : ρ[i]? = some (.own d)) : ∃ a, σ[i]? = some (some (.ref a)) ∧ a ≠ c.u ∧ OwnAt c (Pow P0 σ ρ) H a d ∧ Pow P0 σ ρ a := by
  obtain ⟨a, h1, h2, h3, h4⟩ := sr.env.at_ i _ h
  exact ⟨a, h1, h3, h4, h2⟩
/-- such a dict is the caller's -/
theorem SR.dx0 (sr : SR c P0 Fz H0 H σ ρ n) {b : Addr} (h : Pow P0 σ ρ b) (k : DxH H b) : P0 b := by
  rcases h with h | ⟨i, d, h1, h2⟩
  · exact h
  · obtain ⟨a, k1, _, k3, _⟩ := sr.own h1
    rw [h2] at k1
    cases k1
    exact absurd k k3.kind
theorem set_own {σ : L2.St} {ρ : Env} {i j : Nat} {s : Slot} {v : V} {a : Addr} {d : D} (hij : i ≠ j) (h1 : (ρ.set i s)[j]? = some (.own d)) (h2 : (σ.set i (some v))[j]? = some (some (.ref a))) :
    ρ[j]? = some (.own d) ∧ σ[j]? = some (some (.ref a)) := by
  rw [List.getElem?_set_ne hij] at h1 h2
  exact ⟨h1, h2⟩
theorem set_at {α : Type} {l : List α} {i : Nat} {x y : α} (h : (l.set i x)[i]? = some y) : y = x ∧ i < l.length := by
  have hi : i < l.length := by
    have := (List.getElem?_eq_some_iff.mp h).1
    rwa [List.length_set] at this
  rw [List.getElem?_set_self hi] at h
  exact ⟨(Option.some.inj h).symm, hi⟩
/-- a name takes a value that is apart -/
theorem SR.setVal (sr : SR c P0 Fz H0 H σ ρ n) (e : ExU c.u H H') (o : Ok c (Pow P0 σ ρ) H' n') {v : V} {d : D} (r : Rep c (Msk (Pow P0 σ ρ) H') v d) (i : Nat) :
    SR c P0 Fz H0 H' (σ.set i (some v)) (ρ.set i (.val d)) n' := by
  have old : ∀ (j : Nat) (a : Addr) (e' : D), (ρ.set i (.val d))[j]? = some (.own e') → (σ.set i (some v))[j]? = some (some (.ref a)) → i ≠ j ∧ ρ[j]? = some (.own e') ∧ σ[j]? = some (some (.ref a)) := fun j a e' h1 h2 => by
    by_cases hj : i = j
    · subst hj
      have := (set_at h1).1
      cases this
    · exact ⟨hj, set_own hj h1 h2⟩
  have less : ∀ a, Pow P0 (σ.set i (some v)) (ρ.set i (.val d)) a → Pow P0 σ ρ a := fun a h => by
    rcases h with h | ⟨j, e', h1, h2⟩
    · exact .inl h
    · exact .inr ⟨j, e', (old j a e' h1 h2).2.1, (old j a e' h1 h2).2.2⟩
  refine ⟨o.less less (.inl sr.pu), ⟨by rw [List.length_set, List.length_set]; exact sr.env.len, fun j s q => ?_⟩, fun i' j a d' e' h1 h2 h3 h4 => ?_, fun j a e' h1 h2 => ?_, fun a w h1 h2 => e a w (fun z => h1 (z ▸ sr.fz)) (sr.fr a w h1 h2), sr.fz, sr.pu⟩
  · by_cases hj : i = j
    · subst hj
      obtain ⟨rfl, hi⟩ := set_at q
      rw [List.getElem?_set_self (by rw [← sr.env.len]; exact hi)]
      exact ⟨v, rfl, r.sub (Sub.less less)⟩
    · have q0 := q
      rw [List.getElem?_set_ne hj] at q ⊢
      have z := (sr.env.exu sr.ok.pu e).at_ j s q
      cases s with
      | no => trivial
      | me => exact z
      | val d' => obtain ⟨w, h1, h2⟩ := z; exact ⟨w, h1, h2.sub (Sub.less less)⟩
      | own d' =>
        obtain ⟨a, h1, h2, h3, h4⟩ := z
        refine ⟨a, h1, .inr ⟨j, d', q0, by rw [List.getElem?_set_ne hj]; exact h1⟩, h3, h4.move h3 (Sub.less less) (fun _ h => h) (fun _ _ _ _ _ h => h) fun b hb hd => .inl ?_⟩
        rcases hb with hb | ⟨m, d2, m1, m2⟩
        · exact hb
        · obtain ⟨a2, k1, k2, k3, k4⟩ := (sr.env.exu sr.ok.pu e).at_ m _ m1
          rw [m2] at k1
          cases k1
          exact absurd hd k4.kind
  · obtain ⟨_, a1, a2⟩ := old i' a d' h1 h2
    obtain ⟨_, b1, b2⟩ := old j a e' h3 h4
    exact sr.inj i' j a d' e' a1 a2 b1 b2
  · obtain ⟨_, a1, a2⟩ := old j a e' h1 h2
    exact sr.new j a e' a1 a2
/-- a name takes a new list -/
theorem SR.setOwn (sr : SR c P0 Fz H0 H σ ρ n) (e : ExU c.u H H') (o : Ok c (Pow P0 σ ρ) H' n') {p : Addr} {xs : List V} {ds : List D} (hn : H p = none) (hp : H' p = some (.lst xs))
    (r : Reps c (Msk (fun a => Pow P0 σ ρ a ∨ a = p) H') xs ds) {i : Nat} (hi : i < ρ.length) : SR c P0 Fz H0 H' (σ.set i (some (.ref p))) (ρ.set i (.own (.lst ds))) n' := by
  have np : ¬ Pow P0 σ ρ p := sr.ok.np hn
  have nu : p ≠ c.u := sr.ok.nu hn
  have old : ∀ (j : Nat) (a : Addr) (e' : D), (ρ.set i (.own (.lst ds)))[j]? = some (.own e') → (σ.set i (some (.ref p)))[j]? = some (some (.ref a)) → (i = j ∧ a = p) ∨ (i ≠ j ∧ ρ[j]? = some (.own e') ∧ σ[j]? = some (some (.ref a))) := fun j a e' h1 h2 => by
    by_cases hj : i = j
    · subst hj
      have := (set_at h2).1
      cases this
      exact .inl ⟨rfl, rfl⟩
    · exact .inr ⟨hj, set_own hj h1 h2⟩
  have pp : Pow P0 (σ.set i (some (.ref p))) (ρ.set i (.own (.lst ds))) p := .inr ⟨i, _, List.getElem?_set_self hi, List.getElem?_set_self (by rw [← sr.env.len]; exact hi)⟩
  have less : ∀ a, Pow P0 (σ.set i (some (.ref p))) (ρ.set i (.own (.lst ds))) a → Pow P0 σ ρ a ∨ a = p := fun a h => by
    rcases h with h | ⟨j, e', h1, h2⟩
    · exact .inl (.inl h)
    · rcases old j a e' h1 h2 with ⟨_, z⟩ | ⟨_, z1, z2⟩
      · exact .inr z
      · exact .inl (.inr ⟨j, e', z1, z2⟩)
  have sub : Sub (Msk (Pow P0 σ ρ) H) (Msk (Pow P0 (σ.set i (some (.ref p))) (ρ.set i (.own (.lst ds)))) H') := fun a w h => by
    obtain ⟨h1, h2⟩ := msk_some.mp h
    have nap : a ≠ p := fun z => by rw [z, hn] at h2; cases h2
    exact msk_some.mpr ⟨fun z => (less a z).elim h1 nap, e a w (fun z => h1 (by rw [z]; exact sr.ok.pu)) h2⟩
  refine ⟨⟨o.urn, .inl sr.pu, fun a h => ?_⟩, ⟨by rw [List.length_set, List.length_set]; exact sr.env.len, fun j s q => ?_⟩, fun i' j a d' e' h1 h2 h3 h4 => ?_, fun j a e' h1 h2 => ?_, fun a w h1 h2 => e a w (fun z => h1 (z ▸ sr.fz)) (sr.fr a w h1 h2), sr.fz, sr.pu⟩
  · rcases less a h with z | z
    · exact o.dom a z
    · rw [z, hp]; simp
  · by_cases hj : i = j
    · subst hj
      obtain ⟨rfl, _⟩ := set_at q
      rw [List.getElem?_set_self (by rw [← sr.env.len]; exact hi)]
      exact ⟨p, rfl, pp, nu, xs, hp, r.sub (Sub.less less)⟩
    · have q0 := q
      rw [List.getElem?_set_ne hj] at q ⊢
      have z := sr.env.at_ j s q
      cases s with
      | no => trivial
      | me => exact z
      | val d' => obtain ⟨w, h1, h2⟩ := z; exact ⟨w, h1, h2.sub sub⟩
      | own d' =>
        obtain ⟨a, h1, h2, h3, h4⟩ := z
        exact ⟨a, h1, .inr ⟨j, d', q0, by rw [List.getElem?_set_ne hj]; exact h1⟩, h3, h4.move h3 sub (fun w h => e _ _ h3 h) (fun b w _ nb _ h => e b w nb h) fun b hb hd => .inl (sr.dx0 hb hd)⟩
  · rcases old i' a d' h1 h2 with ⟨z1, z2⟩ | ⟨_, a1, a2⟩
    · rcases old j a e' h3 h4 with ⟨y1, y2⟩ | ⟨_, b1, b2⟩
      · exact z1.symm.trans y1
      · exact absurd (z2 ▸ (.inr ⟨j, e', b1, b2⟩ : Pow P0 σ ρ a)) np
    · rcases old j a e' h3 h4 with ⟨y1, y2⟩ | ⟨_, b1, b2⟩
      · exact absurd (y2 ▸ (.inr ⟨i', d', a1, a2⟩ : Pow P0 σ ρ a)) np
      · exact sr.inj i' j a d' e' a1 a2 b1 b2
  · rcases old j a e' h1 h2 with ⟨z1, z2⟩ | ⟨_, a1, a2⟩
    · subst z2
      refine ⟨fun z => np (.inl z), ?_⟩
      by_cases hf : Fz a
      · exact .inl hf
      · refine .inr ?_
        cases hq : H0 a with
        | none => rfl
        | some w => rw [sr.fr a w hf hq] at hn; cases hn
    · exact sr.new j a e' a1 a2
/-- a list of the frame's own changes -/
theorem SR.mut (sr : SR c P0 Fz H0 H σ ρ n) (e : ExU c.u H H') (o : Ok c (Pow P0 σ ρ) H' n') {i : Nat} {ds es : List D} {a : Addr} {xs : List V} (hi : ρ[i]? = some (.own (.lst ds))) (ha : σ[i]? = some (some (.ref a)))
    (r : Reps c (Msk (Pow P0 σ ρ) H') xs es) : SR c P0 Fz H0 (upd H' a (.lst xs)) σ (ρ.set i (.own (.lst es))) n' := by
  obtain ⟨a', k1, na, ⟨ys, k2, k3⟩, pa⟩ := sr.own hi
  rw [ha] at k1
  cases k1
  have hlt : i < ρ.length := (List.getElem?_eq_some_iff.mp hi).1
  have old : ∀ (j : Nat) (b : Addr) (e' : D), (ρ.set i (.own (.lst es)))[j]? = some (.own e') → σ[j]? = some (some (.ref b)) → (i = j ∧ b = a) ∨ (i ≠ j ∧ ρ[j]? = some (.own e') ∧ b ≠ a) := fun j b e' h1 h2 => by
    by_cases hj : i = j
    · subst hj
      rw [ha] at h2
      cases h2
      exact .inl ⟨rfl, rfl⟩
    · rw [List.getElem?_set_ne hj] at h1
      exact .inr ⟨hj, h1, fun z => hj (sr.inj i j a _ _ hi ha h1 (z ▸ h2))⟩
  have pow : ∀ b, Pow P0 σ (ρ.set i (.own (.lst es))) b ↔ Pow P0 σ ρ b := fun b => by
    constructor
    · rintro (h | ⟨j, e', h1, h2⟩)
      · exact .inl h
      · rcases old j b e' h1 h2 with ⟨_, z⟩ | ⟨_, z, _⟩
        · rw [z]; exact pa
        · exact .inr ⟨j, e', z, h2⟩
    · rintro (h | ⟨j, e', h1, h2⟩)
      · exact .inl h
      · by_cases hj : i = j
        · subst hj
          exact .inr ⟨i, _, List.getElem?_set_self hlt, h2⟩
        · exact .inr ⟨j, e', by rw [List.getElem?_set_ne hj]; exact h1, h2⟩
  have sub1 : Sub (Msk (Pow P0 σ ρ) H') (Msk (Pow P0 σ (ρ.set i (.own (.lst es)))) (upd H' a (.lst xs))) := fun b w h => by
    obtain ⟨h1, h2⟩ := msk_some.mp h
    exact msk_some.mpr ⟨fun z => h1 ((pow b).mp z), by rw [upd_ne (fun z => h1 (by rw [z]; exact pa))]; exact h2⟩
  have sub : Sub (Msk (Pow P0 σ ρ) H) (Msk (Pow P0 σ (ρ.set i (.own (.lst es)))) (upd H' a (.lst xs))) := Sub.trans (Sub.msk sr.ok.pu e) sub1
  refine ⟨⟨?_, .inl sr.pu, fun b h => ?_⟩, ⟨by rw [List.length_set]; exact sr.env.len, fun j s q => ?_⟩, fun i' j b d' e' h1 h2 h3 h4 => ?_, fun j b e' h1 h2 => ?_, fun b w h1 h2 => ?_, sr.fz, sr.pu⟩
  · obtain ⟨x, y, z, h1, h2⟩ := o.urn
    exact ⟨x, y, z, by rw [upd_ne (Ne.symm na)]; exact h1, h2⟩
  · by_cases z : b = a
    · rw [z, upd_same]; simp
    · rw [upd_ne z]; exact o.dom b ((pow b).mp h)
  · by_cases hj : i = j
    · subst hj
      obtain ⟨rfl, _⟩ := set_at q
      exact ⟨a, ha, (pow a).mpr pa, na, xs, upd_same, r.sub sub1⟩
    · have q0 := q
      rw [List.getElem?_set_ne hj] at q
      have z := sr.env.at_ j s q
      cases s with
      | no => trivial
      | me => exact z
      | val d' => obtain ⟨w, h1, h2⟩ := z; exact ⟨w, h1, h2.sub sub⟩
      | own d' =>
        obtain ⟨b, h1, h2, h3, h4⟩ := z
        have nb : b ≠ a := fun z => hj (sr.inj i j a _ _ hi ha q (z ▸ h1))
        exact ⟨b, h1, (pow b).mpr h2, h3, h4.move h3 sub (fun w h => by rw [upd_ne nb]; exact e _ _ h3 h) (fun b' w _ nb' hd h => by
          rw [upd_ne (fun z => by rw [z] at hd; rcases hd with ⟨x, hd⟩ | hd <;> (rw [k2] at hd; cases hd))]
          exact e b' w nb' h) fun b' hb _ => (pow b').mpr hb⟩
  · rcases old i' b d' h1 h2 with ⟨z1, z2⟩ | ⟨z1, a1, a2⟩
    · rcases old j b e' h3 h4 with ⟨y1, y2⟩ | ⟨_, _, b2⟩
      · exact z1.symm.trans y1
      · exact absurd z2 b2
    · rcases old j b e' h3 h4 with ⟨y1, y2⟩ | ⟨_, b1, b2⟩
      · exact absurd y2 a2
      · exact sr.inj i' j b d' e' a1 h2 b1 h4
  · rcases old j b e' h1 h2 with ⟨z1, z2⟩ | ⟨_, a1, _⟩
    · subst z2
      exact sr.new i b _ hi ha
    · exact sr.new j b e' a1 h2
  · have hne : b ≠ a := fun z => by
      subst z
      rcases (sr.new i b _ hi ha).2 with h | h
      · exact h1 h
      · rw [h] at h2; cases h2
    rw [upd_ne hne]
    exact e b w (fun z => h1 (z ▸ sr.fz)) (sr.fr b w h1 h2)
/-- all that the frame has, seen by the caller: its own lists too -/
def fullE (ρ : Env) : Env := ρ.map fun s => match s with
  | .own (.lst ds) => .val (.lst ds)
  | .own _ => .no
  | s => s
theorem SR.full (sr : SR c P0 Fz H0 H σ ρ n) : Ok c P0 H n ∧ EnvR c P0 H σ (fullE ρ) := by
  refine ⟨sr.ok.less (fun a h => .inl h) sr.pu, by unfold fullE; rw [List.length_map]; exact sr.env.len, fun i s q => ?_⟩
  unfold fullE at q
  rw [List.getElem?_map] at q
  cases hs : ρ[i]? with
  | none => rw [hs] at q; cases q
  | some s0 =>
    rw [hs] at q
    have q := Option.some.inj q
    subst q
    have sub : Sub (Msk (Pow P0 σ ρ) H) (Msk P0 H) := Sub.less fun a h => .inl h
    have z := sr.env.at_ i s0 hs
    cases s0 with
    | no => trivial
    | me => exact z
    | val d => obtain ⟨v, h1, h2⟩ := z; exact ⟨v, h1, h2.sub sub⟩
    | own d =>
      cases d with
      | lst ds =>
        obtain ⟨a, h1, h2, h3, xs, k1, k2⟩ := z
        exact ⟨.ref a, h1, .lst (msk_some.mpr ⟨(sr.new i a _ hs h1).1, k1⟩) (k2.sub sub)⟩
      | _ => trivial

/-! ### the statements -/
def sNext : Env → T Out := fun ρ => .ret (.nx ρ)
def sSeq (a b : Env → T Out) : Env → T Out := fun ρ => (a ρ).bind fun o => match o with
  | .nx ρ' => b ρ'
  | o => .ret o
/-- x = e -/
def sSet (i : Nat) (f : Env → T D) : Env → T Out := fun ρ => (f ρ).bind fun d => .ret (.nx (ρ.set i (.val d)))
/-- x = e, e may read the frame's own lists; the value is flat -/
def sSetF (i : Nat) (f : Env → T D) : Env → T Out := fun ρ => (f (fullE ρ)).bind fun d => match flatD d with
  | true => .ret (.nx (ρ.set i (.val d)))
  | false => .fail
/-- x = a new list, that x alone has -/
def sSetL (i : Nat) (f : Env → T (List D)) : Env → T Out := fun ρ => (f ρ).bind fun ds => match decide (i < ρ.length) with
  | true => .ret (.nx (ρ.set i (.own (.lst ds))))
  | false => .fail
def sDrop (f : Env → T D) : Env → T Out := fun ρ => (f ρ).bind fun _ => .ret (.nx ρ)
def sRet (f : Env → T D) : Env → T Out := fun ρ => (f (fullE ρ)).bind fun d => .ret (.rt d)
def sRetN : Env → T Out := fun _ => .ret (.rt .non)
def sIf (t : Env → T Bool) (a b : Env → T Out) : Env → T Out := fun ρ => (t ρ).bind fun k => match k with
  | true => a ρ
  | false => b ρ
def sBreak : Env → T Out := fun ρ => .ret (.bk ρ)
def sCont : Env → T Out := fun ρ => .ret (.ct ρ)
def sNever : Env → T Out := fun _ => .fail
theorem es_next : EvS c tNext sNext := fun P0 Fz H0 H σ ρ n Dn sr ok => ok σ H sr
theorem es_never : EvS c tNever sNever := fun P0 Fz H0 H σ ρ n Dn sr ok => ok.elim
theorem es_break : EvS c tBreak sBreak := fun P0 Fz H0 H σ ρ n Dn sr ok => ok σ H sr
theorem es_cont : EvS c tCont sCont := fun P0 Fz H0 H σ ρ n Dn sr ok => ok σ H sr
theorem es_seq {t u : TS} {F G : Env → T Out} (h : EvS c t F) (k : EvS c u G) : EvS c (tSeq t u) (sSeq F G) := fun P0 Fz H0 H σ ρ n Dn sr ok => by
  refine h P0 Fz H0 H σ ρ n { Dn with nx := u Dn } sr (T.ok_mono (T.ok_bind.mp ok) fun o m q => ?_)
  cases o with
  | nx ρ' => exact fun σ' H' sr' => k P0 Fz H0 H' σ' ρ' m Dn sr' q
  | rt d => exact q
  | bk ρ' => exact q
  | ct ρ' => exact q
theorem es_set {te : TE} {F : Env → T D} {i : Nat} (h : EvE c te F) : EvS c (tAsg te (gName i)) (sSet i F) := fun P0 Fz H0 H σ ρ n Dn sr ok =>
  h σ H _ ρ n _ sr.ok sr.env (T.ok_bind.mp ok) _ fun v H' d n' q e o r => q _ _ (sr.setVal e o r i)
theorem es_setF {te : TE} {F : Env → T D} {i : Nat} (h : EvE c te F) : EvS c (tAsg te (gName i)) (sSetF i F) := fun P0 Fz H0 H σ ρ n Dn sr ok =>
  h σ H P0 (fullE ρ) n _ sr.full.1 sr.full.2 (T.ok_bind.mp ok) _ fun v H' d n' q e o r => by
    split at q
    · rename_i hf
      exact q _ _ (sr.setVal e (sr.ok.exu o e) (flat_rep r hf) i)
    · exact q.elim
theorem es_setL {te : TE} {F : Env → T (List D)} {i : Nat} (h : EvL c te F) : EvS c (tAsg te (gName i)) (sSetL i F) := fun P0 Fz H0 H σ ρ n Dn sr ok =>
  h σ H _ ρ n _ sr.ok sr.env (T.ok_bind.mp ok) _ fun p xs H' ds n' q e o hn hp r => by
    split at q
    · rename_i hl
      exact q _ _ (sr.setOwn e o hn hp r (of_decide_eq_true hl))
    · exact q.elim
theorem SR.same (sr : SR c P0 Fz H0 H σ ρ n) (e : ExU c.u H H') (o : Ok c (Pow P0 σ ρ) H' n') : SR c P0 Fz H0 H' σ ρ n' :=
  ⟨o, sr.env.exu sr.ok.pu e, sr.inj, sr.new, fun a w h1 h2 => e a w (fun z => h1 (z ▸ sr.fz)) (sr.fr a w h1 h2), sr.fz, sr.pu⟩
theorem es_drop {te : TE} {F : Env → T D} (h : EvE c te F) : EvS c (tDrop te) (sDrop F) := fun P0 Fz H0 H σ ρ n Dn sr ok =>
  h σ H _ ρ n _ sr.ok sr.env (T.ok_bind.mp ok) _ fun v H' d n' q e o r => q _ _ (sr.same e o)
theorem es_ret {te : TE} {F : Env → T D} (h : EvE c te F) : EvS c (tRet te) (sRet F) := fun P0 Fz H0 H σ ρ n Dn sr ok =>
  h σ H P0 (fullE ρ) n _ sr.full.1 sr.full.2 (T.ok_bind.mp ok) _ fun v H' d n' q e o r => q v H' (fun a w h1 h2 => e a w (fun z => h1 (z ▸ sr.fz)) (sr.fr a w h1 h2)) o r
theorem es_retN : EvS c tRetN sRetN := fun P0 Fz H0 H σ ρ n Dn sr ok => ok .non H sr.fr sr.full.1 .non
theorem es_if {t : TT} {u v : TS} {B : Env → T Bool} {F G : Env → T Out} (h : EvT c t B) (h1 : EvS c u F) (h2 : EvS c v G) : EvS c (tIfS t u v) (sIf B F G) := fun P0 Fz H0 H σ ρ n Dn sr ok =>
  h σ H _ ρ n _ sr.ok sr.env (T.ok_bind.mp ok) _ fun b H' n' q e o => by
    cases b with
    | true =>
      rw [if_pos rfl]
      exact h1 P0 Fz H0 H' σ ρ n' Dn (sr.same e o) q
    | false =>
      rw [if_neg Bool.false_ne_true]
      exact h2 P0 Fz H0 H' σ ρ n' Dn (sr.same e o) q
end
end DL
end

section
set_option maxRecDepth 100000
set_option maxHeartbeats 2000000
/-! DLf: loops, changes of own lists, parallel assignments. -/
namespace DL
open PySem PySem.Spec PyProof.Rows L2 DR
section
variable {c : Ct} {P0 Fz : Addr → Prop} {H0 H H' : Hp} {σ : L2.St} {ρ : Env} {n n' : Nat}
/-! ### targets, at a statement -/
def EvGS (c : Ct) (g : TG) (F : D → Env → T Env) : Prop := ∀ (P0 Fz : Addr → Prop) (H0 H : Hp) (σ : L2.St) (ρ : Env) (n : Nat) (R : Env → Nat → Prop) (v : V) (d : D), SR c P0 Fz H0 H σ ρ n → Rep c (Msk (Pow P0 σ ρ) H) v d → (F d ρ).ok n R →
  ∀ Q : L2.St → Hp → Prop, (∀ σ' ρ' n', R ρ' n' → SR c P0 Fz H0 H σ' ρ' n' → (∀ a, Pow P0 σ' ρ' a → Pow P0 σ ρ a) → Q σ' H) → g v σ H Q
def EvGSs (c : Ct) (g : TGs) (F : List D → Env → T Env) : Prop := ∀ (P0 Fz : Addr → Prop) (H0 H : Hp) (σ : L2.St) (ρ : Env) (n : Nat) (R : Env → Nat → Prop) (xs : List V) (ds : List D), SR c P0 Fz H0 H σ ρ n → Reps c (Msk (Pow P0 σ ρ) H) xs ds → (F ds ρ).ok n R →
  ∀ Q : L2.St → Hp → Prop, (∀ σ' ρ' n', R ρ' n' → SR c P0 Fz H0 H σ' ρ' n' → (∀ a, Pow P0 σ' ρ' a → Pow P0 σ ρ a) → Q σ' H) → g xs σ H Q
theorem pow_setVal {i : Nat} {v : V} {d : D} : ∀ a, Pow P0 (σ.set i (some v)) (ρ.set i (.val d)) a → Pow P0 σ ρ a := fun a h => by
  rcases h with h | ⟨j, e', h1, h2⟩
  · exact .inl h
  · by_cases hj : i = j
    · subst hj
      have := (set_at h1).1
      cases this
    · exact .inr ⟨j, e', (set_own hj h1 h2).1, (set_own hj h1 h2).2⟩
theorem gs_name {i : Nat} : EvGS c (gName i) (gSet i) := fun P0 Fz H0 H σ ρ n R v d sr r ok Q q => q _ _ n ok (sr.setVal (ExU.refl _ _) sr.ok r i) pow_setVal
theorem gs_nil : EvGSs c gNil gsNil := fun P0 Fz H0 H σ ρ n R xs ds sr r ok Q q => by
  unfold gsNil at ok
  split at ok
  · cases r
    exact ⟨rfl, q σ ρ n ok sr fun _ h => h⟩
  · exact ok.elim
theorem gs_cons {g : TG} {gs : TGs} {f : D → Env → T Env} {fs : List D → Env → T Env} (h : EvGS c g f) (hs : EvGSs c gs fs) : EvGSs c (gCons g gs) (gsCons f fs) := fun P0 Fz H0 H σ ρ n R xs ds sr r ok Q q => by
  unfold gsCons at ok
  split at ok
  · rename_i d rr
    cases r with
    | cons h1 h2 =>
      refine ⟨_, _, rfl, h P0 Fz H0 H σ ρ n _ _ d sr h1 (T.ok_bind.mp ok) _ fun σ1 ρ1 n1 ok1 sr1 l1 => ?_⟩
      exact hs P0 Fz H0 H σ1 ρ1 n1 R _ rr sr1 (h2.sub (Sub.less l1)) ok1 Q fun σ2 ρ2 n2 ok2 sr2 l2 => q σ2 ρ2 n2 ok2 sr2 fun a z => l1 a (l2 a z)
  · exact ok.elim
theorem gs_tup {gs : TGs} {fs : List D → Env → T Env} {m : Nat} (h : EvGSs c gs fs) (hm : ∀ ds ρ n R, (fs ds ρ).ok n R → ds.length = m) : EvGS c (gTup c.K m gs) (gTupD fs) := fun P0 Fz H0 H σ ρ n R v d sr r ok Q q => by
  unfold gTupD at ok
  split at ok
  · cases r with
    | tup h1 h2 => exact ⟨_, _, rfl, sub_t Sub.of_msk h1.sq, by rw [h2.length]; exact hm _ _ _ _ ok, h P0 Fz H0 H σ ρ n R _ _ sr h2 ok Q q⟩
  · cases r with
    | pr h1 h2 h3 => exact ⟨_, _, rfl, sub_t Sub.of_msk h1, hm _ _ _ _ ok, h P0 Fz H0 H σ ρ n R _ _ sr (.cons h2 (.cons h3 .nil)) ok Q q⟩
  · exact ok.elim
/-- a, b = e -/
def sUnp (f : Env → T D) (g : D → Env → T Env) : Env → T Out := fun ρ => (f ρ).bind fun d => (g d ρ).bind fun ρ' => .ret (.nx ρ')
theorem es_unp {te : TE} {g : TG} {F : Env → T D} {G : D → Env → T Env} (h : EvE c te F) (hg : EvGS c g G) : EvS c (tAsg te g) (sUnp F G) := fun P0 Fz H0 H σ ρ n Dn sr ok =>
  h σ H _ ρ n _ sr.ok sr.env (T.ok_bind.mp ok) _ fun v H' d n' q e o r => hg P0 Fz H0 H' σ ρ n' _ v d (sr.same e o) r (T.ok_bind.mp q) _ fun σ' ρ' n'' q' sr' _ => q' _ _ sr'

/-! ### for -/
def forT (g : D → Env → T Env) (b : Env → T Out) (ρ : Env) : List D → T Out
  | [] => .ret (.nx ρ)
  | d :: r => (g d ρ).bind fun ρ1 => (b ρ1).bind fun o => match o with
    | .nx ρ' => forT g b ρ' r
    | .ct ρ' => forT g b ρ' r
    | .bk ρ' => .ret (.nx ρ')
    | .rt d => .ret (.rt d)
def sFor (i : Env → T (List D)) (g : D → Env → T Env) (b : Env → T Out) : Env → T Out := fun ρ => (i ρ).bind fun ds => forT g b ρ ds
/-- what may change within a loop -/
def FzL (c : Ct) (σ : L2.St) (ρ : Env) : Addr → Prop := fun a => a = c.u ∨ ∃ (i : Nat) (d : D), ρ[i]? = some (.own d) ∧ σ[i]? = some (some (.ref a))
theorem SR.enter (sr : SR c P0 Fz H0 H σ ρ n) : SR c P0 (FzL c σ ρ) H H σ ρ n :=
  ⟨sr.ok, sr.env, sr.inj, fun i a d h1 h2 => ⟨(sr.new i a d h1 h2).1, .inl (.inr ⟨i, d, h1, h2⟩)⟩, fun _ _ _ h => h, .inl rfl, sr.pu⟩
theorem SR.leave {σ' : L2.St} {ρ' : Env} {m : Nat} (sr : SR c P0 Fz H0 H σ ρ n) (s2 : SR c P0 (FzL c σ ρ) H H' σ' ρ' m) : SR c P0 Fz H0 H' σ' ρ' m := by
  refine ⟨s2.ok, s2.env, s2.inj, fun i a d h1 h2 => ⟨(s2.new i a d h1 h2).1, ?_⟩, fun a w h1 h2 => s2.fr a w ?_ (sr.fr a w h1 h2), sr.fz, sr.pu⟩
  · obtain ⟨b, k1, k2, _, _⟩ := s2.own h1
    rw [h2] at k1
    cases k1
    rcases (s2.new i a d h1 h2).2 with (h | ⟨j, e, m1, m2⟩) | h
    · exact absurd h k2
    · exact (sr.new j a e m1 m2).2
    · by_cases hf : Fz a
      · exact .inl hf
      · refine .inr ?_
        cases hq : H0 a with
        | none => rfl
        | some w => rw [sr.fr a w hf hq] at h; cases h
  · rintro (h | ⟨j, e, m1, m2⟩)
    · exact h1 (h ▸ sr.fz)
    · rcases (sr.new j a e m1 m2).2 with h | h
      · exact h1 h
      · rw [h] at h2; cases h2
theorem es_for {wi : TI} {g : TG} {tb : TS} {I : Env → T (List D)} {G : D → Env → T Env} {B : Env → T Out} (hi : EvI c wi I) (hg : EvGS c g G) (hb : EvS c tb B) : EvS c (tFor wi g tb) (sFor I G B) := by
  intro P0 Fz H0 H σ ρ n Dn sr ok
  refine hi σ H _ ρ n _ sr.ok sr.env (T.ok_bind.mp ok) _ fun J H1 ds n1 ok1 e1 o1 yl => ?_
  have sr1 := sr.same e1 o1
  -- what the loop keeps
  have kp : ∀ {σ' : L2.St} {ρ' : Env} {m : Nat} {G1 : Hp}, SR c P0 (FzL c σ ρ) H1 G1 σ' ρ' m → Sub (Msk (Pow P0 σ ρ) H1) G1 := fun s2 a w h => by
    obtain ⟨h1, h2⟩ := msk_some.mp h
    refine s2.fr a w ?_ h2
    rintro (z | ⟨j, e, m1, m2⟩)
    · exact h1 (.inl (z ▸ sr.pu))
    · exact h1 (.inr ⟨j, e, m1, m2⟩)
  let Pv : Nat → L2.St → Hp → Prop := fun i σ' G1 => ∃ ρ' m, SR c P0 (FzL c σ ρ) H1 G1 σ' ρ' m ∧ (forT G B ρ' (ds.drop i)).ok m (endR c P0 Fz H0 Dn)
  have W : Walk J ds.length (fun G1 => Sub (Msk (Pow P0 σ ρ) H1) G1) (fun i G1 v G2 => ∃ d, ds[i]? = some d ∧ ((G2 = G1 ∧ Rep c (Msk (Pow P0 σ ρ) H1) v d) ∨ ∃ T x y d1 d2, v = .ref T ∧ G1 T = none ∧ G2 = upd G1 T (.tup [x, y]) ∧ d = .pr d1 d2 ∧ Rep c (Msk (Pow P0 σ ρ) H1) x d1 ∧ Rep c (Msk (Pow P0 σ ρ) H1) y d2)) :=
    ⟨fun i G1 hi hG => yl.go i G1 hG hi, fun G1 hG => yl.stop G1 hG, fun i G1 v G2 hi hG hy => ⟨ds[i], List.getElem?_eq_getElem hi, yl.yl i G1 v G2 _ hG (List.getElem?_eq_getElem hi) hy⟩⟩
  refine for_it W Pv ⟨ρ, n1, sr1.enter, ok1⟩ (fun i σ' G1 _ p => let ⟨_, _, s2, _⟩ := p; kp s2) (fun i v σ' G1 G2 hi p hy => ?_) fun σ' G1 p => ?_
  · obtain ⟨ρ', m, s2, p6⟩ := p
    obtain ⟨d, hd, hy⟩ := hy
    have hdrop : ds.drop i = d :: ds.drop (i + 1) := by
      have h1 : i < ds.length := (List.getElem?_eq_some_iff.mp hd).1
      have h2 := List.drop_eq_getElem_cons h1
      have h3 : ds[i] = d := by rw [List.getElem?_eq_getElem h1] at hd; exact Option.some.inj hd
      rw [h2, h3]
    rw [hdrop] at p6
    have sub1 : Sub (Msk (Pow P0 σ ρ) H1) (Msk (Pow P0 σ' ρ') G1) := fun a w h => by
      obtain ⟨h1, h2⟩ := msk_some.mp h
      refine msk_some.mpr ⟨?_, kp s2 a w h⟩
      rintro (z | ⟨j, e, m1, m2⟩)
      · exact h1 (.inl z)
      · rcases (s2.new j a e m1 m2).2 with (z | z) | z
        · exact h1 (.inl (z ▸ sr.pu))
        · exact h1 (.inr z)
        · rw [z] at h2; cases h2
    have key : SR c P0 (FzL c σ ρ) H1 G2 σ' ρ' m ∧ Rep c (Msk (Pow P0 σ' ρ') G2) v d := by
      rcases hy with ⟨rfl, r⟩ | ⟨T, x, y, d1, d2, rfl, hT, rfl, rfl, r1, r2⟩
      · exact ⟨s2, r.sub sub1⟩
      · exact ⟨s2.same (ExU.new hT) (s2.ok.new hT), rep_newP s2.ok hT (r1.sub sub1) (r2.sub sub1)⟩
    obtain ⟨s3, r3⟩ := key
    refine hg P0 _ H1 G2 σ' ρ' m _ v d s3 r3 (T.ok_bind.mp p6) _ fun σ4 ρ4 n4 ok4 s4 _ => ?_
    refine hb P0 _ H1 G2 σ4 ρ4 n4 _ s4 (T.ok_mono (T.ok_bind.mp ok4) fun o k q => ?_)
    cases o with
    | nx ρ5 => exact fun σ5 G5 s5 => ⟨ρ5, k, s5, q⟩
    | ct ρ5 => exact fun σ5 G5 s5 => ⟨ρ5, k, s5, q⟩
    | bk ρ5 => exact fun σ5 G5 s5 => q σ5 G5 (sr1.leave s5)
    | rt d' =>
      refine fun v' G5 f5 o5 r5 => q v' G5 (fun a w h1 h2 => f5 a w ?_ (sr1.fr a w h1 h2)) o5 r5
      rintro (h | ⟨j, e, m1, m2⟩)
      · exact h1 (h ▸ sr.fz)
      · rcases (sr.new j a e m1 m2).2 with h | h
        · exact h1 h
        · rw [h] at h2; cases h2
  · obtain ⟨ρ', m, s2, p6⟩ := p
    rw [List.drop_of_length_le (Nat.le_refl _)] at p6
    exact p6 σ' G1 (sr1.leave s2)

/-! ### while -/
def whileT (t : Env → T Bool) (b : Env → T Out) : Nat → Env → T Out
  | 0, _ => .fail
  | k + 1, ρ => (t ρ).bind fun x => match x with
    | true => (b ρ).bind fun o => match o with
      | .nx ρ' => whileT t b k ρ'
      | .ct ρ' => whileT t b k ρ'
      | .bk ρ' => .ret (.nx ρ')
      | .rt d => .ret (.rt d)
    | false => .ret (.nx ρ)
def sWhile (k : Nat) (t : Env → T Bool) (b : Env → T Out) : Env → T Out := whileT t b k
theorem es_while {t : TT} {tb : TS} {k : Nat} {C : Env → T Bool} {B : Env → T Out} (ht : EvT c t C) (hb : EvS c tb B) : EvS c (tWhile t tb) (sWhile k C B) := by
  intro P0 Fz H0 H σ ρ n Dn sr ok
  refine ⟨fun m σ' G => ∃ ρ' n', SR c P0 Fz H0 G σ' ρ' n' ∧ (whileT C B m ρ').ok n' (endR c P0 Fz H0 Dn), ⟨k, ρ, n, sr, ok⟩, fun m σ' G ⟨ρ', n', s2, p⟩ => ?_⟩
  cases m with
  | zero => exact p.elim
  | succ m =>
    refine ht σ' G _ ρ' n' _ s2.ok s2.env (T.ok_bind.mp p) _ fun b G1 n1 ok1 e1 o1 => ?_
    have s3 := s2.same e1 o1
    cases b with
    | false =>
      rw [if_neg Bool.false_ne_true]
      exact ok1 _ _ s3
    | true =>
      rw [if_pos rfl]
      refine ⟨fun σ5 G5 => ∃ ρ5 n5, SR c P0 Fz H0 G5 σ5 ρ5 n5 ∧ (whileT C B m ρ5).ok n5 (endR c P0 Fz H0 Dn), fun σ5 G5 h => ⟨m, Nat.lt_succ_self _, h⟩, hb P0 Fz H0 G1 σ' ρ' n1 _ s3 (T.ok_mono (T.ok_bind.mp ok1) fun o k q => ?_)⟩
      cases o with
      | nx ρ5 => exact fun σ5 G5 s5 => ⟨ρ5, k, s5, q⟩
      | ct ρ5 => exact fun σ5 G5 s5 => ⟨ρ5, k, s5, q⟩
      | bk ρ5 => exact q
      | rt d' => exact q

/-! ### own lists changed -/
def ownL (ρ : Env) (i : Nat) : T (List D) := match ρ[i]? with
  | some (.own (.lst ds)) => .ret ds
  | _ => .fail
theorem ownL_ok {i : Nat} {R : List D → Nat → Prop} (h : (ownL ρ i).ok n R) : ∃ ds, ρ[i]? = some (.own (.lst ds)) ∧ R ds n := by
  unfold ownL at h
  split at h
  · rename_i ds e
    exact ⟨ds, e, h⟩
  · exact h.elim
/-- x.append(e) -/
def sApp (i : Nat) (f : Env → T D) : Env → T Out := fun ρ => (ownL ρ i).bind fun ds => (f ρ).bind fun d => match decide (ds.length < capD) with
  | true => .ret (.nx (ρ.set i (.own (.lst (ds ++ [d])))))
  | false => .fail
def sAppF (i : Nat) (f : Env → T D) : Env → T Out := fun ρ => (ownL ρ i).bind fun ds => (f (fullE ρ)).bind fun d => match flatD d && decide (ds.length < capD) with
  | true => .ret (.nx (ρ.set i (.own (.lst (ds ++ [d])))))
  | false => .fail
theorem SR.lst (sr : SR c P0 Fz H0 H σ ρ n) {i : Nat} {ds : List D} (h : ρ[i]? = some (.own (.lst ds))) : ∃ a xs, σ[i]? = some (some (.ref a)) ∧ a ≠ c.u ∧ H a = some (.lst xs) ∧ Reps c (Msk (Pow P0 σ ρ) H) xs ds := by
  obtain ⟨a, h1, h2, ⟨xs, h3, h4⟩, _⟩ := sr.own h
  exact ⟨a, xs, h1, h2, h3, h4⟩
theorem es_app {te : TE} {F : Env → T D} {i : Nat} (h : EvE c te F) : EvS c (tDrop (tBM c.K "list" rAppend (tVar i) (tCons te tNil))) (sApp i F) := fun P0 Fz H0 H σ ρ n Dn sr ok => by
  obtain ⟨ds, hd, ok1⟩ := ownL_ok (T.ok_bind.mp ok)
  obtain ⟨a, xs, h1, na, h3, h4⟩ := sr.lst hd
  refine ⟨.ref a, h1, .inl ⟨rfl, xs, .of h3⟩, h σ H _ ρ n _ sr.ok sr.env (T.ok_bind.mp ok1) _ fun v H' d n' q e o r => ?_⟩
  split at q
  · rename_i hl
    have hl := of_decide_eq_true hl
    have l := h4.length
    exact ⟨a, xs, v, rfl, rfl, e a _ na h3, cap_lt (by omega), q _ _ (sr.mut e o hd h1 ((h4.sub (Sub.msk sr.ok.pu e)).append (.one r)))⟩
  · exact q.elim
theorem es_appF {te : TE} {F : Env → T D} {i : Nat} (h : EvE c te F) : EvS c (tDrop (tBM c.K "list" rAppend (tVar i) (tCons te tNil))) (sAppF i F) := fun P0 Fz H0 H σ ρ n Dn sr ok => by
  obtain ⟨ds, hd, ok1⟩ := ownL_ok (T.ok_bind.mp ok)
  obtain ⟨a, xs, h1, na, h3, h4⟩ := sr.lst hd
  refine ⟨.ref a, h1, .inl ⟨rfl, xs, .of h3⟩, h σ H P0 (fullE ρ) n _ sr.full.1 sr.full.2 (T.ok_bind.mp ok1) _ fun v H' d n' q e o r => ?_⟩
  split at q
  · rename_i hl
    obtain ⟨hf, hl⟩ := Bool.and_eq_true_iff.mp hl
    have hl := of_decide_eq_true hl
    have l := h4.length
    exact ⟨a, xs, v, rfl, rfl, e a _ na h3, cap_lt (by omega), q _ _ (sr.mut e (sr.ok.exu o e) hd h1 ((h4.sub (Sub.msk sr.ok.pu e)).append (.one (flat_rep r hf))))⟩
  · exact q.elim
/-- x.extend(a list) -/
def sExt (i : Nat) (f : Env → T D) : Env → T Out := fun ρ => (ownL ρ i).bind fun ds => (f ρ).bind fun d => match d with
  | .lst es => (match decide (ds.length + es.length < capD) with
    | true => .ret (.nx (ρ.set i (.own (.lst (ds ++ es)))))
    | false => .fail)
  | _ => .fail
theorem es_ext {te : TE} {F : Env → T D} {i : Nat} (h : EvE c te F) : EvS c (tDrop (tBM c.K "list" rExtend (tVar i) (tCons te tNil))) (sExt i F) := fun P0 Fz H0 H σ ρ n Dn sr ok => by
  obtain ⟨ds, hd, ok1⟩ := ownL_ok (T.ok_bind.mp ok)
  obtain ⟨a, xs, h1, na, h3, h4⟩ := sr.lst hd
  refine ⟨.ref a, h1, .inl ⟨rfl, xs, .of h3⟩, h σ H _ ρ n _ sr.ok sr.env (T.ok_bind.mp ok1) _ fun v H' d n' q e o r => ?_⟩
  split at q
  · split at q
    · rename_i es _ hl
      have hl := of_decide_eq_true hl
      have l := h4.length
      cases r with
      | lst k1 k2 =>
        have l2 := k2.length
        exact ⟨a, _, xs, _, rfl, rfl, e a _ na h3, Sub.of_msk _ _ k1, cap_le (by omega), q _ _ (sr.mut e o hd h1 ((h4.sub (Sub.msk sr.ok.pu e)).append k2))⟩
    · exact q.elim
  · exact q.elim

/-! ### x += e -/
def sAug (i : Nat) (f : Int → Int → Int) (g : Env → T D) : Env → T Out := fun ρ => match ρ[i]? with
  | some (.val (.int a)) => (g ρ).bind fun d => match d with
    | .int b => .ret (.nx (ρ.set i (.val (.int (f a b)))))
    | _ => .fail
  | _ => .fail
theorem es_aug {te : TE} {F : Env → T D} {i : Nat} {f : Int → Int → Int} (h : EvX c te F) : EvS c (tAug i te (ipI f)) (sAug i f F) := fun P0 Fz H0 H σ ρ n Dn sr ok => by
  unfold sAug at ok
  split at ok
  · rename_i a hs
    obtain ⟨v, h1, h2⟩ := sr.env.at_ i _ hs
    obtain rfl := rep_int h2
    refine ⟨_, h1, h σ H _ ρ n _ sr.ok sr.env (T.ok_bind.mp ok) _ fun w H' d n' q e o r => ?_⟩
    split at q
    · obtain rfl := r.int
      exact ⟨_, _, rfl, rfl, q _ _ (sr.setVal e o (.int _) i)⟩
    · exact q.elim
  · exact ok.elim
end
end DL
end

section
set_option maxRecDepth 100000
set_option maxHeartbeats 4000000
/-! DLg: defs, calls, classes. -/
namespace DL
open PySem PySem.Spec PyProof.Rows L2 DR C8
/-! ### another instance in the making -/
mutual
theorem Rep.meI {c : Ct} {x : Addr} {G : Hp} {v : V} {d : D} : Rep c G v d → Rep { c with me := x } G v d
  | .non => .non
  | .bl b => .bl b
  | .int i => .int i
  | .str x => .str x
  | .lst h r => .lst h (Reps.meI r)
  | .tup h r => .tup h (Reps.meI r)
  | .obj h r => .obj h (Reps.meI r)
  | .urn => .urn
  | .pr h r1 r2 => .pr h (Rep.meI r1) (Rep.meI r2)
theorem Reps.meI {c : Ct} {x : Addr} {G : Hp} {vs : List V} {ds : List D} : Reps c G vs ds → Reps { c with me := x } G vs ds
  | .nil => .nil
  | .cons h r => .cons (Rep.meI h) (Reps.meI r)
end
/-! ### promises -/
/-- the promise of a def -/
def spF (K : PySem.W.Frag) (cls : Nat → Addr) (F : List D → T D) : Sp := fun vs H Q _ => ∃ (u me : Addr) (P : Addr → Prop) (n : Nat) (ds : List D) (R : D → Nat → Prop), Ok ⟨K, u, cls, me⟩ P H n ∧ Reps ⟨K, u, cls, me⟩ (Msk P H) vs ds ∧ (F ds).ok n R ∧
  ∀ v H' d n', R d n' → ExU u H H' → Ok ⟨K, u, cls, me⟩ P H' n' → Rep ⟨K, u, cls, me⟩ (Msk P H') v d → Q v H'
/-- the promise of an __init__ -/
def spI (K : PySem.W.Frag) (cls : Nat → Addr) (kk : Nat) (F : List D → T (List D)) : Sp := fun vs H Q _ => ∃ (x : Addr) (ws : List V) (u : Addr) (P : Addr → Prop) (n : Nat) (ds : List D) (R : List D → Nat → Prop) (dx : Addr), vs = .ref x :: ws ∧
  Ok ⟨K, u, cls, x⟩ P H n ∧ Reps ⟨K, u, cls, x⟩ (Msk P H) ws ds ∧ P x ∧ P dx ∧ x ≠ u ∧ dx ≠ u ∧ dx ≠ x ∧ H x = some (.ins (cls kk) dx []) ∧ H dx = some (.own x) ∧ (F ds).ok n R ∧
  ∀ H' fs xs n', R fs n' → (∀ a w, a ≠ u → a ≠ x → a ≠ dx → H a = some w → H' a = some w) → Ok ⟨K, u, cls, x⟩ P H' n' → SlX.Slt H' x (cls kk) dx (xs.map some) → Reps ⟨K, u, cls, x⟩ (Msk P H') xs fs → Q .non H'
section
variable {c : Ct}
theorem ev_call {ta : TA} {A : Env → T (List D)} {F : List D → T D} (h : EvA c ta A) : EvE c (tCall (spF c.K c.cls F) [] C8.E0 ta) (fun ρ => (A ρ).bind F) := fun σ H P ρ n R o er ok Q q =>
  h σ H P ρ n _ o er (T.ok_bind.mp ok) _ fun vs H1 ds n1 ok1 e1 o1 rs => by
    show spF c.K c.cls F (vs ++ []) H1 Q C8.E0
    rw [List.append_nil]
    exact ⟨c.u, c.me, P, n1, ds, R, o1, rs, ok1, fun v H2 d n2 r e o2 rp => q v H2 d n2 r (e1.trans e) o2 rp⟩
/-- a property of an instance of the class number k -/
def fProp (k : Nat) (F : List D → T D) (a : Env → T D) : Env → T D := fun ρ => (a ρ).bind fun d => match d with
  | .obj k' fs => (match decide (k' = k) with | true => F [.obj k' fs] | false => .fail)
  | _ => .fail
theorem ev_prop {te : TE} {A : Env → T D} {F : List D → T D} {k : Nat} (h : EvE c te A) : EvE c (SlX.tPropSl (c.cls k) (spF c.K c.cls F) C8.E0 te) (fProp k F A) := fun σ H P ρ n R o er ok Q q =>
  h σ H P ρ n _ o er (T.ok_bind.mp ok) _ fun v H1 d n1 ok1 e1 o1 rv => by
    split at ok1
    · rename_i k' fs
      split at ok1
      · rename_i hk
        obtain rfl := of_decide_eq_true hk
        cases rv with
        | obj s r => exact ⟨_, _, _, rfl, sub_slt Sub.of_msk s, c.u, c.me, P, n1, [.obj k' fs], R, o1, .cons (.obj s r) .nil, ok1, fun v H2 d n2 r e o2 rp => q v H2 d n2 r (e1.trans e) o2 rp⟩
      · exact ok1.elim
    · exact ok1.elim
/-- the slot number j of an instance of the class number k -/
structure Fld (K : PySem.W.Frag) (C : Addr) (f : Str) (j : Nat) : Prop where
  sc : SlX.SCls K C
  s1 : ∃ p, SlX.Slot1 K C f p j
def fFld (k j : Nat) (a : Env → T D) : Env → T D := fun ρ => (a ρ).bind fun d => match d with
  | .obj k' fs => (match decide (k' = k) with | true => (match fs[j]? with | some d => .ret d | none => .fail) | false => .fail)
  | _ => .fail
theorem ev_fld {te : TE} {A : Env → T D} {k j : Nat} {f : Str} (hf : Fld c.K (c.cls k) f j) (h : EvE c te A) : EvE c (SlX.tSl c.K te f) (fFld k j A) := fun σ H P ρ n R o er ok Q q =>
  h σ H P ρ n _ o er (T.ok_bind.mp ok) _ fun v H1 d n1 ok1 e1 o1 rv => by
    split at ok1
    · rename_i k' fs
      split at ok1
      · rename_i hk
        obtain rfl := of_decide_eq_true hk
        split at ok1
        · rename_i d' hd
          cases rv with
          | obj s r =>
            obtain ⟨w, hw, rw_⟩ := r.get hd
            obtain ⟨p, s1⟩ := hf.s1
            exact ⟨_, _, _, p, _, j, w, rfl, sub_slt Sub.of_msk s, hf.sc, s1, by rw [List.getElem?_map, hw]; rfl, q _ H1 _ n1 ok1 e1 o1 rw_⟩
        · exact ok1.elim
      · exact ok1.elim
    · exact ok1.elim
/-- .. of the instance in the making, its slots as ρ says -/
def fFldO (i k j : Nat) : Env → T D := fun ρ => match ρ[i]? with
  | some (.own (.obj k' fs)) => (match decide (k' = k) with | true => (match fs[j]? with | some .urn => .fail | some d => .ret d | none => .fail) | false => .fail)
  | _ => .fail
theorem ev_fldO {i k j : Nat} {f : Str} (hf : Fld c.K (c.cls k) f j) : EvE c (SlX.tSl c.K (tVar i) f) (fFldO i k j) := fun σ H P ρ n R o er ok Q q => by
  unfold fFldO at ok
  split at ok
  · rename_i k' fs hi
    split at ok
    · rename_i hk
      obtain rfl := of_decide_eq_true hk
      obtain ⟨a, h1, h2, h3, dx, xs, k1, k2, k3, k4, k5, k6⟩ := er.at_ i _ hi
      split at ok
      · exact ok.elim
      · rename_i d' hne hd
        rcases k6 j d' hd with z | ⟨w, w1, w2⟩
        · exact (hne z).elim
        · obtain ⟨p, s1⟩ := hf.s1
          exact ⟨.ref a, h1, a, _, dx, p, xs, j, w, rfl, k5, hf.sc, s1, w1, q _ H _ n ok (ExU.refl _ _) o w2⟩
      · exact ok.elim
    · exact ok.elim
  · exact ok.elim
/-! ### bodies -/
def outD : Out → T D
  | .nx _ => .ret .non
  | .rt d => .ret d
  | _ => .fail
/-- a def of np parameters and m further names -/
def runDef (np m : Nat) (B : Env → T Out) : List D → T D := fun ds => match decide (ds.length = np) with
  | true => (B (ds.map .val ++ List.replicate m .no)).bind outD
  | false => .fail
theorem run_len {K : PySem.W.Frag} {cls : Nat → Addr} {np m : Nat} {B : Env → T Out} {vs : List V} {H : Hp} {Q : VK} {E : XK} (h : spF K cls (runDef np m B) vs H Q E) : vs.length = np := by
  obtain ⟨u, me, P, n, ds, R, o, rs, ok, q⟩ := h
  unfold runDef at ok
  split at ok
  · rename_i hl
    rw [rs.length]; exact of_decide_eq_true hl
  · exact ok.elim
theorem slots_val {P : Addr → Prop} {H : Hp} {m : Nat} : ∀ {vs : List V} {ds : List D}, Reps c (Msk P H) vs ds → EnvR c P H (vs.map some ++ List.replicate m none) (ds.map .val ++ List.replicate m .no) := by
  intro vs ds r
  refine ⟨by simp [r.length], fun i s h => ?_⟩
  have hl := r.length
  by_cases hi : i < ds.length
  · rw [List.getElem?_append_left (by rw [List.length_map]; exact hi), List.getElem?_map, List.getElem?_eq_getElem hi] at h
    cases h
    obtain ⟨v, hv, rv⟩ := r.get (List.getElem?_eq_getElem hi)
    exact ⟨v, by rw [List.getElem?_append_left (by rw [List.length_map, hl]; exact hi), List.getElem?_map, hv]; rfl, rv⟩
  · rw [List.getElem?_append_right (by rw [List.length_map]; omega), List.getElem?_replicate] at h
    split at h
    · cases h; trivial
    · cases h
theorem noOwn {ds : List D} {m i : Nat} {d : D} (h : (ds.map Slot.val ++ List.replicate m Slot.no)[i]? = some (.own d)) : False := by
  by_cases hi : i < ds.length
  · rw [List.getElem?_append_left (by rw [List.length_map]; exact hi), List.getElem?_map, List.getElem?_eq_getElem hi] at h
    cases h
  · rw [List.getElem?_append_right (by rw [List.length_map]; omega), List.getElem?_replicate] at h
    split at h <;> cases h
theorem sr_start {P Fz : Addr → Prop} {H : Hp} {σ : L2.St} {ρ : Env} {n : Nat} (o : Ok c P H n) (er : EnvR c P H σ ρ) (no : ∀ (i : Nat) (d : D), ρ[i]? ≠ some (.own d)) (hz : Fz c.u) : SR c P Fz H H σ ρ n := by
  have pw : ∀ a, Pow P σ ρ a ↔ P a := fun a => ⟨fun h => h.elim id fun ⟨i, d, h1, _⟩ => absurd h1 (no i d), .inl⟩
  have e : Pow P σ ρ = P := funext fun a => propext (pw a)
  refine ⟨by rw [e]; exact o, by rw [e]; exact er, fun i j a d e h1 => absurd h1 (no i d), fun i a d h1 => absurd h1 (no i d), fun a w _ h => h, hz, o.pu⟩
theorem run_body {K : PySem.W.Frag} {cls : Nat → Addr} {N : List Str} {np : Nat} {B : Env → T Out} {t : TS} {vs : List V} {H : Hp} {Q : VK} {E : XK} (hB : ∀ u me, EvS ⟨K, u, cls, me⟩ t B)
    (h : spF K cls (runDef np (N.length - np) B) vs H Q E) : t { nx := fun _ H' => Q .non H', rt := Q } (L2.start N vs) H := by
  have hl := run_len h
  obtain ⟨u, me, P, n, ds, R, o, rs, ok, q⟩ := h
  unfold runDef at ok
  split at ok
  · rename_i hld
    refine hB u me P (fun a => a = u) H H _ (ds.map .val ++ List.replicate (N.length - np) .no) n _ (sr_start o ?_ (fun i d h => noOwn h) rfl) ?_
    · unfold L2.start
      rw [hl]
      exact slots_val rs
    · refine T.ok_mono (T.ok_bind.mp ok) fun out k hk => ?_
      cases out with
      | nx ρ => exact fun σ H' sr => q _ _ _ _ hk (fun a w ha hw => sr.fr a w ha hw) sr.full.1 .non
      | rt d => exact fun v H' fr o' rp => q _ _ _ _ hk (fun a w ha hw => fr a w ha hw) o' rp
      | bk ρ => exact hk.elim
      | ct ρ => exact hk.elim
  · exact ok.elim
variable {P : Program} {w : World} {K : PySem.W.Frag} {mg : Str → Option Value} {base : Heap} {cls : Nat → Addr}
theorem cal_def {x : Str} {st : Stmt} {f : Addr} {fd : FuncData} {N ps : List Str} {k : Nat} {B : Env → T Out} (F : Def K mg x st f fd) (b : Binds K fd ps []) (S : FnScope N ps (fnScope st))
    (hbody : ∀ (cdv : Value) (A : Around) (outer : List PySem.Env) (s : Shared) (H : Hp) (E : XK), Room k (A.deeper (envOfC x (fnScope st) s.heap.objs.size f cdv)) →
      ∃ t, PSs (cxOf C8.CX0 P w K mg base N x (fnScope st) f cdv A outer s H E).nox (fnBody st) t ∧ ∀ u me, EvS ⟨K, u, cls, me⟩ t B) : Cal P w K mg base (k + 1) x (spF K cls (runDef ps.length (N.length - ps.length) B)) [] :=
  cal0 F b .nil S (fun _ _ _ _ h => run_len h) fun cdv A outer s H vs Q E hr h => by
    obtain ⟨t, h1, h2⟩ := hbody cdv A outer s H E hr
    exact ⟨t, h1, run_body h2 h⟩
end
end DL
end

section
set_option maxRecDepth 100000
set_option maxHeartbeats 4000000
/-! DLh: __init__ and C(..). -/
namespace DL
open PySem PySem.Spec PyProof.Rows L2 DR
/-- the object in the making at c.me: fs its slots, urn where none is set -/
structure MkS (c : Ct) (P : Addr → Prop) (kk : Nat) (dx : Addr) (H : Hp) (xs : List (Option V)) (fs : List D) : Prop where
  p1 : P c.me
  p2 : P dx
  n1 : c.me ≠ c.u
  n2 : dx ≠ c.u
  n3 : dx ≠ c.me
  d : H dx = some (.own c.me) ∨ H dx = some (.xd [])
  s : SlX.Slt H c.me (c.cls kk) dx xs
  len : xs.length ≤ fs.length
  at_ : ∀ (i : Nat) (d : D), fs[i]? = some d → d = .urn ∨ ∃ w, xs[i]? = some (some w) ∧ Rep c (Msk P H) w d
def EvJ (c : Ct) (kk : Nat) (t : TS) (J : List D → Env → T (List D)) : Prop := ∀ (P : Addr → Prop) (H : Hp) (σ : L2.St) (ρ : Env) (n : Nat) (dx : Addr) (xs : List (Option V)) (fs : List D) (R : List D → Nat → Prop) (Dn : Ends),
  Ok c P H n → EnvR c P H σ ρ → ρ[0]? = some .me → (∀ (i : Nat) (d : D), ρ[i]? ≠ some (.own d)) → MkS c P kk dx H xs fs → (J fs ρ).ok n R →
  (∀ H' n' xs' fs', R fs' n' → (∀ a w, a ≠ c.u → a ≠ c.me → a ≠ dx → H a = some w → H' a = some w) → Ok c P H' n' → EnvR c P H' σ ρ → MkS c P kk dx H' xs' fs' → Dn.nx σ H') → t Dn σ H
section
variable {c : Ct} {kk : Nat}
theorem MkS.exu {P : Addr → Prop} {dx : Addr} {H H' : Hp} {xs : List (Option V)} {fs : List D} (m : MkS c P kk dx H xs fs) (hu : P c.u) (e : ExU c.u H H') : MkS c P kk dx H' xs fs :=
  ⟨m.p1, m.p2, m.n1, m.n2, m.n3, m.d.imp (e _ _ m.n2) (e _ _ m.n2), slt_exu e m.n1 m.n2 m.s, m.len, fun i d h => (m.at_ i d h).imp id fun ⟨w, h1, h2⟩ => ⟨w, h1, h2.sub (Sub.msk hu e)⟩⟩
/-- self.f = e; the slots so far stand in ρ -/
def jFld (j : Nat) (f : Env → T D) : List D → Env → T (List D) := fun fs ρ => (f (ρ.set 0 (.own (.obj kk fs)))).bind fun d => match d with
  | .urn => .fail
  | d => (match decide (j < fs.length) with | true => .ret (fs.set j d) | false => .fail)
theorem putS_len {i : Nat} {v : V} {vs : List (Option V)} {n : Nat} (h : vs.length ≤ n) (hi : i < n) : (SlX.putS i v vs).length ≤ n := by
  unfold SlX.putS
  rw [List.length_set, List.length_append, List.length_replicate]
  omega
theorem ej_fld {te : TE} {F : Env → T D} {f : Str} {j : Nat} (hf : Fld c.K (c.cls kk) f j) (h : EvE c te F) : EvJ c kk (SlX.sSl c.K (tVar 0) te f) (jFld (kk := kk) j F) := by
  intro P H σ ρ n dx xs fs R Dn o er hme no m ok q
  have hx : σ[0]? = some (some (.ref c.me)) := er.at_ 0 _ hme
  have h0 : 0 < ρ.length := (List.getElem?_eq_some_iff.mp hme).1
  have er2 : EnvR c P H σ (ρ.set 0 (.own (.obj kk fs))) := by
    refine ⟨by rw [List.length_set]; exact er.len, fun i s hs => ?_⟩
    by_cases hi : i = 0
    · subst hi
      rw [List.getElem?_set_self h0] at hs
      cases hs
      exact ⟨c.me, hx, m.p1, m.n1, dx, xs, m.p2, m.n2, m.n3, m.d, m.s, m.at_⟩
    · rw [List.getElem?_set_ne (Ne.symm hi)] at hs
      exact er.at_ i s hs
  refine h σ H P _ n _ o er2 (T.ok_bind.mp ok) _ fun v H1 d n1 ok1 e1 o1 rv => ?_
  have m1 := m.exu o.pu e1
  obtain ⟨p, s1⟩ := hf.s1
  have key : d ≠ .urn ∧ j < fs.length ∧ R (fs.set j d) n1 := by
    cases d with
    | urn => exact ok1.elim
    | _ =>
      simp only at ok1
      split at ok1
      · rename_i hj
        exact ⟨(by intro z; cases z), of_decide_eq_true hj, ok1⟩
      · exact ok1.elim
  obtain ⟨hd, hj, hR⟩ := key
  refine ⟨.ref c.me, hx, c.me, _, dx, p, xs, j, rfl, m1.s, hf.sc, s1, ?_⟩
  have hmem : ∀ a w, a ≠ c.me → a ≠ dx → H1 a = some w → SlX.slH H1 c.me (c.cls kk) dx (SlX.putS j v xs) a = some w := fun a w h1 h2 h3 => by rw [SlX.slH_ne h1 h2]; exact h3
  have sub : Sub (Msk P H1) (Msk P (SlX.slH H1 c.me (c.cls kk) dx (SlX.putS j v xs))) := fun a w h => by
    obtain ⟨h1, h2⟩ := msk_some.mp h
    exact msk_some.mpr ⟨h1, hmem a w (fun z => h1 (z ▸ m.p1)) (fun z => h1 (z ▸ m.p2)) h2⟩
  have o2 : Ok c P (SlX.slH H1 c.me (c.cls kk) dx (SlX.putS j v xs)) n1 := by
    refine ⟨?_, o1.pu, fun a ha => ?_⟩
    · obtain ⟨a, b, e, h1, h2⟩ := o1.urn
      exact ⟨a, b, e, hmem _ _ (Ne.symm m.n1) (Ne.symm m.n2) h1, h2⟩
    · by_cases z1 : a = c.me
      · rw [z1]; unfold SlX.slH; rw [upd_same]; simp
      · by_cases z2 : a = dx
        · rw [z2]; unfold SlX.slH; rw [upd_ne m.n3, upd_same]; simp
        · rw [SlX.slH_ne z1 z2]; exact o1.dom a ha
  have er3 := er.exu o.pu e1
  refine q _ n1 (SlX.putS j v xs) (fs.set j d) hR (fun a w h1 h2 h3 h4 => hmem a w h2 h3 (e1 a w h1 h4)) o2 ⟨er3.len, fun i s hs => ?_⟩ ⟨m.p1, m.p2, m.n1, m.n2, m.n3, .inr ?_, SlX.slH_slt m.n3, ?_, fun i d' hd' => ?_⟩
  · have z := er3.at_ i s hs
    cases s with
    | no => trivial
    | me => exact z
    | val d => obtain ⟨v, h1, h2⟩ := z; exact ⟨v, h1, h2.sub sub⟩
    | own d => exact absurd hs (no i d)
  · unfold SlX.slH; rw [upd_ne m.n3, upd_same]
  · rw [List.length_set]; exact putS_len m.len hj
  · by_cases hi : i = j
    · subst hi
      rw [List.getElem?_set_self hj] at hd'
      cases hd'
      exact .inr ⟨v, SlX.putS_get _ _ _, rv.sub sub⟩
    · rw [List.getElem?_set_ne (Ne.symm hi)] at hd'
      rcases m1.at_ i d' hd' with z | ⟨w, w1, w2⟩
      · exact .inl z
      · exact .inr ⟨w, (SlX.putS_ne hi).mpr w1, w2.sub sub⟩
def jSeq (a b : List D → Env → T (List D)) : List D → Env → T (List D) := fun fs ρ => (a fs ρ).bind fun gs => b gs ρ
theorem ej_seq {t u : TS} {F G : List D → Env → T (List D)} (h : EvJ c kk t F) (k : EvJ c kk u G) : EvJ c kk (tSeq t u) (jSeq F G) := fun P H σ ρ n dx xs fs R Dn o er hme no m ok q =>
  h P H σ ρ n dx xs fs _ _ o er hme no m (T.ok_bind.mp ok) fun H1 n1 xs1 fs1 ok1 fr1 o1 er1 m1 =>
    k P H1 σ ρ n1 dx xs1 fs1 R Dn o1 er1 hme no m1 ok1 fun H2 n2 xs2 fs2 r fr2 o2 er2 m2 => q H2 n2 xs2 fs2 r (fun a w h1 h2 h3 h4 => fr2 a w h1 h2 h3 (fr1 a w h1 h2 h3 h4)) o2 er2 m2
/-! ### a body of __init__: statements, then the stores -/
def EvN (c : Ct) (kk : Nat) (t : TS) (G : Env → T (List D)) : Prop := ∀ (P : Addr → Prop) (H0 H : Hp) (σ : L2.St) (ρ : Env) (n : Nat) (dx : Addr) (R : List D → Nat → Prop) (Dn : Ends),
  SR c P (fun a => a = c.u) H0 H σ ρ n → MkS c P kk dx H0 [] [] → H0 c.me = some (.ins (c.cls kk) dx []) → H0 dx = some (.own c.me) → (G ρ).ok n R →
  (∀ σ' H' n' xs fs, R fs n' → (∀ a w, a ≠ c.u → a ≠ c.me → a ≠ dx → H0 a = some w → H' a = some w) → Ok c P H' n' → SlX.Slt H' c.me (c.cls kk) dx (xs.map some) → Reps c (Msk P H') xs fs → Dn.nx σ' H') → t Dn σ H
def nSeq (a : Env → T Out) (b : Env → T (List D)) : Env → T (List D) := fun ρ => (a ρ).bind fun o => match o with | .nx ρ' => b ρ' | _ => .fail
theorem en_seq {t u : TS} {F : Env → T Out} {G : Env → T (List D)} (h : EvS c t F) (k : EvN c kk u G) : EvN c kk (tSeq t u) (nSeq F G) := fun P H0 H σ ρ n dx R Dn sr m h1 h2 ok q => by
  refine h P _ H0 H σ ρ n _ sr (T.ok_mono (T.ok_bind.mp ok) fun o n1 ok1 => ?_)
  cases o with
  | nx ρ' => exact fun σ1 H1 sr1 => k P H0 H1 σ1 ρ' n1 dx R Dn sr1 m h1 h2 ok1 q
  | rt d => exact ok1.elim
  | bk ρ' => exact ok1.elim
  | ct ρ' => exact ok1.elim
def isUrn : D → Bool | .urn => true | _ => false
def nTail (nf : Nat) (j : List D → Env → T (List D)) : Env → T (List D) := fun ρ => match ρ[0]? with
  | some Slot.me => (j (List.replicate nf .urn) (fullE ρ)).bind fun fs => (match fs.all (fun d => !isUrn d) with | true => .ret fs | false => .fail)
  | _ => .fail
theorem full_no {ρ : Env} (i : Nat) (d : D) : (fullE ρ)[i]? ≠ some (.own d) := by
  unfold fullE
  rw [List.getElem?_map]
  cases ρ[i]? with
  | none => intro z; cases z
  | some s =>
    cases s with
    | own d => cases d <;> (intro z; cases z)
    | no => intro z; cases z
    | val d => intro z; cases z
    | me => intro z; cases z
theorem all_at {P : Addr → Prop} {H : Hp} : ∀ {xs : List (Option V)} {fs : List D}, xs.length ≤ fs.length → fs.all (fun d => !isUrn d) = true →
    (∀ (i : Nat) (d : D), fs[i]? = some d → d = .urn ∨ ∃ w, xs[i]? = some (some w) ∧ Rep c (Msk P H) w d) → ∃ ys, xs = ys.map some ∧ Reps c (Msk P H) ys fs
  | [], [], _, _, _ => ⟨[], rfl, .nil⟩
  | x :: xs, [], h, _, _ => absurd h (by simp)
  | [], f :: fs, _, hu, h => by
    rw [List.all_cons, Bool.and_eq_true] at hu
    rcases h 0 f rfl with z | ⟨w, h1, _⟩
    · subst z; exact absurd hu.1 (by decide)
    · cases h1
  | x :: xs, f :: fs, hl, hu, h => by
    rw [List.all_cons, Bool.and_eq_true] at hu
    obtain ⟨ys, e, r⟩ := all_at (xs := xs) (fs := fs) (Nat.le_of_succ_le_succ hl) hu.2 fun i d hd => h (i + 1) d hd
    rcases h 0 f rfl with z | ⟨w, h1, h2⟩
    · subst z; exact absurd hu.1 (by decide)
    · have e1 : x = some w := Option.some.inj h1
      exact ⟨w :: ys, by rw [e1, e]; rfl, .cons h2 r⟩
theorem en_tail {t : TS} {J : List D → Env → T (List D)} {nf : Nat} (h : EvJ c kk t J) : EvN c kk t (nTail nf J) := fun P H0 H σ ρ n dx R Dn sr m h1 h2 ok q => by
  unfold nTail at ok
  split at ok
  · rename_i hme
    have hf : (fullE ρ)[0]? = some .me := by
      unfold fullE
      rw [List.getElem?_map, hme]; rfl
    have keep : ∀ a w, a ≠ c.u → H0 a = some w → H a = some w := fun a w ha hw => sr.fr a w ha hw
    have m1 : MkS c P kk dx H [] (List.replicate nf .urn) := ⟨m.p1, m.p2, m.n1, m.n2, m.n3, .inl (keep _ _ m.n2 h2), .inl ⟨keep _ _ m.n1 h1, rfl⟩, Nat.zero_le _, fun i d hd => .inl (by
      rw [List.getElem?_replicate] at hd
      split at hd
      · exact (Option.some.inj hd).symm
      · cases hd)⟩
    refine h P H σ (fullE ρ) n dx [] _ _ Dn sr.full.1 sr.full.2 hf full_no m1 (T.ok_bind.mp ok) fun H' n' xs fs r fr o er m' => ?_
    split at r
    · rename_i hu
      obtain ⟨ys, e, rr⟩ := all_at m'.len hu m'.at_
      have s' := m'.s
      rw [e] at s'
      exact q σ H' n' ys fs r (fun a w a1 a2 a3 a4 => fr a w a1 a2 a3 (keep a w a1 a4)) o s' rr
    · exact r.elim
  · exact ok.elim
/-- np: the parameters behind self -/
def runInit (np m : Nat) (B : Env → T (List D)) : List D → T (List D) := fun ds => match decide (ds.length = np) with
  | true => B (.me :: (ds.map .val ++ List.replicate m .no))
  | false => .fail
theorem init_len {K : PySem.W.Frag} {cls : Nat → Addr} {np m : Nat} {B : Env → T (List D)} {vs : List V} {H : Hp} {Q : VK} {E : XK} (h : spI K cls kk (runInit np m B) vs H Q E) : vs.length = np + 1 := by
  obtain ⟨x, ws, u, P, n, ds, R, dx, rfl, o, rs, p1, p2, n1, n2, n3, h1, h2, ok, q⟩ := h
  unfold runInit at ok
  split at ok
  · rename_i hl
    rw [List.length_cons, rs.length, of_decide_eq_true hl]
  · exact ok.elim
theorem init_body {K : PySem.W.Frag} {cls : Nat → Addr} {N : List Str} {np : Nat} {B : Env → T (List D)} {t : TS} {vs : List V} {H : Hp} {Q : VK} {E : XK} (hB : ∀ u me, EvN ⟨K, u, cls, me⟩ kk t B)
    (h : spI K cls kk (runInit np (N.length - (np + 1)) B) vs H Q E) : t { nx := fun _ H' => Q .non H', rt := Q } (L2.start N vs) H := by
  have hl := init_len h
  obtain ⟨x, ws, u, P, n, ds, R, dx, rfl, o, rs, p1, p2, n1, n2, n3, h1, h2, ok, q⟩ := h
  unfold runInit at ok
  split at ok
  · have er : EnvR ⟨K, u, cls, x⟩ P H (L2.start N (.ref x :: ws)) (.me :: (ds.map .val ++ List.replicate (N.length - (np + 1)) .no)) := by
      have er := slots_val (c := ⟨K, u, cls, x⟩) (P := P) (H := H) (m := N.length - (np + 1)) rs
      have e : L2.start N (.ref x :: ws) = some (.ref x) :: (ws.map some ++ List.replicate (N.length - (np + 1)) none) := by
        unfold L2.start
        rw [hl]; rfl
      rw [e]
      refine ⟨by rw [List.length_cons, List.length_cons, er.len], fun i s hs => ?_⟩
      cases i with
      | zero => cases hs; rfl
      | succ i => exact er.at_ i s hs
    have no : ∀ (i : Nat) (d : D), (Slot.me :: (ds.map .val ++ List.replicate (N.length - (np + 1)) .no))[i]? ≠ some (.own d) := fun i d hd => by
      cases i with
      | zero => cases hd
      | succ i => exact noOwn hd
    exact hB u x P H H _ _ n dx R _ (sr_start o er no rfl) ⟨p1, p2, n1, n2, n3, .inl h2, .inl ⟨h1, rfl⟩, Nat.zero_le _, fun i d hd => by simp at hd⟩ h1 h2 ok fun σ' H' n' xs fs r fr o' s' rr => q H' fs xs n' r fr o' s' rr
  · exact ok.elim
/-- C(..) -/
def fMake (kk : Nat) (a : Env → T (List D)) (F : List D → T (List D)) : Env → T D := fun ρ => (a ρ).bind fun ds => (F ds).bind fun fs => .ret (.obj kk fs)
theorem ev_make {ta : TA} {A : Env → T (List D)} {F : List D → T (List D)} (h : EvA c ta A) : EvE c (tMake (c.cls kk) (spI c.K c.cls kk F) [] C8.E0 ta) (fMake kk A F) := fun σ H P ρ n R o er ok Q q =>
  h σ H P ρ n _ o er (T.ok_bind.mp ok) _ fun vs H1 ds n1 ok1 e1 o1 rs => fun x dx hx hdx hne => by
    have nx : x ≠ c.u := o1.nu hx
    have ndx : dx ≠ c.u := o1.nu hdx
    have px := o1.np hx
    have pdx := o1.np hdx
    rw [List.append_nil]
    have get : ∀ a w, a ≠ x → a ≠ dx → H1 a = some w → upd (upd H1 dx (.own x)) x (.ins (c.cls kk) dx []) a = some w := fun a w h1 h2 h3 => by rw [upd_ne h1, upd_ne h2]; exact h3
    have hu1 : c.u ≠ x := Ne.symm nx
    have hu2 : c.u ≠ dx := Ne.symm ndx
    refine ⟨x, vs, c.u, fun a => P a ∨ a = x ∨ a = dx, n1, ds, _, dx, rfl, ⟨?_, .inl o1.pu, fun a ha => ?_⟩, (rs.sub fun a w ha => ?_).meI (c := c) (x := x), .inr (.inl rfl), .inr (.inr rfl), nx, ndx, hne, by rw [upd_same], by rw [upd_ne hne, upd_same], T.ok_bind.mp ok1, ?_⟩
    · obtain ⟨a, b, e, h1, h2⟩ := o1.urn
      exact ⟨a, b, e, get _ _ hu1 hu2 h1, h2⟩
    · by_cases z1 : a = x
      · rw [z1, upd_same]; simp
      · by_cases z2 : a = dx
        · rw [z2, upd_ne hne, upd_same]; simp
        · rw [upd_ne z1, upd_ne z2]
          rcases ha with z | z | z
          · exact o1.dom a z
          · exact absurd z z1
          · exact absurd z z2
    · obtain ⟨h1, h2⟩ := msk_some.mp ha
      have a1 : a ≠ x := fun z => by rw [z, hx] at h2; cases h2
      have a2 : a ≠ dx := fun z => by rw [z, hdx] at h2; cases h2
      exact msk_some.mpr ⟨fun z => by
        rcases z with z | z | z
        · exact h1 z
        · exact a1 z
        · exact a2 z, get a w a1 a2 h2⟩
    · intro H' fs xs n' r fr o' s' rr
      refine ⟨rfl, q (.ref x) H' (.obj kk fs) n' r (fun a w ha hw => ?_) ⟨o'.urn, o1.pu, fun a h => o'.dom a (.inl h)⟩ ?_⟩
      · have h2 := e1 a w ha hw
        have a1 : a ≠ x := fun z => by rw [z, hx] at h2; cases h2
        have a2 : a ≠ dx := fun z => by rw [z, hdx] at h2; cases h2
        exact fr a w ha a1 a2 (get a w a1 a2 h2)
      · have rr2 : Reps c (Msk P H') xs fs := (rr.meI (x := c.me)).sub (Sub.less fun a h => .inl h)
        refine .obj (dx := dx) (xs := xs) ?_ rr2
        rcases s' with ⟨k1, k2⟩ | ⟨k1, k2⟩
        · exact .inl ⟨msk_some.mpr ⟨px, k1⟩, k2⟩
        · exact .inr ⟨msk_some.mpr ⟨px, k1⟩, msk_some.mpr ⟨pdx, k2⟩⟩
variable {P : Program} {w : World} {K : PySem.W.Frag} {mg : Str → Option Value} {base : Heap} {cls : Nat → Addr}
theorem mak_def {x qual : Str} {st : Stmt} {f : Addr} {fd : FuncData} {N ps : List Str} {k np : Nat} {B : Env → T (List D)} (M : Mk K (cls kk) f) (hm : mg x = some (.ref (cls kk))) (F : C8.Fun K "__init__" qual st f fd) (b : Binds K fd ps []) (S : FnScope N ps (C8.fnScope st)) (hps : ps.length = np + 1)
    (hbody : ∀ (cdv : Value) (A : Around) (outer : List PySem.Env) (s : Shared) (H : Hp) (E : XK), Room k (A.deeper (envOfC qual (C8.fnScope st) s.heap.objs.size f cdv)) →
      ∃ t, PSs (cxOf C8.CX0 P w K mg base N qual (C8.fnScope st) f cdv A outer s H E).nox (C8.fnBody st) t ∧ ∀ u me, EvN ⟨K, u, cls, me⟩ kk t B) : C8.Mak P w K mg base (k + 1) x (cls kk) (spI K cls kk (runInit np (N.length - (np + 1)) B)) [] :=
  C8.mak0 M hm F b .nil S (fun _ _ _ _ h => by rw [hps]; exact init_len h) fun cdv A outer s H vs Q E hr h => by
    obtain ⟨t, h1, h2⟩ := hbody cdv A outer s H E hr
    exact ⟨t, h1, init_body h2 h⟩
end
end DL
end

section
set_option maxRecDepth 100000
set_option maxHeartbeats 4000000
/-! DS: sets of ints, texts and None: set(xs), sorted(set), len(set). -/
namespace DS
open PySem PySem.Spec PyProof.Rows L2 DR
def lv : Leaf → V
  | .none => .non
  | .num i => .int i
  | .text x => .str x
/-- the key that a value bears -/
def kyOf (e : Int × Value) : Leaf := match e.2 with
  | .int i _ => .num i
  | .str x _ => .text x
  | _ => .none
def Good (P : Program) (w : World) (e : Int × Value) : Prop := ∃ k, RelV (lv k) e.2 ∧ e.1 = (leafKind P w).hash k
theorem relv_is {P : Program} {w : World} {k : Leaf} {v : Value} (r : RelV (lv k) v) : (leafKind P w).is k v = true := by
  cases k with
  | none => cases r; rfl
  | num i => obtain ⟨t, rfl⟩ := r; exact decide_eq_true rfl
  | text x => obtain ⟨t, rfl⟩ := r; exact (show Value.isStrOf x (.str x t) = true by simp [Value.isStrOf])
theorem relv_scan {k : Leaf} {v : Value} (r : RelV (lv k) v) : v.scannable = true := by
  cases k with
  | none => cases r; rfl
  | num i => obtain ⟨t, rfl⟩ := r; rfl
  | text x => obtain ⟨t, rfl⟩ := r; rfl
theorem ky_of {k : Leaf} {e : Int × Value} (r : RelV (lv k) e.2) : kyOf e = k := by
  unfold kyOf
  cases k with
  | none => have r : e.2 = Value.none := r; rw [r]
  | num i => obtain ⟨t, r⟩ := r; rw [r]
  | text x => obtain ⟨t, r⟩ := r; rw [r]
section
variable {P : Program} {w : World} {h h' : Heap} {a : Addr} {S : Leaf → Bool} {n : Nat}
theorem good_is {e : Int × Value} (g : Good P w e) (k : Leaf) : (leafKind P w).is k e.2 = true ↔ kyOf e = k := by
  obtain ⟨k0, r, _⟩ := g
  rw [ky_of r]
  constructor
  · intro z
    exact (leafKind P w).inj e.2 k0 k (relv_is r) z
  · rintro rfl
    exact relv_is r
theorem good_elems {l : List (Int × Value)} (g : ∀ e ∈ l, Good P w e) : ElemsOf (leafKind P w) l := fun e he => by
  obtain ⟨k, r, h2⟩ := g e he
  exact ⟨⟨k, relv_is r, h2⟩, relv_scan r⟩
theorem good_mem {l : List (Int × Value)} (g : ∀ e ∈ l, Good P w e) (k : Leaf) : k ∈ l.map kyOf ↔ ∃ e ∈ l, (leafKind P w).is k e.2 = true := by
  rw [List.mem_map]
  constructor
  · rintro ⟨e, he, q⟩
    exact ⟨e, he, (good_is (g e he) k).2 q⟩
  · rintro ⟨e, he, q⟩
    exact ⟨e, he, (good_is (g e he) k).1 q⟩
/-- the set at a: S its members, n their number -/
def SetL (P : Program) (w : World) (h : Heap) (a : Addr) (S : Leaf → Bool) (n : Nat) : Prop :=
  ∃ o es ep t, h.get? a = some o ∧ o.ExactSet ∧ o.data = .set es ep t ∧ (∀ e ∈ es.toList, Good P w e) ∧ (es.toList.map kyOf).Nodup ∧ (∀ k, S k = true ↔ k ∈ es.toList.map kyOf) ∧
    es.size < scanBound ∧ t.fits es.size = true ∧ es.size = n ∧ Ris t.place.toList ∧ (w.params.followText "set-order" = true ∨ t.led = true)
theorem SetL.at (R : SetL P w h a S n) (k : ∀ o, h.get? a = some o → h'.get? a = some o) : SetL P w h' a S n := by
  obtain ⟨o, es, ep, t, ho, r⟩ := R
  exact ⟨o, es, ep, t, k o ho, r⟩
theorem SetL.lt (R : SetL P w h a S n) : a < h.objs.size := by
  obtain ⟨o, es, ep, t, ho, r⟩ := R
  exact Heap.lt_size ho
theorem SetL.congr {S' : Leaf → Bool} (R : SetL P w h a S n) (e : ∀ k, S' k = S k) : SetL P w h a S' n := by
  have q : S' = S := funext e
  rw [q]; exact R
theorem SetL.setOf (R : SetL P w h a S n) : h.SetOf (leafKind P w) a S n := by
  obtain ⟨o, es, ep, t, ho, hx, hd, g, nd, hm, hb, hf, hn, _⟩ := R
  exact ⟨o, es, ep, t, ho, hx, hd, good_elems g, fun k => (hm k).trans (good_mem g k), hb, hf, hn⟩
end
section
variable {P : Program} {w : World} {A : Around} {E : Value → Shared → Prop} {s : Shared} {a : Addr} {S : Leaf → Bool} {n : Nat}
theorem add_tail {g : Bool → Sem Unit} (hg : ∀ (b : Bool) (s₁ : Shared) (Q' : Unit → Shared → Prop), Q' () s₁ → wpAny (model P w) A (g b) Q' E s₁)
    {o : Obj} {es : Array (Int × Value)} {ep : Nat} {t : SetTable} (ho : s.heap.get? a = some o) (hex : o.ExactSet) (hd : o.data = .set es ep t)
    {es1 : Array (Int × Value)} {t2 : SetTable} {S' : Leaf → Bool} (g1 : ∀ e ∈ es1.toList, Good P w e) (nd1 : (es1.toList.map kyOf).Nodup) (m1 : ∀ k, S' k = true ↔ k ∈ es1.toList.map kyOf)
    (hb1 : es1.size < scanBound) (hf2 : t2.fits es1.size = true) (hr : Ris t2.place.toList) (hl : w.params.followText "set-order" = true ∨ t2.led = true) {wasDummy : Bool} {R : Option Bool → Shared → Prop}
    (hR : ∀ h', Heap.SameBut a s.heap h' → SetL P w h' a S' es1.size → R (some true) { s with heap := h' }) :
    wpAny (model P w) A (do
        storeSet a es1 t2
        if (!wasDummy && t2.tooFull) = true then do
            g (relayAll t2 es1 (SetTable.grown es1.size)).2.2
            storeSet a (relayAll t2 es1 (SetTable.grown es1.size)).1 (relayAll t2 es1 (SetTable.grown es1.size)).2.1
            pure (some true)
          else pure (some true)) R E s := by
  refine wpAny_bind (wpAny_storeSet_of ho hd ?_ (fits_of_scanBound hb1))
  have ho1 := store_at (es' := es1) (t' := t2) ho hd
  have sb1 := Heap.SameBut.update s.heap a (Obj.putSet es1 t2)
  split
  · have pm := relayAll_perm t2 es1 (SetTable.grown es1.size)
    have hf3 := relayAll_fits t2 es1 (SetTable.grown es1.size)
    have hr3 := relayAll_ris t2 es1 (SetTable.grown es1.size)
    have hl3 := relayAll_led t2 es1 (SetTable.grown es1.size)
    generalize relayAll t2 es1 (SetTable.grown es1.size) = Z at pm hf3 hr3 hl3 ⊢
    obtain ⟨es2, t3, gave⟩ := Z
    dsimp only at pm hf3 hr3 hl3 ⊢
    have hsz : es2.size = es1.size := by rw [← Array.length_toList, pm.length_eq, Array.length_toList]
    have hb2 : es2.size < scanBound := by rw [hsz]; exact hb1
    refine wpAny_bind (hg _ _ _ ?_)
    refine wpAny_bind (wpAny_storeSet_of ho1 rfl ?_ (fits_of_scanBound hb2))
    have ho2 := store_at (es' := es2) (t' := t3) ho1 rfl
    refine wpAny_pure (hR _ (sb1.trans (Heap.SameBut.update _ a _)) ?_)
    exact ⟨_, es2, _, t3, ho2, hex, rfl, fun e he => g1 e (pm.mem_iff.mp he), (pm.map kyOf).nodup_iff.mpr nd1, fun k => (m1 k).trans (pm.map kyOf).mem_iff.symm, hb2, hf3, hsz, hr3,
      hl.imp id fun z => by rw [hl3]; exact z⟩
  · exact wpAny_pure (hR _ sb1 ⟨_, es1, _, t2, ho1, hex, rfl, g1, nd1, m1, hb1, hf2, rfl, hr, hl⟩)

theorem add_hashed {k : Leaf} {v : Value} (rk : RelV (lv k) v) {Q : Bool → Shared → Prop} (R : SetL P w s.heap a S n) (room : n + 1 < scanBound)
    (hQ : ∀ h', Heap.SameBut a s.heap h' → SetL P w h' a (fun j => S j || decide (j = k)) (if S k = true then n else n + 1) → Q (!S k) { s with heap := h' }) :
    wpAny (model P w) A (setAddHashed a v ((leafKind P w).hash k)) Q E s := by
  obtain ⟨o, es, ep, t, ho, hex, hd, g, nd, hm, hb, hf, hn, hr, hl⟩ := R
  have hkey : (leafKind P w).is k v = true := relv_is rk
  have hsc : v.scannable = true := relv_scan rk
  have hel : ElemsOf (leafKind P w) es.toList := good_elems g
  unfold setAddHashed setAddHashedIn
  refine wpAny_holding (wpAny_bind (wpAny_setState_of ho hd hf ?_))
  dsimp only
  rw [byScan_of hsc hb hel]
  simp only [↓reduceIte]
  unfold setAddByScan
  refine wpAny_bind ?_
  refine wpAny_bind (wpAny_rule ?_)
  refine wpAny_bind (wpAny_setScan_of hkey ho hd hf hel ?_)
  cases hfi : List.findIdx? (fun e => (leafKind P w).is k e.2) es.toList with
  | some j =>
    dsimp only
    obtain ⟨hj, pj, _⟩ := List.findIdx?_eq_some_iff_getElem.mp hfi
    have hSk : S k = true := (hm k).2 ((good_mem (P := P) (w := w) g k).2 ⟨es.toList[j], List.getElem_mem hj, pj⟩)
    refine wpAny_pure (wpAny_pure ?_)
    have q := hQ s.heap (Heap.SameBut.refl a s.heap) ⟨o, es, ep, t, ho, hex, hd, g, nd, fun i => by
      rw [Bool.or_eq_true, decide_eq_true_eq, ← hm i]
      exact ⟨fun z => z.elim id (fun e => e ▸ hSk), .inl⟩, hb, hf, by rw [if_pos hSk]; exact hn, hr, hl⟩
    rw [hSk] at q
    exact q
  | none =>
    dsimp only
    have hnk : k ∉ es.toList.map kyOf := fun z => by
      obtain ⟨e, he, q⟩ := (good_mem (P := P) (w := w) g k).1 z
      have c := List.findIdx?_eq_none_iff.mp hfi e he
      rw [q] at c
      cases c
    have hSk : S k = false := by
      cases q : S k with
      | false => rfl
      | true => exact absurd ((hm k).1 q) hnk
    have hgw : ∀ (b : Bool) {s₁ : Shared} {Q' : Unit → Shared → Prop}, Q' () s₁ → wpAny (model P w) A (match b with | true => rule "set.scan.the-table-gave-way" | false => pure ()) Q' E s₁ :=
      fun b s₁ Q' q => by cases b <;> first | exact wpAny_pure q | exact wpAny_rule q
    have pm := layNew_perm t es ((leafKind P w).hash k) v
    have hf1 := layNew_fits t es ((leafKind P w).hash k) v
    have hr1 := layNew_ris t es ((leafKind P w).hash k) v hr
    have hl1 := layNew_led t es ((leafKind P w).hash k) v
    generalize layNew t es ((leafKind P w).hash k) v = Z at pm hf1 hr1 hl1 ⊢
    obtain ⟨es1, t1, wasDummy, gave⟩ := Z
    dsimp only at pm hf1 hr1 hl1 ⊢
    rw [Array.toList_push] at pm
    have pc : es1.toList.Perm (((leafKind P w).hash k, v) :: es.toList) := pm.trans (List.perm_append_singleton _ _)
    have pk : (es1.toList.map kyOf).Perm (k :: es.toList.map kyOf) := by
      have z := pc.map kyOf
      rw [List.map_cons, ky_of (e := ((leafKind P w).hash k, v)) rk] at z
      exact z
    have g1 : ∀ e ∈ es1.toList, Good P w e := fun e he => by
      rcases List.mem_cons.mp (pc.mem_iff.mp he) with z | z
      · rw [z]; exact ⟨k, rk, rfl⟩
      · exact g e z
    have nd1 : (es1.toList.map kyOf).Nodup := pk.nodup_iff.mpr (List.nodup_cons.mpr ⟨hnk, nd⟩)
    have m1 : ∀ i, (S i || decide (i = k)) = true ↔ i ∈ es1.toList.map kyOf := fun i => by
      rw [Bool.or_eq_true, decide_eq_true_eq, hm i, pk.mem_iff, List.mem_cons]
      exact Or.comm
    have hsz : es1.size = n + 1 := by rw [← Array.length_toList, pc.length_eq, List.length_cons, Array.length_toList, hn]
    have hb1 : es1.size < scanBound := by rw [hsz]; exact room
    have hled : w.params.followText "set-order" = true ∨ t1.led = true := hl.imp id fun z => by rw [hl1]; exact z
    have fin : ∀ h', Heap.SameBut a s.heap h' → SetL P w h' a (fun j => S j || decide (j = k)) es1.size → Q true { s with heap := h' } := fun h' sb r => by
      have q := hQ h' sb
      rw [hSk] at q
      rw [hsz] at r
      exact q r
    refine wpAny_bind (hgw _ ?_)
    split
    · refine wpAny_bind ?_
      rw [hashByValue_scannable 8 hsc]
      refine wpAny_pure ?_
      refine add_tail ?_ ho hex hd g1 nd1 m1 hb1 ?_ ?_ ?_ ?_
      · intro b s₁ Q' q; cases b <;> first | exact wpAny_pure q | exact wpAny_rule q
      · first | (split <;> first | exact hf1 | exact SetTable.fits_plain_off hf1) | exact hf1
      · first | (split <;> exact hr1) | exact hr1
      · first | (split <;> exact hled) | exact hled
      · intro h' sb r; dsimp only; exact wpAny_pure (fin h' sb r)
    · refine wpAny_bind (wpAny_pure ?_)
      simp only [↓reduceIte]
      refine add_tail ?_ ho hex hd g1 nd1 m1 hb1 hf1 hr1 hled ?_
      · intro b s₁ Q' q; cases b <;> first | exact wpAny_pure q | exact wpAny_rule q
      · intro h' sb r; dsimp only; exact wpAny_pure (fin h' sb r)

theorem new_at {w : World} {h : Heap} {a : Addr} {ls : List Leaf} (ho : h.get? a = some { cls := .type "set", dict := none, data := .set #[] 0 (.fresh 0 0 (!w.params.followText "set-order")) }) : SetL P w h a (fun j => decide (j ∈ ls.take 0)) 0 :=
  ⟨_, #[], 0, _, ho, ⟨rfl, rfl, rfl⟩, rfl, (fun e he => by simp at he), (by simp), (fun k => by simp), (by decide), (by rfl), rfl, List.Pairwise.nil, by
    show _ ∨ (!w.params.followText "set-order") = true
    cases w.params.followText "set-order"
    · exact .inr rfl
    · exact .inl rfl⟩
theorem update_loop {I : Addr} {fp wr : List Addr} {G : Array GenState → Array GenState → Prop} {n : Nat} {Pv : Nat → Value → Prop} {St : Nat → Shared → Prop} {R : Result → Shared → Prop}
    (W : WalksS P w A.in1 I fp wr G n Pv St) (S : Addr) (hSf : S ∉ fp) (ls : List Leaf) (hn : n = ls.length) (hb : ls.length + 1 < scanBound) (hval : ∀ i v, Pv i v → ∃ k, ls[i]? = some k ∧ RelV (lv k) v) :
    ∀ (k i : Nat) (s : Shared), n - i = k → i ≤ n → St i s → (∃ c, c ≤ i ∧ SetL P w s.heap S (fun j => decide (j ∈ ls.take i)) c) →
      (∀ s' c, Moved (S :: wr) G s s' → c ≤ n → SetL P w s'.heap S (fun j => decide (j ∈ ls)) c → R (.ok (.ret .none)) s') →
      codeAny (model P w) A (.builtin "set.update.loop" ⟨[.ref S, .ref I], []⟩) R s := by
  have hSw : S ∉ wr := fun h => hSf (W.sub _ h)
  have hsub : ∀ b ∈ wr, b ∈ S :: wr := fun b hb => List.mem_cons_of_mem _ hb
  intro k
  induction k with
  | zero =>
    intro i s hk' hi hst ⟨c, hc, hS⟩ hR
    have hin : i = n := by omega
    subst hin
    refine codeAny_builtin F.entry_set_update_loop ?_
    rw [Around.under_plainId F.plain_set_update_loop _]
    show wpAny _ A.in1 (pyNext (.ref I) >>= _) _ _ s
    refine wpAny_bind (W.done s _ _ hst fun s' hm => ?_)
    show wpAny _ A.in1 (ret Value.none) _ _ s'
    have e : ls.take i = ls := List.take_of_length_le (by omega)
    rw [e] at hS
    exact wpAny_pure (hR s' c (hm.mono hsub) hc (hS.at fun o e => hm.heap S o hSw e))
  | succ k ih =>
    intro i s hk' hi hst ⟨c, hc, hS⟩ hR
    have hlt : i < n := by omega
    refine codeAny_builtin F.entry_set_update_loop ?_
    rw [Around.under_plainId F.plain_set_update_loop _]
    show wpAny _ A.in1 (pyNext (.ref I) >>= _) _ _ s
    refine wpAny_bind (W.item i s _ _ hlt hst fun v s' hP hst' hm => ?_)
    obtain ⟨z, hz, rz⟩ := hval i v hP
    have hS' : SetL P w s'.heap S (fun j => decide (j ∈ ls.take i)) c := hS.at fun o e => hm.heap S o hSw e
    show wpAny _ A.in1 (holding [v] (setAdd S v) >>= _) _ _ s'
    refine wpAny_bind (wpAny_holding ?_)
    unfold setAdd
    refine wpAny_holding ?_
    refine wpAny_bind ((leafKind P w).pyHash (k := z) (relv_is rz) ?_)
    refine add_hashed (s := { s' with toks := s'.toks + 1 }) rz hS' (by omega) fun h' hsb hS2 => ?_
    have hS3 : SetL P w h' S (fun j => decide (j ∈ ls.take (i + 1))) (if decide (z ∈ ls.take i) = true then c else c + 1) := hS2.congr fun j => by
      rw [List.take_add_one, hz]
      simp [List.mem_append]
    have hc3 : (if decide (z ∈ ls.take i) = true then c else c + 1) ≤ i + 1 := by
      split <;> omega
    refine wpAny_pure ⟨plainId_quiet F.plain_set_update_loop _, ih (i + 1) _ (by omega) hlt (W.frame _ s' _ _ hst' (Nat.le_succ _) fun b hb o e => ?_) ⟨_, hc3, hS3⟩ fun s'' c2 hm'' hc'' hS'' => ?_⟩
    · rw [hsb.2 b (fun h : b = S => hSf (by rw [← h]; exact hb))]; exact e
    · refine hR s'' c2 (Moved.trans W.gtrans ((hm.mono hsub).then_heap (Nat.le_succ _) fun b o hb e => ?_) hm'') hc'' hS''
      rw [hsb.2 b (fun h : b = S => hb (by rw [h]; exact List.mem_cons_self))]; exact e

theorem walks_K {A : Around} (hh : A.handled = none) (k : Bool) (it a : Addr) (hne : a ≠ it) (items : Array Value) :
    Walks P w A it [it, a] [it] items.size (fun i v => items[i]? = some v) (fun i h => ItK k h it a i ∧ IsK k h a items) := by
  cases k
  · exact Walks.list hh it a hne items
  · exact Walks.tuple hh it a hne items
set_option maxHeartbeats 6400000 in
theorem call_set (k : Bool) {l : Addr} {items : Array Value} (ls : List Leaf) {Q : Value → Shared → Prop} (hh : A.handled = none) (hl : IsK k s.heap l items) (hit : Vals (ls.map lv) items.toList) (hb : ls.length + 1 < scanBound)
    (h : ∀ (h' : Heap) (tk c : Nat), SetL P w h' s.heap.objs.size (fun j => decide (j ∈ ls)) c → c ≤ ls.length → (∀ b o, s.heap.get? b = some o → h'.get? b = some o) → Q (.ref s.heap.objs.size) { s with heap := h', toks := tk }) :
    wpAny (model P w) A (call (.type "set") [.ref l]) Q E s := by
  have hisz : items.size = ls.length := by
    have q : (ls.map lv).length = items.toList.length := L2.Vals.length hit
    rw [List.length_map, Array.length_toList] at q
    exact q.symm
  obtain ⟨c, tl, hmro⟩ := F.called_set.mro
  have hmade := F.called_set.made
  have hsub := F.called_set.sub
  refine wpAny_call (codeAny_of_tree ?_)
  show wpAny _ _ (callAny (.type "set") _) _ _ _
  refine wpAny_pure ⟨Code.quiet_builtin _ (by decide +kernel), codeAny_builtin F.entry_type_call ?_⟩
  rw [Around.under_plain (weight_type_call_type "set" [.ref l] []) rfl]
  have h1 := F.called_set.notType
  have h2 := F.called_set.canCreate
  have hct := F.typeCall_set_1 (.ref l)
  repeat (any_goals (first | assumption | wp_step))
  refine codeAny_mono (code_set_led1 (.ref l) (E := E) (Q₁ := fun obj s₁ => obj = .ref s.heap.objs.size ∧ s₁ = { s with heap := s.heap.push { cls := .type "set", dict := none, data := .set #[] 0 (.fresh 0 0 (!w.params.followText "set-order")) } }) ⟨rfl, rfl⟩) fun r s₁ hr => ?_
  cases r with
  | error e => exact hr
  | ok fl =>
    cases fl with
    | ret obj =>
      obtain ⟨rfl, rfl⟩ := hr
      have hS : (s.heap.push { cls := .type "set", dict := none, data := .set #[] 0 (.fresh 0 0 (!w.params.followText "set-order")) }).get? s.heap.objs.size = some { cls := .type "set", dict := none, data := .set #[] 0 (.fresh 0 0 (!w.params.followText "set-order")) } := Heap.get?_push_size _ rfl
      have hT : Shared.TypeIs { s with heap := s.heap.push { cls := .type "set", dict := none, data := .set #[] 0 (.fresh 0 0 (!w.params.followText "set-order")) } } (.ref s.heap.objs.size) "set" := ⟨_, hS, rfl⟩
      have hli := F.called_set.init.lookup
      have hbi := F.called_set.init.bind (.ref s.heap.objs.size)
      repeat (any_goals (first | assumption | wp_step))
      refine codeAny_mono (codeAny_call_builtin (R := wants (fun r s₂ => r = .none ∧ ∃ h' tk c, s₂ = { s with heap := h', toks := tk } ∧ SetL P w h' s.heap.objs.size (fun j => decide (j ∈ ls)) c ∧ c ≤ ls.length ∧
          (∀ b o, s.heap.get? b = some o → h'.get? b = some o)) E) F.called_set.init.plain F.entry_set_init (check_set_init_1 hT ?_)) fun r₂ s₂ hr₂ => ?_
      · have hlS : l < s.heap.objs.size := by
          cases k
          · obtain ⟨o, q, _⟩ := hl; exact Heap.lt_size q
          · obtain ⟨o, q, _⟩ := hl; exact Heap.lt_size q
        have hl1 : IsK k (s.heap.push { cls := .type "set", dict := none, data := .set #[] 0 (.fresh 0 0 (!w.params.followText "set-order")) }) l items := by
          cases k
          · exact Heap.IsList.at hl fun o e => Heap.get?_push_of_some _ e
          · exact Heap.IsTuple.at hl fun o e => Heap.get?_push_of_some _ e
        have key : ∀ {A4 : Around} {R4 : PySem.Fin → Shared → Prop} , A4.handled = none → (∀ s', (∃ h' tk c, s' = { s with heap := h', toks := tk } ∧ SetL P w h' s.heap.objs.size (fun j => decide (j ∈ ls)) c ∧ c ≤ ls.length ∧ (∀ b o, s.heap.get? b = some o → h'.get? b = some o)) → R4 (.done (.ret .none)) s') →
            True := fun _ _ => trivial
        cases k
        · obtain ⟨ol, hol, hcl, nl, hdl⟩ := id hl
          obtain ⟨ocls, odict, odata, oslots⟩ := ol
          simp only at hcl hdl
          subst hcl; subst hdl
          have hol' : (s.heap.push { cls := .type "set", dict := none, data := .set #[] 0 (.fresh 0 0 (!w.params.followText "set-order")) }).get? l = some { cls := .type "list", dict := odict, data := .seq items nl, slots := oslots } := Heap.get?_push_of_some _ hol
          have hsls := F.sub_list_set
          have hslf := F.sub_list_frozenset
          have hne : (Value.type "list" == Value.type "dict") = false := by decide
          unfold Builtin.«set.__init__» noKeywords Builtin.Frozenset.updateFrom
          generalize hPI : pyIter = PI
          wp_walk
          subst hPI
          refine (begins_K false l items).iter _ _ _ _ _ _ hl1 ?_
          refine wpAny_bind (wpAny_runValue ?_)
          have hh3 : A.in1.in1.in1.handled = none := by simp [hh]
          have hneI : l ≠ (s.heap.push { cls := .type "set", dict := none, data := .set #[] 0 (.fresh 0 0 (!w.params.followText "set-order")) }).objs.size := by
            rw [Heap.size_push]; exact Nat.ne_of_lt (Nat.lt_succ_of_lt hlS)
          have hSf : s.heap.objs.size ∉ [(s.heap.push { cls := .type "set", dict := none, data := .set #[] 0 (.fresh 0 0 (!w.params.followText "set-order")) }).objs.size, l] := by
            rw [Heap.size_push]; simp only [List.mem_cons, List.mem_singleton, List.not_mem_nil, or_false, not_or]
            exact ⟨Nat.ne_of_lt (Nat.lt_succ_self _), Nat.ne_of_gt hlS⟩
          have hval : ∀ (i : Nat) (v : Value), items[i]? = some v → ∃ k, ls[i]? = some k ∧ RelV (lv k) v := fun i v hv => by
            have hi : i < ls.length := by rw [← hisz]; exact (Array.getElem?_eq_some_iff.mp hv).1
            obtain ⟨u, hu, ru⟩ := hit.get (i := i) (x := lv ls[i]) (by rw [List.getElem?_map, List.getElem?_eq_getElem hi]; rfl)
            rw [Array.getElem?_toList, hv] at hu
            cases hu
            exact ⟨ls[i], List.getElem?_eq_getElem hi, ru⟩
          refine update_loop ((walks_K hh3 false _ l hneI items).toS) s.heap.objs.size hSf ls hisz hb hval (items.size - 0) 0 _ (by omega) (Nat.zero_le _)
            ⟨itK_new (Heap.get?_push_size _ rfl), Heap.IsList.at hl1 fun o e => Heap.get?_push_of_some _ e⟩ ?hS0 ?hR
          case hS0 => exact ⟨0, Nat.le_refl 0, new_at (Heap.get?_push_of_some _ hS)⟩
          case hR =>
            intro s' c' hm hc' hS'
            obtain ⟨h', g2, d', tk', os'⟩ := s'
            have eg : g2 = s.gens := hm.gens
            have ed : d' = s.drawn := hm.drawn
            have eo : os' = s.os := hm.os
            subst eg; subst ed; subst eo
            show wpAny _ _ _ _ _ _
            refine wpAny_pure ?_
            show wpAny _ _ (ret Value.none) _ _ _
            rw [hisz] at hc'
            refine wpAny_pure ⟨rfl, h', tk', c', rfl, hS', hc', fun b o e => ?_⟩
            have hb0 : b < s.heap.objs.size := Heap.lt_size e
            have hb1 : b ≠ s.heap.objs.size := Nat.ne_of_lt hb0
            have hb2 : b ≠ (s.heap.push { cls := .type "set", dict := none, data := .set #[] 0 (.fresh 0 0 (!w.params.followText "set-order")) }).objs.size := by
              rw [Heap.size_push]; exact Nat.ne_of_lt (Nat.lt_succ_of_lt hb0)
            exact hm.heap b o (by simp only [List.mem_cons, List.mem_singleton, List.not_mem_nil, or_false, not_or]; exact ⟨hb1, hb2⟩) (Heap.get?_push_of_some _ (Heap.get?_push_of_some _ e))
        · obtain ⟨ol, hol, hcl, nl, hdl⟩ := id hl
          obtain ⟨ocls, odict, odata, oslots⟩ := ol
          simp only at hcl hdl
          subst hcl; subst hdl
          have hol' : (s.heap.push { cls := .type "set", dict := none, data := .set #[] 0 (.fresh 0 0 (!w.params.followText "set-order")) }).get? l = some { cls := .type "tuple", dict := odict, data := .seq items nl, slots := oslots } := Heap.get?_push_of_some _ hol
          have hsls := F.sub_tuple_set
          have hslf := F.sub_tuple_frozenset
          have hne : (Value.type "tuple" == Value.type "dict") = false := by decide
          unfold Builtin.«set.__init__» noKeywords Builtin.Frozenset.updateFrom
          generalize hPI : pyIter = PI
          wp_walk
          subst hPI
          refine (begins_K true l items).iter _ _ _ _ _ _ hl1 ?_
          refine wpAny_bind (wpAny_runValue ?_)
          have hh3 : A.in1.in1.in1.handled = none := by simp [hh]
          have hneI : l ≠ (s.heap.push { cls := .type "set", dict := none, data := .set #[] 0 (.fresh 0 0 (!w.params.followText "set-order")) }).objs.size := by
            rw [Heap.size_push]; exact Nat.ne_of_lt (Nat.lt_succ_of_lt hlS)
          have hSf : s.heap.objs.size ∉ [(s.heap.push { cls := .type "set", dict := none, data := .set #[] 0 (.fresh 0 0 (!w.params.followText "set-order")) }).objs.size, l] := by
            rw [Heap.size_push]; simp only [List.mem_cons, List.mem_singleton, List.not_mem_nil, or_false, not_or]
            exact ⟨Nat.ne_of_lt (Nat.lt_succ_self _), Nat.ne_of_gt hlS⟩
          have hval : ∀ (i : Nat) (v : Value), items[i]? = some v → ∃ k, ls[i]? = some k ∧ RelV (lv k) v := fun i v hv => by
            have hi : i < ls.length := by rw [← hisz]; exact (Array.getElem?_eq_some_iff.mp hv).1
            obtain ⟨u, hu, ru⟩ := hit.get (i := i) (x := lv ls[i]) (by rw [List.getElem?_map, List.getElem?_eq_getElem hi]; rfl)
            rw [Array.getElem?_toList, hv] at hu
            cases hu
            exact ⟨ls[i], List.getElem?_eq_getElem hi, ru⟩
          refine update_loop ((walks_K hh3 true _ l hneI items).toS) s.heap.objs.size hSf ls hisz hb hval (items.size - 0) 0 _ (by omega) (Nat.zero_le _)
            ⟨itK_new (Heap.get?_push_size _ rfl), Heap.IsTuple.at hl1 fun o e => Heap.get?_push_of_some _ e⟩ ?hS0 ?hR
          case hS0 => exact ⟨0, Nat.le_refl 0, new_at (Heap.get?_push_of_some _ hS)⟩
          case hR =>
            intro s' c' hm hc' hS'
            obtain ⟨h', g2, d', tk', os'⟩ := s'
            have eg : g2 = s.gens := hm.gens
            have ed : d' = s.drawn := hm.drawn
            have eo : os' = s.os := hm.os
            subst eg; subst ed; subst eo
            show wpAny _ _ _ _ _ _
            refine wpAny_pure ?_
            show wpAny _ _ (ret Value.none) _ _ _
            rw [hisz] at hc'
            refine wpAny_pure ⟨rfl, h', tk', c', rfl, hS', hc', fun b o e => ?_⟩
            have hb0 : b < s.heap.objs.size := Heap.lt_size e
            have hb1 : b ≠ s.heap.objs.size := Nat.ne_of_lt hb0
            have hb2 : b ≠ (s.heap.push { cls := .type "set", dict := none, data := .set #[] 0 (.fresh 0 0 (!w.params.followText "set-order")) }).objs.size := by
              rw [Heap.size_push]; exact Nat.ne_of_lt (Nat.lt_succ_of_lt hb0)
            exact hm.heap b o (by simp only [List.mem_cons, List.mem_singleton, List.not_mem_nil, or_false, not_or]; exact ⟨hb1, hb2⟩) (Heap.get?_push_of_some _ (Heap.get?_push_of_some _ e))
      · cases r₂ with
        | error e => exact hr₂
        | ok fl₂ =>
          cases fl₂ with
          | ret r =>
            obtain ⟨rfl, h', tk, c', rfl, hS', hc', hk'⟩ := hr₂
            repeat (any_goals (first | assumption | wp_step))
            exact h _ _ _ hS' hc' hk'
          | _ => exact hr₂.elim
    | _ => exact hr.elim
end
end DS
end

section
set_option maxRecDepth 100000
set_option maxHeartbeats 4000000
/-! DT: set(xs), sorted(xs), sorted(set(xs)), len(set(xs)) for ints, texts and None; built-in calls on deep values. -/
namespace DS
open PySem PySem.Spec PyProof.Rows L2 DR
/-! ### the order -/
def leLf : Leaf → Leaf → Bool
  | .num i, .num j => decide (i ≤ j)
  | .text x, .text y => decide (x.cps.toList ≤ y.cps.toList)
  | _, _ => false
def isN : Leaf → Bool | .num _ => true | _ => false
def isT : Leaf → Bool | .text _ => true | _ => false
def Alk (ls : List Leaf) : Prop := (∃ ns : List Int, ls = ns.map .num) ∨ ∃ xs : List Str, ls = xs.map .text
def alkB (ls : List Leaf) : Bool := ls.all isN || ls.all isT
theorem alk_of {ls : List Leaf} (hh : alkB ls = true) : Alk ls := by
  rcases Bool.or_eq_true_iff.mp hh with h | h
  · refine .inl ?_
    clear hh
    induction ls with
    | nil => exact ⟨[], rfl⟩
    | cons x ls ih =>
      rw [List.all_cons, Bool.and_eq_true] at h
      obtain ⟨ns, e⟩ := ih h.2
      cases x with
      | num i => exact ⟨i :: ns, by rw [e]; rfl⟩
      | none => exact absurd h.1 (by decide)
      | text x => exact absurd h.1 (by simp [isN])
  · refine .inr ?_
    clear hh
    induction ls with
    | nil => exact ⟨[], rfl⟩
    | cons x ls ih =>
      rw [List.all_cons, Bool.and_eq_true] at h
      obtain ⟨ns, e⟩ := ih h.2
      cases x with
      | text i => exact ⟨i :: ns, by rw [e]; rfl⟩
      | none => exact absurd h.1 (by decide)
      | num x => exact absurd h.1 (by simp [isT])
theorem str_eq {x y : Str} (h : x.cps.toList = y.cps.toList) : x = y := by
  cases x; cases y
  simp only [Str.mk.injEq]
  exact Array.toList_inj.mp h
theorem le_anti {a b : Leaf} (h : leLf a b = true) (h' : leLf b a = true) : a = b := by
  cases a <;> cases b <;> simp only [leLf, decide_eq_true_eq, Bool.false_eq_true] at h h'
  · rw [Int.le_antisymm h h']
  · rw [str_eq (List.le_antisymm h h')]
theorem le_trans' {a b d : Leaf} (h : leLf a b = true) (h' : leLf b d = true) : leLf a d = true := by
  cases a <;> cases b <;> simp only [leLf, Bool.false_eq_true] at h <;> cases d <;> simp only [leLf, decide_eq_true_eq, Bool.false_eq_true] at h h' ⊢
  · exact Int.le_trans h h'
  · exact List.le_trans h h'
theorem le_tot {a b : Leaf} (h : (isN a && isN b || isT a && isT b) = true) (h' : ¬ leLf a b = true) : leLf b a = true := by
  cases a <;> cases b <;> simp only [isN, isT, leLf, decide_eq_true_eq, Bool.false_eq_true, Bool.and_false, Bool.false_and, Bool.or_false] at h h' ⊢
  · omega
  · exact List.le_of_lt (List.not_le.mp h')
def insL (x : Leaf) : List Leaf → List Leaf
  | [] => [x]
  | y :: ys => bif leLf x y then x :: y :: ys else y :: insL x ys
def srtL : List Leaf → List Leaf
  | [] => []
  | x :: xs => insL x (srtL xs)
theorem ins_perm (x : Leaf) : ∀ ys : List Leaf, (insL x ys).Perm (x :: ys)
  | [] => List.Perm.refl _
  | y :: ys => by
    unfold insL
    cases leLf x y with
    | true => exact List.Perm.refl _
    | false => exact ((ins_perm x ys).cons y).trans (List.Perm.swap x y ys)
theorem srt_perm : ∀ xs : List Leaf, (srtL xs).Perm xs
  | [] => List.Perm.refl _
  | x :: xs => (ins_perm x _).trans ((srt_perm xs).cons x)
theorem ins_up {x : Leaf} : ∀ {ys : List Leaf}, (∀ y ∈ ys, (isN x && isN y || isT x && isT y) = true) → ys.Pairwise (fun a b => leLf a b = true) → (insL x ys).Pairwise (fun a b => leLf a b = true)
  | [], _, _ => List.pairwise_cons.mpr ⟨fun _ h => (List.not_mem_nil h).elim, List.Pairwise.nil⟩
  | y :: ys, hk, h => by
    obtain ⟨h1, h2⟩ := List.pairwise_cons.mp h
    unfold insL
    cases e : leLf x y with
    | true => exact List.pairwise_cons.mpr ⟨fun z hz => by
        rcases List.mem_cons.mp hz with rfl | hz
        · exact e
        · exact le_trans' e (h1 z hz), h⟩
    | false =>
      refine List.pairwise_cons.mpr ⟨fun z hz => ?_, ins_up (fun z hz => hk z (.tail _ hz)) h2⟩
      rcases List.mem_cons.mp ((ins_perm x ys).mem_iff.mp hz) with rfl | hz
      · exact le_tot (hk y (.head _)) (by rw [e]; exact Bool.false_ne_true)
      · exact h1 z hz
theorem alk_two {ls : List Leaf} (h : Alk ls) {a b : Leaf} (ha : a ∈ ls) (hb : b ∈ ls) : (isN a && isN b || isT a && isT b) = true := by
  rcases h with ⟨ns, rfl⟩ | ⟨ns, rfl⟩
  · obtain ⟨i, _, rfl⟩ := List.mem_map.mp ha
    obtain ⟨j, _, rfl⟩ := List.mem_map.mp hb
    rfl
  · obtain ⟨i, _, rfl⟩ := List.mem_map.mp ha
    obtain ⟨j, _, rfl⟩ := List.mem_map.mp hb
    rfl
theorem alk_tail {x : Leaf} {ls : List Leaf} (h : Alk (x :: ls)) : Alk ls := by
  rcases h with ⟨ns, e⟩ | ⟨ns, e⟩
  · cases ns with
    | nil => cases e
    | cons i ns => injection e with _ e; exact .inl ⟨ns, e⟩
  · cases ns with
    | nil => cases e
    | cons i ns => injection e with _ e; exact .inr ⟨ns, e⟩
theorem srt_up : ∀ {xs : List Leaf}, Alk xs → (srtL xs).Pairwise (fun a b => leLf a b = true)
  | [], _ => List.Pairwise.nil
  | x :: xs, h => ins_up (fun y hy => alk_two h (.head _) (.tail _ ((srt_perm xs).mem_iff.mp hy))) (srt_up (alk_tail h))
theorem srt_only {xs ys : List Leaf} (h : Alk xs) (p : ys.Perm xs) (u : ys.Pairwise (fun a b => leLf a b = true)) : ys = srtL xs :=
  List.Perm.eq_of_pairwise (le := fun a b => leLf a b = true) (fun a b _ _ h1 h2 => le_anti h1 h2) u (srt_up h) (p.trans (srt_perm xs).symm)
def dedL : List Leaf → List Leaf
  | [] => []
  | x :: xs => bif (dedL xs).contains x then dedL xs else x :: dedL xs
theorem contains_iff {x : Leaf} {xs : List Leaf} : xs.contains x = true ↔ x ∈ xs := by simp
theorem ded_mem {x : Leaf} : ∀ {xs : List Leaf}, x ∈ dedL xs ↔ x ∈ xs
  | [] => Iff.rfl
  | y :: ys => by
    unfold dedL
    cases e : (dedL ys).contains y with
    | true =>
      rw [cond_true, ded_mem, List.mem_cons]
      refine ⟨.inr, fun h => h.elim (fun z => ?_) id⟩
      subst z
      exact ded_mem.mp (contains_iff.mp e)
    | false => rw [cond_false, List.mem_cons, List.mem_cons, ded_mem]
theorem ded_nodup : ∀ xs : List Leaf, (dedL xs).Nodup
  | [] => List.Pairwise.nil
  | y :: ys => by
    unfold dedL
    cases e : (dedL ys).contains y with
    | true => exact ded_nodup ys
    | false =>
      refine List.nodup_cons.mpr ⟨fun h => ?_, ded_nodup ys⟩
      rw [contains_iff.mpr h] at e
      cases e
theorem ded_alk : ∀ {xs : List Leaf}, Alk xs → Alk (dedL xs)
  | [], h => h
  | y :: ys, h => by
    unfold dedL
    have ih := ded_alk (alk_tail h)
    cases (dedL ys).contains y with
    | true => exact ih
    | false =>
      rcases h with ⟨ns, e⟩ | ⟨ns, e⟩
      · cases ns with
        | nil => cases e
        | cons i ns =>
          injection e with e1 e2
          rcases ih with ⟨ms, em⟩ | ⟨ms, em⟩
          · exact .inl ⟨i :: ms, by rw [cond_false, em, e1]; rfl⟩
          · cases ms with
            | nil => exact .inl ⟨[i], by rw [cond_false, em, e1]; rfl⟩
            | cons m ms =>
              exfalso
              have hm : Leaf.text m ∈ dedL ys := by rw [em]; exact .head _
              have hm2 := ded_mem.mp hm
              rw [e2] at hm2
              obtain ⟨j, _, q⟩ := List.mem_map.mp hm2
              cases q
      · cases ns with
        | nil => cases e
        | cons i ns =>
          injection e with e1 e2
          rcases ih with ⟨ms, em⟩ | ⟨ms, em⟩
          · cases ms with
            | nil => exact .inr ⟨[i], by rw [cond_false, em, e1]; rfl⟩
            | cons m ms =>
              exfalso
              have hm : Leaf.num m ∈ dedL ys := by rw [em]; exact .head _
              have hm2 := ded_mem.mp hm
              rw [e2] at hm2
              obtain ⟨j, _, q⟩ := List.mem_map.mp hm2
              cases q
          · exact .inr ⟨i :: ms, by rw [cond_false, em, e1]; rfl⟩
theorem nodup_perm {xs ys : List Leaf} (h1 : xs.Nodup) (h2 : ys.Nodup) (h : ∀ k, k ∈ xs ↔ k ∈ ys) : xs.Perm ys := (List.perm_ext_iff_of_nodup h1 h2).mpr h

open PySem.W in
theorem each_num : ∀ {ns : List Int} {vs : List Value}, Vals ((ns.map Leaf.num).map lv) vs → EachIs (fun v (b : Int) => RelV (.int b) v) vs ns
  | [], _, h => by cases h; exact .nil
  | _ :: _, _, h => by cases h with | cons r t => exact .cons r (each_num t)
open PySem.W in
theorem each_text : ∀ {ns : List Str} {vs : List Value}, Vals ((ns.map Leaf.text).map lv) vs → EachIs (fun v (b : Str) => RelV (.str b) v) vs ns
  | [], _, h => by cases h; exact .nil
  | _ :: _, _, h => by cases h with | cons r t => exact .cons r (each_text t)
open PySem.W in
theorem num_each : ∀ {ns : List Int} {vs : List Value}, EachIs (fun v (b : Int) => RelV (.int b) v) vs ns → Vals ((ns.map Leaf.num).map lv) vs
  | _, _, .nil => .nil
  | _, _, .cons r t => .cons r (num_each t)
open PySem.W in
theorem text_each : ∀ {ns : List Str} {vs : List Value}, EachIs (fun v (b : Str) => RelV (.str b) v) vs ns → Vals ((ns.map Leaf.text).map lv) vs
  | _, _, .nil => .nil
  | _, _, .cons r t => .cons r (text_each t)
/-! ### sorting values that read as leaves -/
section
variable {P : Program} {w : World} {A : Around} {E : Value → Shared → Prop} {s : Shared}
theorem sort_leaves {vs : List Value} {ls : List Leaf} {a : Addr} {Q : Value → Shared → Prop} (hv : Vals (ls.map lv) vs) (hal : Alk ls) (ho : s.heap.get? a = some (seqObj "list" vs.toArray 0)) (hL : ls.length ≤ sizeLine) (hu : A.units + 64 < cLine)
    (h : ∀ out c h', h'.get? a = some (seqObj "list" (List.toArray out) c) → (∀ b o, b ≠ a → s.heap.get? b = some o → h'.get? b = some o) → Vals ((srtL ls).map lv) out → Q .none { s with heap := h' }) :
    wpAny (model P w) A (call (.builtin "list.sort") [.ref a]) Q E s := by
  have fin : ∀ out : List Value, Vals ((srtL ls).map lv) out → Q .none { s with heap := PyProof.Rows.sortedHeap s.heap a vs out.toArray } := fun out ho' => by
    obtain ⟨c, hc⟩ := sortedHeap_at (vs := vs) (out := out.toArray) ho
    exact h out c _ hc (fun b o hb e => (sortedHeap_old hb (Heap.lt_size e)).trans e) ho'
  rcases hal with ⟨ns, rfl⟩ | ⟨ns, rfl⟩
  · have e := each_num hv
    have er : PySem.W.EachIs (fun v (b : Int) => ∃ as, Reads s.heap v (PyData.int b) as ∧ a ∉ as) vs ns := e.mono fun v b r => by
      obtain ⟨t, rfl⟩ := r
      exact ⟨[], .int _ _, List.not_mem_nil⟩
    refine PySem.W.list_sort_data (enc := PyData.int) ho e er (PySem.W.AllAlike.of fun b b' => by simp [PySem.W.alike]) (PySem.W.Sortable.others fun b => ⟨by simp, by simp⟩) (by rw [List.length_map] at hL; exact hL) (fun b _ => by simp only [PyData.depth]; omega) fun out h1 h2 => fin out ?_
    rw [PySem.W.dataLe_int fun b => b] at h2
    have hs : (ns.mergeSort fun a b => decide (a ≤ b)).map Leaf.num = srtL (ns.map .num) := srt_only (.inl ⟨ns, rfl⟩) ((List.mergeSort_perm _ _).map _) (by
      rw [List.pairwise_map]
      exact List.pairwise_mergeSort (le := fun a b : Int => decide (a ≤ b)) (fun a b c h1 h2 => decide_eq_true (Int.le_trans (of_decide_eq_true h1) (of_decide_eq_true h2))) (fun a b => by
        rcases Int.le_total a b with h | h
        · simp [h]
        · simp [h]) ns)
    rw [← hs]
    exact num_each h2
  · have e := each_text hv
    have er : PySem.W.EachIs (fun v (b : Str) => ∃ as, Reads s.heap v (PyData.str b) as ∧ a ∉ as) vs ns := e.mono fun v b r => by
      obtain ⟨t, rfl⟩ := r
      exact ⟨[], .str _ _, List.not_mem_nil⟩
    refine PySem.W.list_sort_data (enc := PyData.str) ho e er (PySem.W.AllAlike.of fun b b' => by simp [PySem.W.alike]) (PySem.W.Sortable.others fun b => ⟨by simp, by simp⟩) (by rw [List.length_map] at hL; exact hL) (fun b _ => by simp only [PyData.depth]; omega) fun out h1 h2 => fin out ?_
    rw [PySem.W.dataLe_str fun b => b] at h2
    have hs : (ns.mergeSort fun a b => decide (a.cps.toList ≤ b.cps.toList)).map Leaf.text = srtL (ns.map .text) := srt_only (.inr ⟨ns, rfl⟩) ((List.mergeSort_perm _ _).map _) (by
      rw [List.pairwise_map]
      exact List.pairwise_mergeSort (le := fun a b : Str => decide (a.cps.toList ≤ b.cps.toList)) (fun a b c h1 h2 => decide_eq_true (List.le_trans (of_decide_eq_true h1) (of_decide_eq_true h2))) (fun a b => by
        rcases List.le_total a.cps.toList b.cps.toList with h | h
        · simp [h]
        · simp [h]) ns)
    rw [← hs]
    exact text_each h2
theorem alkB_perm {ls ls' : List Leaf} (p : ls'.Perm ls) (h : alkB ls = true) : alkB ls' = true := by
  unfold alkB at h ⊢
  rw [Bool.or_eq_true, List.all_eq_true, List.all_eq_true] at h ⊢
  exact h.imp (fun h x hx => h x (p.mem_iff.mp hx)) fun h x hx => h x (p.mem_iff.mp hx)
theorem srt_of_perm {ls ls' : List Leaf} (p : ls'.Perm ls) (h : alkB ls = true) : srtL ls' = srtL ls :=
  srt_only (alk_of h) ((srt_perm ls').trans p) (srt_up (alk_of (alkB_perm p h)))
/-- sorted(x), by what collecting x yields -/
theorem sorted_leaves {x : Value} {ls : List Leaf} {Q : Value → Shared → Prop} (hu : A.units + 66 < cLine) (hal : alkB ls = true) (hL : ls.length ≤ sizeLine)
    (hc : ∀ (R : List Value → Shared → Prop), (∀ s' vs ls', (∀ b o, s.heap.get? b = some o → s'.heap.get? b = some o) → s.heap.objs.size ≤ s'.heap.objs.size → s'.gens = s.gens → s'.os = s.os → Vals (List.map lv ls') vs → List.Perm ls' ls → R vs s') →
      wpAny (model P w) A.in1 (collect x) R E s)
    (h : ∀ s' p out c, (∀ b o, s.heap.get? b = some o → s'.heap.get? b = some o) → s'.gens = s.gens → s'.os = s.os → s.heap.objs.size ≤ p → s'.heap.get? p = some (seqObj "list" (List.toArray out) c) → Vals ((srtL ls).map lv) out → Q (.ref p) s') :
    wpAny (model P w) A (call (.builtin "sorted") [x]) Q E s := by
  refine Calls.call_function_entry kind_sorted plain_sorted entry_sorted (args_sorted1 _) ?_
  unfold Builtin.«sorted»
  refine wpAny_bind (m := checkCount "sorted" 1 1 _) (wpAny_pure ?_)
  refine wpAny_bind (wpAny_mono (hc (fun vs s' => ∃ ls', (∀ b o, s.heap.get? b = some o → s'.heap.get? b = some o) ∧ s.heap.objs.size ≤ s'.heap.objs.size ∧ s'.gens = s.gens ∧ s'.os = s.os ∧ Vals (List.map lv ls') vs ∧ List.Perm ls' ls) fun s' vs ls' a1 a2 a3 a4 a5 a6 => ⟨ls', a1, a2, a3, a4, a5, a6⟩) (fun vs s1 hq => ?_) fun _ _ h => h)
  obtain ⟨ls', k1, hz, g1, o1, hv, pm⟩ := hq
  have hl' : ls'.length ≤ sizeLine := by rw [pm.length_eq]; exact hL
  have hvl : vs.length ≤ sizeLine := by
    have q := L2.Vals.length hv
    rw [List.length_map] at q
    omega
  refine wpAny_bind (wpAny_newList ?_ hvl)
  have hoL : (s1.heap.push (seqObj "list" vs.toArray 0)).get? s1.heap.objs.size = some (seqObj "list" vs.toArray 0) := Heap.get?_push_size _ rfl
  refine wpAny_bind (wpAny_holding (sort_leaves hv (alk_of (alkB_perm pm hal)) hoL hl' (by simp only [PyProof.Rows.units_in1]; omega) fun out c h' e1 e2 e3 => ?_))
  rw [srt_of_perm pm hal] at e3
  refine wpAny_pure ⟨_, rfl, h _ s1.heap.objs.size out c (fun b o e => ?_) g1 o1 hz e1 e3⟩
  have e' := k1 b o e
  exact e2 b o (Nat.ne_of_lt (Heap.lt_size e')) (Heap.get?_push_of_some _ e')
theorem collect_seq' {Q : List Value → Shared → Prop} (it : Addr) {T : String} {o : Obj} {items : Array Value} {n : Nat} (hT : T = "list" ∨ T = "tuple")
    (ho : s.heap.get? it = some o) (hc : o.cls = .type T) (hd : o.data = .seq items n)
    (hQ : ∀ h', (∀ b o', s.heap.get? b = some o' → h'.get? b = some o') → s.heap.objs.size ≤ h'.objs.size → Q items.toList { s with heap := h' }) (hsz : items.size ≤ sizeLine) :
    wpAny (model P w) A (collect (.ref it)) Q E s := by
  unfold collect
  refine wpAny_bind (wpAny_runValue (codeAny_builtin F.entry_proto_collect ?_))
  rw [Around.under_plainId F.plain_proto_collect _]
  show wpAny _ A.in1 (newList [] >>= fun l => again (.builtin "list.__iadd__" ⟨[l, .ref it], []⟩)) _ _ s
  refine wpAny_bind (wpAny_newObj_type ?_)
  refine wpAny_pure ⟨plainId_quiet F.plain_list_iadd _, codeAny_builtin F.entry_list_iadd ?_⟩
  rw [Around.under_plainId F.plain_list_iadd _]
  show wpAny _ A.in1 (Builtin.List.listExtendWith (.ref s.heap.objs.size) (.ref it) (.ref s.heap.objs.size)) _ _ _
  have hS : (s.heap.push { cls := .type "list", data := .seq ([] : List Value).toArray }).get? s.heap.objs.size = some { cls := .type "list", data := .seq #[] 0 } := Heap.get?_push_size _ rfl
  have hS₂ := Heap.get?_update_self (Obj.mapSeq (· ++ items)) hS rfl
  have fin' : wpAny (model P w) A (match Value.ref s.heap.objs.size with
      | Value.ref a => do
        match (← load a).data with
          | Data.seq xs _ => pure xs.toList
          | _ => unsupported "internal:collect"
      | _ => unsupported "internal:collect") Q E { s with heap := (s.heap.push { cls := .type "list", data := .seq ([] : List Value).toArray }).update s.heap.objs.size (Obj.mapSeq (· ++ items)) } := by
    show wpAny _ A (load s.heap.objs.size >>= _) _ _ _
    refine wpAny_bind (wpAny_load hS₂ ?_)
    refine wpAny_pure ?_
    have e : ((#[] : Array Value) ++ items).toList = items.toList := by simp
    show Q ((#[] : Array Value) ++ items).toList _
    rw [e]
    refine hQ _ (fun b o' hb => ?_) ?_
    · exact (Heap.get?_update_other _ _ (Nat.ne_of_gt (Heap.lt_size hb))).trans (Heap.get?_push_of_some _ hb)
    · rw [Heap.size_update, size_push']; exact Nat.le_succ _
  refine wpAny_mono (wpAny_extend_seq (hsz := hsz) (A := A) (R := fun r s' => r = .ok (.ret (.ref s.heap.objs.size)) ∧ s' = { s with heap := (s.heap.push { cls := .type "list", data := .seq ([] : List Value).toArray }).update s.heap.objs.size (Obj.mapSeq (· ++ items)) })
    (s := { s with heap := s.heap.push { cls := .type "list", data := .seq ([] : List Value).toArray } }) _ it _ 0 hT hS (Heap.get?_push_of_some _ ho) hc hd ⟨rfl, rfl⟩) (fun fin s' h => ?_) (fun e s' h => ?_)
  · cases fin with
    | done f =>
      obtain ⟨e, rfl⟩ := h
      cases e
      exact fin'
    | again c' => exact ⟨h.1, codeAny_mono h.2 fun r s'' hr => by obtain ⟨rfl, rfl⟩ := hr; exact fin'⟩
  · exact absurd h.1 (by simp)
theorem collect_K {k : Bool} {l : Addr} {items : Array Value} {Q : List Value → Shared → Prop} (hl : IsK k s.heap l items) (hsz : items.size ≤ sizeLine)
    (h : ∀ h', (∀ b o, s.heap.get? b = some o → h'.get? b = some o) → s.heap.objs.size ≤ h'.objs.size → Q items.toList { s with heap := h' }) : wpAny (model P w) A (collect (.ref l)) Q E s := by
  cases k
  · obtain ⟨o, ho, hc, n, hd⟩ := id hl
    exact collect_seq' l (.inl rfl) ho hc hd h hsz
  · obtain ⟨o, ho, hc, n, hd⟩ := id hl
    exact collect_seq' l (.inr rfl) ho hc hd h hsz
end
/-! ### rules of calls -/
def SetLO (P : Program) (w : World) (a : Addr) (S : Leaf → Bool) (n : Nat) : HO := .ext fun h => SetL P w h a S n
section
variable {X : Cx}
theorem setLO_new {P : Program} {w : World} {H : Hp} {h : Heap} {a : Addr} {S : Leaf → Bool} {n : Nat} (R : SetL P w h a S n) : ObjOk P w H h a (SetLO P w a S n) :=
  ⟨R, by obtain ⟨o, es, ep, t, ho, _⟩ := R; exact ⟨o, ho⟩, fun h1 h2 r k => r.at k⟩
theorem setLO_get {pins : List (Addr × Obj)} {σ : L2.St} {H : Hp} {s : Shared} {a : Addr} {S : Leaf → Bool} {n : Nat} (I : Inv X pins σ H s) (ha : H a = some (SetLO X.prog X.w a S n)) : SetL X.prog X.w s.heap a S n := (I.hok a _ ha).1
def SeqLf (K : PySem.W.Frag) (H : Hp) (a : Addr) (ls : List Leaf) : Prop := SqL K H a (ls.map lv) ∨ SqT K H a (ls.map lv)
theorem seqLf_at {pins : List (Addr × Obj)} {σ : L2.St} {H : Hp} {s : Shared} {a : Addr} {ls : List Leaf} (I : Inv X pins σ H s) (h : SeqLf X.K H a ls) : ∃ k items, IsK k s.heap a items ∧ Vals (ls.map lv) items.toList ∧ items.size ≤ sizeLine := by
  rcases h with h | h
  · obtain ⟨its, rv, hl, hz⟩ := I.list h
    refine ⟨false, its.toArray, hl.isList, rv, ?_⟩
    have q := L2.Vals.length rv
    simp only [List.size_toArray]; omega
  · obtain ⟨its, rv, hl, hz⟩ := I.tuple h
    refine ⟨true, its.toArray, hl, rv, ?_⟩
    have q := L2.Vals.length rv
    simp only [List.size_toArray]; omega
/-- set(xs) -/
def rSetL (K : PySem.W.Frag) (P : Program) (w : World) : List V → Hp → VK → Prop := fun xs H Q => ∃ (a : Addr) (ls : List Leaf), xs = [.ref a] ∧ SeqLf K H a ls ∧ ls.length + 1 < scanBound ∧
  ∀ (p : Addr) (n : Nat), n ≤ ls.length → H p = none → Q (.ref p) (upd H p (SetLO P w p (fun j => decide (j ∈ ls)) n))
theorem cr_setL (hc : X.calm = true) : CallR X (.type "set") (rSetL X.K X.prog X.w) := by
  intro pins s σ H xs us Q I r h
  obtain ⟨a, ls, rfl, hs, hb, q⟩ := h
  obtain ⟨k, items, h1, h2, h3⟩ := seqLf_at I hs
  rw [Vals.ref1 r]
  refine call_set k ls (I.ok.hd hc) h1 h2 hb fun h' tk c hS hcn keep => ?_
  have hn : H s.heap.objs.size = none := I.hok.fresh (Nat.le_refl _)
  exact ⟨.ref s.heap.objs.size, _, I.call (g' := s.gens) (t' := tk) (d' := s.drawn) (h' := h') (ch := []) (Un.laid keep (Nat.le_refl _) hn) (I.hok.laid keep (Nat.le_refl _) (setLO_new hS)) I.bare (fun _ z => nomatch z), rfl, q _ c hcn hn⟩
/-- sorted(xs), xs a list, a tuple -/
def rSortL (K : PySem.W.Frag) : List V → Hp → VK → Prop := fun xs H Q => ∃ (a : Addr) (ls : List Leaf), xs = [.ref a] ∧ SeqLf K H a ls ∧ alkB ls = true ∧
  ∀ p : Addr, H p = none → Q (.ref p) (upd H p (.lst ((srtL ls).map lv)))
/-- sorted(xs), xs a set -/
def rSortSetL (P : Program) (w : World) : List V → Hp → VK → Prop := fun xs H Q => ∃ (a : Addr) (S : Leaf → Bool) (n : Nat) (ls : List Leaf), xs = [.ref a] ∧ H a = some (SetLO P w a S n) ∧ n ≤ sizeLine ∧ (∀ k, S k = true ↔ k ∈ ls) ∧ alkB (dedL ls) = true ∧
  ∀ p : Addr, H p = none → Q (.ref p) (upd H p (.lst ((srtL (dedL ls)).map lv)))
theorem sort_end {pins : List (Addr × Obj)} {σ : L2.St} {H : Hp} {s s' : Shared} {p : Addr} {out : List Value} {c : Nat} {xs : List V} {Q : VK} (I : Inv X pins σ H s) (k : ∀ b o, s.heap.get? b = some o → s'.heap.get? b = some o) (g : s'.gens = s.gens) (o : s'.os = s.os) (hp : s.heap.objs.size ≤ p)
    (hg : s'.heap.get? p = some (seqObj "list" (List.toArray out) c)) (hv : Vals xs out) (hL : xs.length ≤ sizeLine) (q : ∀ p : Addr, H p = none → Q (.ref p) (upd H p (.lst xs))) : EP X pins σ Q (.ref p) s' := by
  have hn : H p = none := I.hok.fresh hp
  have J : Inv X pins σ (upd H p (.lst xs)) { s with heap := s'.heap, gens := s'.gens, drawn := s'.drawn, toks := s'.toks } :=
    I.call (ch := []) (Un.laid k hp hn) (I.hok.laid k hp ⟨hL, out, c, hv, hg⟩) (by rw [g]; exact I.bare) (fun _ z => nomatch z)
  have e : s' = { s with heap := s'.heap, gens := s'.gens, drawn := s'.drawn, toks := s'.toks } := by
    cases s'
    cases s
    cases o
    rfl
  rw [e]
  exact ⟨.ref p, _, J, rfl, q p hn⟩
theorem cr_sortL (hu : X.A.units + 66 < cLine) : CallR X (.builtin "sorted") (rSortL X.K) := by
  intro pins s σ H xs us Q I r h
  obtain ⟨a, ls, rfl, hs, hal, q⟩ := h
  obtain ⟨k, items, h1, h2, h3⟩ := seqLf_at I hs
  rw [Vals.ref1 r]
  have hl : ls.length = items.size := by
    have q : (ls.map lv).length = items.toList.length := L2.Vals.length h2
    rw [List.length_map] at q
    exact q.trans Array.length_toList
  refine sorted_leaves hu hal (by rw [hl]; exact h3) (fun R hR => collect_K h1 h3 fun h' keep hsz => hR _ _ ls keep hsz rfl rfl h2 (List.Perm.refl _)) fun s' p out c k g o hp hg hv => ?_
  exact sort_end I k g o hp hg hv (by rw [List.length_map, (srt_perm ls).length_eq, hl]; exact h3) q
theorem cr_sortSetL (hc : X.calm = true) (hu : X.A.units + 66 < cLine) : CallR X (.builtin "sorted") (rSortSetL X.prog X.w) := by
  intro pins s σ H xs us Q I r h
  obtain ⟨a, S, n, ls, rfl, ha, hnl, hS, hal, q⟩ := h
  obtain ⟨o, es, ep, t, ho, hex, hd, g, nd, hm, hb, hf, hn, hr, hl⟩ := setLO_get I ha
  rw [Vals.ref1 r]
  have pk : (es.toList.map kyOf).Perm (dedL ls) := nodup_perm nd (ded_nodup ls) fun k => by rw [← hm k, hS k, ded_mem]
  have hlen : (dedL ls).length ≤ sizeLine := by rw [← pk.length_eq, List.length_map, Array.length_toList]; omega
  refine sorted_leaves hu hal hlen (fun R hR => collect_set (A := X.A.in1) (I.ok.hd hc) ⟨o, ho, hex.1, hd⟩ hf hb hr hl fun s' out k1 hz g1 o1 pm => hR s' out (out.map fun v => kyOf (0, v)) k1 hz g1 o1 ?_ ?_) fun s' p out c k g o hp hg hv => ?_
  · have hall : ∀ v ∈ out, RelV (lv (kyOf (0, v))) v := fun v hv => by
      obtain ⟨e, he, rfl⟩ := List.mem_map.mp (pm.mem_iff.mp hv)
      obtain ⟨k, rk, _⟩ := g e he
      have z : kyOf (0, e.2) = k := ky_of (e := (0, e.2)) rk
      rw [z]; exact rk
    clear pm
    induction out with
    | nil => exact .nil
    | cons v out ih => exact .cons (hall v (.head _)) (ih fun u hu => hall u (.tail _ hu))
  · refine List.Perm.trans ?_ pk
    have q := pm.map fun v => kyOf (0, v)
    rw [List.map_map] at q
    exact q
  · exact sort_end I k g o hp hg hv (by rw [List.length_map, (srt_perm _).length_eq]; exact hlen) q
/-- len(s), s a set -/
def rLenSetL (P : Program) (w : World) : List V → Hp → VK → Prop := fun xs H Q => ∃ (a : Addr) (S : Leaf → Bool) (n : Nat) (ls : List Leaf), xs = [.ref a] ∧ H a = some (SetLO P w a S n) ∧ (∀ k, S k = true ↔ k ∈ ls) ∧
  Q (.int ((dedL ls).length : Nat)) H
theorem cr_lenSetL : CallR X (.builtin "len") (rLenSetL X.prog X.w) := by
  intro pins s σ H xs us Q I r h
  obtain ⟨a, S, n, ls, rfl, ha, hS, q⟩ := h
  have R := setLO_get I ha
  obtain ⟨o, es, ep, t, ho, hex, hd, g, nd, hm, hb, hf, hn, hr, hl⟩ := id R
  have pk : (es.toList.map kyOf).Perm (dedL ls) := nodup_perm nd (ded_nodup ls) fun k => by rw [← hm k, hS k, ded_mem]
  have hlen : n = (dedL ls).length := by rw [← pk.length_eq, List.length_map, Array.length_toList]; exact hn.symm
  rw [Vals.ref1 r]
  have hz := line63
  have hz2 := fits_of_scanBound hb
  have hs2 : sizeLine = 16777216 := sizeLine_eq
  refine call_len_set ho hex hd hf (by omega) ?_
  have hn2 : es.size = (dedL ls).length := hn.trans hlen
  exact ⟨.int ((dedL ls).length : Nat), H, (I.tok _).tok _, ⟨_, by rw [hn2]⟩, q⟩
end
end DS
end

section
set_option maxRecDepth 100000
set_option maxHeartbeats 4000000
/-! DLi: built-in functions on deep values. -/
namespace DL
open PySem PySem.Spec PyProof.Rows L2 DR
section
variable {c : Ct}
/-- a built-in of one value: a value, a new list -/
def RunX (c : Ct) (k : V → Hp → VK → Prop) (f : D → T D) : Prop := RunE c k f
def RunL (c : Ct) (k : V → Hp → VK → Prop) (f : D → T (List D)) : Prop := ∀ (H : Hp) (P : Addr → Prop) (n : Nat) (x : V) (d : D) (R : List D → Nat → Prop), Ok c P H n → RepX c P H x d → (f d).ok n R →
  ∀ Q : VK, (∀ p xs H' ds n', R ds n' → ExU c.u H H' → Ok c P H' n' → H p = none → H' p = some (.lst xs) → Reps c (Msk (fun a => P a ∨ a = p) H') xs ds → Q (.ref p) H') → k x H Q
/-- .. of values that are apart -/
def RunA (c : Ct) (r : List V → Hp → VK → Prop) (f : List D → T D) : Prop := ∀ (H : Hp) (P : Addr → Prop) (n : Nat) (xs : List V) (ds : List D) (R : D → Nat → Prop), Ok c P H n → Reps c (Msk P H) xs ds → (f ds).ok n R →
  ∀ Q : VK, (∀ v H' d' n', R d' n' → ExU c.u H H' → Ok c P H' n' → Rep c (Msk P H') v d' → Q v H') → r xs H Q
def fFn (f : D → T D) (a : Env → T D) : Env → T D := fun ρ => (a ρ).bind f
def lFn (f : D → T (List D)) (a : Env → T D) : Env → T (List D) := fun ρ => (a ρ).bind f
def aFn (f : List D → T D) (a : Env → T (List D)) : Env → T D := fun ρ => (a ρ).bind f
theorem ev_fn {r : List V → Hp → VK → Prop} {f : D → T D} {te : TE} {F : Env → T D} (hr : RunE c (fun x => r [x]) f) (ha : EvX c te F) : EvE c (tCB r (tCons te tNil)) (fFn f F) := ev_un (r := fun x => r [x]) hr ha
theorem ev_then {k : V → Hp → VK → Prop} {f : D → T D} {te : TE} {F : Env → T D} (hr : RunE c k f) (ha : EvX c te F) : EvE c (tThen te k) (fFn f F) := ev_un (r := k) hr ha
theorem el_fn {r : List V → Hp → VK → Prop} {f : D → T (List D)} {te : TE} {F : Env → T D} (hr : RunL c (fun x => r [x]) f) (ha : EvX c te F) : EvL c (tCB r (tCons te tNil)) (lFn f F) := fun σ H P ρ n R o er ok Q q =>
  ha σ H P ρ n _ o er (T.ok_bind.mp ok) _ fun x H1 d n1 ok1 e1 o1 rx => hr H1 P n1 x d R o1 rx ok1 Q fun p xs H3 ds n3 r e3 o3 hp h3 rp => q p xs H3 ds n3 r (e1.trans e3) o3 (e1.free (o1.nu hp) hp) h3 rp
theorem ev_fnA {r : List V → Hp → VK → Prop} {f : List D → T D} {ta : TA} {F : Env → T (List D)} (hr : RunA c r f) (ha : EvA c ta F) : EvE c (tCB r ta) (aFn f F) := fun σ H P ρ n R o er ok Q q =>
  ha σ H P ρ n _ o er (T.ok_bind.mp ok) _ fun xs H1 ds n1 ok1 e1 o1 rs => hr H1 P n1 xs ds R o1 rs ok1 Q fun v H3 d' n3 r e3 o3 rp => q v H3 d' n3 r (e1.trans e3) o3 rp

/-! ### len -/
def lenD : D → T D
  | .lst ds => .ret (.int ds.length)
  | .tup ds => .ret (.int ds.length)
  | .str z => (match decide (z.length ≤ capD) with | true => .ret (.int z.length) | false => .fail)
  | _ => .fail
/-- tuple(x): a new tuple without a dict, or x itself -/
def kTupN (K : PySem.W.Frag) (x : V) (H : Hp) (Q : VK) : Prop :=
  (∃ p xs, x = .ref p ∧ SqL K H p xs ∧ ∀ (ob : Obj) (q : Addr), ob.dict = none → H q = none → Q (.ref q) (upd H q (.frz ob (.tup xs)))) ∨ (∃ p xs, x = .ref p ∧ SqT K H p xs ∧ Q (.ref p) H)
theorem rl_tupleN {X : Cx} (pins : List (Addr × Obj)) (s : Shared) (σ : L2.St) (H : Hp) (x : V) (v : Value) (Q : VK) (I : Inv X pins σ H s) (r : RelV x v) (h : kTupN X.K x H Q) :
    wpAny (model X.prog X.w) X.A (call (.type "tuple") [v]) (EP X pins σ Q) X.xe s := by
  rcases h with ⟨p, xs, rfl, hs, q⟩ | ⟨p, xs, rfl, hs, q⟩
  · obtain rfl : v = .ref p := r
    obtain ⟨its, rv, pl, hz⟩ := I.list hs
    refine call_tuple_list pl.isList (fun h' hk => ?_) (by rw [List.size_toArray, ← rv.length]; exact hz)
    have I1 : Inv X pins σ H { s with heap := h' } := I.kept (t' := s.toks) hk
    exact ⟨.ref h'.objs.size, _, I1.laid (t' := s.toks) (o := .frz _ (.tup xs)) (fun b o e => Heap.get?_push_of_some _ e) (Nat.le_refl _) ⟨Heap.get?_push_size _ rfl, hz, its, rv, IsTup.new _ _⟩, rfl, q _ _ rfl (I1.hok.fresh (Nat.le_refl _))⟩
  · obtain rfl : v = .ref p := r
    obtain ⟨its, rv, pl, hz⟩ := I.tuple hs
    exact call_tuple_tup pl ⟨.ref p, H, I, rfl, q⟩
theorem pe_tupleN {X : Cx} {a : Expr} {ta : TE} {p pos : Pos} (hg : Gl X "tuple") (hm : X.mg "tuple" = none) (ha : PE X a ta) (na : starEach [a] X.env = (false, eval a X.env) :: starEach [] X.env := by rfl) :
    PE X (.Call (.Name "tuple" p) [a] [] pos) (tThen ta (kTupN X.K)) := by
  refine ⟨fun pins s σ H Q I h => ?_⟩
  exact Call_ (ld_blt I hg hm boot_tuple (PyProof.Rows.callWith_type1 (one_arg ha I h (fun v s2 x H2 I2 r q => rl_tupleN pins s2 σ H2 x v Q I2 r q) na) na))
theorem rb_len : RunE c (fun y H Q => (fun xs H Q => ∃ x n, xs = [x] ∧ LenV c.K x H n ∧ Q (.int n) H) [y] H Q) lenD := by
  intro H P n x d R o rx ok Q q
  unfold lenD at ok
  split at ok
  · obtain ⟨a, xs, rfl, h2, h3⟩ := rx.lst
    exact ⟨_, xs.length, rfl, .inl ⟨xs, .of h2, rfl⟩, q _ H _ n ok (ExU.refl _ _) o (by rw [h3.length]; exact .int _)⟩
  · obtain ⟨a, xs, rfl, h2, h3⟩ := rx.tup
    exact ⟨_, xs.length, rfl, .inr ⟨xs, h2.sq, rfl⟩, q _ H _ n ok (ExU.refl _ _) o (by rw [h3.length]; exact .int _)⟩
  · split at ok
    · rename_i z hz
      obtain rfl := rx.str
      exact ⟨_, _, rfl, ⟨cap_le (of_decide_eq_true hz), rfl⟩, q _ H _ n ok (ExU.refl _ _) o (.int _)⟩
    · exact ok.elim
  · exact ok.elim
/-! ### tuple(x), list(x) -/
def tupOfD : D → T D
  | .lst ds => .ret (.tup ds)
  | .tup ds => .ret (.tup ds)
  | _ => .fail
theorem rb_tup : RunE c (kTupN c.K) tupOfD := by
  intro H P n x d R o rx ok Q q
  unfold tupOfD at ok
  split at ok
  · obtain ⟨a, xs, rfl, h2, h3⟩ := rx.lst
    exact .inl ⟨a, xs, rfl, .of h2, fun ob p hob hp => q _ _ _ n ok (ExU.new hp) (o.new hp) (rep_newT o hob hp h3)⟩
  · obtain ⟨a, xs, rfl, h2, h3⟩ := rx.tup
    refine .inr ⟨a, xs, rfl, h2.sq, q _ _ _ n ok (ExU.refl _ _) o ?_⟩
    rcases rx with h | ⟨_, _, _, _, _, z, _⟩
    · exact h
    · cases z
  · exact ok.elim
theorem reps_new {P : Addr → Prop} {H : Hp} {n : Nat} {p : Addr} {w : HO} {xs : List V} {ds : List D} (o : Ok c P H n) (hp : H p = none) (r : Reps c (Msk P H) xs ds) : Reps c (Msk (fun a => P a ∨ a = p) (upd H p w)) xs ds :=
  r.sub fun a u ha => by
    obtain ⟨h1, h2⟩ := msk_some.mp ha
    have na : a ≠ p := ne_of_none h2 hp
    exact msk_some.mpr ⟨fun z => z.elim h1 na, by rw [upd_ne na]; exact h2⟩
def listOfD (d : D) : T (List D) := match seqD d with
  | some ds => .ret ds
  | none => .fail
theorem rb_list : RunL c (fun y H Q => (fun xs H Q => ∃ p ys, xs = [.ref p] ∧ (SqL c.K H p ys ∨ SqT c.K H p ys) ∧ ∀ l, H l = none → Q (.ref l) (upd H l (.lst ys))) [y] H Q) listOfD := by
  intro H P n x d R o rx ok Q q
  unfold listOfD at ok
  split at ok
  · rename_i ds hs
    obtain ⟨a, xs, rfl, h2, h3⟩ := rx.seq hs
    exact ⟨a, xs, rfl, h2, fun p hp => q p xs _ ds n ok (ExU.new hp) (o.new hp) hp upd_same (reps_new o hp h3)⟩
  · exact ok.elim
/-! ### sum, max, min, all, any -/
def intsD : List D → Option (List Int)
  | [] => some []
  | .int i :: ds => (match intsD ds with | some is => some (i :: is) | none => none)
  | _ => none
theorem ints_of {G : Hp} : ∀ {ds : List D} {xs : List V} {ns : List Int}, intsD ds = some ns → Reps c G xs ds → xs = ns.map V.int
  | [], _, _, h, r => by cases h; cases r; rfl
  | d :: ds, _, ns, h, r => by
    unfold intsD at h
    split at h
    · rename_i e; cases e
    · rename_i i ds' e
      cases e
      split at h
      · rename_i is hi
        cases h
        cases r with
        | cons h1 h2 =>
          cases h1
          rw [ints_of hi h2]; rfl
      · cases h
    · cases h
def sumD : D → T D
  | .lst ds => (match intsD ds with | some is => .ret (.int is.sum) | none => .fail)
  | _ => .fail
theorem rb_sum : RunE c (fun y => rSum c.K [y]) sumD := by
  intro H P n x d R o rx ok Q q
  unfold sumD at ok
  split at ok
  · split at ok
    · rename_i is hi
      obtain ⟨a, xs, rfl, h2, h3⟩ := rx.lst
      have e := ints_of hi h3
      subst e
      exact ⟨a, is, rfl, .of h2, q _ H _ n ok (ExU.refl _ _) o (.int _)⟩
    · exact ok.elim
  · exact ok.elim
def maxI : Int → List Int → Int
  | m, [] => m
  | m, i :: is => maxI (bif decide (m < i) then i else m) is
def minI : Int → List Int → Int
  | m, [] => m
  | m, i :: is => minI (bif decide (i < m) then i else m) is
theorem maxI_le : ∀ (is : List Int) (m : Int), m ≤ maxI m is ∧ ∀ y ∈ is, y ≤ maxI m is
  | [], m => ⟨Int.le_refl _, fun _ h => (List.not_mem_nil h).elim⟩
  | i :: is, m => by
    unfold maxI
    cases h : decide (m < i) with
    | true =>
      have := of_decide_eq_true h
      obtain ⟨h1, h2⟩ := maxI_le is i
      exact ⟨by rw [cond_true]; omega, fun y hy => by
        rcases List.mem_cons.mp hy with rfl | hy
        · exact h1
        · exact h2 y hy⟩
    | false =>
      have := of_decide_eq_false h
      obtain ⟨h1, h2⟩ := maxI_le is m
      exact ⟨h1, fun y hy => by
        rcases List.mem_cons.mp hy with rfl | hy
        · rw [cond_false]; omega
        · exact h2 y hy⟩
theorem maxI_mem : ∀ (is : List Int) (m : Int), maxI m is ∈ m :: is
  | [], m => .head _
  | i :: is, m => by
    unfold maxI
    cases decide (m < i) with
    | true => exact .tail _ (maxI_mem is i)
    | false =>
      rcases List.mem_cons.mp (maxI_mem is m) with h | h
      · rw [cond_false, h]; exact .head _
      · exact .tail _ (.tail _ h)
theorem minI_le : ∀ (is : List Int) (m : Int), minI m is ≤ m ∧ ∀ y ∈ is, minI m is ≤ y
  | [], m => ⟨Int.le_refl _, fun _ h => (List.not_mem_nil h).elim⟩
  | i :: is, m => by
    unfold minI
    cases h : decide (i < m) with
    | true =>
      have := of_decide_eq_true h
      obtain ⟨h1, h2⟩ := minI_le is i
      exact ⟨by rw [cond_true]; omega, fun y hy => by
        rcases List.mem_cons.mp hy with rfl | hy
        · exact h1
        · exact h2 y hy⟩
    | false =>
      have := of_decide_eq_false h
      obtain ⟨h1, h2⟩ := minI_le is m
      exact ⟨h1, fun y hy => by
        rcases List.mem_cons.mp hy with rfl | hy
        · rw [cond_false]; omega
        · exact h2 y hy⟩
theorem minI_mem : ∀ (is : List Int) (m : Int), minI m is ∈ m :: is
  | [], m => .head _
  | i :: is, m => by
    unfold minI
    cases decide (i < m) with
    | true => exact .tail _ (minI_mem is i)
    | false =>
      rcases List.mem_cons.mp (minI_mem is m) with h | h
      · rw [cond_false, h]; exact .head _
      · exact .tail _ (.tail _ h)
def maxLD : D → T D
  | .lst ds => (match intsD ds with | some (i :: is) => .ret (.int (maxI i is)) | _ => .fail)
  | _ => .fail
def minLD : D → T D
  | .lst ds => (match intsD ds with | some (i :: is) => .ret (.int (minI i is)) | _ => .fail)
  | _ => .fail
theorem rb_max : RunE c (fun y => rMax c.K [y]) maxLD := by
  intro H P n x d R o rx ok Q q
  unfold maxLD at ok
  split at ok
  · split at ok
    · rename_i i is hi
      obtain ⟨a, xs, rfl, h2, h3⟩ := rx.lst
      have e := ints_of hi h3
      subst e
      refine ⟨a, i :: is, rfl, .of h2, Nat.zero_lt_succ _, fun m hm hle => ?_⟩
      have e : m = maxI i is := by
        have h1 := hle _ (maxI_mem is i)
        have h2 := maxI_le is i
        rcases List.mem_cons.mp hm with z | z
        · have := h2.1; omega
        · have := h2.2 m z; omega
      rw [e]
      exact q _ H _ n ok (ExU.refl _ _) o (.int _)
    · exact ok.elim
  · exact ok.elim
theorem rb_min : RunE c (fun y => rMin c.K [y]) minLD := by
  intro H P n x d R o rx ok Q q
  unfold minLD at ok
  split at ok
  · split at ok
    · rename_i i is hi
      obtain ⟨a, xs, rfl, h2, h3⟩ := rx.lst
      have e := ints_of hi h3
      subst e
      refine ⟨a, i :: is, rfl, .of h2, Nat.zero_lt_succ _, fun m hm hle => ?_⟩
      have e : m = minI i is := by
        have h1 := hle _ (minI_mem is i)
        have h2 := minI_le is i
        rcases List.mem_cons.mp hm with z | z
        · have := h2.1; omega
        · have := h2.2 m z; omega
      rw [e]
      exact q _ H _ n ok (ExU.refl _ _) o (.int _)
    · exact ok.elim
  · exact ok.elim
def blsD : List D → Option (List Bool)
  | [] => some []
  | .bl i :: ds => (match blsD ds with | some is => some (i :: is) | none => none)
  | _ => none
theorem bls_of {G : Hp} : ∀ {ds : List D} {xs : List V} {ns : List Bool}, blsD ds = some ns → Reps c G xs ds → xs = ns.map V.bl
  | [], _, _, h, r => by cases h; cases r; rfl
  | d :: ds, _, ns, h, r => by
    unfold blsD at h
    split at h
    · rename_i e; cases e
    · rename_i i ds' e
      cases e
      split at h
      · rename_i is hi
        cases h
        cases r with
        | cons h1 h2 =>
          cases h1
          rw [bls_of hi h2]; rfl
      · cases h
    · cases h
def allD : D → T D
  | .lst ds => (match blsD ds with | some is => .ret (.bl (is.all id)) | none => .fail)
  | _ => .fail
def anyD : D → T D
  | .lst ds => (match blsD ds with | some is => .ret (.bl (is.any id)) | none => .fail)
  | _ => .fail
theorem rb_all : RunE c (fun y => rAll c.K [y]) allD := by
  intro H P n x d R o rx ok Q q
  unfold allD at ok
  split at ok
  · split at ok
    · rename_i is hi
      obtain ⟨a, xs, rfl, h2, h3⟩ := rx.lst
      have e := bls_of hi h3
      subst e
      exact ⟨a, is, rfl, .of h2, q _ H _ n ok (ExU.refl _ _) o (.bl _)⟩
    · exact ok.elim
  · exact ok.elim
theorem rb_any : RunE c (fun y => rAny c.K [y]) anyD := by
  intro H P n x d R o rx ok Q q
  unfold anyD at ok
  split at ok
  · split at ok
    · rename_i is hi
      obtain ⟨a, xs, rfl, h2, h3⟩ := rx.lst
      have e := bls_of hi h3
      subst e
      exact ⟨a, is, rfl, .of h2, q _ H _ n ok (ExU.refl _ _) o (.bl _)⟩
    · exact ok.elim
  · exact ok.elim
/-! ### abs, int, max and min of two -/
def absD : D → T D
  | .int i => .ret (.int (if i < 0 then -i else i))
  | _ => .fail
theorem rb_abs : RunE c (fun y H Q => (fun xs H Q => ∃ i, xs = [.int i] ∧ Q (.int (if i < 0 then -i else i)) H) [y] H Q) absD := by
  intro H P n x d R o rx ok Q q
  unfold absD at ok
  split at ok
  · obtain rfl := rx.int
    exact ⟨_, rfl, q _ H _ n ok (ExU.refl _ _) o (.int _)⟩
  · exact ok.elim
def intOfD : D → T D
  | .int i => .ret (.int i)
  | .bl k => .ret (.int (if k then 1 else 0))
  | _ => .fail
theorem rb_int : RunE c (fun y H Q => (fun xs H Q => (∃ i, xs = [.int i] ∧ Q (.int i) H) ∨ ∃ k, xs = [.bl k] ∧ Q (.int (if k then 1 else 0)) H) [y] H Q) intOfD := by
  intro H P n x d R o rx ok Q q
  unfold intOfD at ok
  split at ok
  · obtain rfl := rx.int
    exact .inl ⟨_, rfl, q _ H _ n ok (ExU.refl _ _) o (.int _)⟩
  · obtain rfl := rx.bl
    exact .inr ⟨_, rfl, q _ H _ n ok (ExU.refl _ _) o (.int _)⟩
  · exact ok.elim
def max2D : List D → T D
  | [.int i, .int j] => .ret (.int (if j > i then j else i))
  | _ => .fail
def min2D : List D → T D
  | [.int i, .int j] => .ret (.int (if j < i then j else i))
  | _ => .fail
theorem rb_max2 : RunA c (fun xs H Q => ∃ i j, xs = [.int i, .int j] ∧ Q (.int (if j > i then j else i)) H) max2D := by
  intro H P n xs ds R o rs ok Q q
  unfold max2D at ok
  split at ok
  · cases rs with
    | cons h1 t =>
      cases t with
      | cons h2 t =>
        cases t; cases h1; cases h2
        exact ⟨_, _, rfl, q _ H _ n ok (ExU.refl _ _) o (.int _)⟩
  · exact ok.elim
theorem rb_min2 : RunA c (fun xs H Q => ∃ i j, xs = [.int i, .int j] ∧ Q (.int (if j < i then j else i)) H) min2D := by
  intro H P n xs ds R o rs ok Q q
  unfold min2D at ok
  split at ok
  · cases rs with
    | cons h1 t =>
      cases t with
      | cons h2 t =>
        cases t; cases h1; cases h2
        exact ⟨_, _, rfl, q _ H _ n ok (ExU.refl _ _) o (.int _)⟩
  · exact ok.elim
end
end DL
end

section
set_option maxRecDepth 100000
set_option maxHeartbeats 4000000
/-! DLj: sorted, sets, isinstance on deep values. -/
namespace DL
open PySem PySem.Spec PyProof.Rows L2 DR
section
variable {c : Ct}
def leafD : D → Option Leaf
  | .non => some .none
  | .int i => some (.num i)
  | .str x => some (.text x)
  | _ => none
def dLeaf : Leaf → D
  | .none => .non
  | .num i => .int i
  | .text x => .str x
def leavesD : List D → Option (List Leaf)
  | [] => some []
  | d :: ds => match leafD d with
    | some l => (match leavesD ds with | some ls => some (l :: ls) | none => none)
    | none => none
theorem leaf_of {G : Hp} {v : V} {d : D} {l : Leaf} (h : leafD d = some l) (r : Rep c G v d) : v = DS.lv l := by
  cases r <;> (first | cases h; rfl | cases h)
theorem leaves_of {G : Hp} : ∀ {ds : List D} {xs : List V} {ls : List Leaf}, leavesD ds = some ls → Reps c G xs ds → xs = ls.map DS.lv
  | [], _, _, h, r => by cases h; cases r; rfl
  | d :: ds, _, ls, h, r => by
    unfold leavesD at h
    split at h
    · rename_i l hl
      split at h
      · rename_i ls' hls
        cases h
        cases r with
        | cons h1 h2 => rw [leaf_of hl h1, leaves_of hls h2]; rfl
      · cases h
    · cases h
theorem rep_leaf {G : Hp} : ∀ l : Leaf, Rep c G (DS.lv l) (dLeaf l)
  | .none => .non
  | .num i => .int i
  | .text x => .str x
theorem reps_leaf {G : Hp} : ∀ ls : List Leaf, Reps c G (ls.map DS.lv) (ls.map dLeaf)
  | [] => .nil
  | l :: ls => .cons (rep_leaf l) (reps_leaf ls)
theorem seqLf_of {P : Addr → Prop} {H : Hp} {x : V} {d : D} {ds : List D} {ls : List Leaf} (rx : RepX c P H x d) (hs : seqD d = some ds) (hl : leavesD ds = some ls) : ∃ a, x = .ref a ∧ DS.SeqLf c.K H a ls := by
  obtain ⟨a, xs, rfl, h2, h3⟩ := rx.seq hs
  have e := leaves_of hl h3
  subst e
  exact ⟨a, rfl, h2⟩
theorem leaves_len : ∀ {ds : List D} {ls : List Leaf}, leavesD ds = some ls → ls.length = ds.length
  | [], _, h => by cases h; rfl
  | d :: ds, ls, h => by
    unfold leavesD at h
    split at h
    · split at h
      · rename_i h2
        cases h
        rw [List.length_cons, List.length_cons, leaves_len h2]
      · cases h
    · cases h
/-- sorted(x) of a list, a tuple -/
def sortD (d : D) : T (List D) := match seqD d with
  | some ds => (match leavesD ds with
    | some ls => (match DS.alkB ls with | true => .ret ((DS.srtL ls).map dLeaf) | false => .fail)
    | none => .fail)
  | none => .fail
theorem rb_sort : RunL c (fun y => DS.rSortL c.K [y]) sortD := by
  intro H P n x d R o rx ok Q q
  unfold sortD at ok
  split at ok
  · rename_i ds hs
    split at ok
    · rename_i ls hl
      split at ok
      · rename_i ha
        obtain ⟨a, rfl, h⟩ := seqLf_of rx hs hl
        exact ⟨a, ls, rfl, h, ha, fun p hp => q p _ _ _ n ok (ExU.new hp) (o.new hp) hp upd_same (reps_leaf _)⟩
      · exact ok.elim
    · exact ok.elim
  · exact ok.elim
/-- sorted(set(x)) -/
def sortSetD (d : D) : T (List D) := match seqD d with
  | some ds => (match leavesD ds with
    | some ls => (match decide (ls.length ≤ 3000) && DS.alkB (DS.dedL ls) with | true => .ret ((DS.srtL (DS.dedL ls)).map dLeaf) | false => .fail)
    | none => .fail)
  | none => .fail
theorem cap_scan {n : Nat} (h : n ≤ 3000) : n + 1 < scanBound := Nat.lt_of_le_of_lt (Nat.succ_le_succ h) (by decide)
theorem el_sortSet {P : Program} {w : World} {te : TE} {F : Env → T D} (ha : EvX c te F) : EvL c (tCB (DS.rSortSetL P w) (tCons (tCB (DS.rSetL c.K P w) (tCons te tNil)) tNil)) (lFn sortSetD F) := fun σ H Q0 ρ n R o er ok Q q =>
  ha σ H Q0 ρ n _ o er (T.ok_bind.mp ok) _ fun x H1 d n1 ok1 e1 o1 rx => by
    unfold sortSetD at ok1
    split at ok1
    · rename_i ds hs
      split at ok1
      · rename_i ls hl
        split at ok1
        · rename_i hb
          obtain ⟨h1, h2⟩ := Bool.and_eq_true_iff.mp hb
          have h1 := of_decide_eq_true h1
          obtain ⟨a, rfl, h⟩ := seqLf_of rx hs hl
          refine ⟨a, ls, rfl, h, cap_scan h1, fun p m hm hp => ⟨p, _, m, ls, rfl, upd_same, Nat.le_trans hm (Nat.le_trans h1 (by decide)), fun k => decide_eq_true_iff, h2, fun p2 hp2 => ?_⟩⟩
          have o2 := o1.new (w := DS.SetLO P w p (fun j => decide (j ∈ ls)) m) hp
          have e2 := e1.trans (ExU.new (o := DS.SetLO P w p (fun j => decide (j ∈ ls)) m) hp)
          exact q p2 _ _ _ n1 ok1 (e2.trans (ExU.new hp2)) (o2.new hp2) (e2.free (o2.nu hp2) hp2) upd_same (reps_leaf _)
        · exact ok1.elim
      · exact ok1.elim
    · exact ok1.elim
/-- len(set(x)) -/
def lenSetD (d : D) : T D := match seqD d with
  | some ds => (match leavesD ds with
    | some ls => (match decide (ls.length ≤ 3000) with | true => .ret (.int ((DS.dedL ls).length : Nat)) | false => .fail)
    | none => .fail)
  | none => .fail
theorem ev_lenSet {P : Program} {w : World} {te : TE} {F : Env → T D} (ha : EvX c te F) : EvE c (tCB (DS.rLenSetL P w) (tCons (tCB (DS.rSetL c.K P w) (tCons te tNil)) tNil)) (fFn lenSetD F) := fun σ H Q0 ρ n R o er ok Q q =>
  ha σ H Q0 ρ n _ o er (T.ok_bind.mp ok) _ fun x H1 d n1 ok1 e1 o1 rx => by
    unfold lenSetD at ok1
    split at ok1
    · rename_i ds hs
      split at ok1
      · rename_i ls hl
        split at ok1
        · rename_i hb
          have h1 := of_decide_eq_true hb
          obtain ⟨a, rfl, h⟩ := seqLf_of rx hs hl
          refine ⟨a, ls, rfl, h, cap_scan h1, fun p m hm hp => ⟨p, _, m, ls, rfl, upd_same, fun k => decide_eq_true_iff, ?_⟩⟩
          exact q _ _ _ n1 ok1 (e1.trans (ExU.new hp)) (o1.new hp) (.int _)
        · exact ok1.elim
      · exact ok1.elim
    · exact ok1.elim
/-! ### isinstance(x, T), isinstance(x, (T, U)) of built-in types -/
def tyD : D → Option String
  | .non => some "NoneType"
  | .bl _ => some "bool"
  | .int _ => some "int"
  | .str _ => some "str"
  | .lst _ => some "list"
  | .tup _ => some "tuple"
  | _ => none
theorem tyX_of {P : Addr → Prop} {H : Hp} {v : V} {d : D} {t : String} (h : tyD d = some t) (rx : RepX c P H v d) : TyX c.K H v (.type t) := by
  have lst : ∀ ds, d = .lst ds → TyX c.K H v (.type t) := fun ds e => by
    subst e
    cases h
    obtain ⟨a, xs, rfl, h2, h3⟩ := rx.lst
    exact .base (.lst h2)
  rcases rx with r | ⟨a, xs, ds, h1, h2, h3, h4, h5⟩
  · cases r with
    | non => cases h; exact .base .non
    | bl b => cases h; exact .base (.bl b)
    | int i => cases h; exact .base (.int i)
    | str x => cases h; exact .base (.str x)
    | lst h1 h2 => exact lst _ rfl
    | tup h1 h2 =>
      cases h
      rcases h1 with ⟨o, _, h1⟩ | ⟨o, its, n, _, k1, k2, _⟩
      · exact .fTuple (Sub.of_msk _ _ h1)
      · exact .kTuple k1 k2
    | obj h1 h2 => cases h
    | urn => cases h
    | pr h1 h2 h3 => cases h
  · exact lst _ h3
def isi1 (t u : String) : Bool := t == u || (t == "bool" && u == "int")
def isiD (us : List String) : D → T D := fun d => match tyD d with
  | some t => .ret (.bl (us.any (isi1 t)))
  | none => .fail
/-- the names that the layer knows -/
def isiOk (us : List String) : Prop := ∀ d t, tyD d = some t → ∀ u ∈ us, kitB t u = some (isi1 t u)
theorem isi_ok1 : ∀ u ∈ ["list", "tuple", "bool", "str", "int"], ∀ t ∈ ["NoneType", "bool", "int", "str", "list", "tuple"], kitB t u = some (isi1 t u) := by decide +kernel
theorem isi_ok {us : List String} (h : ∀ u ∈ us, u ∈ ["list", "tuple", "bool", "str", "int"]) : isiOk us := fun d t ht u hu => isi_ok1 u (h u hu) t (by
  cases d <;> cases ht <;> decide)
theorem kit_any {K : PySem.W.Frag} {t : String} : ∀ {us : List String}, (∀ u ∈ us, kitB t u = some (isi1 t u)) → PySem.W.kitAny K (.type t) (us.map Value.type) = some (us.any (isi1 t))
  | [], _ => kitAny_nil
  | u :: us, h => by
    have h1 := kit_ty (K := K) (h u (.head _))
    have h2 := kit_any (K := K) (us := us) fun v hv => h v (.tail _ hv)
    rw [List.any_cons]
    refine kitAny_cons h1 (fun e => ?_) fun e => by rw [e]; rfl
    rw [e]
    exact h2
theorem ev_isi {u : String} {te : TE} {F : Env → T D} (hk : isiOk [u]) (ha : EvX c te F) : EvE c (tCB (rIsi c.K) (tCons te (tCons (tC (.ty u)) tNil))) (fFn (isiD [u]) F) := fun σ H P ρ n R o er ok Q q =>
  ha σ H P ρ n _ o er (T.ok_bind.mp ok) _ fun x H1 d n1 ok1 e1 o1 rx => by
    unfold isiD at ok1
    split at ok1
    · rename_i t ht
      refine ⟨x, .ty u, .type t, .type u, _, rfl, .ty u, tyX_of ht rx, kit_ty (hk d t ht u (.head _)), q _ H1 _ n1 ok1 e1 o1 ?_⟩
      rw [List.any_cons, List.any_nil, Bool.or_false]
      exact .bl _
    · exact ok1.elim
def tTys : List String → TA
  | [] => tNil
  | u :: us => tCons (tC (.ty u)) (tTys us)
theorem tTys_run {σ : L2.St} {H : Hp} : ∀ {us : List String} {Q : List V → Hp → Prop}, Q (us.map V.ty) H → tTys us σ H Q
  | [], _, q => q
  | u :: us, Q, q => tTys_run (us := us) q
theorem paired_tys : ∀ us : List String, Paired ClsV (us.map V.ty) (us.map Value.type)
  | [] => .nil
  | u :: us => .cons (.ty u) (paired_tys us)
theorem ev_isiT {us : List String} {te : TE} {F : Env → T D} (hk : isiOk us) (hl : us.length ≤ 100) (ha : EvX c te F) : EvE c (tCB (rIsiT c.K) (tCons te (tCons (tTup (tTys us)) tNil))) (fFn (isiD us) F) := fun σ H P ρ n R o er ok Q q =>
  ha σ H P ρ n _ o er (T.ok_bind.mp ok) _ fun x H1 d n1 ok1 e1 o1 rx => by
    refine tTys_run ⟨by rw [List.length_map, sizeLine_eq]; omega, fun p hp => ?_⟩
    unfold isiD at ok1
    split at ok1
    · rename_i t ht
      have o2 := o1.new (w := HO.tup (us.map V.ty)) hp
      have e2 := ExU.new (u := c.u) (o := HO.tup (us.map V.ty)) hp
      exact ⟨x, p, us.map V.ty, .type t, us.map Value.type, _, rfl, upd_same, paired_tys us, tyX_of ht (rx.exu o1.pu e2), kit_any fun u hu => hk d t ht u hu, q _ _ _ n1 ok1 (e1.trans e2) o2 (.bl _)⟩
    · exact ok1.elim
end
end DL
end

section
set_option maxRecDepth 100000
set_option maxHeartbeats 4000000
/-! DLk: methods of lists and tuples; stores of two; unpacking a list. -/
namespace DL
open PySem PySem.Spec PyProof.Rows L2 DR
/-! ### leaves as data -/
def leafPy : Leaf → PyData
  | .none => .none
  | .num i => .int i
  | .text x => .str x
theorem reads_leaf {h : Heap} : ∀ {l : Leaf} {v : Value}, RelV (DS.lv l) v → Reads h v (leafPy l) []
  | .none, _, r => by cases r; exact .none
  | .num i, _, r => by obtain ⟨t, rfl⟩ := r; exact .int _ _
  | .text x, _, r => by obtain ⟨t, rfl⟩ := r; exact .str _ _
theorem reads_leaves {h : Heap} : ∀ {ls : List Leaf} {vs : List Value}, Vals (ls.map DS.lv) vs → ReadsAll h vs (ls.map leafPy) []
  | [], _, r => by cases r; exact .nil
  | l :: ls, _, r => by cases r with | cons r t => exact .cons (as := []) (bs := []) (reads_leaf r) (reads_leaves t)
theorem erase_map {α β : Type} (f : α → β) : ∀ (l : List α) (j : Nat), (l.map f).eraseIdx j = (l.eraseIdx j).map f
  | [], j => by simp
  | x :: l, 0 => by simp
  | x :: l, j + 1 => by simp [erase_map f l j]
theorem leaf_eqv (a b : Leaf) : PyData.eqv (leafPy a) (leafPy b) = decide (a = b) := by
  cases a <;> cases b <;> simp [leafPy, PyData.eqv] <;> (rw [Bool.eq_iff_iff]; simp)
theorem leaf_plain : ∀ l : Leaf, (leafPy l).plain = true
  | .none => rfl
  | .num _ => rfl
  | .text _ => rfl
theorem leaves_plain : ∀ ls : List Leaf, PyData.plainAll (ls.map leafPy) = true
  | [] => rfl
  | l :: ls => by simp [PyData.plainAll, leaf_plain l, leaves_plain ls]
theorem leaf_depth : ∀ l : Leaf, (leafPy l).depth = 0
  | .none => rfl
  | .num _ => rfl
  | .text _ => rfl
/-! ### t.count(x) -/
def tCnt (K : PySem.W.Frag) (to te : TE) : TE := fun σ H Q => to σ H fun x H1 => (∃ a xs, x = V.ref a ∧ SqN K H1 a xs) ∧ te σ H1 fun y H2 => ∃ (a : Addr) (ls : List Leaf) (l : Leaf), x = V.ref a ∧ y = DS.lv l ∧ SqT K H2 a (ls.map DS.lv) ∧ Q (.int (ls.countP fun z => decide (z = l) : Nat)) H2
section
variable {X : Cx}
theorem sqn_at {pins : List (Addr × Obj)} {σ : L2.St} {H : Hp} {s : Shared} {a : Addr} {xs : List V} (I : Inv X pins σ H s) (h : SqN X.K H a xs) : s.TypeIs (.ref a) "tuple" ∧ ∃ ob, s.heap.get? a = some ob ∧ ob.dict = none := by
  rcases h with ⟨o, hd, h⟩ | ⟨o, its, n, hd, h1, h2, _⟩
  · obtain ⟨g, z, its, rv, o', g', hc, _⟩ := (show ObjOk X.prog X.w H s.heap a (.frz o (.tup xs)) from I.hok a _ h)
    rw [g] at g'
    cases g'
    exact ⟨⟨o, g, hc⟩, o, g, hd⟩
  · exact ⟨⟨o, I.kIn a o h1, h2⟩, o, I.kIn a o h1, hd⟩
theorem pe_cnt {o e : Expr} {to te : TE} {apos cpos : Pos} (hu : X.A.units + 2 < cLine) (ho : PE X o to) (he : PE X e te)
    (hbase : attributeBase o "count" X.env (eval o X.env) = eval o X.env := by rfl)
    (hfew : ((backTo cpos (starEach [e] X.env)).all (fun x => !x.1) && (backToKw cpos (keywordEach [] X.env)).all (fun x => x.1.isSome)
      && decide ([e].length + ([] : List Keyword).length + (if ([] : List Keyword).isEmpty then 0 else 1) < 30)) = true := by rfl)
    (hline : (apos.endLine == cpos.line) = true := by rfl) (hs : starEach [e] X.env = (false, eval e X.env) :: starEach [] X.env := by rfl) :
    PE X (.Call (.Attribute o "count" apos) [e] [] cpos) (tCnt X.K to te) := by
  have ha : PA X [e] (tCons te tNil) := pa_cons he pa_nil hs
  refine ⟨fun pins s σ H Q I h => ?_⟩
  refine wpAny_Call_method_late hbase hfew hline rfl (thn (ho.run pins s σ H _ I h) fun v s1 ⟨x, H1, I1, r1, ⟨a, xs, hx, ha1⟩, q1⟩ => ?_)
  subst hx
  cases r1
  obtain ⟨h1, ob, hob, hd⟩ := sqn_at I1 ha1
  refine ⟨"tuple", "tuple.count", F.plainAttrs_tuple, F.slot_tuple_count, F.type_tuple_count, h1, fun b hb => by cases hb; exact ⟨ob, hob, hd⟩, ?_⟩
  have hA := ha.run cpos pins s1 σ H1 (fun ys H2 => match ys with | [y] => ∃ (a' : Addr) (ls : List Leaf) (l : Leaf), V.ref a = V.ref a' ∧ y = DS.lv l ∧ SqT X.K H2 a' (ls.map DS.lv) ∧ Q (.int (ls.countP fun z => decide (z = l) : Nat)) H2 | _ => False) I1 q1
  rw [hs] at hA ⊢
  refine Calls.callWith_builtin (by rfl) (Calls.evalArgs_plain ?_)
  refine thn hA fun us s2 ⟨vs, H2, I2, r2, q⟩ => ?_
  match vs, r2, q with
  | [y], r2, q =>
  obtain ⟨a', ls, l, e2, e3, hq, q2⟩ := q
  cases e2
  subst e3
  obtain ⟨u, rfl, ru⟩ := r2.one
  obtain ⟨its, rv, pl, hz⟩ := I2.tuple hq
  refine PySem.SeqAt.count_tuple_data (xs := ls.map leafPy) (d := leafPy l) pl (reads_leaves rv) (reads_leaf ru) (leaves_plain ls) (leaf_plain l) (by rw [leaf_depth, Nat.min_zero]; omega) ?_
  have ec : ((ls.map leafPy).countP fun y => PyData.eqv y (leafPy l)) = ls.countP fun z => decide (z = l) := by
    rw [List.countP_map]
    congr 1
    funext z
    exact leaf_eqv z l
  rw [ec]
  exact ⟨.int _, H2, I2.tok _, ⟨_, rfl⟩, q2⟩
/-! ### l.remove(x) -/
def rRemL : V → List V → Hp → VK → Prop := fun x xs H Q => ∃ (a : Addr) (ls : List Leaf) (l : Leaf) (j : Nat), x = .ref a ∧ xs = [DS.lv l] ∧ H a = some (.lst (ls.map DS.lv)) ∧ (ls.findIdx? fun z => decide (z = l)) = some j ∧ Q .non (upd H a (.lst ((ls.eraseIdx j).map DS.lv)))
theorem mt_remL (hu : X.A.units + 2 < cLine) : MtM X "list.remove" rRemL := by
  intro pins s σ H x xs v us Q I rx rxs h
  obtain ⟨a, ls, l, j, rfl, rfl, hH, hj, q⟩ := h
  cases rx
  obtain ⟨u, rfl, ru⟩ := rxs.one
  obtain ⟨z, its, n, r, hl, e⟩ := I.lstM hH
  refine PySem.SeqAt.remove_list_data (xs := ls.map leafPy) (d := leafPy l) (j := j) ⟨_, e, rfl, n, rfl⟩ (reads_leaves r) (reads_leaf ru) (leaves_plain ls) (leaf_plain l) (by rw [leaf_depth, Nat.min_zero]; omega) ?_ (by rw [List.size_toArray]; omega) ?_
  · unfold PySem.SeqAt.dataPlace
    rw [List.findIdx?_map, ← hj]
    congr 1
    funext y
    exact leaf_eqv y l
  · refine ⟨.non, _, I.lset (t' := s.toks) (its' := its.eraseIdx j) hH e (by simp) ?_ ?_, rfl, q⟩
    · rw [← erase_map]
      exact r.eraseIdx j
    · rw [List.length_map] at z ⊢
      exact Nat.le_trans (List.length_eraseIdx_le ..) z
end
section
variable {c : Ct}
def cntD (x y : D) : T D := match x with
  | .tup ds => (match leavesD ds with
    | some ls => (match leafD y with | some l => .ret (.int (ls.countP fun z => decide (z = l) : Nat)) | none => .fail)
    | none => .fail)
  | _ => .fail
def fCnt (a b : Env → T D) : Env → T D := fOp cntD a b
theorem ev_cnt {to te : TE} {F G : Env → T D} (ha : EvX c to F) (hb : EvX c te G) : EvE c (tCnt c.K to te) (fCnt F G) := fun σ H P ρ n R o er ok Q q => by
  refine ha σ H P ρ n _ o er (T.ok_bind.mp ok) _ fun x H1 d n1 ok1 e1 o1 rx => ?_
  have isT : ∃ ds, d = .tup ds := by
    refine T.ok_any (T.ok_bind.mp ok1) fun y k z => ?_
    unfold cntD at z
    split at z
    · exact ⟨_, rfl⟩
    · exact z.elim
  obtain ⟨ds, rfl⟩ := isT
  obtain ⟨a, xs, rfl, hx, hr⟩ := rx.tup
  refine ⟨⟨a, xs, rfl, hx⟩, hb σ H1 P ρ n1 _ o1 (er.exu o.pu e1) (T.ok_bind.mp ok1) _ fun y H2 e n2 ok2 e2 o2 ry => ?_⟩
  unfold cntD at ok2
  simp only at ok2
  split at ok2
  · rename_i ls hls
    split at ok2
    · rename_i l hl
      obtain ⟨a', xs', h1, hx', hr'⟩ := (rx.exu o1.pu e2).tup
      cases h1
      have e := leaves_of hls hr'
      subst e
      rcases ry with r | ⟨_, _, _, _, _, z, _⟩
      · exact ⟨a, ls, l, rfl, leaf_of hl r, hx'.sq, q _ H2 _ n2 ok2 (e1.trans e2) o2 (.int _)⟩
      · subst z; cases hl
    · exact ok2.elim
  · exact ok2.elim
/-- x.remove(e), x a list of the frame's own; e sees all -/
def sRem (i : Nat) (f : Env → T D) : Env → T Out := fun ρ => (ownL ρ i).bind fun ds => (f (fullE ρ)).bind fun d => match leavesD ds with
  | some ls => (match leafD d with
    | some l => (match ls.findIdx? fun z => decide (z = l) with
      | some j => .ret (.nx (ρ.set i (.own (.lst (ds.eraseIdx j)))))
      | none => .fail)
    | none => .fail)
  | none => .fail
theorem es_rem {te : TE} {F : Env → T D} {i : Nat} (h : EvE c te F) : EvS c (tDrop (tBM c.K "list" rRemL (tVar i) (tCons te tNil))) (sRem i F) := fun P0 Fz H0 H σ ρ n Dn sr ok => by
  obtain ⟨ds, hd, ok1⟩ := ownL_ok (T.ok_bind.mp ok)
  obtain ⟨a, xs, h1, na, h3, h4⟩ := sr.lst hd
  refine ⟨.ref a, h1, .inl ⟨rfl, xs, .of h3⟩, h σ H P0 (fullE ρ) n _ sr.full.1 sr.full.2 (T.ok_bind.mp ok1) _ fun v H' d n' q e o r => ?_⟩
  split at q
  · rename_i ls hls
    split at q
    · rename_i l hl
      split at q
      · rename_i j hj
        have ev := leaf_of hl r
        have ex := leaves_of hls h4
        subst ev ex
        have hH' := e a _ na h3
        refine ⟨a, ls, l, j, rfl, rfl, hH', hj, q _ _ ?_⟩
        have rr := (h4.sub (Sub.msk sr.ok.pu e)).eraseIdx j
        rw [erase_map] at rr
        exact sr.mut e (sr.ok.exu o e) hd h1 rr
      · exact q.elim
    · exact q.elim
  · exact q.elim
end
end DL
end

section
set_option maxRecDepth 100000
set_option maxHeartbeats 4000000
/-! DLl: more statements: a list unpacked, stores of two, x = x + (l.pop(i),). -/
namespace DL
open PySem PySem.Spec PyProof.Rows L2 DR
section
variable {c : Ct} {P0 Fz : Addr → Prop} {H0 H H' : Hp} {σ : L2.St} {ρ : Env} {n n' : Nat}
def gLstD (f : List D → Env → T Env) : D → Env → T Env := fun d ρ => match d with
  | .lst ds => f ds ρ
  | _ => .fail
theorem gs_lst {gs : TGs} {fs : List D → Env → T Env} {m : Nat} (h : EvGSs c gs fs) (hm : ∀ ds ρ n R, (fs ds ρ).ok n R → ds.length = m) : EvGS c (gLst c.K m gs) (gLstD fs) := fun P0 Fz H0 H σ ρ n R v d sr r ok Q q => by
  unfold gLstD at ok
  split at ok
  · cases r with
    | lst h1 h2 => exact ⟨_, _, rfl, SqL.of (Sub.of_msk _ _ h1), by rw [h2.length]; exact hm _ _ _ _ ok, h P0 Fz H0 H σ ρ n R _ _ sr h2 ok Q q⟩
  · exact ok.elim
/-! ### stores of two -/
theorem EnvR.more {P : Addr → Prop} {p : Addr} (er : EnvR c P H σ ρ) (hu : P c.u) (e : ExU c.u H H') (hn : H p = none) : EnvR c (fun a => P a ∨ a = p) H' σ ρ := by
  have sub : Sub (Msk P H) (Msk (fun a => P a ∨ a = p) H') := fun a w h => by
    obtain ⟨h1, h2⟩ := msk_some.mp h
    have nap : a ≠ p := fun z => by rw [z, hn] at h2; cases h2
    exact msk_some.mpr ⟨fun z => z.elim h1 nap, e a w (fun z => h1 (z ▸ hu)) h2⟩
  refine ⟨er.len, fun i s q => ?_⟩
  have z := er.at_ i s q
  cases s with
  | no => trivial
  | me => exact z
  | val d => obtain ⟨v, h1, h2⟩ := z; exact ⟨v, h1, h2.sub sub⟩
  | own d =>
    obtain ⟨a, h1, h2, h3, h4⟩ := z
    exact ⟨a, h1, .inl h2, h3, h4.move h3 sub (fun w hb => e a w h3 hb) (fun b w _ nb _ hb => e b w nb hb) fun b hb _ => .inl hb⟩
theorem pow_setOwn {i : Nat} {p : Addr} {d : D} : ∀ a, Pow P0 (σ.set i (some (.ref p))) (ρ.set i (.own d)) a → Pow P0 σ ρ a ∨ a = p := fun a h => by
  rcases h with h | ⟨j, e', h1, h2⟩
  · exact .inl (.inl h)
  · by_cases hj : i = j
    · subst hj
      have z := (set_at h2).1
      injection z with z
      injection z with z
      exact .inr z
    · obtain ⟨z1, z2⟩ := set_own hj h1 h2
      exact .inl (.inr ⟨j, e', z1, z2⟩)
def okI (i : Nat) (ρ : Env) (m : T Out) : T Out := match decide (i < ρ.length) with | true => m | false => .fail
theorem okI_ok {i : Nat} {m : T Out} {R : Out → Nat → Prop} (h : (okI i ρ m).ok n R) : i < ρ.length ∧ m.ok n R := by
  unfold okI at h
  split at h
  · rename_i hb; exact ⟨of_decide_eq_true hb, h⟩
  · exact h.elim
def sParVV (i j : Nat) (a b : Env → T D) : Env → T Out := fun ρ => (a ρ).bind fun x => (b ρ).bind fun y => .ret (.nx ((ρ.set i (.val x)).set j (.val y)))
def sParLV (i j : Nat) (a : Env → T (List D)) (b : Env → T D) : Env → T Out := fun ρ => (a ρ).bind fun x => (b ρ).bind fun y => okI i ρ (.ret (.nx ((ρ.set i (.own (.lst x))).set j (.val y))))
def sParVL (i j : Nat) (a : Env → T D) (b : Env → T (List D)) : Env → T Out := fun ρ => (a ρ).bind fun x => (b ρ).bind fun y => okI j ρ (.ret (.nx ((ρ.set i (.val x)).set j (.own (.lst y)))))
def sParLL (i j : Nat) (a b : Env → T (List D)) : Env → T Out := fun ρ => (a ρ).bind fun x => (b ρ).bind fun y => okI i ρ (okI j ρ (.ret (.nx ((ρ.set i (.own (.lst x))).set j (.own (.lst y))))))
theorem es_parVV {te tf : TE} {F G : Env → T D} {i j : Nat} (h : EvE c te F) (h' : EvE c tf G) : EvS c (tPar i j (tCons te (tCons tf tNil))) (sParVV i j F G) := fun P0 Fz H0 H σ ρ n Dn sr ok =>
  h σ H _ ρ n _ sr.ok sr.env (T.ok_bind.mp ok) _ fun v H1 d n1 ok1 e1 o1 r1 => h' σ H1 _ ρ n1 _ o1 (sr.env.exu sr.ok.pu e1) (T.ok_bind.mp ok1) _ fun w H2 d2 n2 ok2 e2 o2 r2 => by
    refine ⟨v, w, rfl, ok2 _ _ ?_⟩
    have s1 := sr.setVal e1 o1 r1 i
    exact s1.setVal e2 (o2.less pow_setVal s1.ok.pu) (r2.sub (Sub.less pow_setVal)) j
theorem es_parLV {te tf : TE} {F : Env → T (List D)} {G : Env → T D} {i j : Nat} (h : EvL c te F) (h' : EvE c tf G) : EvS c (tPar i j (tCons te (tCons tf tNil))) (sParLV i j F G) := fun P0 Fz H0 H σ ρ n Dn sr ok =>
  h σ H _ ρ n _ sr.ok sr.env (T.ok_bind.mp ok) _ fun p xs H1 ds n1 ok1 e1 o1 hn hp r1 => by
    refine h' σ H1 _ ρ n1 _ (o1.more (p := p) (by rw [hp]; simp)) (EnvR.more sr.env sr.ok.pu e1 hn) (T.ok_bind.mp ok1) _ fun w H2 d2 n2 ok2 e2 o2 r2 => ?_
    obtain ⟨hi, ok3⟩ := okI_ok ok2
    refine ⟨.ref p, w, rfl, ok3 _ _ ?_⟩
    have s1 := sr.setOwn e1 o1 hn hp r1 hi
    exact s1.setVal e2 (o2.less pow_setOwn s1.ok.pu) (r2.sub (Sub.less pow_setOwn)) j
theorem es_parVL {te tf : TE} {F : Env → T D} {G : Env → T (List D)} {i j : Nat} (h : EvE c te F) (h' : EvL c tf G) : EvS c (tPar i j (tCons te (tCons tf tNil))) (sParVL i j F G) := fun P0 Fz H0 H σ ρ n Dn sr ok =>
  h σ H _ ρ n _ sr.ok sr.env (T.ok_bind.mp ok) _ fun v H1 d n1 ok1 e1 o1 r1 => h' σ H1 _ ρ n1 _ o1 (sr.env.exu sr.ok.pu e1) (T.ok_bind.mp ok1) _ fun p xs H2 ds n2 ok2 e2 o2 hn hp r2 => by
    obtain ⟨hj, ok3⟩ := okI_ok ok2
    refine ⟨v, .ref p, rfl, ok3 _ _ ?_⟩
    have s1 := sr.setVal e1 o1 r1 i
    exact s1.setOwn e2 (o2.less pow_setVal s1.ok.pu) hn hp (r2.sub (Sub.less fun a z => z.imp (pow_setVal a) id)) (by rw [List.length_set]; exact hj)
theorem es_parLL {te tf : TE} {F G : Env → T (List D)} {i j : Nat} (h : EvL c te F) (h' : EvL c tf G) : EvS c (tPar i j (tCons te (tCons tf tNil))) (sParLL i j F G) := fun P0 Fz H0 H σ ρ n Dn sr ok =>
  h σ H _ ρ n _ sr.ok sr.env (T.ok_bind.mp ok) _ fun p xs H1 ds n1 ok1 e1 o1 hn hp r1 => by
    refine h' σ H1 _ ρ n1 _ (o1.more (p := p) (by rw [hp]; simp)) (EnvR.more sr.env sr.ok.pu e1 hn) (T.ok_bind.mp ok1) _ fun p2 ys H2 ds2 n2 ok2 e2 o2 hn2 hp2 r2 => ?_
    obtain ⟨hi, ok3⟩ := okI_ok ok2
    obtain ⟨hj, ok3⟩ := okI_ok ok3
    refine ⟨.ref p, .ref p2, rfl, ok3 _ _ ?_⟩
    have s1 := sr.setOwn e1 o1 hn hp r1 hi
    exact s1.setOwn e2 (o2.less pow_setOwn s1.ok.pu) hn2 hp2 (r2.sub (Sub.less fun a z => z.imp (pow_setOwn a) id)) (by rw [List.length_set]; exact hj)
/-! ### x = x + (l.pop(e),) -/
theorem pow_mut {i : Nat} {d d' : D} (h : ρ[i]? = some (.own d)) (a : Addr) : Pow P0 σ (ρ.set i (.own d')) a ↔ Pow P0 σ ρ a := by
  have hi : i < ρ.length := (List.getElem?_eq_some_iff.mp h).1
  constructor
  · rintro (z | ⟨j, e, h1, h2⟩)
    · exact .inl z
    · by_cases hj : i = j
      · subst hj; exact .inr ⟨i, d, h, h2⟩
      · rw [List.getElem?_set_ne hj] at h1; exact .inr ⟨j, e, h1, h2⟩
  · rintro (z | ⟨j, e, h1, h2⟩)
    · exact .inl z
    · by_cases hj : i = j
      · subst hj; exact .inr ⟨i, d', List.getElem?_set_self hi, h2⟩
      · exact .inr ⟨j, e, by rw [List.getElem?_set_ne hj]; exact h1, h2⟩
def sPopCat (x l : Nat) (f : Env → T D) : Env → T Out := fun ρ => match ρ[x]? with
  | some (.val (.tup as)) => (ownL ρ l).bind fun ds => (f ρ).bind fun e => match e with
    | .int i => (match decide (0 ≤ i ∧ i < 1000000 ∧ as.length + 1 ≤ capD) with
      | true => (match ds[i.toNat]? with
        | some d => .ret (.nx ((ρ.set l (.own (.lst (ds.eraseIdx i.toNat)))).set x (.val (.tup (as ++ [d])))))
        | none => .fail)
      | false => .fail)
    | _ => .fail
  | _ => .fail
theorem es_popCat {te : TE} {F : Env → T D} {x l : Nat} (h : EvE c te F) :
    EvS c (tAsg (tOp (rAddD c.K) (tVar x) (tTupN (tCons (tBM c.K "list" rPopAt (tVar l) (tCons te tNil)) tNil))) (gName x)) (sPopCat x l F) := fun P0 Fz H0 H σ ρ n Dn sr ok => by
  unfold sPopCat at ok
  split at ok
  · rename_i as hx
    obtain ⟨ds, hd, ok1⟩ := ownL_ok (T.ok_bind.mp ok)
    obtain ⟨a, xs, h1, na, h3, h4⟩ := sr.lst hd
    obtain ⟨vx, g1, g2⟩ := sr.env.at_ x _ hx
    refine ⟨vx, g1, .ref a, h1, .inl ⟨rfl, xs, .of h3⟩, h σ H _ ρ n _ sr.ok sr.env (T.ok_bind.mp ok1) _ fun v H1 d n1 q e1 o1 r1 => ?_⟩
    split at q
    · rename_i i
      split at q
      · rename_i hb
        obtain ⟨b1, b2, b3⟩ := of_decide_eq_true hb
        split at q
        · rename_i dv hdv
          cases r1
          have h4' := h4.sub (Sub.msk sr.ok.pu e1)
          obtain ⟨y, hy, ry⟩ := h4'.get hdv
          have hlt : i.toNat < xs.length := (List.getElem?_eq_some_iff.mp hy).1
          have hk : seqIndex? i xs.length = some i.toNat := by
            unfold seqIndex?
            have n0 : ¬ i < 0 := by omega
            have n1 : i < (xs.length : Int) := by omega
            simp only [if_neg n0]
            rw [if_pos (by simp only [Bool.and_eq_true, decide_eq_true_eq]; exact ⟨b1, n1⟩)]
          refine ⟨a, xs, i, i.toNat, y, rfl, rfl, e1 a _ na h3, by omega, by omega, hk, hy, by show 1 ≤ sizeLine; decide, fun ob p hob hp => ?_⟩
          have sm := sr.mut e1 o1 hd h1 (h4'.eraseIdx i.toNat)
          have pa : Pow P0 σ ρ a := .inr ⟨l, _, hd, h1⟩
          have sub2 : Sub (Msk (Pow P0 σ ρ) H1) (Msk (Pow P0 σ (ρ.set l (.own (.lst (ds.eraseIdx i.toNat))))) (upd H1 a (.lst (xs.eraseIdx i.toNat)))) := fun b w hb => by
            obtain ⟨b1, b2⟩ := msk_some.mp hb
            have nb : b ≠ a := fun z => b1 (z ▸ pa)
            exact msk_some.mpr ⟨fun z => b1 ((pow_mut hd b).mp z), by rw [upd_ne nb]; exact b2⟩
          have e3 := ExU.new (u := c.u) (o := HO.frz ob (.tup [y])) hp
          have o3 := sm.ok.new (w := HO.frz ob (.tup [y])) hp
          have sub3 := Sub.trans sub2 (Sub.msk sm.ok.pu e3)
          have r1 := rep_newT sm.ok hob hp (Reps.one (ry.sub sub2))
          have gx := g2.sub (Sub.trans (Sub.msk sr.ok.pu e1) sub3)
          cases gx with
          | tup k1 k2 =>
            have l2 := k2.length
            refine .inr (.inl ⟨_, p, _, [y], rfl, rfl, sub_t Sub.of_msk k1.sq, .inl (.inr ⟨ob, upd_same⟩), cap_le (by show _ + 1 ≤ _; omega), fun e0 => ?_, fun _ z => absurd z (List.cons_ne_nil _ _), fun _ _ ob2 p2 hob2 hp2 => ?_⟩)
            · subst e0
              have : as = [] := by cases as with | nil => rfl | cons _ _ => simp at l2
              subst this
              exact q _ _ (sm.setVal e3 o3 r1 x)
            · have r2 : Reps c (Msk (Pow P0 σ (ρ.set l (.own (.lst (ds.eraseIdx i.toNat))))) (upd (upd H1 a (.lst (xs.eraseIdx i.toNat))) p (.frz ob (.tup [y])))) [y] [dv] := .one (ry.sub sub3)
              exact q _ _ (sm.setVal (e3.trans (ExU.new hp2)) (o3.new hp2) (rep_newT o3 hob2 hp2 (k2.append r2)) x)
        · exact q.elim
      · exact q.elim
    · exact q.elim
  · exact ok.elim
end
end DL
end

section
set_option maxRecDepth 100000
set_option maxHeartbeats 4000000
/-! DLm: what a written program gives: defs, properties, classes. -/
namespace DL
open PySem PySem.Spec PyProof.Rows L2 DR
/-- a property of the class at C -/
structure Pr (P : Program) (w : World) (K : PySem.W.Frag) (mg : Str → Option Value) (base : Heap) (n : Nat) (C : Addr) (f : Str) (sp : Sp) : Prop where
  sc : SlX.SCls K C
  ex : ∃ p g, PySem.W.findIn K (.ref C) f = some (some (.ref p)) ∧ PySem.W.specialIn K (.ref p) "__get__" = some (some (.builtin "property.__get__")) ∧ PySem.W.takesIn K (.ref p) = some true ∧
    (∃ rest, PySem.W.recIn K p "property" = some (.ref g :: rest)) ∧ FnR P w K mg base C8.CX0 n g sp
theorem pe_pr {X : Cx} {e : Expr} {f : Str} {pos : Pos} {ta : TE} {C : Addr} {n j : Nat} {sp : Sp} (h : Pr X.prog X.w X.K X.mg X.base n C f sp) (he : PE X e ta) (hr : Room j X.A) (hk : n + 1 ≤ j)
    (hb : attributeBase e f X.env (eval e X.env) = eval e X.env := by rfl) : PE X (.Attribute e f pos) (SlX.tPropSl C sp C8.E0 ta) := by
  obtain ⟨p, g, h1, h2, h3, h4, F⟩ := h.ex
  exact SlX.pe_propSl he h.sc h1 h2 h3 h4 F (hr.mono hk) (fun _ _ _ _ z => z.elim) hb
section
variable {P : Program} {w : World} {K : PySem.W.Frag} {mg : Str → Option Value} {base : Heap} {cls : Nat → Addr}
theorem pr_def {x qual : Str} {C : Addr} {st : Stmt} {p g : Addr} {fd : FuncData} {N ps : List Str} {k : Nat} {B : Env → T Out} (sc : SlX.SCls K C)
    (h1 : PySem.W.findIn K (.ref C) x = some (some (.ref p))) (h2 : PySem.W.specialIn K (.ref p) "__get__" = some (some (.builtin "property.__get__"))) (h3 : PySem.W.takesIn K (.ref p) = some true) (h4 : ∃ rest, PySem.W.recIn K p "property" = some (.ref g :: rest))
    (F : C8.Fun K x qual st g fd) (b : Binds K fd ps []) (S : FnScope N ps (C8.fnScope st))
    (hbody : ∀ (cdv : Value) (A : Around) (outer : List PySem.Env) (s : Shared) (H : Hp) (E : XK), Room k (A.deeper (envOfC qual (C8.fnScope st) s.heap.objs.size g cdv)) →
      ∃ t, PSs (cxOf C8.CX0 P w K mg base N qual (C8.fnScope st) g cdv A outer s H E).nox (C8.fnBody st) t ∧ ∀ u me, EvS ⟨K, u, cls, me⟩ t B) : Pr P w K mg base (k + 1) C x (spF K cls (runDef ps.length (N.length - ps.length) B)) := by
  refine ⟨sc, p, g, h1, h2, h3, h4, ?_⟩
  have F1 : FnOk P w K mg base C8.CX0 (k + 1) g fd ps (spF K cls (runDef ps.length (N.length - ps.length) B)) := C8.fn0 F S (fun _ _ _ _ h => run_len h) fun cdv A outer s H vs Q E hr h => by
    obtain ⟨t, h1, h2⟩ := hbody cdv A outer s H E hr
    exact ⟨t, h1, run_body h2 h⟩
  exact (F1.raw b .nil).imp fun vs H Q E h => by rw [List.append_nil]; exact h
/-- a def of the module, as the top has written it -/
def DefW (K : PySem.W.Frag) (mg : Str → Option Value) (x : Str) (st : Stmt) (ps : List Str) : Prop := ∃ f fd, C8.Def K mg x st f fd ∧ Binds K fd ps []
/-- a property -/
def PrW (K : PySem.W.Frag) (C : Addr) (x qual : Str) (st : Stmt) : Prop := ∃ p g fd, PySem.W.findIn K (.ref C) x = some (some (.ref p)) ∧ PySem.W.specialIn K (.ref p) "__get__" = some (some (.builtin "property.__get__")) ∧ PySem.W.takesIn K (.ref p) = some true ∧
  (∃ rest, PySem.W.recIn K p "property" = some (.ref g :: rest)) ∧ C8.Fun K x qual st g fd ∧ Binds K fd ["self"] []
/-- a class -/
def MkW (K : PySem.W.Frag) (mg : Str → Option Value) (C : Addr) (x qual : Str) (st : Stmt) (ps : List Str) : Prop := ∃ f fd, Mk K C f ∧ mg x = some (.ref C) ∧ C8.Fun K "__init__" qual st f fd ∧ Binds K fd ps []
/-- a module's constant -/
def GlW (K : PySem.W.Frag) (mg : Str → Option Value) (x : Str) (v : V) (d : D) : Prop := (∃ u, mg x = some u ∧ RelV v u) ∧ ∀ c : Ct, c.K = K → ∀ G, Rep c G v d
theorem def_of {x : Str} {st : Stmt} {N ps : List Str} {k : Nat} {B : Env → T Out} (W : DefW K mg x st ps) (S : FnScope N ps (C8.fnScope st))
    (hbody : ∀ (f : Addr) (cdv : Value) (A : Around) (outer : List PySem.Env) (s : Shared) (H : Hp) (E : XK), Room k (A.deeper (envOfC x (C8.fnScope st) s.heap.objs.size f cdv)) →
      ∃ t, PSs (cxOf C8.CX0 P w K mg base N x (C8.fnScope st) f cdv A outer s H E).nox (C8.fnBody st) t ∧ ∀ u me, EvS ⟨K, u, cls, me⟩ t B) : C8.Cal P w K mg base (k + 1) x (spF K cls (runDef ps.length (N.length - ps.length) B)) [] := by
  obtain ⟨f, fd, F, b⟩ := W
  exact cal_def F b S (hbody f)
theorem pr_of {x qual : Str} {C : Addr} {st : Stmt} {N : List Str} {k : Nat} {B : Env → T Out} (sc : SlX.SCls K C) (W : PrW K C x qual st) (S : FnScope N ["self"] (C8.fnScope st))
    (hbody : ∀ (f : Addr) (cdv : Value) (A : Around) (outer : List PySem.Env) (s : Shared) (H : Hp) (E : XK), Room k (A.deeper (envOfC qual (C8.fnScope st) s.heap.objs.size f cdv)) →
      ∃ t, PSs (cxOf C8.CX0 P w K mg base N qual (C8.fnScope st) f cdv A outer s H E).nox (C8.fnBody st) t ∧ ∀ u me, EvS ⟨K, u, cls, me⟩ t B) : Pr P w K mg base (k + 1) C x (spF K cls (runDef 1 (N.length - 1) B)) := by
  obtain ⟨p, g, fd, h1, h2, h3, h4, F, b⟩ := W
  exact pr_def sc h1 h2 h3 h4 F b S (hbody g)
theorem mk_of {x qual : Str} {kk : Nat} {st : Stmt} {N ps : List Str} {k np : Nat} {B : Env → T (List D)} (W : MkW K mg (cls kk) x qual st ps) (S : FnScope N ps (C8.fnScope st)) (hps : ps.length = np + 1)
    (hbody : ∀ (f : Addr) (cdv : Value) (A : Around) (outer : List PySem.Env) (s : Shared) (H : Hp) (E : XK), Room k (A.deeper (envOfC qual (C8.fnScope st) s.heap.objs.size f cdv)) →
      ∃ t, PSs (cxOf C8.CX0 P w K mg base N qual (C8.fnScope st) f cdv A outer s H E).nox (C8.fnBody st) t ∧ ∀ u me, EvN ⟨K, u, cls, me⟩ kk t B) : C8.Mak P w K mg base (k + 1) x (cls kk) (spI K cls kk (runInit np (N.length - (np + 1)) B)) [] := by
  obtain ⟨f, fd, M, hm, F, b⟩ := W
  exact mak_def M hm F b S hps (hbody f)
end
theorem hu64 {k : Nat} {A : Around} (hr : Room k A) : A.units + 64 < cLine := by have := hr.un; omega
theorem hu66 {k : Nat} {A : Around} (hr : Room k A) : A.units + 66 < cLine := by have := hr.un; omega
theorem hu02 {k : Nat} {A : Around} (hr : Room k A) : A.units + 2 < cLine := by have := hr.un; omega
theorem bt_len : bootBuiltins "len" = some (.builtin "len") := by decide +kernel
theorem bt_sum : bootBuiltins "sum" = some (.builtin "sum") := by decide +kernel
theorem bt_all : bootBuiltins "all" = some (.builtin "all") := by decide +kernel
theorem bt_any : bootBuiltins "any" = some (.builtin "any") := by decide +kernel
theorem bt_abs : bootBuiltins "abs" = some (.builtin "abs") := by decide +kernel
theorem bt_max : bootBuiltins "max" = some (.builtin "max") := by decide +kernel
theorem bt_min : bootBuiltins "min" = some (.builtin "min") := by decide +kernel
theorem bt_sorted : bootBuiltins "sorted" = some (.builtin "sorted") := by decide +kernel
theorem bt_isinstance : bootBuiltins "isinstance" = some (.builtin "isinstance") := by decide +kernel
theorem bt_int : bootBuiltins "int" = some (.type "int") := by decide +kernel
theorem bt_list : bootBuiltins "list" = some (.type "list") := by decide +kernel
theorem bt_tuple : bootBuiltins "tuple" = some (.type "tuple") := by decide +kernel
theorem bt_set : bootBuiltins "set" = some (.type "set") := by decide +kernel
theorem bt_str : bootBuiltins "str" = some (.type "str") := by decide +kernel
theorem bt_bool : bootBuiltins "bool" = some (.type "bool") := by decide +kernel
theorem bt_dict : bootBuiltins "dict" = some (.type "dict") := by decide +kernel
theorem bt_range : bootBuiltins "range" = some (.type "range") := by decide +kernel
theorem bt_zip : bootBuiltins "zip" = some (.type "zip") := by decide +kernel
theorem bt_enumerate : bootBuiltins "enumerate" = some (.type "enumerate") := by decide +kernel
end DL
end

section
set_option maxRecDepth 100000
set_option maxHeartbeats 4000000
/-! DZa: next of a zip whose tuples are kept, over iterators of any kind. -/
namespace DZ
open PySem PySem.Spec PyProof.Rows
section
variable {prog : Program} {w : World} {A : Around} {E : Value → Shared → Prop} {s : Shared} {z TI TO i1 i2 T : Addr} {fp1 fp2 : List Addr} {n1 n2 i : Nat} {P1 P2 : Nat → Value → Prop} {St1 St2 : Nat → Heap → Prop} {f : Bool} {oT : Obj}
theorem zip_is_held {h : Heap} (hz : IsZip h z TI TO (rawInt T)) : IsZipHeld h z TI TO T false := hz
theorem zipH_next_item {Q : Value → Shared → Prop} (S : ZipSep2 z TI TO i1 i2 fp1 fp2) (D1 : Draws prog w A i1 fp1 n1 P1 St1) (D2 : Draws prog w A i2 fp2 n2 P2 St2)
    (hz : IsZipHeld s.heap z TI TO T f) (hT : s.heap.get? T = some oT) (hTI : IsTupOf2 s.heap TI (.ref i1) (.ref i2)) (st1 : St1 i s.heap) (st2 : St2 i s.heap) (hlt1 : i < n1) (hlt2 : i < n2)
    (hQ : ∀ x1 x2 h' tk, P1 i x1 → P2 i x2 → IsZipHeld h' z TI TO T true → St1 (i + 1) h' → St2 (i + 1) h' → IsTupOf2 h' s.heap.objs.size x1 x2 → h'.objs.size = s.heap.objs.size + 1 →
      (∀ c o, c ≠ z → c ≠ i1 → c ≠ i2 → s.heap.get? c = some o → h'.get? c = some o) → Q (.ref s.heap.objs.size) { s with heap := h', toks := tk }) :
    wpAny (model prog w) A (Builtin.«zip.__next__» ⟨[.ref z], []⟩) (fun fin s' => ∃ v, fin = .done (.ret v) ∧ Q v s') E s := by
  obtain ⟨hp, g, d, tk0, os⟩ := s
  show wpAny _ _ (field (.ref z) 2 >>= _) _ _ _
  refine wpAny_bind (wpAny_field hz rfl (x := .bool false) rfl ?_)
  show wpAny _ _ (field (.ref z) 3 >>= _) _ _ _
  refine wpAny_bind (wpAny_field hz rfl (x := .ref TI) rfl ?_)
  refine wpAny_bind (wpAny_seqItems hTI rfl ?_)
  show wpAny _ _ (Builtin.SmallTypes.ownedTupleIsFree (.ref z) >>= _) _ _ _
  refine wpAny_bind (wpAny_tupleHeld_zip hz hT fun h₁ hz₁ hs₁ => ?_)
  replace hs₁ : Heap.SameBut z hp h₁ := hs₁
  simp only [Bool.false_eq_true, if_false]
  refine wpAny_bind ?_
  rw [← Array.forIn_toList]
  simp only [List.forIn_cons, List.forIn_nil]
  refine wpAny_bind (wpAny_bind (wpAny_holding ?_))
  show wpAny _ _ (Builtin.SmallTypes.nextOf (.ref i1) >>= _) _ _ ⟨h₁, g, d, tk0, os⟩
  refine wpAny_bind (D1.item i _ _ _ hlt1 (D1.over st1 hs₁ S.zf1) fun x1 p1 tk1 hx1 sn1 hp1 => wpAny_pure ?_)
  replace hp1 : Heap.SameBut i1 h₁ p1 := hp1
  refine wpAny_pure ?_
  refine wpAny_bind (wpAny_bind (wpAny_holding ?_))
  show wpAny _ _ (Builtin.SmallTypes.nextOf (.ref i2) >>= _) _ _ ⟨p1, g, d, tk1, os⟩
  refine wpAny_bind (D2.item i _ _ _ hlt2 (D2.over (D2.over st2 hs₁ S.zf2) hp1 S.sep1_2) fun x2 p2 tk2 hx2 sn2 hp2 => wpAny_pure ?_)
  replace hp2 : Heap.SameBut i2 p1 p2 := hp2
  refine wpAny_pure (wpAny_pure ?_)
  show wpAny _ _ (newTuple [x1, x2] >>= _) _ _ ⟨p2, g, d, tk2, os⟩
  refine wpAny_bind (wpAny_newTuple ?_)
  have hsz : p2.objs.size = hp.objs.size := by rw [hp2.1, hp1.1, hs₁.1]
  have hz₃ : IsZipHeld p2 z TI TO T true := hp2.extBut _ _ S.zi2 (hp1.extBut _ _ S.zi1 hz₁)
  have hk : ∀ c o, c ≠ z → c ≠ i1 → c ≠ i2 → hp.get? c = some o → p2.get? c = some o := fun c o c1 c2 c3 e => hp2.extBut _ _ c3 (hp1.extBut _ _ c2 (hs₁.extBut _ _ c1 e))
  refine wpAny_pure ⟨_, rfl, ?_⟩
  show Q (.ref p2.objs.size) _
  have hq : IsTupOf2 (p2.push { cls := .type "tuple", data := .seq #[x1, x2] }) p2.objs.size x1 x2 := Heap.get?_push_size _ rfl
  have hz4 : (p2.push { cls := .type "tuple", data := .seq #[x1, x2] }).objs.size = p2.objs.size + 1 := Heap.size_push ..
  rw [hsz] at hq hz4 ⊢
  exact hQ x1 x2 _ tk2 hx1 hx2 (Heap.get?_push_of_some _ hz₃) (D1.frame _ _ _ (D1.over sn1 hp2 S.sep2_1) fun b hb o e => Heap.get?_push_of_some _ e) (D2.frame _ _ _ sn2 fun b hb o e => Heap.get?_push_of_some _ e) hq hz4 fun c o c1 c2 c3 e => Heap.get?_push_of_some _ (hk c o c1 c2 c3 e)
theorem zipH_next_end {Q : Fin → Shared → Prop} (S : ZipSep2 z TI TO i1 i2 fp1 fp2) (D1 : Draws prog w A i1 fp1 n1 P1 St1) (D2 : Draws prog w A i2 fp2 n2 P2 St2)
    (hz : IsZipHeld s.heap z TI TO T f) (hT : s.heap.get? T = some oT) (hTI : IsTupOf2 s.heap TI (.ref i1) (.ref i2)) (st1 : St1 i s.heap) (st2 : St2 i s.heap) (hle1 : i ≤ n1) (hle2 : i ≤ n2) (hend : i = n1 ∨ i = n2)
    (hE : ∀ h' tk e, (∀ c o, c ≠ z → c ≠ i1 → c ≠ i2 → s.heap.get? c = some o → h'.get? c = some o) → (∃ o, h'.get? e = some o ∧ o.cls = .type "StopIteration") → E (.ref e) { s with heap := h', toks := tk }) :
    wpAny (model prog w) A (Builtin.«zip.__next__» ⟨[.ref z], []⟩) Q E s := by
  obtain ⟨hp, g, d, tk0, os⟩ := s
  show wpAny _ _ (field (.ref z) 2 >>= _) _ _ _
  refine wpAny_bind (wpAny_field hz rfl (x := .bool false) rfl ?_)
  show wpAny _ _ (field (.ref z) 3 >>= _) _ _ _
  refine wpAny_bind (wpAny_field hz rfl (x := .ref TI) rfl ?_)
  refine wpAny_bind (wpAny_seqItems hTI rfl ?_)
  show wpAny _ _ (Builtin.SmallTypes.ownedTupleIsFree (.ref z) >>= _) _ _ _
  refine wpAny_bind (wpAny_tupleHeld_zip hz hT fun h₁ hz₁ hs₁ => ?_)
  replace hs₁ : Heap.SameBut z hp h₁ := hs₁
  simp only [Bool.false_eq_true, if_false]
  refine wpAny_bind ?_
  rw [← Array.forIn_toList]
  simp only [List.forIn_cons, List.forIn_nil]
  refine wpAny_bind (wpAny_bind (wpAny_holding ?_))
  show wpAny _ _ (Builtin.SmallTypes.nextOf (.ref i1) >>= _) _ _ ⟨h₁, g, d, tk0, os⟩
  by_cases hlt1 : i < n1
  · refine wpAny_bind (D1.item i _ _ _ hlt1 (D1.over st1 hs₁ S.zf1) fun x1 p1 tk1 hx1 sn1 hp1 => wpAny_pure ?_)
    replace hp1 : Heap.SameBut i1 h₁ p1 := hp1
    have hi2 : i = n2 := by omega
    refine wpAny_pure ?_
    refine wpAny_bind (wpAny_bind (wpAny_holding ?_))
    show wpAny _ _ (Builtin.SmallTypes.nextOf (.ref i2) >>= _) _ _ ⟨p1, g, d, tk1, os⟩
    refine wpAny_bind (D2.done ⟨p1, g, d, tk1, os⟩ _ _ (by rw [← hi2]; exact D2.over (D2.over st2 hs₁ S.zf2) hp1 S.sep1_2) fun q e hq he => ?_)
    replace hq : Heap.ExtBut i2 p1 q := hq
    exact hE q tk1 e (fun c o cz c1 c2 x => hq _ _ c2 (hp1.extBut _ _ c1 (hs₁.extBut _ _ cz x))) he
  · have hi1 : i = n1 := by omega
    refine wpAny_bind (D1.done ⟨h₁, g, d, tk0, os⟩ _ _ (by rw [← hi1]; exact D1.over st1 hs₁ S.zf1) fun q e hq he => ?_)
    replace hq : Heap.ExtBut i1 h₁ q := hq
    exact hE q tk0 e (fun c o cz c1 c2 x => hq _ _ c1 (hs₁.extBut _ _ cz x)) he
theorem pyNext_zipH_item {Q : Option Value → Shared → Prop} (S : ZipSep2 z TI TO i1 i2 fp1 fp2) (D1 : Draws prog w A.in1 i1 fp1 n1 P1 St1) (D2 : Draws prog w A.in1 i2 fp2 n2 P2 St2)
    (hz : IsZipHeld s.heap z TI TO T f) (hT : s.heap.get? T = some oT) (hTI : IsTupOf2 s.heap TI (.ref i1) (.ref i2)) (st1 : St1 i s.heap) (st2 : St2 i s.heap) (hlt1 : i < n1) (hlt2 : i < n2)
    (hQ : ∀ x1 x2 h' tk, P1 i x1 → P2 i x2 → IsZipHeld h' z TI TO T true → St1 (i + 1) h' → St2 (i + 1) h' → IsTupOf2 h' s.heap.objs.size x1 x2 → h'.objs.size = s.heap.objs.size + 1 →
      (∀ c o, c ≠ z → c ≠ i1 → c ≠ i2 → s.heap.get? c = some o → h'.get? c = some o) → Q (some (.ref s.heap.objs.size)) { s with heap := h', toks := tk }) :
    wpAny (model prog w) A (pyNext (.ref z)) Q E s := by
  have hTy : s.TypeIs (.ref z) "zip" := ⟨_, hz, rfl⟩
  unfold pyNext
  exact wpAny_bind (wpAny_attempt (wpAny_callSpecial?_slot (name := Str.ofString "__next__") hTy F.slot_zip_next
    (wpAny_call_entry F.slot_zip_next hTy F.entry_zip_next
      (zipH_next_item S D1 D2 hz hT hTI st1 st2 hlt1 hlt2 fun x1 x2 h' tk y1 y2 b1 d1 d2 b5 b6 b7 => wpAny_pure (hQ x1 x2 h' tk y1 y2 b1 d1 d2 b5 b6 b7)) (F.args_zip_next_1 _))))
theorem pyNext_zipH_end {Q : Option Value → Shared → Prop} (S : ZipSep2 z TI TO i1 i2 fp1 fp2) (D1 : Draws prog w A.in1 i1 fp1 n1 P1 St1) (D2 : Draws prog w A.in1 i2 fp2 n2 P2 St2)
    (hz : IsZipHeld s.heap z TI TO T f) (hT : s.heap.get? T = some oT) (hTI : IsTupOf2 s.heap TI (.ref i1) (.ref i2)) (st1 : St1 i s.heap) (st2 : St2 i s.heap) (hle1 : i ≤ n1) (hle2 : i ≤ n2) (hend : i = n1 ∨ i = n2)
    (hQ : ∀ h' tk, (∀ c o, c ≠ z → c ≠ i1 → c ≠ i2 → s.heap.get? c = some o → h'.get? c = some o) → Q none { s with heap := h', toks := tk }) : wpAny (model prog w) A (pyNext (.ref z)) Q E s := by
  have hTy : s.TypeIs (.ref z) "zip" := ⟨_, hz, rfl⟩
  unfold pyNext
  refine wpAny_bind (wpAny_attempt (wpAny_callSpecial?_slot (name := Str.ofString "__next__") hTy F.slot_zip_next
    (wpAny_call_entry F.slot_zip_next hTy F.entry_zip_next (zipH_next_end S D1 D2 hz hT hTI st1 st2 hle1 hle2 hend fun h' tk e hk he => ?_) (F.args_zip_next_1 _))))
  obtain ⟨o, ho, hc⟩ := he
  refine wpAny_bind (wpAny_isInstance (T := "StopIteration") (b := true) ⟨o, ho, hc⟩ isSubtype_stop ?_)
  exact wpAny_pure (hQ _ _ hk)
end
end DZ
end

section
set_option maxRecDepth 100000
set_option maxHeartbeats 4000000
/-! DZ: list(zip(x, y)) of lists and tuples in any mix. -/
namespace DZ
open PySem PySem.Spec PyProof.Rows L2 DR
theorem zip_no_len : typeLookup (.type "zip") "__len__" = pure none := am_miss_of_fast (by decide +kernel)
theorem zip_no_hint : typeLookup (.type "zip") "__length_hint__" = pure none := am_miss_of_fast (by decide +kernel)
section
variable {X : Cx} {pins : List (Addr × Obj)} {σ : L2.St} {k k' : Bool} {a b z TI TO i1 i2 S : Addr} {xs ys : List V} {H2 : Hp}
/-- the pairs made so far -/
def PairsAt (H2 H : Hp) (xs ys : List V) (ts : List Addr) : Prop := ∀ (j : Nat) (t : Addr), ts[j]? = some t → ∃ (x y : V) (ob : Obj), xs[j]? = some x ∧ ys[j]? = some y ∧ ob.dict = none ∧ H t = some (.frz ob (.tup [x, y])) ∧ H2 t = none
structure LS (X : Cx) (pins : List (Addr × Obj)) (σ : L2.St) (k k' : Bool) (a b z TI TO i1 i2 S : Addr) (xs ys : List V) (H2 : Hp) (i : Nat) (s : Shared) (H : Hp) (ts : List Addr) : Prop where
  inv : Inv X pins σ H s
  lst : H S = some (.lst (ts.map V.ref))
  len : ts.length = i
  s0 : H2 S = none
  ext : ∀ c o, H2 c = some o → H c = some o
  zip : (IsZip s.heap z TI TO .none ∧ ∃ a1 a2, IsTupOf2 s.heap TO a1 a2) ∨ ∃ T f oT, IsZipHeld s.heap z TI TO T f ∧ s.heap.get? T = some oT ∧ T ≠ z ∧ T ≠ i1 ∧ T ≠ i2 ∧ T ≠ S
  ti : IsTupOf2 s.heap TI (.ref i1) (.ref i2)
  to : ∃ o, s.heap.get? TO = some o
  k1 : ItK k s.heap i1 a i
  k2 : ItK k' s.heap i2 b i
  fp : ∀ c ∈ [z, TI, TO, i1, i2], FpOk X pins H c
  prs : PairsAt H2 H xs ys ts
theorem fp_upd {H : Hp} {c T : Addr} {o : HO} (f : FpOk X pins H c) (h : c ≠ T) : FpOk X pins (upd H T o) c := ⟨by rw [upd_ne h]; exact f.1, f.2⟩
theorem loop_zip {A : Around} {R : Result → Shared → Prop} {res : Value} (hh : A.in1.in1.handled = none) (D : ZipA z TI TO i1 i2) (hc : X.calm = true) (hx : SqK X.K k H2 a xs) (hy : SqK X.K k' H2 b ys) (hz : min xs.length ys.length ≤ 1000000)
    (hR : ∀ s' H' ts, Inv X pins σ H' s' → H' S = some (.lst (ts.map V.ref)) → ts.length = min xs.length ys.length → H2 S = none → (∀ c o, H2 c = some o → H' c = some o) → PairsAt H2 H' xs ys ts → R (.ok (.ret res)) s') :
    ∀ (m i : Nat) (s : Shared) (H : Hp) (ts : List Addr), min xs.length ys.length - i = m → i ≤ min xs.length ys.length → LS X pins σ k k' a b z TI TO i1 i2 S xs ys H2 i s H ts →
      codeAny (model X.prog X.w) A (.builtin "list.extend.loop" ⟨[.ref S, .ref z, res], []⟩) R s := by
  intro m
  induction m with
  | zero =>
    intro i s H ts hm hi L
    have ei : i = min xs.length ys.length := by omega
    have hqx : SqK X.K k H a xs := SqK.sub (fun c o e => L.ext c o e) hx
    have hqy : SqK X.K k' H b ys := SqK.sub (fun c o e => L.ext c o e) hy
    obtain ⟨its, rv, p1⟩ := inv_K L.inv hqx
    obtain ⟨its2, rv2, p2⟩ := inv_K L.inv hqy
    have l1 := rv.length
    have l2 := rv2.length
    have na : ∀ c, c ∈ [z, TI, TO, i1, i2] → a ≠ c := fun c hc => src_ne L.inv hqx (L.fp c hc)
    have nb : ∀ c, c ∈ [z, TI, TO, i1, i2] → b ≠ c := fun c hc => src_ne L.inv hqy (L.fp c hc)
    have Sp : ZipSep2 z TI TO i1 i2 [i1, a] [i2, b] :=
      { TIz := D.TIz, TOz := D.TOz, TITO := D.TITO, TIi1 := D.TIi1, mem1 := by simp, zf1 := by simp; exact ⟨D.z1, Ne.symm (na z (by simp))⟩, Tf1 := by simp; exact ⟨D.T1, Ne.symm (na TO (by simp))⟩,
        TIi2 := D.TIi2, mem2 := by simp, zf2 := by simp; exact ⟨D.z2, Ne.symm (nb z (by simp))⟩, Tf2 := by simp; exact ⟨D.T2, Ne.symm (nb TO (by simp))⟩,
        sep1_2 := by simp; exact ⟨D.i12, Ne.symm (nb i1 (by simp))⟩, sep2_1 := by simp; exact ⟨Ne.symm D.i12, Ne.symm (na i2 (by simp))⟩ }
    have D1 := draws_K (prog := X.prog) (w := X.w) hh k i1 a (na i1 (by simp)) its.toArray
    have D2 := draws_K (prog := X.prog) (w := X.w) hh k' i2 b (nb i2 (by simp)) its2.toArray
    have fin : ∀ h' tk, (∀ c o, c ∉ [z, TI, TO, i1, i2] → s.heap.get? c = some o → h'.get? c = some o) → R (.ok (.ret res)) { s with heap := h', toks := tk } := fun h' tk hk =>
      hR _ H ts (L.inv.turnedL (ch := [z, TI, TO, i1, i2]) hk L.fp) L.lst (by rw [L.len, ei]) L.s0 L.ext L.prs
    have hn1 : i ≤ its.toArray.size := by rw [List.size_toArray, ← l1]; omega
    have hn2 : i ≤ its2.toArray.size := by rw [List.size_toArray, ← l2]; omega
    have hn3 : i = its.toArray.size ∨ i = its2.toArray.size := by rw [List.size_toArray, List.size_toArray, ← l1, ← l2]; omega
    refine codeAny_builtin F.entry_extend_loop ?_
    rw [Around.under_plainId F.plain_extend_loop _]
    show wpAny _ A.in1 (pyNext (.ref z) >>= _) _ _ s
    rcases L.zip with ⟨hz0, a1, a2, hTO⟩ | ⟨T, f, oT, hz0, hT, t1, t2, t3, t4⟩
    · refine wpAny_bind (wpAny_pyNext_zipD2_end Sp D1 D2 hz0 L.ti hTO ⟨L.k1, p1⟩ ⟨L.k2, p2⟩ hn1 hn2 hn3 fun h' tk hk => wpAny_pure (fin h' tk fun c o hc e => ?_))
      simp only [List.mem_cons, List.mem_singleton, List.not_mem_nil, or_false, not_or] at hc
      exact hk c o hc.1 hc.2.2.1 hc.2.2.2.1 hc.2.2.2.2 e
    · refine wpAny_bind (pyNext_zipH_end Sp D1 D2 hz0 hT L.ti ⟨L.k1, p1⟩ ⟨L.k2, p2⟩ hn1 hn2 hn3 fun h' tk hk => wpAny_pure (fin h' tk fun c o hc e => ?_))
      simp only [List.mem_cons, List.mem_singleton, List.not_mem_nil, or_false, not_or] at hc
      exact hk c o hc.1 hc.2.2.2.1 hc.2.2.2.2 e
  | succ m ih =>
    intro i s H ts hm hi L
    have hlt : i < min xs.length ys.length := by omega
    have hqx : SqK X.K k H a xs := SqK.sub (fun c o e => L.ext c o e) hx
    have hqy : SqK X.K k' H b ys := SqK.sub (fun c o e => L.ext c o e) hy
    obtain ⟨its, rv, p1⟩ := inv_K L.inv hqx
    obtain ⟨its2, rv2, p2⟩ := inv_K L.inv hqy
    have l1 := rv.length
    have l2 := rv2.length
    have na : ∀ c, c ∈ [z, TI, TO, i1, i2] → a ≠ c := fun c hc => src_ne L.inv hqx (L.fp c hc)
    have nb : ∀ c, c ∈ [z, TI, TO, i1, i2] → b ≠ c := fun c hc => src_ne L.inv hqy (L.fp c hc)
    have Sp : ZipSep2 z TI TO i1 i2 [i1, a] [i2, b] :=
      { TIz := D.TIz, TOz := D.TOz, TITO := D.TITO, TIi1 := D.TIi1, mem1 := by simp, zf1 := by simp; exact ⟨D.z1, Ne.symm (na z (by simp))⟩, Tf1 := by simp; exact ⟨D.T1, Ne.symm (na TO (by simp))⟩,
        TIi2 := D.TIi2, mem2 := by simp, zf2 := by simp; exact ⟨D.z2, Ne.symm (nb z (by simp))⟩, Tf2 := by simp; exact ⟨D.T2, Ne.symm (nb TO (by simp))⟩,
        sep1_2 := by simp; exact ⟨D.i12, Ne.symm (nb i1 (by simp))⟩, sep2_1 := by simp; exact ⟨Ne.symm D.i12, Ne.symm (na i2 (by simp))⟩ }
    have D1 := draws_K (prog := X.prog) (w := X.w) hh k i1 a (na i1 (by simp)) its.toArray
    have D2 := draws_K (prog := X.prog) (w := X.w) hh k' i2 b (nb i2 (by simp)) its2.toArray
    have hn1 : i < its.toArray.size := by rw [List.size_toArray, ← l1]; omega
    have hn2 : i < its2.toArray.size := by rw [List.size_toArray, ← l2]; omega
    have nS : ∀ c, c ∈ [z, TI, TO, i1, i2] → c ≠ S := fun c hc e => by
      have q := (L.fp c hc).1
      rw [e, L.lst] at q
      cases q
    -- behind next
    have step : ∀ (v1 v2 : Value) (h' : Heap) (tk : Nat), its[i]? = some v1 → its2[i]? = some v2 → ((IsZip h' z TI TO .none ∧ ∃ a1 a2, IsTupOf2 h' TO a1 a2) ∨ ∃ T f oT, IsZipHeld h' z TI TO T f ∧ h'.get? T = some oT ∧ T ≠ z ∧ T ≠ i1 ∧ T ≠ i2 ∧ T ≠ S) →
        ItK k h' i1 a (i + 1) → ItK k' h' i2 b (i + 1) → IsTupOf2 h' s.heap.objs.size v1 v2 → (∀ c o, c ∉ [z, TI, TO, i1, i2] → s.heap.get? c = some o → h'.get? c = some o) → IsTupOf2 h' TI (.ref i1) (.ref i2) → (∃ o, h'.get? TO = some o) →
        wpAny (model X.prog X.w) A.in1 (updateSeq S (·.push (.ref s.heap.objs.size)) >>= fun _ => (again (.builtin "list.extend.loop" ⟨[.ref S, .ref z, res], []⟩) : Sem Fin))
          (fun fin s' => match fin with | .done f => R (.ok f) s' | .again c' => c'.quiet = true ∧ codeAny (model X.prog X.w) A c' R s') (fun e s' => R (.error e) s') { s with heap := h', toks := tk } := by
      intro v1 v2 h' tk hv1 hv2 hzip hk1 hk2 hT hk hTI hTOx
      have hTs : s.heap.objs.size ≤ s.heap.objs.size := Nat.le_refl _
      obtain ⟨x, hx1⟩ : ∃ x, xs[i]? = some x := ⟨xs[i]'(by omega), List.getElem?_eq_getElem _⟩
      obtain ⟨y, hy1⟩ : ∃ y, ys[i]? = some y := ⟨ys[i]'(by omega), List.getElem?_eq_getElem _⟩
      obtain ⟨u1, hu1, ru1⟩ := rv.get hx1
      obtain ⟨u2, hu2, ru2⟩ := rv2.get hy1
      have e1 : u1 = v1 := by rw [hv1] at hu1; exact (Option.some.inj hu1).symm
      have e2 : u2 = v2 := by rw [hv2] at hu2; exact (Option.some.inj hu2).symm
      subst e1 e2
      have hTn : H s.heap.objs.size = none := L.inv.hok.fresh (Nat.le_refl _)
      have I1 : Inv X pins σ (upd H s.heap.objs.size (.frz { cls := .type "tuple", data := .seq #[u1, u2] } (.tup [x, y]))) { s with heap := h', toks := tk } :=
        L.inv.turnedNew (ch := [z, TI, TO, i1, i2]) hk L.fp (Nat.le_refl _) ⟨hT, by show 2 ≤ sizeLine; decide, [u1, u2], .cons ru1 (.cons ru2 .nil), ⟨_, hT, rfl, _, rfl⟩⟩
      have neT : ∀ c o, H c = some o → c ≠ s.heap.objs.size := fun c o e => ne_of_none e hTn
      have hS1 : (upd H s.heap.objs.size (.frz { cls := .type "tuple", data := .seq #[u1, u2] } (.tup [x, y]))) S = some (.lst (ts.map V.ref)) := by rw [upd_ne (neT _ _ L.lst)]; exact L.lst
      obtain ⟨zz, itl, n, rl, hl, eS⟩ := I1.lstM hS1
      have eS : h'.get? S = some { cls := .type "list", data := .seq itl.toArray n } := eS
      have hlen : itl.length = i := by rw [← hl, List.length_map, L.len]
      have neS : ∀ c, c ∈ [z, TI, TO, i1, i2] → ∀ o, h'.get? c = some o → (h'.update S (Obj.mapSeq (·.push (.ref s.heap.objs.size)))).get? c = some o := fun c hc o e => (Heap.get?_update_other _ _ (Ne.symm (nS c hc))).trans e
      have hsz : min xs.length ys.length ≤ sizeLine := Nat.le_trans hz (by rw [sizeLine_eq]; omega)
      refine wpAny_bind ?_
      refine wpAny_updateSeq eS rfl (wpAny_pure ⟨plainId_quiet F.plain_extend_loop _, ih (i + 1) _ (upd (upd H s.heap.objs.size (.frz { cls := .type "tuple", data := .seq #[u1, u2] } (.tup [x, y]))) S (.lst ((ts ++ [s.heap.objs.size]).map V.ref))) (ts ++ [s.heap.objs.size]) (by omega) hlt ?_⟩) (by rw [List.size_toArray, hlen]; omega) (by show (itl.toArray.push _).size ≤ sizeLine + 1; rw [Array.size_push, List.size_toArray, hlen]; omega)
      have I2 := I1.lset (t' := tk) (f := (·.push (.ref s.heap.objs.size))) (its' := itl ++ [.ref s.heap.objs.size]) (ys := (ts ++ [s.heap.objs.size]).map V.ref) hS1 eS (by simp) (by rw [List.map_append]; exact rl.append (.cons rfl .nil)) (by rw [List.length_map, List.length_append, L.len]; simp only [List.length_cons, List.length_nil]; omega)
      refine ⟨I2, upd_same, by rw [List.length_append, L.len]; rfl, L.s0, fun c o e => ?_, ?_, neS TI (by simp) _ hTI, (by obtain ⟨o, e⟩ := hTOx; exact ⟨o, neS TO (by simp) o e⟩), hk1.at fun o e => neS i1 (by simp) o e, hk2.at fun o e => neS i2 (by simp) o e, fun c hc => ?_, fun j t hj => ?_⟩
      · have nc : c ≠ S := fun z => by rw [z, L.s0] at e; cases e
        rw [upd_ne nc, upd_ne (neT c o (L.ext c o e))]
        exact L.ext c o e
      · rcases hzip with ⟨q1, a1, a2, q2⟩ | ⟨T, f, oT, q1, q2, q3, q4, q5, q6⟩
        · exact .inl ⟨neS z (by simp) _ q1, a1, a2, neS TO (by simp) _ q2⟩
        · exact .inr ⟨T, f, oT, neS z (by simp) _ q1, (Heap.get?_update_other _ _ (Ne.symm q6)).trans q2, q3, q4, q5, q6⟩
      · refine fp_upd (fp_upd (L.fp c hc) fun e => ?_) (nS c hc)
        have hcl : ∃ o, s.heap.get? c = some o := by
          have e' : c = z ∨ c = TI ∨ c = TO ∨ c = i1 ∨ c = i2 := by simpa using hc
          rcases e' with q | q | q | q | q
          · rcases L.zip with ⟨w1, _⟩ | ⟨_, _, _, w1, _⟩ <;> (rw [q]; exact ⟨_, w1⟩)
          · rw [q]; exact ⟨_, L.ti⟩
          · rw [q]; exact L.to
          · obtain ⟨o, w1, _⟩ := L.k1.obj; rw [q]; exact ⟨o, w1⟩
          · obtain ⟨o, w1, _⟩ := L.k2.obj; rw [q]; exact ⟨o, w1⟩
        obtain ⟨o, ho⟩ := hcl
        exact absurd (Heap.lt_size ho) (by rw [e]; exact Nat.lt_irrefl _)
      · by_cases hjl : j < ts.length
        · rw [List.getElem?_append_left hjl] at hj
          obtain ⟨x', y', ob, r1, r2, r3, r4, r5⟩ := L.prs j t hj
          have nt : t ≠ S := fun z => by rw [z, L.lst] at r4; cases r4
          exact ⟨x', y', ob, r1, r2, r3, by rw [upd_ne nt, upd_ne (neT _ _ r4)]; exact r4, r5⟩
        · rw [List.getElem?_append_right (by omega)] at hj
          have ej : j = ts.length := by
            have := (List.getElem?_eq_some_iff.mp hj).1
            simp only [List.length_cons, List.length_nil] at this
            omega
          subst ej
          rw [Nat.sub_self] at hj
          cases hj
          have nt : s.heap.objs.size ≠ S := Ne.symm (neT _ _ L.lst)
          refine ⟨x, y, _, by rw [L.len]; exact hx1, by rw [L.len]; exact hy1, rfl, by rw [upd_ne nt, upd_same], ?_⟩
          cases q : H2 s.heap.objs.size with
          | none => rfl
          | some o => rw [L.ext _ _ q] at hTn; cases hTn
    refine codeAny_builtin F.entry_extend_loop ?_
    rw [Around.under_plainId F.plain_extend_loop _]
    show wpAny _ A.in1 (pyNext (.ref z) >>= _) _ _ s
    rcases L.zip with ⟨hz0, a1, a2, hTO⟩ | ⟨T, f, oT, hz0, hT, t1, t2, t3, t4⟩
    · refine wpAny_bind (wpAny_pyNext_zipD2_item Sp D1 D2 hz0 L.ti hTO ⟨L.k1, p1⟩ ⟨L.k2, p2⟩ hn1 hn2 fun v1 v2 h' tk y1 y2 b1 b2 d1 d2 b5 b6 b7 => ?_)
      have hk : ∀ c o, c ∉ [z, TI, TO, i1, i2] → s.heap.get? c = some o → h'.get? c = some o := fun c o hc e => by
        simp only [List.mem_cons, List.mem_singleton, List.not_mem_nil, or_false, not_or] at hc
        exact b7 c o hc.1 hc.2.2.1 hc.2.2.2.1 hc.2.2.2.2 e
      have nn : ∀ c o, s.heap.get? c = some o → s.heap.objs.size ≠ c := fun c o e z => absurd (Heap.lt_size e) (by rw [← z]; exact Nat.lt_irrefl _)
      obtain ⟨o1, w1, _⟩ := L.k1.obj
      obtain ⟨o2, w2, _⟩ := L.k2.obj
      have wS : ∃ o, s.heap.get? S = some o := by
        obtain ⟨_, its, n, _, e⟩ := L.inv.hok S _ L.lst
        exact ⟨_, e⟩
      obtain ⟨oS, wS⟩ := wS
      exact step v1 v2 h' tk (by simpa using y1) (by simpa using y2) (.inr ⟨s.heap.objs.size, false, _, b1, b5, nn _ _ hz0, nn _ _ w1, nn _ _ w2, nn _ _ wS⟩) d1.1 d2.1 b5 hk (b7 TI _ D.TIz D.TITO D.TIi1 D.TIi2 L.ti) ⟨_, b2⟩
    · refine wpAny_bind (pyNext_zipH_item Sp D1 D2 hz0 hT L.ti ⟨L.k1, p1⟩ ⟨L.k2, p2⟩ hn1 hn2 fun v1 v2 h' tk y1 y2 b1 d1 d2 b5 b6 b7 => ?_)
      have hk : ∀ c o, c ∉ [z, TI, TO, i1, i2] → s.heap.get? c = some o → h'.get? c = some o := fun c o hc e => by
        simp only [List.mem_cons, List.mem_singleton, List.not_mem_nil, or_false, not_or] at hc
        exact b7 c o hc.1 hc.2.2.2.1 hc.2.2.2.2 e
      exact step v1 v2 h' tk (by simpa using y1) (by simpa using y2) (.inr ⟨T, true, oT, b1, b7 T oT t1 t2 t3 hT, t1, t2, t3, t4⟩) d1.1 d2.1 b5 hk (b7 TI _ D.TIz D.TIi1 D.TIi2 L.ti) (by obtain ⟨o, e⟩ := L.to; exact ⟨o, b7 TO o D.TOz D.T1 D.T2 e⟩)
theorem call_list_zip {s : Shared} {H : Hp} {Q : VK} (I : Inv X pins σ H s) (hc : X.calm = true) (D : ZipA z TI TO i1 i2) (hx : SqK X.K k H a xs) (hy : SqK X.K k' H b ys) (hn : min xs.length ys.length ≤ 1000000)
    (hz : IsZip s.heap z TI TO .none) (hTI : IsTupOf2 s.heap TI (.ref i1) (.ref i2)) (hTO : ∃ a1 a2, IsTupOf2 s.heap TO a1 a2) (h1 : ItK k s.heap i1 a 0) (h2 : ItK k' s.heap i2 b 0) (fp : ∀ c ∈ [z, TI, TO, i1, i2], FpOk X pins H c)
    (q : ∀ p H3 ts, H p = none → H3 p = some (.lst (ts.map V.ref)) → ts.length = min xs.length ys.length → (∀ c o, H c = some o → H3 c = some o) → PairsAt H H3 xs ys ts → Q (.ref p) H3) :
    wpAny (model X.prog X.w) X.A (call (.type "list") [.ref z]) (EP X pins σ Q) X.xe s := by
  have hSn : H s.heap.objs.size = none := I.hok.fresh (Nat.le_refl _)
  refine callType_codes (Q₁ := fun obj s₁ => obj = .ref s.heap.objs.size ∧ s₁ = { s with heap := s.heap.push { cls := .type "list", data := .seq #[] } }) F.called_list (F.typeCall_list_1 _) F.entry_list_init
    (code_list_new _ ⟨rfl, rfl⟩) fun obj s₁ h₁ => ?_
  obtain ⟨rfl, rfl⟩ := h₁
  generalize hSe : s.heap.objs.size = S at hSn
  have hS : (s.heap.push { cls := .type "list", data := .seq #[] }).get? S = some { cls := .type "list", data := .seq (([] : List Value).toArray) 0 } := by rw [← hSe]; exact Heap.get?_push_size _ rfl
  have nS : ∀ c o, s.heap.get? c = some o → c ≠ S := fun c o e z => absurd (Heap.lt_size e) (by rw [z, hSe]; exact Nat.lt_irrefl _)
  have I0 : Inv X pins σ (upd H S (.lst [])) { s with heap := s.heap.push { cls := .type "list", data := .seq #[] } } := by
    subst hSe
    exact I.laid (t' := s.toks) (o := .lst []) (fun b o e => Heap.get?_push_of_some _ e) (Nat.le_refl _) ⟨Nat.zero_le _, [], 0, .nil, hS⟩
  refine ⟨⟨_, hS, rfl⟩, F.args_list_init_2 _ _, ?_⟩
  show wpAny _ X.A.in1.in1 (do let old ← Builtin.List.listItems (.ref S); Builtin.List.listUpdate (.ref S) (fun _ => #[]); letGo old.toList.reverse; Builtin.List.listExtendWith (.ref S) (.ref z) .none) _ _ _
  refine wpAny_bind ?_
  unfold Builtin.List.listItems
  refine wpAny_bind (wpAny_seqItems hS rfl (wpAny_pure ?_))
  show wpAny _ _ (updateSeq S (fun _ => #[]) >>= fun _ => letGo (([] : List Value).toArray).toList.reverse >>= fun _ => Builtin.List.listExtendWith (.ref S) (.ref z) .none) _ _ _
  refine wpAny_bind (wpAny_updateSeq hS rfl ?_)
  have I1 := I0.lset (t' := s.toks) (f := fun _ => #[]) (its' := []) (ys := []) upd_same hS rfl .nil (Nat.zero_le _)
  have hS1 := Heap.get?_update_self (Obj.mapSeq (fun _ => (#[] : Array Value))) hS rfl
  refine wpAny_bind (wpAny_letGo ?_)
  have o1 : ∀ c o, s.heap.get? c = some o → ((s.heap.push { cls := .type "list", data := .seq #[] }).update S (Obj.mapSeq (fun _ => (#[] : Array Value)))).get? c = some o := fun c o e => (Heap.get?_update_other _ _ (Ne.symm (nS c o e))).trans (Heap.get?_push_of_some _ e)
  unfold Builtin.List.listExtendWith
  refine wpAny_bind (wpAny_typeOf (T := "zip") ⟨_, o1 z _ hz, rfl⟩ ?_)
  have e1 : Builtin.List.listSameRef (.ref S) (.ref z) = false := by simp [Builtin.List.listSameRef, Ne.symm (nS z _ hz)]
  have e2 : (Value.type "zip" == Value.type "list") = false := by decide
  have e3 : (Value.type "zip" == Value.type "tuple") = false := by decide
  simp only [e1, e2, e3, Bool.or_false, Bool.false_eq_true, if_false]
  refine wpAny_bind (wpAny_pyIter_zip (o1 z _ hz) ?_)
  refine wpAny_bind (wpAny_holding ?_)
  unfold Builtin.List.listLengthHint
  refine wpAny_bind (wpAny_specialOf (T := "zip") ⟨_, o1 z _ hz, rfl⟩ zip_no_len ?_)
  show wpAny _ _ (specialOf (Value.ref z) (Str.ofString "__length_hint__") >>= _) _ _ _
  refine wpAny_bind (wpAny_specialOf (T := "zip") ⟨_, o1 z _ hz, rfl⟩ zip_no_hint ?_)
  refine wpAny_pure ?_
  show wpAny _ _ (rule "list.extend.makes-room" >>= fun _ => Builtin.List.listTouch (.ref S) >>= fun _ =>
    again (.builtin "list.extend.loop" ⟨[.ref S, .ref z, .none], []⟩)) _ _ _
  refine wpAny_bind (wpAny_rule ?_)
  refine wpAny_bind ?_
  show wpAny _ _ (updateSeq S (·.push .none) >>= fun _ => updateSeq S (·.pop)) _ _ _
  refine wpAny_bind (wpAny_updateSeq hS1 rfl ?_)
  have I2 := I1.lset (t' := s.toks) (f := (·.push .none)) (its' := [.none]) (ys := [.non]) upd_same hS1 rfl (.cons rfl .nil) (by show 1 ≤ sizeLine; decide)
  have hS2 := Heap.get?_update_self (Obj.mapSeq (·.push Value.none)) hS1 rfl
  refine wpAny_updateSeq hS2 rfl ?_
  have I3 := I2.lset (t' := s.toks) (f := (·.pop)) (its' := []) (ys := []) upd_same hS2 rfl .nil (Nat.zero_le _)
  have oth : ∀ c o, s.heap.get? c = some o → ((((s.heap.push { cls := .type "list", data := .seq #[] }).update S (Obj.mapSeq (fun _ => (#[] : Array Value)))).update S (Obj.mapSeq (·.push Value.none))).update S (Obj.mapSeq (·.pop))).get? c = some o :=
    fun c o e => (Heap.get?_update_other _ _ (Ne.symm (nS c o e))).trans ((Heap.get?_update_other _ _ (Ne.symm (nS c o e))).trans (o1 c o e))
  have ext : ∀ c o, H c = some o → upd (upd (upd (upd H S (.lst [])) S (.lst [])) S (.lst [.non])) S (.lst []) c = some o := fun c o e => by
    have nc : c ≠ S := fun z => by rw [z, hSn] at e; cases e
    rw [upd_ne nc, upd_ne nc, upd_ne nc, upd_ne nc]; exact e
  obtain ⟨w1, w2, wTO⟩ := hTO
  refine wpAny_pure ⟨plainId_quiet F.plain_extend_loop _, loop_zip (k := k) (k' := k') (a := a) (b := b) (S := S) (H2 := H) (A := X.A.in1) (I.ok.hd hc) D hc hx hy hn (fun s' H' ts J r1 r2 r3 r4 r5 => ⟨rfl, .ref S, H', J, rfl, q S H' ts r3 r1 r2 r4 r5⟩) _ 0 _ _ [] rfl (Nat.zero_le _)
    ⟨I3, upd_same, rfl, hSn, ext, .inl ⟨oth _ _ hz, w1, w2, oth _ _ wTO⟩, oth _ _ hTI, ⟨_, oth _ _ wTO⟩, h1.at fun o e => oth _ _ e, h2.at fun o e => oth _ _ e, fun c hc => ?_, fun j t h => by simp at h⟩⟩
  have hcS : c ≠ S := by
    have e' : c = z ∨ c = TI ∨ c = TO ∨ c = i1 ∨ c = i2 := by simpa using hc
    rcases e' with q | q | q | q | q
    · rw [q]; exact nS _ _ hz
    · rw [q]; exact nS _ _ hTI
    · rw [q]; exact nS _ _ wTO
    · obtain ⟨o, w, _⟩ := h1.obj; rw [q]; exact nS _ _ w
    · obtain ⟨o, w, _⟩ := h2.obj; rw [q]; exact nS _ _ w
  exact fp_upd (fp_upd (fp_upd (fp_upd (fp c hc) hcS) hcS) hcS) hcS
end
def tLz (K : PySem.W.Frag) (te tf : TE) : TE := fun σ H Q => te σ H fun x H1 => tf σ H1 fun y H2 => ∃ k a xs k' b ys, x = .ref a ∧ y = .ref b ∧ SqK K k H2 a xs ∧ SqK K k' H2 b ys ∧ min xs.length ys.length ≤ 1000000 ∧
  ∀ p H3 ts, H2 p = none → H3 p = some (.lst (ts.map V.ref)) → ts.length = min xs.length ys.length → (∀ c o, H2 c = some o → H3 c = some o) → PairsAt H2 H3 xs ys ts → Q (.ref p) H3
theorem pe_lz {X : Cx} {e e2 : Expr} {te tf : TE} {p p2 pos pos2 : Pos} (hc : X.calm = true) (hgl : Gl X "list") (hml : X.mg "list" = none) (hg : Gl X "zip") (hm : X.mg "zip" = none) (he : PE X e te) (he2 : PE X e2 tf)
    (hs : starEach [e, e2] X.env = (false, eval e X.env) :: starEach [e2] X.env := by rfl) (hs2 : starEach [e2] X.env = (false, eval e2 X.env) :: starEach [] X.env := by rfl) (hpl : (backTo pos2 (starEach [e2] X.env)).any (·.1) = false := by rfl)
    (ho : starEach [.Call (.Name "zip" p2) [e, e2] [] pos2] X.env = (false, eval (.Call (.Name "zip" p2) [e, e2] [] pos2) X.env) :: starEach [] X.env := by rfl) :
    PE X (.Call (.Name "list" p) [.Call (.Name "zip" p2) [e, e2] [] pos2] [] pos) (tLz X.K te tf) := by
  refine ⟨fun pins s σ H Q I h => ?_⟩
  refine Call_ (ld_blt I hgl hml DL.bt_list (PyProof.Rows.callWith_type1 (args_cons ?_ ho) ho))
  refine Call_ (ld_blt I hg hm PyProof.Rows.boot_zip (PyProof.Rows.callWith_type1 (args_cons (thn (he.run pins s σ H _ I h) fun v s1 ⟨x, H1, I1, r1, q1⟩ => args_cons (thn (he2.run pins s1 σ H1 _ I1 q1) fun v2 s2 ⟨y, H2, I2, r2, q2⟩ => args_nil ?_) hs2) hs) hs hpl))
  obtain ⟨k, a, xs, k', b, ys, rfl, rfl, hqx, hqy, hn, q⟩ := q2
  obtain rfl : v = .ref a := r1
  obtain rfl : v2 = .ref b := r2
  obtain ⟨its, rv, p1⟩ := inv_K I2 hqx
  obtain ⟨its2, rv2, p2⟩ := inv_K I2 hqy
  refine zip_begins2 (begins_K k a its.toArray) (begins_K k' b its2.toArray) p1 p2 fun h' hz hTI hTO h1 h2 hsz hk => args_nil ?_
  have I3 : Inv X pins σ H2 { s2 with heap := h' } := I2.kept (t' := s2.toks) hk
  have D : ZipA (s2.heap.objs.size + 4) (s2.heap.objs.size + 2) (s2.heap.objs.size + 3) s2.heap.objs.size (s2.heap.objs.size + 1) := by
    constructor <;> (show (_ : Nat) ≠ _; omega)
  refine call_list_zip I3 hc D hqx hqy hn hz hTI ⟨_, _, hTO⟩ (itK_new h1) (itK_new h2) (fun c hc => ?_) q
  have hle : s2.heap.objs.size ≤ c := by
    have e' : c = s2.heap.objs.size + 4 ∨ c = s2.heap.objs.size + 2 ∨ c = s2.heap.objs.size + 3 ∨ c = s2.heap.objs.size ∨ c = s2.heap.objs.size + 1 := by simpa using hc
    rcases e' with z | z | z | z | z <;> rw [z]
    · exact Nat.le_add_right _ _
    · exact Nat.le_add_right _ _
    · exact Nat.le_add_right _ _
    · exact Nat.le_refl _
    · exact Nat.le_add_right _ _
  exact I2.fpOk hle (I2.hok.fresh hle)
end DZ
namespace DL
open PySem PySem.Spec PyProof.Rows L2 DR
def zipT : List D → List D → List D
  | a :: r, b :: s => .tup [a, b] :: zipT r s
  | _, _ => []
def lZip (a b : Env → T D) : Env → T (List D) := fun ρ => (a ρ).bind fun x => (b ρ).bind fun y => (seqT x).bind fun xs => (seqT y).bind fun ys => match decide (xs.length ≤ capD) with | true => .ret (zipT xs ys) | false => .fail
theorem pairs_reps {c : Ct} {P : Addr → Prop} {H2 H3 : Hp} {n : Nat} {p : Addr} {ws : List V} (o : Ok c P H2 n) (hp : H2 p = none) (hp3 : H3 p = some (.lst ws)) (ext : ∀ a w, H2 a = some w → H3 a = some w) :
    ∀ {ts : List Addr} {xs ys : List V} {ds es : List D}, Reps c (Msk P H2) xs ds → Reps c (Msk P H2) ys es → ts.length = min xs.length ys.length → DZ.PairsAt H2 H3 xs ys ts → Reps c (Msk (fun a => P a ∨ a = p) H3) (ts.map V.ref) (zipT ds es) := by
  have sub : Sub (Msk P H2) (Msk (fun a => P a ∨ a = p) H3) := fun a w h => by
    obtain ⟨h1, h2⟩ := msk_some.mp h
    exact msk_some.mpr ⟨fun z => z.elim h1 (ne_of_none h2 hp), ext a w h2⟩
  intro ts
  induction ts with
  | nil =>
    intro xs ys ds es r1 r2 hl _
    cases r1 with
    | nil => exact .nil
    | cons _ _ =>
      cases r2 with
      | nil => exact .nil
      | cons _ _ => simp only [List.length_nil, List.length_cons] at hl; omega
  | cons t ts ih =>
    intro xs ys ds es r1 r2 hl pa
    obtain ⟨x, y, ob, k1, k2, k3, k4, k5⟩ := pa 0 t rfl
    cases r1 with
    | nil => cases k1
    | cons rx r1 =>
      cases r2 with
      | nil => cases k2
      | cons ry r2 =>
        cases k1
        cases k2
        have nt : t ≠ p := fun z => by rw [z, hp3] at k4; cases k4
        refine .cons (.tup (.inl ⟨ob, k3, msk_some.mpr ⟨fun z => z.elim (o.np k5) nt, k4⟩⟩) (.cons (rx.sub sub) (.cons (ry.sub sub) .nil))) (ih r1 r2 ?_ fun j t' h => ?_)
        · simp only [List.length_cons] at hl
          omega
        · exact pa (j + 1) t' h
theorem el_lz {c : Ct} {te tf : TE} {F G : Env → T D} (h : EvX c te F) (h' : EvX c tf G) : EvL c (DZ.tLz c.K te tf) (lZip F G) := fun σ H P ρ n R o er ok Q q =>
  h σ H P ρ n _ o er (T.ok_bind.mp ok) _ fun x H1 d n1 ok1 e1 o1 rx => h' σ H1 P ρ n1 _ o1 (er.exu o.pu e1) (T.ok_bind.mp ok1) _ fun y H2 d2 n2 ok2 e2 o2 ry => by
    obtain ⟨ds, hs, ok3⟩ := seqT_ok (T.ok_bind.mp ok2)
    obtain ⟨es, hs', r⟩ := seqT_ok (T.ok_bind.mp ok3)
    split at r
    · rename_i hb
      have hb := of_decide_eq_true hb
      have rx2 := rx.exu o1.pu e2
      obtain ⟨k, a, xs, rfl, h1, h2⟩ := rx2.seqK hs
      obtain ⟨k', b, ys, rfl, h3, h4⟩ := ry.seqK hs'
      have l1 := h2.length
      refine ⟨k, a, xs, k', b, ys, rfl, rfl, h1 H2 (ExU.refl _ _) o.pu, h3 H2 (ExU.refl _ _) o.pu, ?_, fun p H3 ts hp hp3 hl ext pa => ?_⟩
      · have : capD = 100000 := rfl
        omega
      · obtain ⟨u1, u2, u3, w1, w2⟩ := o2.urn
        exact q p _ H3 _ n2 r (e1.trans (e2.trans fun a w _ e => ext a w e)) ⟨⟨u1, u2, u3, ext _ _ w1, w2⟩, o2.pu, fun a ha => by
          cases z : H2 a with
          | none => exact absurd z (o2.dom a ha)
          | some w => rw [ext a w z]; simp⟩ ((e1.trans e2).free (o2.nu hp) hp) hp3 (pairs_reps o2 hp hp3 ext h2 h4 hl pa)
    · exact r.elim
/-- urn, below -/
def F__law_take : List D → T D
  | [.urn, .int m] => .take m (fun r => .ret (.int r))
  | _ => .fail
end DL
end

section
set_option maxRecDepth 100000
set_option maxHeartbeats 4000000
/-! DLn: the rules with the written part told (a block's context must not stand in a reading). -/
namespace DL
open PySem PySem.Spec PyProof.Rows L2 DR
section
variable {X : Cx} (K : PySem.W.Frag) (P : Program) (w : World)
theorem op_addK (h : X.K = K) : OpR X (binaryOp .Add) (rAddD K) := by subst h; exact op_addD
theorem op_eqK (h : X.K = K) (hu : X.A.units + 64 < cLine) : OpR X (compareOp .Eq) (rEqA K) := by subst h; exact op_eqA hu
theorem op_neK (h : X.K = K) (hu : X.A.units + 64 < cLine) : OpR X (compareOp .NotEq) (rNeA K) := by subst h; exact op_neA hu
theorem op_inK (h : X.K = K) : OpR X (compareOp .In) (rIn K false) := by subst h; exact op_in_seq
theorem op_ninK (h : X.K = K) : OpR X (compareOp .NotIn) (rIn K true) := by subst h; exact op_notIn_seq
theorem ix_K (h : X.K = K) : IxR X (rIx K) := by subst h; exact ix_seq
theorem sl_K (h : X.K = K) : L2.SlR X (rSlD K) := by subst h; exact sl_D
theorem call_lenK (h : X.K = K) : CallR X (.builtin "len") (fun xs H Q => ∃ x n, xs = [x] ∧ LenV K x H n ∧ Q (.int n) H) := by subst h; exact call_len
theorem cr_sumK (h : X.K = K) (hc : X.calm = true) : CallR X (.builtin "sum") (rSum K) := by subst h; exact cr_sum hc
theorem cr_maxK (h : X.K = K) (hc : X.calm = true) : CallR X (.builtin "max") (rMax K) := by subst h; exact cr_max hc
theorem cr_minKq (h : X.K = K) (hc : X.calm = true) : CallR X (.builtin "min") (rMin K) := by subst h; exact cr_min hc
theorem cr_allK (h : X.K = K) (hc : X.calm = true) : CallR X (.builtin "all") (rAll K) := by subst h; exact cr_all hc
theorem cr_anyK (h : X.K = K) (hc : X.calm = true) : CallR X (.builtin "any") (rAny K) := by subst h; exact cr_any hc
theorem call_listK (h : X.K = K) : CallR X (.type "list") (fun xs H Q => ∃ p ys, xs = [.ref p] ∧ (SqL K H p ys ∨ SqT K H p ys) ∧ ∀ l, H l = none → Q (.ref l) (upd H l (.lst ys))) := by subst h; exact call_list_of
theorem cr_setK (h : X.K = K) (hp : X.prog = P) (hw : X.w = w) (hc : X.calm = true) : CallR X (.type "set") (DS.rSetL K P w) := by subst h hp hw; exact DS.cr_setL hc
theorem cr_sortK (h : X.K = K) (hu : X.A.units + 66 < cLine) : CallR X (.builtin "sorted") (DS.rSortL K) := by subst h; exact DS.cr_sortL hu
theorem cr_sortSetK (hp : X.prog = P) (hw : X.w = w) (hc : X.calm = true) (hu : X.A.units + 66 < cLine) : CallR X (.builtin "sorted") (DS.rSortSetL P w) := by subst hp hw; exact DS.cr_sortSetL hc hu
theorem cr_lenSetK (hp : X.prog = P) (hw : X.w = w) : CallR X (.builtin "len") (DS.rLenSetL P w) := by subst hp hw; exact DS.cr_lenSetL
theorem call_isiKq (h : X.K = K) : CallR X (.builtin "isinstance") (rIsi K) := by subst h; exact call_isi
theorem call_isiTK (h : X.K = K) : CallR X (.builtin "isinstance") (rIsiT K) := by subst h; exact call_isiT
theorem pe_tupleK (h : X.K = K) {a : Expr} {ta : TE} {p pos : Pos} (hg : Gl X "tuple") (hm : X.mg "tuple" = none) (ha : PE X a ta) (na : starEach [a] X.env = (false, eval a X.env) :: starEach [] X.env := by rfl) :
    PE X (.Call (.Name "tuple" p) [a] [] pos) (tThen ta (kTupN K)) := by subst h; exact pe_tupleN hg hm ha na
theorem pa_starK (h : X.K = K) {e : Expr} {es : List Expr} {te : TE} {t : TA} {p : Pos} (he : PE X e te) (hr : PA X es t) (hs : starEach (.Starred e p :: es) X.env = (true, eval e X.env) :: starEach es X.env := by rfl) : PA X (.Starred e p :: es) (StX.tStar K te t) := by subst h; exact StX.pa_star he hr hs
theorem pg_tupK (h0 : X.K = K) {es : List Expr} {k : Nat} {t : TGs} {n : Nat} {pos : Pos} (hc : X.calm = true) (h : PGs X es t)
    (hn : (assignEach es X.env).length = n := by rfl) (hst : (assignEach es X.env).findIdx? (·.1) = none := by rfl) : PG X (.Tuple es k pos) (gTup K n t) := by subst h0; exact pg_tup hc h hn hst
theorem pg_lstK (h0 : X.K = K) {es : List Expr} {k : Nat} {t : TGs} {n : Nat} {pos : Pos} (hc : X.calm = true) (h : PGs X es t)
    (hn : (assignEach es X.env).length = n := by rfl) (hst : (assignEach es X.env).findIdx? (·.1) = none := by rfl) : PG X (.Tuple es k pos) (gLst K n t) := by subst h0; exact pg_lst hc h hn hst
theorem pi_sqK (h : X.K = K) {tg e : Expr} {te : TE} (he : PE X e te) : PI X tg e (iSq K te) := by subst h; exact pi_sq he
theorem pi_zpK (h : X.K = K) {e e2 : Expr} {te tf : TE} {p pos tpos : Pos} {elts : List Expr} {kk : Nat} (hg : Gl X "zip") (hm : X.mg "zip" = none) (he : PE X e te) (he2 : PE X e2 tf)
    (hs : starEach [e, e2] X.env = (false, eval e X.env) :: starEach [e2] X.env := by rfl) (hs2 : starEach [e2] X.env = (false, eval e2 X.env) :: starEach [] X.env := by rfl) (hpl : (backTo pos (starEach [e2] X.env)).any (·.1) = false := by rfl) :
    PI X (.Tuple elts kk tpos) (.Call (.Name "zip" p) [e, e2] [] pos) (iZp K te tf) := by subst h; exact pi_zp hg hm he he2 hs hs2 hpl
theorem pe_cntK (h : X.K = K) {o e : Expr} {to te : TE} {apos cpos : Pos} (hu : X.A.units + 2 < cLine) (ho : PE X o to) (he : PE X e te)
    (hbase : attributeBase o "count" X.env (eval o X.env) = eval o X.env := by rfl)
    (hfew : ((backTo cpos (starEach [e] X.env)).all (fun x => !x.1) && (backToKw cpos (keywordEach [] X.env)).all (fun x => x.1.isSome)
      && decide ([e].length + ([] : List Keyword).length + (if ([] : List Keyword).isEmpty then 0 else 1) < 30)) = true := by rfl)
    (hline : (apos.endLine == cpos.line) = true := by rfl) (hs : starEach [e] X.env = (false, eval e X.env) :: starEach [] X.env := by rfl) :
    PE X (.Call (.Attribute o "count" apos) [e] [] cpos) (tCnt K to te) := by subst h; exact pe_cnt hu ho he hbase hfew hline hs
theorem pe_slK (h : X.K = K) {e : Expr} {f : Str} {pos : Pos} {ta : TE} (he : PE X e ta) (hb : attributeBase e f X.env (eval e X.env) = eval e X.env := by rfl) : PE X (.Attribute e f pos) (SlX.tSl K ta f) := by subst h; exact SlX.pe_sl he hb
theorem pe_lzK (h : X.K = K) {e e2 : Expr} {te tf : TE} {p p2 pos pos2 : Pos} (hc : X.calm = true) (hgl : Gl X "list") (hml : X.mg "list" = none) (hg : Gl X "zip") (hm : X.mg "zip" = none) (he : PE X e te) (he2 : PE X e2 tf)
    (hs : starEach [e, e2] X.env = (false, eval e X.env) :: starEach [e2] X.env := by rfl) (hs2 : starEach [e2] X.env = (false, eval e2 X.env) :: starEach [] X.env := by rfl) (hpl : (backTo pos2 (starEach [e2] X.env)).any (·.1) = false := by rfl)
    (ho : starEach [.Call (.Name "zip" p2) [e, e2] [] pos2] X.env = (false, eval (.Call (.Name "zip" p2) [e, e2] [] pos2) X.env) :: starEach [] X.env := by rfl) :
    PE X (.Call (.Name "list" p) [.Call (.Name "zip" p2) [e, e2] [] pos2] [] pos) (DZ.tLz K te tf) := by subst h; exact DZ.pe_lz hc hgl hml hg hm he he2 hs hs2 hpl ho
theorem pi_enK (h : X.K = K) {e : Expr} {te : TE} {p pos tpos : Pos} {elts : List Expr} {kk : Nat} (hg : Gl X "enumerate") (hm : X.mg "enumerate" = none) (he : PE X e te)
    (na : starEach [e] X.env = (false, eval e X.env) :: starEach [] X.env := by rfl) :
    PI X (.Tuple elts kk tpos) (.Call (.Name "enumerate" p) [e] [] pos) (iEn K te 0) := by subst h; exact pi_en hg hm he na
end
end DL
end

section
set_option maxRecDepth 100000
set_option maxHeartbeats 4000000
/-! DTk: a draw. -/
namespace DL
open PySem PySem.Spec PyProof.Rows L2 DR
theorem take_inv {K : PySem.W.Frag} {cls : Nat → Addr} {vs : List V} {H : Hp} {Q : VK} {E : XK} (h : spF K cls F__law_take vs H Q E) :
    ∃ (u : Addr) (m a b e : Int) (n : Nat), vs = [.ref u, .int m] ∧ 0 < m ∧ m < 1073741824 ∧ n < 2 ^ 50 ∧ H u = some (.lst [.int a, .int b, .int e]) ∧ 0 ≤ a ∧ 0 ≤ b ∧ b < 2 ^ 62 ∧ 0 ≤ e ∧ e ≤ n ∧
      ∀ (r a' e' : Int), 0 ≤ r → r < m → 0 ≤ a' → 0 ≤ e' → e' ≤ e + 1 → Q (.int r) (upd H u (.lst [.int a', .int b, .int e'])) := by
  obtain ⟨u, me, P, n, ds, R, o, rs, ok, q⟩ := h
  unfold F__law_take at ok
  split at ok
  · rename_i m
    obtain ⟨h1, h2, h3, h4⟩ := ok
    cases rs with
    | cons r1 t =>
      cases t with
      | cons r2 t =>
        cases t
        cases r1
        cases r2
        obtain ⟨a, b, e, k1, k2, k3, k4, k5, k6⟩ := o.urn
        refine ⟨u, m, a, b, e, n, rfl, h1, h2, h3, k1, k2, k3, k4, k5, k6, fun r a' e' g1 g2 g3 g4 g5 => ?_⟩
        have ex : ExU u H (upd H u (.lst [.int a', .int b, .int e'])) := fun x w hx hw => by rw [upd_ne hx]; exact hw
        refine q _ _ (.int r) (n + 1) (h4 r g1 g2) ex ⟨⟨a', b, e', upd_same, g3, k3, k4, g4, by omega⟩, o.pu, fun x hx => ?_⟩ (.int r)
        by_cases z : x = u
        · rw [z, upd_same]; simp
        · rw [upd_ne z]; exact o.dom x hx
  · exact ok.elim
theorem take_len {K : PySem.W.Frag} {cls : Nat → Addr} {vs : List V} {H : Hp} {Q : VK} {E : XK} (h : spF K cls F__law_take vs H Q E) : vs.length = 2 := by
  obtain ⟨u, m, a, b, e, n, rfl, _⟩ := take_inv h
  rfl
def tTake (K : PySem.W.Frag) : TS := (tSeq (tIfS (tTest (tOp (rI0 fun i j => V.bl (decide (j < i))) (tOp (rIxL K) (tVar 0) (tC (V.int 0))) (tC (V.int 0)))) (tSeq (tAsg (tOp (rI (fun x j => 0 < j) fun i j => V.int (i % j)) (tCB (fun xs H Q => (∃ i, xs = [V.int i] ∧ Q (V.int i) H) ∨ ∃ k, xs = [V.bl k] ∧ Q (V.int (if k = true then 1 else 0)) H) (tCons (tOp (rIxL K) (tVar 0) (tC (V.int 0))) tNil)) (tVar 1)) (gName 2)) (tSeq (tAsg (tOp (rI CDiv fun i j => V.int (i / j)) (tOp (rIxL K) (tVar 0) (tC (V.int 0))) (tVar 1)) (gSub (tVar 0) (tC (V.int 0)) rSetL)) (tRet (tVar 2)))) tNext) (tSeq (tAsg (tOp (rI0 fun i j => V.int (i + j)) (tOp (rIxL K) (tVar 0) (tC (V.int 2))) (tC (V.int 1))) (gSub (tVar 0) (tC (V.int 2)) rSetL)) (tSeq (tAsg (tOp (rI (fun x j => 0 < j) fun i j => V.int (i % j)) (tCB (fun xs H Q => (∃ i, xs = [V.int i] ∧ Q (V.int i) H) ∨ ∃ k, xs = [V.bl k] ∧ Q (V.int (if k = true then 1 else 0)) H) (tCons (tOp (rI CMul fun i j => V.int (i * j)) (tOp (rI0 fun i j => V.int (i + j)) (tOp (rIxL K) (tVar 0) (tC (V.int 1))) (tOp (rI CMul fun i j => V.int (i * j)) (tC (V.int 48271)) (tOp (rIxL K) (tVar 0) (tC (V.int 2))))) (tOp (rI0 fun i j => V.int (i + j)) (tC (V.int 39373)) (tOp (rIxL K) (tVar 0) (tC (V.int 2))))) tNil)) (tC (V.int 2147483647))) (gName 3)) (tSeq (tAsg (tOp (rI0 fun i j => V.int (i + j)) (tOp (rI (fun x j => 0 < j) fun i j => V.int (i % j)) (tCB (fun xs H Q => (∃ i, xs = [V.int i] ∧ Q (V.int i) H) ∨ ∃ k, xs = [V.bl k] ∧ Q (V.int (if k = true then 1 else 0)) H) (tCons (tVar 3) tNil)) (tC (V.int 40009))) (tC (V.int 7))) (gName 4)) (tSeq (tAsg (tOp (rI (fun x j => 0 < j) fun i j => V.int (i % j)) (tCB (fun xs H Q => (∃ i, xs = [V.int i] ∧ Q (V.int i) H) ∨ ∃ k, xs = [V.bl k] ∧ Q (V.int (if k = true then 1 else 0)) H) (tCons (tOp (rI CMul fun i j => V.int (i * j)) (tOp (rI0 fun i j => V.int (i + j)) (tOp (rI0 fun i j => V.int (i + j)) (tVar 3) (tOp (rIxL K) (tVar 0) (tC (V.int 2)))) (tOp (rI CDiv fun i j => V.int (i / j)) (tOp (rIxL K) (tVar 0) (tC (V.int 1))) (tC (V.int 1000003)))) (tVar 4)) tNil)) (tC (V.int 2147483629))) (gName 5)) (tRet (tOp (rI (fun x j => 0 < j) fun i j => V.int (i % j)) (tCB (fun xs H Q => (∃ i, xs = [V.int i] ∧ Q (V.int i) H) ∨ ∃ k, xs = [V.bl k] ∧ Q (V.int (if k = true then 1 else 0)) H) (tCons (tOp (rI CDiv fun i j => V.int (i / j)) (tOp (rI (fun x j => 0 < j) fun i j => V.int (i % j)) (tCB (fun xs H Q => (∃ i, xs = [V.int i] ∧ Q (V.int i) H) ∨ ∃ k, xs = [V.bl k] ∧ Q (V.int (if k = true then 1 else 0)) H) (tCons (tOp (rI0 fun i j => V.int (i + j)) (tOp (rI CMul fun i j => V.int (i * j)) (tVar 5) (tC (V.int 48271))) (tVar 3)) tNil)) (tC (V.int 2147483587))) (tC (V.int 64))) tNil)) (tVar 1))))))))
section
variable {K : PySem.W.Frag} {σ : L2.St} {H : Hp} {Q : VK} {u : Addr} {a b e : Int}
theorem ix0 (h : σ[0]? = some (some (.ref u))) (hH : H u = some (.lst [.int a, .int b, .int e])) (q : Q (.int a) H) : (tOp (rIxL K) (tVar 0) (tC (V.int 0))) σ H Q := ⟨.ref u, h, u, _, 0, .int a, rfl, rfl, SqL.of hH, rfl, q⟩
theorem ix1 (h : σ[0]? = some (some (.ref u))) (hH : H u = some (.lst [.int a, .int b, .int e])) (q : Q (.int b) H) : (tOp (rIxL K) (tVar 0) (tC (V.int 1))) σ H Q := ⟨.ref u, h, u, _, 1, .int b, rfl, rfl, SqL.of hH, rfl, q⟩
theorem ix2 (h : σ[0]? = some (some (.ref u))) (hH : H u = some (.lst [.int a, .int b, .int e])) (q : Q (.int e) H) : (tOp (rIxL K) (tVar 0) (tC (V.int 2))) σ H Q := ⟨.ref u, h, u, _, 2, .int e, rfl, rfl, SqL.of hH, rfl, q⟩
end
theorem take_run {K : PySem.W.Frag} {cls : Nat → Addr} {vs : List V} {H : Hp} {Q : VK} {E : XK} (h : spF K cls F__law_take vs H Q E) : tTake K { nx := fun _ H' => Q .non H', rt := Q } (L2.start ["urn", "below", "drawn", "once", "far", "twice"] vs) H := by
  obtain ⟨u, m, a, b, e, n, rfl, hm, hm2, hn, hH, ha, hb, hb2, he, hen, q⟩ := take_inv h
  refine ix0 rfl hH ⟨a, 0, rfl, rfl, decide (0 < a), rfl, ?_⟩
  refine ite2 (fun _ => ?_) (fun _ => ?_)
  · refine ix0 rfl hH (.inl ⟨a, rfl, .int m, rfl, a, m, rfl, rfl, hm, ?_⟩)
    refine ix0 rfl hH ⟨.int m, rfl, a, m, rfl, rfl, ⟨hm, hm2⟩, .ref u, rfl, u, _, 0, 0, rfl, rfl, hH, rfl, ?_⟩
    exact ⟨.int (a % m), rfl, q (a % m) (a / m) e (Int.emod_nonneg a (by omega)) (Int.emod_lt_of_pos a hm) (Int.ediv_nonneg ha (by omega)) he (by omega)⟩
  · refine ix2 rfl hH ⟨e, 1, rfl, rfl, .ref u, rfl, u, _, 2, 2, rfl, rfl, hH, rfl, ?_⟩
    have hH1 : (upd H u (.lst ([V.int a, .int b, .int e].set 2 (.int (e + 1))))) u = some (.lst [V.int a, .int b, .int (e + 1)]) := upd_same
    refine ix1 rfl hH1 (ix2 rfl hH1 ⟨_, _, rfl, rfl, .inl ⟨by decide, by decide⟩, _, _, rfl, rfl, ix2 rfl hH1 ⟨_, _, rfl, rfl, _, _, rfl, rfl, .inr ⟨by omega, by omega⟩, .inl ⟨_, rfl, _, _, rfl, rfl, (show (0 : Int) < 2147483647 by decide), ?_⟩⟩⟩)
    dsimp only
    generalize ho : (b + 48271 * (e + 1)) * (39373 + (e + 1)) % 2147483647 = once
    have o1 : 0 ≤ once := by rw [← ho]; exact Int.emod_nonneg _ (by decide)
    have o2 : once < 2147483647 := by rw [← ho]; exact Int.emod_lt_of_pos _ (by decide)
    refine ⟨.int once, rfl, .inl ⟨_, rfl, _, _, rfl, rfl, (show (0 : Int) < 40009 by decide), _, _, rfl, rfl, ?_⟩⟩
    dsimp only
    generalize hf : once % 40009 + 7 = far
    have f1 : 7 ≤ far := by have := Int.emod_nonneg once (show (40009 : Int) ≠ 0 by decide); omega
    have f2 : far < 40016 := by have := Int.emod_lt_of_pos once (show (0 : Int) < 40009 by decide); omega
    refine ⟨.int once, rfl, ix2 rfl hH1 ⟨_, _, rfl, rfl, ix1 rfl hH1 ⟨_, _, rfl, rfl, (show CDiv _ 1000003 from ⟨by decide, by decide⟩), _, _, rfl, rfl, .int far, rfl, _, _, rfl, rfl, .inr ⟨by omega, by omega⟩, .inl ⟨_, rfl, _, _, rfl, rfl, (show (0 : Int) < 2147483629 by decide), ?_⟩⟩⟩⟩
    dsimp only
    generalize ht : (once + (e + 1) + b / 1000003) * far % 2147483629 = twice
    refine ⟨.int twice, rfl, _, _, rfl, rfl, .inr ⟨by decide, by decide⟩, .int once, rfl, _, _, rfl, rfl, .inl ⟨_, rfl, _, _, rfl, rfl, (show (0 : Int) < 2147483587 by decide), _, _, rfl, rfl, (show CDiv _ 64 from ⟨by decide, by decide⟩), .inl ⟨_, rfl, .int m, rfl, _, _, rfl, rfl, hm, ?_⟩⟩⟩
    exact q _ a (e + 1) (Int.emod_nonneg _ (by omega)) (Int.emod_lt_of_pos _ hm) ha (by omega) (by omega)
end DL
end

section
set_option maxRecDepth 100000
set_option maxHeartbeats 4000000
/-! DTl: the law's head: its cells, its box. -/
namespace DL
open PySem PySem.Spec PyProof.Rows L2 DR
def spCells (K : PySem.W.Frag) : Sp := fun vs H Q _ => ∃ (a : Addr) (ns : List Int), vs = [.ref a, .int 1] ∧ SqL K H a (ns.map V.int) ∧ ns.length ≤ 63 ∧
  ∀ (H' : Hp) (p : Addr) (z : Int), (∀ b o, H b = some o → H' b = some o) → H p = none → H' p = some (.lst [.int z]) → Q (.ref p) H'
/-- B bounds the box's second number -/
def spBox (K : PySem.W.Frag) : Sp := fun vs H Q _ => ∃ (a : Addr) (z : Int), vs = [.ref a, .int 0] ∧ SqL K H a [.int z] ∧
  ∀ (p : Addr) (x y : Int), H p = none → 0 ≤ x → 0 ≤ y → y < 2 ^ 62 → Q (.ref p) (upd H p (.lst [.int x, .int y, .int 0]))
theorem cells_len {K : PySem.W.Frag} {vs : List V} {H : Hp} {Q : VK} {E : XK} (h : spCells K vs H Q E) : vs.length = 2 := by
  obtain ⟨a, ns, rfl, _⟩ := h; rfl
theorem box_len {K : PySem.W.Frag} {vs : List V} {H : Hp} {Q : VK} {E : XK} (h : spBox K vs H Q E) : vs.length = 2 := by
  obtain ⟨a, ns, rfl, _⟩ := h; rfl
def tBox (K : PySem.W.Frag) (c : Int) : TS := (tSeq (tAsg (tIf (tTest (tOp (rI0 fun i j => V.bl (decide (i < j))) (tVar 1) (tCB (fun xs H_1 Q => ∃ x n, xs = [x] ∧ LenV K x H_1 n ∧ Q (V.int ↑n) H_1) (tCons (tVar 0) tNil)))) (tOp (rIxL K) (tVar 0) (tVar 1)) (tC (V.int 0))) (gName 2)) (tRet (tLst (tCons (tOp (rI CMul fun i j => V.int (i * j)) (tCB (fun xs H Q => ∃ i, xs = [V.int i] ∧ Q (V.int (if i < 0 then -i else i)) H) (tCons (tVar 2) tNil)) (tCB (fun xs H Q => (∃ i, xs = [V.int i] ∧ Q (V.int i) H) ∨ ∃ k, xs = [V.bl k] ∧ Q (V.int (if k = true then 1 else 0)) H) (tCons (tOp (rI0 fun i j => V.bl (decide (j ≤ i))) (tCB (fun xs H Q => ∃ i, xs = [V.int i] ∧ Q (V.int (if i < 0 then -i else i)) H) (tCons (tVar 2) tNil)) (tOp (rI CPow fun i j => V.int (i ^ j.toNat)) (tC (V.int 10)) (tC (V.int 18)))) tNil))) (tCons (tOp (rI0 fun i j => V.int (i + j)) (tOp (rI0 fun i j => V.int (i + j)) (tOp (rI (fun x j => 0 < j) fun i j => V.int (i % j)) (tCB (fun xs H Q => (∃ i, xs = [V.int i] ∧ Q (V.int i) H) ∨ ∃ k, xs = [V.bl k] ∧ Q (V.int (if k = true then 1 else 0)) H) (tCons (tVar 2) tNil)) (tC (V.int 2305843009213693951))) (tOp (rI CMul fun i j => V.int (i * j)) (tC (V.int 39373)) (tVar 1))) (tC (V.int c))) (tCons (tC (V.int 0)) tNil))))))
theorem box_run {K : PySem.W.Frag} {c : Int} {vs : List V} {H : Hp} {Q : VK} {E : XK} (h : spBox K vs H Q E) (h1 : 0 ≤ c := by decide) (h2 : c < 2000000000000000000 := by decide) : tBox K c { nx := fun _ H' => Q .non H', rt := Q } (L2.start ["script", "k", "cell"] vs) H := by
  obtain ⟨a, z, rfl, hS, q⟩ := h
  refine ⟨.int 0, rfl, .ref a, rfl, .ref a, 1, rfl, .inl ⟨_, hS, rfl⟩, 0, 1, rfl, rfl, decide (0 < 1), rfl, iteT ?_⟩
  refine ⟨.ref a, rfl, .int 0, rfl, a, _, 0, .int z, rfl, rfl, hS, rfl, ?_⟩
  refine ⟨.int z, rfl, z, rfl, .int z, rfl, z, rfl, _, _, rfl, rfl, (show CPow 10 18 from ⟨by decide, by decide, by decide⟩), _, _, rfl, rfl, .inr ⟨_, rfl, _, _, rfl, rfl, .inr ?_, ?_⟩⟩
  · (repeat' split) <;> exact ⟨by decide, by decide⟩
  · refine ⟨.int z, rfl, .inl ⟨z, rfl, _, _, rfl, rfl, (show (0 : Int) < 2305843009213693951 by decide), .int 0, rfl, _, _, rfl, rfl, .inl ⟨by decide, by decide⟩, _, _, rfl, rfl, _, _, rfl, rfl, ?_⟩⟩
    refine ⟨by show 3 ≤ sizeLine; decide, fun p hp => q p _ _ hp ?_ ?_ ?_⟩
    · refine Int.mul_nonneg ?_ ?_
      · split <;> omega
      · (repeat' split) <;> decide
    · have := Int.emod_nonneg z (show (2305843009213693951 : Int) ≠ 0 by decide)
      omega
    · have := Int.emod_lt_of_pos z (show (0 : Int) < 2305843009213693951 by decide)
      omega
def tCells (K : PySem.W.Frag) : TS := (tSeq (tAsg (tOrT K (tCB (fun xs H Q => ∃ p ys, xs = [V.ref p] ∧ (SqL K H p ys ∨ SqT K H p ys) ∧ ∀ l, H l = none → Q (V.ref l) (upd H l (.lst ys))) (tCons (L2.tSl (rSlL K) (tVar 0) tNoPart (tPart (tVar 1))) tNil)) (tLst (tCons (tC (V.int 0)) tNil))) (gName 2)) (tSeq (tFor (iEn K (L2.tSl (rSlL K) (tVar 0) (tPart (tVar 1)) (tPart (tC (V.int 63)))) 0) (gTup K 2 (gCons (gName 3) (gCons (gName 4) gNil))) (tSeq (tAsg (tOp (rI (fun x j => 0 < j) fun i j => V.int (i % j)) (tCB (fun xs H Q => (∃ i, xs = [V.int i] ∧ Q (V.int i) H) ∨ ∃ k, xs = [V.bl k] ∧ Q (V.int (if k = true then 1 else 0)) H) (tCons (tVar 3) tNil)) (tVar 1)) (gName 5)) (tAsg (tOp (rI0 fun i j => V.int (i + j)) (tOp (rIxL K) (tVar 2) (tVar 5)) (tOp (rI CMul fun i j => V.int (i * j)) (tVar 4) (tOp (rI0 fun i j => V.int (i + j)) (tVar 3) (tC (V.int 2))))) (gSub (tVar 2) (tVar 5) rSetL)))) (tRet (tVar 2))))
theorem cut1 (ns : List Int) : cutV (ns.map V.int) none (some 1) = (ns.take 1).map V.int := by
  unfold cutV
  rw [show HT.sIx (ns.map V.int).length (ns.map V.int).length (some 1) = min 1 (ns.map V.int).length from HT.sIx_nat _ _ 1, HT.sIx_none]
  cases ns with
  | nil => rfl
  | cons x r => simp
theorem cutAny (ns : List Int) (lo hi : Option Int) : ∃ ms : List Int, cutV (ns.map V.int) lo hi = ms.map V.int := by
  unfold cutV
  rw [← List.map_drop, ← List.map_take]
  exact ⟨_, rfl⟩
theorem cells_run {K : PySem.W.Frag} {vs : List V} {H : Hp} {Q : VK} {E : XK} (h : spCells K vs H Q E) : tCells K { nx := fun _ H' => Q .non H', rt := Q } (L2.start ["script", "many", "cells", "k", "cell", "at"] vs) H := by
  obtain ⟨a, ns, rfl, hS, hl, q⟩ := h
  -- behind cells = ..
  have rest : ∀ (H1 : Hp) (p : Addr) (z : Int), (∀ b o, H b = some o → H1 b = some o) → H p = none → H1 p = some (.lst [.int z]) →
      (tSeq (tFor (iEn K (L2.tSl (rSlL K) (tVar 0) (tPart (tVar 1)) (tPart (tC (V.int 63)))) 0) (gTup K 2 (gCons (gName 3) (gCons (gName 4) gNil))) (tSeq (tAsg (tOp (rI (fun x j => 0 < j) fun i j => V.int (i % j)) (tCB (fun xs H Q => (∃ i, xs = [V.int i] ∧ Q (V.int i) H) ∨ ∃ k, xs = [V.bl k] ∧ Q (V.int (if k = true then 1 else 0)) H) (tCons (tVar 3) tNil)) (tVar 1)) (gName 5)) (tAsg (tOp (rI0 fun i j => V.int (i + j)) (tOp (rIxL K) (tVar 2) (tVar 5)) (tOp (rI CMul fun i j => V.int (i * j)) (tVar 4) (tOp (rI0 fun i j => V.int (i + j)) (tVar 3) (tC (V.int 2))))) (gSub (tVar 2) (tVar 5) rSetL)))) (tRet (tVar 2))) { nx := fun _ H' => Q .non H', rt := Q } [some (.ref a), some (.int 1), some (.ref p), none, none, none] H1 := by
    intro H1 p z k1 hp h1
    have kS : ∀ H2 : Hp, (∀ b o, H b = some o → H2 b = some o) → SqL K H2 a (ns.map V.int) := fun H2 k => by
      rcases hS with (h | ⟨o, h⟩) | h
      · exact .inl (.inl (k _ _ h))
      · exact .inl (.inr ⟨o, k _ _ h⟩)
      · exact .inr h
    obtain ⟨ms, hms⟩ := cutAny ns (some 1) (some 63)
    refine ⟨.ref a, rfl, .int 1, rfl, 1, rfl, 63, rfl, a, _, rfl, kS H1 k1, fun c hc => ?_⟩
    rw [hms]
    have nc : c ≠ p := fun e => by rw [e, h1] at hc; cases hc
    refine ⟨false, c, ms.map V.int, rfl, SqL.of upd_same, ?_⟩
    have W : Walk (ItE K false c (ms.map V.int) 0) (ms.map V.int).length (fun G => SqL K G c (ms.map V.int)) (fun i G v G' => ∃ T m, v = .ref T ∧ G T = none ∧ G' = upd G T (.tup [.int (0 + (i : Int)), .int m])) :=
      ⟨fun i G hi hG => ⟨hi, hG⟩, fun G hG => ⟨Nat.le_refl _, hG⟩, fun i G v G' hi hG hy => by
        obtain ⟨T, x, e1, e2, e3, e4⟩ := hy
        obtain ⟨m, _, em⟩ := List.mem_map.mp (List.mem_of_getElem? e4)
        exact ⟨T, m, e1, e2, by rw [e3, ← em]⟩⟩
    refine for_it W (fun i σ G => ∃ z' y3 y4 y5, σ = [some (.ref a), some (.int 1), some (.ref p), y3, y4, y5] ∧ G p = some (.lst [.int z']) ∧ G c = some (.lst (ms.map V.int)) ∧ ∀ b o, H b = some o → G b = some o) ?_ (fun i σ G _ hv => ?_) (fun i v σ G G' hi hv hy => ?_) (fun σ G hv => ?_)
    · exact ⟨z, none, none, none, rfl, by rw [upd_ne (Ne.symm nc)]; exact h1, upd_same, fun b o e => by rw [upd_ne (ne_of_none (k1 b o e) hc)]; exact k1 b o e⟩
    · obtain ⟨z', y3, y4, y5, rfl, g1, g2, g3⟩ := hv
      exact SqL.of g2
    · obtain ⟨z', y3, y4, y5, rfl, g1, g2, g3⟩ := hv
      obtain ⟨T, m, rfl, hT, rfl⟩ := hy
      have nTp : p ≠ T := ne_of_none g1 hT
      have nTc : c ≠ T := ne_of_none g2 hT
      refine ⟨T, _, rfl, .inl (.inl upd_same), rfl, _, _, rfl, _, _, rfl, rfl, ?_⟩
      refine ⟨.int (0 + (i : Int)), rfl, .inl ⟨_, rfl, .int 1, rfl, _, _, rfl, rfl, (show (0 : Int) < 1 by decide), ?_⟩⟩
      have e0 : (0 + (i : Int)) % 1 = 0 := Int.emod_one _
      dsimp only
      rw [e0]
      have gp : (upd G T (.tup [V.int (0 + (i : Int)), V.int m])) p = some (.lst [.int z']) := by rw [upd_ne nTp]; exact g1
      refine ⟨.ref p, rfl, .int 0, rfl, p, _, 0, .int z', rfl, rfl, SqL.of gp, rfl, ?_⟩
      have hi' : i < 1000000 := by
        have h3 : (cutV (ns.map V.int) (some 1) (some 63)).length ≤ (ns.map V.int).length := cutV_length _ _ _
        rw [hms, List.length_map, List.length_map] at h3
        rw [List.length_map] at hi
        omega
      refine ⟨.int m, rfl, .int (0 + (i : Int)), rfl, _, _, rfl, rfl, _, _, rfl, rfl, .inr ⟨by omega, by omega⟩, _, _, rfl, rfl, ?_⟩
      refine ⟨.ref p, rfl, .int 0, rfl, p, _, 0, 0, rfl, rfl, gp, rfl, ?_⟩
      refine ⟨_, _, _, _, rfl, upd_same, by rw [upd_ne nc, upd_ne nTc]; exact g2, fun b o e => ?_⟩
      have nb : b ≠ p := fun x => by rw [x, hp] at e; cases e
      rw [upd_ne nb, upd_ne (ne_of_none (g3 b o e) hT)]
      exact g3 b o e
    · obtain ⟨z', y3, y4, y5, rfl, g1, g2, g3⟩ := hv
      exact ⟨.ref p, rfl, q G p z' g3 hp g1⟩
  refine ⟨.ref a, rfl, .int 1, rfl, 1, rfl, a, _, rfl, hS, fun c hc => ?_⟩
  rw [cut1]
  refine ⟨c, _, rfl, .inl (SqL.of upd_same), fun p hp => ?_⟩
  have e1 : ∀ b o, H b = some o → upd H c (.lst ((ns.take 1).map V.int)) b = some o := fun b o e => by rw [upd_ne (ne_of_none e hc)]; exact e
  have npc : p ≠ c := fun e => by rw [e, upd_same] at hp; cases hp
  have hpH : H p = none := by rw [upd_ne npc] at hp; exact hp
  have e2 : ∀ b o, H b = some o → upd (upd H c (.lst ((ns.take 1).map V.int))) p (.lst ((ns.take 1).map V.int)) b = some o := fun b o e => by rw [upd_ne (ne_of_none (e1 b o e) hp)]; exact e1 b o e
  refine ⟨_, .inl ⟨_, SqL.of upd_same, rfl⟩, ?_⟩
  cases ns with
  | nil =>
    refine iteF ⟨by show 1 ≤ sizeLine; decide, fun r hr => ?_⟩
    refine rest _ r 0 (fun b o e => ?_) ?_ upd_same
    · rw [upd_ne (ne_of_none (e2 b o e) hr)]; exact e2 b o e
    · cases q' : H r with
      | none => rfl
      | some o => rw [e2 r o q'] at hr; cases hr
  | cons n0 r0 => exact iteT (rest _ p n0 e2 hpH upd_same)
/-! ### the law -/
def spLaw (K : PySem.W.Frag) : Sp := fun vs H Q _ => ∃ (a : Addr) (ns : List Int), vs = [.ref a] ∧ SqL K H a (ns.map V.int) ∧ ns.length ≤ 63 ∧ ∀ H', Q (.bl true) H'
theorem law_len {K : PySem.W.Frag} {vs : List V} {H : Hp} {Q : VK} {E : XK} (h : spLaw K vs H Q E) : vs.length = 1 := by
  obtain ⟨a, ns, rfl, _⟩ := h; rfl
/-- all ways of the law's rest say True -/
def Says (B : Env → T Out) (m : Nat) : Prop := (B (.no :: .val .urn :: List.replicate m .no)).ok 0 fun o _ => o = .rt (.bl true)
theorem law_run {K : PySem.W.Frag} {cls : Nat → Addr} {x0 x1 : Str} {N : List Str} {t : TS} {B : Env → T Out} {vs : List V} {H : Hp} {Q : VK} {E : XK} (hB : ∀ u me, EvS ⟨K, u, cls, me⟩ t B) (ok : Says B N.length) (h : spLaw K vs H Q E) :
    (tSeq (tAsg (tCall (spBox K) [] C8.E0 (tCons (tCall (spCells K) [] C8.E0 (tCons (tVar 0) (tCons (tC (.int 1)) tNil))) (tCons (tC (.int 0)) tNil))) (gName 1)) t) { nx := fun _ H' => Q .non H', rt := Q } (L2.start (x0 :: x1 :: N) vs) H := by
  obtain ⟨a, ns, rfl, hS, hl, q⟩ := h
  refine ⟨.ref a, rfl, a, ns, rfl, hS, hl, fun H1 p z k1 hp h1 => ?_⟩
  refine ⟨p, z, rfl, SqL.of h1, fun u x y hu hx hy hy2 => ?_⟩
  have o : Ok ⟨K, u, cls, 0⟩ (fun b => b = u) (upd H1 u (.lst [.int x, .int y, .int 0])) 0 := ⟨⟨x, y, 0, upd_same, hx, hy, hy2, Int.le_refl _, Int.le_refl _⟩, rfl, fun b hb => by rw [hb, upd_same]; simp⟩
  refine hB u 0 (fun b => b = u) (fun b => b = u) _ (upd H1 u (.lst [.int x, .int y, .int 0])) _ (.no :: .val .urn :: List.replicate N.length .no) 0 _ (sr_start o ⟨?_, fun i s hs => ?_⟩ (fun i d hd => ?_) rfl) ?_
  · show (_ : Nat) = (List.length _)
    unfold L2.start
    simp
  · match i with
    | 0 => cases hs; trivial
    | 1 => cases hs; exact ⟨.ref u, rfl, .urn⟩
    | i + 2 =>
      have hs' : (List.replicate N.length Slot.no)[i]? = some s := hs
      rw [List.getElem?_replicate] at hs'
      split at hs'
      · cases hs'; trivial
      · cases hs'
  · match i with
    | 0 => cases hd
    | 1 => cases hd
    | i + 2 =>
      have hs' : (List.replicate N.length Slot.no)[i]? = some (.own d) := hd
      rw [List.getElem?_replicate] at hs'
      split at hs' <;> cases hs'
  · refine T.ok_mono ok fun o k ho => ?_
    subst ho
    exact fun v H' _ _ r => by cases r; exact q H'
end DL
end

section
set_option maxRecDepth 100000
set_option maxHeartbeats 4000000
/-! DEnd: what the top has written, from facts that k_is shows. -/
namespace DL
open PySem PySem.Spec PyProof.Rows L2 DR
section
variable {K : PySem.W.Frag} {mg : Str → Option Value} {h : Heap} {oc kV doc pm cdv ct : Value} {od an : Option Addr} {osl : Array (Option Value)}
theorem defW_mk {x : Str} {st : Stmt} {ps : List Str} {f : Addr} (X : K.In h) (G : h.Ns mainGlobals mg) (a : PySem.W.nsIn K mainGlobals x = some (some (.ref f)))
    (l : K.lookup f = some ⟨oc, od, .func (PySem.W.fnOf x x (C8.fnArgs st) (C8.fnBody st) (C8.fnScope st) .none kV doc pm an cdv ct), osl⟩) (c : PySem.W.codeIn K cdv x = true) (k : PySem.W.keepIn K (.ref f) = true)
    (hb : ∀ us : List Value, us.length = ps.length → bindArgs (PySem.W.fnOf x x (C8.fnArgs st) (C8.fnBody st) (C8.fnScope st) .none kV doc pm an cdv ct) ⟨us, []⟩ = pure (ps.zip us)) : DefW K mg x st ps :=
  ⟨f, _, ⟨⟨oc, od, .none, kV, doc, pm, an, cdv, ct, osl, rfl, l, c⟩, PySem.W.mg_of X G a, k⟩, .all hb⟩
theorem prW_mk {x qual : Str} {C : Addr} {st : Stmt} {p g : Addr} {rest : List Value} (h1 : PySem.W.findIn K (.ref C) x = some (some (.ref p))) (h2 : PySem.W.specialIn K (.ref p) "__get__" = some (some (.builtin "property.__get__"))) (h3 : PySem.W.takesIn K (.ref p) = some true)
    (h4 : PySem.W.recIn K p "property" = some (.ref g :: rest)) (l : K.lookup g = some ⟨oc, od, .func (PySem.W.fnOf x qual (C8.fnArgs st) (C8.fnBody st) (C8.fnScope st) .none kV doc pm an cdv ct), osl⟩) (c : PySem.W.codeIn K cdv qual = true)
    (hb : ∀ us : List Value, us.length = 1 → bindArgs (PySem.W.fnOf x qual (C8.fnArgs st) (C8.fnBody st) (C8.fnScope st) .none kV doc pm an cdv ct) ⟨us, []⟩ = pure ([("self" : Str)].zip us)) : PrW K C x qual st :=
  ⟨p, g, _, h1, h2, h3, ⟨rest, h4⟩, ⟨oc, od, .none, kV, doc, pm, an, cdv, ct, osl, rfl, l, c⟩, .all hb⟩
theorem mkW_mk {x qual : Str} {C : Addr} {st : Stmt} {ps : List Str} {f : Addr} (X : K.In h) (G : h.Ns mainGlobals mg) (a : PySem.W.nsIn K mainGlobals x = some (some (.ref C))) (m : PySem.W.makesIn K C = true) (i : PySem.W.findIn K (.ref C) "__init__" = some (some (.ref f)))
    (fn : PySem.W.isFn K (.ref f) = true) (k : PySem.W.keepIn K (.ref C) = true) (l : K.lookup f = some ⟨oc, od, .func (PySem.W.fnOf "__init__" qual (C8.fnArgs st) (C8.fnBody st) (C8.fnScope st) .none kV doc pm an cdv ct), osl⟩) (c : PySem.W.codeIn K cdv qual = true)
    (hb : ∀ us : List Value, us.length = ps.length → bindArgs (PySem.W.fnOf "__init__" qual (C8.fnArgs st) (C8.fnBody st) (C8.fnScope st) .none kV doc pm an cdv ct) ⟨us, []⟩ = pure (ps.zip us)) : MkW K mg C x qual st ps :=
  ⟨f, _, ⟨m, i, fn, k⟩, PySem.W.mg_of X G a, ⟨oc, od, .none, kV, doc, pm, an, cdv, ct, osl, rfl, l, c⟩, .all hb⟩
/-- .. whose __init__ has a default -/
theorem mkW_mkD {x qual : Str} {C : Addr} {st : Stmt} {ps : List Str} {f T : Addr} {cT : Value} {dT : Option Addr} {its : List Value} {mT : Nat} {slT : Array (Option Value)} (X : K.In h) (G : h.Ns mainGlobals mg) (a : PySem.W.nsIn K mainGlobals x = some (some (.ref C))) (m : PySem.W.makesIn K C = true) (i : PySem.W.findIn K (.ref C) "__init__" = some (some (.ref f)))
    (fn : PySem.W.isFn K (.ref f) = true) (k : PySem.W.keepIn K (.ref C) = true) (l : K.lookup f = some ⟨oc, od, .func (PySem.W.fnOf "__init__" qual (C8.fnArgs st) (C8.fnBody st) (C8.fnScope st) (.ref T) kV doc pm an cdv ct), osl⟩) (c : PySem.W.codeIn K cdv qual = true)
    (lT : K.lookup T = some ⟨cT, dT, .seq its.toArray mT, slT⟩)
    (hb : ∀ us : List Value, us.length = ps.length → ∃ k, bindArgs (PySem.W.fnOf "__init__" qual (C8.fnArgs st) (C8.fnBody st) (C8.fnScope st) (.ref T) kV doc pm an cdv ct) ⟨us, []⟩ = seqItems? (.ref T) >>= k ∧ k (some its.toArray) = pure (ps.zip us)) : MkW K mg C x qual st ps :=
  ⟨f, _, ⟨m, i, fn, k⟩, PySem.W.mg_of X G a, ⟨oc, od, .ref T, kV, doc, pm, an, cdv, ct, osl, rfl, l, c⟩, fun s us X' hlen => by
    rw [List.append_nil] at hlen ⊢
    obtain ⟨kk, e1, e2⟩ := hb us hlen
    refine BindsTo.of_looks fun M => ?_
    rw [e1]
    exact looks_items X' lT rfl (.of_pure e2)⟩
theorem fld_mk {C p : Addr} {f : Str} {j : Nat} (sc : SlX.SCls K C) (h1 : PySem.W.findIn K (.ref C) f = some (some (.ref p))) (h2 : PySem.W.specialIn K (.ref p) "__get__" = some (some (.builtin "member_descriptor.__get__"))) (h3 : PySem.W.takesIn K (.ref p) = some true)
    (h4 : PySem.W.typeIn K (.ref p) = some (.type "member_descriptor")) (h5 : PySem.W.slotIn K p C = some j) (lt : j < 1000 := by decide) : Fld K C f j := ⟨sc, p, h1, h2, h3, h4, h5, lt⟩
theorem glW_str {x z : Str} {t : Tok} (X : K.In h) (G : h.Ns mainGlobals mg) (a : PySem.W.nsIn K mainGlobals x = some (some (.str z t))) : GlW K mg x (.str z) (.str z) := ⟨⟨_, PySem.W.mg_of X G a, t, rfl⟩, fun _ _ _ => .str _⟩
theorem glW_strs {x : Str} {T : Addr} {o : Obj} {zs : List Str} {its : List Value} {n : Nat} (X : K.In h) (G : h.Ns mainGlobals mg) (a : PySem.W.nsIn K mainGlobals x = some (some (.ref T))) (l : K.lookup T = some o) (hd : o.dict = none) (hc : o.cls = .type "tuple") (hz : o.data = .seq its.toArray n)
    (hl : its.length ≤ sizeLine) (hv : Vals (zs.map V.str) its) : GlW K mg x (.ref T) (.tup (zs.map D.str)) :=
  ⟨⟨_, PySem.W.mg_of X G a, rfl⟩, fun c hK G' => by
    subst hK
    refine .tup (.inr ⟨o, its.toArray, n, hd, l, hc, hz, by simp only [List.size_toArray]; exact hl, hv⟩) ?_
    clear hv hl hz
    induction zs with
    | nil => exact .nil
    | cons z zs ih => exact .cons (.str z) ih⟩
end
end DL
end

section
set_option maxRecDepth 100000
set_option maxHeartbeats 4000000
/-! DN: an own ==, an own [], powers, x[::-1]. -/
namespace DL
open PySem PySem.Spec PyProof.Rows L2 DR
/-- a method of the class at C -/
structure Mt (P : Program) (w : World) (K : PySem.W.Frag) (mg : Str → Option Value) (base : Heap) (n : Nat) (C : Addr) (f : Str) (sp : Sp) : Prop where
  sc : SlX.SCls K C
  ex : ∃ g, PySem.W.findIn K (.ref C) f = some (some (.ref g)) ∧ PySem.W.isFn K (.ref g) = true ∧ PySem.W.fnIn K g = true ∧ FnR P w K mg base C8.CX0 n g sp
section
variable {X : Cx} {C : Addr} {n j : Nat} {sp : Sp}
theorem notFirst_self (K : PySem.W.Frag) (C : Addr) : PySem.W.notFirst K C (.ref C) = true := by
  unfold PySem.W.notFirst
  rw [Bool.or_eq_true]
  exact .inl (by simp)
theorem op_ownEq {K : PySem.W.Frag} (hK : X.K = K) (h : Mt X.prog X.w X.K X.mg X.base n C "__eq__" sp) (hr : Room j X.A) (hk : n ≤ j) : OpR X (compareOp .Eq) (SlX.rOwn K C sp C8.E0) := by
  subst hK
  obtain ⟨g, h1, h2, _, F⟩ := h.ex
  exact SlX.op_own (fun _ _ => rfl) h1 h2 F (hr.mono hk) C8.pass0
/-- x[i], x an instance of the class at C whose def for [] is at g -/
def rOwnIx (C : Addr) (sp : Sp) : R2 := fun x y H Q => ∃ a dx vs, x = .ref a ∧ SlX.Slt H a C dx vs ∧ sp [x, y] H Q C8.E0
theorem pe_ixOwn {a b : Expr} {ta tb : TE} {pos : Pos} (h : Mt X.prog X.w X.K X.mg X.base n C "__getitem__" sp) (hr : Room j X.A) (hk : n + 1 ≤ j) (ha : PE X a ta) (hb : PE X b tb)
    (hs : ∀ o i, subscripted b true o i = runValue (.builtin "lifetime.subscript" ⟨[o, i], []⟩) := by intros; with_unfolding_all rfl) : PE X (.Subscript a b pos) (tOp (rOwnIx C sp) ta tb) := by
  obtain ⟨g, h1, h2, h3, F⟩ := h.ex
  refine ⟨fun pins s σ H Q I h => ?_⟩
  refine Subscript_ (binT ha hb I h fun v u s2 x y H2 I2 rx ry q => ?_)
  obtain ⟨p, dx, vs, rfl, hsl, q⟩ := q
  cases (show v = Value.ref p from rx)
  obtain ⟨sl, od, _, J, _⟩ := SlX.slt_inst I2 hsl
  obtain ⟨m, hF⟩ := I2.fr
  have hr2 : Room n X.A.in1 := Room.in1 (hr.mono hk)
  refine PySem.W.sub_K hF I2.ok.mod.kin J h1 h3 h2 ?_ (hs _ _)
  exact wpAny_call (SlX.run_at (us := [.ref p, u]) (ws := [.ref p, y]) F hr2 I2.env0.in1 C8.pass0 I2 (.cons rfl (.cons ry .nil)) q)
end
section
variable {c : Ct}
theorem RepX.obj {P : Addr → Prop} {H : Hp} {v : V} {k : Nat} {fs : List D} (h : RepX c P H v (.obj k fs)) : Rep c (Msk P H) v (.obj k fs) := by
  rcases h with h | ⟨a, xs, ds, h1, h2, h3, h4, h5⟩
  · exact h
  · cases h3
/-- x == y by the class's own def -/
def ownD (kk : Nat) (F : List D → T D) : D → D → T D := fun x y => match x with
  | .obj k fs => (match y with
    | .obj k' gs => (match decide (k = kk ∧ k' = kk) with | true => F [.obj k fs, .obj k' gs] | false => .fail)
    | _ => .fail)
  | _ => .fail
theorem rop_own {kk : Nat} {F : List D → T D} : RopE c (SlX.rOwn c.K (c.cls kk) (spF c.K c.cls F) C8.E0) (ownD kk F) := by
  intro H P n x y d e R o rx ry ok Q q
  unfold ownD at ok
  split at ok
  · split at ok
    · split at ok
      · rename_i hk
        obtain ⟨rfl, rfl⟩ := of_decide_eq_true hk
        have r1 := rx.obj
        have r2 := ry.obj
        cases r1 with
        | obj s1 t1 => cases r2 with
          | obj s2 t2 => exact ⟨_, _, _, _, _, _, _, rfl, rfl, sub_slt Sub.of_msk s1, sub_slt Sub.of_msk s2, notFirst_self _ _, c.u, c.me, P, n, _, R, o, .cons (.obj s1 t1) (.cons (.obj s2 t2) .nil), ok, q⟩
      · exact ok.elim
    · exact ok.elim
  · exact ok.elim
/-- x[i] by the class's own def; i an int -/
def ownIx (kk : Nat) (F : List D → T D) : D → D → T D := fun x y => match x with
  | .obj k fs => (match y with
    | .int i => (match decide (k = kk) with | true => F [.obj k fs, .int i] | false => .fail)
    | _ => .fail)
  | _ => .fail
theorem rop_ownIx {kk : Nat} {F : List D → T D} : RopE c (rOwnIx (c.cls kk) (spF c.K c.cls F)) (ownIx kk F) := by
  intro H P n x y d e R o rx ry ok Q q
  unfold ownIx at ok
  split at ok
  · split at ok
    · split at ok
      · rename_i hk
        obtain rfl := of_decide_eq_true hk
        have r1 := rx.obj
        obtain rfl := ry.int
        cases r1 with
        | obj s1 t1 => exact ⟨_, _, _, rfl, sub_slt Sub.of_msk s1, c.u, c.me, P, n, _, R, o, .cons (.obj s1 t1) (.cons (.int _) .nil), ok, q⟩
      · exact ok.elim
    · exact ok.elim
  · exact ok.elim
/-- i ** j -/
def powD : D → D → T D := iiC (fun i j => decide (0 ≤ j ∧ j ≤ 1000000 ∧ i.natAbs < 18446744073709551616)) fun i j => .int (i ^ j.toNat)
theorem rop_pow : RopE c (rI CPow fun i j => .int (i ^ j.toNat)) powD := rop_I (fun i j h => by
  have := of_decide_eq_true h
  exact ⟨this.1, this.2.1, by have := this.2.2; omega⟩) fun _ _ _ => .int _
end
/-! ### isinstance(x, C), C an own class -/
section
variable {c : Ct}
def isiO (kk : Nat) : D → T D
  | .obj k _ => (match decide (k = kk) with | true => .ret (.bl true) | false => .fail)
  | _ => .fail
end
end DL
end

section
set_option maxRecDepth 100000
set_option maxHeartbeats 4000000
/-! DO: x[::-1] of a list, of a tuple. -/
namespace DO
open PySem PySem.Spec PyProof.Rows HT
section
variable {prog : Program} {w : World} {A : Around} {E : Value → Shared → Prop} {s : Shared}
theorem adjust_rev (n : Nat) : Builtin.Slice.sliceAdjust none none (-1) (n : Int) = ((n : Int) - 1, -1) := by
  unfold Builtin.Slice.sliceAdjust
  rfl
theorem places_rev (n : Nat) : Builtin.Slice.slicePlaces ((n : Int) - 1) (-1) (-1) = n := by
  unfold Builtin.Slice.slicePlaces
  have h1 : ¬ ((-1 : Int) > 0) := by omega
  simp only [h1, if_false, show (-(-1) : Int) = 1 from rfl, Int.ediv_one]
  split <;> omega
theorem applied_rev {sl : Addr} {vs : Value} {n : Nat} {Q : Int × Int × Nat → Shared → Prop} (hs : s.heap.IsSliceOf sl .none .none vs) (ps : IsPart vs (some (-1)))
    (h : Q ((n : Int) - 1, -1, n) s) : wpAny (model prog w) A (Builtin.Slice.sliceApplied (.ref sl) (pure (n : Int))) Q E s := by
  obtain ⟨os, hos, hcs, hds⟩ := id hs
  unfold Builtin.Slice.sliceApplied Builtin.Slice.sliceFields
  refine wpAny_bind (wpAny_bind (wpAny_field hos hds (x := .none) rfl (wpAny_bind (wpAny_field hos hds (x := .none) rfl (wpAny_bind (wpAny_field hos hds (x := vs) rfl (wpAny_pure ?_)))))))
  refine wpAny_bind (slicePart_ ps ?_)
  show wpAny _ _ (if ((-1 : Int) == 0) = true then _ else _) _ _ s
  rw [if_neg (by decide)]
  refine wpAny_bind (slicePart_none (wpAny_bind (slicePart_none (wpAny_bind (wpAny_pure ?_)))))
  show wpAny _ _ (match Builtin.Slice.sliceAdjust none none (-1) (n : Int) with | (lo, hi) => pure (lo, (-1 : Int), Builtin.Slice.slicePlaces lo hi (-1))) _ _ s
  rw [adjust_rev n]
  show wpAny _ _ (pure ((n : Int) - 1, (-1 : Int), Builtin.Slice.slicePlaces ((n : Int) - 1) (-1) (-1))) _ _ s
  rw [places_rev]
  exact wpAny_pure h
theorem pick_rev (xs : Array Value) : ((List.range xs.size).filterMap fun (m : Nat) => xs[(((xs.size : Int) - 1) + (m : Int) * (-1)).toNat]?).toArray = xs.toList.reverse.toArray := by
  have e : (fun (m : Nat) => xs[(((xs.size : Int) - 1) + (m : Int) * (-1)).toNat]?) = (fun k => xs[k]?) ∘ fun m => xs.size - 1 - m := by
    funext m
    show xs[(((xs.size : Int) - 1) + (m : Int) * (-1)).toNat]? = xs[xs.size - 1 - m]?
    have : (((xs.size : Int) - 1) + (m : Int) * (-1)).toNat = xs.size - 1 - m := by omega
    rw [this]
  rw [e, ← List.filterMap_map, PySem.W.krv_range, List.filterMap_reverse, PySem.W.krv_all]
theorem getItem_tuple_rev {t sl : Addr} {items : Array Value} {vs : Value} {Q : Value → Shared → Prop} (ht : IsTup s.heap t items) (hs : s.heap.IsSliceOf sl .none .none vs) (ps : IsPart vs (some (-1)))
    (h : Q (.ref s.heap.objs.size) { s with heap := s.heap.push { cls := .type "tuple", data := .seq items.toList.reverse.toArray } })
    (hsz : items.size ≤ sizeLine) : wpAny (model prog w) A (getItem (.ref t) (.ref sl)) Q E s := by
  have htake : sizeOk (.seq items.toList.reverse.toArray) := by
    show items.toList.reverse.toArray.size ≤ sizeLine
    rw [List.size_toArray, List.length_reverse, Array.length_toList]
    exact hsz
  obtain ⟨os, hos, hcs, hds⟩ := id hs
  have hTs : s.TypeIs (.ref sl) "slice" := ⟨os, hos, hcs⟩
  unfold getItem
  try with_reducible refine wpAny_holding ?_
  first | refine wpAny_bind (wpAny_pure ?_) | skip
  refine wpAny_bind (wpAny_sequenceKey ht.typeIs (by decide) ?_)
  refine wpAny_bind (wpAny_callSpecial?_slot (name := Str.ofString "__getitem__") ht.typeIs PyProof.Rows.slot_tuple_getitem
    (wpAny_call_entry PyProof.Rows.slot_tuple_getitem ht.typeIs entry_tuple_getitem ?_ (args_tuple_getitem _ _)))
  show wpAny _ _ (Builtin.Tuple.tupleItemsOf (.ref t) >>= _) _ _ s
  refine wpAny_bind (tupleItemsOf_ ht ?_)
  refine wpAny_bind (wpAny_typeOf hTs ?_)
  rw [if_pos (by decide)]
  refine wpAny_bind (applied_rev hs ps ?_)
  have hno : ¬ ((((items.size : Int) - 1) == 0 && (-1 : Int) == 1 && items.size == items.size) = true) := by
    intro q
    rw [Bool.and_eq_true, Bool.and_eq_true] at q
    exact absurd (eq_of_beq q.1.2) (by decide)
  show wpAny _ _ (if (((items.size : Int) - 1) == 0 && (-1 : Int) == 1 && items.size == items.size) = true then _ else _) _ _ s
  rw [if_neg hno, pick_rev]
  first
    | exact wpAny_bind (m := Builtin.Tuple.tupleExact _) (wpAny_newObj_type (wpAny_pure ⟨_, rfl, wpAny_pure h⟩) htake)
    | exact wpAny_bind (m := Builtin.Tuple.tupleExact _) (wpAny_newObj_type (wpAny_bind (wpAny_pure (wpAny_pure ⟨_, rfl, wpAny_pure h⟩))) htake)
    | exact wpAny_bind (wpAny_bind (m := Builtin.Tuple.tupleExact _) (wpAny_newObj_type (wpAny_pure (wpAny_pure ⟨_, rfl, wpAny_pure h⟩)) htake))
    | exact wpAny_bind (wpAny_bind (m := Builtin.Tuple.tupleExact _) (wpAny_newObj_type (wpAny_pure ⟨_, rfl, wpAny_pure h⟩) htake))
end
end DO
namespace DL
open PySem PySem.Spec PyProof.Rows L2 DR
/-- x[::-1]: a list's, a tuple's (then without a dict) -/
def tRevD (K : PySem.W.Frag) (te : TE) : TE := fun σ H Q => te σ H fun x H1 => (∃ a xs, x = .ref a ∧ SqL K H1 a xs ∧ ∀ p, H1 p = none → Q (.ref p) (upd H1 p (.lst xs.reverse))) ∨
  ∃ a xs, x = .ref a ∧ SqT K H1 a xs ∧ ∀ (ob : Obj) (p : Addr), ob.dict = none → H1 p = none → Q (.ref p) (upd H1 p (.frz ob (.tup xs.reverse)))
section
variable {X : Cx}
theorem pe_revD {e : Expr} {te : TE} {k : Nat} {p1 p2 p3 pos : Pos} (he : PE X e te) : PE X (.Subscript e (.Slice none none (some (.UnaryOp .USub (.Constant (.int 1) k p1) p2)) p3) pos) (tRevD X.K te) := by
  refine ⟨fun pins s σ H Q I h => ?_⟩
  refine Subscript_ (thn (he.run pins s σ H _ I h) fun v s1 ⟨x, H1, I1, r1, q1⟩ => ?_)
  have hst : PO X (some (.UnaryOp .USub (.Constant (.int 1) k p1) p2)) (tPart (tUn (rU fun i => .int (-i)) (tC (.int 1)))) := po_some (pe_un un_neg pe_int)
  refine wpAny_Slice (thn (po_none.run pins s1 σ H1 (fun o H2 => o = none ∧ H2 = H1) I1 ⟨rfl, rfl⟩) fun vl s2 ⟨l, H2, I2, pl, el, e2⟩ => ?_)
  subst el e2
  refine thn (po_none.run pins s2 σ H2 (fun o H3 => o = none ∧ H3 = H2) I2 ⟨rfl, rfl⟩) fun vu s3 ⟨u, H3, I3, pu, eu, e3⟩ => ?_
  subst eu e3
  refine thn (hst.run pins s3 σ H3 (fun o H4 => o = some (-1) ∧ H4 = H3) I3 ⟨1, rfl, -1, rfl, rfl, rfl⟩) fun vs s4 ⟨o, H4, I4, ps, eo, e4⟩ => ?_
  subst eo e4
  have I5 : Inv X pins σ H4 { s4 with heap := s4.heap.push { cls := .type "slice", data := .fields #[vl, vu, vs] } } := I4.kept (t' := s4.toks) fun b ob q => Heap.get?_push_of_some _ q
  rcases q1 with ⟨a, xs, ex, hx, q⟩ | ⟨a, xs, ex, hx, q⟩
  · subst ex
    cases r1
    obtain ⟨its, r, ht, hz⟩ := I5.list hx
    have hlen := r.length
    show wpAny (model X.prog X.w) X.A (subscriptTail e (.Slice none none (some (.UnaryOp .USub (.Constant (.int 1) k p1) p2)) p3) (.ref a) (.ref s4.heap.objs.size)) (EP X pins σ Q) X.xe { s4 with heap := s4.heap.push { cls := .type "slice", data := .fields #[vl, vu, vs] } }
    refine tail_any (ops := [.ref a, .ref s4.heap.objs.size]) ht.isList.typeIs (PySem.slot_list_getitem.lookup) ?_ (by with_unfolding_all rfl)
    refine wpAny_getItem_list_slice ht.isList (Heap.IsSliceOf.new _ vl vu vs) pl pu ps (by decide) ?_ (by rw [List.size_toArray]; omega)
    rw [PySem.W.krv_pick]
    refine ⟨.ref _, _, I5.laid (t' := s4.toks) (o := .lst xs.reverse) (fun b ob q => Heap.get?_push_of_some _ q) (Nat.le_refl _) ?_, rfl, q _ (I5.hok.fresh (Nat.le_refl _))⟩
    exact ⟨by rw [List.length_reverse]; exact hz, _, 0, r.reverse, Heap.get?_push_size _ rfl⟩
  · subst ex
    cases r1
    obtain ⟨its, r, ht, hz⟩ := I5.tuple hx
    have hlen := r.length
    cases pl
    cases pu
    show wpAny (model X.prog X.w) X.A (subscriptTail e (.Slice none none (some (.UnaryOp .USub (.Constant (.int 1) k p1) p2)) p3) (.ref a) (.ref s4.heap.objs.size)) (EP X pins σ Q) X.xe { s4 with heap := s4.heap.push { cls := .type "slice", data := .fields #[.none, .none, vs] } }
    refine tail_any (ops := [.ref a, .ref s4.heap.objs.size]) ht.typeIs PyProof.Rows.slot_tuple_getitem.lookup ?_ (by with_unfolding_all rfl)
    refine DO.getItem_tuple_rev ht (Heap.IsSliceOf.new _ .none .none vs) ps ?_ (by rw [List.size_toArray]; omega)
    refine ⟨.ref _, _, I5.laid (t' := s4.toks) (o := .frz _ (.tup xs.reverse)) (fun b ob q => Heap.get?_push_of_some _ q) (Nat.le_refl _) ⟨Heap.get?_push_size _ rfl, ?_⟩, rfl, q _ _ rfl (I5.hok.fresh (Nat.le_refl _))⟩
    exact ⟨by rw [List.length_reverse]; exact hz, _, r.reverse, IsTup.new _ _⟩
theorem pe_revK (K : PySem.W.Frag) (h : X.K = K) {e : Expr} {te : TE} {k : Nat} {p1 p2 p3 pos : Pos} (he : PE X e te) : PE X (.Subscript e (.Slice none none (some (.UnaryOp .USub (.Constant (.int 1) k p1) p2)) p3) pos) (tRevD K te) := by subst h; exact pe_revD he
end
def revD : D → T D
  | .lst ds => .ret (.lst ds.reverse)
  | .tup ds => .ret (.tup ds.reverse)
  | _ => .fail
def fRev (a : Env → T D) : Env → T D := fun ρ => (a ρ).bind revD
section
variable {c : Ct}
theorem ev_rev {te : TE} {F : Env → T D} (h : EvX c te F) : EvE c (tRevD c.K te) (fRev F) := fun σ H P ρ n R o er ok Q q =>
  h σ H P ρ n _ o er (T.ok_bind.mp ok) _ fun x H1 d n1 ok1 e1 o1 rx => by
    unfold revD at ok1
    split at ok1
    · obtain ⟨a, xs, rfl, hx, hr⟩ := rx.lst
      exact .inl ⟨a, xs, rfl, .of hx, fun p hp => q _ _ _ n1 ok1 (e1.trans (ExU.new hp)) (o1.new hp) (rep_newL o1 hp hr.reverse)⟩
    · obtain ⟨a, xs, rfl, hx, hr⟩ := rx.tup
      exact .inr ⟨a, xs, rfl, hx.sq, fun ob p hob hp => q _ _ _ n1 ok1 (e1.trans (ExU.new hp)) (o1.new hp) (rep_newT o1 hob hp hr.reverse)⟩
    · exact ok1.elim
end
end DL
end

section
set_option maxRecDepth 100000
set_option maxHeartbeats 4000000
/-! DP: isinstance of an own class, list + list as a new list, three stores. -/
namespace DL
open PySem PySem.Spec PyProof.Rows L2 DR
/-- what isinstance asks of the class at C -/
structure IsiW (K : PySem.W.Frag) (mg : Str → Option Value) (C : Addr) (x : Str) : Prop where
  sc : SlX.SCls K C
  si : SlX.SIsi K C
  kit : PySem.W.kitOne K (.ref C) (.ref C) = some true
  at_ : mg x = some (.ref C)
section
variable {c : Ct}
theorem call_isiSlK {X : Cx} (K : PySem.W.Frag) (h : X.K = K) (u : Value) : CallR X (.builtin "isinstance") (SlX.rIsiSl K u) := by subst h; exact SlX.call_isiSl u
theorem ev_isiO {mg : Str → Option Value} {x : Str} {kk : Nat} {te : TE} {F : Env → T D} (W : IsiW c.K mg (c.cls kk) x) (ha : EvX c te F) :
    EvE c (tCB (SlX.rIsiSl c.K (.ref (c.cls kk))) (tCons te (tCons (tC (.ref (c.cls kk))) tNil))) (fFn (isiO kk) F) := fun σ H P ρ n R o er ok Q q =>
  ha σ H P ρ n _ o er (T.ok_bind.mp ok) _ fun x H1 d n1 ok1 e1 o1 rx => by
    unfold isiO at ok1
    split at ok1
    · split at ok1
      · rename_i hk
        obtain rfl := of_decide_eq_true hk
        have r1 := rx.obj
        cases r1 with
        | obj s1 t1 => exact ⟨_, _, _, _, .ref _, true, rfl, rfl, fun w hw => hw, sub_slt Sub.of_msk s1, W.sc, W.si, W.kit, q _ H1 _ n1 ok1 e1 o1 (.bl _)⟩
      · exact ok1.elim
    · exact ok1.elim
/-- a + b, lists: a new list -/
def lCat (a b : Env → T D) : Env → T (List D) := fun ρ => (a ρ).bind fun x => (b ρ).bind fun y => match x, y with
  | .lst xs, .lst ys => (match decide (xs.length + ys.length ≤ capD) with | true => .ret (xs ++ ys) | false => .fail)
  | _, _ => .fail
theorem el_cat {ta tb : TE} {F G : Env → T D} (ha : EvX c ta F) (hb : EvX c tb G) : EvL c (tOp (rAddD c.K) ta tb) (lCat F G) := fun σ H P ρ n R o er ok Q q =>
  ha σ H P ρ n _ o er (T.ok_bind.mp ok) _ fun x H1 d n1 ok1 e1 o1 rx => hb σ H1 P ρ n1 _ o1 (er.exu o.pu e1) (T.ok_bind.mp ok1) _ fun y H2 e n2 ok2 e2 o2 ry => by
    split at ok2
    · split at ok2
      · rename_i hb
        have hb := of_decide_eq_true hb
        obtain ⟨p, xs, rfl, hx, hxr⟩ := (rx.exu o1.pu e2).lst
        obtain ⟨p', ys, rfl, hy, hyr⟩ := ry.lst
        have l1 := hxr.length
        have l2 := hyr.length
        have ee := e1.trans e2
        refine .inr (.inr (.inl ⟨p, p', xs, ys, rfl, rfl, hx, hy, cap_le (by omega), fun t ht => ?_⟩))
        refine q t (xs ++ ys) _ _ n2 ok2 (ee.trans (ExU.new ht)) (o2.new ht) (ee.free (o2.nu ht) ht) upd_same ((hxr.append hyr).sub ?_)
        intro a w ha
        obtain ⟨h1, h2⟩ := msk_some.mp ha
        have na : a ≠ t := ne_of_none h2 ht
        exact msk_some.mpr ⟨fun z => z.elim h1 na, by rw [upd_ne na]; exact h2⟩
      · exact ok2.elim
    · exact ok2.elim
def sPar3 (i j l : Nat) (a b d : Env → T D) : Env → T Out := fun ρ => (a ρ).bind fun x => (b ρ).bind fun y => (d ρ).bind fun z => .ret (.nx (((ρ.set i (.val x)).set j (.val y)).set l (.val z)))
theorem es_par3 {te tf tg : TE} {F G J : Env → T D} {i j l : Nat} (h : EvE c te F) (h' : EvE c tf G) (h'' : EvE c tg J) : EvS c (tPar3 i j l (tCons te (tCons tf (tCons tg tNil)))) (sPar3 i j l F G J) := fun P0 Fz H0 H σ ρ n Dn sr ok =>
  h σ H _ ρ n _ sr.ok sr.env (T.ok_bind.mp ok) _ fun v H1 d n1 ok1 e1 o1 r1 => h' σ H1 _ ρ n1 _ o1 (sr.env.exu sr.ok.pu e1) (T.ok_bind.mp ok1) _ fun w H2 d2 n2 ok2 e2 o2 r2 =>
    h'' σ H2 _ ρ n2 _ o2 (sr.env.exu sr.ok.pu (e1.trans e2)) (T.ok_bind.mp ok2) _ fun z H3 d3 n3 ok3 e3 o3 r3 => by
      refine ⟨v, w, z, rfl, ok3 _ _ ?_⟩
      have s1 := sr.setVal (e1.trans (e2.trans e3)) o3 (r1.sub (Sub.msk sr.ok.pu (e2.trans e3))) i
      have s2 := s1.setVal (ExU.refl _ _) (o3.less pow_setVal s1.ok.pu) ((r2.sub (Sub.msk sr.ok.pu e3)).sub (Sub.less pow_setVal)) j
      exact s2.setVal (ExU.refl _ _) ((o3.less pow_setVal s1.ok.pu).less pow_setVal s2.ok.pu) ((r3.sub (Sub.less pow_setVal)).sub (Sub.less pow_setVal)) l
end
end DL
end

section
set_option maxRecDepth 100000
set_option maxHeartbeats 4000000
/-! DQ: methods, as the top has written them. -/
namespace DL
open PySem PySem.Spec PyProof.Rows L2 DR
def MtW (K : PySem.W.Frag) (C : Addr) (x qual : Str) (st : Stmt) (ps : List Str) : Prop := ∃ g fd, PySem.W.findIn K (.ref C) x = some (some (.ref g)) ∧ PySem.W.isFn K (.ref g) = true ∧ PySem.W.fnIn K g = true ∧ C8.Fun K x qual st g fd ∧ Binds K fd ps []
section
variable {P : Program} {w : World} {K : PySem.W.Frag} {mg : Str → Option Value} {base : Heap} {cls : Nat → Addr}
theorem mt_of {x qual : Str} {C : Addr} {st : Stmt} {N ps : List Str} {k : Nat} {B : Env → T Out} (sc : SlX.SCls K C) (W : MtW K C x qual st ps) (S : FnScope N ps (C8.fnScope st))
    (hbody : ∀ (f : Addr) (cdv : Value) (A : Around) (outer : List PySem.Env) (s : Shared) (H : Hp) (E : XK), Room k (A.deeper (envOfC qual (C8.fnScope st) s.heap.objs.size f cdv)) →
      ∃ t, PSs (cxOf C8.CX0 P w K mg base N qual (C8.fnScope st) f cdv A outer s H E).nox (C8.fnBody st) t ∧ ∀ u me, EvS ⟨K, u, cls, me⟩ t B) : Mt P w K mg base (k + 1) C x (spF K cls (runDef ps.length (N.length - ps.length) B)) := by
  obtain ⟨g, fd, h1, h2, h3, F, b⟩ := W
  refine ⟨sc, g, h1, h2, h3, ?_⟩
  have F1 : FnOk P w K mg base C8.CX0 (k + 1) g fd ps (spF K cls (runDef ps.length (N.length - ps.length) B)) := C8.fn0 F S (fun _ _ _ _ h => run_len h) fun cdv A outer s H vs Q E hr h => by
    obtain ⟨t, h1, h2⟩ := hbody g cdv A outer s H E hr
    exact ⟨t, h1, run_body h2 h⟩
  exact (F1.raw b .nil).imp fun vs H Q E h => by rw [List.append_nil]; exact h
end
section
variable {K : PySem.W.Frag} {mg : Str → Option Value} {h : Heap} {oc kV doc pm cdv ct : Value} {od an : Option Addr} {osl : Array (Option Value)}
theorem mtW_mk {x qual : Str} {C : Addr} {st : Stmt} {ps : List Str} {g : Addr} (h1 : PySem.W.findIn K (.ref C) x = some (some (.ref g))) (h2 : PySem.W.isFn K (.ref g) = true) (h3 : PySem.W.fnIn K g = true)
    (l : K.lookup g = some ⟨oc, od, .func (PySem.W.fnOf x qual (C8.fnArgs st) (C8.fnBody st) (C8.fnScope st) .none kV doc pm an cdv ct), osl⟩) (c : PySem.W.codeIn K cdv qual = true)
    (hb : ∀ us : List Value, us.length = ps.length → bindArgs (PySem.W.fnOf x qual (C8.fnArgs st) (C8.fnBody st) (C8.fnScope st) .none kV doc pm an cdv ct) ⟨us, []⟩ = pure (ps.zip us)) : MtW K C x qual st ps :=
  ⟨g, _, h1, h2, h3, ⟨oc, od, .none, kV, doc, pm, an, cdv, ct, osl, rfl, l, c⟩, .all hb⟩
end
end DL
end

section
set_option maxRecDepth 100000
set_option maxHeartbeats 4000000
namespace LW
open PySem PySem.Spec PyProof.Rows L2 DR DL
def topS (i : Nat) : Stmt := PySem.Challenge.pw_heirturns_k96_whole_each_turn_so_many_ti.main.body.getD i (.Pass ⟨0, 0, 0, 0⟩)
/-- what the top has written -/
structure Ws (K : PySem.W.Frag) (mg : Str → Option Value) (cls : Nat → Addr) : Prop where
  z_abs : mg "abs" = none
  z_all : mg "all" = none
  z_bool : mg "bool" = none
  z_enumerate : mg "enumerate" = none
  z_int : mg "int" = none
  z_isinstance : mg "isinstance" = none
  z_len : mg "len" = none
  z_list : mg "list" = none
  z_max : mg "max" = none
  z_min : mg "min" = none
  z_range : mg "range" = none
  z_set : mg "set" = none
  z_sorted : mg "sorted" = none
  z_str : mg "str" = none
  z_sum : mg "sum" = none
  z_tuple : mg "tuple" = none
  z_zip : mg "zip" = none
  g_HEIRS_turns : ∃ v, GlW K mg "HEIRS_turns" v (.tup [(.str (PySem.Str.ofString "a")), (.str (PySem.Str.ofString "b"))])
  d__law_of : DefW K mg "_law_of" (topS 67) ["urn", "some"]
  d_tupled : DefW K mg "tupled" (topS 11) ["value"]
  d_joined_runs : DefW K mg "joined_runs" (topS 26) ["runs"]
  d_ends_of : DefW K mg "ends_of" (topS 27) ["runs"]
  m_Turns : MkW K mg (cls 0) "Turns" "Turns.__init__" ((C8.clsBody (topS 25)).getD 1 (.Pass ⟨0, 0, 0, 0⟩)) ["self", "runs"]
  s_Turns : SlX.SCls K (cls 0)
  d_turns_of : DefW K mg "turns_of" (topS 34) ["heirs_told"]
  d__law_heirs : DefW K mg "_law_heirs" (topS 69) ["urn", "size"]
  p_Turns_runs : PrW K (cls 0) "runs" "Turns.runs" ((C8.clsBody (topS 25)).getD 3 (.Pass ⟨0, 0, 0, 0⟩))
  d__law_times : DefW K mg "_law_times" (topS 70) ["turns", "many"]
  p_Turns_size : PrW K (cls 0) "size" "Turns.size" ((C8.clsBody (topS 25)).getD 4 (.Pass ⟨0, 0, 0, 0⟩))
  p_Turns_ends : PrW K (cls 0) "ends" "Turns.ends" ((C8.clsBody (topS 25)).getD 7 (.Pass ⟨0, 0, 0, 0⟩))
  d_ahead : DefW K mg "ahead" (topS 28) ["turns", "number"]
  d_lead : DefW K mg "lead" (topS 48) ["turns"]
  d_swapped : DefW K mg "swapped" (topS 33) ["turns"]
  d_lag : DefW K mg "lag" (topS 49) ["turns"]
  d_never_behind : DefW K mg "never_behind" (topS 51) ["turns"]
  d_most_gain : DefW K mg "most_gain" (topS 53) ["turns", "top"]
  d_spread : DefW K mg "spread" (topS 50) ["turns"]
  p_Turns_his : PrW K (cls 0) "his" "Turns.his" ((C8.clsBody (topS 25)).getD 6 (.Pass ⟨0, 0, 0, 0⟩))
  p_Turns_hers : PrW K (cls 0) "hers" "Turns.hers" ((C8.clsBody (topS 25)).getD 5 (.Pass ⟨0, 0, 0, 0⟩))
  d__law_same : DefW K mg "_law_same" (topS 68) ["got", "due"]
  d_behind_at : DefW K mg "behind_at" (topS 52) ["turns"]
  d_place_sum : DefW K mg "place_sum" (topS 55) ["turns"]
  d_place_sums : DefW K mg "place_sums" (topS 56) ["turns"]
  d_set_of : DefW K mg "set_of" (topS 10) ["some"]
  d_begins : DefW K mg "begins" (topS 38) ["turns"]
  d_place_of : DefW K mg "place_of" (topS 29) ["turns", "heir", "which"]
  d_turn_of : DefW K mg "turn_of" (topS 30) ["turns", "which"]
  d_his_turn_of : DefW K mg "his_turn_of" (topS 31) ["turns", "which"]
  d_most_apart : DefW K mg "most_apart" (topS 54) ["turns"]
  d_height : DefW K mg "height" (topS 62) ["turns"]
  d__law_lone : DefW K mg "_law_lone" (topS 71) ["turns", "many"]
  d_check_size : DefW K mg "check_size" (topS 35) ["one", "other"]
  d_ways_later : DefW K mg "ways_later" (topS 39) ["one", "other"]
  d_most_worse : DefW K mg "most_worse" (topS 43) ["one", "other"]
  d_corners : DefW K mg "corners" (topS 36) ["one", "other"]
  d_is_above : DefW K mg "is_above" (topS 58) ["one", "other"]
  d_against : DefW K mg "against" (topS 41) ["one", "other"]
  d_never_worse : DefW K mg "never_worse" (topS 40) ["one", "other"]
  d_compare : DefW K mg "compare" (topS 44) ["one", "other"]
  d_is_number : DefW K mg "is_number" (topS 9) ["value"]
  d_is_against : DefW K mg "is_against" (topS 42) ["one", "other", "thing"]
  q_Turns_eq : MtW K (cls 0) "__eq__" "Turns.__eq__" ((C8.clsBody (topS 25)).getD 13 (.Pass ⟨0, 0, 0, 0⟩)) ["self", "other"]
  q_Turns_getitem : MtW K (cls 0) "__getitem__" "Turns.__getitem__" ((C8.clsBody (topS 25)).getD 10 (.Pass ⟨0, 0, 0, 0⟩)) ["self", "number"]
  d_runs_above : DefW K mg "runs_above" (topS 59) ["one", "other"]
  d_below_both : DefW K mg "below_both" (topS 61) ["one", "other"]
  d_above_both : DefW K mg "above_both" (topS 60) ["one", "other"]
  d_backwards : DefW K mg "backwards" (topS 32) ["turns"]
  d_granted : DefW K mg "granted" (topS 45) ["turns", "number"]
  d_fewest_steps : DefW K mg "fewest_steps" (topS 46) ["one", "other"]
  d__law_box : DefW K mg "_law_box" (topS 64) ["script", "k"]
  d__law_cells : DefW K mg "_law_cells" (topS 66) ["script", "many"]
  d__law_take : DefW K mg "_law_take" (topS 65) ["urn", "below"]
  i_Turns : IsiW K mg (cls 0) "Turns"
  fl_own_ends : Fld K (cls 0) "own_ends" 0
  fl_own_runs : Fld K (cls 0) "own_runs" 1

abbrev st__law_take : Stmt := topS 65
abbrev N__law_take : List Str := ["urn", "below", "drawn", "once", "far", "twice"]
theorem sc__law_take : FnScope N__law_take ["urn", "below"] (C8.fnScope st__law_take) := C8.fnScope_by (by decide +kernel)
theorem c__law_take {P : Program} {w : World} {K : PySem.W.Frag} {mg : Str → Option Value} {base : Heap} {cls : Nat → Addr} (W : Ws K mg cls) : C8.Cal P w K mg base 3 "_law_take" (spF K cls F__law_take) [] := by
  obtain ⟨f, fd, F, b⟩ := W.d__law_take
  refine C8.cal0 (N := N__law_take) (k := 2) F b .nil sc__law_take (fun vs H Q E h => take_len h) fun cdv A outer s H vs Q E hr h => ?_
  have nd : N__law_take.Nodup := sc__law_take.nd
  refine ⟨_, (pss_cons (ps_if (pt_cmpR op_gt (pe_ix ix_list (pv 0) pe_int (fun _ _ => rfl)) pe_int (nomark _)) (pss_cons (ps_set (i := 2) nd rfl (Or.inl rfl) (pe_op op_mod (pe_callTy call_int1 (by rfl) W.z_int bt_int (pa_cons (pe_ix ix_list (pv 0) pe_int (fun _ _ => rfl)) pa_nil)) (pv 1))) (pss_cons (ps_asg (pe_op op_fdiv (pe_ix ix_list (pv 0) pe_int (fun _ _ => rfl)) (pv 1)) (pg_sub (pv 0) pe_int set_list)) (pss_one (ps_ret (pv 2))))) pss_nil) (pss_cons (ps_asg (pe_op op_add (pe_ix ix_list (pv 0) pe_int (fun _ _ => rfl)) pe_int) (pg_sub (pv 0) pe_int set_list)) (pss_cons (ps_set (i := 3) nd rfl (Or.inl rfl) (pe_op op_mod (pe_callTy call_int1 (by rfl) W.z_int bt_int (pa_cons (pe_op op_mul (pe_op op_add (pe_ix ix_list (pv 0) pe_int (fun _ _ => rfl)) (pe_op op_mul pe_int (pe_ix ix_list (pv 0) pe_int (fun _ _ => rfl)))) (pe_op op_add pe_int (pe_ix ix_list (pv 0) pe_int (fun _ _ => rfl)))) pa_nil)) pe_int)) (pss_cons (ps_set (i := 4) nd rfl (Or.inl rfl) (pe_op op_add (pe_op op_mod (pe_callTy call_int1 (by rfl) W.z_int bt_int (pa_cons (pv 3) pa_nil)) pe_int) pe_int)) (pss_cons (ps_set (i := 5) nd rfl (Or.inl rfl) (pe_op op_mod (pe_callTy call_int1 (by rfl) W.z_int bt_int (pa_cons (pe_op op_mul (pe_op op_add (pe_op op_add (pv 3) (pe_ix ix_list (pv 0) pe_int (fun _ _ => rfl))) (pe_op op_fdiv (pe_ix ix_list (pv 0) pe_int (fun _ _ => rfl)) pe_int)) (pv 4)) pa_nil)) pe_int)) (pss_one (ps_ret (pe_op op_mod (pe_callTy call_int1 (by rfl) W.z_int bt_int (pa_cons (pe_op op_fdiv (pe_op op_mod (pe_callTy call_int1 (by rfl) W.z_int bt_int (pa_cons (pe_op op_add (pe_op op_mul (pv 5) pe_int) (pv 3)) pa_nil)) pe_int) pe_int) pa_nil)) (pv 1))))))))), ?_⟩
  exact take_run h

abbrev st__law_cells : Stmt := topS 66
abbrev N__law_cells : List Str := ["script", "many", "cells", "k", "cell", "at"]
theorem sc__law_cells : FnScope N__law_cells ["script", "many"] (C8.fnScope st__law_cells) := C8.fnScope_by (by decide +kernel)
theorem c__law_cells {P : Program} {w : World} {K : PySem.W.Frag} {mg : Str → Option Value} {base : Heap} {cls : Nat → Addr} (W : Ws K mg cls) : C8.Cal P w K mg base 3 "_law_cells" (spCells K) [] := by
  obtain ⟨f, fd, F, b⟩ := W.d__law_cells
  refine C8.cal0 (N := N__law_cells) (k := 2) F b .nil sc__law_cells (fun vs H Q E h => cells_len h) fun cdv A outer s H vs Q E hr h => ?_
  have nd : N__law_cells.Nodup := sc__law_cells.nd
  refine ⟨_, (pss_cons (ps_set (i := 2) nd rfl (Or.inl rfl) (pe_orT (pe_callTy call_list_of (by rfl) W.z_list bt_list (pa_cons (pe_slice sl_list (pv 0) po_none (po_some (pv 1))) pa_nil)) (pe_one (pe_lst (pa_cons pe_int pa_nil))))) (pss_cons (ps_for PassesOwn.never rfl (DR.pi_en (by rfl) W.z_enumerate (pe_slice sl_list (pv 0) (po_some (pv 1)) (po_some pe_int))) (pg_tup (n := 2) rfl (pgs_cons (pg_name (i := 3) nd rfl (Or.inl rfl) (Or.inr rfl)) (pgs_cons (pg_name (i := 4) nd rfl (Or.inl rfl) (Or.inr rfl)) pgs_nil))) (pss_cons (ps_set (i := 5) nd rfl (Or.inl rfl) (pe_op op_mod (pe_callTy call_int1 (by rfl) W.z_int bt_int (pa_cons (pv 3) pa_nil)) (pv 1))) (pss_one (ps_asg (pe_op op_add (pe_ix ix_list (pv 2) (pv 5) (fun _ _ => rfl)) (pe_op op_mul (pv 4) (pe_op op_add (pv 3) pe_int))) (pg_sub (pv 2) (pv 5) set_list))))) (pss_one (ps_ret (pv 2))))), ?_⟩
  exact cells_run h

abbrev st__law_box : Stmt := topS 64
abbrev N__law_box : List Str := ["script", "k", "cell"]
theorem sc__law_box : FnScope N__law_box ["script", "k"] (C8.fnScope st__law_box) := C8.fnScope_by (by decide +kernel)
theorem c__law_box {P : Program} {w : World} {K : PySem.W.Frag} {mg : Str → Option Value} {base : Heap} {cls : Nat → Addr} (W : Ws K mg cls) : C8.Cal P w K mg base 3 "_law_box" (spBox K) [] := by
  obtain ⟨f, fd, F, b⟩ := W.d__law_box
  refine C8.cal0 (N := N__law_box) (k := 2) F b .nil sc__law_box (fun vs H Q E h => box_len h) fun cdv A outer s H vs Q E hr h => ?_
  have nd : N__law_box.Nodup := sc__law_box.nd
  refine ⟨_, (pss_cons (ps_set (i := 2) nd rfl (Or.inl rfl) (pe_ifExp (pt_cmpR op_lt (pv 1) (pe_callB call_len (by rfl) W.z_len bt_len (pa_cons (pv 0) pa_nil)) (nomark _)) (pe_ix ix_list (pv 0) (pv 1) (fun _ _ => rfl)) pe_int)) (pss_one (ps_ret (pe_lst (pa_cons (pe_op op_mul (pe_callB call_abs (by rfl) W.z_abs bt_abs (pa_cons (pv 2) pa_nil)) (pe_callTy call_int1 (by rfl) W.z_int bt_int (pa_cons (pe_cmpR op_ge (pe_callB call_abs (by rfl) W.z_abs bt_abs (pa_cons (pv 2) pa_nil)) (pe_op op_pow pe_int pe_int) (nomark _)) pa_nil))) (pa_cons (pe_op op_add (pe_op op_add (pe_op op_mod (pe_callTy call_int1 (by rfl) W.z_int bt_int (pa_cons (pv 2) pa_nil)) pe_int) (pe_op op_mul pe_int (pv 1))) pe_int) (pa_cons pe_int pa_nil))))))), ?_⟩
  exact box_run h

abbrev st__law_of : Stmt := topS 67
abbrev N__law_of : List Str := ["urn", "some"]
theorem sc__law_of : FnScope N__law_of ["urn", "some"] (C8.fnScope st__law_of) := C8.fnScope_by (by decide +kernel)
def B__law_of : DL.Env → T Out := (sRet (fOp ixD (fVar 1) (aFn F__law_take (aCons (fVar 0) (aCons (fFn lenD (fVar 1)) aNil)))))
def F__law_of : List D → T D := runDef 2 0 B__law_of
theorem c__law_of {P : Program} {w : World} {K : PySem.W.Frag} {mg : Str → Option Value} {base : Heap} {cls : Nat → Addr} (W : Ws K mg cls) : C8.Cal P w K mg base 4 "_law_of" (spF K cls F__law_of) [] := by
  refine def_of (N := N__law_of) (k := 3) W.d__law_of sc__law_of fun fa cdv A outer s H E hr => ?_
  have nd : N__law_of.Nodup := sc__law_of.nd
  refine ⟨_, (pss_one (ps_ret (pe_ix (ix_K K rfl) (pv 1) (C8.pe_c (c__law_take W) hr (by decide) (by rfl) (pa_cons (pv 0) (pa_cons (pe_callB (call_lenK K rfl) (by rfl) W.z_len bt_len (pa_cons (pv 1) pa_nil)) pa_nil))) (fun _ _ => rfl)))), ?_⟩
  exact fun u me => (es_ret (ev_op rop_ix (ev_var).x ((ev_call (ea_cons ev_var (ea_cons (ev_fn rb_len (ev_var).x) ea_nil)))).x))

abbrev st_tupled : Stmt := topS 11
abbrev N_tupled : List Str := ["value", "part"]
theorem sc_tupled : FnScope N_tupled ["value"] (C8.fnScope st_tupled) := C8.fnScope_by (by decide +kernel)
def B_tupled (rec : List D → T D) : DL.Env → T Out := (sRet (fIf (fTest (fFn (isiD ["list", "tuple"]) (fVar 0))) (fFn tupOfD (fOfL (fComp (iSeq (fVar 0)) (gSet 1) fYes (aFn rec (aCons (fVar 1) aNil)) [1]))) (fVar 0)))
def F_tupled : Nat → List D → T D
  | 0 => runDef 1 1 sNever
  | d + 1 => runDef 1 1 (B_tupled (F_tupled d))
theorem c_tupled {P : Program} {w : World} {K : PySem.W.Frag} {mg : Str → Option Value} {base : Heap} {cls : Nat → Addr} (W : Ws K mg cls) : ∀ d : Nat, C8.Cal P w K mg base (d + 1) "tupled" (spF K cls (F_tupled d)) []
  | 0 => def_of (N := N_tupled) (k := 0) (B := sNever) W.d_tupled sc_tupled fun fa cdv A outer s H E hr => ⟨_, pss_never, fun u me => es_never⟩
  | d + 1 => by
    have hrec := c_tupled (P := P) (w := w) (base := base) W d
    refine def_of (N := N_tupled) (k := d + 1) W.d_tupled sc_tupled fun fa cdv A outer s H E hr => ?_
    have nd : N_tupled.Nodup := sc_tupled.nd
    refine ⟨_, (pss_one (ps_ret (pe_ifExp (pt_val (pe_callB (call_isiTK K rfl) (by rfl) W.z_isinstance bt_isinstance (pa_cons (pv 0) (pa_cons (pe_tup (pa_cons (pe_bltn (v := .ty "list") (by rfl) W.z_list bt_list rfl) (pa_cons (pe_bltn (v := .ty "tuple") (by rfl) W.z_tuple bt_tuple rfl) pa_nil))) pa_nil)))) (pe_tupleK K rfl (by rfl) W.z_tuple (pe_lc (by rfl) nd (pi_sqK K rfl (pv 0)) (blkOk_by (N := N_tupled) (sc := C8.fnScope st_tupled) (own := [("part", 1)]) (by decide +kernel)) (fun _ _ _ _ _ => (pg_name (i := 1) nd rfl (Or.inl rfl) (Or.inr rfl))) (fun _ _ _ _ _ => pts_nil) (fun _ _ _ _ _ => (C8.pe_c hrec hr (Nat.le_refl _) (by rfl) (pa_cons (pv 1) pa_nil))))) (pv 0)))), ?_⟩
    exact fun u me => (es_ret (ev_if (et_B ((ev_isiT (us := ["list", "tuple"]) (isi_ok (by decide)) (by decide) (ev_var).x)).x) (ev_then rb_tup ((ev_lst (el_comp (ei_sqX (ev_var).x) eg_name et_yes (ev_call (ea_cons ev_var ea_nil)) (by decide)))).x) ev_var))

abbrev st_joined_runs : Stmt := topS 26
abbrev N_joined_runs : List Str := ["runs", "found", "heir", "number"]
theorem sc_joined_runs : FnScope N_joined_runs ["runs"] (C8.fnScope st_joined_runs) := C8.fnScope_by (by decide +kernel)
def B_joined_runs : DL.Env → T Out := (sSeq (sSet 1 (fTup aNil)) (sSeq (sFor (iSeq (fVar 0)) (gTupD (gsCons (gSet 2) (gsCons (gSet 3) gsNil))) (sIf (fAnd (fTest (fOp gtD (fFn lenD (fVar 1)) (fC (.int 0)))) (fTest (fOp eqD (fOp ixD (fOp ixD (fVar 1) (fUn negD (fC (.int 1)))) (fC (.int 0))) (fVar 2)))) (sSet 1 (fTup (aStar (fSl (fVar 1) oNo (oSome (fUn negD (fC (.int 1))))) (aCons (fTup (aCons (fVar 2) (aCons (fOp addD (fOp ixD (fOp ixD (fVar 1) (fUn negD (fC (.int 1)))) (fC (.int 1))) (fVar 3)) aNil))) aNil)))) (sSet 1 (fTup (aStar (fVar 1) (aCons (fTup (aCons (fVar 2) (aCons (fVar 3) aNil))) aNil)))))) (sRet (fVar 1))))
def F_joined_runs : List D → T D := runDef 1 3 B_joined_runs
theorem c_joined_runs {P : Program} {w : World} {K : PySem.W.Frag} {mg : Str → Option Value} {base : Heap} {cls : Nat → Addr} (W : Ws K mg cls) : C8.Cal P w K mg base 1 "joined_runs" (spF K cls F_joined_runs) [] := by
  refine def_of (N := N_joined_runs) (k := 0) W.d_joined_runs sc_joined_runs fun fa cdv A outer s H E hr => ?_
  have nd : N_joined_runs.Nodup := sc_joined_runs.nd
  refine ⟨_, (pss_cons (ps_set (i := 1) nd rfl (Or.inl rfl) (pe_tupN pa_nil)) (pss_cons (ps_for PassesOwn.never rfl (pi_sqK K rfl (pv 0)) (pg_tupK (n := 2) K rfl rfl (pgs_cons (pg_name (i := 2) nd rfl (Or.inl rfl) (Or.inr rfl)) (pgs_cons (pg_name (i := 3) nd rfl (Or.inl rfl) (Or.inr rfl)) pgs_nil))) (pss_one (ps_if (PW.pt (pw_and (pt_cmpR op_gt (pe_callB (call_lenK K rfl) (by rfl) W.z_len bt_len (pa_cons (pv 1) pa_nil)) pe_int (nomark _)) (pw_and1 (pt_cmpR (op_eqK K rfl (hu64 hr)) (pe_ix (ix_K K rfl) (pe_ix (ix_K K rfl) (pv 1) (pe_un un_neg pe_int) (fun _ _ => rfl)) pe_int (fun _ _ => rfl)) (pv 2) (nomark _))))) (pss_one (ps_set (i := 1) nd rfl (Or.inl rfl) (pe_tupN (pa_starK K rfl (pe_slice (sl_K K rfl) (pv 1) po_none (po_some (pe_un un_neg pe_int))) (pa_cons (pe_tupN (pa_cons (pv 2) (pa_cons (pe_op (op_addK K rfl) (pe_ix (ix_K K rfl) (pe_ix (ix_K K rfl) (pv 1) (pe_un un_neg pe_int) (fun _ _ => rfl)) pe_int (fun _ _ => rfl)) (pv 3)) pa_nil))) pa_nil))))) (pss_one (ps_set (i := 1) nd rfl (Or.inl rfl) (pe_tupN (pa_starK K rfl (pv 1) (pa_cons (pe_tupN (pa_cons (pv 2) (pa_cons (pv 3) pa_nil))) pa_nil)))))))) (pss_one (ps_ret (pv 1))))), ?_⟩
  exact fun u me => (es_seq (es_set (ev_tup ea_nil)) (es_seq (es_for (ei_sq ev_var) (gs_tup (gs_cons gs_name (gs_cons gs_name gs_nil)) (gs_len (gs_len gs_len0))) (es_if (et_and (et_test (ev_op rop_gt ((ev_fn rb_len (ev_var).x)).x ((ev_c fun _ => .int _)).x).x) (et_test (ev_op rop_eq ((ev_op rop_ix ((ev_op rop_ix (ev_var).x ((ev_un run_neg ((ev_c fun _ => .int _)).x)).x)).x ((ev_c fun _ => .int _)).x)).x (ev_var).x).x)) (es_set (ev_tup (ea_star ((ev_sl (ev_var).x eo_no (eo_some ((ev_un run_neg ((ev_c fun _ => .int _)).x)).x))).x (ea_cons (ev_tup (ea_cons ev_var (ea_cons (ev_op rop_add ((ev_op rop_ix ((ev_op rop_ix (ev_var).x ((ev_un run_neg ((ev_c fun _ => .int _)).x)).x)).x ((ev_c fun _ => .int _)).x)).x (ev_var).x) ea_nil))) ea_nil)))) (es_set (ev_tup (ea_star (ev_var).x (ea_cons (ev_tup (ea_cons ev_var (ea_cons ev_var ea_nil))) ea_nil)))))) (es_ret ev_var)))

abbrev st_ends_of : Stmt := topS 27
abbrev N_ends_of : List Str := ["runs", "place", "heir", "number"]
theorem sc_ends_of : FnScope N_ends_of ["runs"] (C8.fnScope st_ends_of) := C8.fnScope_by (by decide +kernel)
def B_ends_of : DL.Env → T Out := (sRet (fFn tupOfD (fOfL (fComp (iRange1 (aCons (fFn lenD (fVar 0)) aNil)) (gSet 1) fYes (fFn sumD (fOfL (fComp (iSeq (fSl (fVar 0) oNo (oSome (fOp addD (fVar 1) (fC (.int 1)))))) (gTupD (gsCons (gSet 2) (gsCons (gSet 3) gsNil))) fYes (fVar 3) [2, 3]))) [1]))))
def F_ends_of : List D → T D := runDef 1 3 B_ends_of
theorem c_ends_of {P : Program} {w : World} {K : PySem.W.Frag} {mg : Str → Option Value} {base : Heap} {cls : Nat → Addr} (W : Ws K mg cls) : C8.Cal P w K mg base 1 "ends_of" (spF K cls F_ends_of) [] := by
  refine def_of (N := N_ends_of) (k := 0) W.d_ends_of sc_ends_of fun fa cdv A outer s H E hr => ?_
  have nd : N_ends_of.Nodup := sc_ends_of.nd
  refine ⟨_, (pss_one (ps_ret (pe_tupleK K rfl (by rfl) W.z_tuple (pe_lc (by rfl) nd (pi_range1 (by rfl) W.z_range (pa_cons (pe_callB (call_lenK K rfl) (by rfl) W.z_len bt_len (pa_cons (pv 0) pa_nil)) pa_nil)) (blkOk_by (N := N_ends_of) (sc := C8.fnScope st_ends_of) (own := [("place", 1)]) (by decide +kernel)) (fun _ _ _ _ _ => (pg_name (i := 1) nd rfl (Or.inl rfl) (Or.inr rfl))) (fun _ _ _ _ _ => pts_nil) (fun _ _ _ _ _ => (pe_callB (cr_sumK K rfl (by rfl)) (by rfl) W.z_sum bt_sum (pa_cons (pe_lc (by rfl) nd (pi_sqK K rfl (pe_slice (sl_K K rfl) (pv 0) po_none (po_some (pe_op (op_addK K rfl) (pv 1) pe_int)))) (blkOk_by (N := N_ends_of) (sc := ({ kind := PySem.ScopeKind.function, names := [ (PySem.Str.ofString ".0", PySem.NameKind.local), (PySem.Str.ofString "place", PySem.NameKind.local), (PySem.Str.ofString "sum", PySem.NameKind.globalImplicit), (PySem.Str.ofString "runs", PySem.NameKind.cell)], isGenerator := false, isCoroutine := false, more := [] : PySem.Scope })) (own := [("heir", 2), ("number", 3)]) (by decide +kernel)) (fun _ _ _ _ _ => (pg_tupK (n := 2) K rfl rfl (pgs_cons (pg_name (i := 2) nd rfl (Or.inl rfl) (Or.inr rfl)) (pgs_cons (pg_name (i := 3) nd rfl (Or.inl rfl) (Or.inr rfl)) pgs_nil)))) (fun _ _ _ _ _ => pts_nil) (fun _ _ _ _ _ => (pv 3))) pa_nil))))))), ?_⟩
  exact fun u me => (es_ret (ev_then rb_tup ((ev_lst (el_comp ((ei_rg1 (ea_cons (ev_fn rb_len (ev_var).x) ea_nil))).x eg_name et_yes (ev_fn rb_sum ((ev_lst (el_comp (ei_sqX ((ev_sl (ev_var).x eo_no (eo_some ((ev_op rop_add (ev_var).x ((ev_c fun _ => .int _)).x)).x))).x) (eg_tup (eg_cons eg_name (eg_cons eg_name eg_nil)) (gs_len (gs_len gs_len0))) et_yes ev_var (by decide)))).x) (by decide)))).x))

abbrev st_Turns_init : Stmt := (C8.clsBody (topS 25)).getD 1 (.Pass ⟨0, 0, 0, 0⟩)
abbrev N_Turns_init : List Str := ["self", "runs", "rows", "place", "heir", "number"]
theorem sc_Turns_init : FnScope N_Turns_init ["self", "runs"] (C8.fnScope st_Turns_init) := C8.fnScope_by (by decide +kernel)
def B_Turns_init : DL.Env → T (List D) := (nSeq (sSet 2 (aFn (F_tupled 6) (aCons (fVar 1) aNil))) (nSeq (sFor (iEnum (fVar 2)) (gTupD (gsCons (gSet 3) (gsCons (gTupD (gsCons (gSet 4) (gsCons (gSet 5) gsNil))) gsNil))) (sIf (fOr (fTest (fOp ninD (fVar 4) (fC (.tup [(.str (PySem.Str.ofString "a")), (.str (PySem.Str.ofString "b"))])))) (fTest (fOp ltD (fVar 5) (fC (.int 1))))) sNever sNext)) (nTail 2 (jSeq (jFld (kk := 0) 1 (aFn F_joined_runs (aCons (fVar 2) aNil))) (jFld (kk := 0) 0 (aFn F_ends_of (aCons (fFldO 0 0 1) aNil)))))))
def I_Turns_init : List D → T (List D) := runInit 1 4 B_Turns_init
theorem c_Turns_init {P : Program} {w : World} {K : PySem.W.Frag} {mg : Str → Option Value} {base : Heap} {cls : Nat → Addr} (W : Ws K mg cls) : C8.Mak P w K mg base 8 "Turns" (cls 0) (spI K cls 0 I_Turns_init) [] := by
  obtain ⟨v_HEIRS_turns, g_HEIRS_turns⟩ := W.g_HEIRS_turns
  refine mk_of (N := N_Turns_init) (k := 7) (np := 1) W.m_Turns sc_Turns_init rfl fun fa cdv A outer s H E hr => ?_
  have nd : N_Turns_init.Nodup := sc_Turns_init.nd
  refine ⟨_, (pss_cons (ps_set (i := 2) nd rfl (Or.inl rfl) (C8.pe_c (c_tupled W 6) hr (by decide) (by rfl) (pa_cons (pv 1) pa_nil))) (pss_cons (ps_for PassesOwn.never rfl (pi_enK K rfl (by rfl) W.z_enumerate (pv 2)) (pg_tupK (n := 2) K rfl rfl (pgs_cons (pg_name (i := 3) nd rfl (Or.inl rfl) (Or.inr rfl)) (pgs_cons (pg_tupK (n := 2) K rfl rfl (pgs_cons (pg_name (i := 4) nd rfl (Or.inl rfl) (Or.inr rfl)) (pgs_cons (pg_name (i := 5) nd rfl (Or.inl rfl) (Or.inr rfl)) pgs_nil))) pgs_nil))) (pss_one (ps_if (PW.pt (pw_or (pt_cmpR (op_ninK K rfl) (pv 4) (C8.pe_gc (by rfl) g_HEIRS_turns.1) (by with_unfolding_all rfl)) (pw_or1 (pt_cmpR op_lt (pv 5) pe_int (nomark _))))) (pss_one ps_never) pss_nil))) (pss_cons (SlX.ps_sl (pv 0) (C8.pe_c (c_joined_runs W) hr (by decide) (by rfl) (pa_cons (pv 2) pa_nil))) (pss_one (SlX.ps_sl (pv 0) (C8.pe_c (c_ends_of W) hr (by decide) (by rfl) (pa_cons (pe_slK K rfl (pv 0)) pa_nil))))))), ?_⟩
  exact fun u me => (en_seq (es_set (ev_call (ea_cons ev_var ea_nil))) (en_seq (es_for (ei_en ev_var) (gs_tup (gs_cons gs_name (gs_cons (gs_tup (gs_cons gs_name (gs_cons gs_name gs_nil)) (gs_len (gs_len gs_len0))) gs_nil)) (gs_len (gs_len gs_len0))) (es_if (et_or (et_test (ev_op rop_nin (ev_var).x ((ev_c (g_HEIRS_turns.2 _ rfl))).x).x) (et_test (ev_op rop_lt (ev_var).x ((ev_c fun _ => .int _)).x).x)) es_never es_next)) (en_tail (ej_seq (ej_fld W.fl_own_runs (ev_call (ea_cons ev_var ea_nil))) (ej_fld W.fl_own_ends (ev_call (ea_cons (ev_fldO W.fl_own_runs) ea_nil)))))))

abbrev st_turns_of : Stmt := topS 34
abbrev N_turns_of : List Str := ["heirs_told", "heir"]
theorem sc_turns_of : FnScope N_turns_of ["heirs_told"] (C8.fnScope st_turns_of) := C8.fnScope_by (by decide +kernel)
def B_turns_of : DL.Env → T Out := (sRet (fMake 0 (aCons (fOfL (fComp (iSeq (fVar 0)) (gSet 1) fYes (fTup (aCons (fVar 1) (aCons (fC (.int 1)) aNil))) [1])) aNil) I_Turns_init))
def F_turns_of : List D → T D := runDef 1 1 B_turns_of
theorem c_turns_of {P : Program} {w : World} {K : PySem.W.Frag} {mg : Str → Option Value} {base : Heap} {cls : Nat → Addr} (W : Ws K mg cls) : C8.Cal P w K mg base 10 "turns_of" (spF K cls F_turns_of) [] := by
  refine def_of (N := N_turns_of) (k := 9) W.d_turns_of sc_turns_of fun fa cdv A outer s H E hr => ?_
  have nd : N_turns_of.Nodup := sc_turns_of.nd
  refine ⟨_, (pss_one (ps_ret (C8.pe_mk (c_Turns_init W) hr (by decide) (by rfl) (pa_cons (pe_lc (by rfl) nd (pi_sqK K rfl (pv 0)) (blkOk_by (N := N_turns_of) (sc := C8.fnScope st_turns_of) (own := [("heir", 1)]) (by decide +kernel)) (fun _ _ _ _ _ => (pg_name (i := 1) nd rfl (Or.inl rfl) (Or.inr rfl))) (fun _ _ _ _ _ => pts_nil) (fun _ _ _ _ _ => (pe_tupN (pa_cons (pv 1) (pa_cons pe_int pa_nil))))) pa_nil)))), ?_⟩
  exact fun u me => (es_ret (ev_make (ea_cons (ev_lst (el_comp (ei_sqX (ev_var).x) eg_name et_yes (ev_tup (ea_cons ev_var (ea_cons (ev_c fun _ => .int _) ea_nil))) (by decide))) ea_nil)))

abbrev st__law_heirs : Stmt := topS 69
abbrev N__law_heirs : List Str := ["urn", "size", "turn"]
theorem sc__law_heirs : FnScope N__law_heirs ["urn", "size"] (C8.fnScope st__law_heirs) := C8.fnScope_by (by decide +kernel)
def B__law_heirs : DL.Env → T Out := (sRet (fFn tupOfD (fOfL (fComp (iRange1 (aCons (fVar 1) aNil)) (gSet 2) fYes (aFn F__law_of (aCons (fVar 0) (aCons (fOfL (fLst (aCons (fC (.str (PySem.Str.ofString "a"))) (aCons (fC (.str (PySem.Str.ofString "b"))) aNil)))) aNil))) [2]))))
def F__law_heirs : List D → T D := runDef 2 1 B__law_heirs
theorem c__law_heirs {P : Program} {w : World} {K : PySem.W.Frag} {mg : Str → Option Value} {base : Heap} {cls : Nat → Addr} (W : Ws K mg cls) : C8.Cal P w K mg base 5 "_law_heirs" (spF K cls F__law_heirs) [] := by
  refine def_of (N := N__law_heirs) (k := 4) W.d__law_heirs sc__law_heirs fun fa cdv A outer s H E hr => ?_
  have nd : N__law_heirs.Nodup := sc__law_heirs.nd
  refine ⟨_, (pss_one (ps_ret (pe_tupleK K rfl (by rfl) W.z_tuple (pe_lc (by rfl) nd (pi_range1 (by rfl) W.z_range (pa_cons (pv 1) pa_nil)) (blkOk_by (N := N__law_heirs) (sc := C8.fnScope st__law_heirs) (own := [("turn", 2)]) (by decide +kernel)) (fun _ _ _ _ _ => (pg_name (i := 2) nd rfl (Or.inl rfl) (Or.inr rfl))) (fun _ _ _ _ _ => pts_nil) (fun _ _ _ _ _ => (C8.pe_c (c__law_of W) hr (by decide) (by rfl) (pa_cons (pv 0) (pa_cons (pe_lst (pa_cons pe_str (pa_cons pe_str pa_nil))) pa_nil)))))))), ?_⟩
  exact fun u me => (es_ret (ev_then rb_tup ((ev_lst (el_comp ((ei_rg1 (ea_cons ev_var ea_nil))).x eg_name et_yes (ev_call (ea_cons ev_var (ea_cons (ev_lst (el_lst (ea_cons (ev_c fun _ => .str _) (ea_cons (ev_c fun _ => .str _) ea_nil)))) ea_nil))) (by decide)))).x))

abbrev st_Turns_runs : Stmt := (C8.clsBody (topS 25)).getD 3 (.Pass ⟨0, 0, 0, 0⟩)
abbrev N_Turns_runs : List Str := ["self"]
theorem sc_Turns_runs : FnScope N_Turns_runs ["self"] (C8.fnScope st_Turns_runs) := C8.fnScope_by (by decide +kernel)
def B_Turns_runs : DL.Env → T Out := (sRet (fFld 0 1 (fVar 0)))
def F_Turns_runs : List D → T D := runDef 1 0 B_Turns_runs
theorem c_Turns_runs {P : Program} {w : World} {K : PySem.W.Frag} {mg : Str → Option Value} {base : Heap} {cls : Nat → Addr} (W : Ws K mg cls) : Pr P w K mg base 1 (cls 0) "runs" (spF K cls F_Turns_runs) := by
  refine pr_of (N := N_Turns_runs) (k := 0) W.s_Turns W.p_Turns_runs sc_Turns_runs fun fa cdv A outer s H E hr => ?_
  have nd : N_Turns_runs.Nodup := sc_Turns_runs.nd
  refine ⟨_, (pss_one (ps_ret (pe_slK K rfl (pv 0)))), ?_⟩
  exact fun u me => (es_ret (ev_fld W.fl_own_runs ev_var))

abbrev st__law_times : Stmt := topS 70
abbrev N__law_times : List Str := ["turns", "many", "heir", "number"]
theorem sc__law_times : FnScope N__law_times ["turns", "many"] (C8.fnScope st__law_times) := C8.fnScope_by (by decide +kernel)
def B__law_times : DL.Env → T Out := (sRet (fMake 0 (aCons (fFn tupOfD (fOfL (fComp (iSeq (fProp 0 F_Turns_runs (fVar 0))) (gTupD (gsCons (gSet 2) (gsCons (gSet 3) gsNil))) fYes (fTup (aCons (fVar 2) (aCons (fOp mulD (fVar 3) (fVar 1)) aNil))) [2, 3]))) aNil) I_Turns_init))
def F__law_times : List D → T D := runDef 2 2 B__law_times
theorem c__law_times {P : Program} {w : World} {K : PySem.W.Frag} {mg : Str → Option Value} {base : Heap} {cls : Nat → Addr} (W : Ws K mg cls) : C8.Cal P w K mg base 10 "_law_times" (spF K cls F__law_times) [] := by
  refine def_of (N := N__law_times) (k := 9) W.d__law_times sc__law_times fun fa cdv A outer s H E hr => ?_
  have nd : N__law_times.Nodup := sc__law_times.nd
  refine ⟨_, (pss_one (ps_ret (C8.pe_mk (c_Turns_init W) hr (by decide) (by rfl) (pa_cons (pe_tupleK K rfl (by rfl) W.z_tuple (pe_lc (by rfl) nd (pi_sqK K rfl (pe_pr (c_Turns_runs W) (pv 0) hr (by decide))) (blkOk_by (N := N__law_times) (sc := C8.fnScope st__law_times) (own := [("heir", 2), ("number", 3)]) (by decide +kernel)) (fun _ _ _ _ _ => (pg_tupK (n := 2) K rfl rfl (pgs_cons (pg_name (i := 2) nd rfl (Or.inl rfl) (Or.inr rfl)) (pgs_cons (pg_name (i := 3) nd rfl (Or.inl rfl) (Or.inr rfl)) pgs_nil)))) (fun _ _ _ _ _ => pts_nil) (fun _ _ _ _ _ => (pe_tupN (pa_cons (pv 2) (pa_cons (pe_op op_mulD (pv 3) (pv 1)) pa_nil)))))) pa_nil)))), ?_⟩
  exact fun u me => (es_ret (ev_make (ea_cons (ev_then rb_tup ((ev_lst (el_comp (ei_sqX ((ev_prop ev_var)).x) (eg_tup (eg_cons eg_name (eg_cons eg_name eg_nil)) (gs_len (gs_len gs_len0))) et_yes (ev_tup (ea_cons ev_var (ea_cons (ev_op rop_mul (ev_var).x (ev_var).x) ea_nil))) (by decide)))).x) ea_nil)))

abbrev st_Turns_size : Stmt := (C8.clsBody (topS 25)).getD 4 (.Pass ⟨0, 0, 0, 0⟩)
abbrev N_Turns_size : List Str := ["self", "heir", "number"]
theorem sc_Turns_size : FnScope N_Turns_size ["self"] (C8.fnScope st_Turns_size) := C8.fnScope_by (by decide +kernel)
def B_Turns_size : DL.Env → T Out := (sRet (fFn sumD (fOfL (fComp (iSeq (fFld 0 1 (fVar 0))) (gTupD (gsCons (gSet 1) (gsCons (gSet 2) gsNil))) fYes (fVar 2) [1, 2]))))
def F_Turns_size : List D → T D := runDef 1 2 B_Turns_size
theorem c_Turns_size {P : Program} {w : World} {K : PySem.W.Frag} {mg : Str → Option Value} {base : Heap} {cls : Nat → Addr} (W : Ws K mg cls) : Pr P w K mg base 1 (cls 0) "size" (spF K cls F_Turns_size) := by
  refine pr_of (N := N_Turns_size) (k := 0) W.s_Turns W.p_Turns_size sc_Turns_size fun fa cdv A outer s H E hr => ?_
  have nd : N_Turns_size.Nodup := sc_Turns_size.nd
  refine ⟨_, (pss_one (ps_ret (pe_callB (cr_sumK K rfl (by rfl)) (by rfl) W.z_sum bt_sum (pa_cons (pe_lc (by rfl) nd (pi_sqK K rfl (pe_slK K rfl (pv 0))) (blkOk_by (N := N_Turns_size) (sc := C8.fnScope st_Turns_size) (own := [("heir", 1), ("number", 2)]) (by decide +kernel)) (fun _ _ _ _ _ => (pg_tupK (n := 2) K rfl rfl (pgs_cons (pg_name (i := 1) nd rfl (Or.inl rfl) (Or.inr rfl)) (pgs_cons (pg_name (i := 2) nd rfl (Or.inl rfl) (Or.inr rfl)) pgs_nil)))) (fun _ _ _ _ _ => pts_nil) (fun _ _ _ _ _ => (pv 2))) pa_nil)))), ?_⟩
  exact fun u me => (es_ret (ev_fn rb_sum ((ev_lst (el_comp (ei_sqX ((ev_fld W.fl_own_runs ev_var)).x) (eg_tup (eg_cons eg_name (eg_cons eg_name eg_nil)) (gs_len (gs_len gs_len0))) et_yes ev_var (by decide)))).x))

abbrev st_Turns_ends : Stmt := (C8.clsBody (topS 25)).getD 7 (.Pass ⟨0, 0, 0, 0⟩)
abbrev N_Turns_ends : List Str := ["self"]
theorem sc_Turns_ends : FnScope N_Turns_ends ["self"] (C8.fnScope st_Turns_ends) := C8.fnScope_by (by decide +kernel)
def B_Turns_ends : DL.Env → T Out := (sRet (fFld 0 0 (fVar 0)))
def F_Turns_ends : List D → T D := runDef 1 0 B_Turns_ends
theorem c_Turns_ends {P : Program} {w : World} {K : PySem.W.Frag} {mg : Str → Option Value} {base : Heap} {cls : Nat → Addr} (W : Ws K mg cls) : Pr P w K mg base 1 (cls 0) "ends" (spF K cls F_Turns_ends) := by
  refine pr_of (N := N_Turns_ends) (k := 0) W.s_Turns W.p_Turns_ends sc_Turns_ends fun fa cdv A outer s H E hr => ?_
  have nd : N_Turns_ends.Nodup := sc_Turns_ends.nd
  refine ⟨_, (pss_one (ps_ret (pe_slK K rfl (pv 0)))), ?_⟩
  exact fun u me => (es_ret (ev_fld W.fl_own_ends ev_var))

abbrev st_ahead : Stmt := topS 28
abbrev N_ahead : List Str := ["turns", "number", "found", "end", "heir", "many"]
theorem sc_ahead : FnScope N_ahead ["turns", "number"] (C8.fnScope st_ahead) := C8.fnScope_by (by decide +kernel)
def B_ahead : DL.Env → T Out := (sSeq (sSet 2 (fC (.int 0))) (sSeq (sFor (iZip (fProp 0 F_Turns_runs (fVar 0)) (fProp 0 F_Turns_ends (fVar 0))) (gTupD (gsCons (gTupD (gsCons (gSet 4) (gsCons (gSet 5) gsNil))) (gsCons (gSet 3) gsNil))) (sIf (fTest (fOp eqD (fVar 4) (fC (.str (PySem.Str.ofString "a"))))) (sAug 2 (fun i j => i + j) (aFn max2D (aCons (fC (.int 0)) (aCons (aFn min2D (aCons (fVar 5) (aCons (fOp addD (fOp subD (fVar 1) (fVar 3)) (fVar 5)) aNil))) aNil)))) sNext)) (sRet (fVar 2))))
def F_ahead : List D → T D := runDef 2 4 B_ahead
theorem c_ahead {P : Program} {w : World} {K : PySem.W.Frag} {mg : Str → Option Value} {base : Heap} {cls : Nat → Addr} (W : Ws K mg cls) : C8.Cal P w K mg base 3 "ahead" (spF K cls F_ahead) [] := by
  refine def_of (N := N_ahead) (k := 2) W.d_ahead sc_ahead fun fa cdv A outer s H E hr => ?_
  have nd : N_ahead.Nodup := sc_ahead.nd
  refine ⟨_, (pss_cons (ps_set (i := 2) nd rfl (Or.inl rfl) pe_int) (pss_cons (ps_for PassesOwn.never rfl (pi_zpK K rfl (by rfl) W.z_zip (pe_pr (c_Turns_runs W) (pv 0) hr (by decide)) (pe_pr (c_Turns_ends W) (pv 0) hr (by decide))) (pg_tupK (n := 2) K rfl rfl (pgs_cons (pg_tupK (n := 2) K rfl rfl (pgs_cons (pg_name (i := 4) nd rfl (Or.inl rfl) (Or.inr rfl)) (pgs_cons (pg_name (i := 5) nd rfl (Or.inl rfl) (Or.inr rfl)) pgs_nil))) (pgs_cons (pg_name (i := 3) nd rfl (Or.inl rfl) (Or.inr rfl)) pgs_nil))) (pss_one (ps_if (pt_cmpR (op_eqK K rfl (hu64 hr)) (pv 4) pe_str (nomark _)) (pss_one (ps_aug (i := 2) nd rfl (Or.inl rfl) (pe_callB (call_max2 (by rfl)) (by rfl) W.z_max bt_max (pa_cons pe_int (pa_cons (pe_callB (call_min2 (by rfl)) (by rfl) W.z_min bt_min (pa_cons (pv 5) (pa_cons (pe_op (op_addK K rfl) (pe_op op_sub (pv 1) (pv 3)) (pv 5)) pa_nil))) pa_nil))) ip_add)) pss_nil))) (pss_one (ps_ret (pv 2))))), ?_⟩
  exact fun u me => (es_seq (es_set (ev_c fun _ => .int _)) (es_seq (es_for (ei_zp (ev_prop ev_var) (ev_prop ev_var)) (gs_tup (gs_cons (gs_tup (gs_cons gs_name (gs_cons gs_name gs_nil)) (gs_len (gs_len gs_len0))) (gs_cons gs_name gs_nil)) (gs_len (gs_len gs_len0))) (es_if (et_test (ev_op rop_eq (ev_var).x ((ev_c fun _ => .str _)).x).x) (es_aug ((ev_fnA rb_max2 (ea_cons (ev_c fun _ => .int _) (ea_cons (ev_fnA rb_min2 (ea_cons ev_var (ea_cons (ev_op rop_add ((ev_op rop_sub (ev_var).x (ev_var).x)).x (ev_var).x) ea_nil))) ea_nil)))).x) es_next)) (es_ret ev_var)))

abbrev st_lead : Stmt := topS 48
abbrev N_lead : List Str := ["turns", "end"]
theorem sc_lead : FnScope N_lead ["turns"] (C8.fnScope st_lead) := C8.fnScope_by (by decide +kernel)
def B_lead : DL.Env → T Out := (sRet (fFn maxLD (fOfL (fLst (aCons (fC (.int 0)) (aStar (fOfL (fComp (iSeq (fProp 0 F_Turns_ends (fVar 0))) (gSet 1) fYes (fOp subD (fOp addD (aFn F_ahead (aCons (fVar 0) (aCons (fVar 1) aNil))) (aFn F_ahead (aCons (fVar 0) (aCons (fVar 1) aNil)))) (fVar 1)) [1])) aNil))))))
def F_lead : List D → T D := runDef 1 1 B_lead
theorem c_lead {P : Program} {w : World} {K : PySem.W.Frag} {mg : Str → Option Value} {base : Heap} {cls : Nat → Addr} (W : Ws K mg cls) : C8.Cal P w K mg base 4 "lead" (spF K cls F_lead) [] := by
  refine def_of (N := N_lead) (k := 3) W.d_lead sc_lead fun fa cdv A outer s H E hr => ?_
  have nd : N_lead.Nodup := sc_lead.nd
  refine ⟨_, (pss_one (ps_ret (pe_callB (cr_maxK K rfl (by rfl)) (by rfl) W.z_max bt_max (pa_cons (pe_lst (pa_cons pe_int (pa_starK K rfl (pe_lc (by rfl) nd (pi_sqK K rfl (pe_pr (c_Turns_ends W) (pv 0) hr (by decide))) (blkOk_by (N := N_lead) (sc := C8.fnScope st_lead) (own := [("end", 1)]) (by decide +kernel)) (fun _ _ _ _ _ => (pg_name (i := 1) nd rfl (Or.inl rfl) (Or.inr rfl))) (fun _ _ _ _ _ => pts_nil) (fun _ _ _ _ _ => (pe_op op_sub (pe_op (op_addK K rfl) (C8.pe_c (c_ahead W) hr (by decide) (by rfl) (pa_cons (pv 0) (pa_cons (pv 1) pa_nil))) (C8.pe_c (c_ahead W) hr (by decide) (by rfl) (pa_cons (pv 0) (pa_cons (pv 1) pa_nil)))) (pv 1)))) pa_nil))) pa_nil)))), ?_⟩
  exact fun u me => (es_ret (ev_fn rb_max ((ev_lst (el_lst (ea_cons (ev_c fun _ => .int _) (ea_star ((ev_lst (el_comp (ei_sqX ((ev_prop ev_var)).x) eg_name et_yes (ev_op rop_sub ((ev_op rop_add ((ev_call (ea_cons ev_var (ea_cons ev_var ea_nil)))).x ((ev_call (ea_cons ev_var (ea_cons ev_var ea_nil)))).x)).x (ev_var).x) (by decide)))).x ea_nil))))).x))

abbrev st_swapped : Stmt := topS 33
abbrev N_swapped : List Str := ["turns", "heir", "number"]
theorem sc_swapped : FnScope N_swapped ["turns"] (C8.fnScope st_swapped) := C8.fnScope_by (by decide +kernel)
def B_swapped : DL.Env → T Out := (sRet (fMake 0 (aCons (fOfL (fComp (iSeq (fProp 0 F_Turns_runs (fVar 0))) (gTupD (gsCons (gSet 1) (gsCons (gSet 2) gsNil))) fYes (fTup (aCons (fIf (fTest (fOp eqD (fVar 1) (fC (.str (PySem.Str.ofString "a"))))) (fC (.str (PySem.Str.ofString "b"))) (fC (.str (PySem.Str.ofString "a")))) (aCons (fVar 2) aNil))) [1, 2])) aNil) I_Turns_init))
def F_swapped : List D → T D := runDef 1 2 B_swapped
theorem c_swapped {P : Program} {w : World} {K : PySem.W.Frag} {mg : Str → Option Value} {base : Heap} {cls : Nat → Addr} (W : Ws K mg cls) : C8.Cal P w K mg base 10 "swapped" (spF K cls F_swapped) [] := by
  refine def_of (N := N_swapped) (k := 9) W.d_swapped sc_swapped fun fa cdv A outer s H E hr => ?_
  have nd : N_swapped.Nodup := sc_swapped.nd
  refine ⟨_, (pss_one (ps_ret (C8.pe_mk (c_Turns_init W) hr (by decide) (by rfl) (pa_cons (pe_lc (by rfl) nd (pi_sqK K rfl (pe_pr (c_Turns_runs W) (pv 0) hr (by decide))) (blkOk_by (N := N_swapped) (sc := C8.fnScope st_swapped) (own := [("heir", 1), ("number", 2)]) (by decide +kernel)) (fun _ _ _ _ _ => (pg_tupK (n := 2) K rfl rfl (pgs_cons (pg_name (i := 1) nd rfl (Or.inl rfl) (Or.inr rfl)) (pgs_cons (pg_name (i := 2) nd rfl (Or.inl rfl) (Or.inr rfl)) pgs_nil)))) (fun _ _ _ _ _ => pts_nil) (fun _ _ _ _ _ => (pe_tupN (pa_cons (pe_ifExp (pt_cmpR (op_eqK K rfl (hu64 hr)) (pv 1) pe_str (nomark _)) pe_str pe_str) (pa_cons (pv 2) pa_nil))))) pa_nil)))), ?_⟩
  exact fun u me => (es_ret (ev_make (ea_cons (ev_lst (el_comp (ei_sqX ((ev_prop ev_var)).x) (eg_tup (eg_cons eg_name (eg_cons eg_name eg_nil)) (gs_len (gs_len gs_len0))) et_yes (ev_tup (ea_cons (ev_if (et_test (ev_op rop_eq (ev_var).x ((ev_c fun _ => .str _)).x).x) (ev_c fun _ => .str _) (ev_c fun _ => .str _)) (ea_cons ev_var ea_nil))) (by decide))) ea_nil)))

abbrev st_lag : Stmt := topS 49
abbrev N_lag : List Str := ["turns"]
theorem sc_lag : FnScope N_lag ["turns"] (C8.fnScope st_lag) := C8.fnScope_by (by decide +kernel)
def B_lag : DL.Env → T Out := (sRet (aFn F_lead (aCons (aFn F_swapped (aCons (fVar 0) aNil)) aNil)))
def F_lag : List D → T D := runDef 1 0 B_lag
theorem c_lag {P : Program} {w : World} {K : PySem.W.Frag} {mg : Str → Option Value} {base : Heap} {cls : Nat → Addr} (W : Ws K mg cls) : C8.Cal P w K mg base 11 "lag" (spF K cls F_lag) [] := by
  refine def_of (N := N_lag) (k := 10) W.d_lag sc_lag fun fa cdv A outer s H E hr => ?_
  have nd : N_lag.Nodup := sc_lag.nd
  refine ⟨_, (pss_one (ps_ret (C8.pe_c (c_lead W) hr (by decide) (by rfl) (pa_cons (C8.pe_c (c_swapped W) hr (by decide) (by rfl) (pa_cons (pv 0) pa_nil)) pa_nil)))), ?_⟩
  exact fun u me => (es_ret (ev_call (ea_cons (ev_call (ea_cons ev_var ea_nil)) ea_nil)))

abbrev st_never_behind : Stmt := topS 51
abbrev N_never_behind : List Str := ["turns"]
theorem sc_never_behind : FnScope N_never_behind ["turns"] (C8.fnScope st_never_behind) := C8.fnScope_by (by decide +kernel)
def B_never_behind : DL.Env → T Out := (sRet (fOp eqD (aFn F_lag (aCons (fVar 0) aNil)) (fC (.int 0))))
def F_never_behind : List D → T D := runDef 1 0 B_never_behind
theorem c_never_behind {P : Program} {w : World} {K : PySem.W.Frag} {mg : Str → Option Value} {base : Heap} {cls : Nat → Addr} (W : Ws K mg cls) : C8.Cal P w K mg base 12 "never_behind" (spF K cls F_never_behind) [] := by
  refine def_of (N := N_never_behind) (k := 11) W.d_never_behind sc_never_behind fun fa cdv A outer s H E hr => ?_
  have nd : N_never_behind.Nodup := sc_never_behind.nd
  refine ⟨_, (pss_one (ps_ret (pe_cmpR (op_eqK K rfl (hu64 hr)) (C8.pe_c (c_lag W) hr (by decide) (by rfl) (pa_cons (pv 0) pa_nil)) pe_int (nomark _)))), ?_⟩
  exact fun u me => (es_ret (ev_op rop_eq ((ev_call (ea_cons ev_var ea_nil))).x ((ev_c fun _ => .int _)).x))

abbrev st_most_gain : Stmt := topS 53
abbrev N_most_gain : List Str := ["turns", "top"]
theorem sc_most_gain : FnScope N_most_gain ["turns", "top"] (C8.fnScope st_most_gain) := C8.fnScope_by (by decide +kernel)
def B_most_gain : DL.Env → T Out := (sRet (fOp mulD (fVar 1) (aFn F_lead (aCons (fVar 0) aNil))))
def F_most_gain : List D → T D := runDef 2 0 B_most_gain
theorem c_most_gain {P : Program} {w : World} {K : PySem.W.Frag} {mg : Str → Option Value} {base : Heap} {cls : Nat → Addr} (W : Ws K mg cls) : C8.Cal P w K mg base 5 "most_gain" (spF K cls F_most_gain) [] := by
  refine def_of (N := N_most_gain) (k := 4) W.d_most_gain sc_most_gain fun fa cdv A outer s H E hr => ?_
  have nd : N_most_gain.Nodup := sc_most_gain.nd
  refine ⟨_, (pss_one (ps_ret (pe_op op_mulD (pv 1) (C8.pe_c (c_lead W) hr (by decide) (by rfl) (pa_cons (pv 0) pa_nil))))), ?_⟩
  exact fun u me => (es_ret (ev_op rop_mul (ev_var).x ((ev_call (ea_cons ev_var ea_nil))).x))

abbrev st_spread : Stmt := topS 50
abbrev N_spread : List Str := ["turns"]
theorem sc_spread : FnScope N_spread ["turns"] (C8.fnScope st_spread) := C8.fnScope_by (by decide +kernel)
def B_spread : DL.Env → T Out := (sRet (aFn max2D (aCons (aFn F_lead (aCons (fVar 0) aNil)) (aCons (aFn F_lag (aCons (fVar 0) aNil)) aNil))))
def F_spread : List D → T D := runDef 1 0 B_spread
theorem c_spread {P : Program} {w : World} {K : PySem.W.Frag} {mg : Str → Option Value} {base : Heap} {cls : Nat → Addr} (W : Ws K mg cls) : C8.Cal P w K mg base 12 "spread" (spF K cls F_spread) [] := by
  refine def_of (N := N_spread) (k := 11) W.d_spread sc_spread fun fa cdv A outer s H E hr => ?_
  have nd : N_spread.Nodup := sc_spread.nd
  refine ⟨_, (pss_one (ps_ret (pe_callB (call_max2 (by rfl)) (by rfl) W.z_max bt_max (pa_cons (C8.pe_c (c_lead W) hr (by decide) (by rfl) (pa_cons (pv 0) pa_nil)) (pa_cons (C8.pe_c (c_lag W) hr (by decide) (by rfl) (pa_cons (pv 0) pa_nil)) pa_nil))))), ?_⟩
  exact fun u me => (es_ret (ev_fnA rb_max2 (ea_cons (ev_call (ea_cons ev_var ea_nil)) (ea_cons (ev_call (ea_cons ev_var ea_nil)) ea_nil))))

abbrev st_Turns_his : Stmt := (C8.clsBody (topS 25)).getD 6 (.Pass ⟨0, 0, 0, 0⟩)
abbrev N_Turns_his : List Str := ["self", "heir", "number"]
theorem sc_Turns_his : FnScope N_Turns_his ["self"] (C8.fnScope st_Turns_his) := C8.fnScope_by (by decide +kernel)
def B_Turns_his : DL.Env → T Out := (sRet (fFn sumD (fOfL (fComp (iSeq (fFld 0 1 (fVar 0))) (gTupD (gsCons (gSet 1) (gsCons (gSet 2) gsNil))) (fTest (fOp eqD (fVar 1) (fC (.str (PySem.Str.ofString "b"))))) (fVar 2) [1, 2]))))
def F_Turns_his : List D → T D := runDef 1 2 B_Turns_his
theorem c_Turns_his {P : Program} {w : World} {K : PySem.W.Frag} {mg : Str → Option Value} {base : Heap} {cls : Nat → Addr} (W : Ws K mg cls) : Pr P w K mg base 1 (cls 0) "his" (spF K cls F_Turns_his) := by
  refine pr_of (N := N_Turns_his) (k := 0) W.s_Turns W.p_Turns_his sc_Turns_his fun fa cdv A outer s H E hr => ?_
  have nd : N_Turns_his.Nodup := sc_Turns_his.nd
  refine ⟨_, (pss_one (ps_ret (pe_callB (cr_sumK K rfl (by rfl)) (by rfl) W.z_sum bt_sum (pa_cons (pe_lc (by rfl) nd (pi_sqK K rfl (pe_slK K rfl (pv 0))) (blkOk_by (N := N_Turns_his) (sc := C8.fnScope st_Turns_his) (own := [("heir", 1), ("number", 2)]) (by decide +kernel)) (fun _ _ _ _ _ => (pg_tupK (n := 2) K rfl rfl (pgs_cons (pg_name (i := 1) nd rfl (Or.inl rfl) (Or.inr rfl)) (pgs_cons (pg_name (i := 2) nd rfl (Or.inl rfl) (Or.inr rfl)) pgs_nil)))) (fun _ _ _ _ _ => (pts_one (pt_cmpR (op_eqK K rfl (hu64 hr)) (pv 1) pe_str (nomark _)))) (fun _ _ _ _ _ => (pv 2))) pa_nil)))), ?_⟩
  exact fun u me => (es_ret (ev_fn rb_sum ((ev_lst (el_comp (ei_sqX ((ev_fld W.fl_own_runs ev_var)).x) (eg_tup (eg_cons eg_name (eg_cons eg_name eg_nil)) (gs_len (gs_len gs_len0))) (et_test (ev_op rop_eq (ev_var).x ((ev_c fun _ => .str _)).x).x) ev_var (by decide)))).x))

abbrev st_Turns_hers : Stmt := (C8.clsBody (topS 25)).getD 5 (.Pass ⟨0, 0, 0, 0⟩)
abbrev N_Turns_hers : List Str := ["self", "heir", "number"]
theorem sc_Turns_hers : FnScope N_Turns_hers ["self"] (C8.fnScope st_Turns_hers) := C8.fnScope_by (by decide +kernel)
def B_Turns_hers : DL.Env → T Out := (sRet (fFn sumD (fOfL (fComp (iSeq (fFld 0 1 (fVar 0))) (gTupD (gsCons (gSet 1) (gsCons (gSet 2) gsNil))) (fTest (fOp eqD (fVar 1) (fC (.str (PySem.Str.ofString "a"))))) (fVar 2) [1, 2]))))
def F_Turns_hers : List D → T D := runDef 1 2 B_Turns_hers
theorem c_Turns_hers {P : Program} {w : World} {K : PySem.W.Frag} {mg : Str → Option Value} {base : Heap} {cls : Nat → Addr} (W : Ws K mg cls) : Pr P w K mg base 1 (cls 0) "hers" (spF K cls F_Turns_hers) := by
  refine pr_of (N := N_Turns_hers) (k := 0) W.s_Turns W.p_Turns_hers sc_Turns_hers fun fa cdv A outer s H E hr => ?_
  have nd : N_Turns_hers.Nodup := sc_Turns_hers.nd
  refine ⟨_, (pss_one (ps_ret (pe_callB (cr_sumK K rfl (by rfl)) (by rfl) W.z_sum bt_sum (pa_cons (pe_lc (by rfl) nd (pi_sqK K rfl (pe_slK K rfl (pv 0))) (blkOk_by (N := N_Turns_hers) (sc := C8.fnScope st_Turns_hers) (own := [("heir", 1), ("number", 2)]) (by decide +kernel)) (fun _ _ _ _ _ => (pg_tupK (n := 2) K rfl rfl (pgs_cons (pg_name (i := 1) nd rfl (Or.inl rfl) (Or.inr rfl)) (pgs_cons (pg_name (i := 2) nd rfl (Or.inl rfl) (Or.inr rfl)) pgs_nil)))) (fun _ _ _ _ _ => (pts_one (pt_cmpR (op_eqK K rfl (hu64 hr)) (pv 1) pe_str (nomark _)))) (fun _ _ _ _ _ => (pv 2))) pa_nil)))), ?_⟩
  exact fun u me => (es_ret (ev_fn rb_sum ((ev_lst (el_comp (ei_sqX ((ev_fld W.fl_own_runs ev_var)).x) (eg_tup (eg_cons eg_name (eg_cons eg_name eg_nil)) (gs_len (gs_len gs_len0))) (et_test (ev_op rop_eq (ev_var).x ((ev_c fun _ => .str _)).x).x) ev_var (by decide)))).x))

abbrev st__law_same : Stmt := topS 68
abbrev N__law_same : List Str := ["got", "due", "mine", "own"]
theorem sc__law_same : FnScope N__law_same ["got", "due"] (C8.fnScope st__law_same) := C8.fnScope_by (by decide +kernel)
def B__law_same (rec : List D → T D) : DL.Env → T Out := (sSeq (sIf (fTest (fFn (isiD ["list", "tuple"]) (fVar 1))) (sSeq (sIf (fOr (fTest (fOp neD (fFn (isiD ["list"]) (fVar 0)) (fFn (isiD ["list"]) (fVar 1)))) (fTest (fOp neD (fFn (isiD ["tuple"]) (fVar 0)) (fFn (isiD ["tuple"]) (fVar 1))))) (sRet (fC (.bl false))) sNext) (sRet (fAndV (fOp eqD (fFn lenD (fVar 0)) (fFn lenD (fVar 1))) (fFn allD (fOfL (fComp (iZip (fVar 0) (fVar 1)) (gTupD (gsCons (gSet 2) (gsCons (gSet 3) gsNil))) fYes (aFn rec (aCons (fVar 2) (aCons (fVar 3) aNil))) [2, 3])))))) sNext) (sSeq (sIf (fOr (fTest (fIsN (fVar 1))) (fTest (fFn (isiD ["bool", "str"]) (fVar 1)))) (sRet (fAndV (fOp eqD (fFn (isiD ["str"]) (fVar 0)) (fFn (isiD ["str"]) (fVar 1))) (fAndV (fOp eqD (fFn (isiD ["bool"]) (fVar 0)) (fFn (isiD ["bool"]) (fVar 1))) (fAndV (fOp eqD (fIsN (fVar 0)) (fIsN (fVar 1))) (fOp eqD (fVar 0) (fVar 1)))))) sNext) (sRet (fAndV (fFn (isiD ["int"]) (fVar 0)) (fAndV (fNotV (fFn (isiD ["bool"]) (fVar 0))) (fOp eqD (fVar 0) (fVar 1)))))))
def F__law_same : Nat → List D → T D
  | 0 => runDef 2 2 sNever
  | d + 1 => runDef 2 2 (B__law_same (F__law_same d))
theorem c__law_same {P : Program} {w : World} {K : PySem.W.Frag} {mg : Str → Option Value} {base : Heap} {cls : Nat → Addr} (W : Ws K mg cls) : ∀ d : Nat, C8.Cal P w K mg base (d + 1) "_law_same" (spF K cls (F__law_same d)) []
  | 0 => def_of (N := N__law_same) (k := 0) (B := sNever) W.d__law_same sc__law_same fun fa cdv A outer s H E hr => ⟨_, pss_never, fun u me => es_never⟩
  | d + 1 => by
    have hrec := c__law_same (P := P) (w := w) (base := base) W d
    refine def_of (N := N__law_same) (k := d + 1) W.d__law_same sc__law_same fun fa cdv A outer s H E hr => ?_
    have nd : N__law_same.Nodup := sc__law_same.nd
    refine ⟨_, (pss_cons (ps_if (pt_val (pe_callB (call_isiTK K rfl) (by rfl) W.z_isinstance bt_isinstance (pa_cons (pv 1) (pa_cons (pe_tup (pa_cons (pe_bltn (v := .ty "list") (by rfl) W.z_list bt_list rfl) (pa_cons (pe_bltn (v := .ty "tuple") (by rfl) W.z_tuple bt_tuple rfl) pa_nil))) pa_nil)))) (pss_cons (ps_if (PW.pt (pw_or (pt_cmpR (op_neK K rfl (hu64 hr)) (pe_callB (call_isiKq K rfl) (by rfl) W.z_isinstance bt_isinstance (pa_cons (pv 0) (pa_cons (pe_bltn (v := .ty "list") (by rfl) W.z_list bt_list rfl) pa_nil))) (pe_callB (call_isiKq K rfl) (by rfl) W.z_isinstance bt_isinstance (pa_cons (pv 1) (pa_cons (pe_bltn (v := .ty "list") (by rfl) W.z_list bt_list rfl) pa_nil))) (nomark _)) (pw_or1 (pt_cmpR (op_neK K rfl (hu64 hr)) (pe_callB (call_isiKq K rfl) (by rfl) W.z_isinstance bt_isinstance (pa_cons (pv 0) (pa_cons (pe_bltn (v := .ty "tuple") (by rfl) W.z_tuple bt_tuple rfl) pa_nil))) (pe_callB (call_isiKq K rfl) (by rfl) W.z_isinstance bt_isinstance (pa_cons (pv 1) (pa_cons (pe_bltn (v := .ty "tuple") (by rfl) W.z_tuple bt_tuple rfl) pa_nil))) (nomark _))))) (pss_one (ps_ret pe_bl)) pss_nil) (pss_one (ps_ret (pe_and (pe_cmpR (op_eqK K rfl (hu64 hr)) (pe_callB (call_lenK K rfl) (by rfl) W.z_len bt_len (pa_cons (pv 0) pa_nil)) (pe_callB (call_lenK K rfl) (by rfl) W.z_len bt_len (pa_cons (pv 1) pa_nil)) (nomark _)) (pe_one (pe_callB (cr_allK K rfl (by rfl)) (by rfl) W.z_all bt_all (pa_cons (pe_lc (by rfl) nd (pi_zpK K rfl (by rfl) W.z_zip (pv 0) (pv 1)) (blkOk_by (N := N__law_same) (sc := C8.fnScope st__law_same) (own := [("mine", 2), ("own", 3)]) (by decide +kernel)) (fun _ _ _ _ _ => (pg_tupK (n := 2) K rfl rfl (pgs_cons (pg_name (i := 2) nd rfl (Or.inl rfl) (Or.inr rfl)) (pgs_cons (pg_name (i := 3) nd rfl (Or.inl rfl) (Or.inr rfl)) pgs_nil)))) (fun _ _ _ _ _ => pts_nil) (fun _ _ _ _ _ => (C8.pe_c hrec hr (Nat.le_refl _) (by rfl) (pa_cons (pv 2) (pa_cons (pv 3) pa_nil))))) pa_nil))))))) pss_nil) (pss_cons (ps_if (PW.pt (pw_or (pt_cmp (pc_isN (pv 1))) (pw_or1 (pt_val (pe_callB (call_isiTK K rfl) (by rfl) W.z_isinstance bt_isinstance (pa_cons (pv 1) (pa_cons (pe_tup (pa_cons (pe_bltn (v := .ty "bool") (by rfl) W.z_bool bt_bool rfl) (pa_cons (pe_bltn (v := .ty "str") (by rfl) W.z_str bt_str rfl) pa_nil))) pa_nil))))))) (pss_one (ps_ret (pe_and (pe_cmpR (op_eqK K rfl (hu64 hr)) (pe_callB (call_isiKq K rfl) (by rfl) W.z_isinstance bt_isinstance (pa_cons (pv 0) (pa_cons (pe_bltn (v := .ty "str") (by rfl) W.z_str bt_str rfl) pa_nil))) (pe_callB (call_isiKq K rfl) (by rfl) W.z_isinstance bt_isinstance (pa_cons (pv 1) (pa_cons (pe_bltn (v := .ty "str") (by rfl) W.z_str bt_str rfl) pa_nil))) (nomark _)) (pe_and (pe_cmpR (op_eqK K rfl (hu64 hr)) (pe_callB (call_isiKq K rfl) (by rfl) W.z_isinstance bt_isinstance (pa_cons (pv 0) (pa_cons (pe_bltn (v := .ty "bool") (by rfl) W.z_bool bt_bool rfl) pa_nil))) (pe_callB (call_isiKq K rfl) (by rfl) W.z_isinstance bt_isinstance (pa_cons (pv 1) (pa_cons (pe_bltn (v := .ty "bool") (by rfl) W.z_bool bt_bool rfl) pa_nil))) (nomark _)) (pe_and (pe_cmpR (op_eqK K rfl (hu64 hr)) (pe_cmp (pc_isN (pv 0))) (pe_cmp (pc_isN (pv 1))) (nomark _)) (pe_one (pe_cmpR (op_eqK K rfl (hu64 hr)) (pv 0) (pv 1) (nomark _)))))))) pss_nil) (pss_one (ps_ret (pe_and (pe_callB (call_isiKq K rfl) (by rfl) W.z_isinstance bt_isinstance (pa_cons (pv 0) (pa_cons (pe_bltn (v := .ty "int") (by rfl) W.z_int bt_int rfl) pa_nil))) (pe_and (pe_not (pe_callB (call_isiKq K rfl) (by rfl) W.z_isinstance bt_isinstance (pa_cons (pv 0) (pa_cons (pe_bltn (v := .ty "bool") (by rfl) W.z_bool bt_bool rfl) pa_nil)))) (pe_one (pe_cmpR (op_eqK K rfl (hu64 hr)) (pv 0) (pv 1) (nomark _))))))))), ?_⟩
    exact fun u me => (es_seq (es_if (et_B ((ev_isiT (us := ["list", "tuple"]) (isi_ok (by decide)) (by decide) (ev_var).x)).x) (es_seq (es_if (et_or (et_test (ev_op rop_ne ((ev_isi (isi_ok (by decide)) (ev_var).x)).x ((ev_isi (isi_ok (by decide)) (ev_var).x)).x).x) (et_test (ev_op rop_ne ((ev_isi (isi_ok (by decide)) (ev_var).x)).x ((ev_isi (isi_ok (by decide)) (ev_var).x)).x).x)) (es_ret (ev_c fun _ => .bl _)) es_next) (es_ret (ev_andV ((ev_op rop_eq ((ev_fn rb_len (ev_var).x)).x ((ev_fn rb_len (ev_var).x)).x)).x (ev_fn rb_all ((ev_lst (el_comp (ei_zpX (ev_var).x (ev_var).x) (eg_tup (eg_cons eg_name (eg_cons eg_name eg_nil)) (gs_len (gs_len gs_len0))) et_yes (ev_call (ea_cons ev_var (ea_cons ev_var ea_nil))) (by decide)))).x)))) es_next) (es_seq (es_if (et_or (et_B (ev_isN (ev_var).x).x) (et_B ((ev_isiT (us := ["bool", "str"]) (isi_ok (by decide)) (by decide) (ev_var).x)).x)) (es_ret (ev_andV ((ev_op rop_eq ((ev_isi (isi_ok (by decide)) (ev_var).x)).x ((ev_isi (isi_ok (by decide)) (ev_var).x)).x)).x (ev_andV ((ev_op rop_eq ((ev_isi (isi_ok (by decide)) (ev_var).x)).x ((ev_isi (isi_ok (by decide)) (ev_var).x)).x)).x (ev_andV ((ev_op rop_eq ((ev_isN (ev_var).x)).x ((ev_isN (ev_var).x)).x)).x (ev_op rop_eq (ev_var).x (ev_var).x))))) es_next) (es_ret (ev_andV ((ev_isi (isi_ok (by decide)) (ev_var).x)).x (ev_andV ((ev_notV ((ev_isi (isi_ok (by decide)) (ev_var).x)).x)).x (ev_op rop_eq (ev_var).x (ev_var).x))))))

abbrev st_behind_at : Stmt := topS 52
abbrev N_behind_at : List Str := ["turns", "here", "begin", "end", "heir", "number"]
theorem sc_behind_at : FnScope N_behind_at ["turns"] (C8.fnScope st_behind_at) := C8.fnScope_by (by decide +kernel)
def B_behind_at : DL.Env → T Out := (sSeq (sUnp (fTup (aCons (fC (.int 0)) (aCons (fC (.int 0)) aNil))) (gTupD (gsCons (gSet 1) (gsCons (gSet 2) gsNil)))) (sSeq (sFor (iZip (fProp 0 F_Turns_runs (fVar 0)) (fProp 0 F_Turns_ends (fVar 0))) (gTupD (gsCons (gTupD (gsCons (gSet 4) (gsCons (gSet 5) gsNil))) (gsCons (gSet 3) gsNil))) (sSeq (sIf (fAnd (fTest (fOp eqD (fVar 4) (fC (.str (PySem.Str.ofString "b"))))) (fTest (fOp gtD (fVar 5) (fVar 1)))) (sRet (fOp addD (fOp addD (fVar 2) (fVar 1)) (fC (.int 1)))) sNext) (sParVV 1 2 (fOp addD (fVar 1) (fIf (fTest (fOp eqD (fVar 4) (fC (.str (PySem.Str.ofString "a"))))) (fVar 5) (fUn negD (fVar 5)))) (fVar 3)))) (sRet (fC .non))))
def F_behind_at : List D → T D := runDef 1 5 B_behind_at
theorem c_behind_at {P : Program} {w : World} {K : PySem.W.Frag} {mg : Str → Option Value} {base : Heap} {cls : Nat → Addr} (W : Ws K mg cls) : C8.Cal P w K mg base 3 "behind_at" (spF K cls F_behind_at) [] := by
  refine def_of (N := N_behind_at) (k := 2) W.d_behind_at sc_behind_at fun fa cdv A outer s H E hr => ?_
  have nd : N_behind_at.Nodup := sc_behind_at.nd
  refine ⟨_, (pss_cons (ps_asg (pe_tupN (pa_cons pe_int (pa_cons pe_int pa_nil))) (pg_tupK (n := 2) K rfl rfl (pgs_cons (pg_name (i := 1) nd rfl (Or.inl rfl) (Or.inr rfl)) (pgs_cons (pg_name (i := 2) nd rfl (Or.inl rfl) (Or.inr rfl)) pgs_nil)))) (pss_cons (ps_for PassesOwn.never rfl (pi_zpK K rfl (by rfl) W.z_zip (pe_pr (c_Turns_runs W) (pv 0) hr (by decide)) (pe_pr (c_Turns_ends W) (pv 0) hr (by decide))) (pg_tupK (n := 2) K rfl rfl (pgs_cons (pg_tupK (n := 2) K rfl rfl (pgs_cons (pg_name (i := 4) nd rfl (Or.inl rfl) (Or.inr rfl)) (pgs_cons (pg_name (i := 5) nd rfl (Or.inl rfl) (Or.inr rfl)) pgs_nil))) (pgs_cons (pg_name (i := 3) nd rfl (Or.inl rfl) (Or.inr rfl)) pgs_nil))) (pss_cons (ps_if (PW.pt (pw_and (pt_cmpR (op_eqK K rfl (hu64 hr)) (pv 4) pe_str (nomark _)) (pw_and1 (pt_cmpR op_gt (pv 5) (pv 1) (nomark _))))) (pss_one (ps_ret (pe_op (op_addK K rfl) (pe_op (op_addK K rfl) (pv 2) (pv 1)) pe_int))) pss_nil) (pss_one (ps_par (i := 1) (j := 2) rfl nd rfl rfl (by decide) rfl rfl (pa_cons (pe_op (op_addK K rfl) (pv 1) (pe_ifExp (pt_cmpR (op_eqK K rfl (hu64 hr)) (pv 4) pe_str (nomark _)) (pv 5) (pe_un un_neg (pv 5)))) (pa_cons (pv 3) pa_nil)) (by rfl))))) (pss_one (ps_ret pe_non)))), ?_⟩
  exact fun u me => (es_seq (es_unp (ev_tup (ea_cons (ev_c fun _ => .int _) (ea_cons (ev_c fun _ => .int _) ea_nil))) (gs_tup (gs_cons gs_name (gs_cons gs_name gs_nil)) (gs_len (gs_len gs_len0)))) (es_seq (es_for (ei_zp (ev_prop ev_var) (ev_prop ev_var)) (gs_tup (gs_cons (gs_tup (gs_cons gs_name (gs_cons gs_name gs_nil)) (gs_len (gs_len gs_len0))) (gs_cons gs_name gs_nil)) (gs_len (gs_len gs_len0))) (es_seq (es_if (et_and (et_test (ev_op rop_eq (ev_var).x ((ev_c fun _ => .str _)).x).x) (et_test (ev_op rop_gt (ev_var).x (ev_var).x).x)) (es_ret (ev_op rop_add ((ev_op rop_add (ev_var).x (ev_var).x)).x ((ev_c fun _ => .int _)).x)) es_next) (es_parVV (ev_op rop_add (ev_var).x ((ev_if (et_test (ev_op rop_eq (ev_var).x ((ev_c fun _ => .str _)).x).x) ev_var (ev_un run_neg (ev_var).x))).x) ev_var))) (es_ret (ev_c fun _ => .non))))

abbrev st_place_sum : Stmt := topS 55
abbrev N_place_sum : List Str := ["turns", "found", "end", "heir", "number"]
theorem sc_place_sum : FnScope N_place_sum ["turns"] (C8.fnScope st_place_sum) := C8.fnScope_by (by decide +kernel)
def B_place_sum : DL.Env → T Out := (sSeq (sSet 1 (fC (.int 0))) (sSeq (sFor (iZip (fProp 0 F_Turns_runs (fVar 0)) (fProp 0 F_Turns_ends (fVar 0))) (gTupD (gsCons (gTupD (gsCons (gSet 3) (gsCons (gSet 4) gsNil))) (gsCons (gSet 2) gsNil))) (sIf (fTest (fOp eqD (fVar 3) (fC (.str (PySem.Str.ofString "a"))))) (sAug 1 (fun i j => i + j) (fOp fdivD (fOp mulD (fVar 4) (fOp addD (fOp subD (fOp addD (fVar 2) (fVar 2)) (fVar 4)) (fC (.int 1)))) (fC (.int 2)))) sNext)) (sRet (fVar 1))))
def F_place_sum : List D → T D := runDef 1 4 B_place_sum
theorem c_place_sum {P : Program} {w : World} {K : PySem.W.Frag} {mg : Str → Option Value} {base : Heap} {cls : Nat → Addr} (W : Ws K mg cls) : C8.Cal P w K mg base 3 "place_sum" (spF K cls F_place_sum) [] := by
  refine def_of (N := N_place_sum) (k := 2) W.d_place_sum sc_place_sum fun fa cdv A outer s H E hr => ?_
  have nd : N_place_sum.Nodup := sc_place_sum.nd
  refine ⟨_, (pss_cons (ps_set (i := 1) nd rfl (Or.inl rfl) pe_int) (pss_cons (ps_for PassesOwn.never rfl (pi_zpK K rfl (by rfl) W.z_zip (pe_pr (c_Turns_runs W) (pv 0) hr (by decide)) (pe_pr (c_Turns_ends W) (pv 0) hr (by decide))) (pg_tupK (n := 2) K rfl rfl (pgs_cons (pg_tupK (n := 2) K rfl rfl (pgs_cons (pg_name (i := 3) nd rfl (Or.inl rfl) (Or.inr rfl)) (pgs_cons (pg_name (i := 4) nd rfl (Or.inl rfl) (Or.inr rfl)) pgs_nil))) (pgs_cons (pg_name (i := 2) nd rfl (Or.inl rfl) (Or.inr rfl)) pgs_nil))) (pss_one (ps_if (pt_cmpR (op_eqK K rfl (hu64 hr)) (pv 3) pe_str (nomark _)) (pss_one (ps_aug (i := 1) nd rfl (Or.inl rfl) (pe_op op_fdiv (pe_op op_mulD (pv 4) (pe_op (op_addK K rfl) (pe_op op_sub (pe_op (op_addK K rfl) (pv 2) (pv 2)) (pv 4)) pe_int)) pe_int) ip_add)) pss_nil))) (pss_one (ps_ret (pv 1))))), ?_⟩
  exact fun u me => (es_seq (es_set (ev_c fun _ => .int _)) (es_seq (es_for (ei_zp (ev_prop ev_var) (ev_prop ev_var)) (gs_tup (gs_cons (gs_tup (gs_cons gs_name (gs_cons gs_name gs_nil)) (gs_len (gs_len gs_len0))) (gs_cons gs_name gs_nil)) (gs_len (gs_len gs_len0))) (es_if (et_test (ev_op rop_eq (ev_var).x ((ev_c fun _ => .str _)).x).x) (es_aug ((ev_op rop_fdiv ((ev_op rop_mul (ev_var).x ((ev_op rop_add ((ev_op rop_sub ((ev_op rop_add (ev_var).x (ev_var).x)).x (ev_var).x)).x ((ev_c fun _ => .int _)).x)).x)).x ((ev_c fun _ => .int _)).x)).x) es_next)) (es_ret ev_var)))

abbrev st_place_sums : Stmt := topS 56
abbrev N_place_sums : List Str := ["turns"]
theorem sc_place_sums : FnScope N_place_sums ["turns"] (C8.fnScope st_place_sums) := C8.fnScope_by (by decide +kernel)
def B_place_sums : DL.Env → T Out := (sRet (fTup (aCons (aFn F_place_sum (aCons (fVar 0) aNil)) (aCons (aFn F_place_sum (aCons (aFn F_swapped (aCons (fVar 0) aNil)) aNil)) aNil))))
def F_place_sums : List D → T D := runDef 1 0 B_place_sums
theorem c_place_sums {P : Program} {w : World} {K : PySem.W.Frag} {mg : Str → Option Value} {base : Heap} {cls : Nat → Addr} (W : Ws K mg cls) : C8.Cal P w K mg base 11 "place_sums" (spF K cls F_place_sums) [] := by
  refine def_of (N := N_place_sums) (k := 10) W.d_place_sums sc_place_sums fun fa cdv A outer s H E hr => ?_
  have nd : N_place_sums.Nodup := sc_place_sums.nd
  refine ⟨_, (pss_one (ps_ret (pe_tupN (pa_cons (C8.pe_c (c_place_sum W) hr (by decide) (by rfl) (pa_cons (pv 0) pa_nil)) (pa_cons (C8.pe_c (c_place_sum W) hr (by decide) (by rfl) (pa_cons (C8.pe_c (c_swapped W) hr (by decide) (by rfl) (pa_cons (pv 0) pa_nil)) pa_nil)) pa_nil))))), ?_⟩
  exact fun u me => (es_ret (ev_tup (ea_cons (ev_call (ea_cons ev_var ea_nil)) (ea_cons (ev_call (ea_cons (ev_call (ea_cons ev_var ea_nil)) ea_nil)) ea_nil))))

abbrev st_set_of : Stmt := topS 10
abbrev N_set_of : List Str := ["some"]
theorem sc_set_of : FnScope N_set_of ["some"] (C8.fnScope st_set_of) := C8.fnScope_by (by decide +kernel)
def B_set_of : DL.Env → T Out := (sRet (fFn tupOfD (fOfL (lFn sortSetD (fVar 0)))))
def F_set_of : List D → T D := runDef 1 0 B_set_of
theorem c_set_of {P : Program} {w : World} {K : PySem.W.Frag} {mg : Str → Option Value} {base : Heap} {cls : Nat → Addr} (W : Ws K mg cls) : C8.Cal P w K mg base 1 "set_of" (spF K cls F_set_of) [] := by
  refine def_of (N := N_set_of) (k := 0) W.d_set_of sc_set_of fun fa cdv A outer s H E hr => ?_
  have nd : N_set_of.Nodup := sc_set_of.nd
  refine ⟨_, (pss_one (ps_ret (pe_tupleK K rfl (by rfl) W.z_tuple (pe_callB (cr_sortSetK P w rfl rfl (by rfl) (hu66 hr)) (by rfl) W.z_sorted bt_sorted (pa_cons (pe_callTy (cr_setK K P w rfl rfl rfl (by rfl)) (by rfl) W.z_set bt_set (pa_cons (pv 0) pa_nil)) pa_nil))))), ?_⟩
  exact fun u me => (es_ret (ev_then rb_tup ((ev_lst (el_sortSet (ev_var).x))).x))

abbrev st_begins : Stmt := topS 38
abbrev N_begins : List Str := ["turns", "found", "total", "heir", "number"]
theorem sc_begins : FnScope N_begins ["turns"] (C8.fnScope st_begins) := C8.fnScope_by (by decide +kernel)
def B_begins : DL.Env → T Out := (sSeq (sParLV 1 2 (fLst aNil) (fC (.int 0))) (sSeq (sFor (iSeq (fProp 0 F_Turns_runs (fVar 0))) (gTupD (gsCons (gSet 3) (gsCons (gSet 4) gsNil))) (sIf (fTest (fOp eqD (fVar 3) (fC (.str (PySem.Str.ofString "a"))))) (sSeq (sApp 1 (fOp addD (fVar 2) (fC (.int 1)))) (sAug 2 (fun i j => i + j) (fVar 4))) sNext)) (sRet (fVar 1))))
def F_begins : List D → T D := runDef 1 4 B_begins
theorem c_begins {P : Program} {w : World} {K : PySem.W.Frag} {mg : Str → Option Value} {base : Heap} {cls : Nat → Addr} (W : Ws K mg cls) : C8.Cal P w K mg base 3 "begins" (spF K cls F_begins) [] := by
  refine def_of (N := N_begins) (k := 2) W.d_begins sc_begins fun fa cdv A outer s H E hr => ?_
  have nd : N_begins.Nodup := sc_begins.nd
  refine ⟨_, (pss_cons (ps_par (i := 1) (j := 2) rfl nd rfl rfl (by decide) rfl rfl (pa_cons (pe_lst pa_nil) (pa_cons pe_int pa_nil)) (by rfl)) (pss_cons (ps_for PassesOwn.never rfl (pi_sqK K rfl (pe_pr (c_Turns_runs W) (pv 0) hr (by decide))) (pg_tupK (n := 2) K rfl rfl (pgs_cons (pg_name (i := 3) nd rfl (Or.inl rfl) (Or.inr rfl)) (pgs_cons (pg_name (i := 4) nd rfl (Or.inl rfl) (Or.inr rfl)) pgs_nil))) (pss_one (ps_if (pt_cmpR (op_eqK K rfl (hu64 hr)) (pv 3) pe_str (nomark _)) (pss_cons (ps_expr (pe_bm PySem.F.plainAttrs_list PySem.F.slot_list_append PySem.F.type_list_append mt_append (pv 1) (pa_cons (pe_op (op_addK K rfl) (pv 2) pe_int) pa_nil))) (pss_one (ps_aug (i := 2) nd rfl (Or.inl rfl) (pv 4) ip_add))) pss_nil))) (pss_one (ps_ret (pv 1))))), ?_⟩
  exact fun u me => (es_seq (es_parLV (el_lst ea_nil) (ev_c fun _ => .int _)) (es_seq (es_for (ei_sq (ev_prop ev_var)) (gs_tup (gs_cons gs_name (gs_cons gs_name gs_nil)) (gs_len (gs_len gs_len0))) (es_if (et_test (ev_op rop_eq (ev_var).x ((ev_c fun _ => .str _)).x).x) (es_seq (es_app (ev_op rop_add (ev_var).x ((ev_c fun _ => .int _)).x)) (es_aug (ev_var).x)) es_next)) (es_ret ev_var)))

abbrev st_place_of : Stmt := topS 29
abbrev N_place_of : List Str := ["turns", "heir", "which", "left", "end", "own", "many"]
theorem sc_place_of : FnScope N_place_of ["turns", "heir", "which"] (C8.fnScope st_place_of) := C8.fnScope_by (by decide +kernel)
def B_place_of : DL.Env → T Out := (sSeq (sSet 3 (fVar 2)) (sSeq (sIf (fTest (fOp gtD (fVar 3) (fC (.int 0)))) (sFor (iZip (fProp 0 F_Turns_runs (fVar 0)) (fProp 0 F_Turns_ends (fVar 0))) (gTupD (gsCons (gTupD (gsCons (gSet 5) (gsCons (gSet 6) gsNil))) (gsCons (gSet 4) gsNil))) (sIf (fTest (fOp eqD (fVar 5) (fVar 1))) (sSeq (sIf (fTest (fOp leD (fVar 3) (fVar 6))) (sRet (fOp addD (fOp subD (fVar 4) (fVar 6)) (fVar 3))) sNext) (sAug 3 (fun i j => i - j) (fVar 6))) sNext)) sNext) sNever))
def F_place_of : List D → T D := runDef 3 4 B_place_of
theorem c_place_of {P : Program} {w : World} {K : PySem.W.Frag} {mg : Str → Option Value} {base : Heap} {cls : Nat → Addr} (W : Ws K mg cls) : C8.Cal P w K mg base 3 "place_of" (spF K cls F_place_of) [] := by
  refine def_of (N := N_place_of) (k := 2) W.d_place_of sc_place_of fun fa cdv A outer s H E hr => ?_
  have nd : N_place_of.Nodup := sc_place_of.nd
  refine ⟨_, (pss_cons (ps_set (i := 3) nd rfl (Or.inl rfl) (pv 2)) (pss_cons (ps_if (pt_cmpR op_gt (pv 3) pe_int (nomark _)) (pss_one (ps_for PassesOwn.never rfl (pi_zpK K rfl (by rfl) W.z_zip (pe_pr (c_Turns_runs W) (pv 0) hr (by decide)) (pe_pr (c_Turns_ends W) (pv 0) hr (by decide))) (pg_tupK (n := 2) K rfl rfl (pgs_cons (pg_tupK (n := 2) K rfl rfl (pgs_cons (pg_name (i := 5) nd rfl (Or.inl rfl) (Or.inr rfl)) (pgs_cons (pg_name (i := 6) nd rfl (Or.inl rfl) (Or.inr rfl)) pgs_nil))) (pgs_cons (pg_name (i := 4) nd rfl (Or.inl rfl) (Or.inr rfl)) pgs_nil))) (pss_one (ps_if (pt_cmpR (op_eqK K rfl (hu64 hr)) (pv 5) (pv 1) (nomark _)) (pss_cons (ps_if (pt_cmpR op_le (pv 3) (pv 6) (nomark _)) (pss_one (ps_ret (pe_op (op_addK K rfl) (pe_op op_sub (pv 4) (pv 6)) (pv 3)))) pss_nil) (pss_one (ps_aug (i := 3) nd rfl (Or.inl rfl) (pv 6) ip_sub))) pss_nil)))) pss_nil) (pss_one ps_never))), ?_⟩
  exact fun u me => (es_seq (es_set ev_var) (es_seq (es_if (et_test (ev_op rop_gt (ev_var).x ((ev_c fun _ => .int _)).x).x) (es_for (ei_zp (ev_prop ev_var) (ev_prop ev_var)) (gs_tup (gs_cons (gs_tup (gs_cons gs_name (gs_cons gs_name gs_nil)) (gs_len (gs_len gs_len0))) (gs_cons gs_name gs_nil)) (gs_len (gs_len gs_len0))) (es_if (et_test (ev_op rop_eq (ev_var).x (ev_var).x).x) (es_seq (es_if (et_test (ev_op rop_le (ev_var).x (ev_var).x).x) (es_ret (ev_op rop_add ((ev_op rop_sub (ev_var).x (ev_var).x)).x (ev_var).x)) es_next) (es_aug (ev_var).x)) es_next)) es_next) es_never))

abbrev st_turn_of : Stmt := topS 30
abbrev N_turn_of : List Str := ["turns", "which"]
theorem sc_turn_of : FnScope N_turn_of ["turns", "which"] (C8.fnScope st_turn_of) := C8.fnScope_by (by decide +kernel)
def B_turn_of : DL.Env → T Out := (sRet (aFn F_place_of (aCons (fVar 0) (aCons (fC (.str (PySem.Str.ofString "a"))) (aCons (fVar 1) aNil)))))
def F_turn_of : List D → T D := runDef 2 0 B_turn_of
theorem c_turn_of {P : Program} {w : World} {K : PySem.W.Frag} {mg : Str → Option Value} {base : Heap} {cls : Nat → Addr} (W : Ws K mg cls) : C8.Cal P w K mg base 4 "turn_of" (spF K cls F_turn_of) [] := by
  refine def_of (N := N_turn_of) (k := 3) W.d_turn_of sc_turn_of fun fa cdv A outer s H E hr => ?_
  have nd : N_turn_of.Nodup := sc_turn_of.nd
  refine ⟨_, (pss_one (ps_ret (C8.pe_c (c_place_of W) hr (by decide) (by rfl) (pa_cons (pv 0) (pa_cons pe_str (pa_cons (pv 1) pa_nil)))))), ?_⟩
  exact fun u me => (es_ret (ev_call (ea_cons ev_var (ea_cons (ev_c fun _ => .str _) (ea_cons ev_var ea_nil)))))

abbrev st_his_turn_of : Stmt := topS 31
abbrev N_his_turn_of : List Str := ["turns", "which"]
theorem sc_his_turn_of : FnScope N_his_turn_of ["turns", "which"] (C8.fnScope st_his_turn_of) := C8.fnScope_by (by decide +kernel)
def B_his_turn_of : DL.Env → T Out := (sRet (aFn F_place_of (aCons (fVar 0) (aCons (fC (.str (PySem.Str.ofString "b"))) (aCons (fVar 1) aNil)))))
def F_his_turn_of : List D → T D := runDef 2 0 B_his_turn_of
theorem c_his_turn_of {P : Program} {w : World} {K : PySem.W.Frag} {mg : Str → Option Value} {base : Heap} {cls : Nat → Addr} (W : Ws K mg cls) : C8.Cal P w K mg base 4 "his_turn_of" (spF K cls F_his_turn_of) [] := by
  refine def_of (N := N_his_turn_of) (k := 3) W.d_his_turn_of sc_his_turn_of fun fa cdv A outer s H E hr => ?_
  have nd : N_his_turn_of.Nodup := sc_his_turn_of.nd
  refine ⟨_, (pss_one (ps_ret (C8.pe_c (c_place_of W) hr (by decide) (by rfl) (pa_cons (pv 0) (pa_cons pe_str (pa_cons (pv 1) pa_nil)))))), ?_⟩
  exact fun u me => (es_ret (ev_call (ea_cons ev_var (ea_cons (ev_c fun _ => .str _) (ea_cons ev_var ea_nil)))))

abbrev st_most_apart : Stmt := topS 54
abbrev N_most_apart : List Str := ["turns", "both", "some", "which"]
theorem sc_most_apart : FnScope N_most_apart ["turns"] (C8.fnScope st_most_apart) := C8.fnScope_by (by decide +kernel)
def B_most_apart : DL.Env → T Out := (sSeq (sSet 1 (aFn min2D (aCons (fProp 0 F_Turns_hers (fVar 0)) (aCons (fProp 0 F_Turns_his (fVar 0)) aNil)))) (sSeq (sSet 2 (fOfL (fComp (iSeq (aFn F_set_of (aCons (fOp addD (aFn F_begins (aCons (fVar 0) aNil)) (aFn F_begins (aCons (aFn F_swapped (aCons (fVar 0) aNil)) aNil))) aNil))) (gSet 3) (fTest (fOp leD (fVar 3) (fVar 1))) (fVar 3) [3]))) (sRet (fFn maxLD (fOfL (fLst (aCons (fC (.int 0)) (aStar (fOfL (fComp (iSeq (fVar 2)) (gSet 3) fYes (fFn absD (fOp subD (aFn F_turn_of (aCons (fVar 0) (aCons (fVar 3) aNil))) (aFn F_his_turn_of (aCons (fVar 0) (aCons (fVar 3) aNil))))) [3])) aNil))))))))
def F_most_apart : List D → T D := runDef 1 3 B_most_apart
theorem c_most_apart {P : Program} {w : World} {K : PySem.W.Frag} {mg : Str → Option Value} {base : Heap} {cls : Nat → Addr} (W : Ws K mg cls) : C8.Cal P w K mg base 11 "most_apart" (spF K cls F_most_apart) [] := by
  refine def_of (N := N_most_apart) (k := 10) W.d_most_apart sc_most_apart fun fa cdv A outer s H E hr => ?_
  have nd : N_most_apart.Nodup := sc_most_apart.nd
  refine ⟨_, (pss_cons (ps_set (i := 1) nd rfl (Or.inr rfl) (pe_callB (call_min2 (by rfl)) (by rfl) W.z_min bt_min (pa_cons (pe_pr (c_Turns_hers W) (pv 0) hr (by decide)) (pa_cons (pe_pr (c_Turns_his W) (pv 0) hr (by decide)) pa_nil)))) (pss_cons (ps_setLc (i := 2) (by rfl) nd rfl rfl (sw_true rfl rfl rfl (by decide +kernel)) (pi_sqK K rfl (C8.pe_c (c_set_of W) hr (by decide) (by rfl) (pa_cons (pe_op (op_addK K rfl) (C8.pe_c (c_begins W) hr (by decide) (by rfl) (pa_cons (pv 0) pa_nil)) (C8.pe_c (c_begins W) hr (by decide) (by rfl) (pa_cons (C8.pe_c (c_swapped W) hr (by decide) (by rfl) (pa_cons (pv 0) pa_nil)) pa_nil))) pa_nil))) (blkOk_by (N := N_most_apart) (sc := C8.fnScope st_most_apart) (own := [("which", 3)]) (by decide +kernel)) (fun _ _ _ _ _ => (pg_name (i := 3) nd rfl (Or.inl rfl) (Or.inr rfl))) (fun _ _ _ _ _ => (pts_one (pt_cmpR op_le (pv 3) (pv 1) (nomark _)))) (fun _ _ _ _ _ => (pv 3))) (pss_one (ps_ret (pe_callB (cr_maxK K rfl (by rfl)) (by rfl) W.z_max bt_max (pa_cons (pe_lst (pa_cons pe_int (pa_starK K rfl (pe_lc (by rfl) nd (pi_sqK K rfl (pv 2)) (blkOk_by (N := N_most_apart) (sc := C8.fnScope st_most_apart) (own := [("which", 3)]) (by decide +kernel)) (fun _ _ _ _ _ => (pg_name (i := 3) nd rfl (Or.inl rfl) (Or.inr rfl))) (fun _ _ _ _ _ => pts_nil) (fun _ _ _ _ _ => (pe_callB call_abs (by rfl) W.z_abs bt_abs (pa_cons (pe_op op_sub (C8.pe_c (c_turn_of W) hr (by decide) (by rfl) (pa_cons (pv 0) (pa_cons (pv 3) pa_nil))) (C8.pe_c (c_his_turn_of W) hr (by decide) (by rfl) (pa_cons (pv 0) (pa_cons (pv 3) pa_nil)))) pa_nil)))) pa_nil))) pa_nil)))))), ?_⟩
  exact fun u me => (es_seq (es_set (ev_fnA rb_min2 (ea_cons (ev_prop ev_var) (ea_cons (ev_prop ev_var) ea_nil)))) (es_seq (es_set (ev_lst (el_comp (ei_sqX ((ev_call (ea_cons (ev_op rop_add ((ev_call (ea_cons ev_var ea_nil))).x ((ev_call (ea_cons (ev_call (ea_cons ev_var ea_nil)) ea_nil))).x) ea_nil))).x) eg_name (et_test (ev_op rop_le (ev_var).x (ev_var).x).x) ev_var (by decide)))) (es_ret (ev_fn rb_max ((ev_lst (el_lst (ea_cons (ev_c fun _ => .int _) (ea_star ((ev_lst (el_comp (ei_sqX (ev_var).x) eg_name et_yes (ev_fn rb_abs ((ev_op rop_sub ((ev_call (ea_cons ev_var (ea_cons ev_var ea_nil)))).x ((ev_call (ea_cons ev_var (ea_cons ev_var ea_nil)))).x)).x) (by decide)))).x ea_nil))))).x))))

abbrev st_height : Stmt := topS 62
abbrev N_height : List Str := ["turns", "found", "before", "heir", "many"]
theorem sc_height : FnScope N_height ["turns"] (C8.fnScope st_height) := C8.fnScope_by (by decide +kernel)
def B_height : DL.Env → T Out := (sSeq (sUnp (fTup (aCons (fC (.int 0)) (aCons (fC (.int 0)) aNil))) (gTupD (gsCons (gSet 1) (gsCons (gSet 2) gsNil)))) (sSeq (sFor (iSeq (fProp 0 F_Turns_runs (fVar 0))) (gTupD (gsCons (gSet 3) (gsCons (gSet 4) gsNil))) (sIf (fTest (fOp eqD (fVar 3) (fC (.str (PySem.Str.ofString "a"))))) (sSeq (sAug 1 (fun i j => i + j) (fOp addD (fOp mulD (fVar 4) (fVar 2)) (fOp fdivD (fOp mulD (fVar 4) (fOp addD (fVar 4) (fC (.int 1)))) (fC (.int 2))))) (sAug 2 (fun i j => i + j) (fVar 4))) (sAug 1 (fun i j => i + j) (fOp mulD (fVar 4) (fVar 2))))) (sRet (fVar 1))))
def F_height : List D → T D := runDef 1 4 B_height
theorem c_height {P : Program} {w : World} {K : PySem.W.Frag} {mg : Str → Option Value} {base : Heap} {cls : Nat → Addr} (W : Ws K mg cls) : C8.Cal P w K mg base 3 "height" (spF K cls F_height) [] := by
  refine def_of (N := N_height) (k := 2) W.d_height sc_height fun fa cdv A outer s H E hr => ?_
  have nd : N_height.Nodup := sc_height.nd
  refine ⟨_, (pss_cons (ps_asg (pe_tupN (pa_cons pe_int (pa_cons pe_int pa_nil))) (pg_tupK (n := 2) K rfl rfl (pgs_cons (pg_name (i := 1) nd rfl (Or.inl rfl) (Or.inr rfl)) (pgs_cons (pg_name (i := 2) nd rfl (Or.inl rfl) (Or.inr rfl)) pgs_nil)))) (pss_cons (ps_for PassesOwn.never rfl (pi_sqK K rfl (pe_pr (c_Turns_runs W) (pv 0) hr (by decide))) (pg_tupK (n := 2) K rfl rfl (pgs_cons (pg_name (i := 3) nd rfl (Or.inl rfl) (Or.inr rfl)) (pgs_cons (pg_name (i := 4) nd rfl (Or.inl rfl) (Or.inr rfl)) pgs_nil))) (pss_one (ps_if (pt_cmpR (op_eqK K rfl (hu64 hr)) (pv 3) pe_str (nomark _)) (pss_cons (ps_aug (i := 1) nd rfl (Or.inl rfl) (pe_op (op_addK K rfl) (pe_op op_mulD (pv 4) (pv 2)) (pe_op op_fdiv (pe_op op_mulD (pv 4) (pe_op (op_addK K rfl) (pv 4) pe_int)) pe_int)) ip_add) (pss_one (ps_aug (i := 2) nd rfl (Or.inl rfl) (pv 4) ip_add))) (pss_one (ps_aug (i := 1) nd rfl (Or.inl rfl) (pe_op op_mulD (pv 4) (pv 2)) ip_add))))) (pss_one (ps_ret (pv 1))))), ?_⟩
  exact fun u me => (es_seq (es_unp (ev_tup (ea_cons (ev_c fun _ => .int _) (ea_cons (ev_c fun _ => .int _) ea_nil))) (gs_tup (gs_cons gs_name (gs_cons gs_name gs_nil)) (gs_len (gs_len gs_len0)))) (es_seq (es_for (ei_sq (ev_prop ev_var)) (gs_tup (gs_cons gs_name (gs_cons gs_name gs_nil)) (gs_len (gs_len gs_len0))) (es_if (et_test (ev_op rop_eq (ev_var).x ((ev_c fun _ => .str _)).x).x) (es_seq (es_aug ((ev_op rop_add ((ev_op rop_mul (ev_var).x (ev_var).x)).x ((ev_op rop_fdiv ((ev_op rop_mul (ev_var).x ((ev_op rop_add (ev_var).x ((ev_c fun _ => .int _)).x)).x)).x ((ev_c fun _ => .int _)).x)).x)).x) (es_aug (ev_var).x)) (es_aug ((ev_op rop_mul (ev_var).x (ev_var).x)).x))) (es_ret ev_var)))

abbrev st__law_lone : Stmt := topS 71
abbrev N__law_lone : List Str := ["turns", "many", "got", "due", "behind", "sums", "high", "which", "wide", "size", "number", "end", "total", "own"]
theorem sc__law_lone : FnScope N__law_lone ["turns", "many"] (C8.fnScope st__law_lone) := C8.fnScope_by (by decide +kernel)
def B__law_lone : DL.Env → T Out := (sSeq (sUnp (fTup (aCons (aFn F__law_times (aCons (fVar 0) (aCons (fVar 1) aNil))) (aCons (fProp 0 F_Turns_size (fVar 0)) aNil))) (gTupD (gsCons (gSet 8) (gsCons (gSet 9) gsNil)))) (sSeq (sSet 2 (fOfL (fLst (aCons (fProp 0 F_Turns_size (fVar 8)) (aCons (fProp 0 F_Turns_hers (fVar 8)) (aCons (fProp 0 F_Turns_his (fVar 8)) (aCons (fProp 0 F_Turns_ends (fVar 8)) (aCons (aFn F_lead (aCons (fVar 8) aNil)) (aCons (aFn F_lag (aCons (fVar 8) aNil)) (aCons (aFn F_spread (aCons (fVar 8) aNil)) (aCons (aFn F_most_gain (aCons (fVar 8) (aCons (fC (.int 3)) aNil))) (aCons (aFn F_never_behind (aCons (fVar 8) aNil)) aNil)))))))))))) (sSeq (sSet 3 (fOfL (fLst (aCons (fOp mulD (fVar 9) (fVar 1)) (aCons (fOp mulD (fProp 0 F_Turns_hers (fVar 0)) (fVar 1)) (aCons (fOp mulD (fProp 0 F_Turns_his (fVar 0)) (fVar 1)) (aCons (fFn tupOfD (fOfL (fComp (iSeq (fProp 0 F_Turns_ends (fVar 0))) (gSet 11) fYes (fOp mulD (fVar 11) (fVar 1)) [11]))) aNil))))))) (sSeq (sSet 3 (fOp addD (fVar 3) (fOfL (fLst (aCons (fOp mulD (aFn F_lead (aCons (fVar 0) aNil)) (fVar 1)) (aCons (fOp mulD (aFn F_lag (aCons (fVar 0) aNil)) (fVar 1)) (aCons (fOp mulD (aFn F_spread (aCons (fVar 0) aNil)) (fVar 1)) (aCons (fOp mulD (aFn F_most_gain (aCons (fVar 0) (aCons (fC (.int 3)) aNil))) (fVar 1)) (aCons (aFn F_never_behind (aCons (fVar 0) aNil)) aNil))))))))) (sSeq (sIf (fNot (fTest (aFn (F__law_same 6) (aCons (fVar 2) (aCons (fVar 3) aNil))))) (sRet (fC (.bl false))) sNext) (sSeq (sSet 4 (aFn F_behind_at (aCons (fVar 0) aNil))) (sSeq (sIf (fNot (fTest (aFn (F__law_same 6) (aCons (aFn F_behind_at (aCons (fVar 8) aNil)) (aCons (fIf (fTest (fIsN (fVar 4))) (fC .non) (fOp addD (fOp mulD (fOp subD (fVar 4) (fC (.int 1))) (fVar 1)) (fC (.int 1)))) aNil))))) (sRet (fC (.bl false))) sNext) (sSeq (sSet 5 (aFn F_place_sums (aCons (fVar 0) aNil))) (sSeq (sSet 3 (fFn tupOfD (fOfL (fComp (iSeq (fTup (aCons (fTup (aCons (fOp ixD (fVar 5) (fC (.int 0))) (aCons (fProp 0 F_Turns_hers (fVar 0)) aNil))) (aCons (fTup (aCons (fOp ixD (fVar 5) (fC (.int 1))) (aCons (fProp 0 F_Turns_his (fVar 0)) aNil))) aNil)))) (gTupD (gsCons (gSet 12) (gsCons (gSet 13) gsNil))) fYes (fOp subD (fOp mulD (fOp mulD (fVar 1) (fVar 1)) (fVar 12)) (fOp mulD (fVar 13) (fOp fdivD (fOp mulD (fVar 1) (fOp subD (fVar 1) (fC (.int 1)))) (fC (.int 2))))) [12, 13])))) (sSeq (sIf (fNot (fTest (aFn (F__law_same 6) (aCons (fOfL (fLst (aCons (aFn F_place_sums (aCons (fVar 8) aNil)) (aCons (aFn F_most_apart (aCons (fVar 8) aNil)) aNil)))) (aCons (fOfL (fLst (aCons (fVar 3) (aCons (fOp mulD (aFn F_most_apart (aCons (fVar 0) aNil)) (fVar 1)) aNil)))) aNil))))) (sRet (fC (.bl false))) sNext) (sSeq (sSet 6 (fOp subD (fOp mulD (fOp mulD (fVar 1) (fVar 1)) (aFn F_height (aCons (fVar 0) aNil))) (fOp mulD (fProp 0 F_Turns_hers (fVar 0)) (fOp fdivD (fOp mulD (fVar 1) (fOp subD (fVar 1) (fC (.int 1)))) (fC (.int 2)))))) (sSeq (sIf (fNot (fTest (aFn (F__law_same 6) (aCons (aFn F_height (aCons (fVar 8) aNil)) (aCons (fVar 6) aNil))))) (sRet (fC (.bl false))) sNext) (sSeq (sFor (iRange2 (aCons (fC (.int 1)) (aCons (fOp addD (fProp 0 F_Turns_hers (fVar 0)) (fC (.int 1))) aNil))) (gSet 7) (sIf (fNot (fTest (aFn (F__law_same 6) (aCons (fOfL (fLst (aCons (aFn F_turn_of (aCons (fVar 8) (aCons (fOp mulD (fVar 7) (fVar 1)) aNil))) (aCons (aFn F_turn_of (aCons (fVar 8) (aCons (fOp addD (fOp mulD (fOp subD (fVar 7) (fC (.int 1))) (fVar 1)) (fC (.int 1))) aNil))) aNil)))) (aCons (fOfL (fLst (aCons (fOp mulD (aFn F_turn_of (aCons (fVar 0) (aCons (fVar 7) aNil))) (fVar 1)) (aCons (fOp addD (fOp mulD (fOp subD (aFn F_turn_of (aCons (fVar 0) (aCons (fVar 7) aNil))) (fC (.int 1))) (fVar 1)) (fC (.int 1))) aNil)))) aNil))))) (sRet (fC (.bl false))) sNext)) (sSeq (sFor (iRange2 (aCons (fC (.int 1)) (aCons (fOp addD (fProp 0 F_Turns_his (fVar 0)) (fC (.int 1))) aNil))) (gSet 7) (sIf (fNot (fTest (aFn (F__law_same 6) (aCons (aFn F_his_turn_of (aCons (fVar 8) (aCons (fOp mulD (fVar 7) (fVar 1)) aNil))) (aCons (fOp mulD (aFn F_his_turn_of (aCons (fVar 0) (aCons (fVar 7) aNil))) (fVar 1)) aNil))))) (sRet (fC (.bl false))) sNext)) (sRet (aFn (F__law_same 6) (aCons (fOfL (fComp (iRange1 (aCons (fOp addD (fVar 9) (fC (.int 1))) aNil)) (gSet 10) fYes (aFn F_ahead (aCons (fVar 8) (aCons (fOp mulD (fVar 10) (fVar 1)) aNil))) [10])) (aCons (fOfL (fComp (iRange1 (aCons (fOp addD (fVar 9) (fC (.int 1))) aNil)) (gSet 10) fYes (fOp mulD (aFn F_ahead (aCons (fVar 0) (aCons (fVar 10) aNil))) (fVar 1)) [10])) aNil))))))))))))))))))
def F__law_lone : List D → T D := runDef 2 12 B__law_lone
theorem c__law_lone {P : Program} {w : World} {K : PySem.W.Frag} {mg : Str → Option Value} {base : Heap} {cls : Nat → Addr} (W : Ws K mg cls) : C8.Cal P w K mg base 13 "_law_lone" (spF K cls F__law_lone) [] := by
  refine def_of (N := N__law_lone) (k := 12) W.d__law_lone sc__law_lone fun fa cdv A outer s H E hr => ?_
  have nd : N__law_lone.Nodup := sc__law_lone.nd
  refine ⟨_, (pss_cons (ps_asg (pe_tupN (pa_cons (C8.pe_c (c__law_times W) hr (by decide) (by rfl) (pa_cons (pv 0) (pa_cons (pv 1) pa_nil))) (pa_cons (pe_pr (c_Turns_size W) (pv 0) hr (by decide)) pa_nil))) (pg_tupK (n := 2) K rfl rfl (pgs_cons (pg_name (i := 8) nd rfl (Or.inr rfl) (Or.inl rfl)) (pgs_cons (pg_name (i := 9) nd rfl (Or.inl rfl) (Or.inr rfl)) pgs_nil)))) (pss_cons (ps_set (i := 2) nd rfl (Or.inl rfl) (pe_lst (pa_cons (pe_pr (c_Turns_size W) (pv 8) hr (by decide)) (pa_cons (pe_pr (c_Turns_hers W) (pv 8) hr (by decide)) (pa_cons (pe_pr (c_Turns_his W) (pv 8) hr (by decide)) (pa_cons (pe_pr (c_Turns_ends W) (pv 8) hr (by decide)) (pa_cons (C8.pe_c (c_lead W) hr (by decide) (by rfl) (pa_cons (pv 8) pa_nil)) (pa_cons (C8.pe_c (c_lag W) hr (by decide) (by rfl) (pa_cons (pv 8) pa_nil)) (pa_cons (C8.pe_c (c_spread W) hr (by decide) (by rfl) (pa_cons (pv 8) pa_nil)) (pa_cons (C8.pe_c (c_most_gain W) hr (by decide) (by rfl) (pa_cons (pv 8) (pa_cons pe_int pa_nil))) (pa_cons (C8.pe_c (c_never_behind W) hr (by decide) (by rfl) (pa_cons (pv 8) pa_nil)) pa_nil))))))))))) (pss_cons (ps_set (i := 3) nd rfl (Or.inl rfl) (pe_lst (pa_cons (pe_op op_mulD (pv 9) (pv 1)) (pa_cons (pe_op op_mulD (pe_pr (c_Turns_hers W) (pv 0) hr (by decide)) (pv 1)) (pa_cons (pe_op op_mulD (pe_pr (c_Turns_his W) (pv 0) hr (by decide)) (pv 1)) (pa_cons (pe_tupleK K rfl (by rfl) W.z_tuple (pe_lc (by rfl) nd (pi_sqK K rfl (pe_pr (c_Turns_ends W) (pv 0) hr (by decide))) (blkOk_by (N := N__law_lone) (sc := C8.fnScope st__law_lone) (own := [("end", 11)]) (by decide +kernel)) (fun _ _ _ _ _ => (pg_name (i := 11) nd rfl (Or.inl rfl) (Or.inr rfl))) (fun _ _ _ _ _ => pts_nil) (fun _ _ _ _ _ => (pe_op op_mulD (pv 11) (pv 1))))) pa_nil)))))) (pss_cons (ps_set (i := 3) nd rfl (Or.inl rfl) (pe_op (op_addK K rfl) (pv 3) (pe_lst (pa_cons (pe_op op_mulD (C8.pe_c (c_lead W) hr (by decide) (by rfl) (pa_cons (pv 0) pa_nil)) (pv 1)) (pa_cons (pe_op op_mulD (C8.pe_c (c_lag W) hr (by decide) (by rfl) (pa_cons (pv 0) pa_nil)) (pv 1)) (pa_cons (pe_op op_mulD (C8.pe_c (c_spread W) hr (by decide) (by rfl) (pa_cons (pv 0) pa_nil)) (pv 1)) (pa_cons (pe_op op_mulD (C8.pe_c (c_most_gain W) hr (by decide) (by rfl) (pa_cons (pv 0) (pa_cons pe_int pa_nil))) (pv 1)) (pa_cons (C8.pe_c (c_never_behind W) hr (by decide) (by rfl) (pa_cons (pv 0) pa_nil)) pa_nil)))))))) (pss_cons (ps_if (pt_not (pt_val (C8.pe_c (c__law_same W 6) hr (by decide) (by rfl) (pa_cons (pv 2) (pa_cons (pv 3) pa_nil))))) (pss_one (ps_ret pe_bl)) pss_nil) (pss_cons (ps_set (i := 4) nd rfl (Or.inl rfl) (C8.pe_c (c_behind_at W) hr (by decide) (by rfl) (pa_cons (pv 0) pa_nil))) (pss_cons (ps_if (pt_not (pt_val (C8.pe_c (c__law_same W 6) hr (by decide) (by rfl) (pa_cons (C8.pe_c (c_behind_at W) hr (by decide) (by rfl) (pa_cons (pv 8) pa_nil)) (pa_cons (pe_ifExp (pt_cmp (pc_isN (pv 4))) pe_non (pe_op (op_addK K rfl) (pe_op op_mulD (pe_op op_sub (pv 4) pe_int) (pv 1)) pe_int)) pa_nil))))) (pss_one (ps_ret pe_bl)) pss_nil) (pss_cons (ps_set (i := 5) nd rfl (Or.inl rfl) (C8.pe_c (c_place_sums W) hr (by decide) (by rfl) (pa_cons (pv 0) pa_nil))) (pss_cons (ps_set (i := 3) nd rfl (Or.inl rfl) (pe_tupleK K rfl (by rfl) W.z_tuple (pe_lc (by rfl) nd (pi_sqK K rfl (pe_tupN (pa_cons (pe_tupN (pa_cons (pe_ix (ix_K K rfl) (pv 5) pe_int (fun _ _ => rfl)) (pa_cons (pe_pr (c_Turns_hers W) (pv 0) hr (by decide)) pa_nil))) (pa_cons (pe_tupN (pa_cons (pe_ix (ix_K K rfl) (pv 5) pe_int (fun _ _ => rfl)) (pa_cons (pe_pr (c_Turns_his W) (pv 0) hr (by decide)) pa_nil))) pa_nil)))) (blkOk_by (N := N__law_lone) (sc := C8.fnScope st__law_lone) (own := [("total", 12), ("own", 13)]) (by decide +kernel)) (fun _ _ _ _ _ => (pg_tupK (n := 2) K rfl rfl (pgs_cons (pg_name (i := 12) nd rfl (Or.inl rfl) (Or.inr rfl)) (pgs_cons (pg_name (i := 13) nd rfl (Or.inl rfl) (Or.inr rfl)) pgs_nil)))) (fun _ _ _ _ _ => pts_nil) (fun _ _ _ _ _ => (pe_op op_sub (pe_op op_mulD (pe_op op_mulD (pv 1) (pv 1)) (pv 12)) (pe_op op_mulD (pv 13) (pe_op op_fdiv (pe_op op_mulD (pv 1) (pe_op op_sub (pv 1) pe_int)) pe_int))))))) (pss_cons (ps_if (pt_not (pt_val (C8.pe_c (c__law_same W 6) hr (by decide) (by rfl) (pa_cons (pe_lst (pa_cons (C8.pe_c (c_place_sums W) hr (by decide) (by rfl) (pa_cons (pv 8) pa_nil)) (pa_cons (C8.pe_c (c_most_apart W) hr (by decide) (by rfl) (pa_cons (pv 8) pa_nil)) pa_nil))) (pa_cons (pe_lst (pa_cons (pv 3) (pa_cons (pe_op op_mulD (C8.pe_c (c_most_apart W) hr (by decide) (by rfl) (pa_cons (pv 0) pa_nil)) (pv 1)) pa_nil))) pa_nil))))) (pss_one (ps_ret pe_bl)) pss_nil) (pss_cons (ps_set (i := 6) nd rfl (Or.inl rfl) (pe_op op_sub (pe_op op_mulD (pe_op op_mulD (pv 1) (pv 1)) (C8.pe_c (c_height W) hr (by decide) (by rfl) (pa_cons (pv 0) pa_nil))) (pe_op op_mulD (pe_pr (c_Turns_hers W) (pv 0) hr (by decide)) (pe_op op_fdiv (pe_op op_mulD (pv 1) (pe_op op_sub (pv 1) pe_int)) pe_int)))) (pss_cons (ps_if (pt_not (pt_val (C8.pe_c (c__law_same W 6) hr (by decide) (by rfl) (pa_cons (C8.pe_c (c_height W) hr (by decide) (by rfl) (pa_cons (pv 8) pa_nil)) (pa_cons (pv 6) pa_nil))))) (pss_one (ps_ret pe_bl)) pss_nil) (pss_cons (ps_for PassesOwn.never rfl (pi_range2 (by rfl) W.z_range (pa_cons pe_int (pa_cons (pe_op (op_addK K rfl) (pe_pr (c_Turns_hers W) (pv 0) hr (by decide)) pe_int) pa_nil))) (pg_name (i := 7) nd rfl (Or.inl rfl) (Or.inr rfl)) (pss_one (ps_if (pt_not (pt_val (C8.pe_c (c__law_same W 6) hr (by decide) (by rfl) (pa_cons (pe_lst (pa_cons (C8.pe_c (c_turn_of W) hr (by decide) (by rfl) (pa_cons (pv 8) (pa_cons (pe_op op_mulD (pv 7) (pv 1)) pa_nil))) (pa_cons (C8.pe_c (c_turn_of W) hr (by decide) (by rfl) (pa_cons (pv 8) (pa_cons (pe_op (op_addK K rfl) (pe_op op_mulD (pe_op op_sub (pv 7) pe_int) (pv 1)) pe_int) pa_nil))) pa_nil))) (pa_cons (pe_lst (pa_cons (pe_op op_mulD (C8.pe_c (c_turn_of W) hr (by decide) (by rfl) (pa_cons (pv 0) (pa_cons (pv 7) pa_nil))) (pv 1)) (pa_cons (pe_op (op_addK K rfl) (pe_op op_mulD (pe_op op_sub (C8.pe_c (c_turn_of W) hr (by decide) (by rfl) (pa_cons (pv 0) (pa_cons (pv 7) pa_nil))) pe_int) (pv 1)) pe_int) pa_nil))) pa_nil))))) (pss_one (ps_ret pe_bl)) pss_nil))) (pss_cons (ps_for PassesOwn.never rfl (pi_range2 (by rfl) W.z_range (pa_cons pe_int (pa_cons (pe_op (op_addK K rfl) (pe_pr (c_Turns_his W) (pv 0) hr (by decide)) pe_int) pa_nil))) (pg_name (i := 7) nd rfl (Or.inl rfl) (Or.inr rfl)) (pss_one (ps_if (pt_not (pt_val (C8.pe_c (c__law_same W 6) hr (by decide) (by rfl) (pa_cons (C8.pe_c (c_his_turn_of W) hr (by decide) (by rfl) (pa_cons (pv 8) (pa_cons (pe_op op_mulD (pv 7) (pv 1)) pa_nil))) (pa_cons (pe_op op_mulD (C8.pe_c (c_his_turn_of W) hr (by decide) (by rfl) (pa_cons (pv 0) (pa_cons (pv 7) pa_nil))) (pv 1)) pa_nil))))) (pss_one (ps_ret pe_bl)) pss_nil))) (pss_one (ps_ret (C8.pe_c (c__law_same W 6) hr (by decide) (by rfl) (pa_cons (pe_lc (by rfl) nd (pi_range1 (by rfl) W.z_range (pa_cons (pe_op (op_addK K rfl) (pv 9) pe_int) pa_nil)) (blkOk_by (N := N__law_lone) (sc := C8.fnScope st__law_lone) (own := [("number", 10)]) (by decide +kernel)) (fun _ _ _ _ _ => (pg_name (i := 10) nd rfl (Or.inl rfl) (Or.inr rfl))) (fun _ _ _ _ _ => pts_nil) (fun _ _ _ _ _ => (C8.pe_c (c_ahead W) hr (by decide) (by rfl) (pa_cons (pv 8) (pa_cons (pe_op op_mulD (pv 10) (pv 1)) pa_nil))))) (pa_cons (pe_lc (by rfl) nd (pi_range1 (by rfl) W.z_range (pa_cons (pe_op (op_addK K rfl) (pv 9) pe_int) pa_nil)) (blkOk_by (N := N__law_lone) (sc := C8.fnScope st__law_lone) (own := [("number", 10)]) (by decide +kernel)) (fun _ _ _ _ _ => (pg_name (i := 10) nd rfl (Or.inl rfl) (Or.inr rfl))) (fun _ _ _ _ _ => pts_nil) (fun _ _ _ _ _ => (pe_op op_mulD (C8.pe_c (c_ahead W) hr (by decide) (by rfl) (pa_cons (pv 0) (pa_cons (pv 10) pa_nil))) (pv 1)))) pa_nil))))))))))))))))))), ?_⟩
  exact fun u me => (es_seq (es_unp (ev_tup (ea_cons (ev_call (ea_cons ev_var (ea_cons ev_var ea_nil))) (ea_cons (ev_prop ev_var) ea_nil))) (gs_tup (gs_cons gs_name (gs_cons gs_name gs_nil)) (gs_len (gs_len gs_len0)))) (es_seq (es_set (ev_lst (el_lst (ea_cons (ev_prop ev_var) (ea_cons (ev_prop ev_var) (ea_cons (ev_prop ev_var) (ea_cons (ev_prop ev_var) (ea_cons (ev_call (ea_cons ev_var ea_nil)) (ea_cons (ev_call (ea_cons ev_var ea_nil)) (ea_cons (ev_call (ea_cons ev_var ea_nil)) (ea_cons (ev_call (ea_cons ev_var (ea_cons (ev_c fun _ => .int _) ea_nil))) (ea_cons (ev_call (ea_cons ev_var ea_nil)) ea_nil)))))))))))) (es_seq (es_set (ev_lst (el_lst (ea_cons (ev_op rop_mul (ev_var).x (ev_var).x) (ea_cons (ev_op rop_mul ((ev_prop ev_var)).x (ev_var).x) (ea_cons (ev_op rop_mul ((ev_prop ev_var)).x (ev_var).x) (ea_cons (ev_then rb_tup ((ev_lst (el_comp (ei_sqX ((ev_prop ev_var)).x) eg_name et_yes (ev_op rop_mul (ev_var).x (ev_var).x) (by decide)))).x) ea_nil))))))) (es_seq (es_set (ev_op rop_add (ev_var).x ((ev_lst (el_lst (ea_cons (ev_op rop_mul ((ev_call (ea_cons ev_var ea_nil))).x (ev_var).x) (ea_cons (ev_op rop_mul ((ev_call (ea_cons ev_var ea_nil))).x (ev_var).x) (ea_cons (ev_op rop_mul ((ev_call (ea_cons ev_var ea_nil))).x (ev_var).x) (ea_cons (ev_op rop_mul ((ev_call (ea_cons ev_var (ea_cons (ev_c fun _ => .int _) ea_nil)))).x (ev_var).x) (ea_cons (ev_call (ea_cons ev_var ea_nil)) ea_nil)))))))).x)) (es_seq (es_if (et_not (et_B ((ev_call (ea_cons ev_var (ea_cons ev_var ea_nil)))).x)) (es_ret (ev_c fun _ => .bl _)) es_next) (es_seq (es_set (ev_call (ea_cons ev_var ea_nil))) (es_seq (es_if (et_not (et_B ((ev_call (ea_cons (ev_call (ea_cons ev_var ea_nil)) (ea_cons (ev_if (et_B (ev_isN (ev_var).x).x) (ev_c fun _ => .non) (ev_op rop_add ((ev_op rop_mul ((ev_op rop_sub (ev_var).x ((ev_c fun _ => .int _)).x)).x (ev_var).x)).x ((ev_c fun _ => .int _)).x)) ea_nil)))).x)) (es_ret (ev_c fun _ => .bl _)) es_next) (es_seq (es_set (ev_call (ea_cons ev_var ea_nil))) (es_seq (es_set (ev_then rb_tup ((ev_lst (el_comp (ei_sqX ((ev_tup (ea_cons (ev_tup (ea_cons (ev_op rop_ix (ev_var).x ((ev_c fun _ => .int _)).x) (ea_cons (ev_prop ev_var) ea_nil))) (ea_cons (ev_tup (ea_cons (ev_op rop_ix (ev_var).x ((ev_c fun _ => .int _)).x) (ea_cons (ev_prop ev_var) ea_nil))) ea_nil)))).x) (eg_tup (eg_cons eg_name (eg_cons eg_name eg_nil)) (gs_len (gs_len gs_len0))) et_yes (ev_op rop_sub ((ev_op rop_mul ((ev_op rop_mul (ev_var).x (ev_var).x)).x (ev_var).x)).x ((ev_op rop_mul (ev_var).x ((ev_op rop_fdiv ((ev_op rop_mul (ev_var).x ((ev_op rop_sub (ev_var).x ((ev_c fun _ => .int _)).x)).x)).x ((ev_c fun _ => .int _)).x)).x)).x) (by decide)))).x)) (es_seq (es_if (et_not (et_B ((ev_call (ea_cons (ev_lst (el_lst (ea_cons (ev_call (ea_cons ev_var ea_nil)) (ea_cons (ev_call (ea_cons ev_var ea_nil)) ea_nil)))) (ea_cons (ev_lst (el_lst (ea_cons ev_var (ea_cons (ev_op rop_mul ((ev_call (ea_cons ev_var ea_nil))).x (ev_var).x) ea_nil)))) ea_nil)))).x)) (es_ret (ev_c fun _ => .bl _)) es_next) (es_seq (es_set (ev_op rop_sub ((ev_op rop_mul ((ev_op rop_mul (ev_var).x (ev_var).x)).x ((ev_call (ea_cons ev_var ea_nil))).x)).x ((ev_op rop_mul ((ev_prop ev_var)).x ((ev_op rop_fdiv ((ev_op rop_mul (ev_var).x ((ev_op rop_sub (ev_var).x ((ev_c fun _ => .int _)).x)).x)).x ((ev_c fun _ => .int _)).x)).x)).x)) (es_seq (es_if (et_not (et_B ((ev_call (ea_cons (ev_call (ea_cons ev_var ea_nil)) (ea_cons ev_var ea_nil)))).x)) (es_ret (ev_c fun _ => .bl _)) es_next) (es_seq (es_for (ei_rg2 (ea_cons (ev_c fun _ => .int _) (ea_cons (ev_op rop_add ((ev_prop ev_var)).x ((ev_c fun _ => .int _)).x) ea_nil))) gs_name (es_if (et_not (et_B ((ev_call (ea_cons (ev_lst (el_lst (ea_cons (ev_call (ea_cons ev_var (ea_cons (ev_op rop_mul (ev_var).x (ev_var).x) ea_nil))) (ea_cons (ev_call (ea_cons ev_var (ea_cons (ev_op rop_add ((ev_op rop_mul ((ev_op rop_sub (ev_var).x ((ev_c fun _ => .int _)).x)).x (ev_var).x)).x ((ev_c fun _ => .int _)).x) ea_nil))) ea_nil)))) (ea_cons (ev_lst (el_lst (ea_cons (ev_op rop_mul ((ev_call (ea_cons ev_var (ea_cons ev_var ea_nil)))).x (ev_var).x) (ea_cons (ev_op rop_add ((ev_op rop_mul ((ev_op rop_sub ((ev_call (ea_cons ev_var (ea_cons ev_var ea_nil)))).x ((ev_c fun _ => .int _)).x)).x (ev_var).x)).x ((ev_c fun _ => .int _)).x) ea_nil)))) ea_nil)))).x)) (es_ret (ev_c fun _ => .bl _)) es_next)) (es_seq (es_for (ei_rg2 (ea_cons (ev_c fun _ => .int _) (ea_cons (ev_op rop_add ((ev_prop ev_var)).x ((ev_c fun _ => .int _)).x) ea_nil))) gs_name (es_if (et_not (et_B ((ev_call (ea_cons (ev_call (ea_cons ev_var (ea_cons (ev_op rop_mul (ev_var).x (ev_var).x) ea_nil))) (ea_cons (ev_op rop_mul ((ev_call (ea_cons ev_var (ea_cons ev_var ea_nil)))).x (ev_var).x) ea_nil)))).x)) (es_ret (ev_c fun _ => .bl _)) es_next)) (es_ret (ev_call (ea_cons (ev_lst (el_comp ((ei_rg1 (ea_cons (ev_op rop_add (ev_var).x ((ev_c fun _ => .int _)).x) ea_nil))).x eg_name et_yes (ev_call (ea_cons ev_var (ea_cons (ev_op rop_mul (ev_var).x (ev_var).x) ea_nil))) (by decide))) (ea_cons (ev_lst (el_comp ((ei_rg1 (ea_cons (ev_op rop_add (ev_var).x ((ev_c fun _ => .int _)).x) ea_nil))).x eg_name et_yes (ev_op rop_mul ((ev_call (ea_cons ev_var (ea_cons ev_var ea_nil)))).x (ev_var).x) (by decide))) ea_nil))))))))))))))))))

abbrev st_check_size : Stmt := topS 35
abbrev N_check_size : List Str := ["one", "other"]
theorem sc_check_size : FnScope N_check_size ["one", "other"] (C8.fnScope st_check_size) := C8.fnScope_by (by decide +kernel)
def B_check_size : DL.Env → T Out := (sIf (fTest (fOp neD (fProp 0 F_Turns_size (fVar 0)) (fProp 0 F_Turns_size (fVar 1)))) sNever sNext)
def F_check_size : List D → T D := runDef 2 0 B_check_size
theorem c_check_size {P : Program} {w : World} {K : PySem.W.Frag} {mg : Str → Option Value} {base : Heap} {cls : Nat → Addr} (W : Ws K mg cls) : C8.Cal P w K mg base 3 "check_size" (spF K cls F_check_size) [] := by
  refine def_of (N := N_check_size) (k := 2) W.d_check_size sc_check_size fun fa cdv A outer s H E hr => ?_
  have nd : N_check_size.Nodup := sc_check_size.nd
  refine ⟨_, (pss_one (ps_if (pt_cmpR (op_neK K rfl (hu64 hr)) (pe_pr (c_Turns_size W) (pv 0) hr (by decide)) (pe_pr (c_Turns_size W) (pv 1) hr (by decide)) (nomark _)) (pss_one ps_never) pss_nil)), ?_⟩
  exact fun u me => (es_if (et_test (ev_op rop_ne ((ev_prop ev_var)).x ((ev_prop ev_var)).x).x) es_never es_next)

abbrev st_ways_later : Stmt := topS 39
abbrev N_ways_later : List Str := ["one", "other", "some", "which"]
theorem sc_ways_later : FnScope N_ways_later ["one", "other"] (C8.fnScope st_ways_later) := C8.fnScope_by (by decide +kernel)
def B_ways_later : DL.Env → T Out := (sSeq (sSet 2 (fOfL (fComp (iSeq (aFn F_set_of (aCons (fOp addD (aFn F_begins (aCons (fVar 0) aNil)) (aFn F_begins (aCons (fVar 1) aNil))) aNil))) (gSet 3) (fTest (fOp leD (fVar 3) (aFn min2D (aCons (fProp 0 F_Turns_hers (fVar 0)) (aCons (fProp 0 F_Turns_hers (fVar 1)) aNil))))) (fVar 3) [3]))) (sRet (fOfL (fComp (iSeq (fVar 2)) (gSet 3) fYes (fTup (aCons (fVar 3) (aCons (fOp subD (aFn F_turn_of (aCons (fVar 0) (aCons (fVar 3) aNil))) (aFn F_turn_of (aCons (fVar 1) (aCons (fVar 3) aNil)))) aNil))) [3]))))
def F_ways_later : List D → T D := runDef 2 2 B_ways_later
theorem c_ways_later {P : Program} {w : World} {K : PySem.W.Frag} {mg : Str → Option Value} {base : Heap} {cls : Nat → Addr} (W : Ws K mg cls) : C8.Cal P w K mg base 5 "ways_later" (spF K cls F_ways_later) [] := by
  refine def_of (N := N_ways_later) (k := 4) W.d_ways_later sc_ways_later fun fa cdv A outer s H E hr => ?_
  have nd : N_ways_later.Nodup := sc_ways_later.nd
  refine ⟨_, (pss_cons (ps_setLc (i := 2) (by rfl) nd rfl rfl (sw_true rfl rfl rfl (by decide +kernel)) (pi_sqK K rfl (C8.pe_c (c_set_of W) hr (by decide) (by rfl) (pa_cons (pe_op (op_addK K rfl) (C8.pe_c (c_begins W) hr (by decide) (by rfl) (pa_cons (pv 0) pa_nil)) (C8.pe_c (c_begins W) hr (by decide) (by rfl) (pa_cons (pv 1) pa_nil))) pa_nil))) (blkOk_by (N := N_ways_later) (sc := C8.fnScope st_ways_later) (own := [("which", 3)]) (by decide +kernel)) (fun _ _ _ _ _ => (pg_name (i := 3) nd rfl (Or.inl rfl) (Or.inr rfl))) (fun _ _ _ _ _ => (pts_one (pt_cmpR op_le (pv 3) (pe_callB (call_min2 (by rfl)) (by rfl) W.z_min bt_min (pa_cons (pe_pr (c_Turns_hers W) (pv 0) hr (by decide)) (pa_cons (pe_pr (c_Turns_hers W) (pv 1) hr (by decide)) pa_nil))) (nomark _)))) (fun _ _ _ _ _ => (pv 3))) (pss_one (ps_ret (pe_lc (by rfl) nd (pi_sqK K rfl (pv 2)) (blkOk_by (N := N_ways_later) (sc := C8.fnScope st_ways_later) (own := [("which", 3)]) (by decide +kernel)) (fun _ _ _ _ _ => (pg_name (i := 3) nd rfl (Or.inl rfl) (Or.inr rfl))) (fun _ _ _ _ _ => pts_nil) (fun _ _ _ _ _ => (pe_tupN (pa_cons (pv 3) (pa_cons (pe_op op_sub (C8.pe_c (c_turn_of W) hr (by decide) (by rfl) (pa_cons (pv 0) (pa_cons (pv 3) pa_nil))) (C8.pe_c (c_turn_of W) hr (by decide) (by rfl) (pa_cons (pv 1) (pa_cons (pv 3) pa_nil)))) pa_nil)))))))), ?_⟩
  exact fun u me => (es_seq (es_set (ev_lst (el_comp (ei_sqX ((ev_call (ea_cons (ev_op rop_add ((ev_call (ea_cons ev_var ea_nil))).x ((ev_call (ea_cons ev_var ea_nil))).x) ea_nil))).x) eg_name (et_test (ev_op rop_le (ev_var).x ((ev_fnA rb_min2 (ea_cons (ev_prop ev_var) (ea_cons (ev_prop ev_var) ea_nil)))).x).x) ev_var (by decide)))) (es_ret (ev_lst (el_comp (ei_sqX (ev_var).x) eg_name et_yes (ev_tup (ea_cons ev_var (ea_cons (ev_op rop_sub ((ev_call (ea_cons ev_var (ea_cons ev_var ea_nil)))).x ((ev_call (ea_cons ev_var (ea_cons ev_var ea_nil)))).x) ea_nil))) (by decide)))))

abbrev st_most_worse : Stmt := topS 43
abbrev N_most_worse : List Str := ["one", "other", "which", "number"]
theorem sc_most_worse : FnScope N_most_worse ["one", "other"] (C8.fnScope st_most_worse) := C8.fnScope_by (by decide +kernel)
def B_most_worse : DL.Env → T Out := (sSeq (sDrop (aFn F_check_size (aCons (fVar 0) (aCons (fVar 1) aNil)))) (sSeq (sIf (fTest (fOp ltD (fProp 0 F_Turns_hers (fVar 0)) (fProp 0 F_Turns_hers (fVar 1)))) (sRet (fC .non)) sNext) (sRet (fFn maxLD (fOfL (fLst (aCons (fC (.int 0)) (aStar (fOfL (fComp (iSeq (aFn F_ways_later (aCons (fVar 0) (aCons (fVar 1) aNil)))) (gTupD (gsCons (gSet 2) (gsCons (gSet 3) gsNil))) fYes (fVar 3) [2, 3])) aNil))))))))
def F_most_worse : List D → T D := runDef 2 2 B_most_worse
theorem c_most_worse {P : Program} {w : World} {K : PySem.W.Frag} {mg : Str → Option Value} {base : Heap} {cls : Nat → Addr} (W : Ws K mg cls) : C8.Cal P w K mg base 6 "most_worse" (spF K cls F_most_worse) [] := by
  refine def_of (N := N_most_worse) (k := 5) W.d_most_worse sc_most_worse fun fa cdv A outer s H E hr => ?_
  have nd : N_most_worse.Nodup := sc_most_worse.nd
  refine ⟨_, (pss_cons (ps_expr (C8.pe_c (c_check_size W) hr (by decide) (by rfl) (pa_cons (pv 0) (pa_cons (pv 1) pa_nil)))) (pss_cons (ps_if (pt_cmpR op_lt (pe_pr (c_Turns_hers W) (pv 0) hr (by decide)) (pe_pr (c_Turns_hers W) (pv 1) hr (by decide)) (nomark _)) (pss_one (ps_ret pe_non)) pss_nil) (pss_one (ps_ret (pe_callB (cr_maxK K rfl (by rfl)) (by rfl) W.z_max bt_max (pa_cons (pe_lst (pa_cons pe_int (pa_starK K rfl (pe_lc (by rfl) nd (pi_sqK K rfl (C8.pe_c (c_ways_later W) hr (by decide) (by rfl) (pa_cons (pv 0) (pa_cons (pv 1) pa_nil)))) (blkOk_by (N := N_most_worse) (sc := C8.fnScope st_most_worse) (own := [("which", 2), ("number", 3)]) (by decide +kernel)) (fun _ _ _ _ _ => (pg_tupK (n := 2) K rfl rfl (pgs_cons (pg_name (i := 2) nd rfl (Or.inl rfl) (Or.inr rfl)) (pgs_cons (pg_name (i := 3) nd rfl (Or.inl rfl) (Or.inr rfl)) pgs_nil)))) (fun _ _ _ _ _ => pts_nil) (fun _ _ _ _ _ => (pv 3))) pa_nil))) pa_nil)))))), ?_⟩
  exact fun u me => (es_seq (es_drop (ev_call (ea_cons ev_var (ea_cons ev_var ea_nil)))) (es_seq (es_if (et_test (ev_op rop_lt ((ev_prop ev_var)).x ((ev_prop ev_var)).x).x) (es_ret (ev_c fun _ => .non)) es_next) (es_ret (ev_fn rb_max ((ev_lst (el_lst (ea_cons (ev_c fun _ => .int _) (ea_star ((ev_lst (el_comp (ei_sqX ((ev_call (ea_cons ev_var (ea_cons ev_var ea_nil)))).x) (eg_tup (eg_cons eg_name (eg_cons eg_name eg_nil)) (gs_len (gs_len gs_len0))) et_yes ev_var (by decide)))).x ea_nil))))).x))))

abbrev st_corners : Stmt := topS 36
abbrev N_corners : List Str := ["one", "other"]
theorem sc_corners : FnScope N_corners ["one", "other"] (C8.fnScope st_corners) := C8.fnScope_by (by decide +kernel)
def B_corners : DL.Env → T Out := (sRet (aFn F_set_of (aCons (fTup (aCons (fC (.int 0)) (aStar (fProp 0 F_Turns_ends (fVar 0)) (aStar (fProp 0 F_Turns_ends (fVar 1)) aNil)))) aNil)))
def F_corners : List D → T D := runDef 2 0 B_corners
theorem c_corners {P : Program} {w : World} {K : PySem.W.Frag} {mg : Str → Option Value} {base : Heap} {cls : Nat → Addr} (W : Ws K mg cls) : C8.Cal P w K mg base 3 "corners" (spF K cls F_corners) [] := by
  refine def_of (N := N_corners) (k := 2) W.d_corners sc_corners fun fa cdv A outer s H E hr => ?_
  have nd : N_corners.Nodup := sc_corners.nd
  refine ⟨_, (pss_one (ps_ret (C8.pe_c (c_set_of W) hr (by decide) (by rfl) (pa_cons (pe_tupN (pa_cons pe_int (pa_starK K rfl (pe_pr (c_Turns_ends W) (pv 0) hr (by decide)) (pa_starK K rfl (pe_pr (c_Turns_ends W) (pv 1) hr (by decide)) pa_nil)))) pa_nil)))), ?_⟩
  exact fun u me => (es_ret (ev_call (ea_cons (ev_tup (ea_cons (ev_c fun _ => .int _) (ea_star ((ev_prop ev_var)).x (ea_star ((ev_prop ev_var)).x ea_nil)))) ea_nil)))

abbrev st_is_above : Stmt := topS 58
abbrev N_is_above : List Str := ["one", "other", "number"]
theorem sc_is_above : FnScope N_is_above ["one", "other"] (C8.fnScope st_is_above) := C8.fnScope_by (by decide +kernel)
def B_is_above : DL.Env → T Out := (sSeq (sDrop (aFn F_check_size (aCons (fVar 0) (aCons (fVar 1) aNil)))) (sRet (fFn allD (fOfL (fComp (iSeq (aFn F_corners (aCons (fVar 0) (aCons (fVar 1) aNil)))) (gSet 2) fYes (fOp geD (aFn F_ahead (aCons (fVar 0) (aCons (fVar 2) aNil))) (aFn F_ahead (aCons (fVar 1) (aCons (fVar 2) aNil)))) [2])))))
def F_is_above : List D → T D := runDef 2 1 B_is_above
theorem c_is_above {P : Program} {w : World} {K : PySem.W.Frag} {mg : Str → Option Value} {base : Heap} {cls : Nat → Addr} (W : Ws K mg cls) : C8.Cal P w K mg base 4 "is_above" (spF K cls F_is_above) [] := by
  refine def_of (N := N_is_above) (k := 3) W.d_is_above sc_is_above fun fa cdv A outer s H E hr => ?_
  have nd : N_is_above.Nodup := sc_is_above.nd
  refine ⟨_, (pss_cons (ps_expr (C8.pe_c (c_check_size W) hr (by decide) (by rfl) (pa_cons (pv 0) (pa_cons (pv 1) pa_nil)))) (pss_one (ps_ret (pe_callB (cr_allK K rfl (by rfl)) (by rfl) W.z_all bt_all (pa_cons (pe_lc (by rfl) nd (pi_sqK K rfl (C8.pe_c (c_corners W) hr (by decide) (by rfl) (pa_cons (pv 0) (pa_cons (pv 1) pa_nil)))) (blkOk_by (N := N_is_above) (sc := C8.fnScope st_is_above) (own := [("number", 2)]) (by decide +kernel)) (fun _ _ _ _ _ => (pg_name (i := 2) nd rfl (Or.inl rfl) (Or.inr rfl))) (fun _ _ _ _ _ => pts_nil) (fun _ _ _ _ _ => (pe_cmpR op_ge (C8.pe_c (c_ahead W) hr (by decide) (by rfl) (pa_cons (pv 0) (pa_cons (pv 2) pa_nil))) (C8.pe_c (c_ahead W) hr (by decide) (by rfl) (pa_cons (pv 1) (pa_cons (pv 2) pa_nil))) (nomark _)))) pa_nil))))), ?_⟩
  exact fun u me => (es_seq (es_drop (ev_call (ea_cons ev_var (ea_cons ev_var ea_nil)))) (es_ret (ev_fn rb_all ((ev_lst (el_comp (ei_sqX ((ev_call (ea_cons ev_var (ea_cons ev_var ea_nil)))).x) eg_name et_yes (ev_op rop_ge ((ev_call (ea_cons ev_var (ea_cons ev_var ea_nil)))).x ((ev_call (ea_cons ev_var (ea_cons ev_var ea_nil)))).x) (by decide)))).x)))

abbrev st_against : Stmt := topS 41
abbrev N_against : List Str := ["one", "other", "later", "which", "number"]
theorem sc_against : FnScope N_against ["one", "other"] (C8.fnScope st_against) := C8.fnScope_by (by decide +kernel)
def B_against : DL.Env → T Out := (sSeq (sDrop (aFn F_check_size (aCons (fVar 0) (aCons (fVar 1) aNil)))) (sSeq (sSet 2 (fOfL (fComp (iSeq (aFn F_ways_later (aCons (fVar 0) (aCons (fVar 1) aNil)))) (gTupD (gsCons (gSet 3) (gsCons (gSet 4) gsNil))) (fTest (fOp gtD (fVar 4) (fC (.int 0)))) (fVar 3) [3, 4]))) (sSeq (sIf (fTest (fOp gtD (fFn lenD (fVar 2)) (fC (.int 0)))) (sRet (fOp ixD (fVar 2) (fC (.int 0)))) sNext) (sRet (fIf (fTest (fOp ltD (fProp 0 F_Turns_hers (fVar 0)) (fProp 0 F_Turns_hers (fVar 1)))) (fOp addD (fProp 0 F_Turns_hers (fVar 0)) (fC (.int 1))) (fC .non))))))
def F_against : List D → T D := runDef 2 3 B_against
theorem c_against {P : Program} {w : World} {K : PySem.W.Frag} {mg : Str → Option Value} {base : Heap} {cls : Nat → Addr} (W : Ws K mg cls) : C8.Cal P w K mg base 6 "against" (spF K cls F_against) [] := by
  refine def_of (N := N_against) (k := 5) W.d_against sc_against fun fa cdv A outer s H E hr => ?_
  have nd : N_against.Nodup := sc_against.nd
  refine ⟨_, (pss_cons (ps_expr (C8.pe_c (c_check_size W) hr (by decide) (by rfl) (pa_cons (pv 0) (pa_cons (pv 1) pa_nil)))) (pss_cons (ps_setLc (i := 2) (by rfl) nd rfl rfl (sw_true rfl rfl rfl (by decide +kernel)) (pi_sqK K rfl (C8.pe_c (c_ways_later W) hr (by decide) (by rfl) (pa_cons (pv 0) (pa_cons (pv 1) pa_nil)))) (blkOk_by (N := N_against) (sc := C8.fnScope st_against) (own := [("which", 3), ("number", 4)]) (by decide +kernel)) (fun _ _ _ _ _ => (pg_tupK (n := 2) K rfl rfl (pgs_cons (pg_name (i := 3) nd rfl (Or.inl rfl) (Or.inr rfl)) (pgs_cons (pg_name (i := 4) nd rfl (Or.inl rfl) (Or.inr rfl)) pgs_nil)))) (fun _ _ _ _ _ => (pts_one (pt_cmpR op_gt (pv 4) pe_int (nomark _)))) (fun _ _ _ _ _ => (pv 3))) (pss_cons (ps_if (pt_cmpR op_gt (pe_callB (call_lenK K rfl) (by rfl) W.z_len bt_len (pa_cons (pv 2) pa_nil)) pe_int (nomark _)) (pss_one (ps_ret (pe_ix (ix_K K rfl) (pv 2) pe_int (fun _ _ => rfl)))) pss_nil) (pss_one (ps_ret (pe_ifExp (pt_cmpR op_lt (pe_pr (c_Turns_hers W) (pv 0) hr (by decide)) (pe_pr (c_Turns_hers W) (pv 1) hr (by decide)) (nomark _)) (pe_op (op_addK K rfl) (pe_pr (c_Turns_hers W) (pv 0) hr (by decide)) pe_int) pe_non)))))), ?_⟩
  exact fun u me => (es_seq (es_drop (ev_call (ea_cons ev_var (ea_cons ev_var ea_nil)))) (es_seq (es_set (ev_lst (el_comp (ei_sqX ((ev_call (ea_cons ev_var (ea_cons ev_var ea_nil)))).x) (eg_tup (eg_cons eg_name (eg_cons eg_name eg_nil)) (gs_len (gs_len gs_len0))) (et_test (ev_op rop_gt (ev_var).x ((ev_c fun _ => .int _)).x).x) ev_var (by decide)))) (es_seq (es_if (et_test (ev_op rop_gt ((ev_fn rb_len (ev_var).x)).x ((ev_c fun _ => .int _)).x).x) (es_ret (ev_op rop_ix (ev_var).x ((ev_c fun _ => .int _)).x)) es_next) (es_ret (ev_if (et_test (ev_op rop_lt ((ev_prop ev_var)).x ((ev_prop ev_var)).x).x) (ev_op rop_add ((ev_prop ev_var)).x ((ev_c fun _ => .int _)).x) (ev_c fun _ => .non))))))

abbrev st_never_worse : Stmt := topS 40
abbrev N_never_worse : List Str := ["one", "other"]
theorem sc_never_worse : FnScope N_never_worse ["one", "other"] (C8.fnScope st_never_worse) := C8.fnScope_by (by decide +kernel)
def B_never_worse : DL.Env → T Out := (sRet (fIsN (aFn F_against (aCons (fVar 0) (aCons (fVar 1) aNil)))))
def F_never_worse : List D → T D := runDef 2 0 B_never_worse
theorem c_never_worse {P : Program} {w : World} {K : PySem.W.Frag} {mg : Str → Option Value} {base : Heap} {cls : Nat → Addr} (W : Ws K mg cls) : C8.Cal P w K mg base 7 "never_worse" (spF K cls F_never_worse) [] := by
  refine def_of (N := N_never_worse) (k := 6) W.d_never_worse sc_never_worse fun fa cdv A outer s H E hr => ?_
  have nd : N_never_worse.Nodup := sc_never_worse.nd
  refine ⟨_, (pss_one (ps_ret (pe_cmp (pc_isN (C8.pe_c (c_against W) hr (by decide) (by rfl) (pa_cons (pv 0) (pa_cons (pv 1) pa_nil))))))), ?_⟩
  exact fun u me => (es_ret (ev_isN ((ev_call (ea_cons ev_var (ea_cons ev_var ea_nil)))).x))

abbrev st_compare : Stmt := topS 44
abbrev N_compare : List Str := ["one", "other"]
theorem sc_compare : FnScope N_compare ["one", "other"] (C8.fnScope st_compare) := C8.fnScope_by (by decide +kernel)
def B_compare : DL.Env → T Out := (sSeq (sIf (fTest (aFn F_never_worse (aCons (fVar 0) (aCons (fVar 1) aNil)))) (sRet (fIf (fTest (aFn F_never_worse (aCons (fVar 1) (aCons (fVar 0) aNil)))) (fC (.str (PySem.Str.ofString "alike"))) (fC (.str (PySem.Str.ofString "better"))))) sNext) (sRet (fIf (fTest (aFn F_never_worse (aCons (fVar 1) (aCons (fVar 0) aNil)))) (fC (.str (PySem.Str.ofString "worse"))) (fC (.str (PySem.Str.ofString "apart"))))))
def F_compare : List D → T D := runDef 2 0 B_compare
theorem c_compare {P : Program} {w : World} {K : PySem.W.Frag} {mg : Str → Option Value} {base : Heap} {cls : Nat → Addr} (W : Ws K mg cls) : C8.Cal P w K mg base 8 "compare" (spF K cls F_compare) [] := by
  refine def_of (N := N_compare) (k := 7) W.d_compare sc_compare fun fa cdv A outer s H E hr => ?_
  have nd : N_compare.Nodup := sc_compare.nd
  refine ⟨_, (pss_cons (ps_if (pt_val (C8.pe_c (c_never_worse W) hr (by decide) (by rfl) (pa_cons (pv 0) (pa_cons (pv 1) pa_nil)))) (pss_one (ps_ret (pe_ifExp (pt_val (C8.pe_c (c_never_worse W) hr (by decide) (by rfl) (pa_cons (pv 1) (pa_cons (pv 0) pa_nil)))) pe_str pe_str))) pss_nil) (pss_one (ps_ret (pe_ifExp (pt_val (C8.pe_c (c_never_worse W) hr (by decide) (by rfl) (pa_cons (pv 1) (pa_cons (pv 0) pa_nil)))) pe_str pe_str)))), ?_⟩
  exact fun u me => (es_seq (es_if (et_B ((ev_call (ea_cons ev_var (ea_cons ev_var ea_nil)))).x) (es_ret (ev_if (et_B ((ev_call (ea_cons ev_var (ea_cons ev_var ea_nil)))).x) (ev_c fun _ => .str _) (ev_c fun _ => .str _))) es_next) (es_ret (ev_if (et_B ((ev_call (ea_cons ev_var (ea_cons ev_var ea_nil)))).x) (ev_c fun _ => .str _) (ev_c fun _ => .str _))))

abbrev st_is_number : Stmt := topS 9
abbrev N_is_number : List Str := ["value"]
theorem sc_is_number : FnScope N_is_number ["value"] (C8.fnScope st_is_number) := C8.fnScope_by (by decide +kernel)
def B_is_number : DL.Env → T Out := (sRet (fAndV (fFn (isiD ["int"]) (fVar 0)) (fNotV (fFn (isiD ["bool"]) (fVar 0)))))
def F_is_number : List D → T D := runDef 1 0 B_is_number
theorem c_is_number {P : Program} {w : World} {K : PySem.W.Frag} {mg : Str → Option Value} {base : Heap} {cls : Nat → Addr} (W : Ws K mg cls) : C8.Cal P w K mg base 1 "is_number" (spF K cls F_is_number) [] := by
  refine def_of (N := N_is_number) (k := 0) W.d_is_number sc_is_number fun fa cdv A outer s H E hr => ?_
  have nd : N_is_number.Nodup := sc_is_number.nd
  refine ⟨_, (pss_one (ps_ret (pe_and (pe_callB (call_isiKq K rfl) (by rfl) W.z_isinstance bt_isinstance (pa_cons (pv 0) (pa_cons (pe_bltn (v := .ty "int") (by rfl) W.z_int bt_int rfl) pa_nil))) (pe_one (pe_not (pe_callB (call_isiKq K rfl) (by rfl) W.z_isinstance bt_isinstance (pa_cons (pv 0) (pa_cons (pe_bltn (v := .ty "bool") (by rfl) W.z_bool bt_bool rfl) pa_nil)))))))), ?_⟩
  exact fun u me => (es_ret (ev_andV ((ev_isi (isi_ok (by decide)) (ev_var).x)).x (ev_notV ((ev_isi (isi_ok (by decide)) (ev_var).x)).x)))

abbrev st_is_against : Stmt := topS 42
abbrev N_is_against : List Str := ["one", "other", "thing"]
theorem sc_is_against : FnScope N_is_against ["one", "other", "thing"] (C8.fnScope st_is_against) := C8.fnScope_by (by decide +kernel)
def B_is_against : DL.Env → T Out := (sSeq (sDrop (aFn F_check_size (aCons (fVar 0) (aCons (fVar 1) aNil)))) (sSeq (sIf (fOr (fNot (fTest (aFn F_is_number (aCons (fVar 2) aNil)))) (fNot (fTest (fChain leD leD (fC (.int 1)) (fVar 2) (fProp 0 F_Turns_hers (fVar 1)))))) (sRet (fC (.bl false))) sNext) (sRet (fOrV (fOp gtD (fVar 2) (fProp 0 F_Turns_hers (fVar 0))) (fOp gtD (aFn F_turn_of (aCons (fVar 0) (aCons (fVar 2) aNil))) (aFn F_turn_of (aCons (fVar 1) (aCons (fVar 2) aNil))))))))
def F_is_against : List D → T D := runDef 3 0 B_is_against
theorem c_is_against {P : Program} {w : World} {K : PySem.W.Frag} {mg : Str → Option Value} {base : Heap} {cls : Nat → Addr} (W : Ws K mg cls) : C8.Cal P w K mg base 5 "is_against" (spF K cls F_is_against) [] := by
  refine def_of (N := N_is_against) (k := 4) W.d_is_against sc_is_against fun fa cdv A outer s H E hr => ?_
  have nd : N_is_against.Nodup := sc_is_against.nd
  refine ⟨_, (pss_cons (ps_expr (C8.pe_c (c_check_size W) hr (by decide) (by rfl) (pa_cons (pv 0) (pa_cons (pv 1) pa_nil)))) (pss_cons (ps_if (PW.pt (pw_or (pt_not (pt_val (C8.pe_c (c_is_number W) hr (by decide) (by rfl) (pa_cons (pv 2) pa_nil)))) (pw_or1 (pt_not (pt_chain op_le op_le pe_int (pv 2) (pe_pr (c_Turns_hers W) (pv 1) hr (by decide))))))) (pss_one (ps_ret pe_bl)) pss_nil) (pss_one (ps_ret (pe_or (pe_cmpR op_gt (pv 2) (pe_pr (c_Turns_hers W) (pv 0) hr (by decide)) (nomark _)) (pe_one (pe_cmpR op_gt (C8.pe_c (c_turn_of W) hr (by decide) (by rfl) (pa_cons (pv 0) (pa_cons (pv 2) pa_nil))) (C8.pe_c (c_turn_of W) hr (by decide) (by rfl) (pa_cons (pv 1) (pa_cons (pv 2) pa_nil))) (nomark _)))))))), ?_⟩
  exact fun u me => (es_seq (es_drop (ev_call (ea_cons ev_var (ea_cons ev_var ea_nil)))) (es_seq (es_if (et_or (et_not (et_B ((ev_call (ea_cons ev_var ea_nil))).x)) (et_not (et_test ((ev_chain rop_le rop_le ((ev_c fun _ => .int _)).x (ev_var).x ((ev_prop ev_var)).x)).x))) (es_ret (ev_c fun _ => .bl _)) es_next) (es_ret (ev_orV ((ev_op rop_gt (ev_var).x ((ev_prop ev_var)).x)).x (ev_op rop_gt ((ev_call (ea_cons ev_var (ea_cons ev_var ea_nil)))).x ((ev_call (ea_cons ev_var (ea_cons ev_var ea_nil)))).x)))))

abbrev st_Turns_eq : Stmt := (C8.clsBody (topS 25)).getD 13 (.Pass ⟨0, 0, 0, 0⟩)
abbrev N_Turns_eq : List Str := ["self", "other"]
theorem sc_Turns_eq : FnScope N_Turns_eq ["self", "other"] (C8.fnScope st_Turns_eq) := C8.fnScope_by (by decide +kernel)
def B_Turns_eq : DL.Env → T Out := (sRet (fAndV (fFn (isiO 0) (fVar 1)) (fOp eqD (fFld 0 1 (fVar 0)) (fProp 0 F_Turns_runs (fVar 1)))))
def F_Turns_eq : List D → T D := runDef 2 0 B_Turns_eq
theorem c_Turns_eq {P : Program} {w : World} {K : PySem.W.Frag} {mg : Str → Option Value} {base : Heap} {cls : Nat → Addr} (W : Ws K mg cls) : Mt P w K mg base 3 (cls 0) "__eq__" (spF K cls F_Turns_eq) := by
  refine mt_of (N := N_Turns_eq) (k := 2) W.s_Turns W.q_Turns_eq sc_Turns_eq fun fa cdv A outer s H E hr => ?_
  have nd : N_Turns_eq.Nodup := sc_Turns_eq.nd
  refine ⟨_, (pss_one (ps_ret (pe_and (pe_callB (call_isiSlK K rfl (.ref (cls 0))) (by rfl) W.z_isinstance bt_isinstance (pa_cons (pv 1) (pa_cons (C8.pe_gc (v := .ref (cls 0)) (by rfl) ⟨_, W.i_Turns.at_, rfl⟩) pa_nil))) (pe_one (pe_cmpR (op_eqK K rfl (hu64 hr)) (pe_slK K rfl (pv 0)) (pe_pr (c_Turns_runs W) (pv 1) hr (by decide)) (nomark _)))))), ?_⟩
  exact fun u me => (es_ret (ev_andV ((ev_isiO W.i_Turns (ev_var).x)).x (ev_op rop_eq ((ev_fld W.fl_own_runs ev_var)).x ((ev_prop ev_var)).x)))

abbrev st_Turns_getitem : Stmt := (C8.clsBody (topS 25)).getD 10 (.Pass ⟨0, 0, 0, 0⟩)
abbrev N_Turns_getitem : List Str := ["self", "number", "end", "heir", "many"]
theorem sc_Turns_getitem : FnScope N_Turns_getitem ["self", "number"] (C8.fnScope st_Turns_getitem) := C8.fnScope_by (by decide +kernel)
def B_Turns_getitem : DL.Env → T Out := (sSeq (sIf (fTest (fOp gtD (fVar 1) (fC (.int 0)))) (sFor (iZip (fFld 0 1 (fVar 0)) (fFld 0 0 (fVar 0))) (gTupD (gsCons (gTupD (gsCons (gSet 3) (gsCons (gSet 4) gsNil))) (gsCons (gSet 2) gsNil))) (sIf (fTest (fOp leD (fVar 1) (fVar 2))) (sRet (fVar 3)) sNext)) sNext) sNever)
def F_Turns_getitem : List D → T D := runDef 2 3 B_Turns_getitem
theorem c_Turns_getitem {P : Program} {w : World} {K : PySem.W.Frag} {mg : Str → Option Value} {base : Heap} {cls : Nat → Addr} (W : Ws K mg cls) : Mt P w K mg base 1 (cls 0) "__getitem__" (spF K cls F_Turns_getitem) := by
  refine mt_of (N := N_Turns_getitem) (k := 0) W.s_Turns W.q_Turns_getitem sc_Turns_getitem fun fa cdv A outer s H E hr => ?_
  have nd : N_Turns_getitem.Nodup := sc_Turns_getitem.nd
  refine ⟨_, (pss_cons (ps_if (pt_cmpR op_gt (pv 1) pe_int (nomark _)) (pss_one (ps_for PassesOwn.never rfl (pi_zpK K rfl (by rfl) W.z_zip (pe_slK K rfl (pv 0)) (pe_slK K rfl (pv 0))) (pg_tupK (n := 2) K rfl rfl (pgs_cons (pg_tupK (n := 2) K rfl rfl (pgs_cons (pg_name (i := 3) nd rfl (Or.inl rfl) (Or.inr rfl)) (pgs_cons (pg_name (i := 4) nd rfl (Or.inl rfl) (Or.inr rfl)) pgs_nil))) (pgs_cons (pg_name (i := 2) nd rfl (Or.inl rfl) (Or.inr rfl)) pgs_nil))) (pss_one (ps_if (pt_cmpR op_le (pv 1) (pv 2) (nomark _)) (pss_one (ps_ret (pv 3))) pss_nil)))) pss_nil) (pss_one ps_never)), ?_⟩
  exact fun u me => (es_seq (es_if (et_test (ev_op rop_gt (ev_var).x ((ev_c fun _ => .int _)).x).x) (es_for (ei_zp (ev_fld W.fl_own_runs ev_var) (ev_fld W.fl_own_ends ev_var)) (gs_tup (gs_cons (gs_tup (gs_cons gs_name (gs_cons gs_name gs_nil)) (gs_len (gs_len gs_len0))) (gs_cons gs_name gs_nil)) (gs_len (gs_len gs_len0))) (es_if (et_test (ev_op rop_le (ev_var).x (ev_var).x).x) (es_ret ev_var) es_next)) es_next) es_never)

abbrev st_runs_above : Stmt := topS 59
abbrev N_runs_above : List Str := ["one", "other", "found", "ends", "start", "end", "size", "slow", "turn", "mine", "its", "gap", "run"]
theorem sc_runs_above : FnScope N_runs_above ["one", "other"] (C8.fnScope st_runs_above) := C8.fnScope_by (by decide +kernel)
def B_runs_above : DL.Env → T Out := (sSeq (sParLV 2 3 (fLst aNil) (aFn F_corners (aCons (fVar 0) (aCons (fVar 1) aNil)))) (sSeq (sFor (iZip (fVar 3) (fSl (fVar 3) (oSome (fC (.int 1))) oNo)) (gTupD (gsCons (gSet 4) (gsCons (gSet 5) gsNil))) (sSeq (sPar3 9 10 11 (fOp (ownIx 0 F_Turns_getitem) (fVar 0) (fOp addD (fVar 4) (fC (.int 1)))) (fOp (ownIx 0 F_Turns_getitem) (fVar 1) (fOp addD (fVar 4) (fC (.int 1)))) (fOp subD (aFn F_ahead (aCons (fVar 0) (aCons (fVar 4) aNil))) (aFn F_ahead (aCons (fVar 1) (aCons (fVar 4) aNil))))) (sSeq (sSet 6 (fOp subD (fVar 5) (fVar 4))) (sSeq (sIf (fTest (fOp eqD (fVar 9) (fVar 10))) (sSeq (sApp 2 (fTup (aCons (fVar 9) (aCons (fVar 6) aNil)))) sCont) sNext) (sSeq (sSet 7 (fIf (fTest (fOp eqD (fVar 10) (fC (.str (PySem.Str.ofString "a"))))) (fVar 11) (fUn negD (fVar 11)))) (sSeq (sSet 8 (aFn min2D (aCons (fVar 6) (aCons (aFn max2D (aCons (fC (.int 0)) (aCons (fVar 7) aNil))) aNil)))) (sExt 2 (fOfL (fLst (aCons (fTup (aCons (fC (.str (PySem.Str.ofString "b"))) (aCons (fVar 8) aNil))) (aCons (fTup (aCons (fC (.str (PySem.Str.ofString "a"))) (aCons (fOp subD (fVar 6) (fVar 8)) aNil))) aNil))))))))))) (sRet (fOfL (fComp (iSeq (fVar 2)) (gSet 12) (fTest (fOp gtD (fOp ixD (fVar 12) (fC (.int 1))) (fC (.int 0)))) (fVar 12) [12])))))
def F_runs_above : List D → T D := runDef 2 11 B_runs_above
theorem c_runs_above {P : Program} {w : World} {K : PySem.W.Frag} {mg : Str → Option Value} {base : Heap} {cls : Nat → Addr} (W : Ws K mg cls) : C8.Cal P w K mg base 4 "runs_above" (spF K cls F_runs_above) [] := by
  refine def_of (N := N_runs_above) (k := 3) W.d_runs_above sc_runs_above fun fa cdv A outer s H E hr => ?_
  have nd : N_runs_above.Nodup := sc_runs_above.nd
  refine ⟨_, (pss_cons (ps_par (i := 2) (j := 3) rfl nd rfl rfl (by decide) rfl rfl (pa_cons (pe_lst pa_nil) (pa_cons (C8.pe_c (c_corners W) hr (by decide) (by rfl) (pa_cons (pv 0) (pa_cons (pv 1) pa_nil))) pa_nil)) (by rfl)) (pss_cons (ps_for PassesOwn.never rfl (pi_zpK K rfl (by rfl) W.z_zip (pv 3) (pe_slice (sl_K K rfl) (pv 3) (po_some pe_int) po_none)) (pg_tupK (n := 2) K rfl rfl (pgs_cons (pg_name (i := 4) nd rfl (Or.inl rfl) (Or.inr rfl)) (pgs_cons (pg_name (i := 5) nd rfl (Or.inl rfl) (Or.inr rfl)) pgs_nil))) (pss_cons (ps_par3 (i := 9) (j := 10) (l := 11) rfl nd rfl rfl rfl (by decide) (by decide) (by decide) rfl rfl rfl (pa_cons (pe_ixOwn (c_Turns_getitem W) hr (by decide) (pv 0) (pe_op (op_addK K rfl) (pv 4) pe_int)) (pa_cons (pe_ixOwn (c_Turns_getitem W) hr (by decide) (pv 1) (pe_op (op_addK K rfl) (pv 4) pe_int)) (pa_cons (pe_op op_sub (C8.pe_c (c_ahead W) hr (by decide) (by rfl) (pa_cons (pv 0) (pa_cons (pv 4) pa_nil))) (C8.pe_c (c_ahead W) hr (by decide) (by rfl) (pa_cons (pv 1) (pa_cons (pv 4) pa_nil)))) pa_nil))) (by rfl)) (pss_cons (ps_set (i := 6) nd rfl (Or.inl rfl) (pe_op op_sub (pv 5) (pv 4))) (pss_cons (ps_if (pt_cmpR (op_eqK K rfl (hu64 hr)) (pv 9) (pv 10) (nomark _)) (pss_cons (ps_expr (pe_bm PySem.F.plainAttrs_list PySem.F.slot_list_append PySem.F.type_list_append mt_append (pv 2) (pa_cons (pe_tupN (pa_cons (pv 9) (pa_cons (pv 6) pa_nil))) pa_nil))) (pss_one ps_continue)) pss_nil) (pss_cons (ps_set (i := 7) nd rfl (Or.inl rfl) (pe_ifExp (pt_cmpR (op_eqK K rfl (hu64 hr)) (pv 10) pe_str (nomark _)) (pv 11) (pe_un un_neg (pv 11)))) (pss_cons (ps_set (i := 8) nd rfl (Or.inl rfl) (pe_callB (call_min2 (by rfl)) (by rfl) W.z_min bt_min (pa_cons (pv 6) (pa_cons (pe_callB (call_max2 (by rfl)) (by rfl) W.z_max bt_max (pa_cons pe_int (pa_cons (pv 7) pa_nil))) pa_nil)))) (pss_one (ps_expr (pe_bm PySem.F.plainAttrs_list PySem.F.slot_list_extend PySem.F.type_list_extend mt_extend (pv 2) (pa_cons (pe_lst (pa_cons (pe_tupN (pa_cons pe_str (pa_cons (pv 8) pa_nil))) (pa_cons (pe_tupN (pa_cons pe_str (pa_cons (pe_op op_sub (pv 6) (pv 8)) pa_nil))) pa_nil))) pa_nil)))))))))) (pss_one (ps_ret (pe_lc (by rfl) nd (pi_sqK K rfl (pv 2)) (blkOk_by (N := N_runs_above) (sc := C8.fnScope st_runs_above) (own := [("run", 12)]) (by decide +kernel)) (fun _ _ _ _ _ => (pg_name (i := 12) nd rfl (Or.inl rfl) (Or.inr rfl))) (fun _ _ _ _ _ => (pts_one (pt_cmpR op_gt (pe_ix (ix_K K rfl) (pv 12) pe_int (fun _ _ => rfl)) pe_int (nomark _)))) (fun _ _ _ _ _ => (pv 12))))))), ?_⟩
  exact fun u me => (es_seq (es_parLV (el_lst ea_nil) (ev_call (ea_cons ev_var (ea_cons ev_var ea_nil)))) (es_seq (es_for (ei_zp ev_var (ev_sl (ev_var).x (eo_some ((ev_c fun _ => .int _)).x) eo_no)) (gs_tup (gs_cons gs_name (gs_cons gs_name gs_nil)) (gs_len (gs_len gs_len0))) (es_seq (es_par3 (ev_op rop_ownIx (ev_var).x ((ev_op rop_add (ev_var).x ((ev_c fun _ => .int _)).x)).x) (ev_op rop_ownIx (ev_var).x ((ev_op rop_add (ev_var).x ((ev_c fun _ => .int _)).x)).x) (ev_op rop_sub ((ev_call (ea_cons ev_var (ea_cons ev_var ea_nil)))).x ((ev_call (ea_cons ev_var (ea_cons ev_var ea_nil)))).x)) (es_seq (es_set (ev_op rop_sub (ev_var).x (ev_var).x)) (es_seq (es_if (et_test (ev_op rop_eq (ev_var).x (ev_var).x).x) (es_seq (es_app (ev_tup (ea_cons ev_var (ea_cons ev_var ea_nil)))) es_cont) es_next) (es_seq (es_set (ev_if (et_test (ev_op rop_eq (ev_var).x ((ev_c fun _ => .str _)).x).x) ev_var (ev_un run_neg (ev_var).x))) (es_seq (es_set (ev_fnA rb_min2 (ea_cons ev_var (ea_cons (ev_fnA rb_max2 (ea_cons (ev_c fun _ => .int _) (ea_cons ev_var ea_nil))) ea_nil)))) (es_ext (ev_lst (el_lst (ea_cons (ev_tup (ea_cons (ev_c fun _ => .str _) (ea_cons ev_var ea_nil))) (ea_cons (ev_tup (ea_cons (ev_c fun _ => .str _) (ea_cons (ev_op rop_sub (ev_var).x (ev_var).x) ea_nil))) ea_nil))))))))))) (es_ret (ev_lst (el_comp (ei_sqX (ev_var).x) eg_name (et_test (ev_op rop_gt ((ev_op rop_ix (ev_var).x ((ev_c fun _ => .int _)).x)).x ((ev_c fun _ => .int _)).x).x) ev_var (by decide))))))

abbrev st_below_both : Stmt := topS 61
abbrev N_below_both : List Str := ["one", "other"]
theorem sc_below_both : FnScope N_below_both ["one", "other"] (C8.fnScope st_below_both) := C8.fnScope_by (by decide +kernel)
def B_below_both : DL.Env → T Out := (sSeq (sDrop (aFn F_check_size (aCons (fVar 0) (aCons (fVar 1) aNil)))) (sRet (aFn F_swapped (aCons (fMake 0 (aCons (aFn F_runs_above (aCons (aFn F_swapped (aCons (fVar 0) aNil)) (aCons (aFn F_swapped (aCons (fVar 1) aNil)) aNil))) aNil) I_Turns_init) aNil))))
def F_below_both : List D → T D := runDef 2 0 B_below_both
theorem c_below_both {P : Program} {w : World} {K : PySem.W.Frag} {mg : Str → Option Value} {base : Heap} {cls : Nat → Addr} (W : Ws K mg cls) : C8.Cal P w K mg base 11 "below_both" (spF K cls F_below_both) [] := by
  refine def_of (N := N_below_both) (k := 10) W.d_below_both sc_below_both fun fa cdv A outer s H E hr => ?_
  have nd : N_below_both.Nodup := sc_below_both.nd
  refine ⟨_, (pss_cons (ps_expr (C8.pe_c (c_check_size W) hr (by decide) (by rfl) (pa_cons (pv 0) (pa_cons (pv 1) pa_nil)))) (pss_one (ps_ret (C8.pe_c (c_swapped W) hr (by decide) (by rfl) (pa_cons (C8.pe_mk (c_Turns_init W) hr (by decide) (by rfl) (pa_cons (C8.pe_c (c_runs_above W) hr (by decide) (by rfl) (pa_cons (C8.pe_c (c_swapped W) hr (by decide) (by rfl) (pa_cons (pv 0) pa_nil)) (pa_cons (C8.pe_c (c_swapped W) hr (by decide) (by rfl) (pa_cons (pv 1) pa_nil)) pa_nil))) pa_nil)) pa_nil))))), ?_⟩
  exact fun u me => (es_seq (es_drop (ev_call (ea_cons ev_var (ea_cons ev_var ea_nil)))) (es_ret (ev_call (ea_cons (ev_make (ea_cons (ev_call (ea_cons (ev_call (ea_cons ev_var ea_nil)) (ea_cons (ev_call (ea_cons ev_var ea_nil)) ea_nil))) ea_nil)) ea_nil))))

abbrev st_above_both : Stmt := topS 60
abbrev N_above_both : List Str := ["one", "other"]
theorem sc_above_both : FnScope N_above_both ["one", "other"] (C8.fnScope st_above_both) := C8.fnScope_by (by decide +kernel)
def B_above_both : DL.Env → T Out := (sSeq (sDrop (aFn F_check_size (aCons (fVar 0) (aCons (fVar 1) aNil)))) (sRet (fMake 0 (aCons (aFn F_runs_above (aCons (fVar 0) (aCons (fVar 1) aNil))) aNil) I_Turns_init)))
def F_above_both : List D → T D := runDef 2 0 B_above_both
theorem c_above_both {P : Program} {w : World} {K : PySem.W.Frag} {mg : Str → Option Value} {base : Heap} {cls : Nat → Addr} (W : Ws K mg cls) : C8.Cal P w K mg base 10 "above_both" (spF K cls F_above_both) [] := by
  refine def_of (N := N_above_both) (k := 9) W.d_above_both sc_above_both fun fa cdv A outer s H E hr => ?_
  have nd : N_above_both.Nodup := sc_above_both.nd
  refine ⟨_, (pss_cons (ps_expr (C8.pe_c (c_check_size W) hr (by decide) (by rfl) (pa_cons (pv 0) (pa_cons (pv 1) pa_nil)))) (pss_one (ps_ret (C8.pe_mk (c_Turns_init W) hr (by decide) (by rfl) (pa_cons (C8.pe_c (c_runs_above W) hr (by decide) (by rfl) (pa_cons (pv 0) (pa_cons (pv 1) pa_nil))) pa_nil))))), ?_⟩
  exact fun u me => (es_seq (es_drop (ev_call (ea_cons ev_var (ea_cons ev_var ea_nil)))) (es_ret (ev_make (ea_cons (ev_call (ea_cons ev_var (ea_cons ev_var ea_nil))) ea_nil))))

abbrev st_backwards : Stmt := topS 32
abbrev N_backwards : List Str := ["turns"]
theorem sc_backwards : FnScope N_backwards ["turns"] (C8.fnScope st_backwards) := C8.fnScope_by (by decide +kernel)
def B_backwards : DL.Env → T Out := (sRet (fMake 0 (aCons (fRev (fProp 0 F_Turns_runs (fVar 0))) aNil) I_Turns_init))
def F_backwards : List D → T D := runDef 1 0 B_backwards
theorem c_backwards {P : Program} {w : World} {K : PySem.W.Frag} {mg : Str → Option Value} {base : Heap} {cls : Nat → Addr} (W : Ws K mg cls) : C8.Cal P w K mg base 10 "backwards" (spF K cls F_backwards) [] := by
  refine def_of (N := N_backwards) (k := 9) W.d_backwards sc_backwards fun fa cdv A outer s H E hr => ?_
  have nd : N_backwards.Nodup := sc_backwards.nd
  refine ⟨_, (pss_one (ps_ret (C8.pe_mk (c_Turns_init W) hr (by decide) (by rfl) (pa_cons (pe_revK K rfl (pe_pr (c_Turns_runs W) (pv 0) hr (by decide))) pa_nil)))), ?_⟩
  exact fun u me => (es_ret (ev_make (ea_cons (ev_rev ((ev_prop ev_var)).x) ea_nil)))

abbrev st_granted : Stmt := topS 45
abbrev N_granted : List Str := ["turns", "number", "left", "found", "heir", "many", "own", "run"]
theorem sc_granted : FnScope N_granted ["turns", "number"] (C8.fnScope st_granted) := C8.fnScope_by (by decide +kernel)
def B_granted : DL.Env → T Out := (sSeq (sParVL 2 3 (fVar 1) (fLst aNil)) (sSeq (sFor (iSeq (fRev (fProp 0 F_Turns_runs (fVar 0)))) (gTupD (gsCons (gSet 4) (gsCons (gSet 5) gsNil))) (sSeq (sSet 6 (fIf (fTest (fOp eqD (fVar 4) (fC (.str (PySem.Str.ofString "b"))))) (aFn min2D (aCons (fVar 2) (aCons (fVar 5) aNil))) (fC (.int 0)))) (sSeq (sAug 2 (fun i j => i - j) (fVar 6)) (sExt 3 (fOfL (fComp (iSeq (fTup (aCons (fTup (aCons (fC (.str (PySem.Str.ofString "a"))) (aCons (fVar 6) aNil))) (aCons (fTup (aCons (fVar 4) (aCons (fOp subD (fVar 5) (fVar 6)) aNil))) aNil)))) (gSet 7) (fTest (fOp gtD (fOp ixD (fVar 7) (fC (.int 1))) (fC (.int 0)))) (fVar 7) [7])))))) (sRet (fMake 0 (aCons (fRev (fVar 3)) aNil) I_Turns_init))))
def F_granted : List D → T D := runDef 2 6 B_granted
theorem c_granted {P : Program} {w : World} {K : PySem.W.Frag} {mg : Str → Option Value} {base : Heap} {cls : Nat → Addr} (W : Ws K mg cls) : C8.Cal P w K mg base 10 "granted" (spF K cls F_granted) [] := by
  refine def_of (N := N_granted) (k := 9) W.d_granted sc_granted fun fa cdv A outer s H E hr => ?_
  have nd : N_granted.Nodup := sc_granted.nd
  refine ⟨_, (pss_cons (ps_par (i := 2) (j := 3) rfl nd rfl rfl (by decide) rfl rfl (pa_cons (pv 1) (pa_cons (pe_lst pa_nil) pa_nil)) (by rfl)) (pss_cons (ps_for PassesOwn.never rfl (pi_sqK K rfl (pe_revK K rfl (pe_pr (c_Turns_runs W) (pv 0) hr (by decide)))) (pg_tupK (n := 2) K rfl rfl (pgs_cons (pg_name (i := 4) nd rfl (Or.inl rfl) (Or.inr rfl)) (pgs_cons (pg_name (i := 5) nd rfl (Or.inl rfl) (Or.inr rfl)) pgs_nil))) (pss_cons (ps_set (i := 6) nd rfl (Or.inl rfl) (pe_ifExp (pt_cmpR (op_eqK K rfl (hu64 hr)) (pv 4) pe_str (nomark _)) (pe_callB (call_min2 (by rfl)) (by rfl) W.z_min bt_min (pa_cons (pv 2) (pa_cons (pv 5) pa_nil))) pe_int)) (pss_cons (ps_aug (i := 2) nd rfl (Or.inl rfl) (pv 6) ip_sub) (pss_one (ps_expr (pe_bm PySem.F.plainAttrs_list PySem.F.slot_list_extend PySem.F.type_list_extend mt_extend (pv 3) (pa_cons (pe_lc (by rfl) nd (pi_sqK K rfl (pe_tupN (pa_cons (pe_tupN (pa_cons pe_str (pa_cons (pv 6) pa_nil))) (pa_cons (pe_tupN (pa_cons (pv 4) (pa_cons (pe_op op_sub (pv 5) (pv 6)) pa_nil))) pa_nil)))) (blkOk_by (N := N_granted) (sc := C8.fnScope st_granted) (own := [("run", 7)]) (by decide +kernel)) (fun _ _ _ _ _ => (pg_name (i := 7) nd rfl (Or.inl rfl) (Or.inr rfl))) (fun _ _ _ _ _ => (pts_one (pt_cmpR op_gt (pe_ix (ix_K K rfl) (pv 7) pe_int (fun _ _ => rfl)) pe_int (nomark _)))) (fun _ _ _ _ _ => (pv 7))) pa_nil))))))) (pss_one (ps_ret (C8.pe_mk (c_Turns_init W) hr (by decide) (by rfl) (pa_cons (pe_revK K rfl (pv 3)) pa_nil)))))), ?_⟩
  exact fun u me => (es_seq (es_parVL ev_var (el_lst ea_nil)) (es_seq (es_for (ei_sq (ev_rev ((ev_prop ev_var)).x)) (gs_tup (gs_cons gs_name (gs_cons gs_name gs_nil)) (gs_len (gs_len gs_len0))) (es_seq (es_set (ev_if (et_test (ev_op rop_eq (ev_var).x ((ev_c fun _ => .str _)).x).x) (ev_fnA rb_min2 (ea_cons ev_var (ea_cons ev_var ea_nil))) (ev_c fun _ => .int _))) (es_seq (es_aug (ev_var).x) (es_ext (ev_lst (el_comp (ei_sqX ((ev_tup (ea_cons (ev_tup (ea_cons (ev_c fun _ => .str _) (ea_cons ev_var ea_nil))) (ea_cons (ev_tup (ea_cons ev_var (ea_cons (ev_op rop_sub (ev_var).x (ev_var).x) ea_nil))) ea_nil)))).x) eg_name (et_test (ev_op rop_gt ((ev_op rop_ix (ev_var).x ((ev_c fun _ => .int _)).x)).x ((ev_c fun _ => .int _)).x).x) ev_var (by decide))))))) (es_ret (ev_make (ea_cons (ev_rev (ev_var).x) ea_nil)))))

abbrev st_fewest_steps : Stmt := topS 46
abbrev N_fewest_steps : List Str := ["one", "other", "number", "rows", "start", "found", "end", "which", "later", "row"]
theorem sc_fewest_steps : FnScope N_fewest_steps ["one", "other"] (C8.fnScope st_fewest_steps) := C8.fnScope_by (by decide +kernel)
def B_fewest_steps : DL.Env → T Out := (sSeq (sIf (fNot (fTest (aFn F_never_worse (aCons (fVar 0) (aCons (fVar 1) aNil))))) (sRet (fC .non)) sNext) (sSeq (sSet 2 (fOp subD (fProp 0 F_Turns_hers (fVar 0)) (fProp 0 F_Turns_hers (fVar 1)))) (sSeq (sParVV 4 5 (aFn F_granted (aCons (fVar 1) (aCons (fVar 2) aNil))) (fVar 2)) (sSeq (sSet 3 (aFn F_ways_later (aCons (fVar 4) (aCons (fVar 0) aNil)))) (sSeq (sFor (iZip (fVar 3) (fOfL (fLst (aStar (fOfL (fComp (iSeq (fSl (fVar 3) (oSome (fC (.int 1))) oNo)) (gSet 9) fYes (fOp ixD (fVar 9) (fC (.int 0))) [9])) (aCons (fOp addD (fProp 0 F_Turns_hers (fVar 0)) (fC (.int 1))) aNil))))) (gTupD (gsCons (gTupD (gsCons (gSet 7) (gsCons (gSet 8) gsNil))) (gsCons (gSet 6) gsNil))) (sAug 5 (fun i j => i + j) (fOp mulD (fOp subD (fVar 6) (fVar 7)) (fVar 8)))) (sRet (fVar 5)))))))
def F_fewest_steps : List D → T D := runDef 2 8 B_fewest_steps
theorem c_fewest_steps {P : Program} {w : World} {K : PySem.W.Frag} {mg : Str → Option Value} {base : Heap} {cls : Nat → Addr} (W : Ws K mg cls) : C8.Cal P w K mg base 11 "fewest_steps" (spF K cls F_fewest_steps) [] := by
  refine def_of (N := N_fewest_steps) (k := 10) W.d_fewest_steps sc_fewest_steps fun fa cdv A outer s H E hr => ?_
  have nd : N_fewest_steps.Nodup := sc_fewest_steps.nd
  refine ⟨_, (pss_cons (ps_if (pt_not (pt_val (C8.pe_c (c_never_worse W) hr (by decide) (by rfl) (pa_cons (pv 0) (pa_cons (pv 1) pa_nil))))) (pss_one (ps_ret pe_non)) pss_nil) (pss_cons (ps_set (i := 2) nd rfl (Or.inl rfl) (pe_op op_sub (pe_pr (c_Turns_hers W) (pv 0) hr (by decide)) (pe_pr (c_Turns_hers W) (pv 1) hr (by decide)))) (pss_cons (ps_par (i := 4) (j := 5) rfl nd rfl rfl (by decide) rfl rfl (pa_cons (C8.pe_c (c_granted W) hr (by decide) (by rfl) (pa_cons (pv 1) (pa_cons (pv 2) pa_nil))) (pa_cons (pv 2) pa_nil)) (by rfl)) (pss_cons (ps_set (i := 3) nd rfl (Or.inl rfl) (C8.pe_c (c_ways_later W) hr (by decide) (by rfl) (pa_cons (pv 4) (pa_cons (pv 0) pa_nil)))) (pss_cons (ps_for PassesOwn.never rfl (pi_zpK K rfl (by rfl) W.z_zip (pv 3) (pe_lst (pa_starK K rfl (pe_lc (by rfl) nd (pi_sqK K rfl (pe_slice (sl_K K rfl) (pv 3) (po_some pe_int) po_none)) (blkOk_by (N := N_fewest_steps) (sc := C8.fnScope st_fewest_steps) (own := [("row", 9)]) (by decide +kernel)) (fun _ _ _ _ _ => (pg_name (i := 9) nd rfl (Or.inl rfl) (Or.inr rfl))) (fun _ _ _ _ _ => pts_nil) (fun _ _ _ _ _ => (pe_ix (ix_K K rfl) (pv 9) pe_int (fun _ _ => rfl)))) (pa_cons (pe_op (op_addK K rfl) (pe_pr (c_Turns_hers W) (pv 0) hr (by decide)) pe_int) pa_nil)))) (pg_tupK (n := 2) K rfl rfl (pgs_cons (pg_tupK (n := 2) K rfl rfl (pgs_cons (pg_name (i := 7) nd rfl (Or.inl rfl) (Or.inr rfl)) (pgs_cons (pg_name (i := 8) nd rfl (Or.inl rfl) (Or.inr rfl)) pgs_nil))) (pgs_cons (pg_name (i := 6) nd rfl (Or.inl rfl) (Or.inr rfl)) pgs_nil))) (pss_one (ps_aug (i := 5) nd rfl (Or.inl rfl) (pe_op op_mulD (pe_op op_sub (pv 6) (pv 7)) (pv 8)) ip_add))) (pss_one (ps_ret (pv 5)))))))), ?_⟩
  exact fun u me => (es_seq (es_if (et_not (et_B ((ev_call (ea_cons ev_var (ea_cons ev_var ea_nil)))).x)) (es_ret (ev_c fun _ => .non)) es_next) (es_seq (es_set (ev_op rop_sub ((ev_prop ev_var)).x ((ev_prop ev_var)).x)) (es_seq (es_parVV (ev_call (ea_cons ev_var (ea_cons ev_var ea_nil))) ev_var) (es_seq (es_set (ev_call (ea_cons ev_var (ea_cons ev_var ea_nil)))) (es_seq (es_for (ei_zp ev_var (ev_lst (el_lst (ea_star ((ev_lst (el_comp (ei_sqX ((ev_sl (ev_var).x (eo_some ((ev_c fun _ => .int _)).x) eo_no)).x) eg_name et_yes (ev_op rop_ix (ev_var).x ((ev_c fun _ => .int _)).x) (by decide)))).x (ea_cons (ev_op rop_add ((ev_prop ev_var)).x ((ev_c fun _ => .int _)).x) ea_nil))))) (gs_tup (gs_cons (gs_tup (gs_cons gs_name (gs_cons gs_name gs_nil)) (gs_len (gs_len gs_len0))) (gs_cons gs_name gs_nil)) (gs_len (gs_len gs_len0))) (es_aug ((ev_op rop_mul ((ev_op rop_sub (ev_var).x (ev_var).x)).x (ev_var).x)).x)) (es_ret ev_var))))))

abbrev st_law : Stmt := topS 72
abbrev N_law : List Str := ["script", "urn", "worse", "got", "due", "good", "size", "many", "one", "other", "near", "far", "shown", "wide", "few", "own"]
theorem sc_law : FnScope N_law ["script"] (C8.fnScope st_law) := C8.fnScope_by (by decide +kernel)
def B_law : DL.Env → T Out := (sSeq (sUnp (fTup (aCons (aFn F__law_take (aCons (fVar 1) (aCons (fC (.int 10)) aNil))) (aCons (aFn F__law_of (aCons (fVar 1) (aCons (fOfL (fLst (aCons (fC (.int 1)) (aCons (fC (.int 2)) (aCons (fC (.int 3)) (aCons (fC (.int 7)) (aCons (fOp addD (fOp powD (fC (.int 10)) (fC (.int 14))) (aFn F__law_take (aCons (fVar 1) (aCons (fC (.int 1000)) aNil)))) aNil))))))) aNil))) aNil))) (gTupD (gsCons (gSet 6) (gsCons (gSet 7) gsNil)))) (sSeq (sParVV 8 9 (aFn F_turns_of (aCons (aFn F__law_heirs (aCons (fVar 1) (aCons (fVar 6) aNil))) aNil)) (aFn F_turns_of (aCons (aFn F__law_heirs (aCons (fVar 1) (aCons (fVar 6) aNil))) aNil))) (sSeq (sParVV 10 11 (aFn F__law_times (aCons (fVar 8) (aCons (fVar 7) aNil))) (aFn F__law_times (aCons (fVar 9) (aCons (fVar 7) aNil)))) (sSeq (sIf (fOr (fNot (fTest (aFn F__law_lone (aCons (fVar 8) (aCons (fVar 7) aNil))))) (fNot (fTest (aFn F__law_lone (aCons (fVar 9) (aCons (fVar 7) aNil)))))) (sRet (fC (.bl false))) sNext) (sSeq (sSet 2 (aFn F_most_worse (aCons (fVar 8) (aCons (fVar 9) aNil)))) (sSeq (sSet 3 (fOfL (fLst (aCons (aFn F_never_worse (aCons (fVar 10) (aCons (fVar 11) aNil))) (aCons (aFn F_never_worse (aCons (fVar 11) (aCons (fVar 10) aNil))) (aCons (aFn F_compare (aCons (fVar 10) (aCons (fVar 11) aNil))) (aCons (aFn F_is_above (aCons (fVar 10) (aCons (fVar 11) aNil))) (aCons (aFn F_most_worse (aCons (fVar 10) (aCons (fVar 11) aNil))) (aCons (aFn F_corners (aCons (fVar 10) (aCons (fVar 11) aNil))) aNil))))))))) (sSeq (sSet 4 (fOfL (fLst (aCons (aFn F_never_worse (aCons (fVar 8) (aCons (fVar 9) aNil))) (aCons (aFn F_never_worse (aCons (fVar 9) (aCons (fVar 8) aNil))) (aCons (aFn F_compare (aCons (fVar 8) (aCons (fVar 9) aNil))) (aCons (aFn F_is_above (aCons (fVar 8) (aCons (fVar 9) aNil))) (aCons (fIf (fTest (fIsN (fVar 2))) (fC .non) (fOp mulD (fVar 2) (fVar 7))) (aCons (fFn tupOfD (fOfL (fComp (iSeq (aFn F_corners (aCons (fVar 8) (aCons (fVar 9) aNil)))) (gSet 15) fYes (fOp mulD (fVar 15) (fVar 7)) [15]))) aNil))))))))) (sSeq (sIf (fNot (fTest (aFn (F__law_same 6) (aCons (fVar 3) (aCons (fVar 4) aNil))))) (sRet (fC (.bl false))) sNext) (sSeq (sParVV 12 13 (aFn F_against (aCons (fVar 8) (aCons (fVar 9) aNil))) (aFn F_against (aCons (fVar 10) (aCons (fVar 11) aNil)))) (sSeq (sIf (fNot (fTest (aFn (F__law_same 6) (aCons (fOfL (fLst (aCons (fIsN (fVar 12)) (aCons (fIsN (fVar 13)) aNil)))) (aCons (fOfL (fLst (aCons (aFn F_never_worse (aCons (fVar 8) (aCons (fVar 9) aNil))) (aCons (aFn F_never_worse (aCons (fVar 8) (aCons (fVar 9) aNil))) aNil)))) aNil))))) (sRet (fC (.bl false))) sNext) (sSeq (sIf (fAnd (fTest (fNotN (fVar 12))) (fNot (fTest (aFn (F__law_same 6) (aCons (fOfL (fLst (aCons (aFn F_is_against (aCons (fVar 10) (aCons (fVar 11) (aCons (fOp mulD (fVar 12) (fVar 7)) aNil)))) (aCons (aFn F_is_against (aCons (fVar 10) (aCons (fVar 11) (aCons (fVar 13) aNil)))) aNil)))) (aCons (fOfL (fLst (aCons (fC (.bl true)) (aCons (fC (.bl true)) aNil)))) aNil)))))) (sRet (fC (.bl false))) sNext) (sSeq (sSetL 5 (fLst (aCons (fOp (ownD 0 F_Turns_eq) (aFn F_above_both (aCons (fVar 10) (aCons (fVar 11) aNil))) (aFn F__law_times (aCons (aFn F_above_both (aCons (fVar 8) (aCons (fVar 9) aNil))) (aCons (fVar 7) aNil)))) (aCons (fOp (ownD 0 F_Turns_eq) (aFn F_below_both (aCons (fVar 10) (aCons (fVar 11) aNil))) (aFn F__law_times (aCons (aFn F_below_both (aCons (fVar 8) (aCons (fVar 9) aNil))) (aCons (fVar 7) aNil)))) aNil)))) (sSeq (sSetL 5 (lCat (fVarX 5) (fOfL (fLst (aCons (fOp (ownD 0 F_Turns_eq) (aFn F_backwards (aCons (fVar 10) aNil)) (aFn F__law_times (aCons (aFn F_backwards (aCons (fVar 8) aNil)) (aCons (fVar 7) aNil)))) (aCons (fOp (ownD 0 F_Turns_eq) (aFn F_swapped (aCons (fVar 10) aNil)) (aFn F__law_times (aCons (aFn F_swapped (aCons (fVar 8) aNil)) (aCons (fVar 7) aNil)))) aNil)))))) (sSeq (sIf (fTest (fOp eqD (fProp 0 F_Turns_hers (fVar 8)) (fProp 0 F_Turns_hers (fVar 9)))) (sSeq (sSet 14 (aFn F_fewest_steps (aCons (fVar 8) (aCons (fVar 9) aNil)))) (sApp 5 (fOp eqD (aFn F_fewest_steps (aCons (fVar 10) (aCons (fVar 11) aNil))) (fIf (fTest (fIsN (fVar 14))) (fC .non) (fOp mulD (fOp mulD (fVar 14) (fVar 7)) (fVar 7)))))) sNext) (sRet (aFn (F__law_same 6) (aCons (fVar 5) (aCons (fOp mulD (fOfL (fLst (aCons (fC (.bl true)) aNil))) (fFn lenD (fVar 5))) aNil))))))))))))))))))
theorem law_rest {P : Program} {w : World} {K : PySem.W.Frag} {mg : Str → Option Value} {base : Heap} {cls : Nat → Addr} (W : Ws K mg cls) (fa : Addr) (cdv : Value) (A : Around) (outer : List PySem.Env) (s : Shared) (H : Hp) (E : XK) (hr : Room 13 (A.deeper (envOfC "law" (C8.fnScope st_law) s.heap.objs.size fa cdv))) :
    ∃ t, PSs (cxOf C8.CX0 P w K mg base N_law "law" (C8.fnScope st_law) fa cdv A outer s H E).nox (C8.fnBody st_law).tail t ∧ ∀ u me, EvS ⟨K, u, cls, me⟩ t B_law := by
  have nd : N_law.Nodup := sc_law.nd
  refine ⟨_, (pss_cons (ps_asg (pe_tupN (pa_cons (C8.pe_c (c__law_take W) hr (by decide) (by rfl) (pa_cons (pv 1) (pa_cons pe_int pa_nil))) (pa_cons (C8.pe_c (c__law_of W) hr (by decide) (by rfl) (pa_cons (pv 1) (pa_cons (pe_lst (pa_cons pe_int (pa_cons pe_int (pa_cons pe_int (pa_cons pe_int (pa_cons (pe_op (op_addK K rfl) (pe_op op_pow pe_int pe_int) (C8.pe_c (c__law_take W) hr (by decide) (by rfl) (pa_cons (pv 1) (pa_cons pe_int pa_nil)))) pa_nil)))))) pa_nil))) pa_nil))) (pg_tupK (n := 2) K rfl rfl (pgs_cons (pg_name (i := 6) nd rfl (Or.inl rfl) (Or.inr rfl)) (pgs_cons (pg_name (i := 7) nd rfl (Or.inr rfl) (Or.inl rfl)) pgs_nil)))) (pss_cons (ps_par (i := 8) (j := 9) rfl nd rfl rfl (by decide) rfl rfl (pa_cons (C8.pe_c (c_turns_of W) hr (by decide) (by rfl) (pa_cons (C8.pe_c (c__law_heirs W) hr (by decide) (by rfl) (pa_cons (pv 1) (pa_cons (pv 6) pa_nil))) pa_nil)) (pa_cons (C8.pe_c (c_turns_of W) hr (by decide) (by rfl) (pa_cons (C8.pe_c (c__law_heirs W) hr (by decide) (by rfl) (pa_cons (pv 1) (pa_cons (pv 6) pa_nil))) pa_nil)) pa_nil)) (by rfl)) (pss_cons (ps_par (i := 10) (j := 11) rfl nd rfl rfl (by decide) rfl rfl (pa_cons (C8.pe_c (c__law_times W) hr (by decide) (by rfl) (pa_cons (pv 8) (pa_cons (pv 7) pa_nil))) (pa_cons (C8.pe_c (c__law_times W) hr (by decide) (by rfl) (pa_cons (pv 9) (pa_cons (pv 7) pa_nil))) pa_nil)) (by rfl)) (pss_cons (ps_if (PW.pt (pw_or (pt_not (pt_val (C8.pe_c (c__law_lone W) hr (by decide) (by rfl) (pa_cons (pv 8) (pa_cons (pv 7) pa_nil))))) (pw_or1 (pt_not (pt_val (C8.pe_c (c__law_lone W) hr (by decide) (by rfl) (pa_cons (pv 9) (pa_cons (pv 7) pa_nil)))))))) (pss_one (ps_ret pe_bl)) pss_nil) (pss_cons (ps_set (i := 2) nd rfl (Or.inl rfl) (C8.pe_c (c_most_worse W) hr (by decide) (by rfl) (pa_cons (pv 8) (pa_cons (pv 9) pa_nil)))) (pss_cons (ps_set (i := 3) nd rfl (Or.inl rfl) (pe_lst (pa_cons (C8.pe_c (c_never_worse W) hr (by decide) (by rfl) (pa_cons (pv 10) (pa_cons (pv 11) pa_nil))) (pa_cons (C8.pe_c (c_never_worse W) hr (by decide) (by rfl) (pa_cons (pv 11) (pa_cons (pv 10) pa_nil))) (pa_cons (C8.pe_c (c_compare W) hr (by decide) (by rfl) (pa_cons (pv 10) (pa_cons (pv 11) pa_nil))) (pa_cons (C8.pe_c (c_is_above W) hr (by decide) (by rfl) (pa_cons (pv 10) (pa_cons (pv 11) pa_nil))) (pa_cons (C8.pe_c (c_most_worse W) hr (by decide) (by rfl) (pa_cons (pv 10) (pa_cons (pv 11) pa_nil))) (pa_cons (C8.pe_c (c_corners W) hr (by decide) (by rfl) (pa_cons (pv 10) (pa_cons (pv 11) pa_nil))) pa_nil)))))))) (pss_cons (ps_set (i := 4) nd rfl (Or.inl rfl) (pe_lst (pa_cons (C8.pe_c (c_never_worse W) hr (by decide) (by rfl) (pa_cons (pv 8) (pa_cons (pv 9) pa_nil))) (pa_cons (C8.pe_c (c_never_worse W) hr (by decide) (by rfl) (pa_cons (pv 9) (pa_cons (pv 8) pa_nil))) (pa_cons (C8.pe_c (c_compare W) hr (by decide) (by rfl) (pa_cons (pv 8) (pa_cons (pv 9) pa_nil))) (pa_cons (C8.pe_c (c_is_above W) hr (by decide) (by rfl) (pa_cons (pv 8) (pa_cons (pv 9) pa_nil))) (pa_cons (pe_ifExp (pt_cmp (pc_isN (pv 2))) pe_non (pe_op op_mulD (pv 2) (pv 7))) (pa_cons (pe_tupleK K rfl (by rfl) W.z_tuple (pe_lc (by rfl) nd (pi_sqK K rfl (C8.pe_c (c_corners W) hr (by decide) (by rfl) (pa_cons (pv 8) (pa_cons (pv 9) pa_nil)))) (blkOk_by (N := N_law) (sc := C8.fnScope st_law) (own := [("own", 15)]) (by decide +kernel)) (fun _ _ _ _ _ => (pg_name (i := 15) nd rfl (Or.inl rfl) (Or.inr rfl))) (fun _ _ _ _ _ => pts_nil) (fun _ _ _ _ _ => (pe_op op_mulD (pv 15) (pv 7))))) pa_nil)))))))) (pss_cons (ps_if (pt_not (pt_val (C8.pe_c (c__law_same W 6) hr (by decide) (by rfl) (pa_cons (pv 3) (pa_cons (pv 4) pa_nil))))) (pss_one (ps_ret pe_bl)) pss_nil) (pss_cons (ps_par (i := 12) (j := 13) rfl nd rfl rfl (by decide) rfl rfl (pa_cons (C8.pe_c (c_against W) hr (by decide) (by rfl) (pa_cons (pv 8) (pa_cons (pv 9) pa_nil))) (pa_cons (C8.pe_c (c_against W) hr (by decide) (by rfl) (pa_cons (pv 10) (pa_cons (pv 11) pa_nil))) pa_nil)) (by rfl)) (pss_cons (ps_if (pt_not (pt_val (C8.pe_c (c__law_same W 6) hr (by decide) (by rfl) (pa_cons (pe_lst (pa_cons (pe_cmp (pc_isN (pv 12))) (pa_cons (pe_cmp (pc_isN (pv 13))) pa_nil))) (pa_cons (pe_lst (pa_cons (C8.pe_c (c_never_worse W) hr (by decide) (by rfl) (pa_cons (pv 8) (pa_cons (pv 9) pa_nil))) (pa_cons (C8.pe_c (c_never_worse W) hr (by decide) (by rfl) (pa_cons (pv 8) (pa_cons (pv 9) pa_nil))) pa_nil))) pa_nil))))) (pss_one (ps_ret pe_bl)) pss_nil) (pss_cons (ps_if (PW.pt (pw_and (pt_cmp (pc_notN (pv 12))) (pw_and1 (pt_not (pt_val (C8.pe_c (c__law_same W 6) hr (by decide) (by rfl) (pa_cons (pe_lst (pa_cons (C8.pe_c (c_is_against W) hr (by decide) (by rfl) (pa_cons (pv 10) (pa_cons (pv 11) (pa_cons (pe_op op_mulD (pv 12) (pv 7)) pa_nil)))) (pa_cons (C8.pe_c (c_is_against W) hr (by decide) (by rfl) (pa_cons (pv 10) (pa_cons (pv 11) (pa_cons (pv 13) pa_nil)))) pa_nil))) (pa_cons (pe_lst (pa_cons pe_bl (pa_cons pe_bl pa_nil))) pa_nil)))))))) (pss_one (ps_ret pe_bl)) pss_nil) (pss_cons (ps_set (i := 5) nd rfl (Or.inl rfl) (pe_lst (pa_cons (pe_cmpR (op_ownEq rfl (c_Turns_eq W) hr (by decide)) (C8.pe_c (c_above_both W) hr (by decide) (by rfl) (pa_cons (pv 10) (pa_cons (pv 11) pa_nil))) (C8.pe_c (c__law_times W) hr (by decide) (by rfl) (pa_cons (C8.pe_c (c_above_both W) hr (by decide) (by rfl) (pa_cons (pv 8) (pa_cons (pv 9) pa_nil))) (pa_cons (pv 7) pa_nil))) (nomark _)) (pa_cons (pe_cmpR (op_ownEq rfl (c_Turns_eq W) hr (by decide)) (C8.pe_c (c_below_both W) hr (by decide) (by rfl) (pa_cons (pv 10) (pa_cons (pv 11) pa_nil))) (C8.pe_c (c__law_times W) hr (by decide) (by rfl) (pa_cons (C8.pe_c (c_below_both W) hr (by decide) (by rfl) (pa_cons (pv 8) (pa_cons (pv 9) pa_nil))) (pa_cons (pv 7) pa_nil))) (nomark _)) pa_nil)))) (pss_cons (ps_set (i := 5) nd rfl (Or.inl rfl) (pe_op (op_addK K rfl) (pv 5) (pe_lst (pa_cons (pe_cmpR (op_ownEq rfl (c_Turns_eq W) hr (by decide)) (C8.pe_c (c_backwards W) hr (by decide) (by rfl) (pa_cons (pv 10) pa_nil)) (C8.pe_c (c__law_times W) hr (by decide) (by rfl) (pa_cons (C8.pe_c (c_backwards W) hr (by decide) (by rfl) (pa_cons (pv 8) pa_nil)) (pa_cons (pv 7) pa_nil))) (nomark _)) (pa_cons (pe_cmpR (op_ownEq rfl (c_Turns_eq W) hr (by decide)) (C8.pe_c (c_swapped W) hr (by decide) (by rfl) (pa_cons (pv 10) pa_nil)) (C8.pe_c (c__law_times W) hr (by decide) (by rfl) (pa_cons (C8.pe_c (c_swapped W) hr (by decide) (by rfl) (pa_cons (pv 8) pa_nil)) (pa_cons (pv 7) pa_nil))) (nomark _)) pa_nil))))) (pss_cons (ps_if (pt_cmpR (op_eqK K rfl (hu64 hr)) (pe_pr (c_Turns_hers W) (pv 8) hr (by decide)) (pe_pr (c_Turns_hers W) (pv 9) hr (by decide)) (nomark _)) (pss_cons (ps_set (i := 14) nd rfl (Or.inl rfl) (C8.pe_c (c_fewest_steps W) hr (by decide) (by rfl) (pa_cons (pv 8) (pa_cons (pv 9) pa_nil)))) (pss_one (ps_expr (pe_bm PySem.F.plainAttrs_list PySem.F.slot_list_append PySem.F.type_list_append mt_append (pv 5) (pa_cons (pe_cmpR (op_eqK K rfl (hu64 hr)) (C8.pe_c (c_fewest_steps W) hr (by decide) (by rfl) (pa_cons (pv 10) (pa_cons (pv 11) pa_nil))) (pe_ifExp (pt_cmp (pc_isN (pv 14))) pe_non (pe_op op_mulD (pe_op op_mulD (pv 14) (pv 7)) (pv 7))) (nomark _)) pa_nil))))) pss_nil) (pss_one (ps_ret (C8.pe_c (c__law_same W 6) hr (by decide) (by rfl) (pa_cons (pv 5) (pa_cons (pe_op op_mulD (pe_lst (pa_cons pe_bl pa_nil)) (pe_callB (call_lenK K rfl) (by rfl) W.z_len bt_len (pa_cons (pv 5) pa_nil))) pa_nil))))))))))))))))))), ?_⟩
  exact fun u me => (es_seq (es_unp (ev_tup (ea_cons (ev_call (ea_cons ev_var (ea_cons (ev_c fun _ => .int _) ea_nil))) (ea_cons (ev_call (ea_cons ev_var (ea_cons (ev_lst (el_lst (ea_cons (ev_c fun _ => .int _) (ea_cons (ev_c fun _ => .int _) (ea_cons (ev_c fun _ => .int _) (ea_cons (ev_c fun _ => .int _) (ea_cons (ev_op rop_add ((ev_op rop_pow ((ev_c fun _ => .int _)).x ((ev_c fun _ => .int _)).x)).x ((ev_call (ea_cons ev_var (ea_cons (ev_c fun _ => .int _) ea_nil)))).x) ea_nil))))))) ea_nil))) ea_nil))) (gs_tup (gs_cons gs_name (gs_cons gs_name gs_nil)) (gs_len (gs_len gs_len0)))) (es_seq (es_parVV (ev_call (ea_cons (ev_call (ea_cons ev_var (ea_cons ev_var ea_nil))) ea_nil)) (ev_call (ea_cons (ev_call (ea_cons ev_var (ea_cons ev_var ea_nil))) ea_nil))) (es_seq (es_parVV (ev_call (ea_cons ev_var (ea_cons ev_var ea_nil))) (ev_call (ea_cons ev_var (ea_cons ev_var ea_nil)))) (es_seq (es_if (et_or (et_not (et_B ((ev_call (ea_cons ev_var (ea_cons ev_var ea_nil)))).x)) (et_not (et_B ((ev_call (ea_cons ev_var (ea_cons ev_var ea_nil)))).x))) (es_ret (ev_c fun _ => .bl _)) es_next) (es_seq (es_set (ev_call (ea_cons ev_var (ea_cons ev_var ea_nil)))) (es_seq (es_set (ev_lst (el_lst (ea_cons (ev_call (ea_cons ev_var (ea_cons ev_var ea_nil))) (ea_cons (ev_call (ea_cons ev_var (ea_cons ev_var ea_nil))) (ea_cons (ev_call (ea_cons ev_var (ea_cons ev_var ea_nil))) (ea_cons (ev_call (ea_cons ev_var (ea_cons ev_var ea_nil))) (ea_cons (ev_call (ea_cons ev_var (ea_cons ev_var ea_nil))) (ea_cons (ev_call (ea_cons ev_var (ea_cons ev_var ea_nil))) ea_nil))))))))) (es_seq (es_set (ev_lst (el_lst (ea_cons (ev_call (ea_cons ev_var (ea_cons ev_var ea_nil))) (ea_cons (ev_call (ea_cons ev_var (ea_cons ev_var ea_nil))) (ea_cons (ev_call (ea_cons ev_var (ea_cons ev_var ea_nil))) (ea_cons (ev_call (ea_cons ev_var (ea_cons ev_var ea_nil))) (ea_cons (ev_if (et_B (ev_isN (ev_var).x).x) (ev_c fun _ => .non) (ev_op rop_mul (ev_var).x (ev_var).x)) (ea_cons (ev_then rb_tup ((ev_lst (el_comp (ei_sqX ((ev_call (ea_cons ev_var (ea_cons ev_var ea_nil)))).x) eg_name et_yes (ev_op rop_mul (ev_var).x (ev_var).x) (by decide)))).x) ea_nil))))))))) (es_seq (es_if (et_not (et_B ((ev_call (ea_cons ev_var (ea_cons ev_var ea_nil)))).x)) (es_ret (ev_c fun _ => .bl _)) es_next) (es_seq (es_parVV (ev_call (ea_cons ev_var (ea_cons ev_var ea_nil))) (ev_call (ea_cons ev_var (ea_cons ev_var ea_nil)))) (es_seq (es_if (et_not (et_B ((ev_call (ea_cons (ev_lst (el_lst (ea_cons (ev_isN (ev_var).x) (ea_cons (ev_isN (ev_var).x) ea_nil)))) (ea_cons (ev_lst (el_lst (ea_cons (ev_call (ea_cons ev_var (ea_cons ev_var ea_nil))) (ea_cons (ev_call (ea_cons ev_var (ea_cons ev_var ea_nil))) ea_nil)))) ea_nil)))).x)) (es_ret (ev_c fun _ => .bl _)) es_next) (es_seq (es_if (et_and (et_B (ev_notN (ev_var).x).x) (et_not (et_B ((ev_call (ea_cons (ev_lst (el_lst (ea_cons (ev_call (ea_cons ev_var (ea_cons ev_var (ea_cons (ev_op rop_mul (ev_var).x (ev_var).x) ea_nil)))) (ea_cons (ev_call (ea_cons ev_var (ea_cons ev_var (ea_cons ev_var ea_nil)))) ea_nil)))) (ea_cons (ev_lst (el_lst (ea_cons (ev_c fun _ => .bl _) (ea_cons (ev_c fun _ => .bl _) ea_nil)))) ea_nil)))).x))) (es_ret (ev_c fun _ => .bl _)) es_next) (es_seq (es_setL (el_lst (ea_cons (ev_op rop_own ((ev_call (ea_cons ev_var (ea_cons ev_var ea_nil)))).x ((ev_call (ea_cons (ev_call (ea_cons ev_var (ea_cons ev_var ea_nil))) (ea_cons ev_var ea_nil)))).x) (ea_cons (ev_op rop_own ((ev_call (ea_cons ev_var (ea_cons ev_var ea_nil)))).x ((ev_call (ea_cons (ev_call (ea_cons ev_var (ea_cons ev_var ea_nil))) (ea_cons ev_var ea_nil)))).x) ea_nil)))) (es_seq (es_setL (el_cat ev_varX ((ev_lst (el_lst (ea_cons (ev_op rop_own ((ev_call (ea_cons ev_var ea_nil))).x ((ev_call (ea_cons (ev_call (ea_cons ev_var ea_nil)) (ea_cons ev_var ea_nil)))).x) (ea_cons (ev_op rop_own ((ev_call (ea_cons ev_var ea_nil))).x ((ev_call (ea_cons (ev_call (ea_cons ev_var ea_nil)) (ea_cons ev_var ea_nil)))).x) ea_nil))))).x)) (es_seq (es_if (et_test (ev_op rop_eq ((ev_prop ev_var)).x ((ev_prop ev_var)).x).x) (es_seq (es_set (ev_call (ea_cons ev_var (ea_cons ev_var ea_nil)))) (es_app (ev_op rop_eq ((ev_call (ea_cons ev_var (ea_cons ev_var ea_nil)))).x ((ev_if (et_B (ev_isN (ev_var).x).x) (ev_c fun _ => .non) (ev_op rop_mul ((ev_op rop_mul (ev_var).x (ev_var).x)).x (ev_var).x))).x))) es_next) (es_ret (ev_call (ea_cons ev_var (ea_cons (ev_op rop_mul ((ev_lst (el_lst (ea_cons (ev_c fun _ => .bl _) ea_nil)))).x ((ev_fn rb_len (ev_var).x)).x) ea_nil))))))))))))))))))
theorem c_law {P : Program} {w : World} {K : PySem.W.Frag} {mg : Str → Option Value} {base : Heap} {cls : Nat → Addr} (W : Ws K mg cls) {f : Addr} {fd : FuncData} (F : C8.Def K mg "law" st_law f fd) (says : Says B_law 14) : FnOk P w K mg base C8.CX0 14 f fd ["script"] (spLaw K) := by
  refine C8.fn0 F.fn sc_law (fun vs H Q E h => law_len h) fun cdv A outer s H vs Q E hr h => ?_
  obtain ⟨t, h1, h2⟩ := law_rest (P := P) (w := w) (base := base) W f cdv A outer s H E hr
  have nd : N_law.Nodup := sc_law.nd
  refine ⟨_, pss_cons (ps_set (i := 1) nd rfl (Or.inl rfl) (C8.pe_c (c__law_box W) hr (by decide) (by rfl) (pa_cons (C8.pe_c (c__law_cells W) hr (by decide) (by rfl) (pa_cons (pv 0) (pa_cons pe_int pa_nil))) (pa_cons pe_int pa_nil)))) h1, ?_⟩
  exact law_run h2 says h
end LW
end

section
set_option maxRecDepth 100000
open PySem PySem.Spec PyProof.Rows L2 DR DL
open LW in
set_option maxHeartbeats 0 in
theorem LW.all_mk {P : Program} {w : World} {K : PySem.W.Frag} {h : Heap} {mg : Str → Option Value} {fa : Addr} {C_Turns : Addr}
  {p_own_ends : Addr}
  {p_own_runs : Addr}
  {T_HEIRS_turns : Addr} {n_HEIRS_turns : Nat} {sl_HEIRS_turns : Array (Option Value)} {t0_HEIRS_turns t1_HEIRS_turns : Tok}
  {f__law_of : Addr} {oc__law_of kV__law_of dc__law_of pm__law_of cd__law_of ct__law_of : Value} {od__law_of an__law_of : Option Addr} {sl__law_of : Array (Option Value)}
  {f_tupled : Addr} {oc_tupled kV_tupled dc_tupled pm_tupled cd_tupled ct_tupled : Value} {od_tupled an_tupled : Option Addr} {sl_tupled : Array (Option Value)}
  {f_joined_runs : Addr} {oc_joined_runs kV_joined_runs dc_joined_runs pm_joined_runs cd_joined_runs ct_joined_runs : Value} {od_joined_runs an_joined_runs : Option Addr} {sl_joined_runs : Array (Option Value)}
  {f_ends_of : Addr} {oc_ends_of kV_ends_of dc_ends_of pm_ends_of cd_ends_of ct_ends_of : Value} {od_ends_of an_ends_of : Option Addr} {sl_ends_of : Array (Option Value)}
  {f_Turns_init : Addr} {oc_Turns_init kV_Turns_init dc_Turns_init pm_Turns_init cd_Turns_init ct_Turns_init : Value} {od_Turns_init an_Turns_init : Option Addr} {sl_Turns_init : Array (Option Value)}
  {T_Turns_init : Addr} {cT_Turns_init : Value} {dT_Turns_init : Option Addr} {mT_Turns_init : Nat} {sT_Turns_init : Array (Option Value)} {v0_Turns_init : Value}
  {f_turns_of : Addr} {oc_turns_of kV_turns_of dc_turns_of pm_turns_of cd_turns_of ct_turns_of : Value} {od_turns_of an_turns_of : Option Addr} {sl_turns_of : Array (Option Value)}
  {f__law_heirs : Addr} {oc__law_heirs kV__law_heirs dc__law_heirs pm__law_heirs cd__law_heirs ct__law_heirs : Value} {od__law_heirs an__law_heirs : Option Addr} {sl__law_heirs : Array (Option Value)}
  {f_Turns_runs : Addr} {oc_Turns_runs kV_Turns_runs dc_Turns_runs pm_Turns_runs cd_Turns_runs ct_Turns_runs : Value} {od_Turns_runs an_Turns_runs : Option Addr} {sl_Turns_runs : Array (Option Value)}
  {p_Turns_runs : Addr} {r_Turns_runs : List Value}
  {f__law_times : Addr} {oc__law_times kV__law_times dc__law_times pm__law_times cd__law_times ct__law_times : Value} {od__law_times an__law_times : Option Addr} {sl__law_times : Array (Option Value)}
  {f_Turns_size : Addr} {oc_Turns_size kV_Turns_size dc_Turns_size pm_Turns_size cd_Turns_size ct_Turns_size : Value} {od_Turns_size an_Turns_size : Option Addr} {sl_Turns_size : Array (Option Value)}
  {p_Turns_size : Addr} {r_Turns_size : List Value}
  {f_Turns_ends : Addr} {oc_Turns_ends kV_Turns_ends dc_Turns_ends pm_Turns_ends cd_Turns_ends ct_Turns_ends : Value} {od_Turns_ends an_Turns_ends : Option Addr} {sl_Turns_ends : Array (Option Value)}
  {p_Turns_ends : Addr} {r_Turns_ends : List Value}
  {f_ahead : Addr} {oc_ahead kV_ahead dc_ahead pm_ahead cd_ahead ct_ahead : Value} {od_ahead an_ahead : Option Addr} {sl_ahead : Array (Option Value)}
  {f_lead : Addr} {oc_lead kV_lead dc_lead pm_lead cd_lead ct_lead : Value} {od_lead an_lead : Option Addr} {sl_lead : Array (Option Value)}
  {f_swapped : Addr} {oc_swapped kV_swapped dc_swapped pm_swapped cd_swapped ct_swapped : Value} {od_swapped an_swapped : Option Addr} {sl_swapped : Array (Option Value)}
  {f_lag : Addr} {oc_lag kV_lag dc_lag pm_lag cd_lag ct_lag : Value} {od_lag an_lag : Option Addr} {sl_lag : Array (Option Value)}
  {f_never_behind : Addr} {oc_never_behind kV_never_behind dc_never_behind pm_never_behind cd_never_behind ct_never_behind : Value} {od_never_behind an_never_behind : Option Addr} {sl_never_behind : Array (Option Value)}
  {f_most_gain : Addr} {oc_most_gain kV_most_gain dc_most_gain pm_most_gain cd_most_gain ct_most_gain : Value} {od_most_gain an_most_gain : Option Addr} {sl_most_gain : Array (Option Value)}
  {f_spread : Addr} {oc_spread kV_spread dc_spread pm_spread cd_spread ct_spread : Value} {od_spread an_spread : Option Addr} {sl_spread : Array (Option Value)}
  {f_Turns_his : Addr} {oc_Turns_his kV_Turns_his dc_Turns_his pm_Turns_his cd_Turns_his ct_Turns_his : Value} {od_Turns_his an_Turns_his : Option Addr} {sl_Turns_his : Array (Option Value)}
  {p_Turns_his : Addr} {r_Turns_his : List Value}
  {f_Turns_hers : Addr} {oc_Turns_hers kV_Turns_hers dc_Turns_hers pm_Turns_hers cd_Turns_hers ct_Turns_hers : Value} {od_Turns_hers an_Turns_hers : Option Addr} {sl_Turns_hers : Array (Option Value)}
  {p_Turns_hers : Addr} {r_Turns_hers : List Value}
  {f__law_same : Addr} {oc__law_same kV__law_same dc__law_same pm__law_same cd__law_same ct__law_same : Value} {od__law_same an__law_same : Option Addr} {sl__law_same : Array (Option Value)}
  {f_behind_at : Addr} {oc_behind_at kV_behind_at dc_behind_at pm_behind_at cd_behind_at ct_behind_at : Value} {od_behind_at an_behind_at : Option Addr} {sl_behind_at : Array (Option Value)}
  {f_place_sum : Addr} {oc_place_sum kV_place_sum dc_place_sum pm_place_sum cd_place_sum ct_place_sum : Value} {od_place_sum an_place_sum : Option Addr} {sl_place_sum : Array (Option Value)}
  {f_place_sums : Addr} {oc_place_sums kV_place_sums dc_place_sums pm_place_sums cd_place_sums ct_place_sums : Value} {od_place_sums an_place_sums : Option Addr} {sl_place_sums : Array (Option Value)}
  {f_set_of : Addr} {oc_set_of kV_set_of dc_set_of pm_set_of cd_set_of ct_set_of : Value} {od_set_of an_set_of : Option Addr} {sl_set_of : Array (Option Value)}
  {f_begins : Addr} {oc_begins kV_begins dc_begins pm_begins cd_begins ct_begins : Value} {od_begins an_begins : Option Addr} {sl_begins : Array (Option Value)}
  {f_place_of : Addr} {oc_place_of kV_place_of dc_place_of pm_place_of cd_place_of ct_place_of : Value} {od_place_of an_place_of : Option Addr} {sl_place_of : Array (Option Value)}
  {f_turn_of : Addr} {oc_turn_of kV_turn_of dc_turn_of pm_turn_of cd_turn_of ct_turn_of : Value} {od_turn_of an_turn_of : Option Addr} {sl_turn_of : Array (Option Value)}
  {f_his_turn_of : Addr} {oc_his_turn_of kV_his_turn_of dc_his_turn_of pm_his_turn_of cd_his_turn_of ct_his_turn_of : Value} {od_his_turn_of an_his_turn_of : Option Addr} {sl_his_turn_of : Array (Option Value)}
  {f_most_apart : Addr} {oc_most_apart kV_most_apart dc_most_apart pm_most_apart cd_most_apart ct_most_apart : Value} {od_most_apart an_most_apart : Option Addr} {sl_most_apart : Array (Option Value)}
  {f_height : Addr} {oc_height kV_height dc_height pm_height cd_height ct_height : Value} {od_height an_height : Option Addr} {sl_height : Array (Option Value)}
  {f__law_lone : Addr} {oc__law_lone kV__law_lone dc__law_lone pm__law_lone cd__law_lone ct__law_lone : Value} {od__law_lone an__law_lone : Option Addr} {sl__law_lone : Array (Option Value)}
  {f_check_size : Addr} {oc_check_size kV_check_size dc_check_size pm_check_size cd_check_size ct_check_size : Value} {od_check_size an_check_size : Option Addr} {sl_check_size : Array (Option Value)}
  {f_ways_later : Addr} {oc_ways_later kV_ways_later dc_ways_later pm_ways_later cd_ways_later ct_ways_later : Value} {od_ways_later an_ways_later : Option Addr} {sl_ways_later : Array (Option Value)}
  {f_most_worse : Addr} {oc_most_worse kV_most_worse dc_most_worse pm_most_worse cd_most_worse ct_most_worse : Value} {od_most_worse an_most_worse : Option Addr} {sl_most_worse : Array (Option Value)}
  {f_corners : Addr} {oc_corners kV_corners dc_corners pm_corners cd_corners ct_corners : Value} {od_corners an_corners : Option Addr} {sl_corners : Array (Option Value)}
  {f_is_above : Addr} {oc_is_above kV_is_above dc_is_above pm_is_above cd_is_above ct_is_above : Value} {od_is_above an_is_above : Option Addr} {sl_is_above : Array (Option Value)}
  {f_against : Addr} {oc_against kV_against dc_against pm_against cd_against ct_against : Value} {od_against an_against : Option Addr} {sl_against : Array (Option Value)}
  {f_never_worse : Addr} {oc_never_worse kV_never_worse dc_never_worse pm_never_worse cd_never_worse ct_never_worse : Value} {od_never_worse an_never_worse : Option Addr} {sl_never_worse : Array (Option Value)}
  {f_compare : Addr} {oc_compare kV_compare dc_compare pm_compare cd_compare ct_compare : Value} {od_compare an_compare : Option Addr} {sl_compare : Array (Option Value)}
  {f_is_number : Addr} {oc_is_number kV_is_number dc_is_number pm_is_number cd_is_number ct_is_number : Value} {od_is_number an_is_number : Option Addr} {sl_is_number : Array (Option Value)}
  {f_is_against : Addr} {oc_is_against kV_is_against dc_is_against pm_is_against cd_is_against ct_is_against : Value} {od_is_against an_is_against : Option Addr} {sl_is_against : Array (Option Value)}
  {f_Turns_eq : Addr} {oc_Turns_eq kV_Turns_eq dc_Turns_eq pm_Turns_eq cd_Turns_eq ct_Turns_eq : Value} {od_Turns_eq an_Turns_eq : Option Addr} {sl_Turns_eq : Array (Option Value)}
  {f_Turns_getitem : Addr} {oc_Turns_getitem kV_Turns_getitem dc_Turns_getitem pm_Turns_getitem cd_Turns_getitem ct_Turns_getitem : Value} {od_Turns_getitem an_Turns_getitem : Option Addr} {sl_Turns_getitem : Array (Option Value)}
  {f_runs_above : Addr} {oc_runs_above kV_runs_above dc_runs_above pm_runs_above cd_runs_above ct_runs_above : Value} {od_runs_above an_runs_above : Option Addr} {sl_runs_above : Array (Option Value)}
  {f_below_both : Addr} {oc_below_both kV_below_both dc_below_both pm_below_both cd_below_both ct_below_both : Value} {od_below_both an_below_both : Option Addr} {sl_below_both : Array (Option Value)}
  {f_above_both : Addr} {oc_above_both kV_above_both dc_above_both pm_above_both cd_above_both ct_above_both : Value} {od_above_both an_above_both : Option Addr} {sl_above_both : Array (Option Value)}
  {f_backwards : Addr} {oc_backwards kV_backwards dc_backwards pm_backwards cd_backwards ct_backwards : Value} {od_backwards an_backwards : Option Addr} {sl_backwards : Array (Option Value)}
  {f_granted : Addr} {oc_granted kV_granted dc_granted pm_granted cd_granted ct_granted : Value} {od_granted an_granted : Option Addr} {sl_granted : Array (Option Value)}
  {f_fewest_steps : Addr} {oc_fewest_steps kV_fewest_steps dc_fewest_steps pm_fewest_steps cd_fewest_steps ct_fewest_steps : Value} {od_fewest_steps an_fewest_steps : Option Addr} {sl_fewest_steps : Array (Option Value)}
  {f_law : Addr} {oc_law kV_law dc_law pm_law cd_law ct_law : Value} {od_law an_law : Option Addr} {sl_law : Array (Option Value)}
  {f__law_box : Addr} {oc__law_box kV__law_box dc__law_box pm__law_box cd__law_box ct__law_box : Value} {od__law_box an__law_box : Option Addr} {sl__law_box : Array (Option Value)}
  {f__law_cells : Addr} {oc__law_cells kV__law_cells dc__law_cells pm__law_cells cd__law_cells ct__law_cells : Value} {od__law_cells an__law_cells : Option Addr} {sl__law_cells : Array (Option Value)}
  {f__law_take : Addr} {oc__law_take kV__law_take dc__law_take pm__law_take cd__law_take ct__law_take : Value} {od__law_take an__law_take : Option Addr} {sl__law_take : Array (Option Value)}
  (X : K.In h) (G : h.Ns mainGlobals mg) (hfa : mg "law" = some (.ref fa))
  (a_Turns : PySem.W.nsIn K mainGlobals "Turns" = some (some (.ref C_Turns)))
  (spg_Turns : PySem.W.plainGet K C_Turns Str.empty = true)
  (sic_Turns : PySem.W.isClsIn K C_Turns = true)
  (spo_Turns : PySem.W.plainOver K C_Turns = true)
  (ssa_Turns : PySem.W.findIn K (.ref C_Turns) "__setattr__" = some (some (.builtin "object.__setattr__")))
  (z_abs : PySem.W.nsIn K mainGlobals "abs" = some none)
  (z_all : PySem.W.nsIn K mainGlobals "all" = some none)
  (z_bool : PySem.W.nsIn K mainGlobals "bool" = some none)
  (z_enumerate : PySem.W.nsIn K mainGlobals "enumerate" = some none)
  (z_int : PySem.W.nsIn K mainGlobals "int" = some none)
  (z_isinstance : PySem.W.nsIn K mainGlobals "isinstance" = some none)
  (z_len : PySem.W.nsIn K mainGlobals "len" = some none)
  (z_list : PySem.W.nsIn K mainGlobals "list" = some none)
  (z_max : PySem.W.nsIn K mainGlobals "max" = some none)
  (z_min : PySem.W.nsIn K mainGlobals "min" = some none)
  (z_range : PySem.W.nsIn K mainGlobals "range" = some none)
  (z_set : PySem.W.nsIn K mainGlobals "set" = some none)
  (z_sorted : PySem.W.nsIn K mainGlobals "sorted" = some none)
  (z_str : PySem.W.nsIn K mainGlobals "str" = some none)
  (z_sum : PySem.W.nsIn K mainGlobals "sum" = some none)
  (z_tuple : PySem.W.nsIn K mainGlobals "tuple" = some none)
  (z_zip : PySem.W.nsIn K mainGlobals "zip" = some none)
  (f1_own_ends : PySem.W.findIn K (.ref C_Turns) "own_ends" = some (some (.ref p_own_ends)))
  (f2_own_ends : PySem.W.specialIn K (.ref p_own_ends) "__get__" = some (some (.builtin "member_descriptor.__get__")))
  (f3_own_ends : PySem.W.takesIn K (.ref p_own_ends) = some true)
  (f4_own_ends : PySem.W.typeIn K (.ref p_own_ends) = some (.type "member_descriptor"))
  (f5_own_ends : PySem.W.slotIn K p_own_ends C_Turns = some 0)
  (f1_own_runs : PySem.W.findIn K (.ref C_Turns) "own_runs" = some (some (.ref p_own_runs)))
  (f2_own_runs : PySem.W.specialIn K (.ref p_own_runs) "__get__" = some (some (.builtin "member_descriptor.__get__")))
  (f3_own_runs : PySem.W.takesIn K (.ref p_own_runs) = some true)
  (f4_own_runs : PySem.W.typeIn K (.ref p_own_runs) = some (.type "member_descriptor"))
  (f5_own_runs : PySem.W.slotIn K p_own_runs C_Turns = some 1)
  (i1_Turns : PySem.W.findIn K (.ref C_Turns) "__class__" = some (some (.builtin "object.__class__")))
  (i2_Turns : PySem.W.specialIn K (.builtin "object.__class__") "__get__" = some (some (.builtin "getset_descriptor.__get__")))
  (i3_Turns : PySem.W.takesIn K (.builtin "object.__class__") = some true)
  (i4_Turns : PySem.W.mroIn K C_Turns (.type "object") = some true)
  (g1_HEIRS_turns : PySem.W.nsIn K mainGlobals "HEIRS_turns" = some (some (.ref T_HEIRS_turns)))
  (g2_HEIRS_turns : K.lookup T_HEIRS_turns = some ⟨.type "tuple", none, .seq ([Value.str (PySem.Str.ofString "a") t0_HEIRS_turns, Value.str (PySem.Str.ofString "b") t1_HEIRS_turns] : List Value).toArray n_HEIRS_turns, sl_HEIRS_turns⟩)
  (a__law_of : PySem.W.nsIn K mainGlobals "_law_of" = some (some (.ref f__law_of)))
  (l__law_of : K.lookup f__law_of = some ⟨oc__law_of, od__law_of, .func (PySem.W.fnOf "_law_of" "_law_of" (C8.fnArgs st__law_of) (C8.fnBody st__law_of) (C8.fnScope st__law_of) .none kV__law_of dc__law_of pm__law_of an__law_of cd__law_of ct__law_of), sl__law_of⟩)
  (c__law_of : PySem.W.codeIn K cd__law_of "_law_of" = true)
  (k__law_of : PySem.W.keepIn K (.ref f__law_of) = true)
  (a_tupled : PySem.W.nsIn K mainGlobals "tupled" = some (some (.ref f_tupled)))
  (l_tupled : K.lookup f_tupled = some ⟨oc_tupled, od_tupled, .func (PySem.W.fnOf "tupled" "tupled" (C8.fnArgs st_tupled) (C8.fnBody st_tupled) (C8.fnScope st_tupled) .none kV_tupled dc_tupled pm_tupled an_tupled cd_tupled ct_tupled), sl_tupled⟩)
  (c_tupled : PySem.W.codeIn K cd_tupled "tupled" = true)
  (k_tupled : PySem.W.keepIn K (.ref f_tupled) = true)
  (a_joined_runs : PySem.W.nsIn K mainGlobals "joined_runs" = some (some (.ref f_joined_runs)))
  (l_joined_runs : K.lookup f_joined_runs = some ⟨oc_joined_runs, od_joined_runs, .func (PySem.W.fnOf "joined_runs" "joined_runs" (C8.fnArgs st_joined_runs) (C8.fnBody st_joined_runs) (C8.fnScope st_joined_runs) .none kV_joined_runs dc_joined_runs pm_joined_runs an_joined_runs cd_joined_runs ct_joined_runs), sl_joined_runs⟩)
  (c_joined_runs : PySem.W.codeIn K cd_joined_runs "joined_runs" = true)
  (k_joined_runs : PySem.W.keepIn K (.ref f_joined_runs) = true)
  (a_ends_of : PySem.W.nsIn K mainGlobals "ends_of" = some (some (.ref f_ends_of)))
  (l_ends_of : K.lookup f_ends_of = some ⟨oc_ends_of, od_ends_of, .func (PySem.W.fnOf "ends_of" "ends_of" (C8.fnArgs st_ends_of) (C8.fnBody st_ends_of) (C8.fnScope st_ends_of) .none kV_ends_of dc_ends_of pm_ends_of an_ends_of cd_ends_of ct_ends_of), sl_ends_of⟩)
  (c_ends_of : PySem.W.codeIn K cd_ends_of "ends_of" = true)
  (k_ends_of : PySem.W.keepIn K (.ref f_ends_of) = true)
  (m1_Turns_init : PySem.W.makesIn K C_Turns = true)
  (m2_Turns_init : PySem.W.findIn K (.ref C_Turns) "__init__" = some (some (.ref f_Turns_init)))
  (m3_Turns_init : PySem.W.isFn K (.ref f_Turns_init) = true)
  (m4_Turns_init : PySem.W.keepIn K (.ref C_Turns) = true)
  (l_Turns_init : K.lookup f_Turns_init = some ⟨oc_Turns_init, od_Turns_init, .func (PySem.W.fnOf "__init__" "Turns.__init__" (C8.fnArgs st_Turns_init) (C8.fnBody st_Turns_init) (C8.fnScope st_Turns_init) (.ref T_Turns_init) kV_Turns_init dc_Turns_init pm_Turns_init an_Turns_init cd_Turns_init ct_Turns_init), sl_Turns_init⟩)
  (c_Turns_init : PySem.W.codeIn K cd_Turns_init "Turns.__init__" = true)
  (lT_Turns_init : K.lookup T_Turns_init = some ⟨cT_Turns_init, dT_Turns_init, .seq ([v0_Turns_init] : List Value).toArray mT_Turns_init, sT_Turns_init⟩)
  (a_turns_of : PySem.W.nsIn K mainGlobals "turns_of" = some (some (.ref f_turns_of)))
  (l_turns_of : K.lookup f_turns_of = some ⟨oc_turns_of, od_turns_of, .func (PySem.W.fnOf "turns_of" "turns_of" (C8.fnArgs st_turns_of) (C8.fnBody st_turns_of) (C8.fnScope st_turns_of) .none kV_turns_of dc_turns_of pm_turns_of an_turns_of cd_turns_of ct_turns_of), sl_turns_of⟩)
  (c_turns_of : PySem.W.codeIn K cd_turns_of "turns_of" = true)
  (k_turns_of : PySem.W.keepIn K (.ref f_turns_of) = true)
  (a__law_heirs : PySem.W.nsIn K mainGlobals "_law_heirs" = some (some (.ref f__law_heirs)))
  (l__law_heirs : K.lookup f__law_heirs = some ⟨oc__law_heirs, od__law_heirs, .func (PySem.W.fnOf "_law_heirs" "_law_heirs" (C8.fnArgs st__law_heirs) (C8.fnBody st__law_heirs) (C8.fnScope st__law_heirs) .none kV__law_heirs dc__law_heirs pm__law_heirs an__law_heirs cd__law_heirs ct__law_heirs), sl__law_heirs⟩)
  (c__law_heirs : PySem.W.codeIn K cd__law_heirs "_law_heirs" = true)
  (k__law_heirs : PySem.W.keepIn K (.ref f__law_heirs) = true)
  (p1_Turns_runs : PySem.W.findIn K (.ref C_Turns) "runs" = some (some (.ref p_Turns_runs)))
  (p2_Turns_runs : PySem.W.specialIn K (.ref p_Turns_runs) "__get__" = some (some (.builtin "property.__get__")))
  (p3_Turns_runs : PySem.W.takesIn K (.ref p_Turns_runs) = some true)
  (p4_Turns_runs : PySem.W.recIn K p_Turns_runs "property" = some (.ref f_Turns_runs :: r_Turns_runs))
  (l_Turns_runs : K.lookup f_Turns_runs = some ⟨oc_Turns_runs, od_Turns_runs, .func (PySem.W.fnOf "runs" "Turns.runs" (C8.fnArgs st_Turns_runs) (C8.fnBody st_Turns_runs) (C8.fnScope st_Turns_runs) .none kV_Turns_runs dc_Turns_runs pm_Turns_runs an_Turns_runs cd_Turns_runs ct_Turns_runs), sl_Turns_runs⟩)
  (c_Turns_runs : PySem.W.codeIn K cd_Turns_runs "Turns.runs" = true)
  (a__law_times : PySem.W.nsIn K mainGlobals "_law_times" = some (some (.ref f__law_times)))
  (l__law_times : K.lookup f__law_times = some ⟨oc__law_times, od__law_times, .func (PySem.W.fnOf "_law_times" "_law_times" (C8.fnArgs st__law_times) (C8.fnBody st__law_times) (C8.fnScope st__law_times) .none kV__law_times dc__law_times pm__law_times an__law_times cd__law_times ct__law_times), sl__law_times⟩)
  (c__law_times : PySem.W.codeIn K cd__law_times "_law_times" = true)
  (k__law_times : PySem.W.keepIn K (.ref f__law_times) = true)
  (p1_Turns_size : PySem.W.findIn K (.ref C_Turns) "size" = some (some (.ref p_Turns_size)))
  (p2_Turns_size : PySem.W.specialIn K (.ref p_Turns_size) "__get__" = some (some (.builtin "property.__get__")))
  (p3_Turns_size : PySem.W.takesIn K (.ref p_Turns_size) = some true)
  (p4_Turns_size : PySem.W.recIn K p_Turns_size "property" = some (.ref f_Turns_size :: r_Turns_size))
  (l_Turns_size : K.lookup f_Turns_size = some ⟨oc_Turns_size, od_Turns_size, .func (PySem.W.fnOf "size" "Turns.size" (C8.fnArgs st_Turns_size) (C8.fnBody st_Turns_size) (C8.fnScope st_Turns_size) .none kV_Turns_size dc_Turns_size pm_Turns_size an_Turns_size cd_Turns_size ct_Turns_size), sl_Turns_size⟩)
  (c_Turns_size : PySem.W.codeIn K cd_Turns_size "Turns.size" = true)
  (p1_Turns_ends : PySem.W.findIn K (.ref C_Turns) "ends" = some (some (.ref p_Turns_ends)))
  (p2_Turns_ends : PySem.W.specialIn K (.ref p_Turns_ends) "__get__" = some (some (.builtin "property.__get__")))
  (p3_Turns_ends : PySem.W.takesIn K (.ref p_Turns_ends) = some true)
  (p4_Turns_ends : PySem.W.recIn K p_Turns_ends "property" = some (.ref f_Turns_ends :: r_Turns_ends))
  (l_Turns_ends : K.lookup f_Turns_ends = some ⟨oc_Turns_ends, od_Turns_ends, .func (PySem.W.fnOf "ends" "Turns.ends" (C8.fnArgs st_Turns_ends) (C8.fnBody st_Turns_ends) (C8.fnScope st_Turns_ends) .none kV_Turns_ends dc_Turns_ends pm_Turns_ends an_Turns_ends cd_Turns_ends ct_Turns_ends), sl_Turns_ends⟩)
  (c_Turns_ends : PySem.W.codeIn K cd_Turns_ends "Turns.ends" = true)
  (a_ahead : PySem.W.nsIn K mainGlobals "ahead" = some (some (.ref f_ahead)))
  (l_ahead : K.lookup f_ahead = some ⟨oc_ahead, od_ahead, .func (PySem.W.fnOf "ahead" "ahead" (C8.fnArgs st_ahead) (C8.fnBody st_ahead) (C8.fnScope st_ahead) .none kV_ahead dc_ahead pm_ahead an_ahead cd_ahead ct_ahead), sl_ahead⟩)
  (c_ahead : PySem.W.codeIn K cd_ahead "ahead" = true)
  (k_ahead : PySem.W.keepIn K (.ref f_ahead) = true)
  (a_lead : PySem.W.nsIn K mainGlobals "lead" = some (some (.ref f_lead)))
  (l_lead : K.lookup f_lead = some ⟨oc_lead, od_lead, .func (PySem.W.fnOf "lead" "lead" (C8.fnArgs st_lead) (C8.fnBody st_lead) (C8.fnScope st_lead) .none kV_lead dc_lead pm_lead an_lead cd_lead ct_lead), sl_lead⟩)
  (c_lead : PySem.W.codeIn K cd_lead "lead" = true)
  (k_lead : PySem.W.keepIn K (.ref f_lead) = true)
  (a_swapped : PySem.W.nsIn K mainGlobals "swapped" = some (some (.ref f_swapped)))
  (l_swapped : K.lookup f_swapped = some ⟨oc_swapped, od_swapped, .func (PySem.W.fnOf "swapped" "swapped" (C8.fnArgs st_swapped) (C8.fnBody st_swapped) (C8.fnScope st_swapped) .none kV_swapped dc_swapped pm_swapped an_swapped cd_swapped ct_swapped), sl_swapped⟩)
  (c_swapped : PySem.W.codeIn K cd_swapped "swapped" = true)
  (k_swapped : PySem.W.keepIn K (.ref f_swapped) = true)
  (a_lag : PySem.W.nsIn K mainGlobals "lag" = some (some (.ref f_lag)))
  (l_lag : K.lookup f_lag = some ⟨oc_lag, od_lag, .func (PySem.W.fnOf "lag" "lag" (C8.fnArgs st_lag) (C8.fnBody st_lag) (C8.fnScope st_lag) .none kV_lag dc_lag pm_lag an_lag cd_lag ct_lag), sl_lag⟩)
  (c_lag : PySem.W.codeIn K cd_lag "lag" = true)
  (k_lag : PySem.W.keepIn K (.ref f_lag) = true)
  (a_never_behind : PySem.W.nsIn K mainGlobals "never_behind" = some (some (.ref f_never_behind)))
  (l_never_behind : K.lookup f_never_behind = some ⟨oc_never_behind, od_never_behind, .func (PySem.W.fnOf "never_behind" "never_behind" (C8.fnArgs st_never_behind) (C8.fnBody st_never_behind) (C8.fnScope st_never_behind) .none kV_never_behind dc_never_behind pm_never_behind an_never_behind cd_never_behind ct_never_behind), sl_never_behind⟩)
  (c_never_behind : PySem.W.codeIn K cd_never_behind "never_behind" = true)
  (k_never_behind : PySem.W.keepIn K (.ref f_never_behind) = true)
  (a_most_gain : PySem.W.nsIn K mainGlobals "most_gain" = some (some (.ref f_most_gain)))
  (l_most_gain : K.lookup f_most_gain = some ⟨oc_most_gain, od_most_gain, .func (PySem.W.fnOf "most_gain" "most_gain" (C8.fnArgs st_most_gain) (C8.fnBody st_most_gain) (C8.fnScope st_most_gain) .none kV_most_gain dc_most_gain pm_most_gain an_most_gain cd_most_gain ct_most_gain), sl_most_gain⟩)
  (c_most_gain : PySem.W.codeIn K cd_most_gain "most_gain" = true)
  (k_most_gain : PySem.W.keepIn K (.ref f_most_gain) = true)
  (a_spread : PySem.W.nsIn K mainGlobals "spread" = some (some (.ref f_spread)))
  (l_spread : K.lookup f_spread = some ⟨oc_spread, od_spread, .func (PySem.W.fnOf "spread" "spread" (C8.fnArgs st_spread) (C8.fnBody st_spread) (C8.fnScope st_spread) .none kV_spread dc_spread pm_spread an_spread cd_spread ct_spread), sl_spread⟩)
  (c_spread : PySem.W.codeIn K cd_spread "spread" = true)
  (k_spread : PySem.W.keepIn K (.ref f_spread) = true)
  (p1_Turns_his : PySem.W.findIn K (.ref C_Turns) "his" = some (some (.ref p_Turns_his)))
  (p2_Turns_his : PySem.W.specialIn K (.ref p_Turns_his) "__get__" = some (some (.builtin "property.__get__")))
  (p3_Turns_his : PySem.W.takesIn K (.ref p_Turns_his) = some true)
  (p4_Turns_his : PySem.W.recIn K p_Turns_his "property" = some (.ref f_Turns_his :: r_Turns_his))
  (l_Turns_his : K.lookup f_Turns_his = some ⟨oc_Turns_his, od_Turns_his, .func (PySem.W.fnOf "his" "Turns.his" (C8.fnArgs st_Turns_his) (C8.fnBody st_Turns_his) (C8.fnScope st_Turns_his) .none kV_Turns_his dc_Turns_his pm_Turns_his an_Turns_his cd_Turns_his ct_Turns_his), sl_Turns_his⟩)
  (c_Turns_his : PySem.W.codeIn K cd_Turns_his "Turns.his" = true)
  (p1_Turns_hers : PySem.W.findIn K (.ref C_Turns) "hers" = some (some (.ref p_Turns_hers)))
  (p2_Turns_hers : PySem.W.specialIn K (.ref p_Turns_hers) "__get__" = some (some (.builtin "property.__get__")))
  (p3_Turns_hers : PySem.W.takesIn K (.ref p_Turns_hers) = some true)
  (p4_Turns_hers : PySem.W.recIn K p_Turns_hers "property" = some (.ref f_Turns_hers :: r_Turns_hers))
  (l_Turns_hers : K.lookup f_Turns_hers = some ⟨oc_Turns_hers, od_Turns_hers, .func (PySem.W.fnOf "hers" "Turns.hers" (C8.fnArgs st_Turns_hers) (C8.fnBody st_Turns_hers) (C8.fnScope st_Turns_hers) .none kV_Turns_hers dc_Turns_hers pm_Turns_hers an_Turns_hers cd_Turns_hers ct_Turns_hers), sl_Turns_hers⟩)
  (c_Turns_hers : PySem.W.codeIn K cd_Turns_hers "Turns.hers" = true)
  (a__law_same : PySem.W.nsIn K mainGlobals "_law_same" = some (some (.ref f__law_same)))
  (l__law_same : K.lookup f__law_same = some ⟨oc__law_same, od__law_same, .func (PySem.W.fnOf "_law_same" "_law_same" (C8.fnArgs st__law_same) (C8.fnBody st__law_same) (C8.fnScope st__law_same) .none kV__law_same dc__law_same pm__law_same an__law_same cd__law_same ct__law_same), sl__law_same⟩)
  (c__law_same : PySem.W.codeIn K cd__law_same "_law_same" = true)
  (k__law_same : PySem.W.keepIn K (.ref f__law_same) = true)
  (a_behind_at : PySem.W.nsIn K mainGlobals "behind_at" = some (some (.ref f_behind_at)))
  (l_behind_at : K.lookup f_behind_at = some ⟨oc_behind_at, od_behind_at, .func (PySem.W.fnOf "behind_at" "behind_at" (C8.fnArgs st_behind_at) (C8.fnBody st_behind_at) (C8.fnScope st_behind_at) .none kV_behind_at dc_behind_at pm_behind_at an_behind_at cd_behind_at ct_behind_at), sl_behind_at⟩)
  (c_behind_at : PySem.W.codeIn K cd_behind_at "behind_at" = true)
  (k_behind_at : PySem.W.keepIn K (.ref f_behind_at) = true)
  (a_place_sum : PySem.W.nsIn K mainGlobals "place_sum" = some (some (.ref f_place_sum)))
  (l_place_sum : K.lookup f_place_sum = some ⟨oc_place_sum, od_place_sum, .func (PySem.W.fnOf "place_sum" "place_sum" (C8.fnArgs st_place_sum) (C8.fnBody st_place_sum) (C8.fnScope st_place_sum) .none kV_place_sum dc_place_sum pm_place_sum an_place_sum cd_place_sum ct_place_sum), sl_place_sum⟩)
  (c_place_sum : PySem.W.codeIn K cd_place_sum "place_sum" = true)
  (k_place_sum : PySem.W.keepIn K (.ref f_place_sum) = true)
  (a_place_sums : PySem.W.nsIn K mainGlobals "place_sums" = some (some (.ref f_place_sums)))
  (l_place_sums : K.lookup f_place_sums = some ⟨oc_place_sums, od_place_sums, .func (PySem.W.fnOf "place_sums" "place_sums" (C8.fnArgs st_place_sums) (C8.fnBody st_place_sums) (C8.fnScope st_place_sums) .none kV_place_sums dc_place_sums pm_place_sums an_place_sums cd_place_sums ct_place_sums), sl_place_sums⟩)
  (c_place_sums : PySem.W.codeIn K cd_place_sums "place_sums" = true)
  (k_place_sums : PySem.W.keepIn K (.ref f_place_sums) = true)
  (a_set_of : PySem.W.nsIn K mainGlobals "set_of" = some (some (.ref f_set_of)))
  (l_set_of : K.lookup f_set_of = some ⟨oc_set_of, od_set_of, .func (PySem.W.fnOf "set_of" "set_of" (C8.fnArgs st_set_of) (C8.fnBody st_set_of) (C8.fnScope st_set_of) .none kV_set_of dc_set_of pm_set_of an_set_of cd_set_of ct_set_of), sl_set_of⟩)
  (c_set_of : PySem.W.codeIn K cd_set_of "set_of" = true)
  (k_set_of : PySem.W.keepIn K (.ref f_set_of) = true)
  (a_begins : PySem.W.nsIn K mainGlobals "begins" = some (some (.ref f_begins)))
  (l_begins : K.lookup f_begins = some ⟨oc_begins, od_begins, .func (PySem.W.fnOf "begins" "begins" (C8.fnArgs st_begins) (C8.fnBody st_begins) (C8.fnScope st_begins) .none kV_begins dc_begins pm_begins an_begins cd_begins ct_begins), sl_begins⟩)
  (c_begins : PySem.W.codeIn K cd_begins "begins" = true)
  (k_begins : PySem.W.keepIn K (.ref f_begins) = true)
  (a_place_of : PySem.W.nsIn K mainGlobals "place_of" = some (some (.ref f_place_of)))
  (l_place_of : K.lookup f_place_of = some ⟨oc_place_of, od_place_of, .func (PySem.W.fnOf "place_of" "place_of" (C8.fnArgs st_place_of) (C8.fnBody st_place_of) (C8.fnScope st_place_of) .none kV_place_of dc_place_of pm_place_of an_place_of cd_place_of ct_place_of), sl_place_of⟩)
  (c_place_of : PySem.W.codeIn K cd_place_of "place_of" = true)
  (k_place_of : PySem.W.keepIn K (.ref f_place_of) = true)
  (a_turn_of : PySem.W.nsIn K mainGlobals "turn_of" = some (some (.ref f_turn_of)))
  (l_turn_of : K.lookup f_turn_of = some ⟨oc_turn_of, od_turn_of, .func (PySem.W.fnOf "turn_of" "turn_of" (C8.fnArgs st_turn_of) (C8.fnBody st_turn_of) (C8.fnScope st_turn_of) .none kV_turn_of dc_turn_of pm_turn_of an_turn_of cd_turn_of ct_turn_of), sl_turn_of⟩)
  (c_turn_of : PySem.W.codeIn K cd_turn_of "turn_of" = true)
  (k_turn_of : PySem.W.keepIn K (.ref f_turn_of) = true)
  (a_his_turn_of : PySem.W.nsIn K mainGlobals "his_turn_of" = some (some (.ref f_his_turn_of)))
  (l_his_turn_of : K.lookup f_his_turn_of = some ⟨oc_his_turn_of, od_his_turn_of, .func (PySem.W.fnOf "his_turn_of" "his_turn_of" (C8.fnArgs st_his_turn_of) (C8.fnBody st_his_turn_of) (C8.fnScope st_his_turn_of) .none kV_his_turn_of dc_his_turn_of pm_his_turn_of an_his_turn_of cd_his_turn_of ct_his_turn_of), sl_his_turn_of⟩)
  (c_his_turn_of : PySem.W.codeIn K cd_his_turn_of "his_turn_of" = true)
  (k_his_turn_of : PySem.W.keepIn K (.ref f_his_turn_of) = true)
  (a_most_apart : PySem.W.nsIn K mainGlobals "most_apart" = some (some (.ref f_most_apart)))
  (l_most_apart : K.lookup f_most_apart = some ⟨oc_most_apart, od_most_apart, .func (PySem.W.fnOf "most_apart" "most_apart" (C8.fnArgs st_most_apart) (C8.fnBody st_most_apart) (C8.fnScope st_most_apart) .none kV_most_apart dc_most_apart pm_most_apart an_most_apart cd_most_apart ct_most_apart), sl_most_apart⟩)
  (c_most_apart : PySem.W.codeIn K cd_most_apart "most_apart" = true)
  (k_most_apart : PySem.W.keepIn K (.ref f_most_apart) = true)
  (a_height : PySem.W.nsIn K mainGlobals "height" = some (some (.ref f_height)))
  (l_height : K.lookup f_height = some ⟨oc_height, od_height, .func (PySem.W.fnOf "height" "height" (C8.fnArgs st_height) (C8.fnBody st_height) (C8.fnScope st_height) .none kV_height dc_height pm_height an_height cd_height ct_height), sl_height⟩)
  (c_height : PySem.W.codeIn K cd_height "height" = true)
  (k_height : PySem.W.keepIn K (.ref f_height) = true)
  (a__law_lone : PySem.W.nsIn K mainGlobals "_law_lone" = some (some (.ref f__law_lone)))
  (l__law_lone : K.lookup f__law_lone = some ⟨oc__law_lone, od__law_lone, .func (PySem.W.fnOf "_law_lone" "_law_lone" (C8.fnArgs st__law_lone) (C8.fnBody st__law_lone) (C8.fnScope st__law_lone) .none kV__law_lone dc__law_lone pm__law_lone an__law_lone cd__law_lone ct__law_lone), sl__law_lone⟩)
  (c__law_lone : PySem.W.codeIn K cd__law_lone "_law_lone" = true)
  (k__law_lone : PySem.W.keepIn K (.ref f__law_lone) = true)
  (a_check_size : PySem.W.nsIn K mainGlobals "check_size" = some (some (.ref f_check_size)))
  (l_check_size : K.lookup f_check_size = some ⟨oc_check_size, od_check_size, .func (PySem.W.fnOf "check_size" "check_size" (C8.fnArgs st_check_size) (C8.fnBody st_check_size) (C8.fnScope st_check_size) .none kV_check_size dc_check_size pm_check_size an_check_size cd_check_size ct_check_size), sl_check_size⟩)
  (c_check_size : PySem.W.codeIn K cd_check_size "check_size" = true)
  (k_check_size : PySem.W.keepIn K (.ref f_check_size) = true)
  (a_ways_later : PySem.W.nsIn K mainGlobals "ways_later" = some (some (.ref f_ways_later)))
  (l_ways_later : K.lookup f_ways_later = some ⟨oc_ways_later, od_ways_later, .func (PySem.W.fnOf "ways_later" "ways_later" (C8.fnArgs st_ways_later) (C8.fnBody st_ways_later) (C8.fnScope st_ways_later) .none kV_ways_later dc_ways_later pm_ways_later an_ways_later cd_ways_later ct_ways_later), sl_ways_later⟩)
  (c_ways_later : PySem.W.codeIn K cd_ways_later "ways_later" = true)
  (k_ways_later : PySem.W.keepIn K (.ref f_ways_later) = true)
  (a_most_worse : PySem.W.nsIn K mainGlobals "most_worse" = some (some (.ref f_most_worse)))
  (l_most_worse : K.lookup f_most_worse = some ⟨oc_most_worse, od_most_worse, .func (PySem.W.fnOf "most_worse" "most_worse" (C8.fnArgs st_most_worse) (C8.fnBody st_most_worse) (C8.fnScope st_most_worse) .none kV_most_worse dc_most_worse pm_most_worse an_most_worse cd_most_worse ct_most_worse), sl_most_worse⟩)
  (c_most_worse : PySem.W.codeIn K cd_most_worse "most_worse" = true)
  (k_most_worse : PySem.W.keepIn K (.ref f_most_worse) = true)
  (a_corners : PySem.W.nsIn K mainGlobals "corners" = some (some (.ref f_corners)))
  (l_corners : K.lookup f_corners = some ⟨oc_corners, od_corners, .func (PySem.W.fnOf "corners" "corners" (C8.fnArgs st_corners) (C8.fnBody st_corners) (C8.fnScope st_corners) .none kV_corners dc_corners pm_corners an_corners cd_corners ct_corners), sl_corners⟩)
  (c_corners : PySem.W.codeIn K cd_corners "corners" = true)
  (k_corners : PySem.W.keepIn K (.ref f_corners) = true)
  (a_is_above : PySem.W.nsIn K mainGlobals "is_above" = some (some (.ref f_is_above)))
  (l_is_above : K.lookup f_is_above = some ⟨oc_is_above, od_is_above, .func (PySem.W.fnOf "is_above" "is_above" (C8.fnArgs st_is_above) (C8.fnBody st_is_above) (C8.fnScope st_is_above) .none kV_is_above dc_is_above pm_is_above an_is_above cd_is_above ct_is_above), sl_is_above⟩)
  (c_is_above : PySem.W.codeIn K cd_is_above "is_above" = true)
  (k_is_above : PySem.W.keepIn K (.ref f_is_above) = true)
  (a_against : PySem.W.nsIn K mainGlobals "against" = some (some (.ref f_against)))
  (l_against : K.lookup f_against = some ⟨oc_against, od_against, .func (PySem.W.fnOf "against" "against" (C8.fnArgs st_against) (C8.fnBody st_against) (C8.fnScope st_against) .none kV_against dc_against pm_against an_against cd_against ct_against), sl_against⟩)
  (c_against : PySem.W.codeIn K cd_against "against" = true)
  (k_against : PySem.W.keepIn K (.ref f_against) = true)
  (a_never_worse : PySem.W.nsIn K mainGlobals "never_worse" = some (some (.ref f_never_worse)))
  (l_never_worse : K.lookup f_never_worse = some ⟨oc_never_worse, od_never_worse, .func (PySem.W.fnOf "never_worse" "never_worse" (C8.fnArgs st_never_worse) (C8.fnBody st_never_worse) (C8.fnScope st_never_worse) .none kV_never_worse dc_never_worse pm_never_worse an_never_worse cd_never_worse ct_never_worse), sl_never_worse⟩)
  (c_never_worse : PySem.W.codeIn K cd_never_worse "never_worse" = true)
  (k_never_worse : PySem.W.keepIn K (.ref f_never_worse) = true)
  (a_compare : PySem.W.nsIn K mainGlobals "compare" = some (some (.ref f_compare)))
  (l_compare : K.lookup f_compare = some ⟨oc_compare, od_compare, .func (PySem.W.fnOf "compare" "compare" (C8.fnArgs st_compare) (C8.fnBody st_compare) (C8.fnScope st_compare) .none kV_compare dc_compare pm_compare an_compare cd_compare ct_compare), sl_compare⟩)
  (c_compare : PySem.W.codeIn K cd_compare "compare" = true)
  (k_compare : PySem.W.keepIn K (.ref f_compare) = true)
  (a_is_number : PySem.W.nsIn K mainGlobals "is_number" = some (some (.ref f_is_number)))
  (l_is_number : K.lookup f_is_number = some ⟨oc_is_number, od_is_number, .func (PySem.W.fnOf "is_number" "is_number" (C8.fnArgs st_is_number) (C8.fnBody st_is_number) (C8.fnScope st_is_number) .none kV_is_number dc_is_number pm_is_number an_is_number cd_is_number ct_is_number), sl_is_number⟩)
  (c_is_number : PySem.W.codeIn K cd_is_number "is_number" = true)
  (k_is_number : PySem.W.keepIn K (.ref f_is_number) = true)
  (a_is_against : PySem.W.nsIn K mainGlobals "is_against" = some (some (.ref f_is_against)))
  (l_is_against : K.lookup f_is_against = some ⟨oc_is_against, od_is_against, .func (PySem.W.fnOf "is_against" "is_against" (C8.fnArgs st_is_against) (C8.fnBody st_is_against) (C8.fnScope st_is_against) .none kV_is_against dc_is_against pm_is_against an_is_against cd_is_against ct_is_against), sl_is_against⟩)
  (c_is_against : PySem.W.codeIn K cd_is_against "is_against" = true)
  (k_is_against : PySem.W.keepIn K (.ref f_is_against) = true)
  (t1_Turns_eq : PySem.W.findIn K (.ref C_Turns) "__eq__" = some (some (.ref f_Turns_eq)))
  (t2_Turns_eq : PySem.W.isFn K (.ref f_Turns_eq) = true)
  (t3_Turns_eq : PySem.W.fnIn K f_Turns_eq = true)
  (l_Turns_eq : K.lookup f_Turns_eq = some ⟨oc_Turns_eq, od_Turns_eq, .func (PySem.W.fnOf "__eq__" "Turns.__eq__" (C8.fnArgs st_Turns_eq) (C8.fnBody st_Turns_eq) (C8.fnScope st_Turns_eq) .none kV_Turns_eq dc_Turns_eq pm_Turns_eq an_Turns_eq cd_Turns_eq ct_Turns_eq), sl_Turns_eq⟩)
  (c_Turns_eq : PySem.W.codeIn K cd_Turns_eq "Turns.__eq__" = true)
  (t1_Turns_getitem : PySem.W.findIn K (.ref C_Turns) "__getitem__" = some (some (.ref f_Turns_getitem)))
  (t2_Turns_getitem : PySem.W.isFn K (.ref f_Turns_getitem) = true)
  (t3_Turns_getitem : PySem.W.fnIn K f_Turns_getitem = true)
  (l_Turns_getitem : K.lookup f_Turns_getitem = some ⟨oc_Turns_getitem, od_Turns_getitem, .func (PySem.W.fnOf "__getitem__" "Turns.__getitem__" (C8.fnArgs st_Turns_getitem) (C8.fnBody st_Turns_getitem) (C8.fnScope st_Turns_getitem) .none kV_Turns_getitem dc_Turns_getitem pm_Turns_getitem an_Turns_getitem cd_Turns_getitem ct_Turns_getitem), sl_Turns_getitem⟩)
  (c_Turns_getitem : PySem.W.codeIn K cd_Turns_getitem "Turns.__getitem__" = true)
  (a_runs_above : PySem.W.nsIn K mainGlobals "runs_above" = some (some (.ref f_runs_above)))
  (l_runs_above : K.lookup f_runs_above = some ⟨oc_runs_above, od_runs_above, .func (PySem.W.fnOf "runs_above" "runs_above" (C8.fnArgs st_runs_above) (C8.fnBody st_runs_above) (C8.fnScope st_runs_above) .none kV_runs_above dc_runs_above pm_runs_above an_runs_above cd_runs_above ct_runs_above), sl_runs_above⟩)
  (c_runs_above : PySem.W.codeIn K cd_runs_above "runs_above" = true)
  (k_runs_above : PySem.W.keepIn K (.ref f_runs_above) = true)
  (a_below_both : PySem.W.nsIn K mainGlobals "below_both" = some (some (.ref f_below_both)))
  (l_below_both : K.lookup f_below_both = some ⟨oc_below_both, od_below_both, .func (PySem.W.fnOf "below_both" "below_both" (C8.fnArgs st_below_both) (C8.fnBody st_below_both) (C8.fnScope st_below_both) .none kV_below_both dc_below_both pm_below_both an_below_both cd_below_both ct_below_both), sl_below_both⟩)
  (c_below_both : PySem.W.codeIn K cd_below_both "below_both" = true)
  (k_below_both : PySem.W.keepIn K (.ref f_below_both) = true)
  (a_above_both : PySem.W.nsIn K mainGlobals "above_both" = some (some (.ref f_above_both)))
  (l_above_both : K.lookup f_above_both = some ⟨oc_above_both, od_above_both, .func (PySem.W.fnOf "above_both" "above_both" (C8.fnArgs st_above_both) (C8.fnBody st_above_both) (C8.fnScope st_above_both) .none kV_above_both dc_above_both pm_above_both an_above_both cd_above_both ct_above_both), sl_above_both⟩)
  (c_above_both : PySem.W.codeIn K cd_above_both "above_both" = true)
  (k_above_both : PySem.W.keepIn K (.ref f_above_both) = true)
  (a_backwards : PySem.W.nsIn K mainGlobals "backwards" = some (some (.ref f_backwards)))
  (l_backwards : K.lookup f_backwards = some ⟨oc_backwards, od_backwards, .func (PySem.W.fnOf "backwards" "backwards" (C8.fnArgs st_backwards) (C8.fnBody st_backwards) (C8.fnScope st_backwards) .none kV_backwards dc_backwards pm_backwards an_backwards cd_backwards ct_backwards), sl_backwards⟩)
  (c_backwards : PySem.W.codeIn K cd_backwards "backwards" = true)
  (k_backwards : PySem.W.keepIn K (.ref f_backwards) = true)
  (a_granted : PySem.W.nsIn K mainGlobals "granted" = some (some (.ref f_granted)))
  (l_granted : K.lookup f_granted = some ⟨oc_granted, od_granted, .func (PySem.W.fnOf "granted" "granted" (C8.fnArgs st_granted) (C8.fnBody st_granted) (C8.fnScope st_granted) .none kV_granted dc_granted pm_granted an_granted cd_granted ct_granted), sl_granted⟩)
  (c_granted : PySem.W.codeIn K cd_granted "granted" = true)
  (k_granted : PySem.W.keepIn K (.ref f_granted) = true)
  (a_fewest_steps : PySem.W.nsIn K mainGlobals "fewest_steps" = some (some (.ref f_fewest_steps)))
  (l_fewest_steps : K.lookup f_fewest_steps = some ⟨oc_fewest_steps, od_fewest_steps, .func (PySem.W.fnOf "fewest_steps" "fewest_steps" (C8.fnArgs st_fewest_steps) (C8.fnBody st_fewest_steps) (C8.fnScope st_fewest_steps) .none kV_fewest_steps dc_fewest_steps pm_fewest_steps an_fewest_steps cd_fewest_steps ct_fewest_steps), sl_fewest_steps⟩)
  (c_fewest_steps : PySem.W.codeIn K cd_fewest_steps "fewest_steps" = true)
  (k_fewest_steps : PySem.W.keepIn K (.ref f_fewest_steps) = true)
  (a_law : PySem.W.nsIn K mainGlobals "law" = some (some (.ref f_law)))
  (l_law : K.lookup f_law = some ⟨oc_law, od_law, .func (PySem.W.fnOf "law" "law" (C8.fnArgs st_law) (C8.fnBody st_law) (C8.fnScope st_law) .none kV_law dc_law pm_law an_law cd_law ct_law), sl_law⟩)
  (c_law : PySem.W.codeIn K cd_law "law" = true)
  (k_law : PySem.W.keepIn K (.ref f_law) = true)
  (a__law_box : PySem.W.nsIn K mainGlobals "_law_box" = some (some (.ref f__law_box)))
  (l__law_box : K.lookup f__law_box = some ⟨oc__law_box, od__law_box, .func (PySem.W.fnOf "_law_box" "_law_box" (C8.fnArgs st__law_box) (C8.fnBody st__law_box) (C8.fnScope st__law_box) .none kV__law_box dc__law_box pm__law_box an__law_box cd__law_box ct__law_box), sl__law_box⟩)
  (c__law_box : PySem.W.codeIn K cd__law_box "_law_box" = true)
  (k__law_box : PySem.W.keepIn K (.ref f__law_box) = true)
  (a__law_cells : PySem.W.nsIn K mainGlobals "_law_cells" = some (some (.ref f__law_cells)))
  (l__law_cells : K.lookup f__law_cells = some ⟨oc__law_cells, od__law_cells, .func (PySem.W.fnOf "_law_cells" "_law_cells" (C8.fnArgs st__law_cells) (C8.fnBody st__law_cells) (C8.fnScope st__law_cells) .none kV__law_cells dc__law_cells pm__law_cells an__law_cells cd__law_cells ct__law_cells), sl__law_cells⟩)
  (c__law_cells : PySem.W.codeIn K cd__law_cells "_law_cells" = true)
  (k__law_cells : PySem.W.keepIn K (.ref f__law_cells) = true)
  (a__law_take : PySem.W.nsIn K mainGlobals "_law_take" = some (some (.ref f__law_take)))
  (l__law_take : K.lookup f__law_take = some ⟨oc__law_take, od__law_take, .func (PySem.W.fnOf "_law_take" "_law_take" (C8.fnArgs st__law_take) (C8.fnBody st__law_take) (C8.fnScope st__law_take) .none kV__law_take dc__law_take pm__law_take an__law_take cd__law_take ct__law_take), sl__law_take⟩)
  (c__law_take : PySem.W.codeIn K cd__law_take "_law_take" = true)
  (k__law_take : PySem.W.keepIn K (.ref f__law_take) = true)
  (says : Says B_law 14) :
  ∃ fd : FuncData, (∀ (s : Shared) (v : Value), BindsTo s fd ⟨[v], []⟩ [("script", v)]) ∧ ∀ base : Heap, K.In base → base.Ns mainGlobals mg → FnOk P w K mg base C8.CX0 14 fa fd ["script"] (spLaw K) := by
  have W : Ws K mg (fun _ => C_Turns) := {
    s_Turns := ⟨spg_Turns, sic_Turns, spo_Turns, ssa_Turns⟩,
    z_abs := PySem.W.mg_none_of X G z_abs,
    z_all := PySem.W.mg_none_of X G z_all,
    z_bool := PySem.W.mg_none_of X G z_bool,
    z_enumerate := PySem.W.mg_none_of X G z_enumerate,
    z_int := PySem.W.mg_none_of X G z_int,
    z_isinstance := PySem.W.mg_none_of X G z_isinstance,
    z_len := PySem.W.mg_none_of X G z_len,
    z_list := PySem.W.mg_none_of X G z_list,
    z_max := PySem.W.mg_none_of X G z_max,
    z_min := PySem.W.mg_none_of X G z_min,
    z_range := PySem.W.mg_none_of X G z_range,
    z_set := PySem.W.mg_none_of X G z_set,
    z_sorted := PySem.W.mg_none_of X G z_sorted,
    z_str := PySem.W.mg_none_of X G z_str,
    z_sum := PySem.W.mg_none_of X G z_sum,
    z_tuple := PySem.W.mg_none_of X G z_tuple,
    z_zip := PySem.W.mg_none_of X G z_zip,
    fl_own_ends := fld_mk ⟨spg_Turns, sic_Turns, spo_Turns, ssa_Turns⟩ f1_own_ends f2_own_ends f3_own_ends f4_own_ends f5_own_ends,
    fl_own_runs := fld_mk ⟨spg_Turns, sic_Turns, spo_Turns, ssa_Turns⟩ f1_own_runs f2_own_runs f3_own_runs f4_own_runs f5_own_runs,
    i_Turns := ⟨⟨spg_Turns, sic_Turns, spo_Turns, ssa_Turns⟩, ⟨i1_Turns, i2_Turns, i3_Turns, i4_Turns⟩, if_pos (beq_self_eq_true _), PySem.W.mg_of X G a_Turns⟩,
    g_HEIRS_turns := ⟨_, glW_strs (zs := [(PySem.Str.ofString "a"), (PySem.Str.ofString "b")]) X G g1_HEIRS_turns g2_HEIRS_turns rfl rfl rfl (by show 2 ≤ sizeLine; decide) (.cons ⟨_, rfl⟩ (.cons ⟨_, rfl⟩ .nil))⟩,
    d__law_of := defW_mk X G a__law_of l__law_of c__law_of k__law_of (fun us hl => match us, hl with | [_, _], _ => rfl),
    d_tupled := defW_mk X G a_tupled l_tupled c_tupled k_tupled (fun us hl => match us, hl with | [_], _ => rfl),
    d_joined_runs := defW_mk X G a_joined_runs l_joined_runs c_joined_runs k_joined_runs (fun us hl => match us, hl with | [_], _ => rfl),
    d_ends_of := defW_mk X G a_ends_of l_ends_of c_ends_of k_ends_of (fun us hl => match us, hl with | [_], _ => rfl),
    m_Turns := mkW_mkD X G a_Turns m1_Turns_init m2_Turns_init m3_Turns_init m4_Turns_init l_Turns_init c_Turns_init lT_Turns_init (fun us hl => match us, hl with | [_, _], _ => ⟨_, rfl, rfl⟩),
    d_turns_of := defW_mk X G a_turns_of l_turns_of c_turns_of k_turns_of (fun us hl => match us, hl with | [_], _ => rfl),
    d__law_heirs := defW_mk X G a__law_heirs l__law_heirs c__law_heirs k__law_heirs (fun us hl => match us, hl with | [_, _], _ => rfl),
    p_Turns_runs := prW_mk p1_Turns_runs p2_Turns_runs p3_Turns_runs p4_Turns_runs l_Turns_runs c_Turns_runs (fun us hl => match us, hl with | [_], _ => rfl),
    d__law_times := defW_mk X G a__law_times l__law_times c__law_times k__law_times (fun us hl => match us, hl with | [_, _], _ => rfl),
    p_Turns_size := prW_mk p1_Turns_size p2_Turns_size p3_Turns_size p4_Turns_size l_Turns_size c_Turns_size (fun us hl => match us, hl with | [_], _ => rfl),
    p_Turns_ends := prW_mk p1_Turns_ends p2_Turns_ends p3_Turns_ends p4_Turns_ends l_Turns_ends c_Turns_ends (fun us hl => match us, hl with | [_], _ => rfl),
    d_ahead := defW_mk X G a_ahead l_ahead c_ahead k_ahead (fun us hl => match us, hl with | [_, _], _ => rfl),
    d_lead := defW_mk X G a_lead l_lead c_lead k_lead (fun us hl => match us, hl with | [_], _ => rfl),
    d_swapped := defW_mk X G a_swapped l_swapped c_swapped k_swapped (fun us hl => match us, hl with | [_], _ => rfl),
    d_lag := defW_mk X G a_lag l_lag c_lag k_lag (fun us hl => match us, hl with | [_], _ => rfl),
    d_never_behind := defW_mk X G a_never_behind l_never_behind c_never_behind k_never_behind (fun us hl => match us, hl with | [_], _ => rfl),
    d_most_gain := defW_mk X G a_most_gain l_most_gain c_most_gain k_most_gain (fun us hl => match us, hl with | [_, _], _ => rfl),
    d_spread := defW_mk X G a_spread l_spread c_spread k_spread (fun us hl => match us, hl with | [_], _ => rfl),
    p_Turns_his := prW_mk p1_Turns_his p2_Turns_his p3_Turns_his p4_Turns_his l_Turns_his c_Turns_his (fun us hl => match us, hl with | [_], _ => rfl),
    p_Turns_hers := prW_mk p1_Turns_hers p2_Turns_hers p3_Turns_hers p4_Turns_hers l_Turns_hers c_Turns_hers (fun us hl => match us, hl with | [_], _ => rfl),
    d__law_same := defW_mk X G a__law_same l__law_same c__law_same k__law_same (fun us hl => match us, hl with | [_, _], _ => rfl),
    d_behind_at := defW_mk X G a_behind_at l_behind_at c_behind_at k_behind_at (fun us hl => match us, hl with | [_], _ => rfl),
    d_place_sum := defW_mk X G a_place_sum l_place_sum c_place_sum k_place_sum (fun us hl => match us, hl with | [_], _ => rfl),
    d_place_sums := defW_mk X G a_place_sums l_place_sums c_place_sums k_place_sums (fun us hl => match us, hl with | [_], _ => rfl),
    d_set_of := defW_mk X G a_set_of l_set_of c_set_of k_set_of (fun us hl => match us, hl with | [_], _ => rfl),
    d_begins := defW_mk X G a_begins l_begins c_begins k_begins (fun us hl => match us, hl with | [_], _ => rfl),
    d_place_of := defW_mk X G a_place_of l_place_of c_place_of k_place_of (fun us hl => match us, hl with | [_, _, _], _ => rfl),
    d_turn_of := defW_mk X G a_turn_of l_turn_of c_turn_of k_turn_of (fun us hl => match us, hl with | [_, _], _ => rfl),
    d_his_turn_of := defW_mk X G a_his_turn_of l_his_turn_of c_his_turn_of k_his_turn_of (fun us hl => match us, hl with | [_, _], _ => rfl),
    d_most_apart := defW_mk X G a_most_apart l_most_apart c_most_apart k_most_apart (fun us hl => match us, hl with | [_], _ => rfl),
    d_height := defW_mk X G a_height l_height c_height k_height (fun us hl => match us, hl with | [_], _ => rfl),
    d__law_lone := defW_mk X G a__law_lone l__law_lone c__law_lone k__law_lone (fun us hl => match us, hl with | [_, _], _ => rfl),
    d_check_size := defW_mk X G a_check_size l_check_size c_check_size k_check_size (fun us hl => match us, hl with | [_, _], _ => rfl),
    d_ways_later := defW_mk X G a_ways_later l_ways_later c_ways_later k_ways_later (fun us hl => match us, hl with | [_, _], _ => rfl),
    d_most_worse := defW_mk X G a_most_worse l_most_worse c_most_worse k_most_worse (fun us hl => match us, hl with | [_, _], _ => rfl),
    d_corners := defW_mk X G a_corners l_corners c_corners k_corners (fun us hl => match us, hl with | [_, _], _ => rfl),
    d_is_above := defW_mk X G a_is_above l_is_above c_is_above k_is_above (fun us hl => match us, hl with | [_, _], _ => rfl),
    d_against := defW_mk X G a_against l_against c_against k_against (fun us hl => match us, hl with | [_, _], _ => rfl),
    d_never_worse := defW_mk X G a_never_worse l_never_worse c_never_worse k_never_worse (fun us hl => match us, hl with | [_, _], _ => rfl),
    d_compare := defW_mk X G a_compare l_compare c_compare k_compare (fun us hl => match us, hl with | [_, _], _ => rfl),
    d_is_number := defW_mk X G a_is_number l_is_number c_is_number k_is_number (fun us hl => match us, hl with | [_], _ => rfl),
    d_is_against := defW_mk X G a_is_against l_is_against c_is_against k_is_against (fun us hl => match us, hl with | [_, _, _], _ => rfl),
    q_Turns_eq := mtW_mk t1_Turns_eq t2_Turns_eq t3_Turns_eq l_Turns_eq c_Turns_eq (fun us hl => match us, hl with | [_, _], _ => rfl),
    q_Turns_getitem := mtW_mk t1_Turns_getitem t2_Turns_getitem t3_Turns_getitem l_Turns_getitem c_Turns_getitem (fun us hl => match us, hl with | [_, _], _ => rfl),
    d_runs_above := defW_mk X G a_runs_above l_runs_above c_runs_above k_runs_above (fun us hl => match us, hl with | [_, _], _ => rfl),
    d_below_both := defW_mk X G a_below_both l_below_both c_below_both k_below_both (fun us hl => match us, hl with | [_, _], _ => rfl),
    d_above_both := defW_mk X G a_above_both l_above_both c_above_both k_above_both (fun us hl => match us, hl with | [_, _], _ => rfl),
    d_backwards := defW_mk X G a_backwards l_backwards c_backwards k_backwards (fun us hl => match us, hl with | [_], _ => rfl),
    d_granted := defW_mk X G a_granted l_granted c_granted k_granted (fun us hl => match us, hl with | [_, _], _ => rfl),
    d_fewest_steps := defW_mk X G a_fewest_steps l_fewest_steps c_fewest_steps k_fewest_steps (fun us hl => match us, hl with | [_, _], _ => rfl),
    d__law_box := defW_mk X G a__law_box l__law_box c__law_box k__law_box (fun us hl => match us, hl with | [_, _], _ => rfl),
    d__law_cells := defW_mk X G a__law_cells l__law_cells c__law_cells k__law_cells (fun us hl => match us, hl with | [_, _], _ => rfl),
    d__law_take := defW_mk X G a__law_take l__law_take c__law_take k__law_take (fun us hl => match us, hl with | [_, _], _ => rfl) }
  have e := hfa.symm.trans (PySem.W.mg_of X G a_law)
  cases e
  refine ⟨_, fun s v => ?_, fun base _ _ => LW.c_law W ⟨⟨oc_law, od_law, .none, kV_law, dc_law, pm_law, an_law, cd_law, ct_law, sl_law, rfl, l_law, c_law⟩, PySem.W.mg_of X G a_law, k_law⟩ says⟩
  exact .of_eq rfl
end

section
set_option maxRecDepth 100000
set_option maxHeartbeats 1000000
/-! MT: all ways of a computation. -/
namespace DL
open PySem
/-- looks at all ways -/
def T.chk {α : Type} (p : α → Bool) : T α → Nat → Bool
  | .ret a, _ => p a
  | .fail, _ => false
  | .take m k, n => decide (0 < m ∧ m < 1073741824) && decide (n < 1125899906842624) && (List.range m.toNat).all fun i => (k (i : Nat)).chk p (n + 1)
theorem chk_ok {α : Type} {p : α → Bool} : ∀ {m : T α} {n : Nat}, m.chk p n = true → m.ok n fun a _ => p a = true := by
  intro m
  induction m with
  | ret a => intro n h; exact h
  | fail => intro n h; cases h
  | take m k ih =>
    intro n h
    simp only [T.chk, Bool.and_eq_true, decide_eq_true_eq] at h
    obtain ⟨⟨⟨h1, h2⟩, h3⟩, h4⟩ := h
    refine ⟨h1, h2, h3, fun r r0 r1 => ?_⟩
    have e : ((r.toNat : Nat) : Int) = r := Int.toNat_of_nonneg r0
    have q := List.all_eq_true.mp h4 r.toNat (List.mem_range.mpr (by omega))
    have q2 := ih ((r.toNat : Nat) : Int) q
    rw [e] at q2
    exact q2
/-- the number of draws along any way is at most q -/
def T.ok_of_ret {α : Type} {m : T α} {a : α} {n : Nat} {R : α → Nat → Prop} (h : m = .ret a) (q : R a n) : m.ok n R := by rw [h]; exact q
theorem ok_ret {α : Type} {a : α} {n : Nat} {R : α → Nat → Prop} (q : R a n) : (T.ret a).ok n R := q
/-- a loop: I holds of the frame at each turn; c: the draws of a turn at most -/
theorem for_ok {g : D → Env → T Env} {b : Env → T Out} {R : Out → Nat → Prop} {I : Env → Prop} {N c : Nat} {ok : D → Prop}
    (step : ∀ (d : D) (ρ : Env) (n : Nat), ok d → I ρ → n + c ≤ N → ((g d ρ).bind b).ok n fun o n' => n' ≤ n + c ∧ ∃ ρ', o = .nx ρ' ∧ I ρ') :
    ∀ (ds : List D) (ρ : Env) (n : Nat), (∀ d ∈ ds, ok d) → I ρ → n + c * ds.length ≤ N → (∀ ρ' n', I ρ' → n' ≤ n + c * ds.length → R (.nx ρ') n') → (forT g b ρ ds).ok n R
  | [], ρ, n, _, hI, hn, q => q ρ n hI (Nat.le_add_right _ _)
  | d :: ds, ρ, n, hd, hI, hn, q => by
    rw [List.length_cons, Nat.mul_succ] at hn
    have st := step d ρ n (hd d (.head _)) hI (by omega)
    have e : forT g b ρ (d :: ds) = ((g d ρ).bind b).bind fun o => match o with
      | .nx ρ' => forT g b ρ' ds
      | .ct ρ' => forT g b ρ' ds
      | .bk ρ' => .ret (.nx ρ')
      | .rt d => .ret (.rt d) := by
      show (g d ρ).bind (fun ρ1 => (b ρ1).bind _) = _
      rw [T.bind_assoc] <;> rfl
    rw [e, T.ok_bind]
    refine T.ok_mono st fun o n' h => ?_
    obtain ⟨hn', ρ', rfl, hI'⟩ := h
    exact for_ok step ds ρ' n' (fun d hd' => hd d (.tail _ hd')) hI' (by omega) fun ρ2 n2 h1 h2 => q ρ2 n2 h1 (by rw [List.length_cons, Nat.mul_succ]; omega)
end DL
end

section
set_option maxRecDepth 100000
set_option maxHeartbeats 1000000
/-! MS: the steps of mirrors as rewriting. -/
namespace DL
open PySem
theorem fVar_at {i : Nat} {ρ : Env} {d : D} (h : ρ[i]? = some (.val d)) : fVar i ρ = .ret d := by unfold fVar; rw [h]
theorem fVarX_at {i : Nat} {ρ : Env} {ds : List D} (h : ρ[i]? = some (.own (.lst ds))) : fVarX i ρ = .ret (.lst ds) := by unfold fVarX; rw [h]
theorem fVarX_val {i : Nat} {ρ : Env} {d : D} (h : ρ[i]? = some (.val d)) : fVarX i ρ = .ret d := by unfold fVarX; rw [h]
theorem ok_seq {a b : Env → T Out} {ρ : Env} {n : Nat} {R : Out → Nat → Prop} (h : (a ρ).ok n fun o n' => match o with | .nx ρ' => (b ρ').ok n' R | o => R o n') : (sSeq a b ρ).ok n R := by
  unfold sSeq
  rw [T.ok_bind]
  refine T.ok_mono h fun o n' z => ?_
  cases o <;> exact z
theorem ok_eq {α : Type} {m m' : T α} {n : Nat} {R : α → Nat → Prop} (e : m = m') (h : m'.ok n R) : m.ok n R := by rw [e]; exact h
theorem ok_nx {α : Type} {a : α} {n : Nat} {R : α → Nat → Prop} (h : R a n) : (T.ret a).ok n R := h
/-! steps, each with its parts' values -/
section
variable {a b : Env → T Out} {t u : Env → T Bool} {f g h : Env → T D} {ρ ρ' : Env} {d e x y : D} {m : T Out} {i : Nat}
theorem seq_nx (h : a ρ = .ret (.nx ρ')) (k : b ρ' = m) : sSeq a b ρ = m := by unfold sSeq; rw [h, T.bind_ret]; exact k
theorem seq_rt (h : a ρ = .ret (.rt d)) : sSeq a b ρ = .ret (.rt d) := by unfold sSeq; rw [h, T.bind_ret]
theorem if_t (h : t ρ = .ret true) (k : a ρ = m) : sIf t a b ρ = m := by unfold sIf; rw [h, T.bind_ret]; exact k
theorem if_f (h : t ρ = .ret false) (k : b ρ = m) : sIf t a b ρ = m := by unfold sIf; rw [h, T.bind_ret]; exact k
theorem if_nx (h : t ρ = .ret false) : sIf t a sNext ρ = .ret (.nx ρ) := if_f h rfl
theorem ret_v (h : f (fullE ρ) = .ret d) : sRet f ρ = .ret (.rt d) := by unfold sRet; rw [h, T.bind_ret]
theorem set_v (h : f ρ = .ret d) : sSet i f ρ = .ret (.nx (ρ.set i (.val d))) := by unfold sSet; rw [h, T.bind_ret]
theorem par_v {j : Nat} (h : f ρ = .ret d) (k : g ρ = .ret e) : sParVV i j f g ρ = .ret (.nx ((ρ.set i (.val d)).set j (.val e))) := by unfold sParVV; rw [h, T.bind_ret, k, T.bind_ret]
theorem drop_v (h : f ρ = .ret d) : sDrop f ρ = .ret (.nx ρ) := by unfold sDrop; rw [h, T.bind_ret]
theorem unp_v {gg : D → Env → T Env} (h : f ρ = .ret d) (k : gg d ρ = .ret ρ') : sUnp f gg ρ = .ret (.nx ρ') := by unfold sUnp; rw [h, T.bind_ret, k, T.bind_ret]
theorem for_v {ii : Env → T (List D)} {gg : D → Env → T Env} {ds : List D} (h : ii ρ = .ret ds) (k : forT gg b ρ ds = m) : sFor ii gg b ρ = m := by unfold sFor; rw [h, T.bind_ret]; exact k
theorem op_v {o : D → D → T D} {r : T D} (h : f ρ = .ret d) (k : g ρ = .ret e) (z : o d e = r) : fOp o f g ρ = r := by unfold fOp; rw [h, T.bind_ret, k, T.bind_ret]; exact z
theorem un_v {o : D → T D} {r : T D} (h : f ρ = .ret d) (z : o d = r) : fUn o f ρ = r := by unfold fUn; rw [h, T.bind_ret]; exact z
theorem fn_v {o : D → T D} {r : T D} (h : f ρ = .ret d) (z : o d = r) : fFn o f ρ = r := by unfold fFn; rw [h, T.bind_ret]; exact z
theorem lfn_v {o : D → T (List D)} {r : T (List D)} (h : f ρ = .ret d) (z : o d = r) : lFn o f ρ = r := by unfold lFn; rw [h, T.bind_ret]; exact z
theorem afn_v {o : List D → T D} {aa : Env → T (List D)} {ds : List D} {r : T D} (h : aa ρ = .ret ds) (z : o ds = r) : aFn o aa ρ = r := by unfold aFn; rw [h, T.bind_ret]; exact z
theorem ofl_v {aa : Env → T (List D)} {ds : List D} (h : aa ρ = .ret ds) : fOfL aa ρ = .ret (.lst ds) := by unfold fOfL; rw [h, T.bind_ret]
theorem cons_v {aa : Env → T (List D)} {ds : List D} (h : f ρ = .ret d) (k : aa ρ = .ret ds) : aCons f aa ρ = .ret (d :: ds) := by unfold aCons; rw [h, T.bind_ret, k, T.bind_ret]
theorem nil_v : aNil ρ = .ret [] := rfl
theorem tup_v {aa : Env → T (List D)} {ds : List D} (h : aa ρ = .ret ds) (hl : ds.length ≤ capD) : fTup aa ρ = .ret (.tup ds) := by unfold fTup; rw [h, T.bind_ret, decide_eq_true hl]
theorem lst_v {aa : Env → T (List D)} {ds : List D} (h : aa ρ = .ret ds) (hl : ds.length ≤ capD) : fLst aa ρ = .ret ds := by unfold fLst; rw [h, T.bind_ret, decide_eq_true hl]
theorem test_v {c : Bool} (h : f ρ = .ret (.bl c)) : fTest f ρ = .ret c := by unfold fTest; rw [h, T.bind_ret]; rfl
theorem not_v {c : Bool} (h : t ρ = .ret c) : fNot t ρ = .ret (!c) := by unfold fNot; rw [h, T.bind_ret]
theorem and_v {c c' : Bool} (h : t ρ = .ret c) (k : u ρ = .ret c') : fAnd t u ρ = .ret (c && c') := by unfold fAnd; rw [h, T.bind_ret]; cases c; rfl; exact k
theorem and_f (h : t ρ = .ret false) : fAnd t u ρ = .ret false := by unfold fAnd; rw [h, T.bind_ret]
theorem or_v {c c' : Bool} (h : t ρ = .ret c) (k : u ρ = .ret c') : fOr t u ρ = .ret (c || c') := by unfold fOr; rw [h, T.bind_ret]; cases c; exact k; rfl
theorem or_t (h : t ρ = .ret true) : fOr t u ρ = .ret true := by unfold fOr; rw [h, T.bind_ret]
theorem notV_v {c : Bool} (h : f ρ = .ret (.bl c)) : fNotV f ρ = .ret (.bl (!c)) := by unfold fNotV; rw [h, T.bind_ret]; rfl
theorem andV_t {r : T D} (h : f ρ = .ret (.bl true)) (k : g ρ = r) : fAndV f g ρ = r := by unfold fAndV; rw [h, T.bind_ret]; exact k
theorem andV_f (h : f ρ = .ret (.bl false)) : fAndV f g ρ = .ret (.bl false) := by unfold fAndV; rw [h, T.bind_ret]; rfl
theorem orV_f {r : T D} (h : f ρ = .ret (.bl false)) (k : g ρ = r) : fOrV f g ρ = r := by unfold fOrV; rw [h, T.bind_ret]; exact k
theorem orV_t (h : f ρ = .ret (.bl true)) : fOrV f g ρ = .ret (.bl true) := by unfold fOrV; rw [h, T.bind_ret]; rfl
theorem isN_v (h : f ρ = .ret d) : fIsN f ρ = .ret (.bl (isNonD d)) := by unfold fIsN; rw [h, T.bind_ret]
theorem notN_v (h : f ρ = .ret d) : fNotN f ρ = .ret (.bl (!isNonD d)) := by unfold fNotN; rw [h, T.bind_ret]
theorem ifE_t {r : T D} (h : t ρ = .ret true) (k : f ρ = r) : fIf t f g ρ = r := by unfold fIf; rw [h, T.bind_ret]; exact k
theorem ifE_f {r : T D} (h : t ρ = .ret false) (k : g ρ = r) : fIf t f g ρ = r := by unfold fIf; rw [h, T.bind_ret]; exact k
theorem run_rt {B : Env → T Out} (h : B ρ = .ret (.rt d)) : (B ρ).bind outD = .ret d := by rw [h]; rfl
theorem run_nx {B : Env → T Out} (h : B ρ = .ret (.nx ρ')) : (B ρ).bind outD = .ret .non := by rw [h]; rfl
theorem if_draw {p : Int} {j : Int} {X : Int → T Out} (hf : f ρ = .take p fun r => .ret (.int r)) (hg : g ρ = .ret (.int j)) (k : ∀ r : Int, sIf (fAnd (fTest (fC (.bl (decide (r = j))))) t) a b ρ = X r) :
    sIf (fAnd (fTest (fOp eqD f g)) t) a b ρ = .take p X := by
  have e : fTest (fOp eqD f g) ρ = .take p fun r => .ret (decide (r = j)) := by
    unfold fTest fOp
    rw [hf]
    show T.take p _ = _
    congr 1
    funext r
    show (T.bind (T.bind (g ρ) fun y => eqD (.int r) y) blD) = _
    rw [hg]
    rfl
  unfold sIf fAnd
  rw [e]
  show T.take p _ = _
  congr 1
  funext r
  rw [← k r]
  rfl
end
end DL
namespace DL
open PySem
section
variable {g : D → Env → T Env} {b : Env → T Out} {ρ ρ' ρ1 : Env} {d e : D} {ds : List D}
theorem for_nx (h : g d ρ = .ret ρ1) (k : b ρ1 = .ret (.nx ρ')) : forT g b ρ (d :: ds) = forT g b ρ' ds := by
  show (g d ρ).bind (fun ρ1 => (b ρ1).bind _) = _
  rw [h, T.bind_ret, k, T.bind_ret]
theorem for_ct (h : g d ρ = .ret ρ1) (k : b ρ1 = .ret (.ct ρ')) : forT g b ρ (d :: ds) = forT g b ρ' ds := by
  show (g d ρ).bind (fun ρ1 => (b ρ1).bind _) = _
  rw [h, T.bind_ret, k, T.bind_ret]
theorem for_rt (h : g d ρ = .ret ρ1) (k : b ρ1 = .ret (.rt e)) : forT g b ρ (d :: ds) = .ret (.rt e) := by
  show (g d ρ).bind (fun ρ1 => (b ρ1).bind _) = _
  rw [h, T.bind_ret, k, T.bind_ret]
theorem aug_v {i : Nat} {f : Int → Int → Int} {x : Env → T D} {a c : Int} (h : ρ[i]? = some (.val (.int a))) (k : x ρ = .ret (.int c)) : sAug i f x ρ = .ret (.nx (ρ.set i (.val (.int (f a c))))) := by
  unfold sAug
  rw [h]
  show (x ρ).bind _ = _
  rw [k]; rfl
theorem app_v {i : Nat} {x : Env → T D} {ds : List D} {a : D} (h : ρ[i]? = some (.own (.lst ds))) (k : x ρ = .ret a) (hl : ds.length < capD) : sApp i x ρ = .ret (.nx (ρ.set i (.own (.lst (ds ++ [a]))))) := by
  unfold sApp ownL
  rw [h, T.bind_ret, k, T.bind_ret, decide_eq_true hl]
theorem ext_v {i : Nat} {x : Env → T D} {ds es : List D} (h : ρ[i]? = some (.own (.lst ds))) (k : x ρ = .ret (.lst es)) (hl : ds.length + es.length < capD) : sExt i x ρ = .ret (.nx (ρ.set i (.own (.lst (ds ++ es))))) := by
  unfold sExt ownL
  rw [h, T.bind_ret, k, T.bind_ret]
  show (match decide (ds.length + es.length < capD) with | true => _ | false => _) = _
  rw [decide_eq_true hl]
theorem star_v {x : Env → T D} {aa : Env → T (List D)} {a : D} {ys ds : List D} (h : x ρ = .ret a) (hs : seqD a = some ys) (k : aa ρ = .ret ds) : aStar x aa ρ = .ret (ys ++ ds) := by
  unfold aStar
  rw [h, T.bind_ret]
  simp only [hs]
  rw [k, T.bind_ret]
theorem seq_v {x : Env → T D} {a : D} {ys : List D} (h : x ρ = .ret a) (hs : seqD a = some ys) : iSeq x ρ = .ret ys := by
  unfold iSeq seqT
  rw [h, T.bind_ret, hs]
theorem make_v {kk : Nat} {aa : Env → T (List D)} {F : List D → T (List D)} {ds fs : List D} (h : aa ρ = .ret ds) (k : F ds = .ret fs) : fMake kk aa F ρ = .ret (.obj kk fs) := by unfold fMake; rw [h, T.bind_ret, k, T.bind_ret]
theorem prop_v {kk : Nat} {F : List D → T D} {x : Env → T D} {fs : List D} {r : T D} (h : x ρ = .ret (.obj kk fs)) (k : F [.obj kk fs] = r) : fProp kk F x ρ = r := by
  unfold fProp
  rw [h, T.bind_ret]
  show (match decide (kk = kk) with | true => _ | false => _) = _
  rw [decide_eq_true rfl]
  exact k
theorem par3_v {i j l : Nat} {x y z : Env → T D} {a b c : D} (h : x ρ = .ret a) (k : y ρ = .ret b) (q : z ρ = .ret c) : sPar3 i j l x y z ρ = .ret (.nx (((ρ.set i (.val a)).set j (.val b)).set l (.val c))) := by unfold sPar3; rw [h, T.bind_ret, k, T.bind_ret, q, T.bind_ret]
theorem zip_v {x y : Env → T D} {a b : D} {xs ys : List D} (h : x ρ = .ret a) (k : y ρ = .ret b) (ha : seqD a = some xs) (hb : seqD b = some ys) : iZip x y ρ = .ret (zipD xs ys) := by
  unfold iZip seqT
  rw [h, T.bind_ret, k, T.bind_ret, ha, hb]
  rfl
theorem chain_t {f g : D → D → T D} {x y z : Env → T D} {a b c : D} {r : T D} (h : x ρ = .ret a) (k : y ρ = .ret b) (t : f a b = .ret (.bl true)) (q : z ρ = .ret c) (e : g b c = r) : fChain f g x y z ρ = r := by
  unfold fChain
  rw [h, T.bind_ret, k, T.bind_ret, t]
  show (z ρ).bind _ = _
  rw [q, T.bind_ret]
  exact e
theorem rev_v {x : Env → T D} {a : D} {r : T D} (h : x ρ = .ret a) (k : revD a = r) : fRev x ρ = r := by unfold fRev; rw [h, T.bind_ret]; exact k
theorem lcat_v {x y : Env → T D} {xs ys : List D} (h : x ρ = .ret (.lst xs)) (k : y ρ = .ret (.lst ys)) (hl : xs.length + ys.length ≤ capD) : lCat x y ρ = .ret (xs ++ ys) := by
  unfold lCat
  rw [h, T.bind_ret, k, T.bind_ret]
  show (match decide (xs.length + ys.length ≤ capD) with | true => _ | false => _) = _
  rw [decide_eq_true hl]
theorem setL_v {i : Nat} {x : Env → T (List D)} {xs : List D} (h : x ρ = .ret xs) (hi : i < ρ.length) : sSetL i x ρ = .ret (.nx (ρ.set i (.own (.lst xs)))) := by
  unfold sSetL
  rw [h, T.bind_ret, decide_eq_true hi]
end
end DL
end

section
set_option maxRecDepth 100000
set_option maxHeartbeats 1000000
/-! NA: turns by runs, in plain words. -/
namespace LW
open PySem DL
theorem fcomp {i : DL.Env → T (List D)} {g : D → DL.Env → T DL.Env} {t : DL.Env → T Bool} {f : DL.Env → T D} {vs : List Nat} {ρ : DL.Env} {ds : List D} {r : T (List D)} (h : i ρ = .ret ds) (hl : ds.length < capD) (h2 : compT g t f (wipeE ρ vs) ds = r) : fComp i g t f vs ρ = r := by
  unfold fComp
  rw [h, T.bind_ret, decide_eq_true hl]
  exact h2
theorem compT_map {g : D → DL.Env → T DL.Env} {t : DL.Env → T Bool} {f : DL.Env → T D} {ρ : DL.Env} {α : Type} {h : α → D} {k : α → D} {ds : List α}
    (hh : ∀ a ∈ ds, ∃ ρ', g (h a) ρ = .ret ρ' ∧ t ρ' = .ret true ∧ f ρ' = .ret (k a)) : compT g t f ρ (ds.map h) = .ret (ds.map k) := by
  induction ds with
  | nil => rfl
  | cons a ds ih =>
    obtain ⟨ρ', h1, h2, h3⟩ := hh a (.head _)
    show ((g (h a) ρ).bind fun ρ' => (t ρ').bind fun c => match c with
        | true => (f ρ').bind fun y => (compT g t f ρ (ds.map h)).bind fun ys => .ret (y :: ys)
        | false => compT g t f ρ (ds.map h)) = _
    rw [h1, T.bind_ret, h2, T.bind_ret]
    simp only []
    rw [h3, T.bind_ret, ih fun a ha => hh a (.tail _ ha), T.bind_ret]
    rfl
theorem compT_filter {g : D → DL.Env → T DL.Env} {t : DL.Env → T Bool} {f : DL.Env → T D} {ρ : DL.Env} {α : Type} {p : α → Bool} {h : α → D} {k : α → D} {ds : List α}
    (hh : ∀ a ∈ ds, ∃ ρ', g (h a) ρ = .ret ρ' ∧ t ρ' = .ret (p a) ∧ (p a = true → f ρ' = .ret (k a))) : compT g t f ρ (ds.map h) = .ret ((ds.filter p).map k) := by
  induction ds with
  | nil => rfl
  | cons a ds ih =>
    obtain ⟨ρ', h1, h2, h3⟩ := hh a (.head _)
    have ih := ih fun a ha => hh a (.tail _ ha)
    show ((g (h a) ρ).bind fun ρ' => (t ρ').bind fun c => match c with
        | true => (f ρ').bind fun y => (compT g t f ρ (ds.map h)).bind fun ys => .ret (y :: ys)
        | false => compT g t f ρ (ds.map h)) = _
    rw [h1, T.bind_ret, h2, T.bind_ret, List.filter_cons]
    cases hp : p a with
    | true =>
      simp only []
      rw [h3 hp, T.bind_ret, ih, T.bind_ret]
      rfl
    | false =>
      simp only []
      rw [ih]
      rfl
/-- a comprehension over a list that is written by h -/
theorem comp_m {α : Type} {i : DL.Env → T (List D)} {g : D → DL.Env → T DL.Env} {f : DL.Env → T D} {vs : List Nat} {ρ : DL.Env} {h k : α → D} {ds : List α} (hi : i ρ = .ret (ds.map h)) (hl : ds.length < capD)
    (hh : ∀ a ∈ ds, ∃ ρ', g (h a) (wipeE ρ vs) = .ret ρ' ∧ f ρ' = .ret (k a)) : fComp i g fYes f vs ρ = .ret (ds.map k) :=
  fcomp hi (by rw [List.length_map]; exact hl) (compT_map fun a ha => by
    obtain ⟨ρ', h1, h2⟩ := hh a ha
    exact ⟨ρ', h1, rfl, h2⟩)
theorem comp_f {α : Type} {i : DL.Env → T (List D)} {g : D → DL.Env → T DL.Env} {t : DL.Env → T Bool} {f : DL.Env → T D} {vs : List Nat} {ρ : DL.Env} {p : α → Bool} {h k : α → D} {ds : List α} (hi : i ρ = .ret (ds.map h)) (hl : ds.length < capD)
    (hh : ∀ a ∈ ds, ∃ ρ', g (h a) (wipeE ρ vs) = .ret ρ' ∧ t ρ' = .ret (p a) ∧ (p a = true → f ρ' = .ret (k a))) : fComp i g t f vs ρ = .ret ((ds.filter p).map k) :=
  fcomp hi (by rw [List.length_map]; exact hl) (compT_filter hh)
def sA : Str := Str.ofString "a"
def sB : Str := Str.ofString "b"
def hS (b : Bool) : Str := bif b then sA else sB
def hD (b : Bool) : D := .str (hS b)
theorem eqD_hh (x b : Bool) : eqD (hD x) (hD b) = .ret (.bl (x == b)) := by cases x <;> cases b <;> rfl
theorem eqD_a (x : Bool) : eqD (hD x) (.str (Str.ofString "a")) = .ret (.bl (x == true)) := eqD_hh x true
theorem eqD_b (x : Bool) : eqD (hD x) (.str (Str.ofString "b")) = .ret (.bl (x == false)) := eqD_hh x false
abbrev Run := Bool × Int
def runD (r : Run) : D := .tup [hD r.1, .int r.2]
def runsD (R : List Run) : D := .tup (R.map runD)
def iD (l : List Int) : List D := l.map .int
/-- behind how many turns each run ends -/
def endsR : Int → List Run → List Int
  | _, [] => []
  | b, r :: R => (b + r.2) :: endsR (b + r.2) R
def TU (R : List Run) : D := .obj 0 [.tup (iD (endsR 0 R)), runsD R]
def sizeR (R : List Run) : Int := (R.map fun r => r.2).sum
def cntR (h : Bool) (R : List Run) : Int := ((R.filter fun r => r.1 == h).map fun r => r.2).sum
theorem ints_map {α : Type} (f : α → Int) : ∀ l : List α, intsD (l.map fun a => .int (f a)) = some (l.map f)
  | [] => rfl
  | a :: l => by
    show (match intsD (l.map fun a => .int (f a)) with | some is => some (f a :: is) | none => none) = _
    rw [ints_map f l]; rfl
theorem sumD_map {α : Type} (f : α → Int) (l : List α) : sumD (.lst (l.map fun a => .int (f a))) = .ret (.int (l.map f).sum) := by
  unfold sumD
  simp only [ints_map]
theorem size_eq {R : List Run} (hl : R.length < capD) : F_Turns_size [TU R] = .ret (.int (sizeR R)) :=
  run_rt (B := B_Turns_size) (ρ := [.val (TU R), .no, .no]) (ret_v (fn_v (ofl_v (comp_m (h := runD) (k := fun r => .int r.2) rfl hl fun a _ => ⟨_, rfl, rfl⟩)) (sumD_map _ _)))
theorem hers_eq {R : List Run} (hl : R.length < capD) : F_Turns_hers [TU R] = .ret (.int (cntR true R)) :=
  run_rt (B := B_Turns_hers) (ρ := [.val (TU R), .no, .no]) (ret_v (fn_v (ofl_v (comp_f (p := fun r => r.1 == true) (h := runD) (k := fun r => .int r.2) rfl hl fun a _ => ⟨_, rfl, test_v (op_v rfl rfl (eqD_a a.1)), fun _ => rfl⟩)) (sumD_map _ _)))
theorem his_eq {R : List Run} (hl : R.length < capD) : F_Turns_his [TU R] = .ret (.int (cntR false R)) :=
  run_rt (B := B_Turns_his) (ρ := [.val (TU R), .no, .no]) (ret_v (fn_v (ofl_v (comp_f (p := fun r => r.1 == false) (h := runD) (k := fun r => .int r.2) rfl hl fun a _ => ⟨_, rfl, test_v (op_v rfl rfl (eqD_b a.1)), fun _ => rfl⟩)) (sumD_map _ _)))
theorem runs_eq (R : List Run) : F_Turns_runs [TU R] = .ret (runsD R) := rfl
theorem ends_eq (R : List Run) : F_Turns_ends [TU R] = .ret (.tup (iD (endsR 0 R))) := rfl
/-- runs with their ends -/
def tri : Int → List Run → List (Run × Int)
  | _, [] => []
  | b, r :: R => (r, b + r.2) :: tri (b + r.2) R
def triD (t : Run × Int) : D := .pr (runD t.1) (.int t.2)
theorem zip_tri : ∀ (b : Int) (R : List Run), zipD (R.map runD) (iD (endsR b R)) = (tri b R).map triD
  | _, [] => rfl
  | b, r :: R => by
    show D.pr (runD r) (.int (b + r.2)) :: zipD (R.map runD) (iD (endsR (b + r.2) R)) = _
    rw [zip_tri (b + r.2) R]; rfl
theorem len_tri : ∀ (b : Int) (R : List Run), (tri b R).length = R.length
  | _, [] => rfl
  | b, r :: R => congrArg Nat.succ (len_tri _ R)
theorem len_ends : ∀ (b : Int) (R : List Run), (endsR b R).length = R.length
  | _, [] => rfl
  | b, r :: R => congrArg Nat.succ (len_ends _ R)
theorem iz {R : List Run} {ρ : DL.Env} (h : fVar 0 ρ = .ret (TU R)) : iZip (fProp 0 F_Turns_runs (fVar 0)) (fProp 0 F_Turns_ends (fVar 0)) ρ = .ret ((tri 0 R).map triD) :=
  (zip_v (prop_v h (runs_eq R)) (prop_v h (ends_eq R)) rfl rfl).trans (by rw [zip_tri])
theorem max2 (i j : Int) : max2D [.int i, .int j] = .ret (.int (max i j)) := by
  show T.ret (D.int (if j > i then j else i)) = _
  congr 2
  split <;> omega
theorem min2 (i j : Int) : min2D [.int i, .int j] = .ret (.int (min i j)) := by
  show T.ret (D.int (if j < i then j else i)) = _
  congr 2
  split <;> omega
/-! ### ahead -/
def aheadR (k : Int) : Int → List Run → Int
  | _, [] => 0
  | b, r :: R => (bif r.1 then max 0 (min r.2 (k - (b + r.2) + r.2)) else 0) + aheadR k (b + r.2) R
abbrev AG : D → DL.Env → T DL.Env := gTupD (gsCons (gTupD (gsCons (gSet 4) (gsCons (gSet 5) gsNil))) (gsCons (gSet 3) gsNil))
abbrev AB : DL.Env → T Out := sIf (fTest (fOp eqD (fVar 4) (fC (.str (Str.ofString "a"))))) (sAug 2 (fun i j => i + j) (aFn max2D (aCons (fC (.int 0)) (aCons (aFn min2D (aCons (fVar 5) (aCons (fOp addD (fOp subD (fVar 1) (fVar 3)) (fVar 5)) aNil))) aNil)))) sNext
theorem ahead_loop (T0 : D) (k : Int) : ∀ (R : List Run) (b f : Int) (s3 s4 s5 : Slot), ∃ s3' s4' s5', forT AG AB [.val T0, .val (.int k), .val (.int f), s3, s4, s5] ((tri b R).map triD) =
    .ret (.nx [.val T0, .val (.int k), .val (.int (f + aheadR k b R)), s3', s4', s5'])
  | [], b, f, s3, s4, s5 => ⟨s3, s4, s5, by
    show T.ret (Out.nx [.val T0, .val (.int k), .val (.int f), s3, s4, s5]) = T.ret (Out.nx [.val T0, .val (.int k), .val (.int (f + 0)), s3, s4, s5])
    rw [Int.add_zero]⟩
  | (h, n) :: R, b, f, s3, s4, s5 => by
    cases h with
    | true =>
      obtain ⟨s3', s4', s5', e⟩ := ahead_loop T0 k R (b + n) (f + max 0 (min n (k - (b + n) + n))) (.val (.int (b + n))) (.val (hD true)) (.val (.int n))
      refine ⟨s3', s4', s5', Eq.trans (for_nx rfl (if_t (test_v (op_v rfl rfl (eqD_a true))) (aug_v rfl (afn_v (cons_v rfl (cons_v (afn_v (cons_v rfl (cons_v (op_v (op_v rfl rfl rfl) rfl rfl) rfl)) (min2 _ _)) rfl)) (max2 _ _))))) (Eq.trans e ?_)⟩
      show T.ret (Out.nx [.val T0, .val (.int k), .val (.int (f + max 0 (min n (k - (b + n) + n)) + aheadR k (b + n) R)), s3', s4', s5']) = T.ret (Out.nx [.val T0, .val (.int k), .val (.int (f + (max 0 (min n (k - (b + n) + n)) + aheadR k (b + n) R))), s3', s4', s5'])
      rw [Int.add_assoc]
    | false =>
      obtain ⟨s3', s4', s5', e⟩ := ahead_loop T0 k R (b + n) f (.val (.int (b + n))) (.val (hD false)) (.val (.int n))
      refine ⟨s3', s4', s5', Eq.trans (for_nx rfl (if_nx (test_v (op_v rfl rfl (eqD_a false))))) (Eq.trans e ?_)⟩
      show _ = T.ret (Out.nx [.val T0, .val (.int k), .val (.int (f + (0 + aheadR k (b + n) R))), s3', s4', s5'])
      rw [Int.zero_add]
theorem ahead_eq (R : List Run) (k : Int) : F_ahead [TU R, .int k] = .ret (.int (aheadR k 0 R)) := by
  obtain ⟨s3', s4', s5', e⟩ := ahead_loop (TU R) k R 0 0 .no .no .no
  rw [Int.zero_add] at e
  exact run_rt (B := B_ahead) (ρ := [.val (TU R), .val (.int k), .no, .no, .no, .no]) (seq_nx (set_v rfl) (seq_nx (for_v (iz rfl) e) (ret_v rfl)))
end LW
end

section
set_option maxRecDepth 100000
set_option maxHeartbeats 1000000
/-! NB: new turns of runs. -/
namespace LW
open PySem DL
theorem tupled_run (d : Nat) (r : Run) : F_tupled (d + 2) [runD r] = .ret (runD r) := by
  obtain ⟨h, n⟩ := r
  cases h <;> rfl
theorem tupled_lst {L : List Run} (hl : L.length < capD) : F_tupled 6 [.lst (L.map runD)] = .ret (runsD L) :=
  run_rt (B := B_tupled (F_tupled 5)) (ρ := [.val (.lst (L.map runD)), .no]) (ret_v (ifE_t (test_v rfl) (fn_v (ofl_v (comp_m (h := runD) (k := runD) rfl hl fun a _ => ⟨_, rfl, afn_v (cons_v rfl rfl) (tupled_run 3 a)⟩)) rfl)))
theorem tupled_tup {L : List Run} (hl : L.length < capD) : F_tupled 6 [.tup (L.map runD)] = .ret (runsD L) :=
  run_rt (B := B_tupled (F_tupled 5)) (ρ := [.val (.tup (L.map runD)), .no]) (ret_v (ifE_t (test_v rfl) (fn_v (ofl_v (comp_m (h := runD) (k := runD) rfl hl fun a _ => ⟨_, rfl, afn_v (cons_v rfl rfl) (tupled_run 3 a)⟩)) rfl)))
/-! ### joined -/
def jn (acc : List Run) (r : Run) : List Run := match acc.getLast? with
  | some l => bif l.1 == r.1 then acc.dropLast ++ [(r.1, l.2 + r.2)] else acc ++ [r]
  | none => acc ++ [r]
def joinR (L : List Run) : List Run := L.foldl jn []
theorem at_last {X : List D} {x : D} (h : X.length < 100000) : ixD (.tup (X ++ [x])) (.int (-1)) = .ret x := by
  have e : L2.atI (X ++ [x]) (-1) = some x := by
    unfold L2.atI L2.ixN
    rw [if_neg (by omega), List.length_append, List.length_singleton, if_pos (by omega)]
    show (X ++ [x])[((-1 : Int) + ((X.length + 1 : Nat) : Int)).toNat]? = some x
    rw [show ((-1 : Int) + ((X.length + 1 : Nat) : Int)).toNat = X.length by omega, List.getElem?_append_right (Nat.le_refl _), Nat.sub_self]
    rfl
  show (match L2.atI (X ++ [x]) (-1) with | some d => T.ret d | none => T.fail) = _
  rw [e]
theorem cut_last (X : List D) (x : D) : cutD (X ++ [x]) none (some (-1)) = X := by
  show ((X ++ [x]).drop 0).take ((if (-1 : Int) < 0 then ((-1 : Int) + ((X ++ [x]).length : Int)).toNat else min (-1 : Int).toNat (X ++ [x]).length) - 0) = _
  rw [if_pos (by omega), List.drop_zero, Nat.sub_zero, List.length_append, List.length_singleton]
  have : ((-1 : Int) + ((X.length + 1 : Nat) : Int)).toNat = X.length := by omega
  rw [this, List.take_left']
  rfl
abbrev JG : D → DL.Env → T DL.Env := gTupD (gsCons (gSet 2) (gsCons (gSet 3) gsNil))
abbrev JB : DL.Env → T Out := sIf (fAnd (fTest (fOp gtD (fFn lenD (fVar 1)) (fC (.int 0)))) (fTest (fOp eqD (fOp ixD (fOp ixD (fVar 1) (fUn negD (fC (.int 1)))) (fC (.int 0))) (fVar 2)))) (sSet 1 (fTup (aStar (fSl (fVar 1) oNo (oSome (fUn negD (fC (.int 1))))) (aCons (fTup (aCons (fVar 2) (aCons (fOp addD (fOp ixD (fOp ixD (fVar 1) (fUn negD (fC (.int 1)))) (fC (.int 1))) (fVar 3)) aNil))) aNil)))) (sSet 1 (fTup (aStar (fVar 1) (aCons (fTup (aCons (fVar 2) (aCons (fVar 3) aNil))) aNil))))
theorem jn_len (acc : List Run) (r : Run) : (jn acc r).length ≤ acc.length + 1 := by
  unfold jn
  cases h : acc.getLast? with
  | none => simp
  | some l =>
    show (bif l.1 == r.1 then acc.dropLast ++ [(r.1, l.2 + r.2)] else acc ++ [r]).length ≤ _
    cases l.1 == r.1 with
    | true => simp only [cond_true, List.length_append, List.length_dropLast, List.length_singleton]; omega
    | false => simp only [cond_false, List.length_append, List.length_singleton]; omega
theorem cat_run {A H N : DL.Env → T D} {ρ : DL.Env} {X : List Run} {h : Bool} {n : Int} (ha : A ρ = .ret (runsD X)) (hh : H ρ = .ret (hD h)) (hn : N ρ = .ret (.int n)) (hl : X.length + 1 ≤ 100000) :
    fTup (aStar A (aCons (fTup (aCons H (aCons N aNil))) aNil)) ρ = .ret (runsD (X ++ [(h, n)])) := by
  have e1 : fTup (aCons H (aCons N aNil)) ρ = .ret (runD (h, n)) := tup_v (cons_v hh (cons_v hn nil_v)) (by show 2 ≤ capD; decide)
  have e2 : aStar A (aCons (fTup (aCons H (aCons N aNil))) aNil) ρ = .ret (X.map runD ++ [runD (h, n)]) := star_v ha rfl (cons_v e1 nil_v)
  have e3 : runsD (X ++ [(h, n)]) = .tup (X.map runD ++ [runD (h, n)]) := congrArg D.tup (by rw [List.map_append]; rfl)
  rw [e3]
  refine tup_v e2 ?_
  rw [List.length_append, List.length_map]
  exact hl
theorem last_run (X : List Run) (l : Run) (h : X.length < 100000) : ixD (runsD (X ++ [l])) (.int (-1)) = .ret (runD l) := by
  have e3 : runsD (X ++ [l]) = .tup (X.map runD ++ [runD l]) := congrArg D.tup (by rw [List.map_append]; rfl)
  rw [e3]
  exact at_last (by rw [List.length_map]; exact h)
theorem front_run (X : List Run) (l : Run) : slD (runsD (X ++ [l])) none (some (-1)) = .ret (runsD X) := by
  have e3 : runsD (X ++ [l]) = .tup (X.map runD ++ [runD l]) := congrArg D.tup (by rw [List.map_append]; rfl)
  rw [e3]
  show T.ret (D.tup (cutD (X.map runD ++ [runD l]) none (some (-1)))) = _
  rw [cut_last]; rfl
theorem sl_v {a : DL.Env → T D} {lo hi : DL.Env → T (Option Int)} {ρ : DL.Env} {x : D} {l u : Option Int} {r : T D} (h : a ρ = .ret x) (hl : lo ρ = .ret l) (hu : hi ρ = .ret u) (k : slD x l u = r) : fSl a lo hi ρ = r := by
  unfold fSl
  rw [h, T.bind_ret, hl, T.bind_ret, hu, T.bind_ret]
  exact k
theorem jn_cat (X : List Run) (l : Run) (h : Bool) (n : Int) : jn (X ++ [l]) (h, n) = bif l.1 == h then X ++ [(h, l.2 + n)] else X ++ [l] ++ [(h, n)] := by
  unfold jn
  rw [List.getLast?_concat, List.dropLast_concat]
theorem len_runs (X : List Run) : lenD (runsD X) = .ret (.int ((X.length : Nat) : Int)) := by
  show T.ret (D.int (((X.map runD).length : Nat) : Int)) = _
  rw [List.length_map]
theorem jb_step (T0 : D) (acc : List Run) (h : Bool) (n : Int) (hl : acc.length + 1 < 100000) :
    JB [.val T0, .val (runsD acc), .val (hD h), .val (.int n)] = .ret (.nx [.val T0, .val (runsD (jn acc (h, n))), .val (hD h), .val (.int n)]) := by
  have ac : acc = [] ∨ ∃ pre l, acc = pre ++ [l] := by
    rcases List.eq_nil_or_concat acc with q | ⟨p, l, q⟩
    · exact .inl q
    · exact .inr ⟨p, l, by rw [q, List.concat_eq_append]⟩
  rcases ac with rfl | ⟨pre, l, rfl⟩
  · have c := cat_run (A := fVar 1) (H := fVar 2) (N := fVar 3) (ρ := [.val T0, .val (runsD []), .val (hD h), .val (.int n)]) (X := []) rfl rfl rfl (by decide)
    exact if_f (and_f (test_v rfl)) (set_v c)
  · rw [List.length_append, List.length_singleton] at hl
    have al := last_run pre l (by omega)
    have g0 : gtD (.int (((pre ++ [l]).length : Nat) : Int)) (.int 0) = .ret (.bl true) := by
      show T.ret (D.bl (decide ((0 : Int) < (((pre ++ [l]).length : Nat) : Int)))) = _
      rw [List.length_append, List.length_singleton, decide_eq_true (by omega)]
    have ix : fOp ixD (fVar 1) (fUn negD (fC (.int 1))) [.val T0, .val (runsD (pre ++ [l])), .val (hD h), .val (.int n)] = .ret (runD l) := op_v rfl (un_v rfl rfl) al
    have cnd : fAnd (fTest (fOp gtD (fFn lenD (fVar 1)) (fC (.int 0)))) (fTest (fOp eqD (fOp ixD (fOp ixD (fVar 1) (fUn negD (fC (.int 1)))) (fC (.int 0))) (fVar 2))) [.val T0, .val (runsD (pre ++ [l])), .val (hD h), .val (.int n)] = .ret (l.1 == h) :=
      and_v (c := true) (test_v (op_v (fn_v rfl (len_runs _)) rfl g0)) (test_v (op_v (op_v ix rfl rfl) rfl (eqD_hh l.1 h)))
    rw [jn_cat]
    have cd : (l.1 == h) = true ∨ (l.1 == h) = false := by cases l.1 == h <;> simp
    rcases cd with c | c
    · rw [c] at cnd ⊢
      have e := cat_run (A := fSl (fVar 1) oNo (oSome (fUn negD (fC (.int 1))))) (H := fVar 2) (N := fOp addD (fOp ixD (fOp ixD (fVar 1) (fUn negD (fC (.int 1)))) (fC (.int 1))) (fVar 3)) (ρ := [.val T0, .val (runsD (pre ++ [l])), .val (hD h), .val (.int n)]) (X := pre) (h := h) (n := l.2 + n)
        (sl_v rfl rfl rfl (front_run pre l)) rfl (op_v (op_v ix rfl rfl) rfl rfl) (by omega)
      exact if_t cnd (set_v e)
    · rw [c] at cnd ⊢
      have e := cat_run (A := fVar 1) (H := fVar 2) (N := fVar 3) (ρ := [.val T0, .val (runsD (pre ++ [l])), .val (hD h), .val (.int n)]) (X := pre ++ [l]) (h := h) (n := n) rfl rfl rfl (by rw [List.length_append, List.length_singleton]; omega)
      exact if_f cnd (set_v e)
theorem join_loop (T0 : D) : ∀ (L acc : List Run) (s2 s3 : Slot), acc.length + L.length < 100000 → ∃ s2' s3', forT JG JB [.val T0, .val (runsD acc), s2, s3] (L.map runD) = .ret (.nx [.val T0, .val (runsD (L.foldl jn acc)), s2', s3'])
  | [], acc, s2, s3, _ => ⟨s2, s3, rfl⟩
  | (h, n) :: L, acc, s2, s3, hl => by
    have l1 := jn_len acc (h, n)
    rw [List.length_cons] at hl
    obtain ⟨s2', s3', e⟩ := join_loop T0 L (jn acc (h, n)) (.val (hD h)) (.val (.int n)) (by omega)
    exact ⟨s2', s3', Eq.trans (for_nx rfl (jb_step T0 acc h n (by omega))) e⟩
theorem join_eq {L : List Run} (hl : L.length < 100000) : F_joined_runs [runsD L] = .ret (runsD (joinR L)) := by
  obtain ⟨s2', s3', e⟩ := join_loop (runsD L) L [] .no .no (by rw [List.length_nil]; omega)
  exact run_rt (B := B_joined_runs) (ρ := [.val (runsD L), .no, .no, .no]) (seq_nx (set_v (tup_v rfl (by show 0 ≤ capD; decide))) (seq_nx (for_v rfl e) (ret_v rfl)))
/-! ### ends_of -/
theorem rangeD_map : ∀ (n : Nat) (lo : Int), rangeD lo n = (List.range n).map fun i => D.int (lo + (i : Nat))
  | 0, _ => rfl
  | n + 1, lo => by
    show D.int lo :: rangeD (lo + 1) n = _
    rw [rangeD_map n, List.range_succ_eq_map, List.map_cons, List.map_map]
    congr 1
    · show D.int lo = D.int (lo + ((0 : Nat) : Int))
      congr 1; omega
    · refine List.map_congr_left fun i _ => ?_
      show D.int (lo + 1 + (i : Nat)) = D.int (lo + ((i + 1 : Nat) : Int))
      congr 1; omega
theorem ends_sum : ∀ (R : List Run) (b : Int), ((List.range R.length).map fun i => b + ((R.take (i + 1)).map fun r => r.2).sum) = endsR b R
  | [], _ => rfl
  | r :: R, b => by
    rw [List.length_cons, List.range_succ_eq_map, List.map_cons, List.map_map]
    show (b + (r.2 + 0)) :: _ = (b + r.2) :: endsR (b + r.2) R
    rw [Int.add_zero, ← ends_sum R (b + r.2)]
    congr 1
    refine List.map_congr_left fun i _ => ?_
    show b + (r.2 + ((R.take (i + 1)).map fun r => r.2).sum) = _
    rw [Int.add_assoc]
theorem cut_take (xs : List D) (k : Nat) : cutD xs none (some (k : Int)) = xs.take k := by
  show (xs.drop 0).take ((if (k : Int) < 0 then ((k : Int) + (xs.length : Int)).toNat else min (k : Int).toNat xs.length) - 0) = _
  rw [if_neg (by omega), Int.toNat_natCast, List.drop_zero, Nat.sub_zero]
  rcases Nat.le_total k xs.length with h | h
  · rw [Nat.min_eq_left h]
  · rw [Nat.min_eq_right h, List.take_length, List.take_of_length_le h]
theorem range_v {a : DL.Env → T (List D)} {ρ : DL.Env} {n : Nat} (h : a ρ = .ret [.int (n : Nat)]) (hn : n < 100000) : iRange1 a ρ = .ret ((List.range n).map fun i => D.int ((i : Nat) : Int)) := by
  unfold iRange1
  rw [h]
  show (match okR ((n : Nat) : Int) with | true => T.ret (rangeD 0 ((n : Nat) : Int).toNat) | false => .fail) = _
  rw [show okR ((n : Nat) : Int) = true from decide_eq_true ⟨by omega, by omega⟩]
  show T.ret (rangeD 0 ((n : Nat) : Int).toNat) = _
  rw [Int.toNat_natCast, rangeD_map]
  congr 2
  funext i
  congr 1; omega
theorem endsof_eq {R : List Run} (hl : R.length < 100000) : F_ends_of [runsD R] = .ret (.tup (iD (endsR 0 R))) := by
  have lm : (R.map runD).length = R.length := List.length_map _
  have c : fComp (iRange1 (aCons (fFn lenD (fVar 0)) aNil)) (gSet 1) fYes (fFn sumD (fOfL (fComp (iSeq (fSl (fVar 0) oNo (oSome (fOp addD (fVar 1) (fC (.int 1)))))) (gTupD (gsCons (gSet 2) (gsCons (gSet 3) gsNil))) fYes (fVar 3) [2, 3]))) [1] [.val (runsD R), .no, .no, .no] = .ret (iD (endsR 0 R)) := by
    refine (comp_m (α := Nat) (h := fun i => .int ((i : Nat) : Int)) (k := fun i => .int (0 + ((R.take (i + 1)).map fun r => r.2).sum)) (ds := List.range R.length) (range_v (cons_v (fn_v rfl (show lenD (runsD R) = .ret (.int ((R.length : Nat) : Int)) by show T.ret (D.int (((R.map runD).length : Nat) : Int)) = _; rw [lm])) rfl) hl) (by rw [List.length_range]; exact hl) fun i _ => ⟨_, rfl, ?_⟩).trans ?_
    · rw [Int.zero_add]
      refine fn_v (ofl_v (comp_m (h := runD) (k := fun r => .int r.2) (ds := R.take (i + 1)) ?_ (by rw [List.length_take]; show min (i + 1) R.length < 100000; omega) fun a _ => ⟨_, rfl, rfl⟩)) (sumD_map _ _)
      show T.ret (cutD (R.map runD) none (some (((i : Nat) : Int) + 1))) = _
      rw [show (((i : Nat) : Int) + 1) = ((i + 1 : Nat) : Int) from rfl, cut_take, List.map_take]
    · rw [← ends_sum R 0, iD, List.map_map]
      rfl
  exact run_rt (B := B_ends_of) (ρ := [.val (runsD R), .no, .no, .no]) (ret_v (fn_v (ofl_v c) rfl))
/-! ### Turns(..) -/
abbrev IG : D → DL.Env → T DL.Env := gTupD (gsCons (gSet 3) (gsCons (gTupD (gsCons (gSet 4) (gsCons (gSet 5) gsNil))) gsNil))
abbrev IB : DL.Env → T Out := sIf (fOr (fTest (fOp ninD (fVar 4) (fC (.tup [(.str (PySem.Str.ofString "a")), (.str (PySem.Str.ofString "b"))])))) (fTest (fOp ltD (fVar 5) (fC (.int 1))))) sNever sNext
theorem nin_heir (h : Bool) : ninD (hD h) (.tup [.str (PySem.Str.ofString "a"), .str (PySem.Str.ofString "b")]) = .ret (.bl false) := by cases h <;> rfl
theorem init_loop (s0 : Slot) (x r2 : D) : ∀ (L : List Run) (k : Int) (s3 s4 s5 : Slot), (∀ r ∈ L, 1 ≤ r.2) → ∃ s3' s4' s5', forT IG IB [s0, .val x, .val r2, s3, s4, s5] (enumFrom k (L.map runD)) = .ret (.nx [s0, .val x, .val r2, s3', s4', s5'])
  | [], k, s3, s4, s5, _ => ⟨s3, s4, s5, rfl⟩
  | (h, n) :: L, k, s3, s4, s5, hp => by
    obtain ⟨s3', s4', s5', e⟩ := init_loop s0 x r2 L (k + 1) (.val (.int k)) (.val (hD h)) (.val (.int n)) fun r hr => hp r (.tail _ hr)
    have h1 : 1 ≤ n := hp (h, n) (.head _)
    refine ⟨s3', s4', s5', Eq.trans (for_nx rfl (if_nx (or_v (c := false) (c' := false) (test_v (op_v rfl rfl (nin_heir h))) (test_v (op_v rfl rfl ?_))))) e⟩
    show T.ret (D.bl (decide (n < 1))) = _
    rw [decide_eq_false (by omega)]
theorem init_eq {x : D} {L : List Run} (ht : F_tupled 6 [x] = .ret (runsD L)) (hl : L.length < 100000) (hj : (joinR L).length < 100000) (hp : ∀ r ∈ L, 1 ≤ r.2) : I_Turns_init [x] = .ret [.tup (iD (endsR 0 (joinR L))), runsD (joinR L)] := by
  obtain ⟨s3', s4', s5', e⟩ := init_loop .me x (runsD L) L 0 .no .no .no hp
  have e1 : sSet 2 (aFn (F_tupled 6) (aCons (fVar 1) aNil)) [.me, .val x, .no, .no, .no, .no] = .ret (.nx [.me, .val x, .val (runsD L), .no, .no, .no]) := set_v (afn_v (by rfl) ht)
  have e2 : sFor (iEnum (fVar 2)) IG IB [.me, .val x, .val (runsD L), .no, .no, .no] = .ret (.nx [.me, .val x, .val (runsD L), s3', s4', s5']) := for_v rfl e
  have j1 : jFld (kk := 0) 1 (aFn F_joined_runs (aCons (fVar 2) aNil)) [.urn, .urn] (fullE [.me, .val x, .val (runsD L), s3', s4', s5']) = .ret [.urn, runsD (joinR L)] := by
    show (T.bind (F_joined_runs [runsD L]) _) = _
    rw [join_eq hl]
    rfl
  have j2 : jFld (kk := 0) 0 (aFn F_ends_of (aCons (fFldO 0 0 1) aNil)) [.urn, runsD (joinR L)] (fullE [.me, .val x, .val (runsD L), s3', s4', s5']) = .ret [.tup (iD (endsR 0 (joinR L))), runsD (joinR L)] := by
    show (T.bind (F_ends_of [runsD (joinR L)]) _) = _
    rw [endsof_eq hj]
    rfl
  show (B_Turns_init [.me, .val x, .no, .no, .no, .no]) = _
  show (T.bind (sSet 2 (aFn (F_tupled 6) (aCons (fVar 1) aNil)) [.me, .val x, .no, .no, .no, .no]) _) = _
  rw [e1]
  show (T.bind (sFor (iEnum (fVar 2)) IG IB [.me, .val x, .val (runsD L), .no, .no, .no]) _) = _
  rw [e2]
  show (T.bind (T.bind (jFld (kk := 0) 1 (aFn F_joined_runs (aCons (fVar 2) aNil)) [.urn, .urn] (fullE [.me, .val x, .val (runsD L), s3', s4', s5'])) _) _) = _
  rw [j1]
  show (T.bind (jFld (kk := 0) 0 (aFn F_ends_of (aCons (fFldO 0 0 1) aNil)) [.urn, runsD (joinR L)] (fullE [.me, .val x, .val (runsD L), s3', s4', s5'])) _) = _
  rw [j2]
  rfl
theorem jfold_len : ∀ (L acc : List Run), (L.foldl jn acc).length ≤ acc.length + L.length
  | [], acc => Nat.le_add_right _ _
  | r :: L, acc => by
    have h1 := jfold_len L (jn acc r)
    have h2 := jn_len acc r
    rw [List.foldl_cons, List.length_cons]
    omega
theorem join_len (L : List Run) : (joinR L).length ≤ L.length := by
  have := jfold_len L []
  rw [List.length_nil, Nat.zero_add] at this
  exact this
/-- new turns of a list, of a tuple -/
theorem mkL {aa : DL.Env → T (List D)} {ρ : DL.Env} {L : List Run} (h : aa ρ = .ret [.lst (L.map runD)]) (hl : L.length < 100000) (hp : ∀ r ∈ L, 1 ≤ r.2) : fMake 0 aa I_Turns_init ρ = .ret (TU (joinR L)) :=
  make_v h (init_eq (tupled_lst hl) hl (Nat.lt_of_le_of_lt (join_len L) hl) hp)
theorem mkT {aa : DL.Env → T (List D)} {ρ : DL.Env} {L : List Run} (h : aa ρ = .ret [runsD L]) (hl : L.length < 100000) (hp : ∀ r ∈ L, 1 ≤ r.2) : fMake 0 aa I_Turns_init ρ = .ret (TU (joinR L)) :=
  make_v h (init_eq (tupled_tup hl) hl (Nat.lt_of_le_of_lt (join_len L) hl) hp)
end LW
end

section
set_option maxRecDepth 100000
set_option maxHeartbeats 1000000
/-! NC: runs without neighbours of one heir; turns made of turns. -/
namespace LW
open PySem DL
def altB : Option Bool → List Run → Bool
  | _, [] => true
  | p, r :: R => (p != some r.1) && altB (some r.1) R
def lastH : Option Bool → List Run → Option Bool
  | p, [] => p
  | _, r :: R => lastH (some r.1) R
def headH : List Run → Option Bool
  | [] => none
  | r :: _ => some r.1
theorem alt_app : ∀ (X Y : List Run) (p : Option Bool), altB p (X ++ Y) = (altB p X && altB (lastH p X) Y)
  | [], Y, p => by rw [List.nil_append]; rfl
  | r :: X, Y, p => by
    show ((p != some r.1) && altB (some r.1) (X ++ Y)) = (((p != some r.1) && altB (some r.1) X) && altB (lastH (some r.1) X) Y)
    rw [alt_app X Y, Bool.and_assoc]
theorem last_app : ∀ (X Y : List Run) (p : Option Bool), lastH p (X ++ Y) = lastH (lastH p X) Y
  | [], Y, p => rfl
  | r :: X, Y, p => last_app X Y (some r.1)
theorem alt_jn (acc : List Run) (r : Run) (h : altB none acc = true) : altB none (jn acc r) = true := by
  obtain ⟨a, n⟩ := r
  have ac : acc = [] ∨ ∃ pre l, acc = pre ++ [l] := by
    rcases List.eq_nil_or_concat acc with q | ⟨p, l, q⟩
    · exact .inl q
    · exact .inr ⟨p, l, by rw [q, List.concat_eq_append]⟩
  rcases ac with rfl | ⟨pre, l, rfl⟩
  · rfl
  · rw [jn_cat]
    rw [alt_app] at h
    cases c : l.1 == a with
    | true =>
      rw [beq_iff_eq] at c
      rw [cond_true, alt_app]
      subst c
      exact h
    | false =>
      rw [cond_false, alt_app, alt_app, h, last_app]
      show (true && ((some l.1 != some a) && true)) = true
      simp only [Bool.true_and, Bool.and_true]
      revert c
      cases l.1 <;> cases a <;> decide
theorem alt_fold : ∀ (L acc : List Run), altB none acc = true → altB none (L.foldl jn acc) = true
  | [], acc, h => h
  | r :: L, acc, h => alt_fold L (jn acc r) (alt_jn acc r h)
theorem alt_join (L : List Run) : altB none (joinR L) = true := alt_fold L [] rfl
theorem fold_alt : ∀ (L acc : List Run), altB none (acc ++ L) = true → L.foldl jn acc = acc ++ L
  | [], acc, h => by rw [List.append_nil]; rfl
  | r :: L, acc, h => by
    have e : jn acc r = acc ++ [r] := by
      obtain ⟨a, n⟩ := r
      have ac : acc = [] ∨ ∃ pre l, acc = pre ++ [l] := by
        rcases List.eq_nil_or_concat acc with q | ⟨p, l, q⟩
        · exact .inl q
        · exact .inr ⟨p, l, by rw [q, List.concat_eq_append]⟩
      rcases ac with rfl | ⟨pre, l, rfl⟩
      · rfl
      · rw [jn_cat]
        rw [alt_app, last_app, Bool.and_eq_true] at h
        have h2 : ((some l.1 != some a) && altB (some a) L) = true := h.2
        rw [Bool.and_eq_true] at h2
        have h3 := h2.1
        have c : (l.1 == a) = false := by
          revert h3
          cases l.1 <;> cases a <;> decide
        rw [c, cond_false]
    rw [List.foldl_cons, e, fold_alt L (acc ++ [r]) (by rw [List.append_assoc]; exact h), List.append_assoc]
    rfl
theorem join_alt {R : List Run} (h : altB none R = true) : joinR R = R := fold_alt R [] h
theorem join_idem (L : List Run) : joinR (joinR L) = joinR L := join_alt (alt_join L)
theorem alt_some (x : Bool) : ∀ R : List Run, altB (some x) R = ((headH R != some x) && altB none R)
  | [] => rfl
  | r :: R => by
    show ((some x != some r.1) && altB (some r.1) R) = ((some r.1 != some x) && ((none != some r.1) && altB (some r.1) R))
    have : (some x != some r.1) = (some r.1 != some x) := by cases x <;> cases r.1 <;> rfl
    rw [this]
    rfl
theorem last_rev : ∀ R : List Run, lastH none R.reverse = headH R
  | [] => rfl
  | r :: R => by rw [List.reverse_cons, last_app]; rfl
theorem alt_rev : ∀ R : List Run, altB none R.reverse = altB none R
  | [] => rfl
  | r :: R => by
    rw [List.reverse_cons, alt_app, alt_rev R, last_rev]
    show (altB none R && ((headH R != some r.1) && true)) = ((none != some r.1) && altB (some r.1) R)
    rw [alt_some, Bool.and_true, Bool.and_comm]
    rfl
/-! ### the same with other numbers, other heirs -/
def scaleR (m : Int) (R : List Run) : List Run := R.map fun r => (r.1, r.2 * m)
def swapR (R : List Run) : List Run := R.map fun r => (!r.1, r.2)
theorem jn_scale (m : Int) (acc : List Run) (r : Run) : jn (scaleR m acc) (r.1, r.2 * m) = scaleR m (jn acc r) := by
  obtain ⟨a, n⟩ := r
  have ac : acc = [] ∨ ∃ pre l, acc = pre ++ [l] := by
    rcases List.eq_nil_or_concat acc with q | ⟨p, l, q⟩
    · exact .inl q
    · exact .inr ⟨p, l, by rw [q, List.concat_eq_append]⟩
  rcases ac with rfl | ⟨pre, l, rfl⟩
  · rfl
  · rw [jn_cat]
    unfold scaleR
    rw [List.map_append]
    show jn (pre.map (fun r => (r.1, r.2 * m)) ++ [(l.1, l.2 * m)]) (a, n * m) = _
    rw [jn_cat]
    cases l.1 == a with
    | true =>
      show pre.map (fun r => (r.1, r.2 * m)) ++ [(a, l.2 * m + n * m)] = (pre ++ [(a, l.2 + n)]).map fun r => (r.1, r.2 * m)
      rw [List.map_append, ← Int.add_mul]; rfl
    | false =>
      show pre.map (fun r => (r.1, r.2 * m)) ++ [(l.1, l.2 * m)] ++ [(a, n * m)] = (pre ++ [l] ++ [(a, n)]).map fun r => (r.1, r.2 * m)
      rw [List.map_append, List.map_append]; rfl
theorem fold_scale (m : Int) : ∀ (L acc : List Run), (scaleR m L).foldl jn (scaleR m acc) = scaleR m (L.foldl jn acc)
  | [], acc => rfl
  | r :: L, acc => by
    show (scaleR m L).foldl jn (jn (scaleR m acc) (r.1, r.2 * m)) = _
    rw [jn_scale, fold_scale m L]; rfl
theorem join_scale (m : Int) (L : List Run) : joinR (scaleR m L) = scaleR m (joinR L) := fold_scale m L []
theorem alt_swap : ∀ (R : List Run) (p : Option Bool), altB (p.map not) (swapR R) = altB p R
  | [], p => rfl
  | r :: R, p => by
    show ((p.map not != some (!r.1)) && altB (some (!r.1)) (swapR R)) = ((p != some r.1) && altB (some r.1) R)
    rw [show some (!r.1) = (some r.1).map not from rfl, alt_swap R (some r.1)]
    congr 1
    cases p with
    | none => rfl
    | some x => cases x <;> cases r.1 <;> rfl
theorem alt_swap' {R : List Run} (h : altB none R = true) : altB none (swapR R) = true := (alt_swap R none).trans h
theorem alt_scale (m : Int) : ∀ (R : List Run) (p : Option Bool), altB p (scaleR m R) = altB p R
  | [], p => rfl
  | r :: R, p => by
    show ((p != some r.1) && altB (some r.1) (scaleR m R)) = _
    rw [alt_scale m R]; rfl
/-- turns as they are kept -/
structure Ok9 (R : List Run) : Prop where
  alt : altB none R = true
  pos : ∀ r ∈ R, 1 ≤ r.2
  len : R.length < 100000
  sm : sizeR R < 2 ^ 60
theorem Ok9.swap {R : List Run} (h : Ok9 R) : Ok9 (swapR R) :=
  ⟨alt_swap' h.alt, fun r hr => by
    obtain ⟨q, hq, rfl⟩ := List.mem_map.mp hr
    exact h.pos q hq, by unfold swapR; rw [List.length_map]; exact h.len, by
    have e : sizeR (swapR R) = sizeR R := by unfold sizeR swapR; rw [List.map_map]; rfl
    rw [e]; exact h.sm⟩
theorem swapped_eq {R : List Run} (h : Ok9 R) : F_swapped [TU R] = .ret (TU (swapR R)) := by
  have c : fComp (iSeq (fProp 0 F_Turns_runs (fVar 0))) (gTupD (gsCons (gSet 1) (gsCons (gSet 2) gsNil))) fYes (fTup (aCons (fIf (fTest (fOp eqD (fVar 1) (fC (.str (PySem.Str.ofString "a"))))) (fC (.str (PySem.Str.ofString "b"))) (fC (.str (PySem.Str.ofString "a")))) (aCons (fVar 2) aNil))) [1, 2] [.val (TU R), .no, .no] = .ret ((swapR R).map runD) := by
    have hl := h.len
    refine (comp_m (h := runD) (k := fun r => runD (!r.1, r.2)) (ds := R) (seq_v (prop_v rfl (runs_eq R)) rfl) hl fun a _ => ⟨_, rfl, ?_⟩).trans (by unfold swapR; rw [List.map_map]; rfl)
    refine tup_v (cons_v (d := hD (!a.1)) ?_ (cons_v rfl nil_v)) (by show 2 ≤ capD; decide)
    obtain ⟨b, n⟩ := a
    cases b with
    | true => exact ifE_t (test_v (op_v rfl rfl (eqD_a true))) rfl
    | false => exact ifE_f (test_v (op_v rfl rfl (eqD_a false))) rfl
  have s := h.swap
  have e := mkL (aa := aCons (fOfL (fComp (iSeq (fProp 0 F_Turns_runs (fVar 0))) (gTupD (gsCons (gSet 1) (gsCons (gSet 2) gsNil))) fYes (fTup (aCons (fIf (fTest (fOp eqD (fVar 1) (fC (.str (PySem.Str.ofString "a"))))) (fC (.str (PySem.Str.ofString "b"))) (fC (.str (PySem.Str.ofString "a")))) (aCons (fVar 2) aNil))) [1, 2])) aNil) (ρ := [.val (TU R), .no, .no]) (cons_v (ofl_v c) nil_v) s.len s.pos
  rw [join_alt s.alt] at e
  exact run_rt (B := B_swapped) (ρ := [.val (TU R), .no, .no]) (ret_v e)
theorem mul_small {i m : Int} (h : m.natAbs < 18446744073709551616) : mulD (.int i) (.int m) = .ret (.int (i * m)) := by
  show (match small i || small m with | true => T.ret (D.int (i * m)) | false => .fail) = _
  rw [show small m = true from decide_eq_true h, Bool.or_true]
theorem mul_smallL {i m : Int} (h : i.natAbs < 18446744073709551616) : mulD (.int i) (.int m) = .ret (.int (i * m)) := by
  show (match small i || small m with | true => T.ret (D.int (i * m)) | false => .fail) = _
  rw [show small i = true from decide_eq_true h, Bool.true_or]
theorem times_eq {R : List Run} {m : Int} (h : Ok9 R) (hs : Ok9 (scaleR m R)) (hm : m.natAbs < 18446744073709551616) : F__law_times [TU R, .int m] = .ret (TU (scaleR m R)) := by
  have hl := h.len
  have c : fComp (iSeq (fProp 0 F_Turns_runs (fVar 0))) (gTupD (gsCons (gSet 2) (gsCons (gSet 3) gsNil))) fYes (fTup (aCons (fVar 2) (aCons (fOp mulD (fVar 3) (fVar 1)) aNil))) [2, 3] [.val (TU R), .val (.int m), .no, .no] = .ret ((scaleR m R).map runD) := by
    refine (comp_m (h := runD) (k := fun r => runD (r.1, r.2 * m)) (ds := R) (seq_v (prop_v rfl (runs_eq R)) rfl) hl fun a _ => ⟨_, rfl, ?_⟩).trans (by unfold scaleR; rw [List.map_map]; rfl)
    exact tup_v (cons_v rfl (cons_v (op_v rfl rfl (mul_small hm)) nil_v)) (by show 2 ≤ capD; decide)
  have e := mkT (aa := aCons (fFn tupOfD (fOfL (fComp (iSeq (fProp 0 F_Turns_runs (fVar 0))) (gTupD (gsCons (gSet 2) (gsCons (gSet 3) gsNil))) fYes (fTup (aCons (fVar 2) (aCons (fOp mulD (fVar 3) (fVar 1)) aNil))) [2, 3]))) aNil) (ρ := [.val (TU R), .val (.int m), .no, .no]) (cons_v (fn_v (ofl_v c) rfl) nil_v) hs.len hs.pos
  rw [join_alt hs.alt] at e
  exact run_rt (B := B__law_times) (ρ := [.val (TU R), .val (.int m), .no, .no]) (ret_v e)
theorem Ok9.rev {R : List Run} (h : Ok9 R) : Ok9 R.reverse :=
  ⟨(alt_rev R).trans h.alt, fun r hr => h.pos r (List.mem_reverse.mp hr), by rw [List.length_reverse]; exact h.len, by
    have e : sizeR R.reverse = sizeR R := by
      unfold sizeR
      rw [List.map_reverse, List.sum_reverse]
    rw [e]; exact h.sm⟩
theorem backwards_eq {R : List Run} (h : Ok9 R) : F_backwards [TU R] = .ret (TU R.reverse) := by
  have s := h.rev
  have e := mkT (aa := aCons (fRev (fProp 0 F_Turns_runs (fVar 0))) aNil) (ρ := [.val (TU R)]) (L := R.reverse) (cons_v (rev_v (prop_v rfl (runs_eq R)) (by
    show T.ret (D.tup (R.map runD).reverse) = _
    rw [← List.map_reverse]; rfl)) nil_v) s.len s.pos
  rw [join_alt s.alt] at e
  exact run_rt (B := B_backwards) (ρ := [.val (TU R)]) (ret_v e)
end LW
end

section
set_option maxRecDepth 100000
set_option maxHeartbeats 1000000
/-! ND: lead, lag, sums of places, heights. -/
namespace LW
open PySem DL
theorem max_map {α : Type} (f : α → Int) (l : List α) : maxLD (.lst (.int 0 :: (l.map (fun a => D.int (f a)) ++ []))) = .ret (.int (maxI 0 (l.map f))) := by
  rw [List.append_nil]
  show (match (match intsD (l.map fun a => D.int (f a)) with | some is => some ((0 : Int) :: is) | none => none) with | some (i :: is) => T.ret (D.int (maxI i is)) | _ => .fail) = _
  rw [ints_map]
/-! ### lead -/
def leadR (R : List Run) : Int := maxI 0 ((endsR 0 R).map fun e => aheadR e 0 R + aheadR e 0 R - e)
theorem lead_eq {R : List Run} (hl : R.length < 100000 - 1) : F_lead [TU R] = .ret (.int (leadR R)) := by
  have c : fComp (iSeq (fProp 0 F_Turns_ends (fVar 0))) (gSet 1) fYes (fOp subD (fOp addD (aFn F_ahead (aCons (fVar 0) (aCons (fVar 1) aNil))) (aFn F_ahead (aCons (fVar 0) (aCons (fVar 1) aNil)))) (fVar 1)) [1] [.val (TU R), .no] = .ret ((endsR 0 R).map fun e => D.int (aheadR e 0 R + aheadR e 0 R - e)) :=
    comp_m (α := Int) (h := .int) (ds := endsR 0 R) (seq_v (prop_v rfl (ends_eq R)) rfl) (by rw [len_ends]; show R.length < 100000; omega) fun e _ => ⟨_, rfl, op_v (op_v (afn_v (cons_v rfl (cons_v rfl nil_v)) (ahead_eq R e)) (afn_v (cons_v rfl (cons_v rfl nil_v)) (ahead_eq R e)) rfl) rfl rfl⟩
  exact run_rt (B := B_lead) (ρ := [.val (TU R), .no]) (ret_v (fn_v (ofl_v (lst_v (cons_v rfl (star_v (ofl_v c) rfl nil_v)) (by rw [List.length_cons, List.length_append, List.length_map, len_ends]; show R.length + 0 + 1 ≤ 100000; omega))) (max_map _ _)))
theorem swap_len (R : List Run) : (swapR R).length = R.length := by unfold swapR; rw [List.length_map]
theorem lag_eq {R : List Run} (h : Ok9 R) (hl : R.length < 100000 - 1) : F_lag [TU R] = .ret (.int (leadR (swapR R))) :=
  run_rt (B := B_lag) (ρ := [.val (TU R)]) (ret_v (afn_v (cons_v (afn_v (cons_v rfl nil_v) (swapped_eq h)) nil_v) (lead_eq (by rw [swap_len]; exact hl))))
theorem never_behind_eq {R : List Run} (h : Ok9 R) (hl : R.length < 100000 - 1) : F_never_behind [TU R] = .ret (.bl (decide (leadR (swapR R) = 0))) :=
  run_rt (B := B_never_behind) (ρ := [.val (TU R)]) (ret_v (op_v (afn_v (cons_v rfl nil_v) (lag_eq h hl)) rfl rfl))
theorem most_gain_eq {R : List Run} {k : Int} (hk : k.natAbs < 18446744073709551616) (hl : R.length < 100000 - 1) : F_most_gain [TU R, .int k] = .ret (.int (k * leadR R)) :=
  run_rt (B := B_most_gain) (ρ := [.val (TU R), .val (.int k)]) (ret_v (op_v rfl (afn_v (cons_v rfl nil_v) (lead_eq hl)) (mul_smallL hk)))
theorem spread_eq {R : List Run} (h : Ok9 R) (hl : R.length < 100000 - 1) : F_spread [TU R] = .ret (.int (max (leadR R) (leadR (swapR R)))) :=
  run_rt (B := B_spread) (ρ := [.val (TU R)]) (ret_v (afn_v (cons_v (afn_v (cons_v rfl nil_v) (lead_eq hl)) (cons_v (afn_v (cons_v rfl nil_v) (lag_eq h hl)) nil_v)) (max2 _ _)))
/-! ### behind_at -/
def behindR : Int → Int → List Run → Option Int
  | _, _, [] => none
  | here, b, r :: R => bif !r.1 && decide (here < r.2) then some (b + here + 1) else behindR (here + (bif r.1 then r.2 else -r.2)) (b + r.2) R
abbrev HG : D → DL.Env → T DL.Env := gTupD (gsCons (gTupD (gsCons (gSet 4) (gsCons (gSet 5) gsNil))) (gsCons (gSet 3) gsNil))
abbrev HB : DL.Env → T Out := sSeq (sIf (fAnd (fTest (fOp eqD (fVar 4) (fC (.str (PySem.Str.ofString "b"))))) (fTest (fOp gtD (fVar 5) (fVar 1)))) (sRet (fOp addD (fOp addD (fVar 2) (fVar 1)) (fC (.int 1)))) sNext) (sParVV 1 2 (fOp addD (fVar 1) (fIf (fTest (fOp eqD (fVar 4) (fC (.str (PySem.Str.ofString "a"))))) (fVar 5) (fUn negD (fVar 5)))) (fVar 3))
def oD : Option Int → D
  | none => .non
  | some k => .int k
theorem behind_loop (T0 : D) : ∀ (R : List Run) (here b : Int) (s3 s4 s5 : Slot), ∃ a1 a2 s3' s4' s5', forT HG HB [.val T0, .val (.int here), .val (.int b), s3, s4, s5] ((tri b R).map triD) =
    .ret (match behindR here b R with | some k => .rt (.int k) | none => .nx [.val T0, .val (.int a1), .val (.int a2), s3', s4', s5'])
  | [], here, b, s3, s4, s5 => ⟨here, b, s3, s4, s5, rfl⟩
  | (true, n) :: R, here, b, s3, s4, s5 => by
    obtain ⟨a1, a2, s3', s4', s5', e⟩ := behind_loop T0 R (here + n) (b + n) (.val (.int (b + n))) (.val (hD true)) (.val (.int n))
    exact ⟨a1, a2, s3', s4', s5', Eq.trans (for_nx rfl (seq_nx (if_nx (and_f (test_v (op_v rfl rfl (eqD_b true))))) (par_v (op_v rfl (ifE_t (test_v (op_v rfl rfl (eqD_a true))) rfl) rfl) rfl))) e⟩
  | (false, n) :: R, here, b, s3, s4, s5 => by
    cases c : decide (here < n) with
    | true =>
      refine ⟨0, 0, .no, .no, .no, ?_⟩
      have e : behindR here b ((false, n) :: R) = some (b + here + 1) := by
        show (bif !false && decide (here < n) then _ else _) = _
        rw [c]; rfl
      rw [e]
      refine for_rt rfl (seq_rt (if_t (and_v (c := true) (c' := true) (test_v (op_v rfl rfl (eqD_b false))) (test_v (op_v rfl rfl ?_))) (ret_v (op_v (op_v rfl rfl rfl) rfl rfl))))
      show T.ret (D.bl (decide (here < n))) = _
      rw [c]
    | false =>
      obtain ⟨a1, a2, s3', s4', s5', e⟩ := behind_loop T0 R (here + -n) (b + n) (.val (.int (b + n))) (.val (hD false)) (.val (.int n))
      have e' : behindR here b ((false, n) :: R) = behindR (here + -n) (b + n) R := by
        show (bif !false && decide (here < n) then _ else _) = _
        rw [c]; rfl
      rw [e']
      refine ⟨a1, a2, s3', s4', s5', Eq.trans (for_nx rfl (seq_nx (if_nx (and_v (c := true) (c' := false) (test_v (op_v rfl rfl (eqD_b false))) (test_v (op_v rfl rfl ?_)))) (par_v (op_v rfl (ifE_f (test_v (op_v rfl rfl (eqD_a false))) (un_v rfl rfl)) rfl) rfl))) e⟩
      show T.ret (D.bl (decide (here < n))) = _
      rw [c]
theorem behind_eq (R : List Run) : F_behind_at [TU R] = .ret (oD (behindR 0 0 R)) := by
  obtain ⟨a1, a2, s3', s4', s5', e⟩ := behind_loop (TU R) R 0 0 .no .no .no
  have e1 : sUnp (fTup (aCons (fC (.int 0)) (aCons (fC (.int 0)) aNil))) (gTupD (gsCons (gSet 1) (gsCons (gSet 2) gsNil))) [.val (TU R), .no, .no, .no, .no, .no] = .ret (.nx [.val (TU R), .val (.int 0), .val (.int 0), .no, .no, .no]) := unp_v (tup_v (cons_v rfl (cons_v rfl nil_v)) (by show 2 ≤ capD; decide)) rfl
  cases h : behindR 0 0 R with
  | some k =>
    rw [h] at e
    exact run_rt (B := B_behind_at) (ρ := [.val (TU R), .no, .no, .no, .no, .no]) (seq_nx e1 (seq_rt (for_v (iz rfl) e)))
  | none =>
    rw [h] at e
    exact run_rt (B := B_behind_at) (ρ := [.val (TU R), .no, .no, .no, .no, .no]) (seq_nx e1 (seq_nx (for_v (iz rfl) e) (ret_v rfl)))
/-! ### place_sum -/
def Sm (R : List Run) : Prop := ∀ r ∈ R, r.2.natAbs < 18446744073709551616
def placeR : Int → List Run → Int
  | _, [] => 0
  | b, r :: R => (bif r.1 then r.2 * ((b + r.2) + (b + r.2) - r.2 + 1) / 2 else 0) + placeR (b + r.2) R
abbrev PG : D → DL.Env → T DL.Env := gTupD (gsCons (gTupD (gsCons (gSet 3) (gsCons (gSet 4) gsNil))) (gsCons (gSet 2) gsNil))
abbrev PB : DL.Env → T Out := sIf (fTest (fOp eqD (fVar 3) (fC (.str (PySem.Str.ofString "a"))))) (sAug 1 (fun i j => i + j) (fOp fdivD (fOp mulD (fVar 4) (fOp addD (fOp subD (fOp addD (fVar 2) (fVar 2)) (fVar 4)) (fC (.int 1)))) (fC (.int 2)))) sNext
theorem place_loop (T0 : D) : ∀ (R : List Run) (b f : Int) (s2 s3 s4 : Slot), Sm R → ∃ s2' s3' s4', forT PG PB [.val T0, .val (.int f), s2, s3, s4] ((tri b R).map triD) = .ret (.nx [.val T0, .val (.int (f + placeR b R)), s2', s3', s4'])
  | [], b, f, s2, s3, s4, _ => ⟨s2, s3, s4, by
    show T.ret (Out.nx [.val T0, .val (.int f), s2, s3, s4]) = T.ret (Out.nx [.val T0, .val (.int (f + 0)), s2, s3, s4])
    rw [Int.add_zero]⟩
  | (true, n) :: R, b, f, s2, s3, s4, hs => by
    obtain ⟨s2', s3', s4', e⟩ := place_loop T0 R (b + n) (f + n * ((b + n) + (b + n) - n + 1) / 2) (.val (.int (b + n))) (.val (hD true)) (.val (.int n)) fun r hr => hs r (.tail _ hr)
    refine ⟨s2', s3', s4', Eq.trans (for_nx rfl (if_t (test_v (op_v rfl rfl (eqD_a true))) (aug_v rfl (op_v (op_v rfl (op_v (op_v (op_v rfl rfl rfl) rfl rfl) rfl rfl) (mul_smallL (hs (true, n) (.head _)))) rfl rfl)))) (Eq.trans e ?_)⟩
    show _ = T.ret (Out.nx [.val T0, .val (.int (f + (n * ((b + n) + (b + n) - n + 1) / 2 + placeR (b + n) R))), s2', s3', s4'])
    rw [Int.add_assoc]
  | (false, n) :: R, b, f, s2, s3, s4, hs => by
    obtain ⟨s2', s3', s4', e⟩ := place_loop T0 R (b + n) f (.val (.int (b + n))) (.val (hD false)) (.val (.int n)) fun r hr => hs r (.tail _ hr)
    refine ⟨s2', s3', s4', Eq.trans (for_nx rfl (if_nx (test_v (op_v rfl rfl (eqD_a false))))) (Eq.trans e ?_)⟩
    show _ = T.ret (Out.nx [.val T0, .val (.int (f + (0 + placeR (b + n) R))), s2', s3', s4'])
    rw [Int.zero_add]
theorem place_eq {R : List Run} (hs : Sm R) : F_place_sum [TU R] = .ret (.int (placeR 0 R)) := by
  obtain ⟨s2', s3', s4', e⟩ := place_loop (TU R) R 0 0 .no .no .no hs
  rw [Int.zero_add] at e
  exact run_rt (B := B_place_sum) (ρ := [.val (TU R), .no, .no, .no, .no]) (seq_nx (set_v rfl) (seq_nx (for_v (iz rfl) e) (ret_v rfl)))
theorem le_size : ∀ {R : List Run}, (∀ r ∈ R, 1 ≤ r.2) → 0 ≤ sizeR R ∧ ∀ r ∈ R, r.2 ≤ sizeR R
  | [], _ => ⟨Int.le_refl _, fun r h => absurd h List.not_mem_nil⟩
  | q :: R, hp => by
    obtain ⟨h0, h1⟩ := le_size fun r hr => hp r (.tail _ hr)
    have hq := hp q (.head _)
    have e : sizeR (q :: R) = q.2 + sizeR R := rfl
    rw [e]
    refine ⟨by omega, fun r hr => ?_⟩
    rcases List.mem_cons.mp hr with z | z
    · rw [z]; omega
    · have := h1 r z; omega
theorem Ok9.small {R : List Run} (h : Ok9 R) : Sm R := fun r hr => by
  have h1 := h.pos r hr
  have h2 := (le_size h.pos).2 r hr
  have h3 := h.sm
  omega
theorem place_sums_eq {R : List Run} (h : Ok9 R) : F_place_sums [TU R] = .ret (.tup [.int (placeR 0 R), .int (placeR 0 (swapR R))]) :=
  run_rt (B := B_place_sums) (ρ := [.val (TU R)]) (ret_v (tup_v (cons_v (afn_v (cons_v rfl nil_v) (place_eq h.small)) (cons_v (afn_v (cons_v (afn_v (cons_v rfl nil_v) (swapped_eq h)) nil_v) (place_eq h.swap.small)) nil_v)) (by show 2 ≤ capD; decide)))
/-! ### height -/
def highR : Int → List Run → Int
  | _, [] => 0
  | p, r :: R => (bif r.1 then r.2 * p + r.2 * (r.2 + 1) / 2 else r.2 * p) + highR (bif r.1 then p + r.2 else p) R
abbrev TG : D → DL.Env → T DL.Env := gTupD (gsCons (gSet 3) (gsCons (gSet 4) gsNil))
abbrev TB : DL.Env → T Out := sIf (fTest (fOp eqD (fVar 3) (fC (.str (PySem.Str.ofString "a"))))) (sSeq (sAug 1 (fun i j => i + j) (fOp addD (fOp mulD (fVar 4) (fVar 2)) (fOp fdivD (fOp mulD (fVar 4) (fOp addD (fVar 4) (fC (.int 1)))) (fC (.int 2))))) (sAug 2 (fun i j => i + j) (fVar 4))) (sAug 1 (fun i j => i + j) (fOp mulD (fVar 4) (fVar 2)))
theorem high_loop (T0 : D) : ∀ (R : List Run) (f p : Int) (s3 s4 : Slot), Sm R → ∃ p' s3' s4', forT TG TB [.val T0, .val (.int f), .val (.int p), s3, s4] (R.map runD) = .ret (.nx [.val T0, .val (.int (f + highR p R)), .val (.int p'), s3', s4'])
  | [], f, p, s3, s4, _ => ⟨p, s3, s4, by
    show T.ret (Out.nx [.val T0, .val (.int f), .val (.int p), s3, s4]) = T.ret (Out.nx [.val T0, .val (.int (f + 0)), .val (.int p), s3, s4])
    rw [Int.add_zero]⟩
  | (true, n) :: R, f, p, s3, s4, hs => by
    obtain ⟨p', s3', s4', e⟩ := high_loop T0 R (f + (n * p + n * (n + 1) / 2)) (p + n) (.val (hD true)) (.val (.int n)) fun r hr => hs r (.tail _ hr)
    have sn := hs (true, n) (.head _)
    refine ⟨p', s3', s4', Eq.trans (for_nx rfl (if_t (test_v (op_v rfl rfl (eqD_a true))) (seq_nx (aug_v rfl (op_v (op_v rfl rfl (mul_smallL sn)) (op_v (op_v rfl (op_v rfl rfl rfl) (mul_smallL sn)) rfl rfl) rfl)) (aug_v rfl rfl)))) (Eq.trans e ?_)⟩
    show _ = T.ret (Out.nx [.val T0, .val (.int (f + (n * p + n * (n + 1) / 2 + highR (p + n) R))), .val (.int p'), s3', s4'])
    rw [Int.add_assoc]
  | (false, n) :: R, f, p, s3, s4, hs => by
    obtain ⟨p', s3', s4', e⟩ := high_loop T0 R (f + n * p) p (.val (hD false)) (.val (.int n)) fun r hr => hs r (.tail _ hr)
    have sn := hs (false, n) (.head _)
    refine ⟨p', s3', s4', Eq.trans (for_nx rfl (if_f (test_v (op_v rfl rfl (eqD_a false))) (aug_v rfl (op_v rfl rfl (mul_smallL sn))))) (Eq.trans e ?_)⟩
    show _ = T.ret (Out.nx [.val T0, .val (.int (f + (n * p + highR p R))), .val (.int p'), s3', s4'])
    rw [Int.add_assoc]
theorem height_eq {R : List Run} (hs : Sm R) : F_height [TU R] = .ret (.int (highR 0 R)) := by
  obtain ⟨p', s3', s4', e⟩ := high_loop (TU R) R 0 0 .no .no hs
  rw [Int.zero_add] at e
  have e1 : sUnp (fTup (aCons (fC (.int 0)) (aCons (fC (.int 0)) aNil))) (gTupD (gsCons (gSet 1) (gsCons (gSet 2) gsNil))) [.val (TU R), .no, .no, .no, .no] = .ret (.nx [.val (TU R), .val (.int 0), .val (.int 0), .no, .no]) := unp_v (tup_v (cons_v rfl (cons_v rfl nil_v)) (by show 2 ≤ capD; decide)) rfl
  exact run_rt (B := B_height) (ρ := [.val (TU R), .no, .no, .no, .no]) (seq_nx e1 (seq_nx (for_v (seq_v (prop_v rfl (runs_eq R)) rfl) e) (ret_v rfl)))
end LW
end

section
set_option maxRecDepth 100000
set_option maxHeartbeats 1000000
/-! NE: sets of numbers, begins, numbers of turns. -/
namespace LW
open PySem DL
def insN (x : Int) : List Int → List Int
  | [] => [x]
  | y :: ys => bif decide (x ≤ y) then x :: y :: ys else y :: insN x ys
def sorN : List Int → List Int
  | [] => []
  | x :: xs => insN x (sorN xs)
def dedN : List Int → List Int
  | [] => []
  | x :: xs => bif (dedN xs).contains x then dedN xs else x :: dedN xs
def setN (l : List Int) : List Int := sorN (dedN l)
theorem ins_num (x : Int) : ∀ l : List Int, DS.insL (.num x) (l.map .num) = (insN x l).map .num
  | [] => rfl
  | y :: l => by
    show (bif decide (x ≤ y) then Leaf.num x :: Leaf.num y :: l.map .num else Leaf.num y :: DS.insL (.num x) (l.map .num)) = (bif decide (x ≤ y) then x :: y :: l else y :: insN x l).map .num
    rw [ins_num x l]
    cases decide (x ≤ y) <;> rfl
theorem sor_num : ∀ l : List Int, DS.srtL (l.map .num) = (sorN l).map .num
  | [] => rfl
  | x :: l => by
    show DS.insL (.num x) (DS.srtL (l.map .num)) = _
    rw [sor_num l, ins_num]; rfl
theorem num_contains (x : Int) : ∀ l : List Int, (l.map Leaf.num).contains (Leaf.num x) = l.contains x
  | [] => rfl
  | y :: l => by
    rw [List.map_cons, List.contains_cons, List.contains_cons, num_contains x l]
    congr 1
    rw [Bool.eq_iff_iff, beq_iff_eq, beq_iff_eq]
    exact ⟨fun h => Leaf.num.inj h, fun h => by rw [h]⟩
theorem ded_num : ∀ l : List Int, DS.dedL (l.map .num) = (dedN l).map .num
  | [] => rfl
  | x :: l => by
    show (bif (DS.dedL (l.map .num)).contains (.num x) then DS.dedL (l.map .num) else .num x :: DS.dedL (l.map .num)) = (bif (dedN l).contains x then dedN l else x :: dedN l).map .num
    rw [ded_num l, num_contains]
    cases (dedN l).contains x <;> rfl
theorem leaves_num : ∀ l : List Int, leavesD (iD l) = some (l.map .num)
  | [] => rfl
  | x :: l => by
    show (match leavesD (iD l) with | some ls => some (Leaf.num x :: ls) | none => none) = _
    rw [leaves_num l]; rfl
theorem alk_num (l : List Int) : DS.alkB (l.map .num) = true := by
  unfold DS.alkB
  rw [Bool.or_eq_true]
  left
  rw [List.all_map, List.all_eq_true]
  intro x _; rfl
theorem sortSet_num {d : D} {l : List Int} (h : seqD d = some (iD l)) (hl : l.length ≤ 3000) : sortSetD d = .ret (iD (setN l)) := by
  unfold sortSetD
  simp only [h, leaves_num, List.length_map, decide_eq_true hl, ded_num, alk_num, sor_num, Bool.and_self]
  congr 1
  rw [List.map_map]
  rfl
theorem setof_eq {d : D} {l : List Int} (h : seqD d = some (iD l)) (hl : l.length ≤ 3000) : F_set_of [d] = .ret (.tup (iD (setN l))) :=
  run_rt (B := B_set_of) (ρ := [.val d]) (ret_v (fn_v (ofl_v (lfn_v rfl (sortSet_num h hl))) rfl))
theorem mem_ins (x y : Int) : ∀ l : List Int, y ∈ insN x l ↔ y = x ∨ y ∈ l
  | [] => by simp [insN]
  | z :: l => by
    show y ∈ (bif decide (x ≤ z) then x :: z :: l else z :: insN x l) ↔ _
    have ih := mem_ins x y l
    cases decide (x ≤ z) with
    | true => rw [cond_true, List.mem_cons]
    | false =>
      rw [cond_false, List.mem_cons, ih, List.mem_cons]
      constructor
      · rintro (h | h | h)
        · exact .inr (.inl h)
        · exact .inl h
        · exact .inr (.inr h)
      · rintro (h | h | h)
        · exact .inr (.inl h)
        · exact .inl h
        · exact .inr (.inr h)
theorem mem_sor (y : Int) : ∀ l : List Int, y ∈ sorN l ↔ y ∈ l
  | [] => Iff.rfl
  | x :: l => by
    show y ∈ insN x (sorN l) ↔ _
    rw [mem_ins, mem_sor y l, List.mem_cons]
theorem mem_ded (y : Int) : ∀ l : List Int, y ∈ dedN l ↔ y ∈ l
  | [] => Iff.rfl
  | x :: l => by
    show y ∈ (bif (dedN l).contains x then dedN l else x :: dedN l) ↔ _
    have ih := mem_ded y l
    cases c : (dedN l).contains x with
    | true =>
      rw [cond_true, ih, List.mem_cons]
      constructor
      · exact .inr
      · rintro (h | h)
        · rw [h]; exact (mem_ded x l).mp (List.contains_iff_mem.mp c)
        · exact h
    | false => rw [cond_false, List.mem_cons, ih, List.mem_cons]
theorem mem_set (y : Int) (l : List Int) : y ∈ setN l ↔ y ∈ l := (mem_sor y _).trans (mem_ded y l)
theorem len_ins (x : Int) : ∀ l : List Int, (insN x l).length = l.length + 1
  | [] => rfl
  | y :: l => by
    show (bif decide (x ≤ y) then x :: y :: l else y :: insN x l).length = _
    have ih := len_ins x l
    cases decide (x ≤ y) with
    | true => rfl
    | false => rw [cond_false, List.length_cons, ih, List.length_cons]
theorem len_sor : ∀ l : List Int, (sorN l).length = l.length
  | [] => rfl
  | x :: l => by
    show (insN x (sorN l)).length = _
    rw [len_ins, len_sor l]; rfl
theorem len_ded : ∀ l : List Int, (dedN l).length ≤ l.length
  | [] => Nat.le_refl _
  | x :: l => by
    show (bif (dedN l).contains x then dedN l else x :: dedN l).length ≤ l.length + 1
    have ih := len_ded l
    cases (dedN l).contains x with
    | true => rw [cond_true]; omega
    | false => rw [cond_false, List.length_cons]; omega
theorem len_set (l : List Int) : (setN l).length ≤ l.length := by
  unfold setN
  rw [len_sor]
  exact len_ded l
/-- f keeps the order -/
def Mono (f : Int → Int) : Prop := ∀ x y, f x ≤ f y ↔ x ≤ y
theorem Mono.inj {f : Int → Int} (h : Mono f) {x y : Int} (e : f x = f y) : x = y := by
  have h1 := (h x y).mp (by omega)
  have h2 := (h y x).mp (by omega)
  omega
theorem ins_mono {f : Int → Int} (h : Mono f) (x : Int) : ∀ l : List Int, insN (f x) (l.map f) = (insN x l).map f
  | [] => rfl
  | y :: l => by
    show (bif decide (f x ≤ f y) then f x :: f y :: l.map f else f y :: insN (f x) (l.map f)) = (bif decide (x ≤ y) then x :: y :: l else y :: insN x l).map f
    rw [ins_mono h x l, show decide (f x ≤ f y) = decide (x ≤ y) from decide_eq_decide.mpr (h x y)]
    cases decide (x ≤ y) <;> rfl
theorem sor_mono {f : Int → Int} (h : Mono f) : ∀ l : List Int, sorN (l.map f) = (sorN l).map f
  | [] => rfl
  | x :: l => by
    show insN (f x) (sorN (l.map f)) = _
    rw [sor_mono h l, ins_mono h]; rfl
theorem contains_mono {f : Int → Int} (h : Mono f) (x : Int) (l : List Int) : (l.map f).contains (f x) = l.contains x := by
  rw [Bool.eq_iff_iff, List.contains_iff_mem, List.contains_iff_mem, List.mem_map]
  exact ⟨fun ⟨y, hy, e⟩ => h.inj e ▸ hy, fun hx => ⟨x, hx, rfl⟩⟩
theorem ded_mono {f : Int → Int} (h : Mono f) : ∀ l : List Int, dedN (l.map f) = (dedN l).map f
  | [] => rfl
  | x :: l => by
    show (bif (dedN (l.map f)).contains (f x) then dedN (l.map f) else f x :: dedN (l.map f)) = (bif (dedN l).contains x then dedN l else x :: dedN l).map f
    rw [ded_mono h l, contains_mono h]
    cases (dedN l).contains x <;> rfl
theorem set_mono {f : Int → Int} (h : Mono f) (l : List Int) : setN (l.map f) = (setN l).map f := by
  unfold setN
  rw [ded_mono h, sor_mono h]
/-! ### begins -/
def beginsR : Int → List Run → List Int
  | _, [] => []
  | t, r :: R => bif r.1 then (t + 1) :: beginsR (t + r.2) R else beginsR t R
abbrev BG : D → DL.Env → T DL.Env := gTupD (gsCons (gSet 3) (gsCons (gSet 4) gsNil))
abbrev BB : DL.Env → T Out := sIf (fTest (fOp eqD (fVar 3) (fC (.str (PySem.Str.ofString "a"))))) (sSeq (sApp 1 (fOp addD (fVar 2) (fC (.int 1)))) (sAug 2 (fun i j => i + j) (fVar 4))) sNext
theorem begins_len : ∀ (t : Int) (R : List Run), (beginsR t R).length ≤ R.length
  | _, [] => Nat.le_refl _
  | t, r :: R => by
    show (bif r.1 then (t + 1) :: beginsR (t + r.2) R else beginsR t R).length ≤ R.length + 1
    have h1 := begins_len (t + r.2) R
    have h2 := begins_len t R
    cases r.1 with
    | true => rw [cond_true, List.length_cons]; omega
    | false => rw [cond_false]; omega
theorem begins_loop (T0 : D) : ∀ (R : List Run) (l : List Int) (t : Int) (s3 s4 : Slot), l.length + R.length < 100000 → ∃ t' s3' s4', forT BG BB [.val T0, .own (.lst (iD l)), .val (.int t), s3, s4] (R.map runD) = .ret (.nx [.val T0, .own (.lst (iD (l ++ beginsR t R))), .val (.int t'), s3', s4'])
  | [], l, t, s3, s4, _ => ⟨t, s3, s4, by
    show T.ret (Out.nx [.val T0, .own (.lst (iD l)), .val (.int t), s3, s4]) = T.ret (Out.nx [.val T0, .own (.lst (iD (l ++ []))), .val (.int t), s3, s4])
    rw [List.append_nil]⟩
  | (true, n) :: R, l, t, s3, s4, hl => by
    rw [List.length_cons] at hl
    obtain ⟨t', s3', s4', e⟩ := begins_loop T0 R (l ++ [t + 1]) (t + n) (.val (hD true)) (.val (.int n)) (by rw [List.length_append, List.length_singleton]; omega)
    have ei : iD (l ++ [t + 1]) = iD l ++ [.int (t + 1)] := by unfold iD; rw [List.map_append]; rfl
    rw [ei, List.append_assoc] at e
    refine ⟨t', s3', s4', Eq.trans (for_nx rfl (if_t (test_v (op_v rfl rfl (eqD_a true))) (seq_nx (app_v rfl (op_v rfl rfl rfl) (by unfold iD; rw [List.length_map]; show l.length < 100000; omega)) (aug_v rfl rfl)))) e⟩
  | (false, n) :: R, l, t, s3, s4, hl => by
    rw [List.length_cons] at hl
    obtain ⟨t', s3', s4', e⟩ := begins_loop T0 R l t (.val (hD false)) (.val (.int n)) (by omega)
    exact ⟨t', s3', s4', Eq.trans (for_nx rfl (if_nx (test_v (op_v rfl rfl (eqD_a false))))) e⟩
theorem begins_eq {R : List Run} (hl : R.length < 100000) : F_begins [TU R] = .ret (.lst (iD (beginsR 0 R))) := by
  obtain ⟨t', s3', s4', e⟩ := begins_loop (TU R) R [] 0 .no .no (by rw [List.length_nil]; omega)
  rw [List.nil_append] at e
  have e1 : sParLV 1 2 (fLst aNil) (fC (.int 0)) [.val (TU R), .no, .no, .no, .no] = .ret (.nx [.val (TU R), .own (.lst (iD [])), .val (.int 0), .no, .no]) := rfl
  exact run_rt (B := B_begins) (ρ := [.val (TU R), .no, .no, .no, .no]) (seq_nx e1 (seq_nx (for_v (seq_v (prop_v rfl (runs_eq R)) rfl) e) (ret_v rfl)))
theorem begins_ge : ∀ (t : Int) (R : List Run), (∀ r ∈ R, 1 ≤ r.2) → ∀ x ∈ beginsR t R, t + 1 ≤ x
  | _, [], _, x, h => absurd h List.not_mem_nil
  | t, r :: R, hp, x, h => by
    have hr := hp r (.head _)
    have h1 := begins_ge (t + r.2) R fun q hq => hp q (.tail _ hq)
    have h2 := begins_ge t R fun q hq => hp q (.tail _ hq)
    have h' : x ∈ (bif r.1 then (t + 1) :: beginsR (t + r.2) R else beginsR t R) := h
    cases c : r.1 with
    | true =>
      rw [c, cond_true] at h'
      rcases List.mem_cons.mp h' with z | z
      · omega
      · have := h1 x z; omega
    | false =>
      rw [c, cond_false] at h'
      exact h2 x h'
/-! ### the number of a turn -/
def turnR (w : Bool) : Int → Int → List Run → Option Int
  | _, _, [] => none
  | k, b, r :: R => bif r.1 == w then (bif decide (k ≤ r.2) then some (b + r.2 - r.2 + k) else turnR w (k - r.2) (b + r.2) R) else turnR w k (b + r.2) R
abbrev OG : D → DL.Env → T DL.Env := gTupD (gsCons (gTupD (gsCons (gSet 5) (gsCons (gSet 6) gsNil))) (gsCons (gSet 4) gsNil))
abbrev OB : DL.Env → T Out := sIf (fTest (fOp eqD (fVar 5) (fVar 1))) (sSeq (sIf (fTest (fOp leD (fVar 3) (fVar 6))) (sRet (fOp addD (fOp subD (fVar 4) (fVar 6)) (fVar 3))) sNext) (sAug 3 (fun i j => i - j) (fVar 6))) sNext
theorem placeof_loop (T0 W0 : D) (w : Bool) : ∀ (R : List Run) (k b : Int) (v : Int) (s4 s5 s6 : Slot), turnR w k b R = some v → forT OG OB [.val T0, .val (hD w), .val W0, .val (.int k), s4, s5, s6] ((tri b R).map triD) = .ret (.rt (.int v))
  | [], k, b, v, s4, s5, s6, h => by cases h
  | (x, n) :: R, k, b, v, s4, s5, s6, h => by
    have h' : (bif x == w then (bif decide (k ≤ n) then some (b + n - n + k) else turnR w (k - n) (b + n) R) else turnR w k (b + n) R) = some v := h
    have tt : fTest (fOp eqD (fVar 5) (fVar 1)) [.val T0, .val (hD w), .val W0, .val (.int k), .val (.int (b + n)), .val (hD x), .val (.int n)] = .ret (x == w) := test_v (op_v rfl rfl (eqD_hh x w))
    cases c : x == w with
    | true =>
      rw [c] at h' tt
      rw [cond_true] at h'
      cases c2 : decide (k ≤ n) with
      | true =>
        rw [c2, cond_true] at h'
        cases h'
        refine for_rt rfl (if_t tt (seq_rt (if_t (test_v (op_v rfl rfl ?_)) (ret_v (op_v (op_v rfl rfl rfl) rfl rfl)))))
        show T.ret (D.bl (decide (k ≤ n))) = _
        rw [c2]
      | false =>
        rw [c2, cond_false] at h'
        refine Eq.trans (for_nx rfl (if_t tt (seq_nx (if_nx (test_v (op_v rfl rfl ?_))) (aug_v rfl rfl)))) (placeof_loop T0 W0 w R (k - n) (b + n) v _ _ _ h')
        show T.ret (D.bl (decide (k ≤ n))) = _
        rw [c2]
    | false =>
      rw [c] at h' tt
      exact Eq.trans (for_nx rfl (if_nx tt)) (placeof_loop T0 W0 w R k (b + n) v _ _ _ h')
theorem placeof_eq {R : List Run} {w : Bool} {k v : Int} (hk : 1 ≤ k) (h : turnR w k 0 R = some v) : F_place_of [TU R, hD w, .int k] = .ret (.int v) := by
  have e := placeof_loop (TU R) (.int k) w R k 0 v .no .no .no h
  have g : gtD (.int k) (.int 0) = .ret (.bl true) := by
    show T.ret (D.bl (decide (0 < k))) = _
    rw [decide_eq_true (by omega)]
  exact run_rt (B := B_place_of) (ρ := [.val (TU R), .val (hD w), .val (.int k), .no, .no, .no, .no]) (seq_nx (set_v rfl) (seq_rt (if_t (test_v (op_v rfl rfl g)) (for_v (iz rfl) e))))
theorem turnof_eq {R : List Run} {k v : Int} (hk : 1 ≤ k) (h : turnR true k 0 R = some v) : F_turn_of [TU R, .int k] = .ret (.int v) :=
  run_rt (B := B_turn_of) (ρ := [.val (TU R), .val (.int k)]) (ret_v (afn_v (cons_v rfl (cons_v rfl (cons_v rfl nil_v))) (placeof_eq (w := true) hk h)))
theorem histurnof_eq {R : List Run} {k v : Int} (hk : 1 ≤ k) (h : turnR false k 0 R = some v) : F_his_turn_of [TU R, .int k] = .ret (.int v) :=
  run_rt (B := B_his_turn_of) (ρ := [.val (TU R), .val (.int k)]) (ret_v (afn_v (cons_v rfl (cons_v rfl (cons_v rfl nil_v))) (placeof_eq (w := false) hk h)))
theorem cnt_cons (w : Bool) (r : Run) (R : List Run) : cntR w (r :: R) = (bif r.1 == w then r.2 else 0) + cntR w R := by
  unfold cntR
  rw [List.filter_cons]
  cases r.1 == w with
  | true => rfl
  | false => exact (Int.zero_add _).symm
theorem turn_some (w : Bool) : ∀ (R : List Run) (k b : Int), k ≤ cntR w R → 1 ≤ k → ∃ v, turnR w k b R = some v
  | [], k, b, h, h1 => by
    have : cntR w [] = 0 := rfl
    omega
  | r :: R, k, b, h, h1 => by
    rw [cnt_cons] at h
    show ∃ v, (bif r.1 == w then (bif decide (k ≤ r.2) then some (b + r.2 - r.2 + k) else turnR w (k - r.2) (b + r.2) R) else turnR w k (b + r.2) R) = some v
    cases c : r.1 == w with
    | true =>
      rw [c, cond_true] at h
      by_cases c2 : k ≤ r.2
      · rw [cond_true, decide_eq_true c2]; exact ⟨_, rfl⟩
      · rw [cond_true, decide_eq_false c2]
        exact turn_some w R (k - r.2) (b + r.2) (by omega) (by omega)
    | false =>
      rw [c, cond_false] at h
      exact turn_some w R k (b + r.2) (by omega) h1
def tvR (w : Bool) (R : List Run) (k : Int) : Int := (turnR w k 0 R).getD 0
theorem tv_some {w : Bool} {R : List Run} {k : Int} (h : k ≤ cntR w R) (h1 : 1 ≤ k) : turnR w k 0 R = some (tvR w R k) := by
  obtain ⟨v, e⟩ := turn_some w R k 0 h h1
  unfold tvR
  rw [e]; rfl
end LW
end

section
set_option maxRecDepth 100000
set_option maxHeartbeats 1000000
/-! NF: two turns: never worse, by how much, above. -/
namespace LW
open PySem DL
theorem add_lst (a b : List Int) (h : a.length + b.length ≤ 100000) : addD (.lst (iD a)) (.lst (iD b)) = .ret (.lst (iD (a ++ b))) := by
  have e : iD (a ++ b) = iD a ++ iD b := by unfold iD; rw [List.map_append]
  rw [e]
  show (match decide ((iD a).length + (iD b).length ≤ capD) with | true => T.ret (D.lst (iD a ++ iD b)) | false => .fail) = _
  rw [decide_eq_true (by unfold iD; rw [List.length_map, List.length_map]; exact h)]
def abI (i : Int) : Int := if i < 0 then -i else i
theorem abs_v (i : Int) : absD (.int i) = .ret (.int (abI i)) := rfl
theorem le_v (i j : Int) : leD (.int i) (.int j) = .ret (.bl (decide (i ≤ j))) := rfl
theorem lt_v (i j : Int) : ltD (.int i) (.int j) = .ret (.bl (decide (i < j))) := rfl
theorem gt_v (i j : Int) : gtD (.int i) (.int j) = .ret (.bl (decide (j < i))) := rfl
theorem ge_v (i j : Int) : geD (.int i) (.int j) = .ret (.bl (decide (j ≤ i))) := rfl
theorem len_iD (l : List Int) : (iD l).length = l.length := by unfold iD; rw [List.length_map]
/-! ### most_apart -/
def apartW (R : List Run) : List Int := (setN (beginsR 0 R ++ beginsR 0 (swapR R))).filter fun w => decide (w ≤ min (cntR true R) (cntR false R))
def apartR (R : List Run) : Int := maxI 0 ((apartW R).map fun w => abI (tvR true R w - tvR false R w))
theorem apart_in {R : List Run} (hp : ∀ r ∈ R, 1 ≤ r.2) {w : Int} (h : w ∈ apartW R) : 1 ≤ w ∧ w ≤ cntR true R ∧ w ≤ cntR false R := by
  obtain ⟨h1, h2⟩ := List.mem_filter.mp h
  have h3 := of_decide_eq_true h2
  rw [mem_set, List.mem_append] at h1
  have hp2 : ∀ r ∈ swapR R, 1 ≤ r.2 := fun r hr => by
    obtain ⟨q, hq, rfl⟩ := List.mem_map.mp hr
    exact hp q hq
  have : 0 + 1 ≤ w := h1.elim (begins_ge 0 R hp w) (begins_ge 0 (swapR R) hp2 w)
  omega
theorem apart_eq {R : List Run} (h : Ok9 R) (hl : R.length < 1000) : F_most_apart [TU R] = .ret (.int (apartR R)) := by
  have l1 := begins_len 0 R
  have l2 := begins_len 0 (swapR R)
  rw [swap_len] at l2
  have l3 := len_set (beginsR 0 R ++ beginsR 0 (swapR R))
  rw [List.length_append] at l3
  have hb : fOp addD (aFn F_begins (aCons (fVar 0) aNil)) (aFn F_begins (aCons (aFn F_swapped (aCons (fVar 0) aNil)) aNil)) [.val (TU R), .val (.int (min (cntR true R) (cntR false R))), .no, .no] = .ret (.lst (iD (beginsR 0 R ++ beginsR 0 (swapR R)))) :=
    op_v (afn_v (cons_v rfl nil_v) (begins_eq h.len)) (afn_v (cons_v (afn_v (cons_v rfl nil_v) (swapped_eq h)) nil_v) (begins_eq h.swap.len)) (add_lst _ _ (by omega))
  have c1 : fComp (iSeq (aFn F_set_of (aCons (fOp addD (aFn F_begins (aCons (fVar 0) aNil)) (aFn F_begins (aCons (aFn F_swapped (aCons (fVar 0) aNil)) aNil))) aNil))) (gSet 3) (fTest (fOp leD (fVar 3) (fVar 1))) (fVar 3) [3] [.val (TU R), .val (.int (min (cntR true R) (cntR false R))), .no, .no] = .ret (iD (apartW R)) :=
    comp_f (α := Int) (p := fun w => decide (w ≤ min (cntR true R) (cntR false R))) (h := .int) (k := .int) (ds := setN (beginsR 0 R ++ beginsR 0 (swapR R))) (seq_v (afn_v (cons_v hb nil_v) (setof_eq rfl (by rw [List.length_append]; omega))) rfl) (by show (setN (beginsR 0 R ++ beginsR 0 (swapR R))).length < 100000; omega) fun w _ => ⟨_, rfl, test_v (op_v rfl rfl (le_v _ _)), fun _ => rfl⟩
  have l4 : (apartW R).length ≤ (setN (beginsR 0 R ++ beginsR 0 (swapR R))).length := List.length_filter_le _ _
  have c2 : fComp (iSeq (fVar 2)) (gSet 3) fYes (fFn absD (fOp subD (aFn F_turn_of (aCons (fVar 0) (aCons (fVar 3) aNil))) (aFn F_his_turn_of (aCons (fVar 0) (aCons (fVar 3) aNil))))) [3] [.val (TU R), .val (.int (min (cntR true R) (cntR false R))), .val (.lst (iD (apartW R))), .no] = .ret ((apartW R).map fun w => D.int (abI (tvR true R w - tvR false R w))) :=
    comp_m (α := Int) (h := .int) (ds := apartW R) (seq_v rfl rfl) (by show (apartW R).length < 100000; omega) fun w hw => by
      obtain ⟨a1, a2, a3⟩ := apart_in h.pos hw
      exact ⟨_, rfl, fn_v (op_v (afn_v (cons_v rfl (cons_v rfl nil_v)) (turnof_eq a1 (tv_some a2 a1))) (afn_v (cons_v rfl (cons_v rfl nil_v)) (histurnof_eq a1 (tv_some a3 a1))) rfl) (abs_v _)⟩
  exact run_rt (B := B_most_apart) (ρ := [.val (TU R), .no, .no, .no]) (seq_nx (set_v (afn_v (cons_v (prop_v rfl (hers_eq h.len)) (cons_v (prop_v rfl (his_eq h.len)) nil_v)) (min2 _ _))) (seq_nx (set_v (ofl_v c1)) (ret_v (fn_v (ofl_v (lst_v (cons_v rfl (star_v (ofl_v c2) rfl nil_v)) (by rw [List.length_cons, List.length_append, List.length_map]; show (apartW R).length + 0 + 1 ≤ 100000; omega))) (max_map _ _)))))
/-! ### check_size, ways_later -/
theorem check_eq {R S : List Run} (hR : R.length < 100000) (hS : S.length < 100000) (e : sizeR R = sizeR S) : F_check_size [TU R, TU S] = .ret .non :=
  run_nx (B := B_check_size) (ρ := [.val (TU R), .val (TU S)]) (if_nx (test_v (op_v (prop_v rfl (size_eq hR)) (prop_v rfl (size_eq hS)) (by
    show T.ret (D.bl (!decide (sizeR R = sizeR S))) = _
    rw [decide_eq_true e]; rfl))))
def waysW (R S : List Run) : List Int := (setN (beginsR 0 R ++ beginsR 0 S)).filter fun w => decide (w ≤ min (cntR true R) (cntR true S))
def waysR (R S : List Run) : List (Int × Int) := (waysW R S).map fun w => (w, tvR true R w - tvR true S w)
def wayD (p : Int × Int) : D := .tup [.int p.1, .int p.2]
theorem ways_in {R S : List Run} (hp : ∀ r ∈ R, 1 ≤ r.2) (hq : ∀ r ∈ S, 1 ≤ r.2) {w : Int} (h : w ∈ waysW R S) : 1 ≤ w ∧ w ≤ cntR true R ∧ w ≤ cntR true S := by
  obtain ⟨h1, h2⟩ := List.mem_filter.mp h
  have h3 := of_decide_eq_true h2
  rw [mem_set, List.mem_append] at h1
  have : 0 + 1 ≤ w := h1.elim (begins_ge 0 R hp w) (begins_ge 0 S hq w)
  omega
theorem ways_len (R S : List Run) : (waysW R S).length ≤ R.length + S.length := by
  have l1 := begins_len 0 R
  have l2 := begins_len 0 S
  have l3 := len_set (beginsR 0 R ++ beginsR 0 S)
  rw [List.length_append] at l3
  have l4 : (waysW R S).length ≤ (setN (beginsR 0 R ++ beginsR 0 S)).length := List.length_filter_le _ _
  omega
theorem ways_eq {R S : List Run} (h : Ok9 R) (k : Ok9 S) (hl : R.length < 1000) (kl : S.length < 1000) : F_ways_later [TU R, TU S] = .ret (.lst ((waysR R S).map wayD)) := by
  have l1 := begins_len 0 R
  have l2 := begins_len 0 S
  have l3 := len_set (beginsR 0 R ++ beginsR 0 S)
  rw [List.length_append] at l3
  have hb : fOp addD (aFn F_begins (aCons (fVar 0) aNil)) (aFn F_begins (aCons (fVar 1) aNil)) [.val (TU R), .val (TU S), .no, .no] = .ret (.lst (iD (beginsR 0 R ++ beginsR 0 S))) :=
    op_v (afn_v (cons_v rfl nil_v) (begins_eq h.len)) (afn_v (cons_v rfl nil_v) (begins_eq k.len)) (add_lst _ _ (by omega))
  have c1 : fComp (iSeq (aFn F_set_of (aCons (fOp addD (aFn F_begins (aCons (fVar 0) aNil)) (aFn F_begins (aCons (fVar 1) aNil))) aNil))) (gSet 3) (fTest (fOp leD (fVar 3) (aFn min2D (aCons (fProp 0 F_Turns_hers (fVar 0)) (aCons (fProp 0 F_Turns_hers (fVar 1)) aNil))))) (fVar 3) [3] [.val (TU R), .val (TU S), .no, .no] = .ret (iD (waysW R S)) :=
    comp_f (α := Int) (p := fun w => decide (w ≤ min (cntR true R) (cntR true S))) (h := .int) (k := .int) (ds := setN (beginsR 0 R ++ beginsR 0 S)) (seq_v (afn_v (cons_v hb nil_v) (setof_eq rfl (by rw [List.length_append]; omega))) rfl) (by show (setN (beginsR 0 R ++ beginsR 0 S)).length < 100000; omega) fun w _ => ⟨_, rfl, test_v (op_v rfl (afn_v (cons_v (prop_v rfl (hers_eq h.len)) (cons_v (prop_v rfl (hers_eq k.len)) nil_v)) (min2 _ _)) (le_v _ _)), fun _ => rfl⟩
  have l4 := ways_len R S
  have c2 : fComp (iSeq (fVar 2)) (gSet 3) fYes (fTup (aCons (fVar 3) (aCons (fOp subD (aFn F_turn_of (aCons (fVar 0) (aCons (fVar 3) aNil))) (aFn F_turn_of (aCons (fVar 1) (aCons (fVar 3) aNil)))) aNil))) [3] [.val (TU R), .val (TU S), .val (.lst (iD (waysW R S))), .no] = .ret ((waysW R S).map fun w => wayD (w, tvR true R w - tvR true S w)) :=
    comp_m (α := Int) (h := .int) (ds := waysW R S) (seq_v rfl rfl) (by show (waysW R S).length < 100000; omega) fun w hw => by
      obtain ⟨a1, a2, a3⟩ := ways_in h.pos k.pos hw
      exact ⟨_, rfl, tup_v (cons_v rfl (cons_v (op_v (afn_v (cons_v rfl (cons_v rfl nil_v)) (turnof_eq a1 (tv_some a2 a1))) (afn_v (cons_v rfl (cons_v rfl nil_v)) (turnof_eq a1 (tv_some a3 a1))) rfl) nil_v)) (by show 2 ≤ capD; decide)⟩
  have e : (waysR R S).map wayD = (waysW R S).map fun w => wayD (w, tvR true R w - tvR true S w) := by unfold waysR; rw [List.map_map]; rfl
  rw [e]
  exact run_rt (B := B_ways_later) (ρ := [.val (TU R), .val (TU S), .no, .no]) (seq_nx (set_v (ofl_v c1)) (ret_v (ofl_v c2)))
theorem waysR_len (R S : List Run) : (waysR R S).length ≤ R.length + S.length := by
  unfold waysR
  rw [List.length_map]
  exact ways_len R S
/-! ### most_worse, against -/
def worstR (R S : List Run) : Option Int := bif decide (cntR true R < cntR true S) then none else some (maxI 0 ((waysR R S).map fun p => p.2))
theorem worst_eq {R S : List Run} (h : Ok9 R) (k : Ok9 S) (hl : R.length < 1000) (kl : S.length < 1000) (e : sizeR R = sizeR S) : F_most_worse [TU R, TU S] = .ret (oD (worstR R S)) := by
  have ce := check_eq h.len k.len e
  unfold worstR
  cases c : decide (cntR true R < cntR true S) with
  | true =>
    exact run_rt (B := B_most_worse) (ρ := [.val (TU R), .val (TU S), .no, .no]) (seq_nx (drop_v (afn_v (cons_v rfl (cons_v rfl nil_v)) ce)) (seq_rt (if_t (test_v (op_v (prop_v rfl (hers_eq h.len)) (prop_v rfl (hers_eq k.len)) ((lt_v _ _).trans (by rw [c])))) (ret_v rfl))))
  | false =>
    have wl := waysR_len R S
    have c2 : fComp (iSeq (aFn F_ways_later (aCons (fVar 0) (aCons (fVar 1) aNil)))) (gTupD (gsCons (gSet 2) (gsCons (gSet 3) gsNil))) fYes (fVar 3) [2, 3] [.val (TU R), .val (TU S), .no, .no] = .ret ((waysR R S).map fun p => D.int p.2) :=
      comp_m (h := wayD) (ds := waysR R S) (seq_v (afn_v (cons_v rfl (cons_v rfl nil_v)) (ways_eq h k hl kl)) rfl) (by show (waysR R S).length < 100000; omega) fun p _ => ⟨_, rfl, rfl⟩
    exact run_rt (B := B_most_worse) (ρ := [.val (TU R), .val (TU S), .no, .no]) (seq_nx (drop_v (afn_v (cons_v rfl (cons_v rfl nil_v)) ce)) (seq_nx (if_nx (test_v (op_v (prop_v rfl (hers_eq h.len)) (prop_v rfl (hers_eq k.len)) ((lt_v _ _).trans (by rw [c]))))) (ret_v (fn_v (ofl_v (lst_v (cons_v rfl (star_v (ofl_v c2) rfl nil_v)) (by rw [List.length_cons, List.length_append, List.length_map]; show (waysR R S).length + 0 + 1 ≤ 100000; omega))) (max_map _ _)))))
def laterR (R S : List Run) : List Int := ((waysR R S).filter fun p => decide (0 < p.2)).map fun p => p.1
def agR (R S : List Run) : Option Int := match laterR R S with
  | x :: _ => some x
  | [] => bif decide (cntR true R < cntR true S) then some (cntR true R + 1) else none
theorem ix0 (x : D) (l : List D) : ixD (.lst (x :: l)) (.int 0) = .ret x := by
  have h : L2.atI (x :: l) (0 : Int) = some x := L2.atI_nat (j := 0) rfl
  show (match L2.atI (x :: l) (0 : Int) with | some d => T.ret d | none => T.fail) = _
  rw [h]
theorem ag_eq {R S : List Run} (h : Ok9 R) (k : Ok9 S) (hl : R.length < 1000) (kl : S.length < 1000) (e : sizeR R = sizeR S) : F_against [TU R, TU S] = .ret (oD (agR R S)) := by
  have ce := check_eq h.len k.len e
  have wl := waysR_len R S
  have c : fComp (iSeq (aFn F_ways_later (aCons (fVar 0) (aCons (fVar 1) aNil)))) (gTupD (gsCons (gSet 3) (gsCons (gSet 4) gsNil))) (fTest (fOp gtD (fVar 4) (fC (.int 0)))) (fVar 3) [3, 4] [.val (TU R), .val (TU S), .no, .no, .no] = .ret (iD (laterR R S)) :=
    (comp_f (p := fun p => decide (0 < p.2)) (h := wayD) (k := fun p => .int p.1) (ds := waysR R S) (seq_v (afn_v (cons_v rfl (cons_v rfl nil_v)) (ways_eq h k hl kl)) rfl) (by show (waysR R S).length < 100000; omega) fun p _ => ⟨_, rfl, test_v (op_v rfl rfl (gt_v _ _)), fun _ => rfl⟩).trans (by unfold laterR iD; rw [List.map_map]; rfl)
  unfold agR
  cases hL : laterR R S with
  | cons x l =>
    rw [hL] at c
    refine run_rt (B := B_against) (ρ := [.val (TU R), .val (TU S), .no, .no, .no]) (seq_nx (drop_v (afn_v (cons_v rfl (cons_v rfl nil_v)) ce)) (seq_nx (set_v (ofl_v c)) (seq_rt (if_t (test_v (op_v (fn_v rfl rfl) rfl ((gt_v _ _).trans ?_))) (ret_v (op_v rfl rfl (ix0 _ _)))))))
    rw [decide_eq_true]
    rw [len_iD, List.length_cons]; omega
  | nil =>
    rw [hL] at c
    cases c2 : decide (cntR true R < cntR true S) with
    | true => exact run_rt (B := B_against) (ρ := [.val (TU R), .val (TU S), .no, .no, .no]) (seq_nx (drop_v (afn_v (cons_v rfl (cons_v rfl nil_v)) ce)) (seq_nx (set_v (ofl_v c)) (seq_nx (if_nx (test_v (op_v (fn_v rfl rfl) rfl rfl))) (ret_v (ifE_t (test_v (op_v (prop_v rfl (hers_eq h.len)) (prop_v rfl (hers_eq k.len)) ((lt_v _ _).trans (by rw [c2])))) (op_v (prop_v rfl (hers_eq h.len)) rfl rfl))))))
    | false => exact run_rt (B := B_against) (ρ := [.val (TU R), .val (TU S), .no, .no, .no]) (seq_nx (drop_v (afn_v (cons_v rfl (cons_v rfl nil_v)) ce)) (seq_nx (set_v (ofl_v c)) (seq_nx (if_nx (test_v (op_v (fn_v rfl rfl) rfl rfl))) (ret_v (ifE_f (test_v (op_v (prop_v rfl (hers_eq h.len)) (prop_v rfl (hers_eq k.len)) ((lt_v _ _).trans (by rw [c2])))) rfl)))))
theorem non_oD (x : Option Int) : isNonD (oD x) = x.isNone := by cases x <;> rfl
theorem nw_eq {R S : List Run} (h : Ok9 R) (k : Ok9 S) (hl : R.length < 1000) (kl : S.length < 1000) (e : sizeR R = sizeR S) : F_never_worse [TU R, TU S] = .ret (.bl (agR R S).isNone) :=
  run_rt (B := B_never_worse) (ρ := [.val (TU R), .val (TU S)]) (ret_v ((isN_v (afn_v (cons_v rfl (cons_v rfl nil_v)) (ag_eq h k hl kl e))).trans (by rw [non_oD])))
def cmpS : Bool → Bool → D
  | true, true => .str (PySem.Str.ofString "alike")
  | true, false => .str (PySem.Str.ofString "better")
  | false, true => .str (PySem.Str.ofString "worse")
  | false, false => .str (PySem.Str.ofString "apart")
theorem compare_eq {R S : List Run} {a b : Bool} (h : F_never_worse [TU R, TU S] = .ret (.bl a)) (k : F_never_worse [TU S, TU R] = .ret (.bl b)) : F_compare [TU R, TU S] = .ret (cmpS a b) := by
  cases a with
  | true =>
    cases b with
    | true => exact run_rt (B := B_compare) (ρ := [.val (TU R), .val (TU S)]) (seq_rt (if_t (test_v (afn_v (cons_v rfl (cons_v rfl nil_v)) h)) (ret_v (ifE_t (test_v (afn_v (cons_v rfl (cons_v rfl nil_v)) k)) rfl))))
    | false => exact run_rt (B := B_compare) (ρ := [.val (TU R), .val (TU S)]) (seq_rt (if_t (test_v (afn_v (cons_v rfl (cons_v rfl nil_v)) h)) (ret_v (ifE_f (test_v (afn_v (cons_v rfl (cons_v rfl nil_v)) k)) rfl))))
  | false =>
    cases b with
    | true => exact run_rt (B := B_compare) (ρ := [.val (TU R), .val (TU S)]) (seq_nx (if_nx (test_v (afn_v (cons_v rfl (cons_v rfl nil_v)) h))) (ret_v (ifE_t (test_v (afn_v (cons_v rfl (cons_v rfl nil_v)) k)) rfl)))
    | false => exact run_rt (B := B_compare) (ρ := [.val (TU R), .val (TU S)]) (seq_nx (if_nx (test_v (afn_v (cons_v rfl (cons_v rfl nil_v)) h))) (ret_v (ifE_f (test_v (afn_v (cons_v rfl (cons_v rfl nil_v)) k)) rfl)))
theorem is_against_eq {R S : List Run} {n : Int} (hR : R.length < 100000) (hS : S.length < 100000) (e : sizeR R = sizeR S) (h1 : 1 ≤ n) (h2 : n ≤ cntR true S) (h3 : n ≤ cntR true R → tvR true S n < tvR true R n) : F_is_against [TU R, TU S, .int n] = .ret (.bl true) := by
  have ce := check_eq hR hS e
  have t : fOr (fNot (fTest (aFn F_is_number (aCons (fVar 2) aNil)))) (fNot (fTest (fChain leD leD (fC (.int 1)) (fVar 2) (fProp 0 F_Turns_hers (fVar 1))))) [.val (TU R), .val (TU S), .val (.int n)] = .ret false :=
    or_v (c := false) (c' := false) (not_v (c := true) (test_v (afn_v (cons_v rfl nil_v) rfl))) (not_v (c := true) (test_v (chain_t rfl rfl ((le_v _ _).trans (by rw [decide_eq_true h1])) (prop_v rfl (hers_eq hS)) ((le_v _ _).trans (by rw [decide_eq_true h2])))))
  refine run_rt (B := B_is_against) (ρ := [.val (TU R), .val (TU S), .val (.int n)]) (seq_nx (drop_v (afn_v (cons_v rfl (cons_v rfl nil_v)) ce)) (seq_nx (if_nx t) (ret_v ?_)))
  by_cases c : n ≤ cntR true R
  · refine orV_f (op_v rfl (prop_v rfl (hers_eq hR)) ((gt_v _ _).trans (by rw [decide_eq_false (by omega)]))) (op_v (afn_v (cons_v rfl (cons_v rfl nil_v)) (turnof_eq h1 (tv_some c h1))) (afn_v (cons_v rfl (cons_v rfl nil_v)) (turnof_eq h1 (tv_some h2 h1))) ((gt_v _ _).trans ?_))
    rw [decide_eq_true (h3 c)]
  · exact orV_t (op_v rfl (prop_v rfl (hers_eq hR)) ((gt_v _ _).trans (by rw [decide_eq_true (by omega)])))
/-! ### corners, is_above -/
def cornersR (R S : List Run) : List Int := setN (0 :: (endsR 0 R ++ endsR 0 S))
theorem corners_len (R S : List Run) : (cornersR R S).length ≤ R.length + S.length + 1 := by
  have := len_set (0 :: (endsR 0 R ++ endsR 0 S))
  rw [List.length_cons, List.length_append, len_ends, len_ends] at this
  exact this
theorem corners_eq {R S : List Run} (hl : R.length < 1000) (kl : S.length < 1000) : F_corners [TU R, TU S] = .ret (.tup (iD (cornersR R S))) := by
  have c : fTup (aCons (fC (.int 0)) (aStar (fProp 0 F_Turns_ends (fVar 0)) (aStar (fProp 0 F_Turns_ends (fVar 1)) aNil))) [.val (TU R), .val (TU S)] = .ret (.tup (iD (0 :: (endsR 0 R ++ endsR 0 S)))) := by
    have e : iD (0 :: (endsR 0 R ++ endsR 0 S)) = .int 0 :: (iD (endsR 0 R) ++ (iD (endsR 0 S) ++ [])) := by unfold iD; rw [List.append_nil, List.map_cons, List.map_append]
    rw [e]
    refine tup_v (cons_v rfl (star_v (prop_v rfl (ends_eq R)) rfl (star_v (prop_v rfl (ends_eq S)) rfl nil_v))) ?_
    rw [List.length_cons, List.length_append, List.length_append, len_iD, len_iD, len_ends, len_ends]
    show R.length + (S.length + 0) + 1 ≤ 100000
    omega
  exact run_rt (B := B_corners) (ρ := [.val (TU R), .val (TU S)]) (ret_v (afn_v (cons_v c nil_v) (setof_eq rfl (by rw [List.length_cons, List.length_append, len_ends, len_ends]; omega))))
def aboveR (R S : List Run) : Bool := (cornersR R S).all fun n => decide (aheadR n 0 S ≤ aheadR n 0 R)
theorem bls_map {α : Type} (p : α → Bool) : ∀ l : List α, blsD (l.map fun a => .bl (p a)) = some (l.map p)
  | [] => rfl
  | a :: l => by
    show (match blsD (l.map fun a => .bl (p a)) with | some is => some (p a :: is) | none => none) = _
    rw [bls_map p l]; rfl
theorem all_map {α : Type} (p : α → Bool) (l : List α) : allD (.lst (l.map fun a => .bl (p a))) = .ret (.bl (l.all p)) := by
  unfold allD
  simp only [bls_map]
  congr 2
  rw [List.all_map]
  rfl
theorem above_eq {R S : List Run} (h : Ok9 R) (k : Ok9 S) (hl : R.length < 1000) (kl : S.length < 1000) (e : sizeR R = sizeR S) : F_is_above [TU R, TU S] = .ret (.bl (aboveR R S)) := by
  have l := corners_len R S
  have c : fComp (iSeq (aFn F_corners (aCons (fVar 0) (aCons (fVar 1) aNil)))) (gSet 2) fYes (fOp geD (aFn F_ahead (aCons (fVar 0) (aCons (fVar 2) aNil))) (aFn F_ahead (aCons (fVar 1) (aCons (fVar 2) aNil)))) [2] [.val (TU R), .val (TU S), .no] = .ret ((cornersR R S).map fun n => D.bl (decide (aheadR n 0 S ≤ aheadR n 0 R))) :=
    comp_m (α := Int) (h := .int) (ds := cornersR R S) (seq_v (afn_v (cons_v rfl (cons_v rfl nil_v)) (corners_eq hl kl)) rfl) (by show (cornersR R S).length < 100000; omega) fun n _ => ⟨_, rfl, op_v (afn_v (cons_v rfl (cons_v rfl nil_v)) (ahead_eq R n)) (afn_v (cons_v rfl (cons_v rfl nil_v)) (ahead_eq S n)) (ge_v _ _)⟩
  exact run_rt (B := B_is_above) (ρ := [.val (TU R), .val (TU S), .no]) (seq_nx (drop_v (afn_v (cons_v rfl (cons_v rfl nil_v)) (check_eq h.len k.len e))) (ret_v (fn_v (ofl_v c) (all_map _ _))))
end LW
end

section
set_option maxRecDepth 100000
set_option maxHeartbeats 1000000
/-! NG: ==, [], both, fewest steps. -/
namespace LW
open PySem DL
/-! ### == of turns -/
theorem good_run (n : Nat) (r : Run) : D.good (n + 1) (runD r) = true := by
  obtain ⟨h, k⟩ := r
  show (D.good n (hD h) && (D.good n (.int k) && D.goods n [])) = true
  have e1 : D.good n (hD h) = true := by
    have : D.good n (hD h) = PyData.strOk (hS h) := by cases n <;> rfl
    rw [this]
    cases h <;> decide +kernel
  rw [e1]
  cases n <;> rfl
theorem good_runs (n : Nat) : ∀ R : List Run, D.goods (n + 1) (R.map runD) = true
  | [] => by cases n <;> rfl
  | r :: R => by
    show (D.good (n + 1) (runD r) && D.goods (n + 1) (R.map runD)) = true
    rw [good_run, good_runs n R]; rfl
theorem eqv_run (r : Run) : D.eqv (runD r) (runD r) = true := by
  obtain ⟨h, k⟩ := r
  show (D.eqv (hD h) (hD h) && (D.eqv (.int k) (.int k) && D.eqvs [] [])) = true
  have e1 : D.eqv (hD h) (hD h) = true := by cases h <;> decide +kernel
  have e2 : D.eqv (.int k) (.int k) = true := by unfold D.eqv; simp
  rw [e1, e2]
  simp [D.eqvs]
theorem eqv_runs : ∀ R : List Run, D.eqvs (R.map runD) (R.map runD) = true
  | [] => by simp [D.eqvs]
  | r :: R => by
    rw [List.map_cons]
    unfold D.eqvs
    rw [eqv_run, eqv_runs R]; rfl
theorem eq_runs (R : List Run) : eqD (runsD R) (runsD R) = .ret (.bl true) := by
  have g : D.good 60 (runsD R) = true := good_runs 58 R
  have q : D.eqv (runsD R) (runsD R) = true := by
    unfold runsD D.eqv
    exact eqv_runs R
  have e : eqB (runsD R) (runsD R) = (match (runsD R).good 60 && (runsD R).good 60 with | true => T.ret (D.eqv (runsD R) (runsD R)) | false => .fail) := by unfold eqB runsD; rfl
  unfold eqD
  rw [e, g, q]
  rfl
theorem teq (R : List Run) : F_Turns_eq [TU R, TU R] = .ret (.bl true) :=
  run_rt (B := B_Turns_eq) (ρ := [.val (TU R), .val (TU R)]) (ret_v (andV_t (fn_v rfl rfl) (op_v rfl (prop_v rfl (runs_eq R)) (eq_runs R))))
theorem own_eq (R : List Run) : ownD 0 F_Turns_eq (TU R) (TU R) = .ret (.bl true) := teq R
/-! ### [] -/
def getR : Int → Int → List Run → Option Bool
  | _, _, [] => none
  | k, b, r :: R => bif decide (k ≤ b + r.2) then some r.1 else getR k (b + r.2) R
abbrev XG : D → DL.Env → T DL.Env := gTupD (gsCons (gTupD (gsCons (gSet 3) (gsCons (gSet 4) gsNil))) (gsCons (gSet 2) gsNil))
abbrev XB : DL.Env → T Out := sIf (fTest (fOp leD (fVar 1) (fVar 2))) (sRet (fVar 3)) sNext
theorem get_loop (T0 : D) (k : Int) : ∀ (R : List Run) (b : Int) (h : Bool) (s2 s3 s4 : Slot), getR k b R = some h → forT XG XB [.val T0, .val (.int k), s2, s3, s4] ((tri b R).map triD) = .ret (.rt (hD h))
  | [], b, h, s2, s3, s4, e => by cases e
  | (x, n) :: R, b, h, s2, s3, s4, e => by
    have e' : (bif decide (k ≤ b + n) then some x else getR k (b + n) R) = some h := e
    cases c : decide (k ≤ b + n) with
    | true =>
      rw [c, cond_true] at e'
      cases e'
      exact for_rt rfl (if_t (test_v (op_v rfl rfl ((le_v _ _).trans (by rw [c])))) (ret_v rfl))
    | false =>
      rw [c, cond_false] at e'
      exact Eq.trans (for_nx rfl (if_nx (test_v (op_v rfl rfl ((le_v _ _).trans (by rw [c])))))) (get_loop T0 k R (b + n) h _ _ _ e')
theorem get_eq {R : List Run} {k : Int} {h : Bool} (hk : 1 ≤ k) (e : getR k 0 R = some h) : ownIx 0 F_Turns_getitem (TU R) (.int k) = .ret (hD h) := by
  have l := get_loop (TU R) k R 0 h .no .no .no e
  have iz2 : iZip (fFld 0 1 (fVar 0)) (fFld 0 0 (fVar 0)) [.val (TU R), .val (.int k), .no, .no, .no] = .ret ((tri 0 R).map triD) :=
    (zip_v (a := runsD R) (b := .tup (iD (endsR 0 R))) rfl rfl rfl rfl).trans (by rw [zip_tri])
  have f : F_Turns_getitem [TU R, .int k] = .ret (hD h) := run_rt (B := B_Turns_getitem) (ρ := [.val (TU R), .val (.int k), .no, .no, .no]) (seq_rt (if_t (test_v (op_v rfl rfl ((gt_v _ _).trans (by rw [decide_eq_true (by omega)])))) (for_v iz2 l)))
  exact f
theorem get_some : ∀ (R : List Run) (k b : Int), b < k → k ≤ b + sizeR R → ∃ h, getR k b R = some h
  | [], k, b, h1, h2 => by
    have : sizeR [] = 0 := rfl
    omega
  | r :: R, k, b, h1, h2 => by
    have e : sizeR (r :: R) = r.2 + sizeR R := rfl
    show ∃ h, (bif decide (k ≤ b + r.2) then some r.1 else getR k (b + r.2) R) = some h
    by_cases c : k ≤ b + r.2
    · rw [decide_eq_true c]; exact ⟨_, rfl⟩
    · rw [decide_eq_false c]
      exact get_some R k (b + r.2) (by omega) (by omega)
def gvR (R : List Run) (k : Int) : Bool := (getR k 0 R).getD true
theorem gv_some {R : List Run} {k : Int} (h1 : 0 < k) (h2 : k ≤ sizeR R) : getR k 0 R = some (gvR R k) := by
  obtain ⟨h, e⟩ := get_some R k 0 h1 (by omega)
  unfold gvR
  rw [e]; rfl
/-! ### the corners' order -/
def Asc : List Int → Prop
  | [] => True
  | x :: l => (∀ y ∈ l, x < y) ∧ Asc l
theorem asc_ins (x : Int) : ∀ l : List Int, Asc l → x ∉ l → Asc (insN x l)
  | [], _, _ => ⟨fun _ h => absurd h List.not_mem_nil, trivial⟩
  | z :: l, ha, hx => by
    show Asc (bif decide (x ≤ z) then x :: z :: l else z :: insN x l)
    have hz : x ≠ z := fun e => hx (e ▸ .head _)
    by_cases c : x ≤ z
    · rw [decide_eq_true c, cond_true]
      refine ⟨fun y hy => ?_, ha⟩
      rcases List.mem_cons.mp hy with q | q
      · omega
      · have := ha.1 y q; omega
    · rw [decide_eq_false c, cond_false]
      refine ⟨fun y hy => ?_, asc_ins x l ha.2 fun h => hx (.tail _ h)⟩
      rcases (mem_ins x y l).mp hy with q | q
      · omega
      · exact ha.1 y q
theorem nodup_ded : ∀ l : List Int, (dedN l).Nodup
  | [] => List.nodup_nil
  | x :: l => by
    show (bif (dedN l).contains x then dedN l else x :: dedN l).Nodup
    have ih := nodup_ded l
    cases c : (dedN l).contains x with
    | true => exact ih
    | false =>
      rw [cond_false, List.nodup_cons]
      exact ⟨fun h => (by rw [List.contains_iff_mem.mpr h] at c; cases c), ih⟩
theorem asc_sor : ∀ l : List Int, l.Nodup → Asc (sorN l)
  | [], _ => trivial
  | x :: l, h => by
    obtain ⟨h1, h2⟩ := List.nodup_cons.mp h
    exact asc_ins x (sorN l) (asc_sor l h2) fun q => h1 ((mem_sor x l).mp q)
theorem asc_set (l : List Int) : Asc (setN l) := asc_sor _ (nodup_ded l)
/-- neighbours -/
def prs : List Int → List (Int × Int)
  | x :: y :: l => (x, y) :: prs (y :: l)
  | _ => []
theorem prs_zip : ∀ l : List Int, zipD (iD l) ((iD l).drop 1) = (prs l).map fun p => D.pr (.int p.1) (.int p.2)
  | [] => rfl
  | [x] => rfl
  | x :: y :: l => by
    show D.pr (.int x) (.int y) :: zipD (iD (y :: l)) ((iD (y :: l)).drop 1) = _
    rw [prs_zip (y :: l)]; rfl
theorem prs_in : ∀ (l : List Int), Asc l → ∀ p ∈ prs l, p.1 < p.2 ∧ p.1 ∈ l ∧ p.2 ∈ l
  | [], _, p, h => absurd h List.not_mem_nil
  | [x], _, p, h => absurd h List.not_mem_nil
  | x :: y :: l, ha, p, h => by
    rcases List.mem_cons.mp h with q | q
    · rw [q]; exact ⟨ha.1 y (.head _), .head _, .tail _ (.head _)⟩
    · obtain ⟨h1, h2, h3⟩ := prs_in (y :: l) ha.2 p q
      exact ⟨h1, .tail _ h2, .tail _ h3⟩
theorem prs_len : ∀ l : List Int, (prs l).length ≤ l.length
  | [] => Nat.le_refl _
  | [x] => Nat.zero_le _
  | x :: y :: l => Nat.succ_le_succ (prs_len (y :: l))
theorem ends_in : ∀ (R : List Run) (b : Int), (∀ r ∈ R, 1 ≤ r.2) → ∀ e ∈ endsR b R, b < e ∧ e ≤ b + sizeR R
  | [], b, _, e, h => absurd h List.not_mem_nil
  | r :: R, b, hp, e, h => by
    have hs : sizeR (r :: R) = r.2 + sizeR R := rfl
    have hr := hp r (.head _)
    have h0 := (le_size fun q hq => hp q (.tail _ hq)).1
    rcases List.mem_cons.mp h with q | q
    · omega
    · have := ends_in R (b + r.2) (fun q hq => hp q (.tail _ hq)) e q
      omega
theorem corners_in {R S : List Run} (h : Ok9 R) (k : Ok9 S) (e : sizeR R = sizeR S) {x : Int} (hx : x ∈ cornersR R S) : 0 ≤ x ∧ x ≤ sizeR R := by
  unfold cornersR at hx
  rw [mem_set, List.mem_cons, List.mem_append] at hx
  have h0 := (le_size h.pos).1
  rcases hx with q | q | q
  · omega
  · have := ends_in R 0 h.pos x q; omega
  · have := ends_in S 0 k.pos x q; omega
/-! ### both -/
def raStep (R S : List Run) (p : Int × Int) : List Run := bif gvR R (p.1 + 1) == gvR S (p.1 + 1) then [(gvR R (p.1 + 1), p.2 - p.1)] else
  [(false, min (p.2 - p.1) (max 0 (bif gvR S (p.1 + 1) then aheadR p.1 0 R - aheadR p.1 0 S else -(aheadR p.1 0 R - aheadR p.1 0 S)))),
   (true, p.2 - p.1 - min (p.2 - p.1) (max 0 (bif gvR S (p.1 + 1) then aheadR p.1 0 R - aheadR p.1 0 S else -(aheadR p.1 0 R - aheadR p.1 0 S))))]
def raR (R S : List Run) : List Run := ((prs (cornersR R S)).flatMap (raStep R S)).filter fun r => decide (0 < r.2)
abbrev RG : D → DL.Env → T DL.Env := gTupD (gsCons (gSet 4) (gsCons (gSet 5) gsNil))
abbrev RB : DL.Env → T Out := (sSeq (sPar3 9 10 11 (fOp (ownIx 0 F_Turns_getitem) (fVar 0) (fOp addD (fVar 4) (fC (.int 1)))) (fOp (ownIx 0 F_Turns_getitem) (fVar 1) (fOp addD (fVar 4) (fC (.int 1)))) (fOp subD (aFn F_ahead (aCons (fVar 0) (aCons (fVar 4) aNil))) (aFn F_ahead (aCons (fVar 1) (aCons (fVar 4) aNil))))) (sSeq (sSet 6 (fOp subD (fVar 5) (fVar 4))) (sSeq (sIf (fTest (fOp eqD (fVar 9) (fVar 10))) (sSeq (sApp 2 (fTup (aCons (fVar 9) (aCons (fVar 6) aNil)))) sCont) sNext) (sSeq (sSet 7 (fIf (fTest (fOp eqD (fVar 10) (fC (.str (PySem.Str.ofString "a"))))) (fVar 11) (fUn negD (fVar 11)))) (sSeq (sSet 8 (aFn min2D (aCons (fVar 6) (aCons (aFn max2D (aCons (fC (.int 0)) (aCons (fVar 7) aNil))) aNil)))) (sExt 2 (fOfL (fLst (aCons (fTup (aCons (fC (.str (PySem.Str.ofString "b"))) (aCons (fVar 8) aNil))) (aCons (fTup (aCons (fC (.str (PySem.Str.ofString "a"))) (aCons (fOp subD (fVar 6) (fVar 8)) aNil))) aNil))))))))))
theorem seq_ct {a b : DL.Env → T Out} {ρ ρ' : DL.Env} (h : a ρ = .ret (.ct ρ')) : sSeq a b ρ = .ret (.ct ρ') := by unfold sSeq; rw [h, T.bind_ret]
theorem run_tup {H N : DL.Env → T D} {ρ : DL.Env} {h : Bool} {n : Int} (hh : H ρ = .ret (hD h)) (hn : N ρ = .ret (.int n)) : fTup (aCons H (aCons N aNil)) ρ = .ret (runD (h, n)) := tup_v (cons_v hh (cons_v hn nil_v)) (by show 2 ≤ capD; decide)
theorem ra_loop (R S : List Run) (E0 : D) : ∀ (ps : List (Int × Int)) (acc : List Run) (s4 s5 s6 s7 s8 s9 s10 s11 : Slot), (∀ p ∈ ps, 0 ≤ p.1 ∧ p.1 < sizeR R ∧ p.1 < sizeR S) → acc.length + 2 * ps.length < 100000 →
    ∃ t4 t5 t6 t7 t8 t9 t10 t11, forT RG RB [.val (TU R), .val (TU S), .own (.lst (acc.map runD)), .val E0, s4, s5, s6, s7, s8, s9, s10, s11, .no] (ps.map fun p => D.pr (.int p.1) (.int p.2)) =
      .ret (.nx [.val (TU R), .val (TU S), .own (.lst ((acc ++ ps.flatMap (raStep R S)).map runD)), .val E0, t4, t5, t6, t7, t8, t9, t10, t11, .no])
  | [], acc, s4, s5, s6, s7, s8, s9, s10, s11, _, _ => ⟨s4, s5, s6, s7, s8, s9, s10, s11, by
    rw [List.flatMap_nil, List.append_nil]; rfl⟩
  | (x, y) :: ps, acc, s4, s5, s6, s7, s8, s9, s10, s11, hp, hl => by
    obtain ⟨p1, p2, p3⟩ := hp (x, y) (.head _)
    have p2' : x < sizeR R := p2
    have p3' : x < sizeR S := p3
    have p1' : 0 ≤ x := p1
    rw [List.length_cons] at hl
    have g1 := get_eq (R := R) (k := x + 1) (by omega) (gv_some (by omega) (by omega))
    have g2 := get_eq (R := S) (k := x + 1) (by omega) (gv_some (by omega) (by omega))
    have hp' : ∀ p ∈ ps, 0 ≤ p.1 ∧ p.1 < sizeR R ∧ p.1 < sizeR S := fun p h => hp p (.tail _ h)
    have s1 : ∀ ρ : DL.Env, ρ = [.val (TU R), .val (TU S), .own (.lst (acc.map runD)), .val E0, .val (.int x), .val (.int y), s6, s7, s8, s9, s10, s11, .no] →
        sPar3 9 10 11 (fOp (ownIx 0 F_Turns_getitem) (fVar 0) (fOp addD (fVar 4) (fC (.int 1)))) (fOp (ownIx 0 F_Turns_getitem) (fVar 1) (fOp addD (fVar 4) (fC (.int 1)))) (fOp subD (aFn F_ahead (aCons (fVar 0) (aCons (fVar 4) aNil))) (aFn F_ahead (aCons (fVar 1) (aCons (fVar 4) aNil)))) ρ =
          .ret (.nx [.val (TU R), .val (TU S), .own (.lst (acc.map runD)), .val E0, .val (.int x), .val (.int y), s6, s7, s8, .val (hD (gvR R (x + 1))), .val (hD (gvR S (x + 1))), .val (.int (aheadR x 0 R - aheadR x 0 S)), .no]) := by
      rintro ρ rfl
      exact par3_v (op_v rfl (op_v rfl rfl rfl) g1) (op_v rfl (op_v rfl rfl rfl) g2) (op_v (afn_v (cons_v rfl (cons_v rfl nil_v)) (ahead_eq R x)) (afn_v (cons_v rfl (cons_v rfl nil_v)) (ahead_eq S x)) rfl)
    cases c : gvR R (x + 1) == gvR S (x + 1) with
    | true =>
      have es : raStep R S (x, y) = [(gvR R (x + 1), y - x)] := by unfold raStep; rw [c]; rfl
      obtain ⟨t4, t5, t6, t7, t8, t9, t10, t11, e⟩ := ra_loop R S E0 ps (acc ++ [(gvR R (x + 1), y - x)]) (.val (.int x)) (.val (.int y)) (.val (.int (y - x))) s7 s8 (.val (hD (gvR R (x + 1)))) (.val (hD (gvR S (x + 1)))) (.val (.int (aheadR x 0 R - aheadR x 0 S))) hp' (by rw [List.length_append, List.length_singleton]; omega)
      rw [List.append_assoc] at e
      refine ⟨t4, t5, t6, t7, t8, t9, t10, t11, ?_⟩
      rw [List.flatMap_cons, es]
      refine Eq.trans (for_ct rfl (seq_nx (s1 _ rfl) (seq_nx (set_v (op_v rfl rfl rfl)) (seq_ct (if_t (test_v (op_v rfl rfl ((eqD_hh _ _).trans (by rw [c])))) (seq_nx (app_v rfl (run_tup rfl rfl) (by rw [List.length_map]; show acc.length < 100000; omega)) rfl)))))) ?_
      have em : (acc ++ [(gvR R (x + 1), y - x)]).map runD = acc.map runD ++ [runD (gvR R (x + 1), y - x)] := by rw [List.map_append]; rfl
      rw [em] at e
      exact e
    | false =>
      generalize hz : (bif gvR S (x + 1) then aheadR x 0 R - aheadR x 0 S else -(aheadR x 0 R - aheadR x 0 S)) = z
      have es : raStep R S (x, y) = [(false, min (y - x) (max 0 z)), (true, y - x - min (y - x) (max 0 z))] := by unfold raStep; rw [c, ← hz]; rfl
      obtain ⟨t4, t5, t6, t7, t8, t9, t10, t11, e⟩ := ra_loop R S E0 ps (acc ++ [(false, min (y - x) (max 0 z)), (true, y - x - min (y - x) (max 0 z))]) (.val (.int x)) (.val (.int y)) (.val (.int (y - x))) (.val (.int z)) (.val (.int (min (y - x) (max 0 z)))) (.val (hD (gvR R (x + 1)))) (.val (hD (gvR S (x + 1)))) (.val (.int (aheadR x 0 R - aheadR x 0 S))) hp' (by rw [List.length_append]; show acc.length + 2 + 2 * ps.length < 100000; omega)
      rw [List.append_assoc] at e
      refine ⟨t4, t5, t6, t7, t8, t9, t10, t11, ?_⟩
      rw [List.flatMap_cons, es]
      have sl : ∀ ρ : DL.Env, ρ = [.val (TU R), .val (TU S), .own (.lst (acc.map runD)), .val E0, .val (.int x), .val (.int y), .val (.int (y - x)), s7, s8, .val (hD (gvR R (x + 1))), .val (hD (gvR S (x + 1))), .val (.int (aheadR x 0 R - aheadR x 0 S)), .no] →
          fIf (fTest (fOp eqD (fVar 10) (fC (.str (PySem.Str.ofString "a"))))) (fVar 11) (fUn negD (fVar 11)) ρ = .ret (.int z) := by
        rintro ρ rfl
        cases q : gvR S (x + 1) with
        | true =>
          rw [q] at hz
          rw [← hz]
          exact ifE_t (test_v (op_v rfl rfl (eqD_a true))) rfl
        | false =>
          rw [q] at hz
          rw [← hz]
          exact ifE_f (test_v (op_v rfl rfl (eqD_a false))) (un_v rfl rfl)
      refine Eq.trans (for_nx rfl (seq_nx (s1 _ rfl) (seq_nx (set_v (op_v rfl rfl rfl)) (seq_nx (if_nx (test_v (op_v rfl rfl ((eqD_hh _ _).trans (by rw [c]))))) (seq_nx (set_v (sl _ rfl)) (seq_nx (set_v (afn_v (cons_v rfl (cons_v (afn_v (cons_v rfl (cons_v rfl nil_v)) (max2 _ _)) nil_v)) (min2 _ _)))
        (ext_v rfl (ofl_v (lst_v (cons_v (run_tup (h := false) rfl rfl) (cons_v (run_tup (h := true) rfl (op_v rfl rfl rfl)) nil_v)) (by show 2 ≤ capD; decide))) (by rw [List.length_map]; show acc.length + 2 < 100000; omega)))))))) ?_
      have em : (acc ++ [(false, min (y - x) (max 0 z)), (true, y - x - min (y - x) (max 0 z))]).map runD = acc.map runD ++ [runD (false, min (y - x) (max 0 z)), runD (true, y - x - min (y - x) (max 0 z))] := by rw [List.map_append]; rfl
      rw [em] at e
      exact e
theorem flat_len {α β : Type} (f : α → List β) (c : Nat) (h : ∀ a, (f a).length ≤ c) : ∀ l : List α, (l.flatMap f).length ≤ c * l.length
  | [] => Nat.zero_le _
  | a :: l => by
    rw [List.flatMap_cons, List.length_append, List.length_cons, Nat.mul_succ]
    have := flat_len f c h l
    have := h a
    omega
theorem step_len (R S : List Run) (p : Int × Int) : (raStep R S p).length ≤ 2 := by
  unfold raStep
  cases gvR R (p.1 + 1) == gvR S (p.1 + 1) with
  | true => exact Nat.le_succ 1
  | false => exact Nat.le_refl 2
theorem ra_len (R S : List Run) : (raR R S).length ≤ 2 * (R.length + S.length + 1) := by
  have h1 := flat_len (raStep R S) 2 (step_len R S) (prs (cornersR R S))
  have h2 := prs_len (cornersR R S)
  have h3 := corners_len R S
  have h4 : (raR R S).length ≤ ((prs (cornersR R S)).flatMap (raStep R S)).length := List.length_filter_le _ _
  omega
theorem ra_pos (R S : List Run) : ∀ r ∈ raR R S, 1 ≤ r.2 := fun r h => by
  have := of_decide_eq_true (List.mem_filter.mp h).2
  omega
theorem pairs_in {R S : List Run} (h : Ok9 R) (k : Ok9 S) (e : sizeR R = sizeR S) {p : Int × Int} (hp : p ∈ prs (cornersR R S)) : p.1 < p.2 ∧ 0 ≤ p.1 ∧ p.2 ≤ sizeR R := by
  obtain ⟨h1, h2, h3⟩ := prs_in _ (asc_set _) p hp
  have c1 := corners_in h k e h2
  have c2 := corners_in h k e h3
  omega
theorem cut_drop (xs : List D) (k : Nat) (h : k ≤ xs.length) : cutD xs (some (k : Int)) none = xs.drop k := by
  show (xs.drop (if (k : Int) < 0 then ((k : Int) + (xs.length : Int)).toNat else min (k : Int).toNat xs.length)).take (xs.length - (if (k : Int) < 0 then ((k : Int) + (xs.length : Int)).toNat else min (k : Int).toNat xs.length)) = _
  rw [if_neg (by omega), Int.toNat_natCast, Nat.min_eq_left h]
  exact List.take_of_length_le (by rw [List.length_drop]; exact Nat.le_refl _)
theorem runs_above_eq {R S : List Run} (h : Ok9 R) (k : Ok9 S) (hl : R.length < 1000) (kl : S.length < 1000) (e : sizeR R = sizeR S) : F_runs_above [TU R, TU S] = .ret (.lst ((raR R S).map runD)) := by
  have cl := corners_len R S
  have pl := prs_len (cornersR R S)
  have fl := flat_len (raStep R S) 2 (step_len R S) (prs (cornersR R S))
  obtain ⟨t4, t5, t6, t7, t8, t9, t10, t11, e1⟩ := ra_loop R S (.tup (iD (cornersR R S))) (prs (cornersR R S)) [] .no .no .no .no .no .no .no .no (fun p hp => by
    have := pairs_in h k e hp
    omega) (by rw [List.length_nil]; omega)
  rw [List.nil_append] at e1
  have e0 : sParLV 2 3 (fLst aNil) (aFn F_corners (aCons (fVar 0) (aCons (fVar 1) aNil))) [.val (TU R), .val (TU S), .no, .no, .no, .no, .no, .no, .no, .no, .no, .no, .no] = .ret (.nx [.val (TU R), .val (TU S), .own (.lst (([] : List Run).map runD)), .val (.tup (iD (cornersR R S))), .no, .no, .no, .no, .no, .no, .no, .no, .no]) := by
    show (T.bind (F_corners [TU R, TU S]) _) = _
    rw [corners_eq hl kl]
    rfl
  have ez : iZip (fVar 3) (fSl (fVar 3) (oSome (fC (.int 1))) oNo) [.val (TU R), .val (TU S), .own (.lst (([] : List Run).map runD)), .val (.tup (iD (cornersR R S))), .no, .no, .no, .no, .no, .no, .no, .no, .no] = .ret ((prs (cornersR R S)).map fun p => D.pr (.int p.1) (.int p.2)) := by
    have ne : 1 ≤ (iD (cornersR R S)).length := by
      rw [len_iD]
      have : (0 : Int) ∈ cornersR R S := (mem_set 0 _).mpr (.head _)
      exact List.length_pos_of_mem this
    refine (zip_v (a := .tup (iD (cornersR R S))) (b := .tup ((iD (cornersR R S)).drop 1)) rfl (sl_v rfl rfl rfl ?_) rfl rfl).trans (by rw [prs_zip])
    show T.ret (D.tup (cutD (iD (cornersR R S)) (some ((1 : Nat) : Int)) none)) = _
    rw [cut_drop _ 1 ne]
  have c : ∀ (ρ : DL.Env) (u4 u5 u6 u7 u8 u9 u10 u11 : Slot), ρ = [.val (TU R), .val (TU S), .val (.lst (((prs (cornersR R S)).flatMap (raStep R S)).map runD)), .val (.tup (iD (cornersR R S))), u4, u5, u6, u7, u8, u9, u10, u11, .no] →
      fComp (iSeq (fVar 2)) (gSet 12) (fTest (fOp gtD (fOp ixD (fVar 12) (fC (.int 1))) (fC (.int 0)))) (fVar 12) [12] ρ = .ret ((raR R S).map runD) := by
    rintro ρ u4 u5 u6 u7 u8 u9 u10 u11 rfl
    exact comp_f (α := Run) (i := iSeq (fVar 2)) (g := gSet 12) (t := fTest (fOp gtD (fOp ixD (fVar 12) (fC (.int 1))) (fC (.int 0)))) (f := fVar 12) (vs := [12]) (ρ := [.val (TU R), .val (TU S), .val (.lst (((prs (cornersR R S)).flatMap (raStep R S)).map runD)), .val (.tup (iD (cornersR R S))), u4, u5, u6, u7, u8, u9, u10, u11, .no]) (p := fun r => decide (0 < r.2)) (h := runD) (k := runD) (ds := (prs (cornersR R S)).flatMap (raStep R S)) (seq_v (a := .lst (((prs (cornersR R S)).flatMap (raStep R S)).map runD)) rfl rfl) (by show ((prs (cornersR R S)).flatMap (raStep R S)).length < 100000; omega) fun r _ => ⟨_, rfl, test_v (op_v (op_v rfl rfl rfl) rfl (gt_v _ _)), fun _ => by rfl⟩
  have cc : fComp (iSeq (fVar 2)) (gSet 12) (fTest (fOp gtD (fOp ixD (fVar 12) (fC (.int 1))) (fC (.int 0)))) (fVar 12) [12] (fullE [.val (TU R), .val (TU S), .own (.lst (((prs (cornersR R S)).flatMap (raStep R S)).map runD)), .val (.tup (iD (cornersR R S))), t4, t5, t6, t7, t8, t9, t10, t11, .no]) = .ret ((raR R S).map runD) := by
    exact c _ _ _ _ _ _ _ _ _ rfl
  exact run_rt (B := B_runs_above) (ρ := [.val (TU R), .val (TU S), .no, .no, .no, .no, .no, .no, .no, .no, .no, .no, .no]) (seq_nx e0 (seq_nx (for_v ez e1) (ret_v (ofl_v cc))))
end LW
end

section
set_option maxRecDepth 100000
set_option maxHeartbeats 1000000
/-! NH: above_both, below_both, granted, fewest_steps. -/
namespace LW
open PySem DL
structure Ok8 (R : List Run) : Prop where
  alt : altB none R = true
  pos : ∀ r ∈ R, 1 ≤ r.2
  len : R.length < 100000
theorem Ok8.swap {R : List Run} (h : Ok8 R) : Ok8 (swapR R) :=
  ⟨alt_swap' h.alt, fun r hr => by
    obtain ⟨q, hq, rfl⟩ := List.mem_map.mp hr
    exact h.pos q hq, by unfold swapR; rw [List.length_map]; exact h.len⟩
theorem swapped_eq8 {R : List Run} (h : Ok8 R) : F_swapped [TU R] = .ret (TU (swapR R)) := by
  have c : fComp (iSeq (fProp 0 F_Turns_runs (fVar 0))) (gTupD (gsCons (gSet 1) (gsCons (gSet 2) gsNil))) fYes (fTup (aCons (fIf (fTest (fOp eqD (fVar 1) (fC (.str (PySem.Str.ofString "a"))))) (fC (.str (PySem.Str.ofString "b"))) (fC (.str (PySem.Str.ofString "a")))) (aCons (fVar 2) aNil))) [1, 2] [.val (TU R), .no, .no] = .ret ((swapR R).map runD) := by
    have hl := h.len
    refine (comp_m (h := runD) (k := fun r => runD (!r.1, r.2)) (ds := R) (seq_v (prop_v rfl (runs_eq R)) rfl) hl fun a _ => ⟨_, rfl, ?_⟩).trans (by unfold swapR; rw [List.map_map]; rfl)
    refine tup_v (cons_v (d := hD (!a.1)) ?_ (cons_v rfl nil_v)) (by show 2 ≤ capD; decide)
    obtain ⟨b, n⟩ := a
    cases b with
    | true => exact ifE_t (test_v (op_v rfl rfl (eqD_a true))) rfl
    | false => exact ifE_f (test_v (op_v rfl rfl (eqD_a false))) rfl
  have s := h.swap
  have e := mkL (aa := aCons (fOfL (fComp (iSeq (fProp 0 F_Turns_runs (fVar 0))) (gTupD (gsCons (gSet 1) (gsCons (gSet 2) gsNil))) fYes (fTup (aCons (fIf (fTest (fOp eqD (fVar 1) (fC (.str (PySem.Str.ofString "a"))))) (fC (.str (PySem.Str.ofString "b"))) (fC (.str (PySem.Str.ofString "a")))) (aCons (fVar 2) aNil))) [1, 2])) aNil) (ρ := [.val (TU R), .no, .no]) (cons_v (ofl_v c) nil_v) s.len s.pos
  rw [join_alt s.alt] at e
  exact run_rt (B := B_swapped) (ρ := [.val (TU R), .no, .no]) (ret_v e)
theorem times_eq8 {R : List Run} {m : Int} (h : Ok8 R) (hs : Ok8 (scaleR m R)) (hm : m.natAbs < 18446744073709551616) : F__law_times [TU R, .int m] = .ret (TU (scaleR m R)) := by
  have hl := h.len
  have c : fComp (iSeq (fProp 0 F_Turns_runs (fVar 0))) (gTupD (gsCons (gSet 2) (gsCons (gSet 3) gsNil))) fYes (fTup (aCons (fVar 2) (aCons (fOp mulD (fVar 3) (fVar 1)) aNil))) [2, 3] [.val (TU R), .val (.int m), .no, .no] = .ret ((scaleR m R).map runD) := by
    refine (comp_m (h := runD) (k := fun r => runD (r.1, r.2 * m)) (ds := R) (seq_v (prop_v rfl (runs_eq R)) rfl) hl fun a _ => ⟨_, rfl, ?_⟩).trans (by unfold scaleR; rw [List.map_map]; rfl)
    exact tup_v (cons_v rfl (cons_v (op_v rfl rfl (mul_small hm)) nil_v)) (by show 2 ≤ capD; decide)
  have e := mkT (aa := aCons (fFn tupOfD (fOfL (fComp (iSeq (fProp 0 F_Turns_runs (fVar 0))) (gTupD (gsCons (gSet 2) (gsCons (gSet 3) gsNil))) fYes (fTup (aCons (fVar 2) (aCons (fOp mulD (fVar 3) (fVar 1)) aNil))) [2, 3]))) aNil) (ρ := [.val (TU R), .val (.int m), .no, .no]) (cons_v (fn_v (ofl_v c) rfl) nil_v) hs.len hs.pos
  rw [join_alt hs.alt] at e
  exact run_rt (B := B__law_times) (ρ := [.val (TU R), .val (.int m), .no, .no]) (ret_v e)
theorem jn_pos {acc : List Run} {r : Run} (h : ∀ q ∈ acc, 1 ≤ q.2) (hr : 1 ≤ r.2) : ∀ q ∈ jn acc r, 1 ≤ q.2 := by
  obtain ⟨a, n⟩ := r
  have ac : acc = [] ∨ ∃ pre l, acc = pre ++ [l] := by
    rcases List.eq_nil_or_concat acc with q | ⟨p, l, q⟩
    · exact .inl q
    · exact .inr ⟨p, l, by rw [q, List.concat_eq_append]⟩
  rcases ac with rfl | ⟨pre, l, rfl⟩
  · intro q hq
    rw [List.mem_singleton.mp hq]; exact hr
  · intro q hq
    rw [jn_cat] at hq
    have hl := h l (List.mem_append.mpr (.inr (.head _)))
    cases c : l.1 == a with
    | true =>
      rw [c, cond_true] at hq
      rcases List.mem_append.mp hq with z | z
      · exact h q (List.mem_append.mpr (.inl z))
      · rw [List.mem_singleton.mp z]
        show 1 ≤ l.2 + n
        have hr' : 1 ≤ n := hr
        omega
    | false =>
      rw [c, cond_false] at hq
      rcases List.mem_append.mp hq with z | z
      · exact h q z
      · rw [List.mem_singleton.mp z]; exact hr
theorem fold_pos : ∀ (L acc : List Run), (∀ q ∈ acc, 1 ≤ q.2) → (∀ q ∈ L, 1 ≤ q.2) → ∀ q ∈ L.foldl jn acc, 1 ≤ q.2
  | [], acc, h, _ => h
  | r :: L, acc, h, k => fold_pos L (jn acc r) (jn_pos h (k r (.head _))) fun q hq => k q (.tail _ hq)
theorem join_pos {L : List Run} (h : ∀ q ∈ L, 1 ≤ q.2) : ∀ q ∈ joinR L, 1 ≤ q.2 := fold_pos L [] (fun q hq => absurd hq List.not_mem_nil) h
theorem join8 {L : List Run} (h : ∀ q ∈ L, 1 ≤ q.2) (hl : L.length < 100000) : Ok8 (joinR L) := ⟨alt_join L, join_pos h, Nat.lt_of_le_of_lt (join_len L) hl⟩
theorem scale8 {R : List Run} {m : Int} (h : Ok8 R) (hm : 1 ≤ m) : Ok8 (scaleR m R) :=
  ⟨(alt_scale m R none).trans h.alt, fun r hr => by
    obtain ⟨q, hq, rfl⟩ := List.mem_map.mp hr
    have := h.pos q hq
    show 1 ≤ q.2 * m
    have h2 := Int.mul_le_mul this hm (by omega) (by omega)
    omega, by unfold scaleR; rw [List.length_map]; exact h.len⟩
theorem both_eq {R S : List Run} (h : Ok9 R) (k : Ok9 S) (hl : R.length < 1000) (kl : S.length < 1000) (e : sizeR R = sizeR S) : F_above_both [TU R, TU S] = .ret (TU (joinR (raR R S))) := by
  have rl := ra_len R S
  exact run_rt (B := B_above_both) (ρ := [.val (TU R), .val (TU S)]) (seq_nx (drop_v (afn_v (cons_v rfl (cons_v rfl nil_v)) (check_eq h.len k.len e))) (ret_v (mkL (cons_v (afn_v (cons_v rfl (cons_v rfl nil_v)) (runs_above_eq h k hl kl e)) nil_v) (by omega) (ra_pos R S))))
theorem size_swap (R : List Run) : sizeR (swapR R) = sizeR R := by unfold sizeR swapR; rw [List.map_map]; rfl
theorem below_eq {R S : List Run} (h : Ok9 R) (k : Ok9 S) (hl : R.length < 1000) (kl : S.length < 1000) (e : sizeR R = sizeR S) : F_below_both [TU R, TU S] = .ret (TU (swapR (joinR (raR (swapR R) (swapR S))))) := by
  have rl := ra_len (swapR R) (swapR S)
  rw [swap_len, swap_len] at rl
  have ra := runs_above_eq h.swap k.swap (by rw [swap_len]; exact hl) (by rw [swap_len]; exact kl) (by rw [size_swap, size_swap]; exact e)
  have mk : fMake 0 (aCons (aFn F_runs_above (aCons (aFn F_swapped (aCons (fVar 0) aNil)) (aCons (aFn F_swapped (aCons (fVar 1) aNil)) aNil))) aNil) I_Turns_init [.val (TU R), .val (TU S)] = .ret (TU (joinR (raR (swapR R) (swapR S)))) :=
    mkL (cons_v (afn_v (cons_v (afn_v (cons_v rfl nil_v) (swapped_eq h)) (cons_v (afn_v (cons_v rfl nil_v) (swapped_eq k)) nil_v)) ra) nil_v) (by omega) (ra_pos _ _)
  exact run_rt (B := B_below_both) (ρ := [.val (TU R), .val (TU S)]) (seq_nx (drop_v (afn_v (cons_v rfl (cons_v rfl nil_v)) (check_eq h.len k.len e))) (ret_v (afn_v (cons_v mk nil_v) (swapped_eq8 (join8 (ra_pos _ _) (by omega))))))
/-! ### granted(turns, 0) -/
abbrev GG : D → DL.Env → T DL.Env := gTupD (gsCons (gSet 4) (gsCons (gSet 5) gsNil))
abbrev GB : DL.Env → T Out := (sSeq (sSet 6 (fIf (fTest (fOp eqD (fVar 4) (fC (.str (PySem.Str.ofString "b"))))) (aFn min2D (aCons (fVar 2) (aCons (fVar 5) aNil))) (fC (.int 0)))) (sSeq (sAug 2 (fun i j => i - j) (fVar 6)) (sExt 3 (fOfL (fComp (iSeq (fTup (aCons (fTup (aCons (fC (.str (PySem.Str.ofString "a"))) (aCons (fVar 6) aNil))) (aCons (fTup (aCons (fVar 4) (aCons (fOp subD (fVar 5) (fVar 6)) aNil))) aNil)))) (gSet 7) (fTest (fOp gtD (fOp ixD (fVar 7) (fC (.int 1))) (fC (.int 0)))) (fVar 7) [7])))))
theorem gr_loop (T0 N0 : D) : ∀ (L acc : List Run) (s4 s5 s6 : Slot), (∀ r ∈ L, 1 ≤ r.2) → acc.length + L.length < 100000 → ∃ t4 t5 t6, forT GG GB [.val T0, .val N0, .val (.int 0), .own (.lst (acc.map runD)), s4, s5, s6, .no] (L.map runD) =
    .ret (.nx [.val T0, .val N0, .val (.int 0), .own (.lst ((acc ++ L).map runD)), t4, t5, t6, .no])
  | [], acc, s4, s5, s6, _, _ => ⟨s4, s5, s6, by rw [List.append_nil]; rfl⟩
  | (h, n) :: L, acc, s4, s5, s6, hp, hl => by
    have hn : 1 ≤ n := hp (h, n) (.head _)
    rw [List.length_cons] at hl
    obtain ⟨t4, t5, t6, e⟩ := gr_loop T0 N0 L (acc ++ [(h, n)]) (.val (hD h)) (.val (.int n)) (.val (.int 0)) (fun r hr => hp r (.tail _ hr)) (by rw [List.length_append, List.length_singleton]; omega)
    rw [List.append_assoc] at e
    have em : (acc ++ [(h, n)]).map runD = acc.map runD ++ [runD (h, n)] := by rw [List.map_append]; rfl
    rw [em] at e
    refine ⟨t4, t5, t6, Eq.trans (for_nx rfl (seq_nx (set_v (d := .int 0) ?_) (seq_nx (aug_v rfl rfl) ?_))) e⟩
    · cases h with
      | true => exact ifE_f (test_v (op_v rfl rfl (eqD_b true))) rfl
      | false =>
        refine ifE_t (test_v (op_v rfl rfl (eqD_b false))) (afn_v (cons_v rfl (cons_v rfl nil_v)) ((min2 0 n).trans ?_))
        rw [Int.min_eq_left (by omega)]
    · have c : fComp (iSeq (fTup (aCons (fTup (aCons (fC (.str (PySem.Str.ofString "a"))) (aCons (fVar 6) aNil))) (aCons (fTup (aCons (fVar 4) (aCons (fOp subD (fVar 5) (fVar 6)) aNil))) aNil)))) (gSet 7) (fTest (fOp gtD (fOp ixD (fVar 7) (fC (.int 1))) (fC (.int 0)))) (fVar 7) [7] [.val T0, .val N0, .val (.int 0), .own (.lst (acc.map runD)), .val (hD h), .val (.int n), .val (.int 0), .no] = .ret [runD (h, n)] := by
        have e1 := comp_f (α := Run) (i := iSeq (fTup (aCons (fTup (aCons (fC (.str (PySem.Str.ofString "a"))) (aCons (fVar 6) aNil))) (aCons (fTup (aCons (fVar 4) (aCons (fOp subD (fVar 5) (fVar 6)) aNil))) aNil)))) (g := gSet 7) (t := fTest (fOp gtD (fOp ixD (fVar 7) (fC (.int 1))) (fC (.int 0)))) (f := fVar 7) (vs := [7]) (ρ := [.val T0, .val N0, .val (.int 0), .own (.lst (acc.map runD)), .val (hD h), .val (.int n), .val (.int 0), .no]) (p := fun r => decide (0 < r.2)) (h := runD) (k := runD) (ds := [(true, 0), (h, n - 0)])
          (seq_v (tup_v (cons_v (run_tup (h := true) rfl rfl) (cons_v (run_tup rfl (op_v rfl rfl rfl)) nil_v)) (by show 2 ≤ capD; decide)) rfl) (by show 2 < capD; decide) fun r _ => ⟨_, rfl, test_v (op_v (op_v rfl rfl rfl) rfl (gt_v _ _)), fun _ => by rfl⟩
        rw [e1, Int.sub_zero, List.filter_cons, List.filter_cons]
        rw [if_neg (by decide), if_pos (by show decide (0 < n) = true; rw [decide_eq_true (by omega)])]
        rfl
      exact (ext_v rfl (ofl_v c) (by rw [List.length_map]; show acc.length + 1 < 100000; omega))
theorem granted_eq {R : List Run} (h : Ok9 R) : F_granted [TU R, .int 0] = .ret (TU R) := by
  obtain ⟨t4, t5, t6, e⟩ := gr_loop (TU R) (.int 0) R.reverse [] .no .no .no (fun r hr => h.pos r (List.mem_reverse.mp hr)) (by rw [List.length_reverse, List.length_nil, Nat.zero_add]; exact h.len)
  rw [List.nil_append] at e
  have e0 : sParVL 2 3 (fVar 1) (fLst aNil) [.val (TU R), .val (.int 0), .no, .no, .no, .no, .no, .no] = .ret (.nx [.val (TU R), .val (.int 0), .val (.int 0), .own (.lst (([] : List Run).map runD)), .no, .no, .no, .no]) := rfl
  have ez : iSeq (fRev (fProp 0 F_Turns_runs (fVar 0))) [.val (TU R), .val (.int 0), .val (.int 0), .own (.lst (([] : List Run).map runD)), .no, .no, .no, .no] = .ret (R.reverse.map runD) := by
    rw [List.map_reverse]
    exact seq_v (rev_v (prop_v rfl (runs_eq R)) rfl) rfl
  have mk := mkL (aa := aCons (fRev (fVar 3)) aNil) (ρ := fullE [.val (TU R), .val (.int 0), .val (.int 0), .own (.lst (R.reverse.map runD)), t4, t5, t6, .no]) (L := R) (cons_v (rev_v (x := fVar 3) (a := .lst (R.reverse.map runD)) rfl (by
    show T.ret (D.lst (R.reverse.map runD).reverse) = _
    rw [← List.map_reverse, List.reverse_reverse])) nil_v) h.len h.pos
  rw [join_alt h.alt] at mk
  exact run_rt (B := B_granted) (ρ := [.val (TU R), .val (.int 0), .no, .no, .no, .no, .no, .no]) (seq_nx e0 (seq_nx (for_v ez e) (ret_v mk)))
/-! ### fewest_steps of as many turns of hers -/
/-- the ends of the stretches -/
def nexts : Int → List (Int × Int) → List Int
  | last, ps => (ps.drop 1).map (fun p => p.1) ++ [last]
def sumZ : List (Int × Int) → List Int → Int
  | p :: ps, e :: es => (e - p.1) * p.2 + sumZ ps es
  | _, _ => 0
abbrev FG : D → DL.Env → T DL.Env := gTupD (gsCons (gTupD (gsCons (gSet 7) (gsCons (gSet 8) gsNil))) (gsCons (gSet 6) gsNil))
abbrev FB : DL.Env → T Out := sAug 5 (fun i j => i + j) (fOp mulD (fOp subD (fVar 6) (fVar 7)) (fVar 8))
theorem few_loop (A B C E4 : D) (E3 : D) : ∀ (ps : List (Int × Int)) (es : List Int) (f : Int) (s6 s7 s8 : Slot), (∀ p ∈ ps, 0 ≤ p.1 ∧ p.1 < 2 ^ 62) → (∀ e ∈ es, 0 ≤ e ∧ e < 2 ^ 62) → ∃ t6 t7 t8, forT FG FB [.val A, .val B, .val C, .val E3, .val E4, .val (.int f), s6, s7, s8, .no] (zipD (ps.map wayD) (iD es)) =
    .ret (.nx [.val A, .val B, .val C, .val E3, .val E4, .val (.int (f + sumZ ps es)), t6, t7, t8, .no])
  | [], es, f, s6, s7, s8, _, _ => ⟨s6, s7, s8, by
    have : zipD (([] : List (Int × Int)).map wayD) (iD es) = [] := by cases es <;> rfl
    rw [this]
    show T.ret (Out.nx [.val A, .val B, .val C, .val E3, .val E4, .val (.int f), s6, s7, s8, .no]) = T.ret (Out.nx [.val A, .val B, .val C, .val E3, .val E4, .val (.int (f + 0)), s6, s7, s8, .no])
    rw [Int.add_zero]⟩
  | p :: ps, [], f, s6, s7, s8, _, _ => ⟨s6, s7, s8, by
    show T.ret (Out.nx [.val A, .val B, .val C, .val E3, .val E4, .val (.int f), s6, s7, s8, .no]) = T.ret (Out.nx [.val A, .val B, .val C, .val E3, .val E4, .val (.int (f + 0)), s6, s7, s8, .no])
    rw [Int.add_zero]⟩
  | (w, l) :: ps, e :: es, f, s6, s7, s8, hp, he => by
    have h1 := hp (w, l) (.head _)
    have h2 := he e (.head _)
    have h1' : 0 ≤ w ∧ w < 2 ^ 62 := h1
    obtain ⟨t6, t7, t8, q⟩ := few_loop A B C E4 E3 ps es (f + (e - w) * l) (.val (.int e)) (.val (.int w)) (.val (.int l)) (fun p hq => hp p (.tail _ hq)) fun p hq => he p (.tail _ hq)
    refine ⟨t6, t7, t8, Eq.trans (for_nx rfl (aug_v rfl (op_v (op_v rfl rfl rfl) rfl (mul_smallL (by omega))))) (Eq.trans q ?_)⟩
    show _ = T.ret (Out.nx [.val A, .val B, .val C, .val E3, .val E4, .val (.int (f + ((e - w) * l + sumZ ps es))), t6, t7, t8, .no])
    rw [Int.add_assoc]
theorem cnt_le : ∀ {R : List Run} (w : Bool), (∀ r ∈ R, 1 ≤ r.2) → 0 ≤ cntR w R ∧ cntR w R ≤ sizeR R
  | [], w, _ => ⟨Int.le_refl _, Int.le_refl _⟩
  | r :: R, w, hp => by
    have ih := cnt_le (R := R) w fun q hq => hp q (.tail _ hq)
    have hr := hp r (.head _)
    have e : sizeR (r :: R) = r.2 + sizeR R := rfl
    rw [cnt_cons, e]
    cases r.1 == w with
    | true => rw [cond_true]; omega
    | false => rw [cond_false]; omega
def fewestR (R S : List Run) : Option Int := bif (agR R S).isNone then some (sumZ (waysR S R) (nexts (cntR true R + 1) (waysR S R))) else none
theorem few_eq {R S : List Run} (h : Ok9 R) (k : Ok9 S) (hl : R.length < 1000) (kl : S.length < 1000) (e : sizeR R = sizeR S) (eh : cntR true R = cntR true S) : F_fewest_steps [TU R, TU S] = .ret (oD (fewestR R S)) := by
  unfold fewestR
  have nw := nw_eq h k hl kl e
  cases c : (agR R S).isNone with
  | false =>
    rw [c] at nw
    exact run_rt (B := B_fewest_steps) (ρ := [.val (TU R), .val (TU S), .no, .no, .no, .no, .no, .no, .no, .no]) (seq_rt (if_t (not_v (c := false) (test_v (afn_v (cons_v rfl (cons_v rfl nil_v)) nw))) (ret_v rfl)))
  | true =>
    rw [c] at nw
    have wl := waysR_len S R
    have wi : ∀ p ∈ waysR S R, 0 ≤ p.1 ∧ p.1 < 2 ^ 62 := fun p hp => by
      obtain ⟨w, hw, rfl⟩ := List.mem_map.mp hp
      have hh := ways_in k.pos h.pos hw
      have c1 := cnt_le (R := R) true h.pos
      have := h.sm
      show 0 ≤ w ∧ w < 2 ^ 62
      omega
    have ni : ∀ x ∈ nexts (cntR true R + 1) (waysR S R), 0 ≤ x ∧ x < 2 ^ 62 := fun x hx => by
      rcases List.mem_append.mp hx with z | z
      · obtain ⟨p, hp, rfl⟩ := List.mem_map.mp z
        exact wi p (List.mem_of_mem_drop hp)
      · rw [List.mem_singleton.mp z]
        have c1 := cnt_le (R := R) true h.pos
        have := h.sm
        omega
    have d0 : fOp subD (fProp 0 F_Turns_hers (fVar 0)) (fProp 0 F_Turns_hers (fVar 1)) [.val (TU R), .val (TU S), .no, .no, .no, .no, .no, .no, .no, .no] = .ret (.int 0) := by
      refine op_v (prop_v rfl (hers_eq h.len)) (prop_v rfl (hers_eq k.len)) ?_
      show T.ret (D.int (cntR true R - cntR true S)) = _
      rw [eh, Int.sub_self]
    obtain ⟨t6, t7, t8, q⟩ := few_loop (TU R) (TU S) (.int 0) (TU S) (.lst ((waysR S R).map wayD)) (waysR S R) (nexts (cntR true R + 1) (waysR S R)) 0 .no .no .no wi ni
    rw [Int.zero_add] at q
    have cz : fComp (iSeq (fSl (fVar 3) (oSome (fC (.int 1))) oNo)) (gSet 9) fYes (fOp ixD (fVar 9) (fC (.int 0))) [9] [.val (TU R), .val (TU S), .val (.int 0), .val (.lst ((waysR S R).map wayD)), .val (TU S), .val (.int 0), .no, .no, .no, .no] = .ret (((waysR S R).drop 1).map fun p => D.int p.1) := by
      refine comp_m (α := Int × Int) (h := wayD) (ds := (waysR S R).drop 1) (seq_v (a := .lst (((waysR S R).map wayD).drop 1)) (sl_v rfl rfl rfl ?_) (by rw [List.map_drop]; rfl)) (by rw [List.length_drop]; show (waysR S R).length - 1 < 100000; omega) fun p _ => ⟨_, rfl, op_v rfl rfl rfl⟩
      show T.ret (D.lst (cutD ((waysR S R).map wayD) (some ((1 : Nat) : Int)) none)) = _
      by_cases z : 1 ≤ ((waysR S R).map wayD).length
      · rw [cut_drop _ 1 z]
      · have : (waysR S R).map wayD = [] := List.eq_nil_of_length_eq_zero (by omega)
        rw [this]; rfl
    have nz : (((waysR S R).drop 1).map fun p => D.int p.1) ++ [D.int (cntR true R + 1)] = iD (nexts (cntR true R + 1) (waysR S R)) := by
      unfold nexts iD
      rw [List.map_append, List.map_map]; rfl
    have ez : iZip (fVar 3) (fOfL (fLst (aStar (fOfL (fComp (iSeq (fSl (fVar 3) (oSome (fC (.int 1))) oNo)) (gSet 9) fYes (fOp ixD (fVar 9) (fC (.int 0))) [9])) (aCons (fOp addD (fProp 0 F_Turns_hers (fVar 0)) (fC (.int 1))) aNil)))) [.val (TU R), .val (TU S), .val (.int 0), .val (.lst ((waysR S R).map wayD)), .val (TU S), .val (.int 0), .no, .no, .no, .no] = .ret (zipD ((waysR S R).map wayD) (iD (nexts (cntR true R + 1) (waysR S R)))) := by
      rw [← nz]
      exact zip_v rfl (ofl_v (lst_v (star_v (ofl_v cz) rfl (cons_v (op_v (prop_v rfl (hers_eq h.len)) rfl rfl) nil_v)) (by rw [List.length_append, List.length_map, List.length_drop]; show (waysR S R).length - 1 + 1 ≤ 100000; omega))) rfl rfl
    exact run_rt (B := B_fewest_steps) (ρ := [.val (TU R), .val (TU S), .no, .no, .no, .no, .no, .no, .no, .no]) (seq_nx (if_nx (not_v (c := true) (test_v (afn_v (cons_v rfl (cons_v rfl nil_v)) nw)))) (seq_nx (set_v d0) (seq_nx (par_v (afn_v (cons_v rfl (cons_v rfl nil_v)) (granted_eq k)) rfl) (seq_nx (set_v (afn_v (cons_v rfl (cons_v rfl nil_v)) (ways_eq k h kl hl))) (seq_nx (for_v ez q) (ret_v rfl))))))
end LW
end

section
set_option maxRecDepth 100000
set_option maxHeartbeats 1000000
/-! NI: each turn so many times. -/
namespace LW
open PySem DL
theorem mle {a b m : Int} (hm : 1 ≤ m) : a * m ≤ b * m ↔ a ≤ b :=
  ⟨fun h => Int.le_of_mul_le_mul_right h (by omega), fun h => Int.mul_le_mul_of_nonneg_right h (by omega)⟩
theorem mlt {a b m : Int} (hm : 1 ≤ m) : a * m < b * m ↔ a < b := by
  have := mle (a := b) (b := a) hm
  omega
theorem mmax (a b : Int) {m : Int} (hm : 1 ≤ m) : max (a * m) (b * m) = max a b * m := by
  rcases Int.le_total a b with h | h
  · rw [Int.max_eq_right h, Int.max_eq_right ((mle hm).mpr h)]
  · rw [Int.max_eq_left h, Int.max_eq_left ((mle hm).mpr h)]
theorem mmin (a b : Int) {m : Int} (hm : 1 ≤ m) : min (a * m) (b * m) = min a b * m := by
  rcases Int.le_total a b with h | h
  · rw [Int.min_eq_left h, Int.min_eq_left ((mle hm).mpr h)]
  · rw [Int.min_eq_right h, Int.min_eq_right ((mle hm).mpr h)]
def phi (m w : Int) : Int := (w - 1) * m + 1
theorem phi_le {m : Int} (hm : 1 ≤ m) (w q : Int) : phi m w ≤ q * m ↔ w ≤ q := by
  unfold phi
  have h : (w - 1) * m < q * m ↔ w - 1 < q := mlt hm
  omega
theorem phi_mono {m : Int} (hm : 1 ≤ m) : Mono (phi m) := fun x y => by
  unfold phi
  have h : (x - 1) * m ≤ (y - 1) * m ↔ x - 1 ≤ y - 1 := mle hm
  omega
theorem mul_mono {m : Int} (hm : 1 ≤ m) : Mono fun x => x * m := fun x y => mle hm
section
variable {m : Int} (hm : 1 ≤ m)
theorem size_scale (R : List Run) : sizeR (scaleR m R) = sizeR R * m := by
  induction R with
  | nil => exact (Int.zero_mul m).symm
  | cons r R ih =>
    show r.2 * m + sizeR (scaleR m R) = (r.2 + sizeR R) * m
    rw [ih, Int.add_mul]
theorem cnt_scale (w : Bool) (R : List Run) : cntR w (scaleR m R) = cntR w R * m := by
  induction R with
  | nil => exact (Int.zero_mul m).symm
  | cons r R ih =>
    rw [cnt_cons, Int.add_mul, ← ih]
    show cntR w ((r.1, r.2 * m) :: scaleR m R) = _
    rw [cnt_cons]
    show (bif r.1 == w then r.2 * m else 0) + _ = _
    cases r.1 == w with
    | true => rfl
    | false => show (0 : Int) + _ = 0 * m + _; rw [Int.zero_mul]
theorem swap_scale (R : List Run) : swapR (scaleR m R) = scaleR m (swapR R) := by unfold swapR scaleR; rw [List.map_map, List.map_map]; rfl
theorem ends_scale : ∀ (R : List Run) (b : Int), endsR (b * m) (scaleR m R) = (endsR b R).map fun x => x * m
  | [], b => rfl
  | r :: R, b => by
    show (b * m + r.2 * m) :: endsR (b * m + r.2 * m) (scaleR m R) = (b + r.2) * m :: (endsR (b + r.2) R).map fun x => x * m
    rw [← Int.add_mul, ends_scale R (b + r.2)]
include hm in
theorem ahead_scale (k : Int) : ∀ (R : List Run) (b : Int), aheadR (k * m) (b * m) (scaleR m R) = aheadR k b R * m
  | [], b => (Int.zero_mul m).symm
  | r :: R, b => by
    show (bif r.1 then max 0 (min (r.2 * m) (k * m - (b * m + r.2 * m) + r.2 * m)) else 0) + aheadR (k * m) (b * m + r.2 * m) (scaleR m R) = ((bif r.1 then max 0 (min r.2 (k - (b + r.2) + r.2)) else 0) + aheadR k (b + r.2) R) * m
    rw [← Int.add_mul, ahead_scale k R (b + r.2), Int.add_mul ((bif r.1 then max 0 (min r.2 (k - (b + r.2) + r.2)) else 0))]
    congr 1
    cases r.1 with
    | true =>
      show max 0 (min (r.2 * m) (k * m - (b + r.2) * m + r.2 * m)) = max 0 (min r.2 (k - (b + r.2) + r.2)) * m
      rw [show k * m - (b + r.2) * m + r.2 * m = (k - (b + r.2) + r.2) * m by grind, mmin _ _ hm, ← mmax _ _ hm, Int.zero_mul]
    | false => exact (Int.zero_mul m).symm
include hm in
theorem maxI_scale : ∀ (l : List Int) (x : Int), maxI (x * m) (l.map fun y => y * m) = maxI x l * m
  | [], x => rfl
  | y :: l, x => by
    show maxI (bif decide (x * m < y * m) then y * m else x * m) (l.map fun y => y * m) = maxI (bif decide (x < y) then y else x) l * m
    rw [show decide (x * m < y * m) = decide (x < y) from decide_eq_decide.mpr (mlt hm)]
    cases decide (x < y) with
    | true => exact maxI_scale l y
    | false => exact maxI_scale l x
include hm in
theorem maxI_scale0 (l : List Int) : maxI 0 (l.map fun y => y * m) = maxI 0 l * m := by
  have := maxI_scale hm l 0
  rw [Int.zero_mul] at this
  exact this
theorem ends_scale0 (R : List Run) : endsR 0 (scaleR m R) = (endsR 0 R).map fun x => x * m := by
  have := ends_scale (m := m) R 0
  rw [Int.zero_mul] at this
  exact this
include hm in
theorem ahead_scale0 (k : Int) (R : List Run) : aheadR (k * m) 0 (scaleR m R) = aheadR k 0 R * m := by
  have := ahead_scale hm k R 0
  rw [Int.zero_mul] at this
  exact this
include hm in
theorem lead_scale (R : List Run) : leadR (scaleR m R) = leadR R * m := by
  unfold leadR
  rw [ends_scale0, List.map_map, ← maxI_scale0 hm, List.map_map]
  congr 1
  refine List.map_congr_left fun e _ => ?_
  show aheadR (e * m) 0 (scaleR m R) + aheadR (e * m) 0 (scaleR m R) - e * m = (aheadR e 0 R + aheadR e 0 R - e) * m
  rw [ahead_scale0 hm, Int.sub_mul, Int.add_mul]
include hm in
theorem behind_scale : ∀ (R : List Run) (here b : Int), behindR (here * m) (b * m) (scaleR m R) = (behindR here b R).map (phi m)
  | [], here, b => rfl
  | r :: R, here, b => by
    show (bif !r.1 && decide (here * m < r.2 * m) then some (b * m + here * m + 1) else behindR (here * m + (bif r.1 then r.2 * m else -(r.2 * m))) (b * m + r.2 * m) (scaleR m R)) = (bif !r.1 && decide (here < r.2) then some (b + here + 1) else behindR (here + (bif r.1 then r.2 else -r.2)) (b + r.2) R).map (phi m)
    rw [show decide (here * m < r.2 * m) = decide (here < r.2) from decide_eq_decide.mpr (mlt hm)]
    have e1 : here * m + (bif r.1 then r.2 * m else -(r.2 * m)) = (here + (bif r.1 then r.2 else -r.2)) * m := by
      cases r.1 with
      | true => exact (Int.add_mul here r.2 m).symm
      | false =>
        show here * m + -(r.2 * m) = (here + -r.2) * m
        rw [Int.add_mul, Int.neg_mul]
    rw [e1, ← Int.add_mul, ← Int.add_mul, behind_scale R]
    cases !r.1 && decide (here < r.2) with
    | true =>
      show some ((b + here) * m + 1) = some (phi m (b + here + 1))
      unfold phi
      rw [Int.add_sub_cancel]
    | false => rfl
theorem half (n : Int) : ∃ t, n * (n + 1) = 2 * t := by
  have h : n = 2 * (n / 2) ∨ n = 2 * (n / 2) + 1 := by omega
  generalize n / 2 = q at h
  rcases h with h | h
  · exact ⟨q * (2 * q + 1), by rw [h]; grind⟩
  · exact ⟨(2 * q + 1) * (q + 1), by rw [h]; grind⟩
theorem div2 {y t : Int} (h : y = 2 * t) : y / 2 = t := by omega
theorem place_scale : ∀ (R : List Run) (b : Int), placeR (b * m) (scaleR m R) = m * m * placeR b R - cntR true R * (m * (m - 1) / 2)
  | [], b => by
    have e1 : cntR true [] = 0 := rfl
    rw [e1]
    show (0 : Int) = m * m * 0 - 0 * (m * (m - 1) / 2)
    rw [Int.mul_zero, Int.zero_mul]; rfl
  | r :: R, b => by
    show (bif r.1 then r.2 * m * ((b * m + r.2 * m) + (b * m + r.2 * m) - r.2 * m + 1) / 2 else 0) + placeR (b * m + r.2 * m) (scaleR m R) = m * m * ((bif r.1 then r.2 * ((b + r.2) + (b + r.2) - r.2 + 1) / 2 else 0) + placeR (b + r.2) R) - cntR true (r :: R) * (m * (m - 1) / 2)
    rw [← Int.add_mul, place_scale R (b + r.2), cnt_cons]
    obtain ⟨t, ht⟩ := half (m - 1)
    have ht' : m * (m - 1) = 2 * t := by grind
    rw [div2 ht']
    cases r.1 with
    | true =>
      obtain ⟨x, hx⟩ := half r.2
      show r.2 * m * ((b + r.2) * m + (b + r.2) * m - r.2 * m + 1) / 2 + _ = m * m * (r.2 * (b + r.2 + (b + r.2) - r.2 + 1) / 2 + placeR (b + r.2) R) - (r.2 + cntR true R) * t
      rw [div2 (y := r.2 * (b + r.2 + (b + r.2) - r.2 + 1)) (t := b * r.2 + x) (by grind), div2 (y := r.2 * m * ((b + r.2) * m + (b + r.2) * m - r.2 * m + 1)) (t := m * m * (b * r.2 + x) - r.2 * t) (by grind)]
      grind
    | false =>
      show 0 + _ = m * m * (0 + placeR (b + r.2) R) - (0 + cntR true R) * t
      grind
theorem high_scale : ∀ (R : List Run) (p : Int), highR (p * m) (scaleR m R) = m * m * highR p R - cntR true R * (m * (m - 1) / 2)
  | [], p => by
    have e1 : cntR true [] = 0 := rfl
    rw [e1]
    show (0 : Int) = m * m * 0 - 0 * (m * (m - 1) / 2)
    rw [Int.mul_zero, Int.zero_mul]; rfl
  | r :: R, p => by
    show (bif r.1 then r.2 * m * (p * m) + r.2 * m * (r.2 * m + 1) / 2 else r.2 * m * (p * m)) + highR (bif r.1 then p * m + r.2 * m else p * m) (scaleR m R) = m * m * ((bif r.1 then r.2 * p + r.2 * (r.2 + 1) / 2 else r.2 * p) + highR (bif r.1 then p + r.2 else p) R) - cntR true (r :: R) * (m * (m - 1) / 2)
    rw [cnt_cons]
    obtain ⟨t, ht⟩ := half (m - 1)
    have ht' : m * (m - 1) = 2 * t := by grind
    cases r.1 with
    | true =>
      obtain ⟨x, hx⟩ := half r.2
      show r.2 * m * (p * m) + r.2 * m * (r.2 * m + 1) / 2 + highR (p * m + r.2 * m) (scaleR m R) = m * m * (r.2 * p + r.2 * (r.2 + 1) / 2 + highR (p + r.2) R) - (r.2 + cntR true R) * (m * (m - 1) / 2)
      rw [← Int.add_mul, high_scale R (p + r.2), div2 ht', div2 hx, div2 (y := r.2 * m * (r.2 * m + 1)) (t := m * m * x - r.2 * t) (by grind)]
      grind
    | false =>
      show r.2 * m * (p * m) + highR (p * m) (scaleR m R) = m * m * (r.2 * p + highR p R) - (0 + cntR true R) * (m * (m - 1) / 2)
      rw [high_scale R p, div2 ht']
      grind
include hm in
theorem turn_scale (w : Bool) : ∀ (R : List Run) (k b : Int), turnR w (k * m) (b * m) (scaleR m R) = (turnR w k b R).map fun v => v * m
  | [], k, b => rfl
  | r :: R, k, b => by
    show (bif r.1 == w then (bif decide (k * m ≤ r.2 * m) then some (b * m + r.2 * m - r.2 * m + k * m) else turnR w (k * m - r.2 * m) (b * m + r.2 * m) (scaleR m R)) else turnR w (k * m) (b * m + r.2 * m) (scaleR m R)) = (bif r.1 == w then (bif decide (k ≤ r.2) then some (b + r.2 - r.2 + k) else turnR w (k - r.2) (b + r.2) R) else turnR w k (b + r.2) R).map fun v => v * m
    rw [show decide (k * m ≤ r.2 * m) = decide (k ≤ r.2) from decide_eq_decide.mpr (mle hm), ← Int.sub_mul, ← Int.add_mul, turn_scale w R, turn_scale w R]
    cases r.1 == w with
    | false => rfl
    | true =>
      cases decide (k ≤ r.2) with
      | false => rfl
      | true =>
        show some ((b + r.2) * m - r.2 * m + k * m) = some ((b + r.2 - r.2 + k) * m)
        congr 1
        grind
include hm in
theorem turn_phi (w : Bool) : ∀ (R : List Run) (k b : Int), turnR w (phi m k) (b * m) (scaleR m R) = (turnR w k b R).map (phi m)
  | [], k, b => rfl
  | r :: R, k, b => by
    show (bif r.1 == w then (bif decide (phi m k ≤ r.2 * m) then some (b * m + r.2 * m - r.2 * m + phi m k) else turnR w (phi m k - r.2 * m) (b * m + r.2 * m) (scaleR m R)) else turnR w (phi m k) (b * m + r.2 * m) (scaleR m R)) = (bif r.1 == w then (bif decide (k ≤ r.2) then some (b + r.2 - r.2 + k) else turnR w (k - r.2) (b + r.2) R) else turnR w k (b + r.2) R).map (phi m)
    have e1 : phi m k - r.2 * m = phi m (k - r.2) := by unfold phi; grind
    rw [show decide (phi m k ≤ r.2 * m) = decide (k ≤ r.2) from decide_eq_decide.mpr (phi_le hm k r.2), e1, ← Int.add_mul, turn_phi w R, turn_phi w R]
    cases r.1 == w with
    | false => rfl
    | true =>
      cases decide (k ≤ r.2) with
      | false => rfl
      | true =>
        show some ((b + r.2) * m - r.2 * m + phi m k) = some (phi m (b + r.2 - r.2 + k))
        congr 1
        unfold phi
        grind
include hm in
theorem tv_phi {w : Bool} {R : List Run} {k : Int} (h : k ≤ cntR w R) (h1 : 1 ≤ k) : tvR w (scaleR m R) (phi m k) = phi m (tvR w R k) := by
  have e := turn_phi hm w R k 0
  rw [Int.zero_mul, tv_some h h1] at e
  unfold tvR at e ⊢
  rw [e]
  rfl
include hm in
theorem tv_mul {w : Bool} {R : List Run} {k : Int} (h : k ≤ cntR w R) (h1 : 1 ≤ k) : tvR w (scaleR m R) (k * m) = tvR w R k * m := by
  have e := turn_scale hm w R k 0
  rw [Int.zero_mul, tv_some h h1] at e
  unfold tvR at e ⊢
  rw [e]
  rfl
theorem begins_scale : ∀ (R : List Run) (t : Int), beginsR (t * m) (scaleR m R) = (beginsR t R).map (phi m)
  | [], t => rfl
  | r :: R, t => by
    show (bif r.1 then (t * m + 1) :: beginsR (t * m + r.2 * m) (scaleR m R) else beginsR (t * m) (scaleR m R)) = (bif r.1 then (t + 1) :: beginsR (t + r.2) R else beginsR t R).map (phi m)
    rw [← Int.add_mul, begins_scale R, begins_scale R]
    cases r.1 with
    | false => rfl
    | true =>
      show (t * m + 1) :: (beginsR (t + r.2) R).map (phi m) = phi m (t + 1) :: (beginsR (t + r.2) R).map (phi m)
      congr 1
      unfold phi
      rw [Int.add_sub_cancel]
theorem begins_scale0 (R : List Run) : beginsR 0 (scaleR m R) = (beginsR 0 R).map (phi m) := by
  have := begins_scale (m := m) R 0
  rw [Int.zero_mul] at this
  exact this
include hm in
theorem phi_filter (l : List Int) (q : Int) : (l.map (phi m)).filter (fun w => decide (w ≤ q * m)) = (l.filter fun w => decide (w ≤ q)).map (phi m) := by
  rw [List.filter_map]
  congr 1
  refine List.filter_congr fun x _ => ?_
  show decide (phi m x ≤ q * m) = decide (x ≤ q)
  exact decide_eq_decide.mpr (phi_le hm x q)
include hm in
theorem apartW_scale (R : List Run) : apartW (scaleR m R) = (apartW R).map (phi m) := by
  unfold apartW
  rw [swap_scale, begins_scale0, begins_scale0, ← List.map_append, set_mono (phi_mono hm), cnt_scale, cnt_scale, mmin _ _ hm, phi_filter hm]
theorem ab_scale (hm : 1 ≤ m) (x : Int) : abI (x * m) = abI x * m := by
  unfold abI
  have h : x * m < 0 * m ↔ x < 0 := mlt hm
  rw [Int.zero_mul] at h
  by_cases c : x < 0
  · rw [if_pos c, if_pos (h.mpr c), Int.neg_mul]
  · rw [if_neg c, if_neg fun q => c (h.mp q)]
include hm in
theorem apart_scale {R : List Run} (hp : ∀ r ∈ R, 1 ≤ r.2) : apartR (scaleR m R) = apartR R * m := by
  unfold apartR
  rw [apartW_scale hm, List.map_map, ← maxI_scale0 hm, List.map_map]
  congr 1
  refine List.map_congr_left fun w hw => ?_
  obtain ⟨a1, a2, a3⟩ := apart_in hp hw
  show abI (tvR true (scaleR m R) (phi m w) - tvR false (scaleR m R) (phi m w)) = abI (tvR true R w - tvR false R w) * m
  rw [tv_phi hm a2 a1, tv_phi hm a3 a1, ← ab_scale hm]
  congr 1
  unfold phi
  grind
include hm in
theorem waysW_scale (R S : List Run) : waysW (scaleR m R) (scaleR m S) = (waysW R S).map (phi m) := by
  unfold waysW
  rw [begins_scale0, begins_scale0, ← List.map_append, set_mono (phi_mono hm), cnt_scale, cnt_scale, mmin _ _ hm, phi_filter hm]
include hm in
theorem ways_scale {R S : List Run} (hp : ∀ r ∈ R, 1 ≤ r.2) (hq : ∀ r ∈ S, 1 ≤ r.2) : waysR (scaleR m R) (scaleR m S) = (waysR R S).map fun p => (phi m p.1, p.2 * m) := by
  unfold waysR
  rw [waysW_scale hm, List.map_map, List.map_map]
  refine List.map_congr_left fun w hw => ?_
  obtain ⟨a1, a2, a3⟩ := ways_in hp hq hw
  show (phi m w, tvR true (scaleR m R) (phi m w) - tvR true (scaleR m S) (phi m w)) = (phi m w, (tvR true R w - tvR true S w) * m)
  rw [tv_phi hm a2 a1, tv_phi hm a3 a1]
  congr 1
  unfold phi
  grind
include hm in
theorem worst_scale {R S : List Run} (hp : ∀ r ∈ R, 1 ≤ r.2) (hq : ∀ r ∈ S, 1 ≤ r.2) : worstR (scaleR m R) (scaleR m S) = (worstR R S).map fun x => x * m := by
  unfold worstR
  rw [ways_scale hm hp hq, cnt_scale, cnt_scale, show decide (cntR true R * m < cntR true S * m) = decide (cntR true R < cntR true S) from decide_eq_decide.mpr (mlt hm), List.map_map]
  cases decide (cntR true R < cntR true S) with
  | true => rfl
  | false =>
    show some (maxI 0 _) = some (maxI 0 ((waysR R S).map fun p => p.2) * m)
    rw [← maxI_scale0 hm, List.map_map]
    rfl
include hm in
theorem later_scale {R S : List Run} (hp : ∀ r ∈ R, 1 ≤ r.2) (hq : ∀ r ∈ S, 1 ≤ r.2) : laterR (scaleR m R) (scaleR m S) = (laterR R S).map (phi m) := by
  unfold laterR
  rw [ways_scale hm hp hq, List.filter_map, List.map_map, List.map_map]
  congr 1
  refine List.filter_congr fun p _ => ?_
  show decide (0 < p.2 * m) = decide (0 < p.2)
  refine decide_eq_decide.mpr ?_
  have h : 0 * m < p.2 * m ↔ 0 < p.2 := mlt hm
  rw [Int.zero_mul] at h
  exact h
include hm in
theorem ag_scale {R S : List Run} (hp : ∀ r ∈ R, 1 ≤ r.2) (hq : ∀ r ∈ S, 1 ≤ r.2) : agR (scaleR m R) (scaleR m S) = (agR R S).map (phi m) := by
  unfold agR
  rw [later_scale hm hp hq, cnt_scale, cnt_scale, show decide (cntR true R * m < cntR true S * m) = decide (cntR true R < cntR true S) from decide_eq_decide.mpr (mlt hm)]
  cases laterR R S with
  | cons x l => rfl
  | nil =>
    cases decide (cntR true R < cntR true S) with
    | false => rfl
    | true =>
      show some (cntR true R * m + 1) = some (phi m (cntR true R + 1))
      congr 1
      unfold phi
      rw [Int.add_sub_cancel]
theorem ag_says {R S : List Run} (hp : ∀ r ∈ R, 1 ≤ r.2) (hq : ∀ r ∈ S, 1 ≤ r.2) {k : Int} (h : agR R S = some k) : 1 ≤ k ∧ k ≤ cntR true S ∧ (k ≤ cntR true R → tvR true S k < tvR true R k) := by
  unfold agR at h
  cases hL : laterR R S with
  | cons x l =>
    rw [hL] at h
    have hx : x ∈ laterR R S := by rw [hL]; exact .head _
    cases h
    obtain ⟨p, h1, rfl⟩ := List.mem_map.mp hx
    obtain ⟨h2, h3⟩ := List.mem_filter.mp h1
    obtain ⟨w, hw, rfl⟩ := List.mem_map.mp h2
    obtain ⟨a1, a2, a3⟩ := ways_in hp hq hw
    have h4 := of_decide_eq_true h3
    have h5 : 0 < tvR true R w - tvR true S w := h4
    exact ⟨a1, a3, fun _ => (by show tvR true S w < tvR true R w; omega)⟩
  | nil =>
    rw [hL] at h
    cases c : decide (cntR true R < cntR true S) with
    | false => rw [c] at h; cases h
    | true =>
      rw [c] at h
      cases h
      have h1 := of_decide_eq_true c
      have h2 := (cnt_le (R := R) true hp).1
      exact ⟨by omega, by omega, fun q => (by omega)⟩
theorem corners_scale (hm : 1 ≤ m) (R S : List Run) : cornersR (scaleR m R) (scaleR m S) = (cornersR R S).map fun x => x * m := by
  unfold cornersR
  rw [ends_scale0, ends_scale0, ← set_mono (mul_mono hm), List.map_cons, List.map_append, Int.zero_mul]
include hm in
theorem above_scale (R S : List Run) : aboveR (scaleR m R) (scaleR m S) = aboveR R S := by
  unfold aboveR
  rw [corners_scale hm, List.all_map]
  congr 1
  funext n
  show decide (aheadR (n * m) 0 (scaleR m S) ≤ aheadR (n * m) 0 (scaleR m R)) = decide (aheadR n 0 S ≤ aheadR n 0 R)
  rw [ahead_scale0 hm, ahead_scale0 hm]
  exact decide_eq_decide.mpr (mle hm)
theorem prs_map (f : Int → Int) : ∀ l : List Int, prs (l.map f) = (prs l).map fun p => (f p.1, f p.2)
  | [] => rfl
  | [x] => rfl
  | x :: y :: l => by
    show (f x, f y) :: prs ((y :: l).map f) = (f x, f y) :: (prs (y :: l)).map _
    rw [prs_map f (y :: l)]
include hm in
theorem get_scale (s : Int) : ∀ (R : List Run) (b : Int), getR (s * m + 1) (b * m) (scaleR m R) = getR (s + 1) b R
  | [], b => rfl
  | r :: R, b => by
    show (bif decide (s * m + 1 ≤ b * m + r.2 * m) then some r.1 else getR (s * m + 1) (b * m + r.2 * m) (scaleR m R)) = (bif decide (s + 1 ≤ b + r.2) then some r.1 else getR (s + 1) (b + r.2) R)
    rw [← Int.add_mul, get_scale s R]
    have h : s * m < (b + r.2) * m ↔ s < b + r.2 := mlt hm
    rw [show decide (s * m + 1 ≤ (b + r.2) * m) = decide (s + 1 ≤ b + r.2) from decide_eq_decide.mpr (by omega)]
include hm in
theorem gv_scale (R : List Run) (s : Int) : gvR (scaleR m R) (s * m + 1) = gvR R (s + 1) := by
  have := get_scale hm s R 0
  rw [Int.zero_mul] at this
  unfold gvR
  rw [this]
include hm in
theorem step_scale (R S : List Run) (p : Int × Int) : raStep (scaleR m R) (scaleR m S) (p.1 * m, p.2 * m) = scaleR m (raStep R S p) := by
  unfold raStep
  show (bif gvR (scaleR m R) (p.1 * m + 1) == gvR (scaleR m S) (p.1 * m + 1) then [(gvR (scaleR m R) (p.1 * m + 1), p.2 * m - p.1 * m)] else
    [(false, min (p.2 * m - p.1 * m) (max 0 (bif gvR (scaleR m S) (p.1 * m + 1) then aheadR (p.1 * m) 0 (scaleR m R) - aheadR (p.1 * m) 0 (scaleR m S) else -(aheadR (p.1 * m) 0 (scaleR m R) - aheadR (p.1 * m) 0 (scaleR m S))))),
     (true, p.2 * m - p.1 * m - min (p.2 * m - p.1 * m) (max 0 (bif gvR (scaleR m S) (p.1 * m + 1) then aheadR (p.1 * m) 0 (scaleR m R) - aheadR (p.1 * m) 0 (scaleR m S) else -(aheadR (p.1 * m) 0 (scaleR m R) - aheadR (p.1 * m) 0 (scaleR m S)))))]) = _
  rw [gv_scale hm, gv_scale hm, ahead_scale0 hm, ahead_scale0 hm, ← Int.sub_mul, ← Int.sub_mul, ← Int.neg_mul]
  have e1 : (bif gvR S (p.1 + 1) then (aheadR p.1 0 R - aheadR p.1 0 S) * m else -(aheadR p.1 0 R - aheadR p.1 0 S) * m) = (bif gvR S (p.1 + 1) then aheadR p.1 0 R - aheadR p.1 0 S else -(aheadR p.1 0 R - aheadR p.1 0 S)) * m := by cases gvR S (p.1 + 1) <;> rfl
  rw [e1]
  have e2 : ∀ z : Int, max 0 (z * m) = max 0 z * m := fun z => by rw [← mmax 0 z hm, Int.zero_mul]
  rw [e2, mmin _ _ hm, ← Int.sub_mul]
  cases gvR R (p.1 + 1) == gvR S (p.1 + 1) <;> rfl
include hm in
theorem ra_scale (R S : List Run) : raR (scaleR m R) (scaleR m S) = scaleR m (raR R S) := by
  unfold raR
  rw [corners_scale hm, prs_map]
  have e1 : ∀ l : List (Int × Int), (l.map fun p => (p.1 * m, p.2 * m)).flatMap (raStep (scaleR m R) (scaleR m S)) = scaleR m (l.flatMap (raStep R S)) := by
    intro l
    induction l with
    | nil => rfl
    | cons p l ih =>
      rw [List.map_cons, List.flatMap_cons, List.flatMap_cons, ih, step_scale hm]
      unfold scaleR
      rw [List.map_append]
  rw [e1]
  unfold scaleR
  rw [List.filter_map]
  congr 1
  refine List.filter_congr fun r _ => ?_
  show decide (0 < r.2 * m) = decide (0 < r.2)
  refine decide_eq_decide.mpr ?_
  have h : 0 * m < r.2 * m ↔ 0 < r.2 := mlt hm
  rw [Int.zero_mul] at h
  exact h
theorem sumZ_scale : ∀ (ps : List (Int × Int)) (es : List Int), sumZ (ps.map fun p => (phi m p.1, p.2 * m)) (es.map (phi m)) = sumZ ps es * m * m
  | [], es => by show (0 : Int) = 0 * m * m; rw [Int.zero_mul, Int.zero_mul]
  | p :: ps, [] => by show (0 : Int) = 0 * m * m; rw [Int.zero_mul, Int.zero_mul]
  | p :: ps, e :: es => by
    show (phi m e - phi m p.1) * (p.2 * m) + sumZ (ps.map fun p => (phi m p.1, p.2 * m)) (es.map (phi m)) = ((e - p.1) * p.2 + sumZ ps es) * m * m
    rw [sumZ_scale ps es]
    unfold phi
    grind
include hm in
theorem few_scale {R S : List Run} (hp : ∀ r ∈ R, 1 ≤ r.2) (hq : ∀ r ∈ S, 1 ≤ r.2) : fewestR (scaleR m R) (scaleR m S) = (fewestR R S).map fun x => x * m * m := by
  unfold fewestR
  rw [ag_scale hm hp hq, ways_scale hm hq hp, cnt_scale]
  have e1 : nexts (cntR true R * m + 1) ((waysR S R).map fun p => (phi m p.1, p.2 * m)) = (nexts (cntR true R + 1) (waysR S R)).map (phi m) := by
    show (((waysR S R).map fun p => (phi m p.1, p.2 * m)).drop 1).map (fun p => p.1) ++ [cntR true R * m + 1] = (((waysR S R).drop 1).map (fun p => p.1) ++ [cntR true R + 1]).map (phi m)
    rw [← List.map_drop, List.map_map, List.map_append, List.map_map]
    congr 1
    show [cntR true R * m + 1] = [phi m (cntR true R + 1)]
    unfold phi
    rw [Int.add_sub_cancel]
  rw [e1, sumZ_scale]
  cases agR R S <;> rfl
end
end LW
end

section
set_option maxRecDepth 100000
set_option maxHeartbeats 1000000
/-! NS1: _law_same of the same data says True. -/
namespace LW
open PySem DL
mutual
def plS : Nat → D → Bool
  | _, .non => true
  | _, .bl _ => true
  | _, .int _ => true
  | _, .str _ => true
  | n + 1, .lst xs => decide (xs.length < capD) && plSs n xs
  | n + 1, .tup xs => decide (xs.length < capD) && plSs n xs
  | _, _ => false
def plSs : Nat → List D → Bool
  | _, [] => true
  | n, x :: xs => plS n x && plSs n xs
end
theorem zipD_same : ∀ xs : List D, zipD xs xs = xs.map fun x => .pr x x
  | [] => rfl
  | x :: xs => by show D.pr x x :: zipD xs xs = _; rw [zipD_same xs]; rfl
theorem eqD_int (i j : Int) : eqD (.int i) (.int j) = .ret (.bl (decide (i = j))) := rfl
theorem neD_bl (a b : Bool) : neD (.bl a) (.bl b) = .ret (.bl (!decide (a = b))) := rfl
theorem eqD_bl (a b : Bool) : eqD (.bl a) (.bl b) = .ret (.bl (decide (a = b))) := rfl
theorem plSs_mem : ∀ {n : Nat} {xs : List D}, plSs n xs = true → ∀ x ∈ xs, plS n x = true
  | n, [], _, x, h => absurd h List.not_mem_nil
  | n, y :: ys, h, x, hx => by
    unfold plSs at h
    rw [Bool.and_eq_true] at h
    rcases List.mem_cons.mp hx with e | e
    · rw [e]; exact h.1
    · exact plSs_mem h.2 x e
theorem blsD_true : ∀ xs : List D, blsD (xs.map fun _ => D.bl true) = some (xs.map fun _ => true)
  | [] => rfl
  | x :: xs => by
    show (match blsD (xs.map fun _ => D.bl true) with | some is => some (true :: is) | none => none) = _
    rw [blsD_true xs]; rfl
theorem allD_true (xs : List D) : allD (.lst (xs.map fun _ => D.bl true)) = .ret (.bl true) := by
  unfold allD
  simp only [blsD_true]
  congr 2
  rw [List.all_eq_true]
  intro b hb
  obtain ⟨_, _, e⟩ := List.mem_map.mp hb
  rw [← e]; rfl
theorem same_comp {d : Nat} {xs : List D} (hl : xs.length < capD) (ih : ∀ x ∈ xs, F__law_same d [x, x] = .ret (.bl true)) {a b : D} (ha : seqD a = some xs) (hb : seqD b = some xs) :
    fComp (iZip (fVar 0) (fVar 1)) (gTupD (gsCons (gSet 2) (gsCons (gSet 3) gsNil))) fYes (aFn (F__law_same d) (aCons (fVar 2) (aCons (fVar 3) aNil))) [2, 3] [.val a, .val b, .no, .no] = .ret (xs.map fun _ => D.bl true) := by
  have hz : iZip (fVar 0) (fVar 1) [.val a, .val b, .no, .no] = .ret (xs.map fun x => .pr x x) := by
    show ((seqT a).bind fun xs => (seqT b).bind fun ys => T.ret (zipD xs ys)) = _
    unfold seqT
    rw [ha, hb]
    show T.ret (zipD xs xs) = _
    rw [zipD_same]
  refine fcomp hz (by rw [List.length_map]; exact hl) (compT_map fun x hx => ⟨_, rfl, rfl, ?_⟩)
  exact ih x hx
theorem same_refl : ∀ (d : Nat) (x : D), plS d x = true → F__law_same (d + 1) [x, x] = .ret (.bl true) := by
  intro d
  induction d with
  | zero =>
    intro x h
    cases x with
    | non => rfl
    | bl b => cases b <;> rfl
    | int i =>
      have e : F__law_same 1 [.int i, .int i] = ((eqD (.int i) (.int i)).bind fun d => T.ret (Out.rt d)).bind outD := rfl
      rw [e, eqD_int, decide_eq_true rfl]; rfl
    | str x =>
      have e : F__law_same 1 [.str x, .str x] = ((eqD (.str x) (.str x)).bind fun d => T.ret (Out.rt d)).bind outD := rfl
      rw [e, show eqD (.str x) (.str x) = .ret (.bl (decide (x = x))) from rfl, decide_eq_true rfl]; rfl
    | _ => cases h
  | succ d ih =>
    intro x h
    cases x with
    | non => rfl
    | bl b => cases b <;> rfl
    | int i =>
      have e : F__law_same (d + 2) [.int i, .int i] = ((eqD (.int i) (.int i)).bind fun d => T.ret (Out.rt d)).bind outD := rfl
      rw [e, eqD_int, decide_eq_true rfl]; rfl
    | str x =>
      have e : F__law_same (d + 2) [.str x, .str x] = ((eqD (.str x) (.str x)).bind fun d => T.ret (Out.rt d)).bind outD := rfl
      rw [e, show eqD (.str x) (.str x) = .ret (.bl (decide (x = x))) from rfl, decide_eq_true rfl]; rfl
    | lst xs =>
      unfold plS at h
      rw [Bool.and_eq_true, decide_eq_true_eq] at h
      refine run_rt (seq_rt (if_t (by rfl) (seq_nx (if_nx (by rfl)) (ret_v (andV_t ?_ (fn_v (ofl_v (same_comp h.1 (fun x hx => ih x (plSs_mem h.2 x hx)) rfl rfl)) (allD_true xs)))))))
      exact op_v rfl rfl ((eqD_int _ _).trans (by rw [decide_eq_true rfl]))
    | tup xs =>
      unfold plS at h
      rw [Bool.and_eq_true, decide_eq_true_eq] at h
      refine run_rt (seq_rt (if_t (by rfl) (seq_nx (if_nx (by rfl)) (ret_v (andV_t ?_ (fn_v (ofl_v (same_comp h.1 (fun x hx => ih x (plSs_mem h.2 x hx)) rfl rfl)) (allD_true xs)))))))
      exact op_v rfl rfl ((eqD_int _ _).trans (by rw [decide_eq_true rfl]))
    | _ => cases h
end LW
end

section
set_option maxRecDepth 100000
set_option maxHeartbeats 1000000
/-! NS2: draws. -/
namespace DL
open PySem
/-- looks at all ways, of at most c draws -/
def T.chkD {α : Type} (p : α → Bool) : T α → Nat → Bool
  | .ret a, _ => p a
  | .fail, _ => false
  | .take _ _, 0 => false
  | .take m k, c + 1 => decide (0 < m ∧ m < 1073741824) && (List.range m.toNat).all fun i => (k (i : Nat)).chkD p c
theorem chkD_ok {α : Type} {p : α → Bool} : ∀ {m : T α} {c n : Nat}, m.chkD p c = true → n + c ≤ 1125899906842624 → m.ok n fun a n' => n' ≤ n + c ∧ p a = true := by
  intro m
  induction m with
  | ret a => intro c n h _; exact ⟨Nat.le_add_right _ _, h⟩
  | fail => intro c n h _; cases h
  | take m k ih =>
    intro c n h hn
    cases c with
    | zero => cases h
    | succ c =>
      simp only [T.chkD, Bool.and_eq_true, decide_eq_true_eq] at h
      obtain ⟨⟨h1, h2⟩, h4⟩ := h
      refine ⟨h1, h2, by show n < 1125899906842624; omega, fun r r0 r1 => ?_⟩
      have e : ((r.toNat : Nat) : Int) = r := Int.toNat_of_nonneg r0
      have q := List.all_eq_true.mp h4 r.toNat (List.mem_range.mpr (by omega))
      have q2 := ih ((r.toNat : Nat) : Int) (n := n + 1) q (by omega)
      rw [e] at q2
      exact T.ok_mono q2 fun a n' z => ⟨by omega, z.2⟩
theorem comp_ok {g : D → Env → T Env} {t : Env → T Bool} {f : Env → T D} {ρ : Env} {Q : D → Prop} {c N : Nat} : ∀ {ds : List D} {n : Nat},
    (∀ d ∈ ds, ∀ n, n + c ≤ N → ∃ ρ', g d ρ = .ret ρ' ∧ t ρ' = .ret true ∧ (f ρ').ok n fun x n' => n' ≤ n + c ∧ Q x) → n + c * ds.length ≤ N →
    (compT g t f ρ ds).ok n fun xs n' => n' ≤ n + c * ds.length ∧ xs.length = ds.length ∧ ∀ x ∈ xs, Q x
  | [], n, _, _ => ⟨Nat.le_add_right _ _, rfl, fun _ h => absurd h List.not_mem_nil⟩
  | d :: ds, n, h, hn => by
    rw [List.length_cons, Nat.mul_succ] at hn
    obtain ⟨ρ', h1, h2, h3⟩ := h d (.head _) n (by omega)
    have e : compT g t f ρ (d :: ds) = (f ρ').bind fun y => (compT g t f ρ ds).bind fun ys => .ret (y :: ys) := by
      show ((g d ρ).bind fun ρ' => (t ρ').bind fun c => match c with
        | true => (f ρ').bind fun y => (compT g t f ρ ds).bind fun ys => .ret (y :: ys)
        | false => compT g t f ρ ds) = _
      rw [h1, T.bind_ret, h2, T.bind_ret]
    rw [e, T.ok_bind]
    refine T.ok_mono h3 fun x n' hx => ?_
    rw [T.ok_bind]
    refine T.ok_mono (comp_ok (fun d hd => h d (.tail _ hd)) (by omega)) fun xs n'' hxs => ?_
    refine ⟨by rw [List.length_cons, Nat.mul_succ]; omega, by rw [List.length_cons, List.length_cons, hxs.2.1], fun y hy => ?_⟩
    rcases List.mem_cons.mp hy with q | q
    · rw [q]; exact hx.2
    · exact hxs.2.2 y q
end DL
namespace LW
open PySem DL
theorem blD_bl (b : Bool) : blD (.bl b) = .ret b := by cases b <;> rfl
theorem plSs_iD (n : Nat) : ∀ l : List Int, plSs n (iD l) = true
  | [] => by cases n <;> rfl
  | x :: l => by
    show plSs n (.int x :: iD l) = true
    unfold plSs
    rw [plSs_iD n l]
    cases n <;> rfl
theorem pl_tup (n : Nat) (l : List Int) (hl : l.length < 100000) : plS (n + 1) (.tup (iD l)) = true := by
  unfold plS
  rw [plSs_iD, decide_eq_true (show (iD l).length < capD by rw [len_iD]; exact hl)]; rfl
theorem pl_lst (n : Nat) (l : List Int) (hl : l.length < 100000) : plS (n + 1) (.lst (iD l)) = true := by
  unfold plS
  rw [plSs_iD, decide_eq_true (show (iD l).length < capD by rw [len_iD]; exact hl)]; rfl
/-- a loop that keeps I -/
theorem for_keep {g : D → DL.Env → T DL.Env} {b : DL.Env → T Out} {I : DL.Env → Prop} : ∀ (ds : List D) (ρ : DL.Env), (∀ d ∈ ds, ∀ ρ, I ρ → ∃ ρ1 ρ', g d ρ = .ret ρ1 ∧ b ρ1 = .ret (.nx ρ') ∧ I ρ') → I ρ → ∃ ρ', forT g b ρ ds = .ret (.nx ρ') ∧ I ρ'
  | [], ρ, _, h => ⟨ρ, rfl, h⟩
  | d :: ds, ρ, hs, h => by
    obtain ⟨ρ1, ρ2, h1, h2, h3⟩ := hs d (.head _) ρ h
    obtain ⟨ρ', h4, h5⟩ := for_keep ds ρ2 (fun d hd => hs d (.tail _ hd)) h3
    exact ⟨ρ', (for_nx h1 h2).trans h4, h5⟩
theorem rangeD_in {d : D} : ∀ (n : Nat) (lo : Int), d ∈ rangeD lo n → ∃ i, d = .int i ∧ lo ≤ i ∧ i < lo + n
  | 0, lo, h => absurd h List.not_mem_nil
  | n + 1, lo, h => by
    rcases List.mem_cons.mp h with e | e
    · exact ⟨lo, e, Int.le_refl _, by omega⟩
    · obtain ⟨i, e1, e2, e3⟩ := rangeD_in n (lo + 1) e
      exact ⟨i, e1, by omega, by omega⟩
theorem range2_v {a : DL.Env → T (List D)} {ρ : DL.Env} {i j : Int} (h : a ρ = .ret [.int i, .int j]) (hi : -1000 ≤ i ∧ i ≤ 1000000) (hj : -1000 ≤ j ∧ j ≤ 1000000) : iRange2 a ρ = .ret (rangeD i (j - i).toNat) := by
  unfold iRange2
  rw [h]
  show (match okR i && okR j with | true => T.ret (rangeD i (j - i).toNat) | false => .fail) = _
  rw [show okR i = true from decide_eq_true ⟨by omega, by omega⟩, show okR j = true from decide_eq_true ⟨by omega, by omega⟩]
  rfl
end LW
end

section
set_option maxRecDepth 100000
set_option maxHeartbeats 1000000
/-! NJ: what the law asks of one row. -/
namespace LW
open PySem DL
abbrev Ns1 : DL.Env → T Out := (sUnp (fTup (aCons (aFn F__law_times (aCons (fVar 0) (aCons (fVar 1) aNil))) (aCons (fProp 0 F_Turns_size (fVar 0)) aNil))) (gTupD (gsCons (gSet 8) (gsCons (gSet 9) gsNil))))
abbrev Ns2 : DL.Env → T Out := (sSet 2 (fOfL (fLst (aCons (fProp 0 F_Turns_size (fVar 8)) (aCons (fProp 0 F_Turns_hers (fVar 8)) (aCons (fProp 0 F_Turns_his (fVar 8)) (aCons (fProp 0 F_Turns_ends (fVar 8)) (aCons (aFn F_lead (aCons (fVar 8) aNil)) (aCons (aFn F_lag (aCons (fVar 8) aNil)) (aCons (aFn F_spread (aCons (fVar 8) aNil)) (aCons (aFn F_most_gain (aCons (fVar 8) (aCons (fC (.int 3)) aNil))) (aCons (aFn F_never_behind (aCons (fVar 8) aNil)) aNil))))))))))))
abbrev Ns3 : DL.Env → T Out := (sSet 3 (fOfL (fLst (aCons (fOp mulD (fVar 9) (fVar 1)) (aCons (fOp mulD (fProp 0 F_Turns_hers (fVar 0)) (fVar 1)) (aCons (fOp mulD (fProp 0 F_Turns_his (fVar 0)) (fVar 1)) (aCons (fFn tupOfD (fOfL (fComp (iSeq (fProp 0 F_Turns_ends (fVar 0))) (gSet 11) fYes (fOp mulD (fVar 11) (fVar 1)) [11]))) aNil)))))))
abbrev Ns4 : DL.Env → T Out := (sSet 3 (fOp addD (fVar 3) (fOfL (fLst (aCons (fOp mulD (aFn F_lead (aCons (fVar 0) aNil)) (fVar 1)) (aCons (fOp mulD (aFn F_lag (aCons (fVar 0) aNil)) (fVar 1)) (aCons (fOp mulD (aFn F_spread (aCons (fVar 0) aNil)) (fVar 1)) (aCons (fOp mulD (aFn F_most_gain (aCons (fVar 0) (aCons (fC (.int 3)) aNil))) (fVar 1)) (aCons (aFn F_never_behind (aCons (fVar 0) aNil)) aNil)))))))))
abbrev Ns5 : DL.Env → T Out := (sIf (fNot (fTest (aFn (F__law_same 6) (aCons (fVar 2) (aCons (fVar 3) aNil))))) (sRet (fC (.bl false))) sNext)
abbrev Ns6 : DL.Env → T Out := (sSet 4 (aFn F_behind_at (aCons (fVar 0) aNil)))
abbrev Ns7 : DL.Env → T Out := (sIf (fNot (fTest (aFn (F__law_same 6) (aCons (aFn F_behind_at (aCons (fVar 8) aNil)) (aCons (fIf (fTest (fIsN (fVar 4))) (fC .non) (fOp addD (fOp mulD (fOp subD (fVar 4) (fC (.int 1))) (fVar 1)) (fC (.int 1)))) aNil))))) (sRet (fC (.bl false))) sNext)
abbrev Ns8 : DL.Env → T Out := (sSet 5 (aFn F_place_sums (aCons (fVar 0) aNil)))
abbrev Ns9 : DL.Env → T Out := (sSet 3 (fFn tupOfD (fOfL (fComp (iSeq (fTup (aCons (fTup (aCons (fOp ixD (fVar 5) (fC (.int 0))) (aCons (fProp 0 F_Turns_hers (fVar 0)) aNil))) (aCons (fTup (aCons (fOp ixD (fVar 5) (fC (.int 1))) (aCons (fProp 0 F_Turns_his (fVar 0)) aNil))) aNil)))) (gTupD (gsCons (gSet 12) (gsCons (gSet 13) gsNil))) fYes (fOp subD (fOp mulD (fOp mulD (fVar 1) (fVar 1)) (fVar 12)) (fOp mulD (fVar 13) (fOp fdivD (fOp mulD (fVar 1) (fOp subD (fVar 1) (fC (.int 1)))) (fC (.int 2))))) [12, 13]))))
abbrev Ns10 : DL.Env → T Out := (sIf (fNot (fTest (aFn (F__law_same 6) (aCons (fOfL (fLst (aCons (aFn F_place_sums (aCons (fVar 8) aNil)) (aCons (aFn F_most_apart (aCons (fVar 8) aNil)) aNil)))) (aCons (fOfL (fLst (aCons (fVar 3) (aCons (fOp mulD (aFn F_most_apart (aCons (fVar 0) aNil)) (fVar 1)) aNil)))) aNil))))) (sRet (fC (.bl false))) sNext)
abbrev Ns11 : DL.Env → T Out := (sSet 6 (fOp subD (fOp mulD (fOp mulD (fVar 1) (fVar 1)) (aFn F_height (aCons (fVar 0) aNil))) (fOp mulD (fProp 0 F_Turns_hers (fVar 0)) (fOp fdivD (fOp mulD (fVar 1) (fOp subD (fVar 1) (fC (.int 1)))) (fC (.int 2))))))
abbrev Ns12 : DL.Env → T Out := (sIf (fNot (fTest (aFn (F__law_same 6) (aCons (aFn F_height (aCons (fVar 8) aNil)) (aCons (fVar 6) aNil))))) (sRet (fC (.bl false))) sNext)
abbrev N13bs1 : DL.Env → T Out := (sIf (fNot (fTest (aFn (F__law_same 6) (aCons (fOfL (fLst (aCons (aFn F_turn_of (aCons (fVar 8) (aCons (fOp mulD (fVar 7) (fVar 1)) aNil))) (aCons (aFn F_turn_of (aCons (fVar 8) (aCons (fOp addD (fOp mulD (fOp subD (fVar 7) (fC (.int 1))) (fVar 1)) (fC (.int 1))) aNil))) aNil)))) (aCons (fOfL (fLst (aCons (fOp mulD (aFn F_turn_of (aCons (fVar 0) (aCons (fVar 7) aNil))) (fVar 1)) (aCons (fOp addD (fOp mulD (fOp subD (aFn F_turn_of (aCons (fVar 0) (aCons (fVar 7) aNil))) (fC (.int 1))) (fVar 1)) (fC (.int 1))) aNil)))) aNil))))) (sRet (fC (.bl false))) sNext)
abbrev N13br1 : DL.Env → T Out := N13bs1
abbrev Ns13 : DL.Env → T Out := (sFor (iRange2 (aCons (fC (.int 1)) (aCons (fOp addD (fProp 0 F_Turns_hers (fVar 0)) (fC (.int 1))) aNil))) (gSet 7) N13br1)
abbrev N14bs1 : DL.Env → T Out := (sIf (fNot (fTest (aFn (F__law_same 6) (aCons (aFn F_his_turn_of (aCons (fVar 8) (aCons (fOp mulD (fVar 7) (fVar 1)) aNil))) (aCons (fOp mulD (aFn F_his_turn_of (aCons (fVar 0) (aCons (fVar 7) aNil))) (fVar 1)) aNil))))) (sRet (fC (.bl false))) sNext)
abbrev N14br1 : DL.Env → T Out := N14bs1
abbrev Ns14 : DL.Env → T Out := (sFor (iRange2 (aCons (fC (.int 1)) (aCons (fOp addD (fProp 0 F_Turns_his (fVar 0)) (fC (.int 1))) aNil))) (gSet 7) N14br1)
abbrev Ns15 : DL.Env → T Out := (sRet (aFn (F__law_same 6) (aCons (fOfL (fComp (iRange1 (aCons (fOp addD (fVar 9) (fC (.int 1))) aNil)) (gSet 10) fYes (aFn F_ahead (aCons (fVar 8) (aCons (fOp mulD (fVar 10) (fVar 1)) aNil))) [10])) (aCons (fOfL (fComp (iRange1 (aCons (fOp addD (fVar 9) (fC (.int 1))) aNil)) (gSet 10) fYes (fOp mulD (aFn F_ahead (aCons (fVar 0) (aCons (fVar 10) aNil))) (fVar 1)) [10])) aNil))))
abbrev Nr15 : DL.Env → T Out := Ns15
abbrev Nr14 : DL.Env → T Out := sSeq Ns14 Nr15
abbrev Nr13 : DL.Env → T Out := sSeq Ns13 Nr14
abbrev Nr12 : DL.Env → T Out := sSeq Ns12 Nr13
abbrev Nr11 : DL.Env → T Out := sSeq Ns11 Nr12
abbrev Nr10 : DL.Env → T Out := sSeq Ns10 Nr11
abbrev Nr9 : DL.Env → T Out := sSeq Ns9 Nr10
abbrev Nr8 : DL.Env → T Out := sSeq Ns8 Nr9
abbrev Nr7 : DL.Env → T Out := sSeq Ns7 Nr8
abbrev Nr6 : DL.Env → T Out := sSeq Ns6 Nr7
abbrev Nr5 : DL.Env → T Out := sSeq Ns5 Nr6
abbrev Nr4 : DL.Env → T Out := sSeq Ns4 Nr5
abbrev Nr3 : DL.Env → T Out := sSeq Ns3 Nr4
abbrev Nr2 : DL.Env → T Out := sSeq Ns2 Nr3
abbrev Nr1 : DL.Env → T Out := sSeq Ns1 Nr2
/-- few runs with small numbers, and m times as many -/
structure Sml (m : Int) (R : List Run) : Prop where
  ok : Ok9 R
  okm : Ok9 (scaleR m R)
  len : R.length < 900
  size : sizeR R ≤ 9
  pl : (placeR 0 R).natAbs < 18446744073709551616
  pls : (placeR 0 (swapR R)).natAbs < 18446744073709551616
  hi : (highR 0 R).natAbs < 18446744073709551616
  m1 : 1 ≤ m
  mm : m.natAbs < 18446744073709551616
theorem slen (m : Int) (R : List Run) : (scaleR m R).length = R.length := by unfold scaleR; rw [List.length_map]
def NE0 (R : List Run) (m : Int) (s2 s3 s4 s5 s6 s7 : Slot) : DL.Env := [.val (TU R), .val (.int m), s2, s3, s4, s5, s6, s7, .val (TU (scaleR m R)), .val (.int (sizeR R)), .no, .no, .no, .no]
def GOT (R : List Run) : List D := [.int (sizeR R), .int (cntR true R), .int (cntR false R), .tup (iD (endsR 0 R)), .int (leadR R), .int (leadR (swapR R)), .int (max (leadR R) (leadR (swapR R))), .int (3 * leadR R), .bl (decide (leadR (swapR R) = 0))]
def DUE (m : Int) (R : List Run) : List D := [.int (sizeR R * m), .int (cntR true R * m), .int (cntR false R * m), .tup ((endsR 0 R).map fun e => D.int (e * m))]
def DUE2 (m : Int) (R : List Run) : List D := [.int (leadR R * m), .int (leadR (swapR R) * m), .int (max (leadR R) (leadR (swapR R)) * m), .int (3 * leadR R * m), .bl (decide (leadR (swapR R) = 0))]
theorem got_due {m : Int} (hm : 1 ≤ m) (R : List Run) : GOT (scaleR m R) = DUE m R ++ DUE2 m R := by
  unfold GOT DUE DUE2
  rw [size_scale, cnt_scale, cnt_scale, ends_scale0, lead_scale hm, swap_scale, lead_scale hm, mmax _ _ hm, Int.mul_assoc 3]
  have e : decide (leadR (swapR R) * m = 0) = decide (leadR (swapR R) = 0) := decide_eq_decide.mpr (by
    rw [Int.mul_eq_zero]
    constructor
    · rintro (h | h)
      · exact h
      · omega
    · exact .inl)
  rw [e]
  have e2 : iD ((endsR 0 R).map fun x => x * m) = (endsR 0 R).map fun e => D.int (e * m) := by unfold iD; rw [List.map_map]; rfl
  rw [e2]
  rfl
section
variable {m : Int} {R : List Run} (h : Sml m R)
include h
theorem Sml.l1 : R.length < 100000 - 1 := by have := h.len; omega
theorem Sml.l2 : (scaleR m R).length < 100000 - 1 := by rw [slen]; exact h.l1
theorem Sml.cs (w : Bool) : 0 ≤ cntR w R ∧ cntR w R ≤ 9 := by
  have c := cnt_le (R := R) w h.ok.pos
  have := h.size
  omega
theorem n_s1 {s2 s3 s4 s5 s6 s7 : Slot} : Ns1 [.val (TU R), .val (.int m), .no, .no, .no, .no, .no, .no, .no, .no, .no, .no, .no, .no] = .ret (.nx (NE0 R m .no .no .no .no .no .no)) :=
  unp_v (tup_v (cons_v (afn_v (cons_v rfl (cons_v rfl nil_v)) (times_eq h.ok h.okm h.mm)) (cons_v (prop_v rfl (size_eq h.ok.len)) nil_v)) (by show 2 ≤ capD; decide)) rfl
theorem n_s2 {s3 s4 s5 s6 s7 : Slot} : Ns2 (NE0 R m .no s3 s4 s5 s6 s7) = .ret (.nx (NE0 R m (.val (.lst (GOT (scaleR m R)))) s3 s4 s5 s6 s7)) :=
  set_v (ofl_v (lst_v (cons_v (prop_v rfl (size_eq h.okm.len)) (cons_v (prop_v rfl (hers_eq h.okm.len)) (cons_v (prop_v rfl (his_eq h.okm.len)) (cons_v (prop_v rfl (ends_eq _)) (cons_v (afn_v (cons_v rfl nil_v) (lead_eq h.l2)) (cons_v (afn_v (cons_v rfl nil_v) (lag_eq h.okm h.l2)) (cons_v (afn_v (cons_v rfl nil_v) (spread_eq h.okm h.l2)) (cons_v (afn_v (cons_v rfl (cons_v rfl nil_v)) (most_gain_eq (by decide) h.l2)) (cons_v (afn_v (cons_v rfl nil_v) (never_behind_eq h.okm h.l2)) nil_v))))))))) (by show 9 ≤ capD; decide)))
theorem n_s3 {s2 s4 s5 s6 s7 : Slot} : Ns3 (NE0 R m s2 .no s4 s5 s6 s7) = .ret (.nx (NE0 R m s2 (.val (.lst (DUE m R))) s4 s5 s6 s7)) := by
  have c : fComp (iSeq (fProp 0 F_Turns_ends (fVar 0))) (gSet 11) fYes (fOp mulD (fVar 11) (fVar 1)) [11] (NE0 R m s2 .no s4 s5 s6 s7) = .ret ((endsR 0 R).map fun e => D.int (e * m)) :=
    comp_m (α := Int) (h := .int) (ds := endsR 0 R) (seq_v (prop_v rfl (ends_eq R)) rfl) (by rw [len_ends]; have := h.len; show R.length < 100000; omega) fun e _ => ⟨_, rfl, op_v rfl rfl (mul_small h.mm)⟩
  exact set_v (ofl_v (lst_v (cons_v (op_v rfl rfl (mul_small h.mm)) (cons_v (op_v (prop_v rfl (hers_eq h.ok.len)) rfl (mul_small h.mm)) (cons_v (op_v (prop_v rfl (his_eq h.ok.len)) rfl (mul_small h.mm)) (cons_v (fn_v (ofl_v c) rfl) nil_v)))) (by show 4 ≤ capD; decide)))
theorem n_s4 {s2 s4 s5 s6 s7 : Slot} : Ns4 (NE0 R m s2 (.val (.lst (DUE m R))) s4 s5 s6 s7) = .ret (.nx (NE0 R m s2 (.val (.lst (DUE m R ++ DUE2 m R))) s4 s5 s6 s7)) := by
  have l : fLst (aCons (fOp mulD (aFn F_lead (aCons (fVar 0) aNil)) (fVar 1)) (aCons (fOp mulD (aFn F_lag (aCons (fVar 0) aNil)) (fVar 1)) (aCons (fOp mulD (aFn F_spread (aCons (fVar 0) aNil)) (fVar 1)) (aCons (fOp mulD (aFn F_most_gain (aCons (fVar 0) (aCons (fC (.int 3)) aNil))) (fVar 1)) (aCons (aFn F_never_behind (aCons (fVar 0) aNil)) aNil))))) (NE0 R m s2 (.val (.lst (DUE m R))) s4 s5 s6 s7) = .ret (DUE2 m R) :=
    lst_v (cons_v (op_v (afn_v (cons_v rfl nil_v) (lead_eq h.l1)) rfl (mul_small h.mm)) (cons_v (op_v (afn_v (cons_v rfl nil_v) (lag_eq h.ok h.l1)) rfl (mul_small h.mm)) (cons_v (op_v (afn_v (cons_v rfl nil_v) (spread_eq h.ok h.l1)) rfl (mul_small h.mm)) (cons_v (op_v (afn_v (cons_v rfl (cons_v rfl nil_v)) (most_gain_eq (by decide) h.l1)) rfl (mul_small h.mm)) (cons_v (afn_v (cons_v rfl nil_v) (never_behind_eq h.ok h.l1)) nil_v))))) (by show 5 ≤ capD; decide)
  exact set_v (op_v rfl (ofl_v l) rfl)
theorem due_pl : plS 5 (.lst (DUE m R ++ DUE2 m R)) = true := by
  have e2 : (endsR 0 R).map (fun e => D.int (e * m)) = iD ((endsR 0 R).map fun x => x * m) := by unfold iD; rw [List.map_map]; rfl
  have p := pl_tup 3 ((endsR 0 R).map fun x => x * m) (by rw [List.length_map, len_ends]; have := h.len; omega)
  rw [← e2] at p
  show (decide (9 < capD) && (true && (true && (true && (plS 4 (.tup ((endsR 0 R).map fun e => D.int (e * m))) && (true && (true && (true && (true && (true && true)))))))))) = true
  rw [p]
  rfl
theorem n_s5 {s4 s5 s6 s7 : Slot} : Ns5 (NE0 R m (.val (.lst (GOT (scaleR m R)))) (.val (.lst (DUE m R ++ DUE2 m R))) s4 s5 s6 s7) = .ret (.nx (NE0 R m (.val (.lst (GOT (scaleR m R)))) (.val (.lst (DUE m R ++ DUE2 m R))) s4 s5 s6 s7)) := by
  have s := same_refl 5 _ (due_pl h)
  refine if_nx (not_v (c := true) (test_v (afn_v (cons_v rfl (cons_v rfl nil_v)) ?_)))
  rw [got_due h.m1]
  exact s
theorem n_s6 {s2 s3 s5 s6 s7 : Slot} : Ns6 (NE0 R m s2 s3 .no s5 s6 s7) = .ret (.nx (NE0 R m s2 s3 (.val (oD (behindR 0 0 R))) s5 s6 s7)) := set_v (afn_v (cons_v rfl nil_v) (behind_eq R))
theorem n_s7 {s2 s3 s5 s6 s7 : Slot} : Ns7 (NE0 R m s2 s3 (.val (oD (behindR 0 0 R))) s5 s6 s7) = .ret (.nx (NE0 R m s2 s3 (.val (oD (behindR 0 0 R))) s5 s6 s7)) := by
  have b := behind_scale h.m1 R 0 0
  rw [Int.zero_mul] at b
  have e := behind_eq (scaleR m R)
  rw [b] at e
  have s := same_refl 5 (oD ((behindR 0 0 R).map (phi m))) (by cases behindR 0 0 R <;> rfl)
  refine if_nx (not_v (c := true) (test_v (afn_v (cons_v (afn_v (cons_v rfl nil_v) e) (cons_v (d := oD ((behindR 0 0 R).map (phi m))) ?_ nil_v)) s)))
  cases behindR 0 0 R with
  | none => exact ifE_t (test_v (c := true) (isN_v (d := .non) rfl)) rfl
  | some k => exact ifE_f (test_v (c := false) (isN_v (d := .int k) rfl)) (op_v (op_v (op_v rfl rfl rfl) rfl (mul_small h.mm)) rfl rfl)
theorem n_s8 {s2 s3 s4 s6 s7 : Slot} : Ns8 (NE0 R m s2 s3 s4 .no s6 s7) = .ret (.nx (NE0 R m s2 s3 s4 (.val (.tup [.int (placeR 0 R), .int (placeR 0 (swapR R))])) s6 s7)) := set_v (afn_v (cons_v rfl nil_v) (place_sums_eq h.ok))
theorem mh : mulD (.int m) (.int (m - 1)) = .ret (.int (m * (m - 1))) := mul_smallL h.mm
theorem sm9 {w : Bool} : (cntR w R).natAbs < 18446744073709551616 := by have := h.cs w; omega
theorem n_s9 {s2 s3 s4 s6 s7 : Slot} : Ns9 (NE0 R m s2 s3 s4 (.val (.tup [.int (placeR 0 R), .int (placeR 0 (swapR R))])) s6 s7) = .ret (.nx (NE0 R m s2 (.val (.tup [.int (placeR 0 (scaleR m R)), .int (placeR 0 (swapR (scaleR m R)))])) s4 (.val (.tup [.int (placeR 0 R), .int (placeR 0 (swapR R))])) s6 s7)) := by
  have p1 := place_scale (m := m) R 0
  have p2 := place_scale (m := m) (swapR R) 0
  rw [Int.zero_mul] at p1 p2
  rw [← swap_scale] at p2
  have cw : ∀ R : List Run, cntR true (swapR R) = cntR false R := by
    intro R
    induction R with
    | nil => rfl
    | cons r R ih =>
      rw [cnt_cons, ← ih]
      show cntR true ((!r.1, r.2) :: swapR R) = _
      rw [cnt_cons]
      cases r.1 <;> rfl
  rw [cw] at p2
  have c : fComp (iSeq (fTup (aCons (fTup (aCons (fOp ixD (fVar 5) (fC (.int 0))) (aCons (fProp 0 F_Turns_hers (fVar 0)) aNil))) (aCons (fTup (aCons (fOp ixD (fVar 5) (fC (.int 1))) (aCons (fProp 0 F_Turns_his (fVar 0)) aNil))) aNil)))) (gTupD (gsCons (gSet 12) (gsCons (gSet 13) gsNil))) fYes (fOp subD (fOp mulD (fOp mulD (fVar 1) (fVar 1)) (fVar 12)) (fOp mulD (fVar 13) (fOp fdivD (fOp mulD (fVar 1) (fOp subD (fVar 1) (fC (.int 1)))) (fC (.int 2))))) [12, 13] (NE0 R m s2 s3 s4 (.val (.tup [.int (placeR 0 R), .int (placeR 0 (swapR R))])) s6 s7) =
      .ret (([(placeR 0 R, cntR true R), (placeR 0 (swapR R), cntR false R)] : List (Int × Int)).map fun p => D.int (m * m * p.1 - p.2 * (m * (m - 1) / 2))) := by
    refine comp_m (α := Int × Int) (h := wayD) (ds := [(placeR 0 R, cntR true R), (placeR 0 (swapR R), cntR false R)]) (seq_v (tup_v (cons_v (tup_v (cons_v (op_v rfl rfl rfl) (cons_v (prop_v rfl (hers_eq h.ok.len)) nil_v)) (by show 2 ≤ capD; decide)) (cons_v (tup_v (cons_v (op_v rfl rfl rfl) (cons_v (prop_v rfl (his_eq h.ok.len)) nil_v)) (by show 2 ≤ capD; decide)) nil_v)) (by show 2 ≤ capD; decide)) rfl) (by show 2 < capD; decide) fun p hp => ?_
    have sp : p.1.natAbs < 18446744073709551616 ∧ p.2.natAbs < 18446744073709551616 := by
      rcases List.mem_cons.mp hp with q | q
      · rw [q]; exact ⟨h.pl, sm9 h⟩
      · rw [List.mem_singleton.mp q]; exact ⟨h.pls, sm9 h⟩
    exact ⟨_, rfl, op_v (op_v (op_v rfl rfl (mul_small h.mm)) rfl (mul_small sp.1)) (op_v rfl (op_v (op_v rfl (op_v rfl rfl rfl) (mh h)) rfl rfl) (mul_smallL sp.2)) rfl⟩
  have e : (([(placeR 0 R, cntR true R), (placeR 0 (swapR R), cntR false R)] : List (Int × Int)).map fun p => D.int (m * m * p.1 - p.2 * (m * (m - 1) / 2))) = [.int (placeR 0 (scaleR m R)), .int (placeR 0 (swapR (scaleR m R)))] := by
    rw [p1, p2]; rfl
  rw [e] at c
  exact set_v (fn_v (ofl_v c) rfl)
theorem n_s10 {s2 s4 s5 s6 s7 : Slot} : Ns10 (NE0 R m s2 (.val (.tup [.int (placeR 0 (scaleR m R)), .int (placeR 0 (swapR (scaleR m R)))])) s4 s5 s6 s7) = .ret (.nx (NE0 R m s2 (.val (.tup [.int (placeR 0 (scaleR m R)), .int (placeR 0 (swapR (scaleR m R)))])) s4 s5 s6 s7)) := by
  have a := apart_eq h.okm (by rw [slen]; have := h.len; omega)
  rw [apart_scale h.m1 h.ok.pos] at a
  have s := same_refl 5 (.lst [.tup [.int (placeR 0 (scaleR m R)), .int (placeR 0 (swapR (scaleR m R)))], .int (apartR R * m)]) rfl
  exact if_nx (not_v (c := true) (test_v (afn_v (cons_v (ofl_v (lst_v (cons_v (afn_v (cons_v rfl nil_v) (place_sums_eq h.okm)) (cons_v (afn_v (cons_v rfl nil_v) a) nil_v)) (by show 2 ≤ capD; decide))) (cons_v (ofl_v (lst_v (cons_v rfl (cons_v (op_v (afn_v (cons_v rfl nil_v) (apart_eq h.ok (by have := h.len; omega))) rfl (mul_small h.mm)) nil_v)) (by show 2 ≤ capD; decide))) nil_v)) s)))
theorem n_s11 {s2 s3 s4 s5 s7 : Slot} : Ns11 (NE0 R m s2 s3 s4 s5 .no s7) = .ret (.nx (NE0 R m s2 s3 s4 s5 (.val (.int (highR 0 (scaleR m R)))) s7)) := by
  have p1 := high_scale (m := m) R 0
  rw [Int.zero_mul] at p1
  rw [p1]
  exact set_v (op_v (op_v (op_v rfl rfl (mul_small h.mm)) (afn_v (cons_v rfl nil_v) (height_eq h.ok.small)) (mul_small h.hi)) (op_v (prop_v rfl (hers_eq h.ok.len)) (op_v (op_v rfl (op_v rfl rfl rfl) (mh h)) rfl rfl) (mul_smallL (sm9 h))) rfl)
theorem n_s12 {s2 s3 s4 s5 s7 : Slot} : Ns12 (NE0 R m s2 s3 s4 s5 (.val (.int (highR 0 (scaleR m R)))) s7) = .ret (.nx (NE0 R m s2 s3 s4 s5 (.val (.int (highR 0 (scaleR m R)))) s7)) :=
  if_nx (not_v (c := true) (test_v (afn_v (cons_v (afn_v (cons_v rfl nil_v) (height_eq h.okm.small)) (cons_v rfl nil_v)) (same_refl 5 (.int _) rfl))))
theorem n_s13 {s2 s3 s4 s5 s6 s7 : Slot} : ∃ t7, Ns13 (NE0 R m s2 s3 s4 s5 s6 s7) = .ret (.nx (NE0 R m s2 s3 s4 s5 s6 t7)) := by
  have c9 := h.cs true
  have r : iRange2 (aCons (fC (.int 1)) (aCons (fOp addD (fProp 0 F_Turns_hers (fVar 0)) (fC (.int 1))) aNil)) (NE0 R m s2 s3 s4 s5 s6 s7) = .ret (rangeD 1 (cntR true R + 1 - 1).toNat) :=
    range2_v (cons_v rfl (cons_v (op_v (prop_v rfl (hers_eq h.ok.len)) rfl rfl) nil_v)) (by omega) (by omega)
  obtain ⟨ρ', e, t7, e2⟩ := for_keep (I := fun ρ => ∃ t7, ρ = NE0 R m s2 s3 s4 s5 s6 t7) (g := gSet 7) (b := N13br1) (rangeD 1 (cntR true R + 1 - 1).toNat) (NE0 R m s2 s3 s4 s5 s6 s7) (fun d hd ρ ⟨t7, hρ⟩ => by
    obtain ⟨i, rfl, i1, i2⟩ := rangeD_in _ _ hd
    subst hρ
    have i3 : i ≤ cntR true R := by omega
    have k1 : 1 ≤ i * m := by
      have := Int.mul_le_mul i1 h.m1 (by omega) (by omega)
      omega
    have k2 : 1 ≤ (i - 1) * m + 1 := by
      have := Int.mul_nonneg (show 0 ≤ i - 1 by omega) (show 0 ≤ m by have := h.m1; omega)
      omega
    have k3 : i * m ≤ cntR true (scaleR m R) := by rw [cnt_scale]; exact (mle h.m1).mpr i3
    have k4 : (i - 1) * m + 1 ≤ cntR true (scaleR m R) := by rw [cnt_scale]; exact (phi_le h.m1 i _).mpr i3
    have t1 := turnof_eq k1 (tv_some k3 k1)
    have t2 := turnof_eq k2 (tv_some k4 k2)
    rw [tv_mul h.m1 i3 i1] at t1
    rw [show tvR true (scaleR m R) ((i - 1) * m + 1) = phi m (tvR true R i) from tv_phi h.m1 i3 i1] at t2
    have t3 := turnof_eq i1 (tv_some i3 i1)
    have s := same_refl 5 (.lst [.int (tvR true R i * m), .int (phi m (tvR true R i))]) rfl
    exact ⟨NE0 R m s2 s3 s4 s5 s6 (.val (.int i)), NE0 R m s2 s3 s4 s5 s6 (.val (.int i)), rfl, if_nx (not_v (c := true) (test_v (afn_v (cons_v (ofl_v (lst_v (cons_v (afn_v (cons_v rfl (cons_v (op_v rfl rfl (mul_small h.mm)) nil_v)) t1) (cons_v (afn_v (cons_v rfl (cons_v (op_v (op_v (op_v rfl rfl rfl) rfl (mul_small h.mm)) rfl rfl) nil_v)) t2) nil_v)) (by show 2 ≤ capD; decide))) (cons_v (ofl_v (lst_v (cons_v (op_v (afn_v (cons_v rfl (cons_v rfl nil_v)) t3) rfl (mul_small h.mm)) (cons_v (op_v (op_v (op_v (afn_v (cons_v rfl (cons_v rfl nil_v)) t3) rfl rfl) rfl (mul_small h.mm)) rfl rfl) nil_v)) (by show 2 ≤ capD; decide))) nil_v)) s))), _, rfl⟩) ⟨s7, rfl⟩
  exact ⟨t7, (for_v r e).trans (by rw [e2])⟩
theorem n_s14 {s2 s3 s4 s5 s6 s7 : Slot} : ∃ t7, Ns14 (NE0 R m s2 s3 s4 s5 s6 s7) = .ret (.nx (NE0 R m s2 s3 s4 s5 s6 t7)) := by
  have c9 := h.cs false
  have r : iRange2 (aCons (fC (.int 1)) (aCons (fOp addD (fProp 0 F_Turns_his (fVar 0)) (fC (.int 1))) aNil)) (NE0 R m s2 s3 s4 s5 s6 s7) = .ret (rangeD 1 (cntR false R + 1 - 1).toNat) :=
    range2_v (cons_v rfl (cons_v (op_v (prop_v rfl (his_eq h.ok.len)) rfl rfl) nil_v)) (by omega) (by omega)
  obtain ⟨ρ', e, t7, e2⟩ := for_keep (I := fun ρ => ∃ t7, ρ = NE0 R m s2 s3 s4 s5 s6 t7) (g := gSet 7) (b := N14br1) (rangeD 1 (cntR false R + 1 - 1).toNat) (NE0 R m s2 s3 s4 s5 s6 s7) (fun d hd ρ ⟨t7, hρ⟩ => by
    obtain ⟨i, rfl, i1, i2⟩ := rangeD_in _ _ hd
    subst hρ
    have i3 : i ≤ cntR false R := by omega
    have k1 : 1 ≤ i * m := by
      have := Int.mul_le_mul i1 h.m1 (by omega) (by omega)
      omega
    have k3 : i * m ≤ cntR false (scaleR m R) := by rw [cnt_scale]; exact (mle h.m1).mpr i3
    have t1 := histurnof_eq k1 (tv_some k3 k1)
    rw [tv_mul h.m1 i3 i1] at t1
    have t3 := histurnof_eq i1 (tv_some i3 i1)
    have s := same_refl 5 (.int (tvR false R i * m)) rfl
    exact ⟨NE0 R m s2 s3 s4 s5 s6 (.val (.int i)), NE0 R m s2 s3 s4 s5 s6 (.val (.int i)), rfl, if_nx (not_v (c := true) (test_v (afn_v (cons_v (afn_v (cons_v rfl (cons_v (op_v rfl rfl (mul_small h.mm)) nil_v)) t1) (cons_v (op_v (afn_v (cons_v rfl (cons_v rfl nil_v)) t3) rfl (mul_small h.mm)) nil_v)) s))), _, rfl⟩) ⟨s7, rfl⟩
  exact ⟨t7, (for_v r e).trans (by rw [e2])⟩
theorem n_s15 {s2 s3 s4 s5 s6 s7 : Slot} : ∀ ρ, ρ = NE0 R m s2 s3 s4 s5 s6 s7 → aFn (F__law_same 6) (aCons (fOfL (fComp (iRange1 (aCons (fOp addD (fVar 9) (fC (.int 1))) aNil)) (gSet 10) fYes (aFn F_ahead (aCons (fVar 8) (aCons (fOp mulD (fVar 10) (fVar 1)) aNil))) [10])) (aCons (fOfL (fComp (iRange1 (aCons (fOp addD (fVar 9) (fC (.int 1))) aNil)) (gSet 10) fYes (fOp mulD (aFn F_ahead (aCons (fVar 0) (aCons (fVar 10) aNil))) (fVar 1)) [10])) aNil)) ρ = .ret (.bl true) := by
  rintro ρ rfl
  have h0 := (le_size h.ok.pos).1
  have h9 := h.size
  have en : sizeR R + 1 = (((sizeR R).toNat + 1 : Nat) : Int) := by omega
  have r : iRange1 (aCons (fOp addD (fVar 9) (fC (.int 1))) aNil) (NE0 R m s2 s3 s4 s5 s6 s7) = .ret ((List.range ((sizeR R).toNat + 1)).map fun i => D.int ((i : Nat) : Int)) := by
    refine range_v (cons_v (op_v rfl rfl ?_) nil_v) (by omega)
    show T.ret (D.int (sizeR R + 1)) = _
    rw [en]
  have c1 : fComp (iRange1 (aCons (fOp addD (fVar 9) (fC (.int 1))) aNil)) (gSet 10) fYes (aFn F_ahead (aCons (fVar 8) (aCons (fOp mulD (fVar 10) (fVar 1)) aNil))) [10] (NE0 R m s2 s3 s4 s5 s6 s7) = .ret ((List.range ((sizeR R).toNat + 1)).map fun i => D.int (aheadR ((i : Nat) : Int) 0 R * m)) :=
    comp_m (α := Nat) (h := fun i => .int ((i : Nat) : Int)) (ds := List.range ((sizeR R).toNat + 1)) r (by rw [List.length_range]; show (sizeR R).toNat + 1 < 100000; omega) fun i _ => ⟨_, rfl, afn_v (cons_v rfl (cons_v (op_v rfl rfl (mul_small h.mm)) nil_v)) ((ahead_eq _ _).trans (by rw [ahead_scale0 h.m1]))⟩
  have c2 : fComp (iRange1 (aCons (fOp addD (fVar 9) (fC (.int 1))) aNil)) (gSet 10) fYes (fOp mulD (aFn F_ahead (aCons (fVar 0) (aCons (fVar 10) aNil))) (fVar 1)) [10] (NE0 R m s2 s3 s4 s5 s6 s7) = .ret ((List.range ((sizeR R).toNat + 1)).map fun i => D.int (aheadR ((i : Nat) : Int) 0 R * m)) :=
    comp_m (α := Nat) (h := fun i => .int ((i : Nat) : Int)) (ds := List.range ((sizeR R).toNat + 1)) r (by rw [List.length_range]; show (sizeR R).toNat + 1 < 100000; omega) fun i _ => ⟨_, rfl, op_v (afn_v (cons_v rfl (cons_v rfl nil_v)) (ahead_eq _ _)) rfl (mul_small h.mm)⟩
  have e2 : ((List.range ((sizeR R).toNat + 1)).map fun i => D.int (aheadR ((i : Nat) : Int) 0 R * m)) = iD ((List.range ((sizeR R).toNat + 1)).map fun i => aheadR ((i : Nat) : Int) 0 R * m) := by unfold iD; rw [List.map_map]; rfl
  have s := same_refl 5 (.lst ((List.range ((sizeR R).toNat + 1)).map fun i => D.int (aheadR ((i : Nat) : Int) 0 R * m))) (by rw [e2]; exact pl_lst 4 _ (by rw [List.length_map, List.length_range]; omega))
  exact afn_v (cons_v (ofl_v c1) (cons_v (ofl_v c2) nil_v)) s
theorem lone_eq : F__law_lone [TU R, .int m] = .ret (.bl true) := by
  have e : Nr1 [.val (TU R), .val (.int m), .no, .no, .no, .no, .no, .no, .no, .no, .no, .no, .no, .no] = .ret (.rt (.bl true)) := by
    refine seq_nx (n_s1 h (s2 := .no) (s3 := .no) (s4 := .no) (s5 := .no) (s6 := .no) (s7 := .no)) (seq_nx (n_s2 h) (seq_nx (n_s3 h) (seq_nx (n_s4 h) (seq_nx (n_s5 h) (seq_nx (n_s6 h) (seq_nx (n_s7 h) (seq_nx (n_s8 h) (seq_nx (n_s9 h) (seq_nx (n_s10 h) (seq_nx (n_s11 h) (seq_nx (n_s12 h) ?_)))))))))))
    obtain ⟨t7, e13⟩ := n_s13 h (s2 := .val (.lst (GOT (scaleR m R)))) (s3 := .val (.tup [.int (placeR 0 (scaleR m R)), .int (placeR 0 (swapR (scaleR m R)))])) (s4 := .val (oD (behindR 0 0 R))) (s5 := .val (.tup [.int (placeR 0 R), .int (placeR 0 (swapR R))])) (s6 := .val (.int (highR 0 (scaleR m R)))) (s7 := .no)
    obtain ⟨u7, e14⟩ := n_s14 h (s2 := .val (.lst (GOT (scaleR m R)))) (s3 := .val (.tup [.int (placeR 0 (scaleR m R)), .int (placeR 0 (swapR (scaleR m R)))])) (s4 := .val (oD (behindR 0 0 R))) (s5 := .val (.tup [.int (placeR 0 R), .int (placeR 0 (swapR R))])) (s6 := .val (.int (highR 0 (scaleR m R)))) (s7 := t7)
    exact seq_nx e13 (seq_nx e14 (ret_v (n_s15 h _ rfl)))
  exact run_rt (B := B__law_lone) (ρ := [.val (TU R), .val (.int m), .no, .no, .no, .no, .no, .no, .no, .no, .no, .no, .no, .no]) e
end
end LW
end

section
set_option maxRecDepth 100000
set_option maxHeartbeats 1000000
/-! NK: the law's body behind its draws. -/
namespace LW
open PySem DL
abbrev Ls1 : DL.Env → T Out := (sUnp (fTup (aCons (aFn F__law_take (aCons (fVar 1) (aCons (fC (.int 10)) aNil))) (aCons (aFn F__law_of (aCons (fVar 1) (aCons (fOfL (fLst (aCons (fC (.int 1)) (aCons (fC (.int 2)) (aCons (fC (.int 3)) (aCons (fC (.int 7)) (aCons (fOp addD (fOp powD (fC (.int 10)) (fC (.int 14))) (aFn F__law_take (aCons (fVar 1) (aCons (fC (.int 1000)) aNil)))) aNil))))))) aNil))) aNil))) (gTupD (gsCons (gSet 6) (gsCons (gSet 7) gsNil))))
abbrev Ls2 : DL.Env → T Out := (sParVV 8 9 (aFn F_turns_of (aCons (aFn F__law_heirs (aCons (fVar 1) (aCons (fVar 6) aNil))) aNil)) (aFn F_turns_of (aCons (aFn F__law_heirs (aCons (fVar 1) (aCons (fVar 6) aNil))) aNil)))
abbrev Ls3 : DL.Env → T Out := (sParVV 10 11 (aFn F__law_times (aCons (fVar 8) (aCons (fVar 7) aNil))) (aFn F__law_times (aCons (fVar 9) (aCons (fVar 7) aNil))))
abbrev Ls4 : DL.Env → T Out := (sIf (fOr (fNot (fTest (aFn F__law_lone (aCons (fVar 8) (aCons (fVar 7) aNil))))) (fNot (fTest (aFn F__law_lone (aCons (fVar 9) (aCons (fVar 7) aNil)))))) (sRet (fC (.bl false))) sNext)
abbrev Ls5 : DL.Env → T Out := (sSet 2 (aFn F_most_worse (aCons (fVar 8) (aCons (fVar 9) aNil))))
abbrev Ls6 : DL.Env → T Out := (sSet 3 (fOfL (fLst (aCons (aFn F_never_worse (aCons (fVar 10) (aCons (fVar 11) aNil))) (aCons (aFn F_never_worse (aCons (fVar 11) (aCons (fVar 10) aNil))) (aCons (aFn F_compare (aCons (fVar 10) (aCons (fVar 11) aNil))) (aCons (aFn F_is_above (aCons (fVar 10) (aCons (fVar 11) aNil))) (aCons (aFn F_most_worse (aCons (fVar 10) (aCons (fVar 11) aNil))) (aCons (aFn F_corners (aCons (fVar 10) (aCons (fVar 11) aNil))) aNil)))))))))
abbrev Ls7 : DL.Env → T Out := (sSet 4 (fOfL (fLst (aCons (aFn F_never_worse (aCons (fVar 8) (aCons (fVar 9) aNil))) (aCons (aFn F_never_worse (aCons (fVar 9) (aCons (fVar 8) aNil))) (aCons (aFn F_compare (aCons (fVar 8) (aCons (fVar 9) aNil))) (aCons (aFn F_is_above (aCons (fVar 8) (aCons (fVar 9) aNil))) (aCons (fIf (fTest (fIsN (fVar 2))) (fC .non) (fOp mulD (fVar 2) (fVar 7))) (aCons (fFn tupOfD (fOfL (fComp (iSeq (aFn F_corners (aCons (fVar 8) (aCons (fVar 9) aNil)))) (gSet 15) fYes (fOp mulD (fVar 15) (fVar 7)) [15]))) aNil)))))))))
abbrev Ls8 : DL.Env → T Out := (sIf (fNot (fTest (aFn (F__law_same 6) (aCons (fVar 3) (aCons (fVar 4) aNil))))) (sRet (fC (.bl false))) sNext)
abbrev Ls9 : DL.Env → T Out := (sParVV 12 13 (aFn F_against (aCons (fVar 8) (aCons (fVar 9) aNil))) (aFn F_against (aCons (fVar 10) (aCons (fVar 11) aNil))))
abbrev Ls10 : DL.Env → T Out := (sIf (fNot (fTest (aFn (F__law_same 6) (aCons (fOfL (fLst (aCons (fIsN (fVar 12)) (aCons (fIsN (fVar 13)) aNil)))) (aCons (fOfL (fLst (aCons (aFn F_never_worse (aCons (fVar 8) (aCons (fVar 9) aNil))) (aCons (aFn F_never_worse (aCons (fVar 8) (aCons (fVar 9) aNil))) aNil)))) aNil))))) (sRet (fC (.bl false))) sNext)
abbrev Ls11 : DL.Env → T Out := (sIf (fAnd (fTest (fNotN (fVar 12))) (fNot (fTest (aFn (F__law_same 6) (aCons (fOfL (fLst (aCons (aFn F_is_against (aCons (fVar 10) (aCons (fVar 11) (aCons (fOp mulD (fVar 12) (fVar 7)) aNil)))) (aCons (aFn F_is_against (aCons (fVar 10) (aCons (fVar 11) (aCons (fVar 13) aNil)))) aNil)))) (aCons (fOfL (fLst (aCons (fC (.bl true)) (aCons (fC (.bl true)) aNil)))) aNil)))))) (sRet (fC (.bl false))) sNext)
abbrev Ls12 : DL.Env → T Out := (sSetL 5 (fLst (aCons (fOp (ownD 0 F_Turns_eq) (aFn F_above_both (aCons (fVar 10) (aCons (fVar 11) aNil))) (aFn F__law_times (aCons (aFn F_above_both (aCons (fVar 8) (aCons (fVar 9) aNil))) (aCons (fVar 7) aNil)))) (aCons (fOp (ownD 0 F_Turns_eq) (aFn F_below_both (aCons (fVar 10) (aCons (fVar 11) aNil))) (aFn F__law_times (aCons (aFn F_below_both (aCons (fVar 8) (aCons (fVar 9) aNil))) (aCons (fVar 7) aNil)))) aNil))))
abbrev Ls13 : DL.Env → T Out := (sSetL 5 (lCat (fVarX 5) (fOfL (fLst (aCons (fOp (ownD 0 F_Turns_eq) (aFn F_backwards (aCons (fVar 10) aNil)) (aFn F__law_times (aCons (aFn F_backwards (aCons (fVar 8) aNil)) (aCons (fVar 7) aNil)))) (aCons (fOp (ownD 0 F_Turns_eq) (aFn F_swapped (aCons (fVar 10) aNil)) (aFn F__law_times (aCons (aFn F_swapped (aCons (fVar 8) aNil)) (aCons (fVar 7) aNil)))) aNil))))))
abbrev Ls14 : DL.Env → T Out := (sIf (fTest (fOp eqD (fProp 0 F_Turns_hers (fVar 8)) (fProp 0 F_Turns_hers (fVar 9)))) (sSeq (sSet 14 (aFn F_fewest_steps (aCons (fVar 8) (aCons (fVar 9) aNil)))) (sApp 5 (fOp eqD (aFn F_fewest_steps (aCons (fVar 10) (aCons (fVar 11) aNil))) (fIf (fTest (fIsN (fVar 14))) (fC .non) (fOp mulD (fOp mulD (fVar 14) (fVar 7)) (fVar 7)))))) sNext)
abbrev Ls15 : DL.Env → T Out := (sRet (aFn (F__law_same 6) (aCons (fVar 5) (aCons (fOp mulD (fOfL (fLst (aCons (fC (.bl true)) aNil))) (fFn lenD (fVar 5))) aNil))))
abbrev Lr15 : DL.Env → T Out := Ls15
abbrev Lr14 : DL.Env → T Out := sSeq Ls14 Lr15
abbrev Lr13 : DL.Env → T Out := sSeq Ls13 Lr14
abbrev Lr12 : DL.Env → T Out := sSeq Ls12 Lr13
abbrev Lr11 : DL.Env → T Out := sSeq Ls11 Lr12
abbrev Lr10 : DL.Env → T Out := sSeq Ls10 Lr11
abbrev Lr9 : DL.Env → T Out := sSeq Ls9 Lr10
abbrev Lr8 : DL.Env → T Out := sSeq Ls8 Lr9
abbrev Lr7 : DL.Env → T Out := sSeq Ls7 Lr8
abbrev Lr6 : DL.Env → T Out := sSeq Ls6 Lr7
abbrev Lr5 : DL.Env → T Out := sSeq Ls5 Lr6
abbrev Lr4 : DL.Env → T Out := sSeq Ls4 Lr5
abbrev Lr3 : DL.Env → T Out := sSeq Ls3 Lr4
abbrev Lr2 : DL.Env → T Out := sSeq Ls2 Lr3
abbrev Lr1 : DL.Env → T Out := sSeq Ls1 Lr2
def LE0 (R S : List Run) (n m : Int) (s2 s3 s4 s5 s12 s13 s14 : Slot) : DL.Env := [.no, .val .urn, s2, s3, s4, s5, .val (.int n), .val (.int m), .val (TU R), .val (TU S), .val (TU (scaleR m R)), .val (TU (scaleR m S)), s12, s13, s14, .no]
theorem eqD_o (x : Option Int) : eqD (oD x) (oD x) = .ret (.bl true) := by
  cases x with
  | none => rfl
  | some k => exact (eqD_int k k).trans (by rw [decide_eq_true rfl])
theorem oD_pl (n : Nat) (x : Option Int) : plS n (oD x) = true := by cases x <;> cases n <;> rfl
theorem cmpS_pl (n : Nat) (a b : Bool) : plS n (cmpS a b) = true := by cases a <;> cases b <;> cases n <;> rfl
section
variable {n m : Int} {R S : List Run} (h : Sml m R) (k : Sml m S) (e : sizeR R = sizeR S)
include h k e
theorem em : sizeR (scaleR m R) = sizeR (scaleR m S) := by rw [size_scale, size_scale, e]
omit k e in
theorem lm : (scaleR m R).length < 1000 := by rw [slen]; have := h.len; omega
omit k e in
theorem ln : R.length < 1000 := by have := h.len; omega
theorem nw1 : F_never_worse [TU R, TU S] = .ret (.bl (agR R S).isNone) := nw_eq h.ok k.ok (ln h) (ln k) e
theorem nw2 : F_never_worse [TU (scaleR m R), TU (scaleR m S)] = .ret (.bl (agR R S).isNone) := by
  have q := nw_eq h.okm k.okm (lm h) (lm k) (em h k e)
  rw [ag_scale h.m1 h.ok.pos k.ok.pos] at q
  rw [q]
  cases agR R S <;> rfl
theorem l_s4 {s2 s3 s4 s5 s12 s13 s14 : Slot} : Ls4 (LE0 R S n m s2 s3 s4 s5 s12 s13 s14) = .ret (.nx (LE0 R S n m s2 s3 s4 s5 s12 s13 s14)) :=
  if_nx (or_v (c := false) (c' := false) (not_v (c := true) (test_v (afn_v (cons_v rfl (cons_v rfl nil_v)) (lone_eq h)))) (not_v (c := true) (test_v (afn_v (cons_v rfl (cons_v rfl nil_v)) (lone_eq k)))))
theorem l_s5 {s3 s4 s5 s12 s13 s14 : Slot} : Ls5 (LE0 R S n m .no s3 s4 s5 s12 s13 s14) = .ret (.nx (LE0 R S n m (.val (oD (worstR R S))) s3 s4 s5 s12 s13 s14)) := set_v (afn_v (cons_v rfl (cons_v rfl nil_v)) (worst_eq h.ok k.ok (ln h) (ln k) e))
def GL (m : Int) (R S : List Run) : List D := [.bl (agR R S).isNone, .bl (agR S R).isNone, cmpS (agR R S).isNone (agR S R).isNone, .bl (aboveR R S), oD ((worstR R S).map fun x => x * m), .tup (iD ((cornersR R S).map fun x => x * m))]
theorem l_s6 {s2 s4 s5 s12 s13 s14 : Slot} : Ls6 (LE0 R S n m s2 .no s4 s5 s12 s13 s14) = .ret (.nx (LE0 R S n m s2 (.val (.lst (GL m R S))) s4 s5 s12 s13 s14)) := by
  have a1 := nw2 h k e
  have a2 := nw2 k h e.symm
  have a3 := compare_eq a1 a2
  have a4 := above_eq h.okm k.okm (lm h) (lm k) (em h k e)
  rw [above_scale h.m1] at a4
  have a5 := worst_eq h.okm k.okm (lm h) (lm k) (em h k e)
  rw [worst_scale h.m1 h.ok.pos k.ok.pos] at a5
  have a6 := corners_eq (lm h) (lm k)
  rw [corners_scale h.m1] at a6
  exact set_v (ofl_v (lst_v (cons_v (afn_v (cons_v rfl (cons_v rfl nil_v)) a1) (cons_v (afn_v (cons_v rfl (cons_v rfl nil_v)) a2) (cons_v (afn_v (cons_v rfl (cons_v rfl nil_v)) a3) (cons_v (afn_v (cons_v rfl (cons_v rfl nil_v)) a4) (cons_v (afn_v (cons_v rfl (cons_v rfl nil_v)) a5) (cons_v (afn_v (cons_v rfl (cons_v rfl nil_v)) a6) nil_v)))))) (by show 6 ≤ capD; decide)))
theorem l_s7 {s3 s5 s12 s13 s14 : Slot} : Ls7 (LE0 R S n m (.val (oD (worstR R S))) s3 .no s5 s12 s13 s14) = .ret (.nx (LE0 R S n m (.val (oD (worstR R S))) s3 (.val (.lst (GL m R S))) s5 s12 s13 s14)) := by
  have a1 := nw1 h k e
  have a2 := nw1 k h e.symm
  have a3 := compare_eq a1 a2
  have a4 := above_eq h.ok k.ok (ln h) (ln k) e
  have cl := corners_len R S
  have h1 := h.len
  have h2 := k.len
  have c : fComp (iSeq (aFn F_corners (aCons (fVar 8) (aCons (fVar 9) aNil)))) (gSet 15) fYes (fOp mulD (fVar 15) (fVar 7)) [15] (LE0 R S n m (.val (oD (worstR R S))) s3 .no s5 s12 s13 s14) = .ret (iD ((cornersR R S).map fun x => x * m)) :=
    (comp_m (α := Int) (h := .int) (k := fun x => .int (x * m)) (ds := cornersR R S) (seq_v (afn_v (cons_v rfl (cons_v rfl nil_v)) (corners_eq (ln h) (ln k))) rfl) (by show (cornersR R S).length < 100000; omega) fun x _ => ⟨_, rfl, op_v rfl rfl (mul_small h.mm)⟩).trans (by unfold iD; rw [List.map_map]; rfl)
  have w : fIf (fTest (fIsN (fVar 2))) (fC .non) (fOp mulD (fVar 2) (fVar 7)) (LE0 R S n m (.val (oD (worstR R S))) s3 .no s5 s12 s13 s14) = .ret (oD ((worstR R S).map fun x => x * m)) := by
    cases worstR R S with
    | none => exact ifE_t (test_v (c := true) (isN_v (d := .non) rfl)) rfl
    | some x => exact ifE_f (test_v (c := false) (isN_v (d := .int x) rfl)) (op_v rfl rfl (mul_small h.mm))
  exact set_v (ofl_v (lst_v (cons_v (afn_v (cons_v rfl (cons_v rfl nil_v)) a1) (cons_v (afn_v (cons_v rfl (cons_v rfl nil_v)) a2) (cons_v (afn_v (cons_v rfl (cons_v rfl nil_v)) a3) (cons_v (afn_v (cons_v rfl (cons_v rfl nil_v)) a4) (cons_v w (cons_v (fn_v (ofl_v c) rfl) nil_v)))))) (by show 6 ≤ capD; decide)))
theorem l_s8 {s2 s5 s12 s13 s14 : Slot} : Ls8 (LE0 R S n m s2 (.val (.lst (GL m R S))) (.val (.lst (GL m R S))) s5 s12 s13 s14) = .ret (.nx (LE0 R S n m s2 (.val (.lst (GL m R S))) (.val (.lst (GL m R S))) s5 s12 s13 s14)) := by
  have cl := corners_len R S
  have h1 := h.len
  have h2 := k.len
  have p : plS 5 (.lst (GL m R S)) = true := by
    show (decide (6 < capD) && (true && (true && (plS 4 (cmpS (agR R S).isNone (agR S R).isNone) && (true && (plS 4 (oD ((worstR R S).map fun x => x * m)) && (plS 4 (.tup (iD ((cornersR R S).map fun x => x * m))) && true))))))) = true
    rw [cmpS_pl, oD_pl, pl_tup 3 _ (by rw [List.length_map]; omega)]
    rfl
  exact if_nx (not_v (c := true) (test_v (afn_v (cons_v rfl (cons_v rfl nil_v)) (same_refl 5 _ p))))
theorem l_s9 {s2 s3 s4 s5 s14 : Slot} : Ls9 (LE0 R S n m s2 s3 s4 s5 .no .no s14) = .ret (.nx (LE0 R S n m s2 s3 s4 s5 (.val (oD (agR R S))) (.val (oD ((agR R S).map (phi m)))) s14)) := by
  have a5 := ag_eq h.okm k.okm (lm h) (lm k) (em h k e)
  rw [ag_scale h.m1 h.ok.pos k.ok.pos] at a5
  exact par_v (afn_v (cons_v rfl (cons_v rfl nil_v)) (ag_eq h.ok k.ok (ln h) (ln k) e)) (afn_v (cons_v rfl (cons_v rfl nil_v)) a5)
theorem l_s10 {s2 s3 s4 s5 s14 : Slot} : Ls10 (LE0 R S n m s2 s3 s4 s5 (.val (oD (agR R S))) (.val (oD ((agR R S).map (phi m)))) s14) = .ret (.nx (LE0 R S n m s2 s3 s4 s5 (.val (oD (agR R S))) (.val (oD ((agR R S).map (phi m)))) s14)) := by
  have q : isNonD (oD ((agR R S).map (phi m))) = (agR R S).isNone := by cases agR R S <;> rfl
  have s := same_refl 5 (.lst [.bl (agR R S).isNone, .bl (agR R S).isNone]) rfl
  exact if_nx (not_v (c := true) (test_v (afn_v (cons_v (ofl_v (lst_v (cons_v ((isN_v (d := oD (agR R S)) rfl).trans (by rw [non_oD])) (cons_v ((isN_v (d := oD ((agR R S).map (phi m))) rfl).trans (by rw [q])) nil_v)) (by show 2 ≤ capD; decide))) (cons_v (ofl_v (lst_v (cons_v (afn_v (cons_v rfl (cons_v rfl nil_v)) (nw1 h k e)) (cons_v (afn_v (cons_v rfl (cons_v rfl nil_v)) (nw1 h k e)) nil_v)) (by show 2 ≤ capD; decide))) nil_v)) s)))
theorem l_s11 {s2 s3 s4 s5 s14 : Slot} : Ls11 (LE0 R S n m s2 s3 s4 s5 (.val (oD (agR R S))) (.val (oD ((agR R S).map (phi m)))) s14) = .ret (.nx (LE0 R S n m s2 s3 s4 s5 (.val (oD (agR R S))) (.val (oD ((agR R S).map (phi m)))) s14)) := by
  cases c : agR R S with
  | none => exact if_nx (and_f (test_v (notN_v (d := .non) rfl)))
  | some x =>
    obtain ⟨x1, x2, x3⟩ := ag_says h.ok.pos k.ok.pos c
    have c2 : agR (scaleR m R) (scaleR m S) = some (phi m x) := by rw [ag_scale h.m1 h.ok.pos k.ok.pos, c]; rfl
    obtain ⟨y1, y2, y3⟩ := ag_says h.okm.pos k.okm.pos c2
    have i1 := is_against_eq (n := x * m) h.okm.len k.okm.len (em h k e) (by
      have := Int.mul_le_mul x1 h.m1 (by omega) (by omega)
      omega) (by rw [cnt_scale]; exact (mle h.m1).mpr x2) (fun q => by
        rw [cnt_scale] at q
        have q' := (mle h.m1).mp q
        rw [tv_mul h.m1 x2 x1, tv_mul h.m1 q' x1]
        exact (mlt h.m1).mpr (x3 q'))
    have i2 := is_against_eq (n := phi m x) h.okm.len k.okm.len (em h k e) y1 y2 y3
    have s := same_refl 5 (.lst [.bl true, .bl true]) rfl
    exact if_nx (and_v (c := true) (c' := false) (test_v (notN_v (d := .int x) rfl)) (not_v (c := true) (test_v (afn_v (cons_v (ofl_v (lst_v (cons_v (afn_v (cons_v rfl (cons_v rfl (cons_v (op_v (d := .int x) rfl rfl (mul_small h.mm)) nil_v))) i1) (cons_v (afn_v (cons_v rfl (cons_v rfl (cons_v (d := .int (phi m x)) rfl nil_v))) i2) nil_v)) (by show 2 ≤ capD; decide))) (cons_v (ofl_v (lst_v (cons_v rfl (cons_v rfl nil_v)) (by show 2 ≤ capD; decide))) nil_v)) s))))
theorem l_s12 {s2 s3 s4 s12 s13 s14 : Slot} : Ls12 (LE0 R S n m s2 s3 s4 .no s12 s13 s14) = .ret (.nx (LE0 R S n m s2 s3 s4 (.own (.lst [.bl true, .bl true])) s12 s13 s14)) := by
  have b1 := both_eq h.okm k.okm (lm h) (lm k) (em h k e)
  rw [ra_scale h.m1, join_scale] at b1
  have b2 := both_eq h.ok k.ok (ln h) (ln k) e
  have b3 := below_eq h.okm k.okm (lm h) (lm k) (em h k e)
  rw [swap_scale, swap_scale, ra_scale h.m1, join_scale, swap_scale] at b3
  have b4 := below_eq h.ok k.ok (ln h) (ln k) e
  have r1 := ra_len R S
  have r2 := ra_len (swapR R) (swapR S)
  rw [swap_len, swap_len] at r2
  have h1 := h.len
  have h2 := k.len
  have o1 := join8 (ra_pos R S) (by omega)
  have o2 := (join8 (ra_pos (swapR R) (swapR S)) (by omega)).swap
  have t1 := times_eq8 o1 (scale8 o1 h.m1) h.mm
  have t2 := times_eq8 o2 (scale8 o2 h.m1) h.mm
  exact setL_v (lst_v (cons_v (op_v (afn_v (cons_v rfl (cons_v rfl nil_v)) b1) (afn_v (cons_v (afn_v (cons_v rfl (cons_v rfl nil_v)) b2) (cons_v rfl nil_v)) t1) (own_eq _)) (cons_v (op_v (afn_v (cons_v rfl (cons_v rfl nil_v)) b3) (afn_v (cons_v (afn_v (cons_v rfl (cons_v rfl nil_v)) b4) (cons_v rfl nil_v)) t2) (own_eq _)) nil_v)) (by show 2 ≤ capD; decide)) (by show 5 < 16; decide)
theorem rev_scale : (scaleR m R).reverse = scaleR m R.reverse := by unfold scaleR; rw [List.map_reverse]
omit k e in
theorem ok8r : Ok8 R.reverse := ⟨h.ok.rev.alt, h.ok.rev.pos, h.ok.rev.len⟩
omit k e in
theorem ok8s : Ok8 (swapR R) := ⟨h.ok.swap.alt, h.ok.swap.pos, h.ok.swap.len⟩
theorem l_s13 {s2 s3 s4 s12 s13 s14 : Slot} : Ls13 (LE0 R S n m s2 s3 s4 (.own (.lst [.bl true, .bl true])) s12 s13 s14) = .ret (.nx (LE0 R S n m s2 s3 s4 (.own (.lst [.bl true, .bl true, .bl true, .bl true])) s12 s13 s14)) := by
  have b1 := backwards_eq h.okm
  rw [rev_scale h k e] at b1
  have b3 := swapped_eq h.okm
  rw [swap_scale] at b3
  have t1 := times_eq8 (ok8r h) (scale8 (ok8r h) h.m1) h.mm
  have t2 := times_eq8 (ok8s h) (scale8 (ok8s h) h.m1) h.mm
  have l : fLst (aCons (fOp (ownD 0 F_Turns_eq) (aFn F_backwards (aCons (fVar 10) aNil)) (aFn F__law_times (aCons (aFn F_backwards (aCons (fVar 8) aNil)) (aCons (fVar 7) aNil)))) (aCons (fOp (ownD 0 F_Turns_eq) (aFn F_swapped (aCons (fVar 10) aNil)) (aFn F__law_times (aCons (aFn F_swapped (aCons (fVar 8) aNil)) (aCons (fVar 7) aNil)))) aNil)) (LE0 R S n m s2 s3 s4 (.own (.lst [.bl true, .bl true])) s12 s13 s14) = .ret [.bl true, .bl true] :=
    lst_v (cons_v (op_v (afn_v (cons_v rfl nil_v) b1) (afn_v (cons_v (afn_v (cons_v rfl nil_v) (backwards_eq h.ok)) (cons_v rfl nil_v)) t1) (own_eq _)) (cons_v (op_v (afn_v (cons_v rfl nil_v) b3) (afn_v (cons_v (afn_v (cons_v rfl nil_v) (swapped_eq h.ok)) (cons_v rfl nil_v)) t2) (own_eq _)) nil_v)) (by show 2 ≤ capD; decide)
  exact setL_v (lcat_v (xs := [.bl true, .bl true]) rfl (ofl_v l) (by show 4 ≤ capD; decide)) (by show 5 < 16; decide)
theorem l_s14 {s2 s3 s4 s12 s13 : Slot} : ∃ gl t14, (gl = [.bl true, .bl true, .bl true, .bl true] ∨ gl = [.bl true, .bl true, .bl true, .bl true, .bl true]) ∧ Ls14 (LE0 R S n m s2 s3 s4 (.own (.lst [.bl true, .bl true, .bl true, .bl true])) s12 s13 .no) = .ret (.nx (LE0 R S n m s2 s3 s4 (.own (.lst gl)) s12 s13 t14)) := by
  by_cases c : cntR true R = cntR true S
  · have f1 := few_eq h.ok k.ok (ln h) (ln k) e c
    have f2 := few_eq h.okm k.okm (lm h) (lm k) (em h k e) (by rw [cnt_scale, cnt_scale, c])
    rw [few_scale h.m1 h.ok.pos k.ok.pos] at f2
    have w : fIf (fTest (fIsN (fVar 14))) (fC .non) (fOp mulD (fOp mulD (fVar 14) (fVar 7)) (fVar 7)) (LE0 R S n m s2 s3 s4 (.own (.lst [.bl true, .bl true, .bl true, .bl true])) s12 s13 (.val (oD (fewestR R S)))) = .ret (oD ((fewestR R S).map fun x => x * m * m)) := by
      cases fewestR R S with
      | none => exact ifE_t (test_v (c := true) (isN_v (d := .non) rfl)) rfl
      | some x => exact ifE_f (test_v (c := false) (isN_v (d := .int x) rfl)) (op_v (op_v rfl rfl (mul_small h.mm)) rfl (mul_small h.mm))
    refine ⟨_, .val (oD (fewestR R S)), .inr rfl, if_t (test_v (op_v (prop_v rfl (hers_eq h.ok.len)) (prop_v rfl (hers_eq k.ok.len)) ((eqD_int _ _).trans (by rw [decide_eq_true c])))) (seq_nx (set_v (afn_v (cons_v rfl (cons_v rfl nil_v)) f1)) ?_)⟩
    exact app_v (ds := [.bl true, .bl true, .bl true, .bl true]) rfl (op_v (afn_v (cons_v rfl (cons_v rfl nil_v)) f2) w (eqD_o _)) (by show 4 < capD; decide)
  · exact ⟨_, .no, .inl rfl, if_nx (test_v (op_v (prop_v rfl (hers_eq h.ok.len)) (prop_v rfl (hers_eq k.ok.len)) ((eqD_int _ _).trans (by rw [decide_eq_false c]))))⟩
theorem l_s15 {s2 s3 s4 s12 s13 s14 : Slot} {gl : List D} (hg : gl = [.bl true, .bl true, .bl true, .bl true] ∨ gl = [.bl true, .bl true, .bl true, .bl true, .bl true]) : Ls15 (LE0 R S n m s2 s3 s4 (.own (.lst gl)) s12 s13 s14) = .ret (.rt (.bl true)) := by
  rcases hg with q | q
  · rw [q]
    have s := same_refl 5 (.lst [.bl true, .bl true, .bl true, .bl true]) rfl
    exact ret_v (afn_v (cons_v rfl (cons_v (op_v (ofl_v (lst_v (cons_v rfl nil_v) (by show 1 ≤ capD; decide))) (fn_v (d := .lst [.bl true, .bl true, .bl true, .bl true]) rfl rfl) rfl) nil_v)) s)
  · rw [q]
    have s := same_refl 5 (.lst [.bl true, .bl true, .bl true, .bl true, .bl true]) rfl
    exact ret_v (afn_v (cons_v rfl (cons_v (op_v (ofl_v (lst_v (cons_v rfl nil_v) (by show 1 ≤ capD; decide))) (fn_v (d := .lst [.bl true, .bl true, .bl true, .bl true, .bl true]) rfl rfl) rfl) nil_v)) s)
theorem l_tail : Lr4 (LE0 R S n m .no .no .no .no .no .no .no) = .ret (.rt (.bl true)) := by
  obtain ⟨gl, t14, hg, e14⟩ := l_s14 (n := n) h k e (s2 := .val (oD (worstR R S))) (s3 := .val (.lst (GL m R S))) (s4 := .val (.lst (GL m R S))) (s12 := .val (oD (agR R S))) (s13 := .val (oD ((agR R S).map (phi m))))
  exact seq_nx (l_s4 h k e) (seq_nx (l_s5 h k e) (seq_nx (l_s6 h k e) (seq_nx (l_s7 h k e) (seq_nx (l_s8 h k e) (seq_nx (l_s9 h k e) (seq_nx (l_s10 h k e) (seq_nx (l_s11 h k e) (seq_nx (l_s12 h k e) (seq_nx (l_s13 h k e) (seq_nx e14 (l_s15 h k e hg)))))))))))
end
end LW
end

section
set_option maxRecDepth 100000
set_option maxHeartbeats 1000000
/-! NL: k96: all ways of the law say True. -/
namespace DL
open PySem
section
variable {a b : Env → T Out} {f g : Env → T D} {r aa : Env → T (List D)} {ρ : Env} {n : Nat}
theorem ok_cons {R : List D → Nat → Prop} (h : (f ρ).ok n fun x k => (r ρ).ok k fun xs k' => R (x :: xs) k') : (aCons f r ρ).ok n R := by
  unfold aCons
  exact T.ok_bind.mpr (T.ok_mono h fun x k z => T.ok_bind.mpr (T.ok_mono z fun xs k' z => z))
theorem ok_nil {R : List D → Nat → Prop} (h : R [] n) : (aNil ρ).ok n R := h
theorem ok_afn {F : List D → T D} {R : D → Nat → Prop} (h : (aa ρ).ok n fun xs k => (F xs).ok k R) : (aFn F aa ρ).ok n R := by
  unfold aFn
  exact T.ok_bind.mpr h
theorem ok_op {o : D → D → T D} {R : D → Nat → Prop} (h : (f ρ).ok n fun x k => (g ρ).ok k fun y k' => (o x y).ok k' R) : (fOp o f g ρ).ok n R := by
  unfold fOp
  exact T.ok_bind.mpr (T.ok_mono h fun x k z => T.ok_bind.mpr z)
theorem ok_tup {R : D → Nat → Prop} (h : (aa ρ).ok n fun xs k => xs.length ≤ capD ∧ R (.tup xs) k) : (fTup aa ρ).ok n R := by
  unfold fTup
  exact T.ok_bind.mpr (T.ok_mono h fun xs k z => by rw [decide_eq_true z.1]; exact z.2)
theorem ok_lst {R : List D → Nat → Prop} (h : (aa ρ).ok n fun xs k => xs.length ≤ capD ∧ R xs k) : (fLst aa ρ).ok n R := by
  unfold fLst
  exact T.ok_bind.mpr (T.ok_mono h fun xs k z => by rw [decide_eq_true z.1]; exact z.2)
theorem ok_ofl {R : D → Nat → Prop} (h : (aa ρ).ok n fun xs k => R (.lst xs) k) : (fOfL aa ρ).ok n R := by
  unfold fOfL
  exact T.ok_bind.mpr h
theorem ok_val {α : Type} {m : T α} {d : α} {R : α → Nat → Prop} (e : m = .ret d) (h : R d n) : m.ok n R := by rw [e]; exact h
theorem ok_unp {gg : D → Env → T Env} {R : Out → Nat → Prop} (h : (f ρ).ok n fun d k => (gg d ρ).ok k fun ρ' k' => R (.nx ρ') k') : (sUnp f gg ρ).ok n R := by
  unfold sUnp
  exact T.ok_bind.mpr (T.ok_mono h fun x k z => T.ok_bind.mpr z)
theorem ok_set {i : Nat} {R : Out → Nat → Prop} (h : (f ρ).ok n fun d n' => R (.nx (ρ.set i (.val d))) n') : (sSet i f ρ).ok n R := by
  unfold sSet
  exact T.ok_bind.mpr h
theorem ok_par {i j : Nat} {R : Out → Nat → Prop} (h : (f ρ).ok n fun x k => (g ρ).ok k fun y k' => R (.nx ((ρ.set i (.val x)).set j (.val y))) k') : (sParVV i j f g ρ).ok n R := by
  unfold sParVV
  exact T.ok_bind.mpr (T.ok_mono h fun x k z => T.ok_bind.mpr z)
/-- a draw -/
theorem ok_draw {m : Int} {α : Type} {k : Int → T α} {R : α → Nat → Prop} (h1 : 0 < m) (h2 : m < 1073741824) (hn : n < 1125899906842624) (h : ∀ r : Int, 0 ≤ r → r < m → (k r).ok (n + 1) R) : (T.take m k).ok n R := ⟨h1, h2, hn, h⟩
end
end DL
namespace LW
open PySem DL
def rows : Nat → List (List Bool)
  | 0 => [[]]
  | n + 1 => (rows n).flatMap fun r => [true :: r, false :: r]
theorem rows_all : ∀ (n : Nat) (r : List Bool), r.length = n → r ∈ rows n
  | 0, [], _ => .head _
  | n + 1, x :: r, h => by
    unfold rows
    rw [List.mem_flatMap]
    refine ⟨r, rows_all n r (Nat.succ.inj h), ?_⟩
    cases x
    · exact .tail _ (.head _)
    · exact .head _
def rowD (r : List Bool) : D := .tup (r.map hD)
def oneR (r : List Bool) : List Run := r.map fun b => (b, 1)
def RR (r : List Bool) : List Run := joinR (oneR r)
theorem turnsof_eq {r : List Bool} (hl : r.length < 100000) : F_turns_of [rowD r] = .ret (TU (RR r)) := by
  have c : fComp (iSeq (fVar 0)) (gSet 1) fYes (fTup (aCons (fVar 1) (aCons (fC (.int 1)) aNil))) [1] [.val (rowD r), .no] = .ret ((oneR r).map runD) :=
    (comp_m (α := Bool) (h := hD) (k := fun b => runD (b, 1)) (ds := r) (seq_v rfl rfl) hl fun b _ => ⟨_, rfl, run_tup rfl rfl⟩).trans (by unfold oneR; rw [List.map_map]; rfl)
  have p : ∀ q ∈ oneR r, 1 ≤ q.2 := fun q hq => by
    obtain ⟨b, _, rfl⟩ := List.mem_map.mp hq
    exact Int.le_refl 1
  exact run_rt (B := B_turns_of) (ρ := [.val (rowD r), .no]) (ret_v (mkL (cons_v (ofl_v c) nil_v) (by unfold oneR; rw [List.length_map]; exact hl) p))
def rowB (n : Nat) (r : List Bool) : Bool := altB none (RR r) && (RR r).all (fun q => decide (1 ≤ q.2)) && decide ((RR r).length < 900) && decide (sizeR (RR r) = (n : Nat)) && decide ((placeR 0 (RR r)).natAbs < 18446744073709551616) && decide ((placeR 0 (swapR (RR r))).natAbs < 18446744073709551616) && decide ((highR 0 (RR r)).natAbs < 18446744073709551616)
theorem rows_fact : ((List.range 10).all fun n => (rows n).all fun r => rowB n r) = true := by decide +kernel
theorem sml_of {n : Nat} (hn : n < 10) {r : List Bool} (hr : r.length = n) {m : Int} (m1 : 1 ≤ m) (m2 : m ≤ 100000000000999) : Sml m (RR r) ∧ sizeR (RR r) = (n : Nat) := by
  have f := List.all_eq_true.mp (List.all_eq_true.mp rows_fact n (List.mem_range.mpr hn)) r (rows_all n r hr)
  unfold rowB at f
  simp only [Bool.and_eq_true, decide_eq_true_eq, List.all_eq_true] at f
  obtain ⟨⟨⟨⟨⟨⟨f1, f2⟩, f3⟩, f4⟩, f5⟩, f6⟩, f7⟩ := f
  have o8 : Ok8 (RR r) := ⟨f1, f2, by omega⟩
  have s8 := scale8 o8 m1
  have ok : Ok9 (RR r) := ⟨f1, f2, by omega, by omega⟩
  have okm : Ok9 (scaleR m (RR r)) := ⟨s8.alt, s8.pos, s8.len, by
    rw [size_scale, f4]
    have := Int.mul_le_mul_of_nonneg_right (show ((n : Nat) : Int) ≤ 9 by omega) (show 0 ≤ m by omega)
    omega⟩
  exact ⟨⟨ok, okm, f3, by omega, f5, f6, f7, m1, by omega⟩, f4⟩
theorem heirs_ok {n k : Nat} (hn : n < 10) (hk : k + n ≤ 1125899906842624) : (F__law_heirs [.urn, .int (n : Nat)]).ok k fun d k' => k' ≤ k + n ∧ ∃ r, r.length = n ∧ d = rowD r := by
  have r : iRange1 (aCons (fVar 1) aNil) [.val .urn, .val (.int (n : Nat)), .no] = .ret ((List.range n).map fun i => D.int ((i : Nat) : Int)) := range_v (cons_v rfl nil_v) (by omega)
  have c : (fComp (iRange1 (aCons (fVar 1) aNil)) (gSet 2) fYes (aFn F__law_of (aCons (fVar 0) (aCons (fOfL (fLst (aCons (fC (.str (PySem.Str.ofString "a"))) (aCons (fC (.str (PySem.Str.ofString "b"))) aNil)))) aNil))) [2] [.val .urn, .val (.int (n : Nat)), .no]).ok k fun xs k' => k' ≤ k + n ∧ xs.length = n ∧ ∀ x ∈ xs, ∃ b, x = hD b := by
    refine ok_eq (fcomp r (by rw [List.length_map, List.length_range]; show n < 100000; omega) rfl) (T.ok_mono (comp_ok (c := 1) (N := 1125899906842624) (Q := fun x => ∃ b, x = hD b) ?_ (by rw [List.length_map, List.length_range]; omega)) fun xs k' z => ?_)
    · intro d hd q hq
      obtain ⟨i, _, rfl⟩ := List.mem_map.mp hd
      refine ⟨_, rfl, rfl, ?_⟩
      refine ⟨by decide, by decide, by show q < 1125899906842624; omega, fun x x0 x1 => ?_⟩
      have : x = 0 ∨ x = 1 := by
        have x1' : x < 2 := x1
        omega
      rcases this with h | h
      · subst h
        exact ⟨Nat.le_refl _, true, rfl⟩
      · subst h
        exact ⟨Nat.le_refl _, false, rfl⟩
    · obtain ⟨z1, z2, z3⟩ := z
      rw [List.length_map, List.length_range] at z1 z2
      exact ⟨by omega, z2, z3⟩
  have e : F__law_heirs [.urn, .int (n : Nat)] = (fComp (iRange1 (aCons (fVar 1) aNil)) (gSet 2) fYes (aFn F__law_of (aCons (fVar 0) (aCons (fOfL (fLst (aCons (fC (.str (PySem.Str.ofString "a"))) (aCons (fC (.str (PySem.Str.ofString "b"))) aNil)))) aNil))) [2] [.val .urn, .val (.int (n : Nat)), .no]).bind fun xs => T.ret (D.tup xs) := by
    show ((T.bind (T.bind (fComp (iRange1 (aCons (fVar 1) aNil)) (gSet 2) fYes (aFn F__law_of (aCons (fVar 0) (aCons (fOfL (fLst (aCons (fC (.str (PySem.Str.ofString "a"))) (aCons (fC (.str (PySem.Str.ofString "b"))) aNil)))) aNil))) [2] [.val .urn, .val (.int (n : Nat)), .no]) fun ds => T.ret (D.lst ds)) tupOfD).bind fun d => T.ret (Out.rt d)).bind outD = _
    rw [T.bind_assoc, T.bind_assoc, T.bind_assoc]
    rfl
  refine ok_eq e (T.ok_bind.mpr (T.ok_mono c fun xs k' z => ?_))
  obtain ⟨z1, z2, z3⟩ := z
  have w : ∀ xs : List D, (∀ x ∈ xs, ∃ b, x = hD b) → ∃ r : List Bool, xs = r.map hD := by
    intro xs
    induction xs with
    | nil => intro _; exact ⟨[], rfl⟩
    | cons x xs ih =>
      intro q
      obtain ⟨b, rfl⟩ := q x (.head _)
      obtain ⟨r, rfl⟩ := ih fun x hx => q x (.tail _ hx)
      exact ⟨b :: r, rfl⟩
  obtain ⟨r, rfl⟩ := w xs z3
  rw [List.length_map] at z2
  exact ⟨z1, r, z2, rfl⟩
theorem two_ok {n : Nat} (hn : n < 10) {m : Int} {k : Nat} (hk : k + 100 ≤ 1125899906842624) {R : Out → Nat → Prop}
    (q : ∀ (r s : List Bool) (k' : Nat), r.length = n → s.length = n → R (.nx [.no, .val .urn, .no, .no, .no, .no, .val (.int (n : Nat)), .val (.int m), .val (TU (RR r)), .val (TU (RR s)), .no, .no, .no, .no, .no, .no]) k') :
    (Ls2 [.no, .val .urn, .no, .no, .no, .no, .val (.int (n : Nat)), .val (.int m), .no, .no, .no, .no, .no, .no, .no, .no]).ok k R := by
  have ht : ∀ {k : Nat} {R : D → Nat → Prop}, k + 50 ≤ 1125899906842624 → (∀ (r : List Bool) (k' : Nat), r.length = n → k' ≤ k + n → R (TU (RR r)) k') → (aFn F_turns_of (aCons (aFn F__law_heirs (aCons (fVar 1) (aCons (fVar 6) aNil))) aNil) [.no, .val .urn, .no, .no, .no, .no, .val (.int (n : Nat)), .val (.int m), .no, .no, .no, .no, .no, .no, .no, .no]).ok k R := by
    intro k R hk q
    have e : aFn F_turns_of (aCons (aFn F__law_heirs (aCons (fVar 1) (aCons (fVar 6) aNil))) aNil) [.no, .val .urn, .no, .no, .no, .no, .val (.int (n : Nat)), .val (.int m), .no, .no, .no, .no, .no, .no, .no, .no] = (F__law_heirs [.urn, .int (n : Nat)]).bind fun x => F_turns_of [x] := by
      show T.bind (T.bind (F__law_heirs [.urn, .int (n : Nat)]) fun x => (aNil _).bind fun xs => T.ret (x :: xs)) F_turns_of = _
      rw [T.bind_assoc]
      rfl
    refine ok_eq e (T.ok_bind.mpr (T.ok_mono (heirs_ok hn (by omega)) fun d k' z => ?_))
    obtain ⟨z1, r, z2, rfl⟩ := z
    exact ok_eq (turnsof_eq (by omega)) (q r k' z2 z1)
  show ((aFn F_turns_of (aCons (aFn F__law_heirs (aCons (fVar 1) (aCons (fVar 6) aNil))) aNil) [.no, .val .urn, .no, .no, .no, .no, .val (.int (n : Nat)), .val (.int m), .no, .no, .no, .no, .no, .no, .no, .no]).bind fun x => (aFn F_turns_of (aCons (aFn F__law_heirs (aCons (fVar 1) (aCons (fVar 6) aNil))) aNil) [.no, .val .urn, .no, .no, .no, .no, .val (.int (n : Nat)), .val (.int m), .no, .no, .no, .no, .no, .no, .no, .no]).bind fun y => T.ret (Out.nx _)).ok k R
  refine T.ok_bind.mpr (ht (by omega) fun r k' hr hk' => T.ok_bind.mpr (ht (by omega) fun s k'' hs hk'' => ?_))
  exact q r s k'' hr hs
theorem st3 {n m : Int} {R S : List Run} (h : Sml m R) (k : Sml m S) : Ls3 [.no, .val .urn, .no, .no, .no, .no, .val (.int n), .val (.int m), .val (TU R), .val (TU S), .no, .no, .no, .no, .no, .no] = .ret (.nx (LE0 R S n m .no .no .no .no .no .no .no)) :=
  par_v (afn_v (cons_v rfl (cons_v rfl nil_v)) (times_eq h.ok h.okm h.mm)) (afn_v (cons_v rfl (cons_v rfl nil_v)) (times_eq k.ok k.okm k.mm))
theorem rest0 {n m : Int} {R S : List Run} (h : Sml m R) (k : Sml m S) (e : sizeR R = sizeR S) : Lr3 [.no, .val .urn, .no, .no, .no, .no, .val (.int n), .val (.int m), .val (TU R), .val (TU S), .no, .no, .no, .no, .no, .no] = .ret (.rt (.bl true)) :=
  seq_nx (st3 h k) (l_tail h k e)
theorem rest_eq {n : Nat} (hn : n < 10) {m : Int} (m1 : 1 ≤ m) (m2 : m ≤ 100000000000999) {r s : List Bool} (hr : r.length = n) (hs : s.length = n) :
    Lr3 [.no, .val .urn, .no, .no, .no, .no, .val (.int (n : Nat)), .val (.int m), .val (TU (RR r)), .val (TU (RR s)), .no, .no, .no, .no, .no, .no] = .ret (.rt (.bl true)) :=
  rest0 (sml_of hn hr m1 m2).1 (sml_of hn hs m1 m2).1 ((sml_of hn hr m1 m2).2.trans (sml_of hn hs m1 m2).2.symm)
theorem body_ok {n : Nat} (hn : n < 10) {m : Int} (m1 : 1 ≤ m) (m2 : m ≤ 100000000000999) {k : Nat} (hk : k + 100 ≤ 1125899906842624) :
    (Lr2 [.no, .val .urn, .no, .no, .no, .no, .val (.int (n : Nat)), .val (.int m), .no, .no, .no, .no, .no, .no, .no, .no]).ok k fun o _ => o = .rt (.bl true) :=
  ok_seq (two_ok hn hk fun r s k' hr hs => ok_eq (rest_eq hn m1 m2 hr hs) (ok_nx rfl))
theorem pow14 (ρ : DL.Env) : fOp powD (fC (.int 10)) (fC (.int 14)) ρ = .ret (.int 100000000000000) := op_v rfl rfl (by
  show (match decide ((0 : Int) ≤ 14 ∧ (14 : Int) ≤ 1000000 ∧ Int.natAbs 10 < 18446744073709551616) with | true => T.ret (D.int ((10 : Int) ^ ((14 : Int).toNat))) | false => .fail) = _
  rw [decide_eq_true (by decide)]
  rfl)
theorem lawof_ok {xs : List D} {n : Nat} {R : D → Nat → Prop} (hl : xs.length = 5) (hn : n < 1125899906842624) (h : ∀ d ∈ xs, R d (n + 1)) : (F__law_of [.urn, .lst xs]).ok n R := by
  match xs, hl with
  | [x0, x1, x2, x3, x4], _ =>
    have e : F__law_of [.urn, .lst [x0, x1, x2, x3, x4]] = T.take 5 fun i => ixD (.lst [x0, x1, x2, x3, x4]) (.int i) := by
      show (T.bind (T.bind (T.take 5 fun r => T.bind (T.ret (D.int r)) fun y => ixD (.lst [x0, x1, x2, x3, x4]) y) fun d => T.ret (Out.rt d)) outD) = _
      rw [T.bind_take, T.bind_take]
      congr 1
      funext i
      rw [T.bind_ret, T.bind_assoc]
      exact T.bind_ret_right _
    rw [e]
    refine ok_draw (by decide) (by decide) hn fun i i0 i1 => ?_
    have c : i = 0 ∨ i = 1 ∨ i = 2 ∨ i = 3 ∨ i = 4 := by omega
    rcases c with q | q | q | q | q <;> subst q
    · exact ok_val (d := x0) rfl (h x0 (.head _))
    · exact ok_val (d := x1) rfl (h x1 (.tail _ (.head _)))
    · exact ok_val (d := x2) rfl (h x2 (.tail _ (.tail _ (.head _))))
    · exact ok_val (d := x3) rfl (h x3 (.tail _ (.tail _ (.tail _ (.head _)))))
    · exact ok_val (d := x4) rfl (h x4 (.tail _ (.tail _ (.tail _ (.tail _ (.head _))))))
theorem head_ok {R : Out → Nat → Prop} (q : ∀ (a : Nat) (m : Int) (k : Nat), a < 10 → 1 ≤ m → m ≤ 100000000000999 → k ≤ 3 → R (.nx [.no, .val .urn, .no, .no, .no, .no, .val (.int (a : Nat)), .val (.int m), .no, .no, .no, .no, .no, .no, .no, .no]) k) :
    (Ls1 [.no, .val .urn, .no, .no, .no, .no, .no, .no, .no, .no, .no, .no, .no, .no, .no, .no]).ok 0 R := by
  refine ok_unp (ok_tup (ok_cons ?_))
  have t1 : aFn F__law_take (aCons (fVar 1) (aCons (fC (.int 10)) aNil)) [.no, .val .urn, .no, .no, .no, .no, .no, .no, .no, .no, .no, .no, .no, .no, .no, .no] = T.take 10 fun r => .ret (.int r) := rfl
  rw [t1]
  refine ok_draw (by decide) (by decide) (by decide) fun a a0 a1 => ok_nx (ok_cons (ok_afn (ok_cons (ok_val rfl (ok_cons (ok_ofl (ok_lst (ok_cons (ok_val rfl (ok_cons (ok_val rfl (ok_cons (ok_val rfl (ok_cons (ok_val rfl (ok_cons (ok_op (ok_val (pow14 _) ?_))))))))))))))))))
  have t2 : aFn F__law_take (aCons (fVar 1) (aCons (fC (.int 1000)) aNil)) [.no, .val .urn, .no, .no, .no, .no, .no, .no, .no, .no, .no, .no, .no, .no, .no, .no] = T.take 1000 fun r => .ret (.int r) := rfl
  rw [t2]
  refine ok_draw (by decide) (by decide) (by decide) fun r r0 r1 => ok_nx (ok_val (d := .int (100000000000000 + r)) rfl (ok_nil ⟨by show 5 ≤ capD; decide, ok_nil (lawof_ok rfl (by decide) fun d hd => ok_nil ⟨by show 2 ≤ capD; decide, ?_⟩)⟩))
  have ea : a = ((a.toNat : Nat) : Int) := (Int.toNat_of_nonneg a0).symm
  have dm : ∃ m : Int, d = .int m ∧ 1 ≤ m ∧ m ≤ 100000000000999 := by
    rcases List.mem_cons.mp hd with z | hd
    · exact ⟨1, z, by decide, by decide⟩
    rcases List.mem_cons.mp hd with z | hd
    · exact ⟨2, z, by decide, by decide⟩
    rcases List.mem_cons.mp hd with z | hd
    · exact ⟨3, z, by decide, by decide⟩
    rcases List.mem_cons.mp hd with z | hd
    · exact ⟨7, z, by decide, by decide⟩
    · exact ⟨_, List.mem_singleton.mp hd, by omega, by omega⟩
  obtain ⟨m, rfl, m1, m2⟩ := dm
  rw [ea]
  exact ok_val rfl (q a.toNat m _ (by omega) m1 m2 (by decide))
theorem says : DL.Says B_law 14 :=
  ok_seq (head_ok fun a m k ha m1 m2 hk => body_ok ha m1 m2 (by omega))
end LW
end

section
set_option maxRecDepth 100000
open PySem PySem.W PyProof.Rows
set_option maxHeartbeats 0 in
theorem PySem.Challenge.cw_heirturns_k96_whole_each_turn_so_many_ti_holds : PySem.Challenge.rw_heirturns_k96_whole_each_turn_so_many_ti.Holds := by
  w_on; o_law; k_head; (case hw => w_witness2)
  k_fill
  refine L2.walk_of (l := PySem.Challenge.rw_heirturns_k96_whole_each_turn_so_many_ti) (n := 63) (k := 14) (x := "script") (CX := fun _ => C8.CX0) (sp := fun w => DL.spLaw _) rfl (by decide) rfl ⟨rfl, by decide, by decide⟩ (fun w h Y => PySem.W.kIn_of Y) ?F (fun _ _ a ns hl _ hS => ⟨a, ns, rfl, hS, hl, fun _ => rfl⟩) (fun _ _ _ _ _ h => h)
  case F =>
    intro w mg fa h KX G hmg
    refine' LW.all_mk KX G hmg ?a_Turns ?spg_Turns ?sic_Turns ?spo_Turns ?ssa_Turns ?z_abs ?z_all ?z_bool ?z_enumerate ?z_int ?z_isinstance ?z_len ?z_list ?z_max ?z_min ?z_range ?z_set ?z_sorted ?z_str ?z_sum ?z_tuple ?z_zip ?f1_own_ends ?f2_own_ends ?f3_own_ends ?f4_own_ends ?f5_own_ends ?f1_own_runs ?f2_own_runs ?f3_own_runs ?f4_own_runs ?f5_own_runs ?i1_Turns ?i2_Turns ?i3_Turns ?i4_Turns ?g1_HEIRS_turns ?g2_HEIRS_turns ?a__law_of ?l__law_of ?c__law_of ?k__law_of ?a_tupled ?l_tupled ?c_tupled ?k_tupled ?a_joined_runs ?l_joined_runs ?c_joined_runs ?k_joined_runs ?a_ends_of ?l_ends_of ?c_ends_of ?k_ends_of ?m1_Turns_init ?m2_Turns_init ?m3_Turns_init ?m4_Turns_init ?l_Turns_init ?c_Turns_init ?lT_Turns_init ?a_turns_of ?l_turns_of ?c_turns_of ?k_turns_of ?a__law_heirs ?l__law_heirs ?c__law_heirs ?k__law_heirs ?p1_Turns_runs ?p2_Turns_runs ?p3_Turns_runs ?p4_Turns_runs ?l_Turns_runs ?c_Turns_runs ?a__law_times ?l__law_times ?c__law_times ?k__law_times ?p1_Turns_size ?p2_Turns_size ?p3_Turns_size ?p4_Turns_size ?l_Turns_size ?c_Turns_size ?p1_Turns_ends ?p2_Turns_ends ?p3_Turns_ends ?p4_Turns_ends ?l_Turns_ends ?c_Turns_ends ?a_ahead ?l_ahead ?c_ahead ?k_ahead ?a_lead ?l_lead ?c_lead ?k_lead ?a_swapped ?l_swapped ?c_swapped ?k_swapped ?a_lag ?l_lag ?c_lag ?k_lag ?a_never_behind ?l_never_behind ?c_never_behind ?k_never_behind ?a_most_gain ?l_most_gain ?c_most_gain ?k_most_gain ?a_spread ?l_spread ?c_spread ?k_spread ?p1_Turns_his ?p2_Turns_his ?p3_Turns_his ?p4_Turns_his ?l_Turns_his ?c_Turns_his ?p1_Turns_hers ?p2_Turns_hers ?p3_Turns_hers ?p4_Turns_hers ?l_Turns_hers ?c_Turns_hers ?a__law_same ?l__law_same ?c__law_same ?k__law_same ?a_behind_at ?l_behind_at ?c_behind_at ?k_behind_at ?a_place_sum ?l_place_sum ?c_place_sum ?k_place_sum ?a_place_sums ?l_place_sums ?c_place_sums ?k_place_sums ?a_set_of ?l_set_of ?c_set_of ?k_set_of ?a_begins ?l_begins ?c_begins ?k_begins ?a_place_of ?l_place_of ?c_place_of ?k_place_of ?a_turn_of ?l_turn_of ?c_turn_of ?k_turn_of ?a_his_turn_of ?l_his_turn_of ?c_his_turn_of ?k_his_turn_of ?a_most_apart ?l_most_apart ?c_most_apart ?k_most_apart ?a_height ?l_height ?c_height ?k_height ?a__law_lone ?l__law_lone ?c__law_lone ?k__law_lone ?a_check_size ?l_check_size ?c_check_size ?k_check_size ?a_ways_later ?l_ways_later ?c_ways_later ?k_ways_later ?a_most_worse ?l_most_worse ?c_most_worse ?k_most_worse ?a_corners ?l_corners ?c_corners ?k_corners ?a_is_above ?l_is_above ?c_is_above ?k_is_above ?a_against ?l_against ?c_against ?k_against ?a_never_worse ?l_never_worse ?c_never_worse ?k_never_worse ?a_compare ?l_compare ?c_compare ?k_compare ?a_is_number ?l_is_number ?c_is_number ?k_is_number ?a_is_against ?l_is_against ?c_is_against ?k_is_against ?t1_Turns_eq ?t2_Turns_eq ?t3_Turns_eq ?l_Turns_eq ?c_Turns_eq ?t1_Turns_getitem ?t2_Turns_getitem ?t3_Turns_getitem ?l_Turns_getitem ?c_Turns_getitem ?a_runs_above ?l_runs_above ?c_runs_above ?k_runs_above ?a_below_both ?l_below_both ?c_below_both ?k_below_both ?a_above_both ?l_above_both ?c_above_both ?k_above_both ?a_backwards ?l_backwards ?c_backwards ?k_backwards ?a_granted ?l_granted ?c_granted ?k_granted ?a_fewest_steps ?l_fewest_steps ?c_fewest_steps ?k_fewest_steps ?a_law ?l_law ?c_law ?k_law ?a__law_box ?l__law_box ?c__law_box ?k__law_box ?a__law_cells ?l__law_cells ?c__law_cells ?k__law_cells ?a__law_take ?l__law_take ?c__law_take ?k__law_take LW.says
    (case a_Turns => k_is); (case spg_Turns => k_is); (case sic_Turns => k_is); (case spo_Turns => k_is); (case ssa_Turns => k_is); (case z_abs => k_is); (case z_all => k_is); (case z_bool => k_is); (case z_enumerate => k_is); (case z_int => k_is); (case z_isinstance => k_is); (case z_len => k_is); (case z_list => k_is); (case z_max => k_is); (case z_min => k_is); (case z_range => k_is); (case z_set => k_is); (case z_sorted => k_is); (case z_str => k_is); (case z_sum => k_is); (case z_tuple => k_is); (case z_zip => k_is); (case f1_own_ends => k_is); (case f2_own_ends => k_is); (case f3_own_ends => k_is); (case f4_own_ends => k_is); (case f5_own_ends => k_is); (case f1_own_runs => k_is); (case f2_own_runs => k_is); (case f3_own_runs => k_is); (case f4_own_runs => k_is); (case f5_own_runs => k_is); (case i1_Turns => k_is); (case i2_Turns => k_is); (case i3_Turns => k_is); (case i4_Turns => k_is); (case g1_HEIRS_turns => k_is); (case g2_HEIRS_turns => k_is); (case a__law_of => k_is); (case l__law_of => k_is); (case c__law_of => k_is); (case k__law_of => k_is); (case a_tupled => k_is); (case l_tupled => k_is); (case c_tupled => k_is); (case k_tupled => k_is); (case a_joined_runs => k_is); (case l_joined_runs => k_is); (case c_joined_runs => k_is); (case k_joined_runs => k_is); (case a_ends_of => k_is); (case l_ends_of => k_is); (case c_ends_of => k_is); (case k_ends_of => k_is); (case m1_Turns_init => k_is); (case m2_Turns_init => k_is); (case m3_Turns_init => k_is); (case m4_Turns_init => k_is); (case l_Turns_init => k_is); (case c_Turns_init => k_is); (case lT_Turns_init => k_is); (case a_turns_of => k_is); (case l_turns_of => k_is); (case c_turns_of => k_is); (case k_turns_of => k_is); (case a__law_heirs => k_is); (case l__law_heirs => k_is); (case c__law_heirs => k_is); (case k__law_heirs => k_is); (case p1_Turns_runs => k_is); (case p2_Turns_runs => k_is); (case p3_Turns_runs => k_is); (case p4_Turns_runs => k_is); (case l_Turns_runs => k_is); (case c_Turns_runs => k_is); (case a__law_times => k_is); (case l__law_times => k_is); (case c__law_times => k_is); (case k__law_times => k_is); (case p1_Turns_size => k_is); (case p2_Turns_size => k_is); (case p3_Turns_size => k_is); (case p4_Turns_size => k_is); (case l_Turns_size => k_is); (case c_Turns_size => k_is); (case p1_Turns_ends => k_is); (case p2_Turns_ends => k_is); (case p3_Turns_ends => k_is); (case p4_Turns_ends => k_is); (case l_Turns_ends => k_is); (case c_Turns_ends => k_is); (case a_ahead => k_is); (case l_ahead => k_is); (case c_ahead => k_is); (case k_ahead => k_is); (case a_lead => k_is); (case l_lead => k_is); (case c_lead => k_is); (case k_lead => k_is); (case a_swapped => k_is); (case l_swapped => k_is); (case c_swapped => k_is); (case k_swapped => k_is); (case a_lag => k_is); (case l_lag => k_is); (case c_lag => k_is); (case k_lag => k_is); (case a_never_behind => k_is); (case l_never_behind => k_is); (case c_never_behind => k_is); (case k_never_behind => k_is); (case a_most_gain => k_is); (case l_most_gain => k_is); (case c_most_gain => k_is); (case k_most_gain => k_is); (case a_spread => k_is); (case l_spread => k_is); (case c_spread => k_is); (case k_spread => k_is); (case p1_Turns_his => k_is); (case p2_Turns_his => k_is); (case p3_Turns_his => k_is); (case p4_Turns_his => k_is); (case l_Turns_his => k_is); (case c_Turns_his => k_is); (case p1_Turns_hers => k_is); (case p2_Turns_hers => k_is); (case p3_Turns_hers => k_is); (case p4_Turns_hers => k_is); (case l_Turns_hers => k_is); (case c_Turns_hers => k_is); (case a__law_same => k_is); (case l__law_same => k_is); (case c__law_same => k_is); (case k__law_same => k_is); (case a_behind_at => k_is); (case l_behind_at => k_is); (case c_behind_at => k_is); (case k_behind_at => k_is); (case a_place_sum => k_is); (case l_place_sum => k_is); (case c_place_sum => k_is); (case k_place_sum => k_is); (case a_place_sums => k_is); (case l_place_sums => k_is); (case c_place_sums => k_is); (case k_place_sums => k_is); (case a_set_of => k_is); (case l_set_of => k_is); (case c_set_of => k_is); (case k_set_of => k_is); (case a_begins => k_is); (case l_begins => k_is); (case c_begins => k_is); (case k_begins => k_is); (case a_place_of => k_is); (case l_place_of => k_is); (case c_place_of => k_is); (case k_place_of => k_is); (case a_turn_of => k_is); (case l_turn_of => k_is); (case c_turn_of => k_is); (case k_turn_of => k_is); (case a_his_turn_of => k_is); (case l_his_turn_of => k_is); (case c_his_turn_of => k_is); (case k_his_turn_of => k_is); (case a_most_apart => k_is); (case l_most_apart => k_is); (case c_most_apart => k_is); (case k_most_apart => k_is); (case a_height => k_is); (case l_height => k_is); (case c_height => k_is); (case k_height => k_is); (case a__law_lone => k_is); (case l__law_lone => k_is); (case c__law_lone => k_is); (case k__law_lone => k_is); (case a_check_size => k_is); (case l_check_size => k_is); (case c_check_size => k_is); (case k_check_size => k_is); (case a_ways_later => k_is); (case l_ways_later => k_is); (case c_ways_later => k_is); (case k_ways_later => k_is); (case a_most_worse => k_is); (case l_most_worse => k_is); (case c_most_worse => k_is); (case k_most_worse => k_is); (case a_corners => k_is); (case l_corners => k_is); (case c_corners => k_is); (case k_corners => k_is); (case a_is_above => k_is); (case l_is_above => k_is); (case c_is_above => k_is); (case k_is_above => k_is); (case a_against => k_is); (case l_against => k_is); (case c_against => k_is); (case k_against => k_is); (case a_never_worse => k_is); (case l_never_worse => k_is); (case c_never_worse => k_is); (case k_never_worse => k_is); (case a_compare => k_is); (case l_compare => k_is); (case c_compare => k_is); (case k_compare => k_is); (case a_is_number => k_is); (case l_is_number => k_is); (case c_is_number => k_is); (case k_is_number => k_is); (case a_is_against => k_is); (case l_is_against => k_is); (case c_is_against => k_is); (case k_is_against => k_is); (case t1_Turns_eq => k_is); (case t2_Turns_eq => k_is); (case t3_Turns_eq => k_is); (case l_Turns_eq => k_is); (case c_Turns_eq => k_is); (case t1_Turns_getitem => k_is); (case t2_Turns_getitem => k_is); (case t3_Turns_getitem => k_is); (case l_Turns_getitem => k_is); (case c_Turns_getitem => k_is); (case a_runs_above => k_is); (case l_runs_above => k_is); (case c_runs_above => k_is); (case k_runs_above => k_is); (case a_below_both => k_is); (case l_below_both => k_is); (case c_below_both => k_is); (case k_below_both => k_is); (case a_above_both => k_is); (case l_above_both => k_is); (case c_above_both => k_is); (case k_above_both => k_is); (case a_backwards => k_is); (case l_backwards => k_is); (case c_backwards => k_is); (case k_backwards => k_is); (case a_granted => k_is); (case l_granted => k_is); (case c_granted => k_is); (case k_granted => k_is); (case a_fewest_steps => k_is); (case l_fewest_steps => k_is); (case c_fewest_steps => k_is); (case k_fewest_steps => k_is); (case a_law => k_is); (case l_law => k_is); (case c_law => k_is); (case k_law => k_is); (case a__law_box => k_is); (case l__law_box => k_is); (case c__law_box => k_is); (case k__law_box => k_is); (case a__law_cells => k_is); (case l__law_cells => k_is); (case c__law_cells => k_is); (case k__law_cells => k_is); (case a__law_take => k_is); (case l__law_take => k_is); (case c__law_take => k_is); (case k__law_take => k_is)
end
