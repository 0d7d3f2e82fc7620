import PyProof.Rows.All
import Wide.All
import OpenK.AllK
import Wide.FinOn
import HandS.ForMost
import HandS.Style
import HandS.Star
import HandS.IsInst
import HandS.Wide
import HandS.WideBits
import HandS.RaiseMore
import HandS.TupAny
import HandS.TupLe
import HandS.Codes
import HandS.Walk
import HandS.Conv
import KE.GoesNew
import KE.KTupSum
import HandS.NoneIn
import PySem.Challenge.RW_fourtouch_k63_whole_checked_heaps
set_option Elab.async false
set_option linter.all false
set_option maxRecDepth 100000
set_option maxHeartbeats 4000000
/-! rules that the layer lacks: enumerate of a list or a tuple from a number, zip of a list and a tuple -/
namespace Ft
open PySem PySem.Spec PyProof.Rows L2

/-- what enumerate(.., k0) gives: S tells the items that stand at a -/
def IteX (S : Hp → List V → Prop) (k0 : Int) : It :=
  ⟨fun i H => ∃ (xs : List V) (x : V), S H xs ∧ xs[i]? = some x,
   fun i H v H' => ∃ T x, v = .ref T ∧ H T = none ∧ H' = upd H T (.tup [.int (k0 + (i : Nat)), x]) ∧ ∀ xs, S H xs → xs[i]? = some x,
   fun i H => ∃ xs : List V, S H xs ∧ xs.length = i⟩

/-- one source of enumerate: where its iterator it stands (ItAt), and that it draws the items -/
structure Src (P : Program) (w : World) (K : PySem.W.Frag) (S : Hp → List V → Prop) (it : Addr) (ItAt : Nat → Heap → Prop) : Prop where
  there : ∀ i h, ItAt i h → ∃ o, h.get? it = some o ∧ ∀ v, o.data ≠ .cell v
  keep : ∀ i h h', ItAt i h → (∀ o, h.get? it = some o → h'.get? it = some o) → ItAt i h'
  inj : ∀ (X : Cx) (pins : List (Addr × Obj)) (σ : L2.St) (H : Hp) (s : Shared) (xs ys : List V), X.K = K → Inv X pins σ H s → S H xs → S H ys → xs = ys
  dr : ∀ (X : Cx) (pins : List (Addr × Obj)) (σ : L2.St) (H : Hp) (s : Shared) (xs : List V) (i : Nat), X.prog = P → X.w = w → X.K = K → X.calm = true → Inv X pins σ H s → S H xs → ItAt i s.heap →
    ∃ (its : List Value) (fp : List Addr) (St : Nat → Heap → Prop), Vals xs its ∧ Draws P w X.A.in1 it fp its.length (fun j v => its[j]? = some v) St ∧ St i s.heap ∧ (∀ j h', St j h' → ItAt j h') ∧
      ∀ (e : Addr) (o : Obj), s.heap.get? e = some o → o.cls = .type "enumerate" → e ∉ fp

theorem turn_enumX {P : Program} {w : World} {K : PySem.W.Frag} {S : Hp → List V → Prop} {elts : List Expr} {kk : Nat} {tpos : Pos} {e it : Addr} {ItAt : Nat → Heap → Prop} (k0 : Int) (R : Src P w K S it ItAt) :
    Turn P w K (.Tuple elts kk tpos) (IteX S k0) [e, it] e (fun i h => (∃ old, IsEnum h e it (k0 + ((i : Nat) : Int)) old) ∧ ItAt i h ∧ e ≠ it) where
  mem := by simp
  obj := fun i h st b hb => by
    obtain ⟨⟨old, he⟩, hi, _⟩ := st
    have e' : b = e ∨ b = it := by simpa using hb
    rcases e' with z | z
    · rw [z]; exact ⟨_, he, fun v q => nomatch q⟩
    · rw [z]; exact R.there i h hi
  keep := fun i h h' st k => let ⟨⟨old, he⟩, hi, hne⟩ := st; ⟨⟨old, k e (by simp) _ he⟩, R.keep i h h' hi fun o q => k it (by simp) o q, hne⟩
  item := by
    intro X hP hw hK hc i pins s σ H E I hf st hg
    subst hP hw hK
    obtain ⟨⟨old, he⟩, hit, hne⟩ := st
    obtain ⟨xs, x, hq, hx⟩ := hg
    obtain ⟨its, fp, St, rv, D, hst, hback, hfp⟩ := R.dr X pins σ H s xs i rfl rfl rfl hc I hq hit
    obtain ⟨u, hu, ru⟩ := rv.get hx
    have hel : e < s.heap.objs.size := Heap.lt_size he
    have hil : it < s.heap.objs.size := by obtain ⟨_, q, _⟩ := R.there i _ hit; exact Heap.lt_size q
    have hlt : i < its.length := (List.getElem?_eq_some_iff.mp hu).1
    refine wpAny_pyNext_enum_itemC D he hst hlt hne (hfp e _ he rfl) fun x' h' tk hx' ho hst' hT hsz hk => ?_
    have ex : x' = u := Option.some.inj (hx'.symm.trans hu)
    subst ex
    refine ⟨_, rfl, wpAny_letOwnedTupleGo_enum (s := { s with heap := h', toks := tk + 1 }) ho fun h'' he' sb => ?_⟩
    have hT2 : h''.get? s.heap.objs.size = some { cls := .type "tuple", data := .seq #[.int (k0 + (i : Int)) tk, x'] } := (sb.2 _ (Nat.ne_of_gt hel)).trans hT
    have new : ObjOk X.prog X.w (upd H s.heap.objs.size (.tup [.int (k0 + (i : Nat)), x])) h'' s.heap.objs.size (.tup [.int (k0 + (i : Nat)), x]) :=
      ⟨by show 2 ≤ sizeLine; decide, [.int (k0 + (i : Int)) tk, x'], .cons ⟨_, rfl⟩ (.cons ru .nil), ⟨_, hT2, rfl, _, rfl⟩⟩
    have I1 : Inv X pins σ (upd H s.heap.objs.size (.tup [.int (k0 + (i : Nat)), x])) { s with heap := h'', toks := tk + 1 } :=
      I.turnedNew (ch := [e, it]) (fun b ob hb q => (sb.2 b (fun z => hb (by simp [z]))).trans (hk b ob (fun z => hb (by simp [z])) (fun z => hb (by simp [z])) q)) hf (Nat.le_refl _) new
    refine ⟨.ref s.heap.objs.size, _, I1, rfl, ⟨_, x, rfl, I.hok.fresh (Nat.le_refl _), rfl, fun ys hy => by rw [R.inj X pins σ H s ys xs rfl I hy hq]; exact hx⟩, ⟨⟨x', ?_⟩, R.keep _ _ _ (hback _ _ hst') fun o q => (sb.2 it (Ne.symm hne)).trans q, hne⟩, fun b hb => ?_⟩
    · have e1 : k0 + ((i + 1 : Nat) : Int) = k0 + (i : Int) + 1 := by omega
      rw [e1]; exact he'
    · have hb' : b < s.heap.objs.size := by
        have e' : b = e ∨ b = it := by simpa using hb
        rcases e' with z | z
        · rw [z]; exact hel
        · rw [z]; exact hil
      rw [upd_ne (Nat.ne_of_lt hb')]
      exact (hf b hb).1
  done := by
    intro X hP hw hK hc i pins s σ H E I hf st hg
    subst hP hw hK
    obtain ⟨⟨old, he⟩, hit, hne⟩ := st
    obtain ⟨xs, hq, hx⟩ := hg
    obtain ⟨its, fp, St, rv, D, hst, hback, hfp⟩ := R.dr X pins σ H s xs i rfl rfl rfl hc I hq hit
    obtain ⟨f0, f1, f2, f3, f4, f5⟩ := hf it (by simp)
    have hl := rv.length
    have hi : i = its.length := by omega
    rw [hi] at hst he
    exact wpAny_pyNext_enum_endD D he hst fun h' eb => ⟨rfl, I.turned (t' := s.toks) (fun b o hb q => eb b o hb q) f0 f1 f3 f4 f5⟩
  self := fun A i s Q E st h => let ⟨⟨_, he⟩, _⟩ := st; wpAny_pyIter_enum he h

theorem src_list {P : Program} {w : World} {K : PySem.W.Frag} {a it : Addr} : Src P w K (fun H xs => SqL K H a xs) it (fun i h => h.IsListIter it a i) where
  there := fun i h st => by
    obtain ⟨o, ho, hc, hd⟩ := st
    exact ⟨o, ho, fun v q => by rw [hd] at q; cases q⟩
  keep := fun i h h' st k => st.at fun o q => k o q
  inj := fun X pins σ H s xs ys hK I h1 h2 => by subst hK; exact I.list_inj h1 h2
  dr := by
    intro X pins σ H s xs i hP hw hK hc I hq hit
    subst hP hw hK
    obtain ⟨its, rv, p, hz⟩ := I.list hq
    have hne : a ≠ it := fun e => by
      obtain ⟨o, ho, hcl, hd⟩ := hit
      obtain ⟨o2, ho2, hc2, hd2⟩ := p.isList
      rw [e, ho] at ho2
      cases ho2
      rw [hcl] at hc2
      injection hc2 with z
      exact absurd z (by decide)
    have D := Draws.list (prog := X.prog) (w := X.w) (A := X.A.in1) (I.ok.hd hc) it a hne its.toArray
    refine ⟨its, [it, a], fun i h => h.IsListIter it a i ∧ h.IsList a its.toArray, rv, (show Draws X.prog X.w X.A.in1 it [it, a] its.length (fun j v => its[j]? = some v) (fun i h => h.IsListIter it a i ∧ h.IsList a its.toArray) from by simpa using D), ⟨hit, p.isList⟩, fun j h' st => st.1, fun e o he hcl hm => ?_⟩
    have e' : e = it ∨ e = a := by simpa using hm
    rcases e' with z | z
    · obtain ⟨o1, ho1, hc1, _⟩ := hit
      rw [z, ho1] at he
      cases he
      rw [hc1] at hcl
      injection hcl with z
      exact absurd z (by decide)
    · obtain ⟨o1, ho1, hc1, _⟩ := p.isList
      rw [z, ho1] at he
      cases he
      rw [hc1] at hcl
      injection hcl with z
      exact absurd z (by decide)
theorem src_tup {P : Program} {w : World} {K : PySem.W.Frag} {a it : Addr} : Src P w K (fun H xs => SqT K H a xs) it (fun i h => h.IsTupleIter it a i) where
  there := fun i h st => by
    obtain ⟨o, ho, hc, hd⟩ := st
    exact ⟨o, ho, fun v q => by rw [hd] at q; cases q⟩
  keep := fun i h h' st k => let ⟨o, ho, r⟩ := st; ⟨o, k o ho, r⟩
  inj := fun X pins σ H s xs ys hK I h1 h2 => by subst hK; exact I.tuple_inj h1 h2
  dr := by
    intro X pins σ H s xs i hP hw hK hc I hq hit
    subst hP hw hK
    obtain ⟨its, rv, p, hz⟩ := I.tuple hq
    have p' : s.heap.IsTuple a its.toArray := p
    have hne : a ≠ it := fun e => by
      obtain ⟨o, ho, hcl, hd⟩ := hit
      obtain ⟨o2, ho2, hc2, hd2⟩ := p
      rw [e, ho] at ho2
      cases ho2
      rw [hcl] at hc2
      injection hc2 with z
      exact absurd z (by decide)
    have D := Draws.tuple (prog := X.prog) (w := X.w) (A := X.A.in1) (I.ok.hd hc) it a hne its.toArray
    refine ⟨its, [it, a], fun i h => h.IsTupleIter it a i ∧ h.IsTuple a its.toArray, rv, (show Draws X.prog X.w X.A.in1 it [it, a] its.length (fun j v => its[j]? = some v) (fun i h => h.IsTupleIter it a i ∧ h.IsTuple a its.toArray) from by simpa using D), ⟨hit, p'⟩, fun j h' st => st.1, fun e o he hcl hm => ?_⟩
    have e' : e = it ∨ e = a := by simpa using hm
    rcases e' with z | z
    · obtain ⟨o1, ho1, hc1, _⟩ := hit
      rw [z, ho1] at he
      cases he
      rw [hc1] at hcl
      injection hcl with z
      exact absurd z (by decide)
    · obtain ⟨o1, ho1, hc1, _⟩ := p
      rw [z, ho1] at he
      cases he
      rw [hc1] at hcl
      injection hcl with z
      exact absurd z (by decide)

/-- enumerate(e, k) of a list or a tuple -/
def iEnumX (K : PySem.W.Frag) (ta : TA) : TI := fun σ H R => ta σ H fun vs H1 => ∃ (a : Addr) (xs : List V) (k : Int), vs = [.ref a, .int k] ∧ (-(2 ^ 63) ≤ k ∧ k < 2 ^ 63) ∧
  ((SqL K H1 a xs ∧ R (IteX (fun H ys => SqL K H a ys) k) H1) ∨ (SqT K H1 a xs ∧ R (IteX (fun H ys => SqT K H a ys) k) H1))
theorem pi_enumX {X : Cx} {e e2 : Expr} {ta : TA} {p pos tpos : Pos} {elts : List Expr} {kk : Nat} (hg : Gl X "enumerate") (hm : X.mg "enumerate" = none) (ha : PA X [e, e2] ta)
    (hs : starEach [e, e2] X.env = (false, eval e X.env) :: starEach [e2] X.env := by rfl) (hpl : (backTo pos (starEach [e2] X.env)).any (·.1) = false := by rfl) :
    PI X (.Tuple elts kk tpos) (.Call (.Name "enumerate" p) [e, e2] [] pos) (iEnumX X.K ta) := by
  refine ⟨fun pins s σ H R I h => ?_⟩
  refine Call_ (ld_blt I hg hm boot_enumerate (PyProof.Rows.callWith_type1 (thn (ha.run pos pins s σ H _ I h) fun us s1 ⟨vs, H1, I1, r1, q1⟩ => ?_) hs hpl))
  obtain ⟨a, xs, k, ex, hk2, q1⟩ := q1
  subst ex
  cases r1 with
  | cons r rr =>
    cases rr with
    | cons r' rr =>
      cases rr
      cases r
      obtain ⟨tk, rfl⟩ := r'
      have fresh2 : ∀ c, c ∈ [s1.heap.objs.size + 1, s1.heap.objs.size] → FpOk X pins H1 c := fun c hcm => by
        have e' : c = s1.heap.objs.size + 1 ∨ c = s1.heap.objs.size := by simpa using hcm
        have hle : s1.heap.objs.size ≤ c := by
          rcases e' with z | z
          · rw [z]; exact Nat.le_add_right _ _
          · rw [z]; exact Nat.le_refl _
        exact I1.fpOk hle (I1.hok.fresh hle)
      rcases q1 with ⟨hq, q⟩ | ⟨hq, q⟩
      · obtain ⟨its, rv, p', hz⟩ := I1.list hq
        refine enum_begins (begins_list a its.toArray) p'.isList hk2.1 hk2.2 fun h' he hit hsz hk => wpAny_pyIter_enum he ?_
        have I2 : Inv X pins σ H1 { s1 with heap := h' } := I1.kept (t' := s1.toks) hk
        exact ⟨s1.heap.objs.size + 1, [s1.heap.objs.size + 1, s1.heap.objs.size], _, _, H1, rfl, I2, turn_enumX k src_list, ⟨⟨.none, by simpa using he⟩, ⟨_, hit, rfl, rfl⟩, Nat.succ_ne_self _⟩, fresh2, q⟩
      · obtain ⟨its, rv, p', hz⟩ := I1.tuple hq
        refine enum_begins (begins_tuple a its.toArray) (show s1.heap.IsTuple a its.toArray from p') hk2.1 hk2.2 fun h' he hit hsz hk => wpAny_pyIter_enum he ?_
        have I2 : Inv X pins σ H1 { s1 with heap := h' } := I1.kept (t' := s1.toks) hk
        exact ⟨s1.heap.objs.size + 1, [s1.heap.objs.size + 1, s1.heap.objs.size], _, _, H1, rfl, I2, turn_enumX k src_tup, ⟨⟨.none, by simpa using he⟩, ⟨_, hit, rfl, rfl⟩, Nat.succ_ne_self _⟩, fresh2, q⟩

set_option maxHeartbeats 1000000 in
theorem meets_enum0B {v : Value} {o : Obj} {H : Heap → Prop} (B : Begins v o H) :
    Meets (Builtin.«enumerate.__new__» ⟨[.type "enumerate", v], []⟩) (fun _ R s => H s.heap ∧
      R (.ok (.ret (.ref (s.heap.push o).objs.size))) { s with heap := (s.heap.push o).push { cls := .type "enumerate", data := .fields #[.none, .bool false, .ref s.heap.objs.size, rawInt 0, .none, .none] } }) :=
  .of_wp fun prog w A R s h => by
    obtain ⟨hp, g, d, tk, os⟩ := s; obtain ⟨h1, h⟩ := h
    have hsub := sub_enumerate
    have q1 : ∀ {A' : Around} {E : Value → Shared → Prop} {Q : Value → Shared → Prop}, Q (.ref hp.objs.size) ⟨hp.push o, g, d, tk, os⟩ → wpAny (model prog w) A' (pyIter v) Q E ⟨hp, g, d, tk, os⟩ :=
      fun q => B.iter prog w _ _ ⟨hp, g, d, tk, os⟩ _ h1 q
    wp_walk using q1
    refine wpAny_stack_any fun st => wpAny_pure ?_
    split
    · rename_i c _ _ _ _ _
      cases (c == Value.type "enumerate")
      · wp_walk using q1
        exact ⟨_, rfl, h⟩
      · wp_walk using q1
        exact ⟨_, rfl, h⟩
    · wp_walk using q1
      exact ⟨_, rfl, h⟩
/-- enumerate(v): its two new cells -/
theorem enum0_begins {prog : Program} {w : World} {A : Around} {E : Value → Shared → Prop} {s : Shared} {v : Value} {o : Obj} {H : Heap → Prop} {Q : Value → Shared → Prop} (B : Begins v o H) (h1 : H s.heap)
    (h : ∀ h', IsEnum h' (s.heap.objs.size + 1) s.heap.objs.size 0 .none → h'.get? s.heap.objs.size = some o → h'.objs.size = s.heap.objs.size + 2 →
      (∀ b o, s.heap.get? b = some o → h'.get? b = some o) → Q (.ref (s.heap.objs.size + 1)) { s with heap := h' }) :
    wpAny (model prog w) A (call (.type "enumerate") [v]) Q E s := by
  refine callType_new F.called_enumerate (by decide) (F.typeCall_enumerate_1 _) (F.newCall_enumerate_1 _) (fun obj => F.args_object_init_2 obj _) F.entry_enumerate_new
    (meets_enum0B B) ⟨h1, ?_⟩
  have hz : (s.heap.push o).objs.size = s.heap.objs.size + 1 := Heap.size_push ..
  show _ ∧ _
  rw [hz]
  have he : IsEnum ((s.heap.push o).push { cls := .type "enumerate", data := .fields #[.none, .bool false, .ref s.heap.objs.size, rawInt 0, .none, .none] }) (s.heap.objs.size + 1) s.heap.objs.size 0 .none := by
    have := Heap.get?_push_size (s.heap.push o) (o := { cls := .type "enumerate", data := .fields #[.none, .bool false, .ref s.heap.objs.size, rawInt 0, .none, .none] }) rfl
    rw [hz] at this; exact this
  refine ⟨⟨_, he, rfl⟩, h _ he (Heap.get?_push_of_some _ (Heap.get?_push_size _ B.free)) (by rw [Heap.size_push, hz]) fun b o x => Heap.get?_push_of_some _ (Heap.get?_push_of_some _ x)⟩
/-- enumerate(e) of a tuple -/
def iEnum1 (K : PySem.W.Frag) (ta : TA) : TI := fun σ H R => ta σ H fun vs H1 => ∃ (a : Addr) (xs : List V), vs = [.ref a] ∧ SqT K H1 a xs ∧ R (IteX (fun H ys => SqT K H a ys) 0) H1
theorem pi_enum1 {X : Cx} {e : Expr} {ta : TA} {p pos tpos : Pos} {elts : List Expr} {kk : Nat} (hg : Gl X "enumerate") (hm : X.mg "enumerate" = none) (ha : PA X [e] ta) (hs : starEach [e] X.env = [(false, eval e X.env)] := by rfl) :
    PI X (.Tuple elts kk tpos) (.Call (.Name "enumerate" p) [e] [] pos) (iEnum1 X.K ta) := by
  refine ⟨fun pins s σ H R I h => ?_⟩
  refine Call_ (ld_blt I hg hm boot_enumerate (PyProof.Rows.callWith_type1 (thn (ha.run pos pins s σ H _ I h) fun us s1 ⟨vs, H1, I1, r1, q1⟩ => ?_) hs rfl))
  obtain ⟨a, xs, ex, hq, q⟩ := q1
  subst ex
  cases r1 with
  | cons r rr =>
    cases rr
    cases r
    have fresh2 : ∀ c, c ∈ [s1.heap.objs.size + 1, s1.heap.objs.size] → FpOk X pins H1 c := fun c hcm => by
      have e' : c = s1.heap.objs.size + 1 ∨ c = s1.heap.objs.size := by simpa using hcm
      have hle : s1.heap.objs.size ≤ c := by
        rcases e' with z | z
        · rw [z]; exact Nat.le_add_right _ _
        · rw [z]; exact Nat.le_refl _
      exact I1.fpOk hle (I1.hok.fresh hle)
    obtain ⟨its, rv, p', hz⟩ := I1.tuple hq
    refine enum0_begins (begins_tuple a its.toArray) (show s1.heap.IsTuple a its.toArray from p') fun h' he hit hsz hk => wpAny_pyIter_enum he ?_
    have I2 : Inv X pins σ H1 { s1 with heap := h' } := I1.kept (t' := s1.toks) hk
    exact ⟨s1.heap.objs.size + 1, [s1.heap.objs.size + 1, s1.heap.objs.size], _, _, H1, rfl, I2, turn_enumX 0 src_tup, ⟨⟨.none, by simpa using he⟩, ⟨_, hit, rfl, rfl⟩, Nat.succ_ne_self _⟩, fresh2, q⟩

/-- what zip(xs, ys) gives: a list and a tuple -/
def ItzX (K : PySem.W.Frag) (a b : Addr) : It :=
  ⟨fun i H => ∃ (xs ys : List V) (x y : V), SqL K H a xs ∧ SqT K H b ys ∧ xs[i]? = some x ∧ ys[i]? = some y,
    fun i H v H' => ∃ T x y, v = .ref T ∧ H T = none ∧ H' = upd H T (.tup [x, y]) ∧ (∀ xs, SqL K H a xs → xs[i]? = some x) ∧ ∀ ys, SqT K H b ys → ys[i]? = some y,
    fun i H => ∃ xs ys : List V, SqL K H a xs ∧ SqT K H b ys ∧ i = min xs.length ys.length⟩
theorem turn_zipX {P : Program} {w : World} {K : PySem.W.Frag} {elts : List Expr} {kk : Nat} {tpos : Pos} {a b z TI TO i1 i2 : Addr} (S : ZipSep2 z TI TO i1 i2 [i1, a] [i2, b]) (n1 : a ≠ i1) (n2 : b ≠ i2) :
    Turn P w K (.Tuple elts kk tpos) (ItzX K a b) [z, TI, TO, i1, i2] z (fun i h => IsZip h z TI TO .none ∧ IsTupOf2 h TI (.ref i1) (.ref i2) ∧ (∃ x y, IsTupOf2 h TO x y) ∧ h.IsListIter i1 a i ∧ h.IsTupleIter i2 b i) where
  mem := by simp
  obj := fun i h st c hc => by
    obtain ⟨hz, hTI, ⟨x, y, hTO⟩, ⟨o1, e1, _, d1⟩, ⟨o2, e2, _, d2⟩⟩ := st
    have e' : c = z ∨ c = TI ∨ c = TO ∨ c = i1 ∨ c = i2 := by simpa using hc
    rcases e' with q | q | q | q | q
    · rw [q]; exact ⟨_, hz, fun v q => nomatch q⟩
    · rw [q]; exact ⟨_, hTI, fun v q => nomatch q⟩
    · rw [q]; exact ⟨_, hTO, fun v q => nomatch q⟩
    · rw [q]; exact ⟨o1, e1, fun v q => by rw [d1] at q; cases q⟩
    · rw [q]; exact ⟨o2, e2, fun v q => by rw [d2] at q; cases q⟩
  keep := fun i h h' st k => by
    obtain ⟨hz, hTI, ⟨x, y, hTO⟩, h1, ⟨o2, e2, r2⟩⟩ := st
    exact ⟨k z (by simp) _ hz, k TI (by simp) _ hTI, ⟨x, y, k TO (by simp) _ hTO⟩, h1.at fun o q => k i1 (by simp) o q, ⟨o2, k i2 (by simp) _ e2, r2⟩⟩
  item := by
    intro X hP hw hK hc i pins s σ H E I hf st hg
    subst hP hw hK
    obtain ⟨hz, hTI, ⟨x0, y0, hTO⟩, h1, h2⟩ := st
    obtain ⟨xs, ys, x, y, hqx, hqy, hx, hy⟩ := hg
    obtain ⟨its, rv, p, _⟩ := I.list hqx
    obtain ⟨its2, rv2, p2, _⟩ := I.tuple hqy
    obtain ⟨u, hu, ru⟩ := rv.get hx
    obtain ⟨u2, hu2, ru2⟩ := rv2.get hy
    have D1 := Draws.list (prog := X.prog) (w := X.w) (A := X.A.in1) (I.ok.hd hc) i1 a n1 its.toArray
    have D2 := Draws.tuple (prog := X.prog) (w := X.w) (A := X.A.in1) (I.ok.hd hc) i2 b n2 its2.toArray
    have W := WalksT.zipD2 S D1 D2
    have lt1 : i < its.length := (List.getElem?_eq_some_iff.mp hu).1
    have lt2 : i < its2.length := (List.getElem?_eq_some_iff.mp hu2).1
    have hsz : ∀ c, c ∈ [z, TI, TO, i1, i2] → c < s.heap.objs.size := fun c hcm => by
      have e' : c = z ∨ c = TI ∨ c = TO ∨ c = i1 ∨ c = i2 := by simpa using hcm
      rcases e' with q | q | q | q | q
      · rw [q]; exact Heap.lt_size hz
      · rw [q]; exact Heap.lt_size hTI
      · rw [q]; exact Heap.lt_size hTO
      · rw [q]; obtain ⟨_, e1, _⟩ := h1; exact Heap.lt_size e1
      · rw [q]; obtain ⟨_, e2, _⟩ := h2; exact Heap.lt_size e2
    refine W.item i s _ E (by simp; omega) ⟨hz, hTI, ⟨x0, y0, hTO⟩, ⟨h1, p.isList⟩, ⟨h2, p2⟩⟩ fun T vals h' tk hP hTn hT hm hk => ?_
    obtain ⟨v1, v2, e1, e2, ev⟩ := hP
    have ev1 : v1 = u := Option.some.inj (e1.symm.trans (by simpa using hu))
    have ev2 : v2 = u2 := Option.some.inj (e2.symm.trans (by simpa using hu2))
    subst ev ev1 ev2
    refine ⟨_, rfl, W.go elts kk tpos i T { s with heap := h', toks := tk } _ E hm fun h'' hst hk2 => ?_⟩
    obtain ⟨hz', hTI', hTO', ⟨h1', _⟩, ⟨h2', _⟩⟩ := hst
    have hT2 : IsTup h'' T #[v1, v2] := by
      obtain ⟨o, ho, r⟩ := hT
      exact ⟨o, hk2 T o (W.apart i T h' hm) ho, r⟩
    have new : ObjOk X.prog X.w (upd H T (.tup [x, y])) h'' T (.tup [x, y]) :=
      ⟨by show 2 ≤ sizeLine; decide, [v1, v2], .cons ru (.cons ru2 .nil), hT2⟩
    have I1 : Inv X pins σ (upd H T (.tup [x, y])) { s with heap := h'', toks := tk } :=
      I.turnedNew (ch := [z, TI, TO, i1, i2]) (fun c o hb q => hk2 c o (fun z' => hb (by simp at z' ⊢; rcases z' with q | q | q | q <;> simp [q])) (hk c o (fun z' => hb (by simp at z' ⊢; rcases z' with q | q | q | q <;> simp [q])) q)) hf hTn new
    refine ⟨.ref T, _, I1, rfl, ⟨_, x, y, rfl, I.hok.fresh hTn, rfl, fun l hl => by rw [I.list_inj hl hqx]; exact hx, fun l hl => by rw [I.tuple_inj hl hqy]; exact hy⟩, ⟨hz', hTI', hTO', h1', h2'⟩, fun c hcm => ?_⟩
    rw [upd_ne (Nat.ne_of_lt (Nat.lt_of_lt_of_le (hsz c hcm) hTn))]
    exact (hf c hcm).1
  done := by
    intro X hP hw hK hc i pins s σ H E I hf st hg
    subst hP hw hK
    obtain ⟨hz, hTI, ⟨x0, y0, hTO⟩, h1, h2⟩ := st
    obtain ⟨xs, ys, hqx, hqy, hend⟩ := hg
    obtain ⟨its, rv, p, _⟩ := I.list hqx
    obtain ⟨its2, rv2, p2, _⟩ := I.tuple hqy
    have D1 := Draws.list (prog := X.prog) (w := X.w) (A := X.A.in1) (I.ok.hd hc) i1 a n1 its.toArray
    have D2 := Draws.tuple (prog := X.prog) (w := X.w) (A := X.A.in1) (I.ok.hd hc) i2 b n2 its2.toArray
    have W := WalksT.zipD2 S D1 D2
    have l1 := rv.length
    have l2 := rv2.length
    have ei : i = min its.toArray.size its2.toArray.size := by
      rw [List.size_toArray, List.size_toArray, hend, l1, l2]
    subst ei
    exact W.done s _ E ⟨hz, hTI, ⟨x0, y0, hTO⟩, ⟨h1, p.isList⟩, ⟨h2, p2⟩⟩ fun h' tk hk => ⟨rfl, I.turnedL (t' := tk) (ch := [z, TI, TO, i1, i2]) (fun c o hb q =>
      hk c o (fun z' => hb (by simp at z' ⊢; rcases z' with q | q | q | q <;> simp [q])) q) hf⟩
  self := fun A i s Q E st h => wpAny_pyIter_zip st.1 h

def iZipX (K : PySem.W.Frag) (ta : TA) : TI := fun σ H R => ta σ H fun vs H1 => ∃ a b xs ys, vs = [.ref a, .ref b] ∧ SqL K H1 a xs ∧ SqT K H1 b ys ∧ R (ItzX K a b) H1
theorem pi_zipX {X : Cx} {e e2 : Expr} {ta : TA} {p pos tpos : Pos} {elts : List Expr} {kk : Nat} (hg : Gl X "zip") (hm : X.mg "zip" = none) (ha : PA X [e, e2] ta)
    (hs : starEach [e, e2] X.env = (false, eval e X.env) :: starEach [e2] X.env := by rfl) (hpl : (backTo pos (starEach [e2] X.env)).any (·.1) = false := by rfl) :
    PI X (.Tuple elts kk tpos) (.Call (.Name "zip" p) [e, e2] [] pos) (iZipX X.K ta) := by
  refine ⟨fun pins s σ H R I h => ?_⟩
  refine Call_ (ld_blt I hg hm PyProof.Rows.boot_zip (PyProof.Rows.callWith_type1 (thn (ha.run pos pins s σ H _ I h) fun us s1 ⟨vs, H1, I1, r1, q1⟩ => ?_) hs hpl))
  obtain ⟨a, b, xs, ys, ex, hqx, hqy, q⟩ := q1
  subst ex
  cases r1 with
  | cons r rr =>
    cases rr with
    | cons r' rr =>
      cases rr
      cases r
      cases r'
      obtain ⟨its, rv, p1, _⟩ := I1.list hqx
      obtain ⟨its2, rv2, p2, _⟩ := I1.tuple hqy
      have la : a < s1.heap.objs.size := p1.lt
      have lb : b < s1.heap.objs.size := by obtain ⟨o, ho, _⟩ := p2; exact Heap.lt_size ho
      refine zip_begins2 (begins_list a its.toArray) (begins_tuple b its2.toArray) p1.isList (show s1.heap.IsTuple b its2.toArray from p2) fun h' hz hTI hTO h1 h2 hsz hk => wpAny_pyIter_zip hz ?_
      have I2 : Inv X pins σ H1 { s1 with heap := h' } := I1.kept (t' := s1.toks) hk
      refine ⟨s1.heap.objs.size + 4, [s1.heap.objs.size + 4, s1.heap.objs.size + 2, s1.heap.objs.size + 3, s1.heap.objs.size, s1.heap.objs.size + 1], _, _, H1, rfl, I2, turn_zipX (zip_sep2 (fp1 := [a]) (fp2 := [b]) (by simpa using la) (by simpa using lb)) (Nat.ne_of_lt la) (Nat.ne_of_lt (Nat.lt_succ_of_lt lb)), ⟨hz, hTI, ⟨_, _, hTO⟩, ⟨_, h1, rfl, rfl⟩, ⟨_, h2, rfl, rfl⟩⟩, fun c hcm => ?_, q⟩
      have e' : c = s1.heap.objs.size + 4 ∨ c = s1.heap.objs.size + 2 ∨ c = s1.heap.objs.size + 3 ∨ c = s1.heap.objs.size ∨ c = s1.heap.objs.size + 1 := by simpa using hcm
      have hle : s1.heap.objs.size ≤ c := by
        rcases e' with z | z | z | z | z
        · rw [z]; exact Nat.le_add_right _ _
        · rw [z]; exact Nat.le_add_right _ _
        · rw [z]; exact Nat.le_add_right _ _
        · rw [z]; exact Nat.le_refl _
        · rw [z]; exact Nat.le_add_right _ _
      exact I1.fpOk hle (I1.hok.fresh hle)
end Ft
set_option maxHeartbeats 4000000
/-! what a value is, told by a predicate that stays (Pd); what a reading evaluates to (Er, Et, Ea, Ei) -/
namespace Ft
open PySem L2

theorem same_new {H : Hp} {p : Addr} {o : HO} (h : H p = none) : Same H (upd H p o) := fun a u e => by
  rw [upd_ne (ne_of_none e h)]
  exact e
/-- an object that H does not know may change -/
theorem Same.mut {H H' : Hp} {p : Addr} {o : HO} (e : Same H H') (h : H p = none) : Same H (upd H' p o) := fun a u ha => by
  rw [upd_ne (ne_of_none ha h)]
  exact e a u ha
theorem same_t {K : PySem.W.Frag} {H H' : Hp} {a : Addr} {xs : List V} (e : Same H H') (h : SqT K H a xs) : SqT K H' a xs := by
  rcases h with (h | ⟨o, h⟩) | h
  · exact .inl (.inl (e _ _ h))
  · exact .inl (.inr ⟨o, e _ _ h⟩)
  · exact .inr h
theorem sz_of {n : Nat} (h : n ≤ 100000) : n ≤ sizeLine := Nat.le_trans h (by decide)
theorem sz_lt {n : Nat} (h : n < 100000) : n < sizeLine := Nat.lt_of_lt_of_le h (by decide)

/-- what a value is, in a heap; it stays in a heap that knows more -/
structure Pd where
  p : V → Hp → Prop
  mono : ∀ {v : V} {H H' : Hp}, Same H H' → p v H → p v H'
def PL : List Pd → List V → Hp → Prop
  | [], [], _ => True
  | P :: Ps, v :: vs, H => P.p v H ∧ PL Ps vs H
  | _, _, _ => False
theorem PL.mono {H H' : Hp} (e : Same H H') : ∀ {Ps : List Pd} {vs : List V}, PL Ps vs H → PL Ps vs H'
  | [], [], _ => trivial
  | P :: Ps, v :: vs, h => ⟨P.mono e h.1, PL.mono e h.2⟩
  | [], _ :: _, h => h.elim
  | _ :: _, [], h => h.elim
theorem PL.len {H : Hp} : ∀ {Ps : List Pd} {vs : List V}, PL Ps vs H → vs.length = Ps.length
  | [], [], _ => rfl
  | P :: Ps, v :: vs, h => by rw [List.length_cons, List.length_cons, PL.len h.2]
  | [], _ :: _, h => h.elim
  | _ :: _, [], h => h.elim
theorem PL.get {H : Hp} : ∀ {Ps : List Pd} {vs : List V} {i : Nat} {v : V} {P : Pd}, PL Ps vs H → vs[i]? = some v → Ps[i]? = some P → P.p v H
  | [], [], i, v, P, _, h, _ => by simp at h
  | Q :: Ps, u :: vs, 0, v, P, h, e1, e2 => by
    have a : u = v := Option.some.inj e1
    have b : Q = P := Option.some.inj e2
    rw [← a, ← b]
    exact h.1
  | Q :: Ps, u :: vs, i + 1, v, P, h, e1, e2 => PL.get h.2 (by simpa using e1) (by simpa using e2)
  | [], _ :: _, _, _, _, h, _, _ => h.elim
  | _ :: _, [], _, _, _, h, _, _ => h.elim
theorem PL.app {H : Hp} : ∀ {Ps Qs : List Pd} {vs ws : List V}, PL Ps vs H → PL Qs ws H → PL (Ps ++ Qs) (vs ++ ws) H
  | [], _, [], _, _, h => h
  | P :: Ps, Qs, v :: vs, ws, h, g => ⟨h.1, PL.app h.2 g⟩
  | [], _, _ :: _, _, h, _ => h.elim
  | _ :: _, _, [], _, h, _ => h.elim
theorem PL.take {H : Hp} : ∀ {Ps : List Pd} {vs : List V} (n : Nat), PL Ps vs H → PL (Ps.take n) (vs.take n) H
  | _, _, 0, _ => by rw [List.take_zero, List.take_zero]; trivial
  | [], [], _ + 1, _ => trivial
  | P :: Ps, v :: vs, n + 1, h => ⟨h.1, PL.take n h.2⟩
  | [], _ :: _, _, h => h.elim
  | _ :: _, [], _, h => h.elim
theorem PL.drop {H : Hp} : ∀ {Ps : List Pd} {vs : List V} (n : Nat), PL Ps vs H → PL (Ps.drop n) (vs.drop n) H
  | _, _, 0, h => h
  | [], [], _ + 1, _ => trivial
  | P :: Ps, v :: vs, n + 1, h => PL.drop n h.2
  | [], _ :: _, _, h => h.elim
  | _ :: _, [], _, h => h.elim
theorem PL.snoc {H : Hp} {Ps : List Pd} {vs : List V} {P : Pd} {v : V} (h : PL Ps vs H) (g : P.p v H) : PL (Ps ++ [P]) (vs ++ [v]) H := h.app ⟨g, trivial⟩
theorem PL.rev {H : Hp} : ∀ {Ps : List Pd} {vs : List V}, PL Ps vs H → PL Ps.reverse vs.reverse H
  | [], [], _ => trivial
  | P :: Ps, v :: vs, h => by
    rw [List.reverse_cons, List.reverse_cons]
    exact (PL.rev h.2).snoc h.1
  | [], _ :: _, h => h.elim
  | _ :: _, [], h => h.elim
theorem PL.set {H : Hp} {P : Pd} {v : V} (g : P.p v H) : ∀ {Ps : List Pd} {vs : List V} (n : Nat), PL Ps vs H → PL (Ps.set n P) (vs.set n v) H
  | [], [], _, _ => trivial
  | _ :: _, _ :: _, 0, h => ⟨g, h.2⟩
  | _ :: _, _ :: _, n + 1, h => ⟨h.1, PL.set g n h.2⟩
  | [], _ :: _, _, h => h.elim
  | _ :: _, [], _, h => h.elim
theorem pl1 {H : Hp} {P : Pd} {vs : List V} (h : PL [P] vs H) : ∃ v, vs = [v] ∧ P.p v H := by
  match vs, h with
  | [v], h => exact ⟨v, rfl, h.1⟩
theorem pl2 {H : Hp} {P Q : Pd} {vs : List V} (h : PL [P, Q] vs H) : ∃ v w, vs = [v, w] ∧ P.p v H ∧ Q.p w H := by
  match vs, h with
  | [v, w], h => exact ⟨v, w, rfl, h.1, h.2.1⟩
theorem pl3 {H : Hp} {P Q R : Pd} {vs : List V} (h : PL [P, Q, R] vs H) : ∃ v w x, vs = [v, w, x] ∧ P.p v H ∧ Q.p w H ∧ R.p x H := by
  match vs, h with
  | [v, w, x], h => exact ⟨v, w, x, rfl, h.1, h.2.1, h.2.2.1⟩
theorem pl4 {H : Hp} {P Q R S : Pd} {vs : List V} (h : PL [P, Q, R, S] vs H) : ∃ v w x y, vs = [v, w, x, y] ∧ P.p v H ∧ Q.p w H ∧ R.p x H ∧ S.p y H := by
  match vs, h with
  | [v, w, x, y], h => exact ⟨v, w, x, y, rfl, h.1, h.2.1, h.2.2.1, h.2.2.2.1⟩
/-- the value x -/
def is (x : V) : Pd := ⟨fun v _ => v = x, fun _ h => h⟩
abbrev pint (i : Int) : Pd := is (.int i)
abbrev pstr (s : Str) : Pd := is (.str s)
abbrev pbl (b : Bool) : Pd := is (.bl b)
theorem PL.vals {H : Hp} : ∀ {xs vs : List V}, PL (xs.map is) vs H → vs = xs
  | [], [], _ => rfl
  | x :: xs, v :: vs, h => by
    have e : v = x := h.1
    rw [e, PL.vals h.2]
  | [], _ :: _, h => h.elim
  | _ :: _, [], h => h.elim
theorem PL.ofv {H : Hp} : ∀ (xs : List V), PL (xs.map is) xs H
  | [] => trivial
  | x :: xs => ⟨rfl, PL.ofv xs⟩
theorem PL.valsf {α : Type} {f : α → V} {H : Hp} {as : List α} {vs : List V} (h : PL (as.map fun a => is (f a)) vs H) : vs = as.map f := by
  have e : (as.map fun a => is (f a)) = (as.map f).map is := by rw [List.map_map]; rfl
  rw [e] at h
  exact h.vals
theorem PL.off {α : Type} {f : α → V} {H : Hp} (as : List α) : PL (as.map fun a => is (f a)) (as.map f) H := by
  have e : (as.map fun a => is (f a)) = (as.map f).map is := by rw [List.map_map]; rfl
  rw [e]
  exact PL.ofv _
/-- a list of one's own, a tuple -/
def ll (Ps : List Pd) : Pd := ⟨fun v H => ∃ a xs, v = .ref a ∧ H a = some (.lst xs) ∧ PL Ps xs H, fun e ⟨a, xs, h1, h2, h3⟩ => ⟨a, xs, h1, e _ _ h2, h3.mono e⟩⟩
def tl (K : PySem.W.Frag) (Ps : List Pd) : Pd := ⟨fun v H => ∃ a xs, v = .ref a ∧ SqT K H a xs ∧ PL Ps xs H, fun e ⟨a, xs, h1, h2, h3⟩ => ⟨a, xs, h1, same_t e h2, h3.mono e⟩⟩
/-- what a list's change does not touch -/
def Solid (P : Pd) : Prop := ∀ (v : V) (H : Hp) (l : Addr) (xs ys : List V), H l = some (.lst xs) → P.p v H → P.p v (upd H l (.lst ys))
theorem solid_is {x : V} : Solid (is x) := fun _ _ _ _ _ _ h => h
theorem solidL {H : Hp} {l : Addr} {xs ys : List V} (hl : H l = some (.lst xs)) : ∀ {Ps : List Pd} {vs : List V}, (∀ P ∈ Ps, Solid P) → PL Ps vs H → PL Ps vs (upd H l (.lst ys))
  | [], [], _, _ => trivial
  | P :: Ps, v :: vs, s, h => ⟨s P (List.mem_cons_self ..) _ _ _ _ _ hl h.1, solidL hl (fun P hP => s P (List.mem_cons_of_mem _ hP)) h.2⟩
  | [], _ :: _, _, h => h.elim
  | _ :: _, [], _, h => h.elim
theorem sqT_upd {K : PySem.W.Frag} {H : Hp} {a l : Addr} {xs ys zs : List V} (hl : H l = some (.lst xs)) (h : SqT K H a zs) : SqT K (upd H l (.lst ys)) a zs := by
  rcases h with (h | ⟨o, h⟩) | h
  · exact .inl (.inl (by rw [upd_ne (ne_of h hl (by intro z; cases z))]; exact h))
  · exact .inl (.inr ⟨o, by rw [upd_ne (ne_of h hl (by intro z; cases z))]; exact h⟩)
  · exact .inr h
theorem solid_tl {K : PySem.W.Frag} {Ps : List Pd} (s : ∀ P ∈ Ps, Solid P) : Solid (tl K Ps) := fun v H l xs ys hl ⟨a, zs, h1, h2, h3⟩ => ⟨a, zs, h1, sqT_upd hl h2, solidL hl s h3⟩
theorem solid_map {α : Type} {f : α → Pd} (as : List α) (h : ∀ a, Solid (f a)) : ∀ P ∈ as.map f, Solid P := fun P hP => by
  obtain ⟨a, _, e⟩ := List.mem_map.mp hP
  rw [← e]
  exact h a

/-! ### what a reading evaluates to -/
def Er (te : TE) (σ : L2.St) (H : Hp) (P : Pd) : Prop := ∀ H1, Same H H1 → ∀ Q : VK, (∀ v H2, Same H1 H2 → P.p v H2 → Q v H2) → te σ H1 Q
def Et (tt : TT) (σ : L2.St) (H : Hp) (b : Bool) : Prop := ∀ H1, Same H H1 → ∀ Q : Bool → Hp → Prop, (∀ H2, Same H1 H2 → Q b H2) → tt σ H1 Q
def Ea (ta : TA) (σ : L2.St) (H : Hp) (Ps : List Pd) : Prop := ∀ H1, Same H H1 → ∀ Q : List V → Hp → Prop, (∀ vs H2, Same H1 H2 → PL Ps vs H2 → Q vs H2) → ta σ H1 Q
def Eo (to : TO) (σ : L2.St) (H : Hp) (o : Option Int) : Prop := ∀ H1, Same H H1 → ∀ Q : Option Int → Hp → Prop, (∀ H2, Same H1 H2 → Q o H2) → to σ H1 Q
/-- a walk over as, each described by A -/
def Wk {α : Type} (J : It) (as : List α) (A : α → Pd) (H2 : Hp) : Prop := ∀ H3, Same H2 H3 → (∀ i a, as[i]? = some a → J.go i H3 ∧ ∀ x H4, J.yld i H3 x H4 → Same H3 H4 ∧ (A a).p x H4) ∧ J.stop as.length H3
def Ei {α : Type} (wi : TI) (σ : L2.St) (H : Hp) (as : List α) (A : α → Pd) : Prop := ∀ H1, Same H H1 → ∀ R : It → Hp → Prop, (∀ J H2, Same H1 H2 → Wk J as A H2 → R J H2) → wi σ H1 R
/-- operators and calls by values -/
def RR (r : R2) (H : Hp) (x y : V) (P : Pd) : Prop := ∀ Q : VK, (∀ v H2, Same H H2 → P.p v H2 → Q v H2) → r x y H Q
def RC (r : List V → Hp → VK → Prop) (H : Hp) (vs : List V) (P : Pd) : Prop := ∀ Q : VK, (∀ v H2, Same H H2 → P.p v H2 → Q v H2) → r vs H Q

section
variable {K : PySem.W.Frag} {σ : L2.St} {H H' : Hp} {ta tb te tx : TE} {t u : TT} {x y z v : V} {r : R2} {P P1 P2 : Pd}
theorem Er.mono (h : Er te σ H P) (e : Same H H') : Er te σ H' P := fun H1 a Q q => h H1 (e.trans a) Q q
theorem Et.mono {b : Bool} (h : Et t σ H b) (e : Same H H') : Et t σ H' b := fun H1 a Q q => h H1 (e.trans a) Q q
theorem Ea.mono {ta : TA} {Ps : List Pd} (h : Ea ta σ H Ps) (e : Same H H') : Ea ta σ H' Ps := fun H1 a Q q => h H1 (e.trans a) Q q
theorem Er.to (h : Er te σ H P) (e : P = P1) : Er te σ H P1 := e ▸ h
theorem Er.imp (h : Er te σ H P) (e : ∀ v H', Same H H' → P.p v H' → P1.p v H') : Er te σ H P1 := fun H1 a Q q => h H1 a Q fun v H2 a2 p => q v H2 a2 (e v H2 (a.trans a2) p)
theorem Et.to {b c : Bool} (h : Et t σ H b) (e : b = c) : Et t σ H c := e ▸ h
theorem er_var {i : Nat} (h : σ[i]? = some (some v)) (p : P.p v H) : Er (tVar i) σ H P := fun H1 e _ q => ⟨v, h, q v H1 (Same.refl H1) (P.mono e p)⟩
theorem er_is {i : Nat} (h : σ[i]? = some (some v)) : Er (tVar i) σ H (is v) := fun H1 e _ q => ⟨v, h, q v H1 (Same.refl H1) rfl⟩
theorem er_c : Er (tC v) σ H (is v) := fun H1 _ _ q => q v H1 (Same.refl H1) rfl
/-- a constant that stands in a module's name: what it is, is known -/
theorem er_cP (p : P.p v H) : Er (tC v) σ H P := fun H1 e _ q => q v H1 (Same.refl H1) (P.mono e p)
theorem er_op (ha : Er ta σ H P1) (hb : Er tb σ H P2) (hr : ∀ H1 x y, Same H H1 → P1.p x H1 → P2.p y H1 → RR r H1 x y P) : Er (tOp r ta tb) σ H P := fun H1 e Q q =>
  ha H1 e _ fun x H2 e2 p2 => hb H2 (e.trans e2) _ fun y H3 e3 p3 => hr H3 x y ((e.trans e2).trans e3) (P1.mono e3 p2) p3 Q fun v H4 e4 p4 => q v H4 ((e2.trans e3).trans e4) p4
theorem er_opV (ha : Er ta σ H (is x)) (hb : Er tb σ H (is y)) (hr : ∀ H1, Same H H1 → RR r H1 x y P) : Er (tOp r ta tb) σ H P :=
  er_op ha hb fun H1 a b e ea eb => by
    have e1 : a = x := ea
    have e2 : b = y := eb
    rw [e1, e2]
    exact hr H1 e
theorem er_I0 {g : Int → Int → V} {i j : Int} (ha : Er ta σ H (pint i)) (hb : Er tb σ H (pint j)) : Er (tOp (rI0 g) ta tb) σ H (is (g i j)) := er_opV ha hb fun H1 _ _ q => ⟨i, j, rfl, rfl, q _ H1 (Same.refl H1) rfl⟩
theorem er_I {C : Int → Int → Prop} {g : Int → Int → V} {i j : Int} (ha : Er ta σ H (pint i)) (hb : Er tb σ H (pint j)) (hc : C i j) : Er (tOp (rI C g) ta tb) σ H (is (g i j)) := er_opV ha hb fun H1 _ _ q => ⟨i, j, rfl, rfl, hc, q _ H1 (Same.refl H1) rfl⟩
theorem er_neg {i : Int} (ha : Er ta σ H (pint i)) : Er (tUn (rU fun i => .int (-i)) ta) σ H (pint (-i)) := fun H1 e Q q => ha H1 e _ fun v H2 e2 p2 => ⟨i, p2, q _ H2 e2 rfl⟩
theorem er_eq (ha : Er ta σ H (is x)) (hb : Er tb σ H (is y)) (h : scal x y = true) : Er (tOp rEq ta tb) σ H (pbl (decide (x = y))) := er_opV ha hb fun H1 _ _ q => ⟨h, q _ H1 (Same.refl H1) rfl⟩
theorem er_ne (ha : Er ta σ H (is x)) (hb : Er tb σ H (is y)) (h : scal x y = true) : Er (tOp rNe ta tb) σ H (pbl (!decide (x = y))) := er_opV ha hb fun H1 _ _ q => ⟨h, q _ H1 (Same.refl H1) rfl⟩
theorem er_not {b : Bool} (ha : Er ta σ H (pbl b)) : Er (tNotV ta) σ H (pbl (!b)) := fun H1 e Q q => ha H1 e _ fun v H2 e2 p2 => ⟨b, p2, q _ H2 e2 rfl⟩
theorem er_and {b c : Bool} (ha : Er ta σ H (pbl b)) (hb : b = true → Er tb σ H (pbl c)) (hc : b = false → c = false) : Er (tAndV ta tb) σ H (pbl c) := fun H1 e Q q => ha H1 e _ fun v H2 e2 p2 => ⟨b, p2, by
  cases b with
  | true => exact iteT (hb rfl H2 (e.trans e2) Q fun v H3 e3 p3 => q v H3 (e2.trans e3) p3)
  | false =>
    rw [hc rfl] at q
    exact iteF (q _ H2 e2 rfl)⟩
theorem er_or {b c : Bool} (ha : Er ta σ H (pbl b)) (hb : b = false → Er tb σ H (pbl c)) (hc : b = true → c = true) : Er (tOrV ta tb) σ H (pbl c) := fun H1 e Q q => ha H1 e _ fun v H2 e2 p2 => ⟨b, p2, by
  cases b with
  | false => exact iteF (hb rfl H2 (e.trans e2) Q fun v H3 e3 p3 => q v H3 (e2.trans e3) p3)
  | true =>
    rw [hc rfl] at q
    exact iteT (q _ H2 e2 rfl)⟩
theorem er_if {b : Bool} (ht : Et t σ H b) (h1 : b = true → Er ta σ H P) (h2 : b = false → Er tb σ H P) : Er (tIf t ta tb) σ H P := fun H1 e Q q => ht H1 e _ fun H2 e2 => by
  cases b with
  | true => exact iteT (h1 rfl H2 (e.trans e2) Q fun v H3 e3 p3 => q v H3 (e2.trans e3) p3)
  | false => exact iteF (h2 rfl H2 (e.trans e2) Q fun v H3 e3 p3 => q v H3 (e2.trans e3) p3)
/-- tests -/
theorem et_v {b : Bool} (h : Er te σ H (pbl b)) : Et (tB te) σ H b := fun H1 e Q q => h H1 e _ fun v H2 e2 p2 => ⟨b, p2, q H2 e2⟩
theorem et_t {b : Bool} (h : Er te σ H (pbl b)) : Et (tTest te) σ H b := fun H1 e Q q => h H1 e _ fun v H2 e2 p2 => ⟨b, p2, q H2 e2⟩
theorem et_not {b : Bool} (h : Et t σ H b) : Et (tNot t) σ H (!b) := fun H1 e Q q => h H1 e _ fun H2 e2 => q H2 e2
theorem et_or {b c : Bool} (ha : Et t σ H b) (hb : b = false → Et u σ H c) (hc : b = true → c = true) : Et (tOr t u) σ H c := fun H1 e Q q => ha H1 e _ fun H2 e2 => by
  cases b with
  | false => exact iteF (hb rfl H2 (e.trans e2) Q fun H3 e3 => q H3 (e2.trans e3))
  | true =>
    rw [hc rfl] at q
    exact iteT (q H2 e2)
theorem et_and {b c : Bool} (ha : Et t σ H b) (hb : b = true → Et u σ H c) (hc : b = false → c = false) : Et (tAnd t u) σ H c := fun H1 e Q q => ha H1 e _ fun H2 e2 => by
  cases b with
  | true => exact iteT (hb rfl H2 (e.trans e2) Q fun H3 e3 => q H3 (e2.trans e3))
  | false =>
    rw [hc rfl] at q
    exact iteF (q H2 e2)
/-- arguments -/
theorem ea_nil : Ea tNil σ H [] := fun H1 _ _ q => q [] H1 (Same.refl H1) trivial
theorem ea_cons {tr : TA} {Ps : List Pd} (h : Er te σ H P) (hr : Ea tr σ H Ps) : Ea (tCons te tr) σ H (P :: Ps) := fun H1 e _ q =>
  h H1 e _ fun v H2 e2 p2 => hr H2 (e.trans e2) _ fun vs H3 e3 p3 => q (v :: vs) H3 (e2.trans e3) ⟨P.mono e3 p2, p3⟩
theorem ea_star {tr : TA} {Ps Qs : List Pd} (h : Er te σ H (tl K Qs)) (hr : Ea tr σ H Ps) : Ea (StX.tStar K te tr) σ H (Qs ++ Ps) := fun H1 e _ q =>
  h H1 e _ fun v H2 e2 p2 => by
    obtain ⟨a, xs, h1, h2, h3⟩ := p2
    exact ⟨a, xs, h1, .inl h2, hr H2 (e.trans e2) _ fun vs H3 e3 p3 => q (xs ++ vs) H3 (e2.trans e3) ((h3.mono e3).app p3)⟩
/-- displays -/
theorem er_lst {ta : TA} {Ps : List Pd} (h : Ea ta σ H Ps) (hl : Ps.length ≤ 100000) : Er (tLst ta) σ H (ll Ps) := fun H1 e _ q =>
  h H1 e _ fun vs H2 e2 p2 => ⟨by rw [p2.len]; exact sz_of hl, fun p hp => q _ _ (e2.trans (same_new hp)) ⟨p, vs, rfl, upd_same, p2.mono (same_new hp)⟩⟩
theorem er_tup {ta : TA} {Ps : List Pd} (h : Ea ta σ H Ps) (hl : Ps.length ≤ 100000) : Er (tTup ta) σ H (tl K Ps) := fun H1 e _ q =>
  h H1 e _ fun vs H2 e2 p2 => ⟨by rw [p2.len]; exact sz_of hl, fun p hp => q _ _ (e2.trans (same_new hp)) ⟨p, vs, rfl, .inl (.inl upd_same), p2.mono (same_new hp)⟩⟩
/-- items -/
theorem PL.at {H : Hp} {Ps : List Pd} {vs : List V} {i : Int} {P : Pd} (h : PL Ps vs H) (e : atI Ps i = some P) : ∃ v, atI vs i = some v ∧ P.p v H := by
  unfold atI at e ⊢
  rw [h.len]
  cases hj : ixN Ps.length i with
  | none =>
    rw [hj] at e
    cases e
  | some j =>
    rw [hj] at e
    have e2 : Ps[j]? = some P := e
    have hlt : j < vs.length := by
      rw [h.len]
      exact (List.getElem?_eq_some_iff.mp e2).1
    exact ⟨vs[j], List.getElem?_eq_getElem hlt, h.get (List.getElem?_eq_getElem hlt) e2⟩
theorem er_ixL {Ps : List Pd} {i : Int} (ha : Er ta σ H (ll Ps)) (hb : Er tb σ H (pint i)) (h : atI Ps i = some P) : Er (tOp (rIxL K) ta tb) σ H P := er_op ha hb fun H1 x y _ hx hy Q q => by
  obtain ⟨a, xs, h1, h2, h3⟩ := hx
  obtain ⟨v, h4, h5⟩ := h3.at h
  exact ⟨a, xs, i, v, h1, hy, .inl (.inl h2), h4, q v H1 (Same.refl H1) h5⟩
theorem er_ixT {Ps : List Pd} {i : Int} (ha : Er ta σ H (tl K Ps)) (hb : Er tb σ H (pint i)) (h : atI Ps i = some P) : Er (tOp (rIxT K) ta tb) σ H P := er_op ha hb fun H1 x y _ hx hy Q q => by
  obtain ⟨a, xs, h1, h2, h3⟩ := hx
  obtain ⟨v, h4, h5⟩ := h3.at h
  exact ⟨a, xs, i, v, h1, hy, h2, h4, q v H1 (Same.refl H1) h5⟩
/-- calls of what is built in -/
theorem er_cb {r : List V → Hp → VK → Prop} {ta : TA} {Ps : List Pd} (h : Ea ta σ H Ps) (hr : ∀ H1 vs, Same H H1 → PL Ps vs H1 → RC r H1 vs P) : Er (tCB r ta) σ H P := fun H1 e Q q =>
  h H1 e _ fun vs H2 e2 p2 => hr H2 vs (e.trans e2) p2 Q fun v H3 e3 p3 => q v H3 (e2.trans e3) p3
/-- one argument -/
theorem er_cb1 {r : List V → Hp → VK → Prop} (h : Er te σ H P1) (hr : ∀ H1 v, Same H H1 → P1.p v H1 → RC r H1 [v] P) : Er (tCB r (tCons te tNil)) σ H P := er_cb (ea_cons h ea_nil) fun H1 vs e p => by
  obtain ⟨v, ev, p1⟩ := pl1 p
  subst ev
  exact hr H1 v e p1
theorem er_lenL {Ps : List Pd} (h : Er te σ H (ll Ps)) : Er (tCB (fun xs H Q => ∃ p ys, xs = [.ref p] ∧ (SqL K H p ys ∨ SqT K H p ys) ∧ Q (.int ys.length) H) (tCons te tNil)) σ H (pint (Ps.length : Int)) := er_cb1 h fun H1 v _ p Q q => by
  obtain ⟨a, xs, rfl, h2, h3⟩ := p
  exact ⟨a, xs, rfl, .inl (.inl (.inl h2)), q _ H1 (Same.refl H1) (by show V.int _ = V.int _; rw [h3.len])⟩
theorem er_lenT {Ps : List Pd} (h : Er te σ H (tl K Ps)) : Er (tCB (fun xs H Q => ∃ p ys, xs = [.ref p] ∧ (SqL K H p ys ∨ SqT K H p ys) ∧ Q (.int ys.length) H) (tCons te tNil)) σ H (pint (Ps.length : Int)) := er_cb1 h fun H1 v _ p Q q => by
  obtain ⟨a, xs, rfl, h2, h3⟩ := p
  exact ⟨a, xs, rfl, .inr h2, q _ H1 (Same.refl H1) (by show V.int _ = V.int _; rw [h3.len])⟩
theorem er_tupL {Ps : List Pd} (h : Er te σ H (ll Ps)) : Er (tCB (fun xs H Q => ∃ p ys, xs = [.ref p] ∧ ((SqL K H p ys ∧ ∀ l, H l = none → Q (.ref l) (upd H l (.tup ys))) ∨ (SqT K H p ys ∧ Q (.ref p) H))) (tCons te tNil)) σ H (tl K Ps) := er_cb1 h fun H1 v _ p Q q => by
  obtain ⟨a, xs, rfl, h2, h3⟩ := p
  exact ⟨a, xs, rfl, .inl ⟨.inl (.inl h2), fun l hl => q _ _ (same_new hl) ⟨l, xs, rfl, .inl (.inl upd_same), h3.mono (same_new hl)⟩⟩⟩
theorem er_tupT {Ps : List Pd} (h : Er te σ H (tl K Ps)) : Er (tCB (fun xs H Q => ∃ p ys, xs = [.ref p] ∧ ((SqL K H p ys ∧ ∀ l, H l = none → Q (.ref l) (upd H l (.tup ys))) ∨ (SqT K H p ys ∧ Q (.ref p) H))) (tCons te tNil)) σ H (tl K Ps) := er_cb1 h fun H1 v _ p Q q => by
  obtain ⟨a, xs, rfl, h2, h3⟩ := p
  exact ⟨a, xs, rfl, .inr ⟨h2, q _ H1 (Same.refl H1) ⟨a, xs, rfl, h2, h3⟩⟩⟩
theorem er_list {Ps : List Pd} (h : Er te σ H (ll Ps)) : Er (tCB (fun xs H Q => ∃ p ys, xs = [.ref p] ∧ (SqL K H p ys ∨ SqT K H p ys) ∧ ∀ l, H l = none → Q (.ref l) (upd H l (.lst ys))) (tCons te tNil)) σ H (ll Ps) := er_cb1 h fun H1 v _ p Q q => by
  obtain ⟨a, xs, rfl, h2, h3⟩ := p
  exact ⟨a, xs, rfl, .inl (.inl (.inl h2)), fun l hl => q _ _ (same_new hl) ⟨l, xs, rfl, upd_same, h3.mono (same_new hl)⟩⟩
theorem er_sum {ns : List Int} (h : Er te σ H (ll (ns.map pint))) : Er (tCB (rSum K) (tCons te tNil)) σ H (pint ns.sum) := er_cb1 h fun H1 v _ p Q q => by
  obtain ⟨a, xs, rfl, h2, h3⟩ := p
  have e : xs = ns.map V.int := h3.valsf
  subst e
  exact ⟨a, ns, rfl, .inl (.inl h2), q _ H1 (Same.refl H1) rfl⟩
theorem er_all {bs : List Bool} (h : Er te σ H (ll (bs.map pbl))) : Er (tCB (rAll K) (tCons te tNil)) σ H (pbl (bs.all id)) := er_cb1 h fun H1 v _ p Q q => by
  obtain ⟨a, xs, rfl, h2, h3⟩ := p
  have e : xs = bs.map V.bl := h3.valsf
  subst e
  exact ⟨a, bs, rfl, .inl (.inl h2), q _ H1 (Same.refl H1) rfl⟩

/-! ### walks -/
theorem gmap {α β : Type} {f : α → β} {as : List α} {i : Nat} {a : α} (h : as[i]? = some a) : (as.map f)[i]? = some (f a) := by
  rw [List.getElem?_map, h]
  rfl
theorem ei_list {α : Type} {as : List α} {A : α → Pd} (h : Er te σ H (ll (as.map A))) : Ei (iList K te) σ H as A := fun H1 e R q =>
  h H1 e _ fun v H2 e2 p => by
    obtain ⟨a, xs, rfl, h2, h3⟩ := p
    have hl : xs.length = as.length := by rw [h3.len, List.length_map]
    refine ⟨a, rfl, ⟨xs, .inl (.inl h2)⟩, q _ H2 e2 fun H3 e3 => ⟨fun i b hb => ?_, ⟨xs, .inl (.inl (e3 _ _ h2)), by omega⟩⟩⟩
    have hi : i < xs.length := by
      have := (List.getElem?_eq_some_iff.mp hb).1
      omega
    have hS : SqL K H3 a xs := .inl (.inl (e3 _ _ h2))
    refine ⟨⟨xs, xs[i], hS, List.getElem?_eq_getElem hi⟩, fun x H4 hy => ?_⟩
    obtain ⟨rfl, hy⟩ := hy
    exact ⟨Same.refl _, (h3.mono e3).get (hy xs hS) (gmap hb)⟩
theorem ei_tup {α : Type} {as : List α} {A : α → Pd} (h : Er te σ H (tl K (as.map A))) : Ei (iTup K te) σ H as A := fun H1 e R q =>
  h H1 e _ fun v H2 e2 p => by
    obtain ⟨a, xs, rfl, h2, h3⟩ := p
    have hl : xs.length = as.length := by rw [h3.len, List.length_map]
    refine ⟨a, rfl, ⟨xs, h2⟩, q _ H2 e2 fun H3 e3 => ⟨fun i b hb => ?_, ⟨xs, same_t e3 h2, by omega⟩⟩⟩
    have hi : i < xs.length := by
      have := (List.getElem?_eq_some_iff.mp hb).1
      omega
    have hS : SqT K H3 a xs := same_t e3 h2
    refine ⟨⟨xs, xs[i], hS, List.getElem?_eq_getElem hi⟩, fun x H4 hy => ?_⟩
    obtain ⟨rfl, hy⟩ := hy
    exact ⟨Same.refl _, (h3.mono e3).get (hy xs hS) (gmap hb)⟩
theorem ei_range {n : Int} (h : Er te σ H (pint n)) (h0 : 0 ≤ n) (h1 : n ≤ 100000) : Ei (iRng1 (tCons te tNil)) σ H (List.range n.toNat) (fun i : Nat => pint (i : Int)) := fun H1 e R q =>
  h H1 e _ fun v H2 e2 p => by
    have p' : v = .int n := p
    subst p'
    refine ⟨n, rfl, by omega, by omega, q _ H2 e2 fun H3 e3 => ⟨fun i b hb => ?_, by show n.toNat ≤ _; rw [List.length_range]; exact Nat.le_refl _⟩⟩
    have hi : i < n.toNat := by
      have := (List.getElem?_eq_some_iff.mp hb).1
      rw [List.length_range] at this
      exact this
    have eb : i = b := by
      rw [List.getElem?_range hi] at hb
      exact Option.some.inj hb
    refine ⟨hi, fun x H4 hy => ?_⟩
    obtain ⟨rfl, rfl⟩ := hy
    refine ⟨Same.refl _, ?_⟩
    show V.int _ = V.int _
    rw [← eb, Int.zero_add]
theorem zipIdx_at {α : Type} {as : List α} {i : Nat} {b : α × Nat} (h : as.zipIdx[i]? = some b) : as[i]? = some b.1 ∧ b.2 = i := by
  rw [List.getElem?_zipIdx] at h
  cases e : as[i]? with
  | none =>
    rw [e] at h
    cases h
  | some a =>
    rw [e] at h
    have h2 : (a, 0 + i) = b := Option.some.inj h
    subst h2
    exact ⟨rfl, Nat.zero_add i⟩
/-- what a turn of enumerate gives -/
theorem wk_enum {α : Type} {S : Hp → List V → Prop} {as : List α} {A : α → Pd} {k : Int} {H2 : Hp} {xs : List V} (hS : ∀ H3, Same H2 H3 → S H3 xs) (h3 : PL (as.map A) xs H2) :
    Wk (IteX S k) as.zipIdx (fun b => tl K [pint (k + ((b.2 : Nat) : Int)), A b.1]) H2 := fun H3 e3 => by
  have hl : xs.length = as.length := by rw [h3.len, List.length_map]
  refine ⟨fun i b hb => ?_, ⟨xs, hS H3 e3, by rw [List.length_zipIdx]; exact hl⟩⟩
  obtain ⟨hb1, hb2⟩ := zipIdx_at hb
  have hi : i < xs.length := by
    have := (List.getElem?_eq_some_iff.mp hb1).1
    omega
  refine ⟨⟨xs, xs[i], hS H3 e3, List.getElem?_eq_getElem hi⟩, fun x H4 hy => ?_⟩
  obtain ⟨T, y, rfl, nT, rfl, f⟩ := hy
  refine ⟨same_new nT, T, [.int (k + (i : Nat)), y], rfl, .inl (.inl upd_same), ?_, ?_, trivial⟩
  · show V.int _ = V.int _
    rw [hb2]
  · exact (A b.1).mono (same_new nT) ((h3.mono e3).get (f xs (hS H3 e3)) (gmap hb1))
theorem ei_enumL {α : Type} {as : List α} {A : α → Pd} {k : Int} {ta : TA} (h : Ea ta σ H [ll (as.map A), pint k]) (hk : 0 ≤ k ∧ k ≤ 100000) : Ei (iEnumX K ta) σ H as.zipIdx (fun b => tl K [pint (k + ((b.2 : Nat) : Int)), A b.1]) := fun H1 e R q =>
  h H1 e _ fun vs H2 e2 p => by
    obtain ⟨v, w, ev, ⟨a, xs, e1, h2, h3⟩, e4⟩ := pl2 p
    have e4' : w = .int k := e4
    subst ev e4' e1
    exact ⟨a, xs, k, rfl, ⟨by omega, by omega⟩, .inl ⟨.inl (.inl h2), q _ H2 e2 (wk_enum (fun H3 e3 => .inl (.inl (e3 _ _ h2))) h3)⟩⟩
theorem ei_enumT {α : Type} {as : List α} {A : α → Pd} {k : Int} {ta : TA} (h : Ea ta σ H [tl K (as.map A), pint k]) (hk : 0 ≤ k ∧ k ≤ 100000) : Ei (iEnumX K ta) σ H as.zipIdx (fun b => tl K [pint (k + ((b.2 : Nat) : Int)), A b.1]) := fun H1 e R q =>
  h H1 e _ fun vs H2 e2 p => by
    obtain ⟨v, w, ev, ⟨a, xs, e1, h2, h3⟩, e4⟩ := pl2 p
    have e4' : w = .int k := e4
    subst ev e4' e1
    exact ⟨a, xs, k, rfl, ⟨by omega, by omega⟩, .inr ⟨h2, q _ H2 e2 (wk_enum (fun H3 e3 => same_t e3 h2) h3)⟩⟩
theorem ei_enum1 {α : Type} {as : List α} {A : α → Pd} (h : Er te σ H (tl K (as.map A))) : Ei (iEnum1 K (tCons te tNil)) σ H as.zipIdx (fun b => tl K [pint (0 + ((b.2 : Nat) : Int)), A b.1]) := fun H1 e R q =>
  h H1 e _ fun v H2 e2 p => by
    obtain ⟨a, xs, rfl, h2, h3⟩ := p
    exact ⟨a, xs, rfl, h2, q _ H2 e2 (wk_enum (fun H3 e3 => same_t e3 h2) h3)⟩
theorem ei_zip {α β : Type} {as : List α} {bs : List β} {A : α → Pd} {B : β → Pd} {ta : TA} (h : Ea ta σ H [ll (as.map A), tl K (bs.map B)]) : Ei (iZipX K ta) σ H (as.zip bs) (fun c => tl K [A c.1, B c.2]) := fun H1 e R q =>
  h H1 e _ fun vs H2 e2 p => by
    · obtain ⟨v, w, ev, ⟨a, xs, e1, h2, h3⟩, ⟨b, ys, e4, g2, g3⟩⟩ := pl2 p
      subst ev e1 e4
      have hl : xs.length = as.length := by rw [h3.len, List.length_map]
      have gl : ys.length = bs.length := by rw [g3.len, List.length_map]
      refine ⟨a, b, xs, ys, rfl, .inl (.inl h2), g2, q _ H2 e2 fun H3 e3 => ?_⟩
      have hS : SqL K H3 a xs := .inl (.inl (e3 _ _ h2))
      have gS : SqT K H3 b ys := same_t e3 g2
      refine ⟨fun i c hc => ?_, ⟨xs, ys, hS, gS, by rw [List.length_zip]; omega⟩⟩
      obtain ⟨c1, c2⟩ := c
      obtain ⟨hc1, hc2⟩ := List.getElem?_zip_eq_some.mp hc
      have hi : i < xs.length := by
        have := (List.getElem?_eq_some_iff.mp hc1).1
        omega
      have gi : i < ys.length := by
        have := (List.getElem?_eq_some_iff.mp hc2).1
        omega
      refine ⟨⟨xs, ys, xs[i], ys[i], hS, gS, List.getElem?_eq_getElem hi, List.getElem?_eq_getElem gi⟩, fun x H4 hy => ?_⟩
      obtain ⟨T, y, z, rfl, nT, rfl, f, g⟩ := hy
      refine ⟨same_new nT, T, [y, z], rfl, .inl (.inl upd_same), ?_, ?_, trivial⟩
      · exact (A c1).mono (same_new nT) ((h3.mono e3).get (f xs hS) (gmap hc1))
      · exact (B c2).mono (same_new nT) ((g3.mono e3).get (g ys gS) (gmap hc2))

/-! ### comprehensions -/
theorem er_lc {α : Type} {as : List α} {A R : α → Pd} {wi : TI} {g : TG} {vs : List Nat} (h : Ei wi σ H as A) (hn : as.length ≤ 40000) (sol : ∀ a ∈ as, Solid (R a))
    (hs : ∀ a x H', a ∈ as → Same H H' → (A a).p x H' → ∀ Post : V → Hp → Prop, (∀ y H4, Same H' H4 → (R a).p y H4 → Post y H4) → g x (wipe σ vs) H' fun σ2 H2 => wipe σ2 vs = wipe σ vs ∧ te σ2 H2 Post) :
    Er (tLc wi g tYes te vs) σ H (ll (as.map R)) := fun H1 e Q q => h H1 e _ fun J H2 e2 wk => by
  intro Dl hD
  refine ⟨fun i m H' => m = as.length - i ∧ i ≤ as.length ∧ Same H2 H' ∧ ∃ acc, H' Dl = some (.lst acc) ∧ PL ((as.take i).map R) acc H', ⟨as.length, rfl, Nat.zero_le _, same_new hD, [], upd_same, by rw [List.take_zero]; trivial⟩, ?_⟩
  rintro i m H' ⟨rfl, hi, e3, acc, ha, hp⟩
  obtain ⟨wk1, wk2⟩ := wk H' e3
  by_cases hlt : i < as.length
  · have hg : as[i]? = some as[i] := List.getElem?_eq_getElem hlt
    obtain ⟨go, yl⟩ := wk1 i _ hg
    refine .inr ⟨go, fun H'' => Same H2 H'' ∧ ∃ acc, H'' Dl = some (.lst acc) ∧ PL ((as.take (i + 1)).map R) acc H'', fun H'' ⟨s1, s2⟩ => ⟨as.length - (i + 1), by omega, rfl, hlt, s1, s2⟩, fun x H4 hy => ?_⟩
    obtain ⟨e4, p4⟩ := yl x H4 hy
    refine hs as[i] x H4 (List.getElem_mem hlt) (((e.trans e2).trans e3).trans e4) p4 _ fun y H5 e5 p5 => ?_
    have ha5 : H5 Dl = some (.lst acc) := e5 _ _ (e4 _ _ ha)
    have hp5 : PL ((as.take i).map R) acc H5 := hp.mono (e4.trans e5)
    have hl : acc.length = i := by
      rw [hp.len, List.length_map, List.length_take]
      omega
    refine ⟨acc, ha5, sz_lt (by omega), Same.mut ((e3.trans e4).trans e5) hD, acc ++ [y], upd_same, ?_⟩
    rw [List.take_add_one, hg, List.map_append]
    exact (solidL ha5 (fun P hP => by
      obtain ⟨a, hm, ea⟩ := List.mem_map.mp hP
      rw [← ea]
      exact sol a (List.mem_of_mem_take hm)) hp5).snoc (sol _ (List.getElem_mem hlt) _ _ _ _ _ ha5 p5)
  · have ei : i = as.length := by omega
    subst ei
    rw [List.take_length] at hp
    exact .inl ⟨wk2, q _ _ (e2.trans e3) ⟨Dl, acc, rfl, ha, hp⟩⟩
/-- to one name -/
theorem er_lcN {α : Type} {as : List α} {A R : α → Pd} {wi : TI} {j : Nat} {vs : List Nat} (h : Ei wi σ H as A) (hn : as.length ≤ 40000) (sol : ∀ a ∈ as, Solid (R a))
    (hs : ∀ a x H', a ∈ as → Same H H' → (A a).p x H' → Er te ((wipe σ vs).set j (some x)) H' (R a)) (hw : ∀ x, wipe ((wipe σ vs).set j (some x)) vs = wipe σ vs := by intro _; rfl) :
    Er (tLc wi (gName j) tYes te vs) σ H (ll (as.map R)) :=
  er_lc h hn sol fun a x H' ha e p Post k => ⟨hw x, hs a x H' ha e p H' (Same.refl _) Post k⟩
/-- to two names -/
theorem er_lcT {α : Type} {as : List α} {A1 A2 R : α → Pd} {wi : TI} {j k : Nat} {vs : List Nat} (h : Ei wi σ H as (fun a => tl K [A1 a, A2 a])) (hn : as.length ≤ 40000) (sol : ∀ a ∈ as, Solid (R a))
    (hs : ∀ a x y H', a ∈ as → Same H H' → (A1 a).p x H' → (A2 a).p y H' → Er te (((wipe σ vs).set j (some x)).set k (some y)) H' (R a))
    (hw : ∀ x y, wipe (((wipe σ vs).set j (some x)).set k (some y)) vs = wipe σ vs := by intro _ _; rfl) :
    Er (tLc wi (gTup K 2 (gCons (gName j) (gCons (gName k) gNil))) tYes te vs) σ H (ll (as.map R)) :=
  er_lc h hn sol fun a x H' ha e p Post kk => by
    obtain ⟨b, xs, e1, h2, h3⟩ := p
    obtain ⟨x, y, ev, p1, p2⟩ := pl2 h3
    subst ev e1
    exact ⟨b, [x, y], rfl, h2, rfl, x, [y], rfl, y, [], rfl, rfl, hw x y, hs a x y H' ha e p1 p2 H' (Same.refl _) Post kk⟩

/-! ### promises -/
def Spf {α : Type} (A : α → List Pd) (Pre : α → Prop) (R : α → Pd) : Sp := fun vs H Q _ => ∃ d, Pre d ∧ PL (A d) vs H ∧ ∀ v H', Same H H' → (R d).p v H' → Q v H'
theorem er_call {α : Type} {A : α → List Pd} {Pre : α → Prop} {R : α → Pd} {ta : TA} {E : XK} (d : α) (h : Ea ta σ H (A d)) (hp : Pre d) : Er (tCall (Spf A Pre R) [] E ta) σ H (R d) := fun H1 e Q q =>
  h H1 e _ fun vs H2 e2 p2 => ⟨d, hp, by rw [List.append_nil]; exact p2, fun v H3 e3 p3 => q v H3 (e2.trans e3) p3⟩
/-- an object of the class C without the name m of its own -/
def ObjM (C : Addr) (m : Str) (P : Pd) : Prop := ∀ v H, P.p v H → ∃ a dx fs, v = .ref a ∧ H a = some (.ins C dx fs) ∧ fs.lookup m = none
theorem er_meth {α : Type} {C : Addr} {m : Str} {A : α → List Pd} {Pre : α → Prop} {R : α → Pd} {ta : TA} {E : XK} (d : α) {Ps : List Pd} (ho : Er te σ H P) (hm : ObjM C m P) (h : Ea ta σ H Ps) (hA : A d = P :: Ps) (hp : Pre d) :
    Er (tMeth C m (Spf A Pre R) [] E te ta) σ H (R d) := fun H1 e Q q =>
  ho H1 e _ fun x H2 e2 p2 => by
    obtain ⟨a, dx, fs, h1, h2, h3⟩ := hm x H2 p2
    refine ⟨a, dx, fs, h1, h2, h3, h H2 (e.trans e2) _ fun vs H3 e3 p3 => ⟨d, hp, ?_, fun v H4 e4 p4 => q v H4 ((e2.trans e3).trans e4) p4⟩⟩
    rw [hA, List.append_nil]
    exact ⟨P.mono e3 p2, p3⟩

/-! ### statements -/
variable {D : Ends} {tu tw : TS} {g : TG}
theorem s_asg {i : Nat} (h : Er te σ H P) (k : ∀ v H1, Same H H1 → P.p v H1 → D.nx (σ.set i (some v)) H1) : tAsg te (gName i) D σ H := h H (Same.refl H) _ fun v H1 e p => k v H1 e p
theorem s_asgG (h : Er te σ H P) (k : ∀ v H1, Same H H1 → P.p v H1 → g v σ H1 D.nx) : tAsg te g D σ H := h H (Same.refl H) _ fun v H1 e p => k v H1 e p
theorem s_ret (h : Er te σ H P) (k : ∀ v H1, Same H H1 → P.p v H1 → D.rt v H1) : tRet te D σ H := h H (Same.refl H) _ fun v H1 e p => k v H1 e p
theorem s_drop (h : Er te σ H P) (k : ∀ H1, Same H H1 → D.nx σ H1) : tDrop te D σ H := h H (Same.refl H) _ fun v H1 e p => k H1 e
theorem s_if {b : Bool} (h : Et t σ H b) (h1 : b = true → ∀ H1, Same H H1 → tu D σ H1) (h2 : b = false → ∀ H1, Same H H1 → tw D σ H1) : tIfS t tu tw D σ H := h H (Same.refl H) _ fun H1 e => by
  cases b with
  | true => exact iteT (h1 rfl H1 e)
  | false => exact iteF (h2 rfl H1 e)
/-- xs.append(e) -/
theorem s_app {l : Addr} {xs : List V} (hl : H l = some (.lst xs)) (ha : Er ta σ H (is (.ref l))) (h : Er te σ H P) (hz : xs.length < 100000) (k : ∀ v H1, Same H H1 → P.p v H1 → D.nx σ (upd H1 l (.lst (xs ++ [v])))) :
    tDrop (tBM K "list" rAppend ta (tCons te tNil)) D σ H := ha H (Same.refl H) _ fun v H1 e1 p1 => by
  have p1' : v = .ref l := p1
  subst p1'
  exact ⟨.inl ⟨rfl, xs, .inl (.inl (e1 l _ hl))⟩, h H1 e1 _ fun w H2 e2 p2 => ⟨l, xs, w, rfl, rfl, e2 l _ (e1 l _ hl), sz_lt hz, k w H2 (e1.trans e2) p2⟩⟩
/-- xs[j] = e -/
theorem s_setL {l : Addr} {xs : List V} {j : Nat} (hl : H l = some (.lst xs)) (h : Er te σ H P) (ho : Er ta σ H (is (.ref l))) (hi : Er tb σ H (pint (j : Int))) (hj : j < xs.length) (k : ∀ v H1, Same H H1 → P.p v H1 → D.nx σ (upd H1 l (.lst (xs.set j v)))) :
    tAsg te (gSub ta tb rSetL) D σ H := h H (Same.refl H) _ fun v H1 e1 p1 => ho H1 e1 _ fun x H2 e2 p2 => hi H2 (e1.trans e2) _ fun y H3 e3 p3 =>
  ⟨l, xs, (j : Int), j, p2, p3, ((e1.trans e2).trans e3) l _ hl, by unfold ixN; rw [if_pos (by omega), if_pos (by omega)]; simp, k v H3 ((e1.trans e2).trans e3) (P.mono (e2.trans e3) p1)⟩
/-- a for that leaves what is known -/
theorem s_for {α : Type} {as : List α} {A : α → Pd} {wi : TI} {tb : TS} (h : Ei wi σ H as A) (Pv : Nat → L2.St → Hp → Prop) (h0 : ∀ H1, Same H H1 → Pv 0 σ H1)
    (hs : ∀ i a x σ' H1 H', as[i]? = some a → Same H H1 → Pv i σ' H1 → Same H1 H' → (A a).p x H' → ∀ N : L2.St → Hp → Prop, (∀ σ2 H2, Same H' H2 → Pv (i + 1) σ2 H2 → N σ2 H2) → g x σ' H' fun σ2 H2 => tb { D with nx := N, ct := N, bk := D.nx } σ2 H2)
    (hd : ∀ σ' H', Same H H' → Pv as.length σ' H' → D.nx σ' H') : tFor wi g tb D σ H := h H (Same.refl H) _ fun J H2 e2 wk => by
  refine ⟨fun i m σ' H' => m = as.length - i ∧ i ≤ as.length ∧ Same H2 H' ∧ Pv i σ' H', ⟨as.length, rfl, Nat.zero_le _, Same.refl _, h0 H2 e2⟩, ?_⟩
  rintro i m σ' H' ⟨rfl, hi, e3, hp⟩
  obtain ⟨wk1, wk2⟩ := wk H' e3
  by_cases hlt : i < as.length
  · have hg : as[i]? = some as[i] := List.getElem?_eq_getElem hlt
    obtain ⟨go, yl⟩ := wk1 i _ hg
    refine .inr ⟨go, fun σ2 H2' => Same H2 H2' ∧ Pv (i + 1) σ2 H2', fun σ2 H2' ⟨s1, s2⟩ => ⟨as.length - (i + 1), by omega, rfl, hlt, s1, s2⟩, fun x H4 hy => ?_⟩
    obtain ⟨e4, p4⟩ := yl x H4 hy
    exact hs i as[i] x σ' H' H4 hg (e2.trans e3) hp e4 p4 _ fun σ2 H5 e5 p5 => ⟨(e3.trans e4).trans e5, p5⟩
  · have ei : i = as.length := by omega
    subst ei
    exact .inl ⟨wk2, hd σ' H' (e2.trans e3) hp⟩
end
end Ft
set_option maxHeartbeats 4000000
/-! sorted and sum of a tuple of ints -/
namespace Ft
open PySem PySem.Spec PyProof.Rows L2
section
variable {prog : Program} {w : World} {A : Around} {E : Value → Shared → Prop} {s : Shared}
theorem collect_tup {l : Addr} {vs : List Value} {Q : List Value → Shared → Prop} (hl : s.heap.IsTuple l vs.toArray)
    (h : Q vs { s with heap := (s.heap.push (seqObj "list" #[] 0)).update s.heap.objs.size (Obj.mapSeq (· ++ vs.toArray)) }) (hsz : vs.length ≤ sizeLine) :
    wpAny (model prog w) A (collect (.ref l)) Q E s := by
  obtain ⟨o, ho, hc, n, hd⟩ := id hl
  unfold collect
  refine wpAny_bind (wpAny_runValue (codeAny_builtin entry_proto_collect' ?_))
  show wpAny _ _ (do again (.builtin "list.__iadd__" ⟨[← newList [], .ref l], []⟩)) _ _ s
  refine wpAny_bind (wpAny_newList (wpAny_pure ⟨Code.quiet_builtin _ (by decide +kernel), codeAny_builtin entry_list_iadd' ?_⟩))
  show wpAny _ _ (Builtin.List.listExtendWith (.ref s.heap.objs.size) (.ref l) (.ref s.heap.objs.size)) _ _ { s with heap := s.heap.push (seqObj "list" #[] 0) }
  unfold Builtin.List.listExtendWith
  have ho' : (s.heap.push (seqObj "list" #[] 0)).get? l = some o := Heap.get?_push_of_some _ ho
  refine wpAny_bind (wpAny_typeOf (T := "tuple") ⟨o, ho', hc⟩ ?_)
  have ht : (Value.type "tuple" == Value.type "tuple") = true := by rfl
  rw [if_pos (by rw [ht]; simp)]
  refine wpAny_bind (listItems_at ho' hd ?_)
  refine wpAny_bind (listItems_at (xs := #[]) (n := 0) (Heap.get?_push_size _ rfl) rfl ?_)
  rw [if_neg (by simp)]
  refine wpAny_bind (listUpdate_at (xs := #[]) (n := 0) (Heap.get?_push_size _ rfl) rfl ?_ (Nat.zero_le _) (by show (#[] ++ vs.toArray).size ≤ sizeLine + 1; simp only [Array.size_append, List.size_toArray, List.length_nil]; omega))
  refine wpAny_pure ?_
  show wpAny (model prog w) A (do
      let o ← load s.heap.objs.size
      match o.data with
      | .seq xs _ => pure xs.toList
      | _ => unsupported "internal:collect") Q E { s with heap := (s.heap.push (seqObj "list" #[] 0)).update s.heap.objs.size (Obj.mapSeq (· ++ vs.toArray)) }
  refine wpAny_bind (wpAny_load (get?_update_seq (Heap.get?_push_size _ rfl) _) ?_)
  show wpAny _ _ (pure ((#[] : Array Value) ++ vs.toArray).toList) Q E _
  rw [show ((#[] : Array Value) ++ vs.toArray).toList = vs by simp]
  exact wpAny_pure h
theorem sorted_tup {l : Addr} {vs : List Value} {ns : List Int} {Q : Value → Shared → Prop} (hl : s.heap.IsTuple l vs.toArray) (hI : IntsAre vs ns) (h64 : vs.length < 64)
    (h : ∀ (out : Array Value) (ns' : List Int), IntsAre out.toList ns' → ns'.Perm ns → ns'.Pairwise (· ≤ ·) → Q (.ref (s.heap.objs.size + 1)) { s with heap := sortedAll s.heap vs out }) :
    wpAny (model prog w) A (call (.builtin "sorted") [.ref l]) Q E s := by
  refine Calls.call_function_entry kind_sorted plain_sorted entry_sorted (args_sorted1 _) ?_
  unfold Builtin.«sorted»
  refine wpAny_bind (m := checkCount "sorted" 1 1 _) (wpAny_pure ?_)
  refine wpAny_bind (collect_tup hl ?_ (Nat.le_trans (Nat.le_of_lt h64) (by decide)))
  refine wpAny_bind (wpAny_newList ?_)
  have hsz : ((s.heap.push (seqObj "list" #[] 0)).update s.heap.objs.size (Obj.mapSeq (· ++ vs.toArray))).objs.size = s.heap.objs.size + 1 := by
    rw [Heap.size_update, size_push']
  have hoL : (((s.heap.push (seqObj "list" #[] 0)).update s.heap.objs.size (Obj.mapSeq (· ++ vs.toArray))).push (seqObj "list" vs.toArray 0)).get? (s.heap.objs.size + 1) = some (seqObj "list" vs.toArray 0) := by
    rw [← hsz]; exact Heap.get?_push_size _ rfl
  show wpAny _ _ _ _ _ { s with heap := ((s.heap.push (seqObj "list" #[] 0)).update s.heap.objs.size (Obj.mapSeq (· ++ vs.toArray))).push (seqObj "list" vs.toArray 0) }
  rw [hsz]
  refine wpAny_bind (wpAny_holding (wpAny_call_entry slot_list_sort ⟨_, hoL, rfl⟩ entry_list_sort (list_sort_tree hoL hI h64 fun out ns' a1 a2 a3 => ⟨_, rfl, ?_⟩) (args_list_sort _)))
  exact wpAny_pure ⟨_, rfl, h out ns' a1 a2 a3⟩
end
section
variable {X : Cx}
/-- sorted of a tuple of ints, sum of one -/
def rSortedT (K : PySem.W.Frag) : List V → Hp → VK → Prop := fun vs H Q => ∃ (a : Addr) (ns : List Int), vs = [V.ref a] ∧ SqT K H a (ns.map V.int) ∧ ns.length < 64 ∧ ∀ (ns' : List Int) (p : Addr), ns'.Perm ns → ns'.Pairwise (· ≤ ·) → H p = none → Q (.ref p) (upd H p (.lst (ns'.map V.int)))
theorem cr_sortedT : CallR X (.builtin "sorted") (rSortedT X.K) := by
  intro pins s σ H vs us Q I r h
  obtain ⟨a, ns, e0, hs, h64, q⟩ := h
  subst e0
  obtain ⟨its, rv, hl, _⟩ := I.tuple hs
  rw [Vals.ref1 r]
  have hi := rv.ints
  refine sorted_tup (show s.heap.IsTuple a its.toArray from hl) hi (by rw [hi.length]; exact h64) fun out ns' h1 h2 h3 => ?_
  obtain ⟨ep, he'⟩ := PyProof.Rows.sortedAll_at s.heap its out
  have hlen : (ns'.map V.int).length ≤ sizeLine := by rw [List.length_map, h2.length_eq]; exact small64 h64
  exact ⟨.ref _, upd H (s.heap.objs.size + 1) (.lst (ns'.map V.int)), I.laid (t' := s.toks) (fun _ _ => PyProof.Rows.sortedAll_old) (Nat.le_succ _) ⟨hlen, out.toList, ep, vals_of_ints h1, he'⟩, rfl, q ns' _ h2 h3 (I.hok.fresh (Nat.le_succ _))⟩
def rSumT (K : PySem.W.Frag) : List V → Hp → VK → Prop := fun vs H Q => ∃ (a : Addr) (ns : List Int), vs = [V.ref a] ∧ SqT K H a (ns.map V.int) ∧ Q (.int ns.sum) H
theorem cr_sumT (hc : X.calm = true) : CallR X (.builtin "sum") (rSumT X.K) := by
  intro pins s σ H vs us Q I r h
  obtain ⟨a, ns, e0, hs, q⟩ := h
  subst e0
  obtain ⟨its, rv, hl, _⟩ := I.tuple hs
  rw [Vals.ref1 r]
  have hi := rv.ints
  obtain ⟨xs, hx⟩ := hi.allInts.items
  have hn : numsOf its.toArray.toList = ns := by rw [show its.toArray.toList = its from rfl, hi.numsOf]
  have hl' : s.heap.IsTuple a its.toArray := hl
  rw [hx] at hl' hn
  rw [nums_intItems] at hn
  refine PySem.W.ktm_sumG (I.ok.hd hc) hl' fun h' tk t' hk => ?_
  rw [preSum_eq, List.take_of_length_le (by simp), hn]
  exact ⟨.int _, H, I.kept hk, ⟨_, rfl⟩, q⟩
end
/-- the one sorted list -/
def srt (ns : List Int) : List Int := ns.mergeSort (fun a b => decide (a ≤ b))
theorem srt_perm (ns : List Int) : (srt ns).Perm ns := List.mergeSort_perm _ _
theorem srt_sorted (ns : List Int) : (srt ns).Pairwise (· ≤ ·) := by
  have h := List.pairwise_mergeSort (le := fun a b : Int => decide (a ≤ b)) (fun a b c h1 h2 => by simp at *; omega) (fun a b => by simp; omega) ns
  refine h.imp fun h => by simpa using h
theorem sorted_one : ∀ {l m : List Int}, l.Perm m → l.Pairwise (· ≤ ·) → m.Pairwise (· ≤ ·) → l = m := fun {l m} h h1 h2 =>
  h.eq_of_pairwise (fun a b _ _ x y => Int.le_antisymm x y) h1 h2
theorem srt_of {ns ns' : List Int} (h : ns'.Perm ns) (h2 : ns'.Pairwise (· ≤ ·)) : ns' = srt ns := sorted_one (h.trans (srt_perm ns).symm) h2 (srt_sorted ns)
section
variable {K : PySem.W.Frag} {σ : L2.St} {H : Hp} {te : TE}
theorem er_sortedT {ns : List Int} (h : Er te σ H (tl K (ns.map pint))) (hl : ns.length < 64) : Er (tCB (rSortedT K) (tCons te tNil)) σ H (ll ((srt ns).map pint)) := er_cb1 h fun H1 v _ p Q q => by
  obtain ⟨a, xs, e0, h2, h3⟩ := p
  have e : xs = ns.map V.int := h3.valsf
  subst e0 e
  exact ⟨a, ns, rfl, h2, hl, fun ns' p p1 p2 hp => q _ _ (same_new hp) ⟨p, _, rfl, upd_same, by rw [srt_of p1 p2]; exact PL.off _⟩⟩
theorem er_sorted {ns : List Int} (h : Er te σ H (ll (ns.map pint))) (hl : ns.length < 64) : Er (tCB (rSorted K) (tCons te tNil)) σ H (ll ((srt ns).map pint)) := er_cb1 h fun H1 v _ p Q q => by
  obtain ⟨a, xs, e0, h2, h3⟩ := p
  have e : xs = ns.map V.int := h3.valsf
  subst e0 e
  exact ⟨a, ns, rfl, .inl (.inl h2), hl, fun ns' p p1 p2 hp => q _ _ (same_new hp) ⟨p, _, rfl, upd_same, by rw [srt_of p1 p2]; exact PL.off _⟩⟩
theorem er_sumT {ns : List Int} (h : Er te σ H (tl K (ns.map pint))) : Er (tCB (rSumT K) (tCons te tNil)) σ H (pint ns.sum) := er_cb1 h fun H1 v _ p Q q => by
  obtain ⟨a, xs, e0, h2, h3⟩ := p
  have e : xs = ns.map V.int := h3.valsf
  subst e0 e
  exact ⟨a, ns, rfl, h2, q _ H1 (Same.refl H1) rfl⟩
end
end Ft
set_option maxHeartbeats 1000000
/-! circles, fours, exchanges: plain mathematics -/
namespace Ft
structure Cir where
  b : Int
  c : Int
  x : Int
  y : Int
def dbl (p q : Cir) : Int := 2 * (p.x * q.x + p.y * q.y) - (p.b * q.c + q.b * p.c)
def isC (p : Cir) : Prop := p.x * p.x + p.y * p.y - p.b * p.c = 1
def outw (p q : Cir) : Prop := p.b + q.b > 0 ∨ (p.b + q.b = 0 ∧ p.c + q.c > 0)
def tch (p q : Cir) : Prop := dbl p q = -2 ∧ outw p q
/-- the same without an order: all doubles, and a sum above 0 -/
structure Gram (p q r s : Cir) : Prop where
  p1 : isC p
  q1 : isC q
  r1 : isC r
  s1 : isC s
  pq : dbl p q = -2
  pr : dbl p r = -2
  ps : dbl p s = -2
  qr : dbl q r = -2
  qs : dbl q s = -2
  rs : dbl r s = -2
  pos : p.b + q.b + r.b + s.b > 0
theorem dbl_comm (p q : Cir) : dbl p q = dbl q p := by
  unfold dbl
  grind
theorem Gram.s12 {p q r s : Cir} (h : Gram p q r s) : Gram q p r s := ⟨h.q1, h.p1, h.r1, h.s1, (dbl_comm _ _).trans h.pq, h.qr, h.qs, h.pr, h.ps, h.rs, by have := h.pos; omega⟩
theorem Gram.s23 {p q r s : Cir} (h : Gram p q r s) : Gram p r q s := ⟨h.p1, h.r1, h.q1, h.s1, h.pr, h.pq, h.ps, (dbl_comm _ _).trans h.qr, h.rs, h.qs, by have := h.pos; omega⟩
theorem Gram.s34 {p q r s : Cir} (h : Gram p q r s) : Gram p q s r := ⟨h.p1, h.q1, h.s1, h.r1, h.pq, h.ps, h.pr, h.qs, h.qr, (dbl_comm _ _).trans h.rs, by have := h.pos; omega⟩
theorem sq_nonneg (x : Int) : 0 ≤ x * x := by
  rcases Int.le_total 0 x with h | h
  · exact Int.mul_nonneg h h
  · have := Int.mul_nonneg (show 0 ≤ -x by omega) (show 0 ≤ -x by omega)
    rwa [Int.neg_mul_neg] at this
theorem sq0 {x y : Int} (h : x * x + y * y = 0) : x = 0 ∧ y = 0 := by
  have h1 := sq_nonneg x
  have h2 := sq_nonneg y
  have h3 : x * x = 0 := by omega
  have h4 : y * y = 0 := by omega
  exact ⟨by rcases Int.mul_eq_zero.mp h3 with e | e <;> exact e, by rcases Int.mul_eq_zero.mp h4 with e | e <;> exact e⟩
/-- two null vectors u, w with double -8: 8 ub wb is a sum of two squares -/
theorem null8 {ub uc ux uy wb wc wx wy : Int} (hu : ux * ux + uy * uy = ub * uc) (hw : wx * wx + wy * wy = wb * wc) (h : 2 * (ux * wx + uy * wy) - (ub * wc + wb * uc) = -8) :
    8 * (ub * wb) = (ub * wx - wb * ux) * (ub * wx - wb * ux) + (ub * wy - wb * uy) * (ub * wy - wb * uy) := by
  grind
theorem Gram.null {p q r s : Cir} (h : Gram p q r s) : (p.x + q.x) * (p.x + q.x) + (p.y + q.y) * (p.y + q.y) = (p.b + q.b) * (p.c + q.c) := by
  have h1 := h.p1
  have h2 := h.q1
  have h3 := h.pq
  unfold isC at h1 h2
  unfold dbl at h3
  grind
theorem Gram.eight {p q r s : Cir} (h : Gram p q r s) : 2 * ((p.x + q.x) * (r.x + s.x) + (p.y + q.y) * (r.y + s.y)) - ((p.b + q.b) * (r.c + s.c) + (r.b + s.b) * (p.c + q.c)) = -8 := by
  have h1 := h.pr
  have h2 := h.ps
  have h3 := h.qr
  have h4 := h.qs
  unfold dbl at h1 h2 h3 h4
  grind
theorem Gram.swap {p q r s : Cir} (h : Gram p q r s) : Gram r s p q := h.s23.s12.s34.s23
theorem Gram.prod {p q r s : Cir} (h : Gram p q r s) : 0 ≤ (p.b + q.b) * (r.b + s.b) := by
  have e := null8 h.null h.swap.null h.eight
  have h1 := sq_nonneg ((p.b + q.b) * (r.x + s.x) - (r.b + s.b) * (p.x + q.x))
  have h2 := sq_nonneg ((p.b + q.b) * (r.y + s.y) - (r.b + s.b) * (p.y + q.y))
  omega
theorem prod_nn {a b : Int} (h : 0 ≤ a * b) (hs : 0 < a + b) : 0 ≤ a := by
  rcases Int.lt_or_le a 0 with h1 | h1
  · have hb : 0 < b := by omega
    have := Int.mul_neg_of_neg_of_pos h1 hb
    omega
  · exact h1
theorem Gram.nn {p q r s : Cir} (h : Gram p q r s) : 0 ≤ p.b + q.b := prod_nn h.prod (by have := h.pos; omega)
theorem Gram.out {p q r s : Cir} (h : Gram p q r s) : outw p q := by
  have h1 := h.nn
  rcases Int.lt_or_eq_of_le h1 with h2 | h2
  · exact .inl (by omega)
  · refine .inr ⟨h2.symm, ?_⟩
    have e := h.null
    have e8 := h.eight
    have hp := h.pos
    rw [← h2, Int.zero_mul] at e
    obtain ⟨e1, e2⟩ := sq0 e
    rw [← h2, e1, e2] at e8
    have hw : 0 < r.b + s.b := by omega
    have e9 : (r.b + s.b) * (p.c + q.c) = 8 := by simp at e8; omega
    rcases Int.lt_or_le 0 (p.c + q.c) with h3 | h3
    · exact h3
    · have := Int.mul_nonpos_of_nonneg_of_nonpos (show 0 ≤ r.b + s.b by omega) h3
      omega
theorem outw_comm {p q : Cir} (h : outw p q) : outw q p := by
  unfold outw at *
  omega
theorem Gram.t {p q r s : Cir} (h : Gram p q r s) : tch q p := ⟨(dbl_comm _ _).trans h.pq, outw_comm h.out⟩
/-- the other circle -/
def oth4 (p q r s : Cir) : Cir := ⟨2 * (q.b + r.b + s.b) - p.b, 2 * (q.c + r.c + s.c) - p.c, 2 * (q.x + r.x + s.x) - p.x, 2 * (q.y + r.y + s.y) - p.y⟩
theorem Gram.exch0 {p q r s : Cir} (h : Gram p q r s) : isC (oth4 p q r s) ∧ dbl (oth4 p q r s) q = -2 ∧ dbl (oth4 p q r s) r = -2 ∧ dbl (oth4 p q r s) s = -2 := by
  have h1 := h.p1
  have h2 := h.q1
  have h3 := h.r1
  have h4 := h.s1
  have h5 := h.pq
  have h6 := h.pr
  have h7 := h.ps
  have h8 := h.qr
  have h9 := h.qs
  have h10 := h.rs
  unfold isC at h1 h2 h3 h4
  unfold dbl at h5 h6 h7 h8 h9 h10
  unfold isC dbl oth4
  refine ⟨?_, ?_, ?_, ?_⟩ <;> grind
/-- three of them are no lines all -/
theorem Gram.nl {p q r s : Cir} (h : Gram p q r s) : 0 < q.b + r.b ∨ 0 < q.b + s.b ∨ 0 < r.b + s.b := by
  have e1 := h.s12.s23.nn
  have e2 := h.s34.s12.s23.nn
  have e3 := h.swap.nn
  rcases Int.lt_or_eq_of_le e1 with a1 | a1
  · exact .inl a1
  rcases Int.lt_or_eq_of_le e2 with a2 | a2
  · exact .inr (.inl a2)
  rcases Int.lt_or_eq_of_le e3 with a3 | a3
  · exact .inr (.inr a3)
  exfalso
  have n1 := h.s12.s23.null
  have n2 := h.s34.s12.s23.null
  have n3 := h.swap.null
  rw [← a1, Int.zero_mul] at n1
  rw [← a2, Int.zero_mul] at n2
  rw [← a3, Int.zero_mul] at n3
  obtain ⟨x1, y1⟩ := sq0 n1
  obtain ⟨x2, y2⟩ := sq0 n2
  obtain ⟨x3, y3⟩ := sq0 n3
  have hq := h.q1
  unfold isC at hq
  have b0 : q.b = 0 := by omega
  have x0 : q.x = 0 := by omega
  have y0 : q.y = 0 := by omega
  rw [b0, x0, y0] at hq
  simp at hq
theorem Gram.exch {p q r s : Cir} (h : Gram p q r s) : Gram (oth4 p q r s) q r s := by
  obtain ⟨h1, h2, h3, h4⟩ := h.exch0
  -- pairs of the new four: a product of two pair sums that stand opposite is never negative
  have key : ∀ {a b c : Cir}, Gram p a b c → (∀ {t : Cir}, t = oth4 p q r s → isC t ∧ dbl t a = -2 ∧ dbl t b = -2 ∧ dbl t c = -2) → 0 ≤ ((oth4 p q r s).b + a.b) * (b.b + c.b) := by
    intro a b c g ht
    obtain ⟨k1, k2, k3, k4⟩ := ht rfl
    have nu : ((oth4 p q r s).x + a.x) * ((oth4 p q r s).x + a.x) + ((oth4 p q r s).y + a.y) * ((oth4 p q r s).y + a.y) = ((oth4 p q r s).b + a.b) * ((oth4 p q r s).c + a.c) := by
      have g2 := g.q1
      unfold isC at k1 g2
      unfold dbl at k2
      grind
    have ei : 2 * (((oth4 p q r s).x + a.x) * (b.x + c.x) + ((oth4 p q r s).y + a.y) * (b.y + c.y)) - (((oth4 p q r s).b + a.b) * (b.c + c.c) + (b.b + c.b) * ((oth4 p q r s).c + a.c)) = -8 := by
      have g8 := g.qr
      have g9 := g.qs
      unfold dbl at k3 k4 g8 g9
      grind
    have e := null8 nu g.swap.null ei
    have h1 := sq_nonneg (((oth4 p q r s).b + a.b) * (b.x + c.x) - (b.b + c.b) * ((oth4 p q r s).x + a.x))
    have h2 := sq_nonneg (((oth4 p q r s).b + a.b) * (b.y + c.y) - (b.b + c.b) * ((oth4 p q r s).y + a.y))
    omega
  have k1 := key h (fun {t} e => by subst e; exact ⟨h1, h2, h3, h4⟩)
  have k2 := key h.s23 (fun {t} e => by subst e; exact ⟨h1, h3, h2, h4⟩)
  have k3 := key h.s34.s23 (fun {t} e => by subst e; exact ⟨h1, h4, h2, h3⟩)
  have e1 := h.s12.s23.nn
  have e2 := h.s34.s12.s23.nn
  have e3 := h.swap.nn
  have fin : ∀ {u v : Int}, 0 ≤ u * v → 0 < v → 0 < u + v := by
    intro u v h hv
    rcases Int.lt_or_le u 0 with h1 | h1
    · have := Int.mul_neg_of_neg_of_pos h1 hv
      omega
    · omega
  refine ⟨h1, h.q1, h.r1, h.s1, h2, h3, h4, h.qr, h.qs, h.rs, ?_⟩
  rcases h.nl with a | a | a
  · have := fin k3 a
    omega
  · have := fin k2 a
    omega
  · have := fin k1 a
    omega
/-- a four -/
def Ok (l : List Cir) : Prop := ∃ p q r s, l = [p, q, r, s] ∧ Gram p q r s
def tot (f : Cir → Int) (l : List Cir) : Int := (l.map f).sum
/-- twice the sum of the others, less the old one -/
def oth (l : List Cir) (o : Cir) : Cir := ⟨2 * (tot (·.b) l - o.b) - o.b, 2 * (tot (·.c) l - o.c) - o.c, 2 * (tot (·.x) l - o.x) - o.x, 2 * (tot (·.y) l - o.y) - o.y⟩
def c0 : Cir := ⟨0, 0, 0, 0⟩
def exch (l : List Cir) (k : Nat) : List Cir := l.set k (oth l (l.getD k c0))
theorem tot4 (f : Cir → Int) (p q r s : Cir) : tot f [p, q, r, s] = f p + f q + f r + f s := by
  unfold tot
  simp
  omega
theorem Cir.ext' {p q : Cir} (h1 : p.b = q.b) (h2 : p.c = q.c) (h3 : p.x = q.x) (h4 : p.y = q.y) : p = q := by
  cases p
  cases q
  cases h1
  cases h2
  cases h3
  cases h4
  rfl
theorem Ok.exch {l : List Cir} (h : Ok l) {k : Nat} (hk : k < 4) : Ok (exch l k) := by
  obtain ⟨p, q, r, s, rfl, g⟩ := h
  have e : ∀ p q r s o : Cir, (∀ f : Cir → Int, tot f [p, q, r, s] = f o + (f (oth4 o q r s) + 0 * f o - f (oth4 o q r s)) + (f p + f q + f r + f s - f o)) → True := fun _ _ _ _ _ _ => trivial
  have o1 : oth [p, q, r, s] p = oth4 p q r s := Cir.ext' (by simp only [oth, oth4, tot4]; omega) (by simp only [oth, oth4, tot4]; omega) (by simp only [oth, oth4, tot4]; omega) (by simp only [oth, oth4, tot4]; omega)
  have o2 : oth [p, q, r, s] q = oth4 q p r s := Cir.ext' (by simp only [oth, oth4, tot4]; omega) (by simp only [oth, oth4, tot4]; omega) (by simp only [oth, oth4, tot4]; omega) (by simp only [oth, oth4, tot4]; omega)
  have o3 : oth [p, q, r, s] r = oth4 r p q s := Cir.ext' (by simp only [oth, oth4, tot4]; omega) (by simp only [oth, oth4, tot4]; omega) (by simp only [oth, oth4, tot4]; omega) (by simp only [oth, oth4, tot4]; omega)
  have o4 : oth [p, q, r, s] s = oth4 s p q r := Cir.ext' (by simp only [oth, oth4, tot4]; omega) (by simp only [oth, oth4, tot4]; omega) (by simp only [oth, oth4, tot4]; omega) (by simp only [oth, oth4, tot4]; omega)
  match k, hk with
  | 0, _ => exact ⟨_, _, _, _, (by show [oth [p, q, r, s] p, q, r, s] = _; rw [o1]), g.exch⟩
  | 1, _ => exact ⟨_, _, _, _, (by show [p, oth [p, q, r, s] q, r, s] = _; rw [o2]), g.s12.exch.s12⟩
  | 2, _ => exact ⟨_, _, _, _, (by show [p, q, oth [p, q, r, s] r, s] = _; rw [o3]), g.s23.s12.exch.s12.s23⟩
  | 3, _ => exact ⟨_, _, _, _, (by show [p, q, r, oth [p, q, r, s] s] = _; rw [o4]), g.s34.s23.s12.exch.s12.s23.s34⟩
theorem Ok.len {l : List Cir} (h : Ok l) : l.length = 4 := by
  obtain ⟨p, q, r, s, rfl, _⟩ := h
  rfl

/-! ### curvatures -/
def cv (l : List Cir) : List Int := l.map (·.b)
def exchC (cs : List Int) (k : Nat) : List Int := cs.set k (2 * cs.sum - 3 * cs.getD k 0)
theorem cv_exch (l : List Cir) (k : Nat) : cv (exch l k) = exchC (cv l) k := by
  unfold cv exch exchC
  rw [List.map_set]
  congr 1
  have e : (l.map (·.b)).getD k 0 = (l.getD k c0).b := by
    rw [List.getD_eq_getElem?_getD, List.getD_eq_getElem?_getD, List.getElem?_map]
    cases l[k]? <;> rfl
  rw [e]
  show 2 * (tot (·.b) l - _) - _ = 2 * (l.map (·.b)).sum - _
  unfold tot
  omega
/-- four numbers of which each two are not below 0 together -/
def Good (cs : List Int) : Prop := ∃ a b c d : Int, cs = [a, b, c, d] ∧ 0 ≤ a + b ∧ 0 ≤ a + c ∧ 0 ≤ a + d ∧ 0 ≤ b + c ∧ 0 ≤ b + d ∧ 0 ≤ c + d
theorem Ok.good {l : List Cir} (h : Ok l) : Good (cv l) := by
  obtain ⟨p, q, r, s, rfl, g⟩ := h
  exact ⟨_, _, _, _, rfl, g.nn, g.s23.nn, g.s34.s23.nn, g.s12.s23.nn, g.s34.s12.s23.nn, g.swap.nn⟩
/-- the place of the greatest one, if it is above the sum of the others -/
def gp (cs : List Int) : Option Nat := cs.findIdx? (fun c => decide (2 * c > cs.sum))
/-- led down: the way and the end -/
inductive Dn : List Int → List Nat → List Int → Prop
  | root {cs} : gp cs = none → Dn cs [] cs
  | step {cs k w r} : gp cs = some k → Dn (exchC cs k) w r → Dn cs (k :: w) r
theorem sum4 (a b c d : Int) : [a, b, c, d].sum = a + b + c + d := by
  simp
  omega
theorem gp4 (a b c d : Int) : gp [a, b, c, d] = if 2 * a > a + b + c + d then some 0 else if 2 * b > a + b + c + d then some 1 else if 2 * c > a + b + c + d then some 2 else if 2 * d > a + b + c + d then some 3 else none := by
  unfold gp
  rw [sum4]
  simp only [List.findIdx?_cons, List.findIdx?_nil, decide_eq_true_eq]
  split
  · rfl
  split
  · rfl
  split
  · rfl
  split
  · rfl
  · rfl
theorem gp_none {a b c d : Int} : gp [a, b, c, d] = none ↔ 2 * a ≤ a + b + c + d ∧ 2 * b ≤ a + b + c + d ∧ 2 * c ≤ a + b + c + d ∧ 2 * d ≤ a + b + c + d := by
  rw [gp4]
  constructor
  · intro h
    split at h
    · cases h
    split at h
    · cases h
    split at h
    · cases h
    split at h
    · cases h
    omega
  · intro h
    rw [if_neg (by omega), if_neg (by omega), if_neg (by omega), if_neg (by omega)]
/-- at most one is above the sum of the others -/
theorem gp_at {cs : List Int} (g : Good cs) {k : Nat} (hk : k < 4) (h : 2 * cs.getD k 0 > cs.sum) : gp cs = some k := by
  obtain ⟨a, b, c, d, rfl, g1, g2, g3, g4, g5, g6⟩ := g
  rw [sum4] at h
  rw [gp4]
  match k, hk with
  | 0, _ =>
    have h' : 2 * a > a + b + c + d := h
    rw [if_pos h']
  | 1, _ =>
    have h' : 2 * b > a + b + c + d := h
    rw [if_neg (by omega), if_pos h']
  | 2, _ =>
    have h' : 2 * c > a + b + c + d := h
    rw [if_neg (by omega), if_neg (by omega), if_pos h']
  | 3, _ =>
    have h' : 2 * d > a + b + c + d := h
    rw [if_neg (by omega), if_neg (by omega), if_neg (by omega), if_pos h']
theorem gp_lt {cs : List Int} (g : Good cs) {k : Nat} (h : gp cs = some k) : k < 4 ∧ 2 * cs.getD k 0 > cs.sum := by
  obtain ⟨a, b, c, d, rfl, g1, g2, g3, g4, g5, g6⟩ := g
  rw [gp4] at h
  rw [sum4]
  split at h
  · cases h
    exact ⟨by omega, by assumption⟩
  split at h
  · cases h
    exact ⟨by omega, by assumption⟩
  split at h
  · cases h
    exact ⟨by omega, by assumption⟩
  split at h
  · cases h
    exact ⟨by omega, by assumption⟩
  · cases h
theorem exchC4 {cs : List Int} (g : Good cs) {k : Nat} (hk : k < 4) : (exchC cs k).sum = 3 * cs.sum - 4 * cs.getD k 0 ∧ (exchC cs k).getD k 0 = 2 * cs.sum - 3 * cs.getD k 0 ∧ exchC (exchC cs k) k = cs ∧ cs.set k (cs.getD k 0) = cs := by
  obtain ⟨a, b, c, d, rfl, _⟩ := g
  match k, hk with
  | 0, _ =>
    have e : exchC [a, b, c, d] 0 = [2 * (a + b + c + d) - 3 * a, b, c, d] := by
      show [2 * [a, b, c, d].sum - 3 * a, b, c, d] = _
      rw [sum4]
    rw [e, sum4, sum4]
    refine ⟨by show _ = 3 * _ - 4 * a; omega, rfl, ?_, rfl⟩
    show [2 * [2 * (a + b + c + d) - 3 * a, b, c, d].sum - 3 * (2 * (a + b + c + d) - 3 * a), b, c, d] = _
    rw [sum4]
    congr 1
    omega
  | 1, _ =>
    have e : exchC [a, b, c, d] 1 = [a, 2 * (a + b + c + d) - 3 * b, c, d] := by
      show [a, 2 * [a, b, c, d].sum - 3 * b, c, d] = _
      rw [sum4]
    rw [e, sum4, sum4]
    refine ⟨by show _ = 3 * _ - 4 * b; omega, rfl, ?_, rfl⟩
    show [a, 2 * [a, 2 * (a + b + c + d) - 3 * b, c, d].sum - 3 * (2 * (a + b + c + d) - 3 * b), c, d] = _
    rw [sum4]
    congr 2
    omega
  | 2, _ =>
    have e : exchC [a, b, c, d] 2 = [a, b, 2 * (a + b + c + d) - 3 * c, d] := by
      show [a, b, 2 * [a, b, c, d].sum - 3 * c, d] = _
      rw [sum4]
    rw [e, sum4, sum4]
    refine ⟨by show _ = 3 * _ - 4 * c; omega, rfl, ?_, rfl⟩
    show [a, b, 2 * [a, b, 2 * (a + b + c + d) - 3 * c, d].sum - 3 * (2 * (a + b + c + d) - 3 * c), d] = _
    rw [sum4]
    congr 3
    omega
  | 3, _ =>
    have e : exchC [a, b, c, d] 3 = [a, b, c, 2 * (a + b + c + d) - 3 * d] := by
      show [a, b, c, 2 * [a, b, c, d].sum - 3 * d] = _
      rw [sum4]
    rw [e, sum4, sum4]
    refine ⟨by show _ = 3 * _ - 4 * d; omega, rfl, ?_, rfl⟩
    show [a, b, c, 2 * [a, b, c, 2 * (a + b + c + d) - 3 * d].sum - 3 * (2 * (a + b + c + d) - 3 * d)] = _
    rw [sum4]
    congr 4
    omega
theorem Dn.det {cs : List Int} {w w' : List Nat} {r r' : List Int} (h : Dn cs w r) (h' : Dn cs w' r') : w = w' ∧ r = r' := by
  induction h generalizing w' r' with
  | root e =>
    cases h' with
    | root e' => exact ⟨rfl, rfl⟩
    | step e' _ => rw [e] at e'; cases e'
  | step e d ih =>
    cases h' with
    | root e' => rw [e] at e'; cases e'
    | step e' d' =>
      rw [e] at e'
      cases e'
      obtain ⟨a, b⟩ := ih d'
      exact ⟨by rw [a], b⟩
/-- THE LEMMA: an exchange leaves the end, and its way is at most one longer -/
theorem Dn.exch {cs : List Int} {w : List Nat} {r : List Int} (h : Dn cs w r) (g : Good cs) {k : Nat} (hk : k < 4) (g' : Good (exchC cs k)) : ∃ w', Dn (exchC cs k) w' r ∧ w'.length ≤ w.length + 1 := by
  obtain ⟨e1, e2, e3, e4⟩ := exchC4 g hk
  rcases Int.lt_trichotomy (2 * cs.getD k 0) cs.sum with h1 | h1 | h1
  · refine ⟨k :: w, .step (gp_at g' hk (by rw [e1, e2]; omega)) (by rw [e3]; exact h), by simp⟩
  · have e : exchC cs k = cs := by
      show cs.set k (2 * cs.sum - 3 * cs.getD k 0) = cs
      rw [show 2 * cs.sum - 3 * cs.getD k 0 = cs.getD k 0 by omega]
      exact e4
    rw [e]
    exact ⟨w, h, by omega⟩
  · have eg := gp_at g hk h1
    cases h with
    | root e' => rw [eg] at e'; cases e'
    | step e' d' =>
      rw [eg] at e'
      cases e'
      exact ⟨_, d', by simp; omega⟩
/-- fallen along a word -/
def fall (l : List Cir) (w : List Nat) : List Cir := w.foldl exch l
theorem Ok.fall {l : List Cir} (h : Ok l) : ∀ {w : List Nat}, (∀ k ∈ w, k < 4) → Ok (fall l w) := by
  intro w hw
  induction w generalizing l with
  | nil => exact h
  | cons k w ih => exact ih (h.exch (hw k (List.mem_cons_self ..))) fun j hj => hw j (List.mem_cons_of_mem _ hj)
theorem Dn.fall {l : List Cir} (h : Ok l) {v : List Nat} {r : List Int} (d : Dn (cv l) v r) : ∀ {w : List Nat}, (∀ k ∈ w, k < 4) → ∃ v', Dn (cv (fall l w)) v' r ∧ v'.length ≤ v.length + w.length := by
  intro w hw
  induction w generalizing l v with
  | nil => exact ⟨v, d, by simp⟩
  | cons k w ih =>
    have hk := hw k (List.mem_cons_self ..)
    have h2 := h.exch hk
    obtain ⟨v1, d1, l1⟩ := d.exch h.good hk (by rw [← cv_exch]; exact h2.good)
    rw [← cv_exch] at d1
    obtain ⟨v2, d2, l2⟩ := ih h2 d1 fun j hj => hw j (List.mem_cons_of_mem _ hj)
    exact ⟨v2, d2, by simp; omega⟩
end Ft
set_option maxHeartbeats 4000000
/-! the text by places; what stands behind the top; what circles and fours are in a heap -/
namespace Ft
open PySem PySem.Spec PyProof.Rows L2
def topS (i : Nat) : Stmt := PySem.Challenge.pw_fourtouch_k63_whole_checked_heaps.main.body.getD i (.Pass ⟨0, 0, 0, 0⟩)
abbrev s_is_circle : Stmt := topS 9
abbrev n_is_circle : List Str := ["circle", "b", "c", "x", "y"]
theorem sc_is_circle : FnScope n_is_circle ["circle"] (defScope s_is_circle) := ⟨rfl, rfl, rfl, by decide +kernel, rfl, by decide +kernel, by decide +kernel⟩
abbrev s_check_circle : Stmt := topS 10
abbrev n_check_circle : List Str := ["circle"]
theorem sc_check_circle : FnScope n_check_circle ["circle"] (defScope s_check_circle) := ⟨rfl, rfl, rfl, by decide +kernel, rfl, by decide +kernel, by decide +kernel⟩
abbrev s_double : Stmt := topS 11
abbrev n_double : List Str := ["one", "other", "b", "c", "x", "y", "far_b", "far_c", "far_x", "far_y"]
theorem sc_double : FnScope n_double ["one", "other"] (defScope s_double) := ⟨rfl, rfl, rfl, by decide +kernel, rfl, by decide +kernel, by decide +kernel⟩
abbrev s_are_outward : Stmt := topS 12
abbrev n_are_outward : List Str := ["one", "other", "b"]
theorem sc_are_outward : FnScope n_are_outward ["one", "other"] (defScope s_are_outward) := ⟨rfl, rfl, rfl, by decide +kernel, rfl, by decide +kernel, by decide +kernel⟩
abbrev s_touch : Stmt := topS 13
abbrev n_touch : List Str := ["one", "other"]
theorem sc_touch : FnScope n_touch ["one", "other"] (defScope s_touch) := ⟨rfl, rfl, rfl, by decide +kernel, rfl, by decide +kernel, by decide +kernel⟩
abbrev s_check_word : Stmt := topS 16
abbrev n_check_word : List Str := ["word", "letter"]
theorem sc_check_word : FnScope n_check_word ["word"] (defScope s_check_word) := ⟨rfl, rfl, rfl, by decide +kernel, rfl, by decide +kernel, by decide +kernel⟩
abbrev s_four_at : Stmt := topS 18
abbrev n_four_at : List Str := ["four", "word"]
theorem sc_four_at : FnScope n_four_at ["four", "word"] (defScope s_four_at) := ⟨rfl, rfl, rfl, by decide +kernel, rfl, by decide +kernel, by decide +kernel⟩
abbrev s_fours_along : Stmt := topS 19
abbrev n_fours_along : List Str := ["four", "word", "found", "letter"]
theorem sc_fours_along : FnScope n_fours_along ["four", "word"] (defScope s_fours_along) := ⟨rfl, rfl, rfl, by decide +kernel, rfl, by decide +kernel, by decide +kernel⟩
abbrev s_check_number : Stmt := topS 22
abbrev n_check_number : List Str := ["number"]
theorem sc_check_number : FnScope n_check_number ["number"] (defScope s_check_number) := ⟨rfl, rfl, rfl, by decide +kernel, rfl, by decide +kernel, by decide +kernel⟩
abbrev s_Four___init__ : Stmt := inClass (topS 23) 0
abbrev n_Four___init__ : List Str := ["self", "circles", "circle", "at", "other"]
theorem sc_Four___init__ : FnScope n_Four___init__ ["self", "circles"] (defScope s_Four___init__) := ⟨rfl, rfl, rfl, by decide +kernel, rfl, by decide +kernel, by decide +kernel⟩
abbrev s_Four_curvatures : Stmt := inClass (topS 23) 1
abbrev n_Four_curvatures : List Str := ["self", "circle"]
theorem sc_Four_curvatures : FnScope n_Four_curvatures ["self"] (defScope s_Four_curvatures) := ⟨rfl, rfl, rfl, by decide +kernel, rfl, by decide +kernel, by decide +kernel⟩
abbrev s_Four_circle : Stmt := inClass (topS 23) 2
abbrev n_Four_circle : List Str := ["self", "number"]
theorem sc_Four_circle : FnScope n_Four_circle ["self", "number"] (defScope s_Four_circle) := ⟨rfl, rfl, rfl, by decide +kernel, rfl, by decide +kernel, by decide +kernel⟩
abbrev s_Four_other : Stmt := inClass (topS 23) 4
abbrev n_Four_other : List Str := ["self", "number", "own", "sums", "circle", "part", "whole", "one"]
theorem sc_Four_other : FnScope n_Four_other ["self", "number"] (defScope s_Four_other) := ⟨rfl, rfl, rfl, by decide +kernel, rfl, by decide +kernel, by decide +kernel⟩
abbrev s_Four_exchanged : Stmt := inClass (topS 23) 5
abbrev n_Four_exchanged : List Str := ["self", "number", "circle", "at", "old"]
theorem sc_Four_exchanged : FnScope n_Four_exchanged ["self", "number"] (defScope s_Four_exchanged) := ⟨rfl, rfl, rfl, by decide +kernel, rfl, by decide +kernel, by decide +kernel⟩
abbrev s_Four_is_root : Stmt := inClass (topS 23) 6
abbrev n_Four_is_root : List Str := ["self", "least"]
theorem sc_Four_is_root : FnScope n_Four_is_root ["self"] (defScope s_Four_is_root) := ⟨rfl, rfl, rfl, by decide +kernel, rfl, by decide +kernel, by decide +kernel⟩
abbrev s_greater_place : Stmt := topS 25
abbrev n_greater_place : List Str := ["four", "curvatures", "number", "curvature"]
theorem sc_greater_place : FnScope n_greater_place ["four"] (defScope s_greater_place) := ⟨rfl, rfl, rfl, by decide +kernel, rfl, by decide +kernel, by decide +kernel⟩
abbrev s_way_down : Stmt := topS 26
abbrev n_way_down : List Str := ["four", "word", "number"]
theorem sc_way_down : FnScope n_way_down ["four"] (defScope s_way_down) := ⟨rfl, rfl, rfl, by decide +kernel, rfl, by decide +kernel, by decide +kernel⟩
abbrev s_root_of : Stmt := topS 27
abbrev n_root_of : List Str := ["four"]
theorem sc_root_of : FnScope n_root_of ["four"] (defScope s_root_of) := ⟨rfl, rfl, rfl, by decide +kernel, rfl, by decide +kernel, by decide +kernel⟩
abbrev s_root_curvatures : Stmt := topS 28
abbrev n_root_curvatures : List Str := ["four"]
theorem sc_root_curvatures : FnScope n_root_curvatures ["four"] (defScope s_root_curvatures) := ⟨rfl, rfl, rfl, by decide +kernel, rfl, by decide +kernel, by decide +kernel⟩
abbrev s_alike_heaps : Stmt := topS 29
abbrev n_alike_heaps : List Str := ["one", "other"]
theorem sc_alike_heaps : FnScope n_alike_heaps ["one", "other"] (defScope s_alike_heaps) := ⟨rfl, rfl, rfl, by decide +kernel, rfl, by decide +kernel, by decide +kernel⟩
abbrev s_heap_paper : Stmt := topS 30
abbrev n_heap_paper : List Str := ["one", "other", "word"]
theorem sc_heap_paper : FnScope n_heap_paper ["one", "other"] (defScope s_heap_paper) := ⟨rfl, rfl, rfl, by decide +kernel, rfl, by decide +kernel, by decide +kernel⟩
abbrev s_check_heap_paper : Stmt := topS 31
abbrev n_check_heap_paper : List Str := ["one", "other", "told", "word", "way", "further", "first", "second", "same"]
theorem sc_check_heap_paper : FnScope n_check_heap_paper ["one", "other", "told"] (defScope s_check_heap_paper) := ⟨rfl, rfl, rfl, by decide +kernel, rfl, by decide +kernel, by decide +kernel⟩
abbrev s_line_of : Stmt := topS 35
abbrev n_line_of : List Str := ["words", "word"]
theorem sc_line_of : FnScope n_line_of ["words"] (defScope s_line_of) := ⟨rfl, rfl, rfl, by decide +kernel, rfl, by decide +kernel, by decide +kernel⟩
abbrev s_are_letters : Stmt := topS 36
abbrev n_are_letters : List Str := ["words", "word"]
theorem sc_are_letters : FnScope n_are_letters ["words"] (defScope s_are_letters) := ⟨rfl, rfl, rfl, by decide +kernel, rfl, by decide +kernel, by decide +kernel⟩
abbrev s_letters_of : Stmt := topS 37
abbrev n_letters_of : List Str := ["words", "word"]
theorem sc_letters_of : FnScope n_letters_of ["words"] (defScope s_letters_of) := ⟨rfl, rfl, rfl, by decide +kernel, rfl, by decide +kernel, by decide +kernel⟩
abbrev s_heap_text : Stmt := topS 38
abbrev n_heap_text : List Str := ["one", "other", "word", "way", "further"]
theorem sc_heap_text : FnScope n_heap_text ["one", "other"] (defScope s_heap_text) := ⟨rfl, rfl, rfl, by decide +kernel, rfl, by decide +kernel, by decide +kernel⟩
abbrev s_parse_heap : Stmt := topS 39
abbrev n_parse_heap : List Str := ["text", "lines", "line", "number", "words"]
theorem sc_parse_heap : FnScope n_parse_heap ["text"] (defScope s_parse_heap) := ⟨rfl, rfl, rfl, by decide +kernel, rfl, by decide +kernel, by decide +kernel⟩
abbrev s_check_heap_text : Stmt := topS 40
abbrev n_check_heap_text : List Str := ["one", "other", "text"]
theorem sc_check_heap_text : FnScope n_check_heap_text ["one", "other", "text"] (defScope s_check_heap_text) := ⟨rfl, rfl, rfl, by decide +kernel, rfl, by decide +kernel, by decide +kernel⟩
abbrev s__law_row : Stmt := topS 42
abbrev n__law_row : List Str := ["_law_cell", "_law_many", "_law_row_here", "_law_rest", "_law_mixed", "_law_k"]
theorem sc__law_row : FnScope n__law_row ["_law_cell", "_law_many"] (defScope s__law_row) := ⟨rfl, rfl, rfl, by decide +kernel, rfl, by decide +kernel, by decide +kernel⟩
abbrev s__law_numbers : Stmt := topS 43
abbrev n__law_numbers : List Str := ["_law_script", "_law_many", "_law_cells", "_law_each", "_law_numbers_here", "_law_cell", "_law_number"]
theorem sc__law_numbers : FnScope n__law_numbers ["_law_script", "_law_many"] (defScope s__law_numbers) := ⟨rfl, rfl, rfl, by decide +kernel, rfl, by decide +kernel, by decide +kernel⟩
abbrev s__law_given : Stmt := topS 44
abbrev n__law_given : List Str := ["_law_number", "_law_k", "_law_n", "_law_area"]
theorem sc__law_given : FnScope n__law_given ["_law_number"] (defScope s__law_given) := ⟨rfl, rfl, rfl, by decide +kernel, rfl, by decide +kernel, by decide +kernel⟩
abbrev s__law_moved : Stmt := topS 45
abbrev n__law_moved : List Str := ["_law_circle", "_law_s", "_law_t", "_law_b", "_law_c", "_law_x", "_law_y"]
theorem sc__law_moved : FnScope n__law_moved ["_law_circle", "_law_s", "_law_t"] (defScope s__law_moved) := ⟨rfl, rfl, rfl, by decide +kernel, rfl, by decide +kernel, by decide +kernel⟩
abbrev s__law_laid : Stmt := topS 46
abbrev n__law_laid : List Str := ["_law_numbers_here", "_law_at", "_law_circle", "_law_b", "_law_c", "_law_x", "_law_y", "_law_k", "_law_most", "_law_s", "_law_t"]
theorem sc__law_laid : FnScope n__law_laid ["_law_numbers_here", "_law_at", "_law_circle"] (defScope s__law_laid) := ⟨rfl, rfl, rfl, by decide +kernel, rfl, by decide +kernel, by decide +kernel⟩
abbrev s__law_other : Stmt := topS 47
abbrev n__law_other : List Str := ["_law_circles", "_law_k", "_law_circle", "_law_part"]
theorem sc__law_other : FnScope n__law_other ["_law_circles", "_law_k"] (defScope s__law_other) := ⟨rfl, rfl, rfl, by decide +kernel, rfl, by decide +kernel, by decide +kernel⟩
abbrev s__law_fallen : Stmt := topS 48
abbrev n__law_fallen : List Str := ["_law_circles", "_law_word", "_law_found", "_law_k"]
theorem sc__law_fallen : FnScope n__law_fallen ["_law_circles", "_law_word"] (defScope s__law_fallen) := ⟨rfl, rfl, rfl, by decide +kernel, rfl, by decide +kernel, by decide +kernel⟩
abbrev s__law_four : Stmt := topS 49
abbrev n__law_four : List Str := ["_law_numbers_here", "_law_at", "_law_circles", "_law_circle", "_law_word", "_law_k", "_law_turn"]
theorem sc__law_four : FnScope n__law_four ["_law_numbers_here", "_law_at"] (defScope s__law_four) := ⟨rfl, rfl, rfl, by decide +kernel, rfl, by decide +kernel, by decide +kernel⟩
abbrev s__law_root : Stmt := topS 53
abbrev n__law_root : List Str := ["_law_circles", "_law_found", "_law_k", "_law_sizes", "_law_circle", "_law_n"]
theorem sc__law_root : FnScope n__law_root ["_law_circles"] (defScope s__law_root) := ⟨rfl, rfl, rfl, by decide +kernel, rfl, by decide +kernel, by decide +kernel⟩
abbrev s__law_is_root : Stmt := topS 54
abbrev n__law_is_root : List Str := ["_law_circles", "_law_sizes", "_law_circle"]
theorem sc__law_is_root : FnScope n__law_is_root ["_law_circles"] (defScope s__law_is_root) := ⟨rfl, rfl, rfl, by decide +kernel, rfl, by decide +kernel, by decide +kernel⟩
abbrev s__law_changed : Stmt := topS 55
abbrev n__law_changed : List Str := ["_law_numbers_here", "_law_parts", "_law_word", "_law_first", "_law_second", "_law_choice", "_law_letter", "_law_at"]
theorem sc__law_changed : FnScope n__law_changed ["_law_numbers_here", "_law_parts"] (defScope s__law_changed) := ⟨rfl, rfl, rfl, by decide +kernel, rfl, by decide +kernel, by decide +kernel⟩
abbrev s_law : Stmt := topS 56
abbrev n_law : List Str := ["_law_script", "_law_numbers_here", "_law_first", "_law_second", "_law_circle", "_law_k", "_law_one", "_law_other_here", "_law_lines", "_law_alike", "_law_word", "_law_left", "_law_right", "_law_line", "_law_ends", "_law_letter", "_law_circles", "_law_sizes", "_law_due", "_law_told"]
theorem sc_law : FnScope n_law ["_law_script"] (defScope s_law) := ⟨rfl, rfl, rfl, by decide +kernel, rfl, by decide +kernel, by decide +kernel⟩

/-- a def of the module, its name, its binding -/
structure Df (K : PySem.W.Frag) (mg : Str → Option Value) (x : Str) (st : Stmt) (ps : List Str) : Prop where
  ex : ∃ (f : Addr) (fd : FuncData), L2.Fun K x x st f fd ∧ mg x = some (.ref f) ∧ Binds K fd ps []
/-- a method of the class at C -/
structure Dm (K : PySem.W.Frag) (C : Addr) (m qual : Str) (st : Stmt) (ps : List Str) : Prop where
  ex : ∃ (f : Addr) (fd : FuncData), L2.Fun K m qual st f fd ∧ Cls K C ∧ Meth K C m f ∧ Binds K fd ps []
/-- what the names of built-in things hold: nothing of the module's own -/
structure Tx (K : PySem.W.Frag) (mg : Str → Option Value) : Prop where
  len : mg "len" = none
  sum : mg "sum" = none
  sorted : mg "sorted" = none
  all : mg "all" = none
  abs : mg "abs" = none
  max : mg "max" = none
  isinstance : mg "isinstance" = none
  tuple : mg "tuple" = none
  list : mg "list" = none
  int : mg "int" = none
  str : mg "str" = none
  bool : mg "bool" = none
  range : mg "range" = none
  zip : mg "zip" = none
  enumerate : mg "enumerate" = none
/-- a tuple of the module's top -/
def KTup (K : PySem.W.Frag) (mg : Str → Option Value) (x : Str) (a : Addr) (xs : List V) : Prop := mg x = some (.ref a) ∧ ∀ H, SqT K H a xs
section
variable {P : Program} {w : World} {K : PySem.W.Frag} {mg : Str → Option Value} {base : Heap}
theorem Df.cal {x : Str} {st : Stmt} {N ps : List Str} {k : Nat} {α : Type} {A : α → List Pd} {Pre : α → Prop} {R : α → Pd} (F : Df K mg x st ps) (S : FnScope N ps (defScope st)) (len : ∀ d, (A d).length = ps.length)
    (hbody : ∀ (f : Addr) (cdv : Value) (An : Around) (outer : List Env) (s : Shared) (H : Hp) (vs : List V) (Q : VK) (E : XK) (d : α), Room k (An.deeper (envOfC x (defScope st) s.heap.objs.size f cdv)) → Pre d → PL (A d) vs H → (∀ v H', Same H H' → (R d).p v H' → Q v H') →
      ∃ t, PSs (cxOf CX0 P w K mg base N x (defScope st) f cdv An outer s H E).nox (defBody st) t ∧ t { nx := fun _ H' => Q .non H', rt := Q } (start N vs) H) : C8.Cal P w K mg base (k + 1) x (Spf A Pre R) [] := by
  obtain ⟨f, fd, F, hm, hb⟩ := F.ex
  refine ⟨⟨f, fd, ps, [], F.ok S (fun vs H Q E h => ?_) (fun cdv An outer s H vs Q E hr h => ?_), hm, F.kp, hb, .nil⟩⟩
  · obtain ⟨d, _, h, _⟩ := h
    rw [h.len, len d]
  · obtain ⟨d, hp, h, q⟩ := h
    exact hbody f cdv An outer s H vs Q E d hr hp h q
theorem Dm.met {C : Addr} {m qual : Str} {st : Stmt} {N ps : List Str} {k : Nat} {α : Type} {A : α → List Pd} {Pre : α → Prop} {R : α → Pd} (F : Dm K C m qual st ps) (S : FnScope N ps (defScope st)) (len : ∀ d, (A d).length = ps.length)
    (hbody : ∀ (f : Addr) (cdv : Value) (An : Around) (outer : List Env) (s : Shared) (H : Hp) (vs : List V) (Q : VK) (E : XK) (d : α), Room k (An.deeper (envOfC qual (defScope st) s.heap.objs.size f cdv)) → Pre d → PL (A d) vs H → (∀ v H', Same H H' → (R d).p v H' → Q v H') →
      ∃ t, PSs (cxOf CX0 P w K mg base N qual (defScope st) f cdv An outer s H E).nox (defBody st) t ∧ t { nx := fun _ H' => Q .non H', rt := Q } (start N vs) H) : C8.Met P w K mg base (k + 1) C m (Spf A Pre R) [] := by
  obtain ⟨f, fd, F, hc, hm, hb⟩ := F.ex
  refine ⟨⟨f, fd, ps, [], hc, hm, F.ok S (fun vs H Q E h => ?_) (fun cdv An outer s H vs Q E hr h => ?_), hb, .nil⟩⟩
  · obtain ⟨d, _, h, _⟩ := h
    rw [h.len, len d]
  · obtain ⟨d, hp, h, q⟩ := h
    exact hbody f cdv An outer s H vs Q E d hr hp h q
end
/-- a circle, circles, a four -/
def Cir.vs (q : Cir) : List V := [.int q.b, .int q.c, .int q.x, .int q.y]
def cir (K : PySem.W.Frag) (q : Cir) : Pd := tl K [pint q.b, pint q.c, pint q.x, pint q.y]
theorem solid_cir {K : PySem.W.Frag} (q : Cir) : Solid (cir K q) := solid_tl fun P hP => by
  simp only [List.mem_cons, List.not_mem_nil, or_false] at hP
  rcases hP with e | e | e | e <;> (rw [e]; exact solid_is)
def cirs (K : PySem.W.Frag) (l : List Cir) : Pd := ll (l.map (cir K))
def four (K : PySem.W.Frag) (C : Addr) (l : List Cir) : Pd := ⟨fun v H => ∃ a dx u, v = .ref a ∧ H a = some (.ins C dx [("circles", u)]) ∧ (tl K (l.map (cir K))).p u H,
  fun e ⟨a, dx, u, h1, h2, h3⟩ => ⟨a, dx, u, h1, e _ _ h2, (tl K _).mono e h3⟩⟩
theorem solid_four {K : PySem.W.Frag} {C : Addr} (l : List Cir) : Solid (four K C l) := fun v H a xs ys hl ⟨b, dx, u, h1, h2, h3⟩ =>
  ⟨b, dx, u, h1, by rw [upd_ne (ne_of h2 hl (by intro z; cases z))]; exact h2, solid_tl (solid_map _ solid_cir) _ _ _ _ _ hl h3⟩
theorem four_m {K : PySem.W.Frag} {C : Addr} {l : List Cir} {m : Str} (hm : (m == ("circles" : Str)) = false) : ObjM C m (four K C l) := fun v H ⟨a, dx, u, h1, h2, _⟩ => ⟨a, dx, _, h1, h2, by
  show List.lookup m [(("circles" : Str), u)] = none
  rw [List.lookup_cons, hm]
  rfl⟩
section
variable {K : PySem.W.Frag} {C : Addr} {σ : L2.St} {H : Hp} {te : TE} {l : List Cir}
theorem er_circles (h : Er te σ H (four K C l)) (c : Cls K C) (n : NoAttr K C "circles") : Er (tFld K te "circles") σ H (tl K (l.map (cir K))) := fun H1 e Q q => h H1 e _ fun v H2 e2 p2 => by
  obtain ⟨a, dx, u, h1, h2, h3⟩ := p2
  exact ⟨a, C, dx, _, u, h1, h2, c, n, (by rw [List.lookup_cons, beq_self_eq_true]), q u H2 e2 h3⟩
/-- b, c, x, y = circle -/
theorem g_cir {i j k m : Nat} {v : V} {q : Cir} {Q : L2.St → Hp → Prop} (p : (cir K q).p v H) (h : Q ((((σ.set i (some (.int q.b))).set j (some (.int q.c))).set k (some (.int q.x))).set m (some (.int q.y))) H) :
    gTup K 4 (gCons (gName i) (gCons (gName j) (gCons (gName k) (gCons (gName m) gNil)))) v σ H Q := by
  obtain ⟨a, xs, e0, h2, h3⟩ := p
  obtain ⟨x1, x2, x3, x4, e1, p1, p2, p3, p4⟩ := pl4 h3
  subst e1 e0 p1 p2 p3 p4
  exact ⟨a, _, rfl, h2, rfl, _, _, rfl, _, _, rfl, _, _, rfl, _, _, rfl, rfl, h⟩
theorem er_cb0 (h : Er te σ H (cir K q)) {tb : TE} (hb : Er tb σ H (pint 0)) : Er (tOp (rIxT K) te tb) σ H (pint q.b) := er_ixT h hb rfl
end
/-! ### the rules with the written part named (a comprehension's block has a context of its own) -/
section
variable {X : Cx} {K : PySem.W.Frag}
theorem ix_tupK (h : X.K = K) : IxR X (rIxT K) := by subst h; exact ix_tup
theorem ix_listK (h : X.K = K) : IxR X (rIxL K) := by subst h; exact ix_list
theorem sl_tupK (h : X.K = K) : SlR X (rSlT K) := by subst h; exact sl_tup
theorem sl_listK (h : X.K = K) : SlR X (rSlL K) := by subst h; exact sl_list
theorem op_in_seqK (h : X.K = K) : OpR X (compareOp .In) (rIn K false) := by subst h; exact op_in_seq
theorem op_notIn_seqK (h : X.K = K) : OpR X (compareOp .NotIn) (rIn K true) := by subst h; exact op_notIn_seq
theorem op_eqDK (h : X.K = K) (hu : X.A.units + 64 < cLine) : OpR X (compareOp .Eq) (rEqD K) := by subst h; exact op_eqD hu
theorem cr_sumK (h : X.K = K) (hc : X.calm = true) : CallR X (.builtin "sum") (rSum K) := by subst h; exact cr_sum hc
theorem cr_sumTK (h : X.K = K) (hc : X.calm = true) : CallR X (.builtin "sum") (rSumT K) := by subst h; exact cr_sumT hc
theorem cr_allK (h : X.K = K) (hc : X.calm = true) : CallR X (.builtin "all") (rAll K) := by subst h; exact cr_all hc
theorem cr_sortedK (h : X.K = K) : CallR X (.builtin "sorted") (rSorted K) := by subst h; exact cr_sorted
theorem cr_sortedTK (h : X.K = K) : CallR X (.builtin "sorted") (rSortedT K) := by subst h; exact cr_sortedT
theorem call_isiX (h : X.K = K) : CallR X (.builtin "isinstance") (rIsi K) := by subst h; exact call_isi
theorem call_lenK (h : X.K = K) : CallR X (.builtin "len") (fun xs H Q => ∃ p ys, xs = [.ref p] ∧ (SqL K H p ys ∨ SqT K H p ys) ∧ Q (.int ys.length) H) := by subst h; exact call_len_seq
theorem call_tupleK (h : X.K = K) : CallR X (.type "tuple") (fun xs H Q => ∃ p ys, xs = [.ref p] ∧ ((SqL K H p ys ∧ ∀ l, H l = none → Q (.ref l) (upd H l (.tup ys))) ∨ (SqT K H p ys ∧ Q (.ref p) H))) := by subst h; exact call_tuple_of
theorem call_listK (h : X.K = K) : CallR X (.type "list") (fun xs H Q => ∃ p ys, xs = [.ref p] ∧ (SqL K H p ys ∨ SqT K H p ys) ∧ ∀ l, H l = none → Q (.ref l) (upd H l (.lst ys))) := by subst h; exact call_list_of
theorem k_fld {e : Expr} {ta : TE} {f : Str} (h : X.K = K) (p : PE X e (tFld X.K ta f)) : PE X e (tFld K ta f) := h ▸ p
theorem k_revL {e : Expr} {ta : TE} (h : X.K = K) (p : PE X e (tRevL X.K ta)) : PE X e (tRevL K ta) := h ▸ p
theorem k_bm {e : Expr} {T : String} {r : V → List V → Hp → VK → Prop} {to : TE} {t : TA} (h : X.K = K) (p : PE X e (tBM X.K T r to t)) : PE X e (tBM K T r to t) := h ▸ p
theorem k_join {e : Expr} {to te : TE} (h : X.K = K) (p : PE X e (tM1 (fun x xs H Q => ∃ a p, ∃ ys : List Str, x = .str a ∧ xs = [.ref p] ∧ (SqL X.K H p (ys.map V.str) ∨ SqT X.K H p (ys.map V.str)) ∧ (ys.map (·.length)).sum + ys.length * a.length ≤ 16777216 ∧ Q (.str (Txt.join a ys)) H) to te)) :
    PE X e (tM1 (fun x xs H Q => ∃ a p, ∃ ys : List Str, x = .str a ∧ xs = [.ref p] ∧ (SqL K H p (ys.map V.str) ∨ SqT K H p (ys.map V.str)) ∧ (ys.map (·.length)).sum + ys.length * a.length ≤ 16777216 ∧ Q (.str (Txt.join a ys)) H) to te) := h ▸ p
theorem k_list {tg l : Expr} {tl' : TE} (h : X.K = K) (p : PI X tg l (iList X.K tl')) : PI X tg l (iList K tl') := h ▸ p
theorem k_tup {tg l : Expr} {tl' : TE} (h : X.K = K) (p : PI X tg l (iTup X.K tl')) : PI X tg l (iTup K tl') := h ▸ p
theorem k_enumX {tg l : Expr} {ta : TA} (h : X.K = K) (p : PI X tg l (iEnumX X.K ta)) : PI X tg l (iEnumX K ta) := h ▸ p
theorem k_enum1 {tg l : Expr} {ta : TA} (h : X.K = K) (p : PI X tg l (iEnum1 X.K ta)) : PI X tg l (iEnum1 K ta) := h ▸ p
theorem k_zipX {tg l : Expr} {ta : TA} (h : X.K = K) (p : PI X tg l (iZipX X.K ta)) : PI X tg l (iZipX K ta) := h ▸ p
theorem k_gtup {e : Expr} {n : Nat} {t : TGs} (h : X.K = K) (p : PG X e (gTup X.K n t)) : PG X e (gTup K n t) := h ▸ p
theorem k_gunl {e : Expr} {n : Nat} {t : TGs} (h : X.K = K) (p : PG X e (gUnl X.K n t)) : PG X e (gUnl K n t) := h ▸ p
theorem k_star {es : List Expr} {te : TE} {t : TA} (h : X.K = K) (p : PA X es (StX.tStar X.K te t)) : PA X es (StX.tStar K te t) := h ▸ p
end
theorem at_ofP {α : Type} {xs : List α} {z : Int} {j : Nat} {v : α} (e : z = (j : Int)) (h : xs[j]? = some v) : atI xs z = some v := by
  subst e
  have hj := (List.getElem?_eq_some_iff.mp h).1
  unfold atI ixN
  rw [if_pos (by omega), if_pos (by omega)]
  show xs[(j : Int).toNat]? = some v
  rw [Int.toNat_natCast]
  exact h
theorem at_lastP {α : Type} (xs : List α) (v : α) : atI (xs ++ [v]) (-1) = some v := by
  unfold atI ixN
  rw [if_neg (by omega), List.length_append, List.length_singleton, if_pos (by omega)]
  show (xs ++ [v])[(-1 + ((xs.length + 1 : Nat) : Int)).toNat]? = some v
  rw [show (-1 + ((xs.length + 1 : Nat) : Int)).toNat = xs.length by omega, List.getElem?_append_right (Nat.le_refl _), Nat.sub_self]
  rfl
/-- the parts' sizes -/
def Bd (n : Nat) (q : Cir) : Prop := q.b.natAbs < 2 ^ n ∧ q.c.natAbs < 2 ^ n ∧ q.x.natAbs < 2 ^ n ∧ q.y.natAbs < 2 ^ n

/-! ### a statement, then the rest -/
section
variable {K : PySem.W.Frag} {σ : L2.St} {H : Hp} {ta tb te : TE} {t : TT} {P : Pd} {D : Ends} {tu tw u tb' : TS} {g : TG}
theorem q_asg {i : Nat} (h : Er te σ H P) (k : ∀ v H1, Same H H1 → P.p v H1 → u D (σ.set i (some v)) H1) : tSeq (tAsg te (gName i)) u D σ H := s_asg (D := { D with nx := u D }) h k
theorem q_asgG (h : Er te σ H P) (k : ∀ v H1, Same H H1 → P.p v H1 → g v σ H1 (u D)) : tSeq (tAsg te g) u D σ H := s_asgG (D := { D with nx := u D }) h k
theorem q_drop (h : Er te σ H P) (k : ∀ H1, Same H H1 → u D σ H1) : tSeq (tDrop te) u D σ H := s_drop (D := { D with nx := u D }) h k
theorem q_if {b : Bool} (h : Et t σ H b) (h1 : b = true → ∀ H1, Same H H1 → tu { D with nx := u D } σ H1) (h2 : b = false → ∀ H1, Same H H1 → tw { D with nx := u D } σ H1) : tSeq (tIfS t tu tw) u D σ H := s_if (D := { D with nx := u D }) h h1 h2
theorem q_ifF (h : Et t σ H false) (k : ∀ H1, Same H H1 → u D σ H1) : tSeq (tIfS t tu tNext) u D σ H := s_if (D := { D with nx := u D }) h (fun h => nomatch h) fun _ H1 e => k H1 e
theorem s_ifF (h : Et t σ H false) (k : ∀ H1, Same H H1 → D.nx σ H1) : tIfS t tu tNext D σ H := s_if h (fun h => nomatch h) fun _ H1 e => k H1 e
/-- a test that leaves at once (its suite returns), or goes on -/
theorem q_ifR {b : Bool} (h : Et t σ H b) (h1 : b = true → ∀ H1, Same H H1 → tu { D with nx := u D } σ H1) (h2 : b = false → ∀ H1, Same H H1 → u D σ H1) : tSeq (tIfS t tu tNext) u D σ H := s_if (D := { D with nx := u D }) h h1 fun hb H1 e => h2 hb H1 e
theorem q_app {l : Addr} {xs : List V} (hl : H l = some (.lst xs)) (ha : Er ta σ H (is (.ref l))) (h : Er te σ H P) (hz : xs.length < 100000) (k : ∀ v H1, Same H H1 → P.p v H1 → u D σ (upd H1 l (.lst (xs ++ [v])))) :
    tSeq (tDrop (tBM K "list" rAppend ta (tCons te tNil))) u D σ H := s_app (D := { D with nx := u D }) hl ha h hz k
theorem q_setL {l : Addr} {xs : List V} {j : Nat} (hl : H l = some (.lst xs)) (h : Er te σ H P) (ho : Er ta σ H (is (.ref l))) (hi : Er tb σ H (pint (j : Int))) (hj : j < xs.length) (k : ∀ v H1, Same H H1 → P.p v H1 → u D σ (upd H1 l (.lst (xs.set j v)))) :
    tSeq (tAsg te (gSub ta tb rSetL)) u D σ H := s_setL (D := { D with nx := u D }) hl h ho hi hj k
theorem q_for {α : Type} {as : List α} {A : α → Pd} {wi : TI} (h : Ei wi σ H as A) (Pv : Nat → L2.St → Hp → Prop) (h0 : ∀ H1, Same H H1 → Pv 0 σ H1)
    (hs : ∀ i a x σ' H1 H', as[i]? = some a → Same H H1 → Pv i σ' H1 → Same H1 H' → (A a).p x H' → ∀ N : L2.St → Hp → Prop, (∀ σ2 H2, Same H' H2 → Pv (i + 1) σ2 H2 → N σ2 H2) → g x σ' H' fun σ2 H2 => tb' { D with nx := N, ct := N, bk := u D } σ2 H2)
    (hd : ∀ σ' H', Same H H' → Pv as.length σ' H' → u D σ' H') : tSeq (tFor wi g tb') u D σ H := s_for (D := { D with nx := u D }) h Pv h0 hs hd
theorem q_ret (h : Er te σ H P) (k : ∀ v H1, Same H H1 → P.p v H1 → D.rt v H1) : tRet te D σ H := s_ret h k
end
end Ft
set_option maxHeartbeats 4000000
/-! more readings: slices, +, *, in, ==, texts, numbers as texts -/
namespace Ft
open PySem PySem.Spec PyProof.Rows L2
def cutP {α : Type} (xs : List α) (lo hi : Option Int) : List α := (xs.drop (HT.sIx xs.length 0 lo)).take (HT.sIx xs.length xs.length hi - HT.sIx xs.length 0 lo)
theorem PL.cut {H : Hp} {Ps : List Pd} {vs : List V} (h : PL Ps vs H) (lo hi : Option Int) : PL (cutP Ps lo hi) (cutV vs lo hi) H := by
  unfold cutP cutV
  rw [h.len]
  exact (h.drop _).take _
theorem cutP_map {α β : Type} (f : α → β) (xs : List α) (lo hi : Option Int) : cutP (xs.map f) lo hi = (cutP xs lo hi).map f := by
  unfold cutP
  rw [List.length_map, List.map_take, List.map_drop]
theorem cutP_from {α : Type} (xs : List α) (k : Nat) : cutP xs (some (k : Int)) none = xs.drop k := by
  unfold cutP
  rw [HT.sIx_nat, HT.sIx_none]
  rw [List.take_of_length_le (by rw [List.length_drop]; exact Nat.le_refl _)]
  by_cases h : k ≤ xs.length
  · rw [Nat.min_eq_left h]
  · rw [Nat.min_eq_right (by omega), List.drop_eq_nil_of_le (Nat.le_refl _), List.drop_eq_nil_of_le (by omega)]
theorem cutP_to {α : Type} (xs : List α) (k : Nat) : cutP xs none (some (k : Int)) = xs.take k := by
  unfold cutP
  rw [HT.sIx_nat, HT.sIx_none, List.drop_zero, Nat.sub_zero]
  by_cases h : k ≤ xs.length
  · rw [Nat.min_eq_left h]
  · rw [Nat.min_eq_right (by omega), List.take_length, List.take_of_length_le (by omega)]
theorem cutP_neg {α : Type} (xs : List α) (k : Int) (hk : k = (xs.length : Int) - 1) : cutP xs none (some k) = xs.dropLast := by
  cases xs with
  | nil =>
    unfold cutP
    rw [List.drop_nil, List.take_nil]
    rfl
  | cons x xs =>
    have e : k = ((xs.length : Nat) : Int) := by rw [hk, List.length_cons]; omega
    rw [e, cutP_to, List.dropLast_eq_take]
    rfl
section
variable {K : PySem.W.Frag} {σ : L2.St} {H : Hp} {ta tb te : TE} {P : Pd}
theorem eo_none : Eo tNoPart σ H none := fun H1 _ _ q => q H1 (Same.refl H1)
theorem eo_some {i : Int} (h : Er te σ H (pint i)) : Eo (tPart te) σ H (some i) := fun H1 e Q q => h H1 e _ fun v H2 e2 p2 => ⟨i, p2, q H2 e2⟩
theorem er_slL {Ps : List Pd} {t1 t2 : TO} {lo hi : Option Int} (h : Er te σ H (ll Ps)) (h1 : Eo t1 σ H lo) (h2 : Eo t2 σ H hi) : Er (tSl (rSlL K) te t1 t2) σ H (ll (cutP Ps lo hi)) := fun H1 e Q q =>
  h H1 e _ fun v H2 e2 p2 => h1 H2 (e.trans e2) _ fun H3 e3 => h2 H3 ((e.trans e2).trans e3) _ fun H4 e4 => by
    obtain ⟨a, xs, e0, g2, g3⟩ := (ll Ps).mono (e3.trans e4) p2
    exact ⟨a, xs, e0, .inl (.inl g2), fun p hp => q _ _ (((e2.trans e3).trans e4).trans (same_new hp)) ⟨p, _, rfl, upd_same, (g3.cut lo hi).mono (same_new hp)⟩⟩
theorem er_slT {Ps : List Pd} {t2 : TO} {j : Nat} (h : Er te σ H (tl K Ps)) (h2 : Eo t2 σ H (some (j : Int))) (hj : j < Ps.length) : Er (tSl (rSlT K) te tNoPart t2) σ H (tl K (Ps.take j)) := fun H1 e Q q =>
  h H1 e _ fun v H2 e2 p2 => h2 H2 (e.trans e2) _ fun H3 e3 => by
    obtain ⟨a, xs, e0, g2, g3⟩ := (tl K Ps).mono e3 p2
    refine ⟨a, xs, e0, g2, fun hh => ?_, fun p hp => q _ _ ((e2.trans e3).trans (same_new hp)) ⟨p, _, rfl, .inl (.inl upd_same), ?_⟩⟩
    · have h3 := hh.2
      rw [HT.sIx_nat, g3.len] at h3
      omega
    · have g4 := (g3.cut none (some (j : Int))).mono (same_new (o := .tup (cutV xs none (some (j : Int)))) hp)
      rw [cutP_to] at g4
      exact g4
theorem er_cat {Ps Qs : List Pd} (ha : Er ta σ H (ll Ps)) (hb : Er tb σ H (ll Qs)) (hl : Ps.length + Qs.length ≤ 100000) : Er (tOp rCat ta tb) σ H (ll (Ps ++ Qs)) := er_op ha hb fun H1 x y _ px py Q q => by
  obtain ⟨a, xs, e0, g2, g3⟩ := px
  obtain ⟨b, ys, e1, k2, k3⟩ := py
  refine ⟨a, b, xs, ys, e0, e1, g2, k2, by rw [g3.len, k3.len]; exact sz_of hl, fun p hp => q _ _ (same_new hp) ⟨p, _, rfl, upd_same, (g3.app k3).mono (same_new hp)⟩⟩
theorem PL.rep {H : Hp} {Ps : List Pd} {vs : List V} (h : PL Ps vs H) : ∀ n : Nat, PL (List.replicate n Ps).flatten (List.replicate n vs).flatten H
  | 0 => trivial
  | n + 1 => by
    rw [List.replicate_succ, List.replicate_succ, List.flatten_cons, List.flatten_cons]
    exact h.app (PL.rep h n)
theorem er_rep1 {k : Int} (ha : Er ta σ H (ll [P])) (hb : Er tb σ H (pint k)) (h0 : 0 ≤ k) (h1 : k ≤ 100000) : Er (tOp rRep ta tb) σ H (ll (List.replicate k.toNat P)) := er_op ha hb fun H1 x y _ px py Q q => by
  obtain ⟨a, xs, e0, g2, g3⟩ := px
  have hl : xs.length = 1 := g3.len
  refine ⟨a, k, xs, e0, py, g2, by omega, by omega, by rw [hl, Nat.one_mul]; exact sz_of (by omega), fun p hp => q _ _ (same_new hp) ⟨p, _, rfl, upd_same, ?_⟩⟩
  have g4 := (g3.rep k.toNat).mono (same_new (o := .lst (List.replicate k.toNat xs).flatten) hp)
  have e : (List.replicate k.toNat [P]).flatten = List.replicate k.toNat P := by simp
  rw [e] at g4
  exact g4
theorem er_rev {Ps : List Pd} (h : Er te σ H (ll Ps)) : Er (tRevL K te) σ H (ll Ps.reverse) := fun H1 e Q q => h H1 e _ fun v H2 e2 p2 => by
  obtain ⟨a, xs, e0, g2, g3⟩ := p2
  exact ⟨a, xs, e0, .inl (.inl g2), fun p hp => q _ _ (e2.trans (same_new hp)) ⟨p, _, rfl, upd_same, g3.rev.mono (same_new hp)⟩⟩
theorem er_in {neg : Bool} {x : V} {xs : List V} (ha : Er ta σ H (is x)) (hb : Er tb σ H (tl K (xs.map is))) (hx : flatV x = true) (hf : xs.all flatV = true) : Er (tOp (rIn K neg) ta tb) σ H (pbl (if neg then !inV x xs else inV x xs)) := er_op ha hb fun H1 a b _ pa pb Q q => by
  obtain ⟨p, ys, e0, g2, g3⟩ := pb
  have e1 : ys = xs := g3.vals
  have e2 : a = x := pa
  subst e1 e2
  exact ⟨p, ys, e0, .inr g2, hx, hf, q _ H1 (Same.refl H1) rfl⟩
theorem er_isB {neg a b : Bool} (ha : Er ta σ H (pbl a)) (hb : Er tb σ H (pbl b)) : Er (tOp rNotB ta tb) σ H (pbl (!decide (a = b))) := er_op ha hb fun H1 x y _ px py Q q => ⟨a, b, px, py, q _ H1 (Same.refl H1) rfl⟩
theorem er_notN {x : V} (ha : Er ta σ H (is x)) : Er (tOp (fun x y H Q => y = .non ∧ Q (.bl (!decide (x = .non))) H) ta (tC .non)) σ H (pbl (!decide (x = .non))) := er_opV ha er_c fun H1 _ Q q => ⟨rfl, q _ H1 (Same.refl H1) rfl⟩
theorem er_isi {x : V} {b : Bool} {t : String} (ha : Er ta σ H (is x)) (ht : ∀ H, TyOf K H x (.type t)) (hb : kitB t "bool" = some b) : Er (tCB (rIsi K) (tCons ta (tCons (tC (.ty "bool")) tNil))) σ H (pbl b) := er_cb (ea_cons ha (ea_cons er_c ea_nil)) fun H1 vs _ p Q q => by
  obtain ⟨v, u, e0, p1, p2⟩ := pl2 p
  have e1 : v = x := p1
  have e2 : u = .ty "bool" := p2
  subst e0 e1 e2
  exact ⟨_, _, .type t, .type "bool", b, rfl, .ty _, .base (ht H1), kit_ty hb, q _ H1 (Same.refl H1) rfl⟩
/-- == of lists or tuples of ints -/
theorem dp_ints {H : Hp} : ∀ ns : List Int, DpAll K H (ns.map V.int) (ns.map PyData.int)
  | [] => .nil
  | n :: ns => .cons (.int n) (dp_ints ns)
theorem eqv_ints : ∀ ns ms : List Int, PyData.eqvAll (ns.map PyData.int) (ms.map PyData.int) = decide (ns = ms)
  | [], [] => by
    rw [List.map_nil]
    unfold PyData.eqvAll
    rfl
  | [], m :: ms => by
    rw [List.map_nil, List.map_cons]
    unfold PyData.eqvAll
    rfl
  | n :: ns, [] => by
    rw [List.map_nil, List.map_cons]
    unfold PyData.eqvAll
    rfl
  | n :: ns, m :: ms => by
    rw [List.map_cons, List.map_cons]
    unfold PyData.eqvAll PyData.eqv
    rw [eqv_ints ns ms]
    by_cases h : n = m
    · subst h
      rw [beq_self_eq_true, Bool.true_and]
      exact decide_eq_decide.mpr ⟨fun h => by rw [h], fun h => List.tail_eq_of_cons_eq h⟩
    · rw [beq_eq_false_iff_ne.mpr h, Bool.false_and]
      exact (decide_eq_false (fun e => h (List.head_eq_of_cons_eq e))).symm
theorem shaped_tints (ns : List Int) : SeqAt.shaped (.tuple (ns.map PyData.int)) = true := by
  have h := PySem.W.shaped_ints ns
  unfold SeqAt.shaped at h ⊢
  simp only [PyData.canLay0, PyData.depth] at h ⊢
  exact h
theorem er_eqL {ns ms : List Int} (ha : Er ta σ H (ll (ns.map pint))) (hb : Er tb σ H (ll (ms.map pint))) : Er (tOp (rEqD K) ta tb) σ H (pbl (decide (ns = ms))) := er_op ha hb fun H1 x y _ px py Q q => by
  obtain ⟨a, xs, e0, g2, g3⟩ := px
  obtain ⟨b, ys, e1, k2, k3⟩ := py
  have e2 : xs = ns.map V.int := g3.valsf
  have e3 : ys = ms.map V.int := k3.valsf
  subst e2 e3 e0 e1
  refine ⟨.list (ns.map PyData.int), .list (ms.map PyData.int), .lst (.inl (.inl g2)) (dp_ints ns), .lst (.inl (.inl k2)) (dp_ints ms), PySem.W.shaped_ints ns, PySem.W.shaped_ints ms, q _ H1 (Same.refl H1) ?_⟩
  show V.bl (PyData.eqv (.list (ns.map PyData.int)) (.list (ms.map PyData.int))) = V.bl (decide (ns = ms))
  unfold PyData.eqv
  rw [eqv_ints]
theorem er_eqT {ns ms : List Int} (ha : Er ta σ H (tl K (ns.map pint))) (hb : Er tb σ H (tl K (ms.map pint))) : Er (tOp (rEqD K) ta tb) σ H (pbl (decide (ns = ms))) := er_op ha hb fun H1 x y _ px py Q q => by
  obtain ⟨a, xs, e0, g2, g3⟩ := px
  obtain ⟨b, ys, e1, k2, k3⟩ := py
  have e2 : xs = ns.map V.int := g3.valsf
  have e3 : ys = ms.map V.int := k3.valsf
  subst e2 e3 e0 e1
  refine ⟨.tuple (ns.map PyData.int), .tuple (ms.map PyData.int), .tup g2 (dp_ints ns), .tup k2 (dp_ints ms), shaped_tints ns, shaped_tints ms, q _ H1 (Same.refl H1) ?_⟩
  show V.bl (PyData.eqv (.tuple (ns.map PyData.int)) (.tuple (ms.map PyData.int))) = V.bl (decide (ns = ms))
  unfold PyData.eqv
  rw [eqv_ints]
/-- texts -/
theorem er_split {a b : Str} {to : TE} (ho : Er to σ H (pstr a)) (he : Er te σ H (pstr b)) (hb : (b.length == 0) = false) (hl : a.length + 2 ≤ 100000) :
    Er (tM1 (fun x xs H Q => ∃ a b, x = .str a ∧ xs = [.str b] ∧ (b.length == 0) = false ∧ a.length + 2 ≤ sizeLine ∧ rNewStrs (Txt.split a b) H Q) to te) σ H (ll ((Txt.split a b).map pstr)) := fun H1 e Q q =>
  ho H1 e _ fun v H2 e2 p2 => ⟨⟨a, p2⟩, he H2 (e.trans e2) _ fun w H3 e3 p3 => ⟨a, b, p2, by rw [show w = V.str b from p3], hb, sz_of hl, fun p hp => q _ _ ((e2.trans e3).trans (same_new hp)) ⟨p, _, rfl, upd_same, PL.off _⟩⟩⟩
theorem er_join {a : Str} {ys : List Str} {to : TE} (ho : Er to σ H (pstr a)) (he : Er te σ H (ll (ys.map pstr))) (hl : (ys.map (·.length)).sum + ys.length * a.length ≤ 100000) :
    Er (tM1 (fun x xs H Q => ∃ a p, ∃ ys : List Str, x = .str a ∧ xs = [.ref p] ∧ (SqL K H p (ys.map V.str) ∨ SqT K H p (ys.map V.str)) ∧ (ys.map (·.length)).sum + ys.length * a.length ≤ 16777216 ∧ Q (.str (Txt.join a ys)) H) to te) σ H (pstr (Txt.join a ys)) := fun H1 e Q q =>
  ho H1 e _ fun v H2 e2 p2 => ⟨⟨a, p2⟩, he H2 (e.trans e2) _ fun w H3 e3 p3 => by
    obtain ⟨p, xs, e0, g2, g3⟩ := p3
    have e1 : xs = ys.map V.str := g3.valsf
    subst e1 e0
    exact ⟨a, p, ys, p2, rfl, .inl (.inl (.inl g2)), Nat.le_trans hl (by decide), q _ H3 (e2.trans e3) rfl⟩⟩
theorem er_intS {a : Str} {n : Int} (h : Er te σ H (pstr a)) (hn : PySem.intText? a = some n) (hl : a.length ≤ 640) : Er (tCB (fun xs H Q => ∃ a n, xs = [.str a] ∧ PySem.intText? a = some n ∧ a.length ≤ 640 ∧ Q (.int n) H) (tCons te tNil)) σ H (pint n) := er_cb1 h fun H1 v _ p Q q =>
  ⟨a, n, by rw [show v = V.str a from p], hn, hl, q _ H1 (Same.refl H1) rfl⟩
theorem er_intI {n : Int} (h : Er te σ H (pint n)) : Er (tCB (fun xs H Q => (∃ i, xs = [.int i] ∧ Q (.int i) H) ∨ ∃ k, xs = [.bl k] ∧ Q (.int (if k then 1 else 0)) H) (tCons te tNil)) σ H (pint n) := er_cb1 h fun H1 v _ p Q q =>
  .inl ⟨n, by rw [show v = V.int n from p], q _ H1 (Same.refl H1) rfl⟩
theorem er_strI {n : Int} (h : Er te σ H (pint n)) (hn : n.natAbs.log2 < 1920) : Er (tCB (fun xs H Q => ∃ i, xs = [.int i] ∧ i.natAbs.log2 < 1920 ∧ Q (.str (toString i)) H) (tCons te tNil)) σ H (pstr (toString n : String)) := er_cb1 h fun H1 v _ p Q q =>
  ⟨n, by rw [show v = V.int n from p], hn, q _ H1 (Same.refl H1) rfl⟩
theorem er_abs {n : Int} (h : Er te σ H (pint n)) : Er (tCB (fun xs H Q => ∃ i, xs = [.int i] ∧ Q (.int (if i < 0 then -i else i)) H) (tCons te tNil)) σ H (pint (if n < 0 then -n else n)) := er_cb1 h fun H1 v _ p Q q =>
  ⟨n, by rw [show v = V.int n from p], q _ H1 (Same.refl H1) rfl⟩
end
theorem ktup_p {K : PySem.W.Frag} {mg : Str → Option Value} {x : Str} {a : Addr} {xs : List V} (h : KTup K mg x a xs) {H : Hp} : (tl K (xs.map is)).p (.ref a) H := ⟨a, xs, rfl, h.2 H, PL.ofv xs⟩
end Ft
set_option maxHeartbeats 4000000
/-! texts of ways and papers -/
namespace Ft
open PySem PySem.Spec PyProof.Rows L2
abbrev sWay : Str := "way"
abbrev sSp : Str := " "
abbrev sNl : Str := "\n"
abbrev sAlike : Str := "alike"
abbrev sUnlike : Str := "unlike"
def vWord (b : Bool) : Str := if b then sAlike else sUnlike
/-- the letter k + 1 as a text -/
def dg (k : Nat) : Str := Str.ofString (toString (((k + 1 : Nat) : Int)))
def wayL (w : List Nat) : List Str := sWay :: w.map dg
def lineT (w : List Nat) : Str := Txt.join sSp (wayL w)
def heapT (wd : Str) (w1 w2 : List Nat) : Str := Txt.join sNl [wd, lineT w1, lineT w2]
theorem joinL_mem {c : Nat} {S : List Nat} : ∀ {ps : List (List Nat)}, c ∈ TL.joinL S ps → c ∈ S ∨ ∃ p ∈ ps, c ∈ p
  | [], h => by cases h
  | [p], h => .inr ⟨p, by simp, h⟩
  | p :: q :: r, h => by
    have h' : c ∈ p ++ (S ++ TL.joinL S (q :: r)) := h
    rcases List.mem_append.mp h' with h1 | h1
    · exact .inr ⟨p, by simp, h1⟩
    · rcases List.mem_append.mp h1 with h2 | h2
      · exact .inl h2
      · rcases joinL_mem h2 with h3 | ⟨z, hz, h3⟩
        · exact .inl h3
        · exact .inr ⟨z, List.mem_cons_of_mem _ hz, h3⟩
theorem joinL_len {S : List Nat} : ∀ ps : List (List Nat), (TL.joinL S ps).length ≤ (ps.map (·.length)).sum + ps.length * S.length
  | [] => by simp [TL.joinL]
  | [p] => by
    show p.length ≤ _
    simp
  | p :: q :: r => by
    show (p ++ (S ++ TL.joinL S (q :: r))).length ≤ _
    have h := joinL_len (S := S) (q :: r)
    rw [List.length_append, List.length_append, List.map_cons, List.sum_cons, List.length_cons, Nat.succ_mul]
    omega
theorem tl_txt (y : Str) (ps : List Str) : TL.tl (Txt.join y ps) = TL.joinL (TL.tl y) (ps.map TL.tl) := by
  rw [TL.join_eq, TL.tl_join]
theorem join_len (y : Str) (ps : List Str) : (Txt.join y ps).length ≤ (ps.map (·.length)).sum + ps.length * y.length := by
  rw [TL.len_tl, tl_txt]
  have h := joinL_len (S := TL.tl y) (ps.map TL.tl)
  rw [List.map_map, List.length_map] at h
  rw [TL.len_tl y]
  have e : (ps.map (·.length)) = ps.map ((fun x => x.length) ∘ TL.tl) := by
    apply List.map_congr_left
    intro x _
    exact TL.len_tl x
  rw [e]
  exact h
theorem tl_dg (k : Nat) : TL.tl (dg k) = TL.numL (k + 1) := TL.tl_num (k + 1)
theorem dg_free {k c : Nat} (h : c < 48) : c ∉ TL.tl (dg k) := by
  rw [tl_dg]
  exact TL.numL_free (.inl h)
theorem dg_len {k : Nat} (h : k < 4) : (dg k).length = 1 := by
  rw [TL.len_tl, tl_dg, TL.numL_lt (by omega)]
  rfl
theorem dg_int {k : Nat} (h : k < 4) : PySem.intText? (dg k) = some ((k : Int) + 1) := by
  have e := TL.int_num (n := k + 1) (by rw [TL.numL_lt (by omega)]; show 1 ≤ 4300; decide)
  exact e
theorem tl_way : TL.tl sWay = [119, 97, 121] := by decide +kernel
theorem tl_sp : TL.tl sSp = [32] := by decide +kernel
theorem tl_nl : TL.tl sNl = [10] := by decide +kernel
theorem tl_al : TL.tl sAlike = [97, 108, 105, 107, 101] := by decide +kernel
theorem tl_un : TL.tl sUnlike = [117, 110, 108, 105, 107, 101] := by decide +kernel
theorem len_way : sWay.length = 3 := by rw [TL.len_tl, tl_way]; rfl
theorem len_sp : sSp.length = 1 := by rw [TL.len_tl, tl_sp]; rfl
theorem len_nl : sNl.length = 1 := by rw [TL.len_tl, tl_nl]; rfl
theorem vWord_tl (b : Bool) : TL.tl (vWord b) = [97, 108, 105, 107, 101] ∨ TL.tl (vWord b) = [117, 110, 108, 105, 107, 101] := by
  cases b with
  | true => exact .inl tl_al
  | false => exact .inr tl_un
theorem vWord_len (b : Bool) : (vWord b).length ≤ 6 := by
  rw [TL.len_tl]
  rcases vWord_tl b with h | h <;> (rw [h]; decide)
theorem digs_len {w : List Nat} (h : ∀ k ∈ w, k < 4) : ((w.map dg).map (·.length)).sum = w.length := by
  induction w with
  | nil => rfl
  | cons k w ih =>
    rw [List.map_cons, List.map_cons, List.sum_cons, ih (fun j hj => h j (List.mem_cons_of_mem _ hj)), dg_len (h k (List.mem_cons_self ..)), List.length_cons]
    omega
theorem wayL_len {w : List Nat} (h : ∀ k ∈ w, k < 4) : ((wayL w).map (·.length)).sum = w.length + 3 := by
  unfold wayL
  rw [List.map_cons, List.sum_cons, digs_len h, len_way]
  omega
theorem lineT_len {w : List Nat} (h : ∀ k ∈ w, k < 4) : (lineT w).length ≤ 2 * w.length + 4 := by
  have := join_len sSp (wayL w)
  rw [wayL_len h, len_sp] at this
  have e : (wayL w).length = w.length + 1 := by
    unfold wayL
    rw [List.length_cons, List.length_map]
  unfold lineT
  omega
theorem heapT_len {b : Bool} {w1 w2 : List Nat} (h1 : ∀ k ∈ w1, k < 4) (h2 : ∀ k ∈ w2, k < 4) : (heapT (vWord b) w1 w2).length ≤ 2 * w1.length + 2 * w2.length + 20 := by
  have := join_len sNl [vWord b, lineT w1, lineT w2]
  rw [len_nl] at this
  have a1 := lineT_len h1
  have a2 := lineT_len h2
  have a3 := vWord_len b
  unfold heapT
  simp only [List.map_cons, List.map_nil, List.sum_cons, List.sum_nil, List.length_cons, List.length_nil] at this
  omega
/-- a line, split -/
theorem split_line (w : List Nat) : Txt.split (lineT w) sSp = wayL w := by
  refine TL.split_join (s := 32) (S := []) tl_sp (by decide +kernel) (by unfold wayL; simp) fun p hp => ?_
  unfold wayL at hp
  rcases List.mem_cons.mp hp with e | e
  · rw [e, tl_way]
    decide
  · obtain ⟨k, _, ek⟩ := List.mem_map.mp e
    rw [← ek]
    exact dg_free (by omega)
theorem line_free (w : List Nat) : 10 ∉ TL.tl (lineT w) := fun h => by
  unfold lineT at h
  rw [tl_txt, tl_sp] at h
  rcases joinL_mem h with h1 | ⟨p, hp, h1⟩
  · exact absurd h1 (by decide)
  · obtain ⟨q, hq, eq⟩ := List.mem_map.mp hp
    subst eq
    unfold wayL at hq
    rcases List.mem_cons.mp hq with e | e
    · rw [e, tl_way] at h1
      exact absurd h1 (by decide)
    · obtain ⟨k, _, ek⟩ := List.mem_map.mp e
      rw [← ek] at h1
      exact dg_free (by omega) h1
theorem split_heap (b : Bool) (w1 w2 : List Nat) : Txt.split (heapT (vWord b) w1 w2) sNl = [vWord b, lineT w1, lineT w2] := by
  refine TL.split_join (s := 10) (S := []) tl_nl (by decide +kernel) (by simp) fun p hp => ?_
  have e : p = vWord b ∨ p = lineT w1 ∨ p = lineT w2 := by simpa using hp
  rcases e with e | e | e
  · rw [e]
    rcases vWord_tl b with h | h <;> (rw [h]; decide)
  · rw [e]; exact line_free w1
  · rw [e]; exact line_free w2
theorem split_one {z : Str} (h : 32 ∉ TL.tl z) : Txt.split z sSp = [z] := by
  have e := TL.split_join (y := sSp) (s := 32) (S := []) tl_sp (by decide +kernel) (parts := [z]) (by simp) fun p hp => by
    rw [List.mem_singleton.mp hp]
    exact h
  have e2 : Txt.join sSp [z] = z := by rw [TL.join_eq]; rfl
  rw [e2] at e
  exact e
theorem split_word (b : Bool) : Txt.split (vWord b) sSp = [vWord b] := split_one (by rcases vWord_tl b with h | h <;> (rw [h]; decide))
def LTx : List V := [.str "1", .str "2", .str "3", .str "4"]
theorem dg_lit (k : Nat) (h : k < 4) : dg k = ((["1", "2", "3", "4"] : List String).map Str.ofString).getD k Str.empty := by
  refine TL.ext_tl ?_
  rw [tl_dg, TL.numL_lt (by omega)]
  match k, h with
  | 0, _ => decide +kernel
  | 1, _ => decide +kernel
  | 2, _ => decide +kernel
  | 3, _ => decide +kernel
theorem inV_dg {k : Nat} (h : k < 4) : inV (.str (dg k)) LTx = true := by
  rw [dg_lit k h]
  match k, h with
  | 0, _ => decide +kernel
  | 1, _ => decide +kernel
  | 2, _ => decide +kernel
  | 3, _ => decide +kernel
theorem word_ne : ¬ (sUnlike = sAlike) := by decide +kernel

/-! ### what a list of the heap does not lean on -/
def ErN (te : TE) (σ : L2.St) (H : Hp) (P : Pd) : Prop := ∀ H1, Same H H1 → ∀ Q : VK, (∀ v H2, Same H1 H2 → P.p v H2 → (∀ l xs ys, H1 l = some (.lst xs) → P.p v (upd H2 l (.lst ys))) → Q v H2) → te σ H1 Q
theorem same_upd2 {H H' : Hp} {l : Addr} {o : HO} (e : Same H H') : Same (upd H l o) (upd H' l o) := fun b q h => by
  by_cases hb : b = l
  · subst hb
    rw [upd_same] at h ⊢
    exact h
  · rw [upd_ne hb] at h ⊢
    exact e _ _ h
section
variable {K : PySem.W.Frag} {σ : L2.St} {H : Hp} {te : TE}
theorem ErN.er {P : Pd} (h : ErN te σ H P) : Er te σ H P := fun H1 e Q q => h H1 e Q fun v H2 e2 p _ => q v H2 e2 p
theorem new_flat {H1 : Hp} {p : Addr} {xs : List V} (hp : H1 p = none) {H0 : Hp} (e : Same H0 H1) : ∀ l zs ys, H0 l = some (.lst zs) → (ll (xs.map is)).p (.ref p) (upd (upd H1 p (.lst xs)) l (.lst ys)) := fun l zs ys hl =>
  ⟨p, xs, rfl, by rw [upd_ne (Ne.symm (ne_of_none (e _ _ hl) hp)), upd_same], PL.ofv _⟩
/-- a comprehension whose elements are new lists -/
theorem er_lcF {α : Type} {as : List α} {A R : α → Pd} {wi : TI} {j : Nat} {vs : List Nat} (h : Ei wi σ H as A) (hn : as.length ≤ 40000)
    (hs : ∀ a x H', a ∈ as → Same H H' → (A a).p x H' → ErN te ((wipe σ vs).set j (some x)) H' (R a)) (hw : ∀ x, wipe ((wipe σ vs).set j (some x)) vs = wipe σ vs := by intro _; rfl) :
    Er (tLc wi (gName j) tYes te vs) σ H (ll (as.map R)) := fun H1 e Q q => h H1 e _ fun J H2 e2 wk => by
  intro Dl hD
  refine ⟨fun i m H' => m = as.length - i ∧ i ≤ as.length ∧ Same H2 H' ∧ ∃ acc, H' Dl = some (.lst acc) ∧ acc.length = i ∧ ∀ ys, PL ((as.take i).map R) acc (upd H' Dl (.lst ys)), ⟨as.length, rfl, Nat.zero_le _, same_new hD, [], upd_same, rfl, fun ys => by rw [List.take_zero]; trivial⟩, ?_⟩
  rintro i m H' ⟨rfl, hi, e3, acc, ha, hl, hp⟩
  obtain ⟨wk1, wk2⟩ := wk H' e3
  by_cases hlt : i < as.length
  · have hg : as[i]? = some as[i] := List.getElem?_eq_getElem hlt
    obtain ⟨go, yl⟩ := wk1 i _ hg
    refine .inr ⟨go, fun H'' => Same H2 H'' ∧ ∃ acc, H'' Dl = some (.lst acc) ∧ acc.length = i + 1 ∧ ∀ ys, PL ((as.take (i + 1)).map R) acc (upd H'' Dl (.lst ys)), fun H'' ⟨s1, s2⟩ => ⟨as.length - (i + 1), by omega, rfl, hlt, s1, s2⟩, fun x H4 hy => ?_⟩
    obtain ⟨e4, p4⟩ := yl x H4 hy
    have ha4 : H4 Dl = some (.lst acc) := e4 _ _ ha
    refine ⟨hw x, hs as[i] x H4 (List.getElem_mem hlt) (((e.trans e2).trans e3).trans e4) p4 H4 (Same.refl _) _ fun y H5 e5 p5 n5 => ?_⟩
    have ha5 : H5 Dl = some (.lst acc) := e5 _ _ ha4
    refine ⟨acc, ha5, sz_lt (by omega), Same.mut ((e3.trans e4).trans e5) hD, acc ++ [y], upd_same, by rw [List.length_append, hl]; rfl, fun ys => ?_⟩
    rw [upd_upd, List.take_add_one, hg, List.map_append]
    exact ((hp ys).mono (same_upd2 (e4.trans e5))).snoc (n5 Dl acc ys ha4)
  · have ei : i = as.length := by omega
    subst ei
    rw [List.take_length] at hp
    have hpa := hp acc
    have eU : upd H' Dl (.lst acc) = H' := by
      funext b
      by_cases hb : b = Dl
      · subst hb
        rw [upd_same, ha]
      · rw [upd_ne hb]
    rw [eU] at hpa
    exact .inl ⟨wk2, q _ _ (e2.trans e3) ⟨Dl, acc, rfl, ha, hpa⟩⟩
theorem map_pstr (ys : List Str) : ys.map pstr = (ys.map V.str).map is := by
  rw [List.map_map]
  rfl
theorem map_pint (ys : List Int) : ys.map pint = (ys.map V.int).map is := by
  rw [List.map_map]
  rfl
theorem ern_split {a b : Str} {to : TE} (ho : Er to σ H (pstr a)) (he : Er te σ H (pstr b)) (hb : (b.length == 0) = false) (hl : a.length + 2 ≤ 100000) :
    ErN (tM1 (fun x xs H Q => ∃ a b, x = .str a ∧ xs = [.str b] ∧ (b.length == 0) = false ∧ a.length + 2 ≤ sizeLine ∧ rNewStrs (Txt.split a b) H Q) to te) σ H (ll ((Txt.split a b).map pstr)) := fun H1 e Q q =>
  ho H1 e _ fun v H2 e2 p2 => ⟨⟨a, p2⟩, he H2 (e.trans e2) _ fun w H3 e3 p3 => ⟨a, b, p2, by rw [show w = V.str b from p3], hb, sz_of hl, fun p hp => q _ _ ((e2.trans e3).trans (same_new hp)) ⟨p, _, rfl, upd_same, PL.off _⟩ (by rw [map_pstr]; exact new_flat hp (e2.trans e3))⟩⟩
theorem ern_slL {xs : List V} {t1 t2 : TO} {lo hi : Option Int} (h : Er te σ H (ll (xs.map is))) (h1 : Eo t1 σ H lo) (h2 : Eo t2 σ H hi) : ErN (tSl (rSlL K) te t1 t2) σ H (ll ((cutP xs lo hi).map is)) := fun H1 e Q q =>
  h H1 e _ fun v H2 e2 p2 => h1 H2 (e.trans e2) _ fun H3 e3 => h2 H3 ((e.trans e2).trans e3) _ fun H4 e4 => by
    obtain ⟨a, zs, e0, g2, g3⟩ := (ll _).mono (e3.trans e4) p2
    have ez : zs = xs := g3.vals
    subst ez
    exact ⟨a, zs, e0, .inl (.inl g2), fun p hp => q _ _ (((e2.trans e3).trans e4).trans (same_new hp)) ⟨p, _, rfl, upd_same, PL.ofv _⟩ (new_flat hp ((e2.trans e3).trans e4))⟩
theorem ern_sorted {ns : List Int} (h : Er te σ H (ll (ns.map pint))) (hl : ns.length < 64) : ErN (tCB (rSorted K) (tCons te tNil)) σ H (ll ((srt ns).map pint)) := fun H1 e Q q => h H1 e _ fun v H2 e2 p2 => by
  obtain ⟨a, xs, e0, h2, h3⟩ := p2
  have e1 : xs = ns.map V.int := h3.valsf
  subst e0 e1
  exact ⟨a, ns, rfl, .inl (.inl h2), hl, fun ns' p p1 p2 hp => q _ _ (e2.trans (same_new hp)) ⟨p, _, rfl, upd_same, by rw [srt_of p1 p2]; exact PL.off _⟩ (by rw [srt_of p1 p2, map_pint]; exact new_flat hp e2)⟩
theorem er_and2 {ta tb : TE} {b c : Bool} (ha : Er ta σ H (pbl b)) (hb : b = true → Er tb σ H (pbl c)) : Er (tAndV ta tb) σ H (pbl (b && c)) := er_and ha (fun h => by subst h; exact hb rfl) (fun h => by rw [h]; rfl)
end
end Ft
set_option maxHeartbeats 4000000
namespace Ft
open PySem PySem.Spec PyProof.Rows L2
theorem dI {a b : Int} : decide (V.int a = V.int b) = decide (a = b) := by
  by_cases h : a = b
  · rw [decide_eq_true h, decide_eq_true (by rw [h])]
  · rw [decide_eq_false h, decide_eq_false (fun e => h (V.int.inj e))]
theorem dS {a b : Str} : decide (V.str a = V.str b) = decide (a = b) := by
  by_cases h : a = b
  · rw [decide_eq_true h, decide_eq_true (by rw [h])]
  · rw [decide_eq_false h, decide_eq_false (fun e => h (V.str.inj e))]
theorem dB {a b : Bool} : decide (V.bl a = V.bl b) = decide (a = b) := by
  by_cases h : a = b
  · rw [decide_eq_true h, decide_eq_true (by rw [h])]
  · rw [decide_eq_false h, decide_eq_false (fun e => h (V.bl.inj e))]
theorem mulW {n : Nat} {a b : Int} (h0 : n ≤ 300000) (ha : a.natAbs < 2 ^ n) (hb : b.natAbs < 2 ^ n) : CMulW a b := by
  refine wide_mul (a := n + 1) (b := n + 1) ?_ ?_ (by omega) (by omega) (by omega)
  · rw [Nat.pow_succ]; omega
  · rw [Nat.pow_succ]; omega
section
variable {P : Program} {w : World} {K : PySem.W.Frag} {mg : Str → Option Value} {base : Heap}
/-! ### is_circle -/
instance (q : Cir) : Decidable (isC q) := by unfold isC; infer_instance
instance (p q : Cir) : Decidable (outw p q) := by unfold outw; infer_instance
instance (p q : Cir) : Decidable (tch p q) := by unfold tch; infer_instance
def spIsC (K : PySem.W.Frag) : Sp := Spf (fun d : Cir × Nat => [cir K d.1]) (fun d => Bd d.2 d.1 ∧ d.2 ≤ 300000) (fun d => pbl (decide (isC d.1)))
theorem c_is_circle (F : Df K mg "is_circle" s_is_circle ["circle"]) (T : Tx K mg) : C8.Cal P w K mg base 1 "is_circle" (spIsC K) [] :=
  F.cal sc_is_circle (fun _ => rfl) fun f cdv An outer s H vs Q E d hr hp hv k => by
    obtain ⟨q, n⟩ := d
    obtain ⟨v, e0, p0⟩ := pl1 hv
    subst e0
    obtain ⟨⟨b1, b2, b3, b4⟩, hn⟩ := hp
    refine ⟨_, (pss_cons (ps_if (pt_cmpR op_ne (pe_callB (call_lenK (K := K) rfl) (by rfl) T.len (by decide +kernel) (pa_cons (pv 0) pa_nil)) pe_int (nomark _)) (pss_one (ps_ret pe_bl)) pss_nil)
    (pss_cons (ps_asg (pv 0) (k_gtup (K := K) rfl (pg_tup (by rfl) (pgs_cons (pg_name (i := 1) sc_is_circle.nd rfl (by first | exact Or.inl rfl | exact Or.inr rfl)) (pgs_cons (pg_name (i := 2) sc_is_circle.nd rfl (by first | exact Or.inl rfl | exact Or.inr rfl)) (pgs_cons (pg_name (i := 3) sc_is_circle.nd rfl (by first | exact Or.inl rfl | exact Or.inr rfl)) (pgs_cons (pg_name (i := 4) sc_is_circle.nd rfl (by first | exact Or.inl rfl | exact Or.inr rfl)) pgs_nil)))))))
    (pss_one (ps_ret (pe_cmpR op_eq (pe_op op_sub (pe_op op_add (pe_op op_mulW (pv 3) (pv 3)) (pe_op op_mulW (pv 4) (pv 4))) (pe_op op_mulW (pv 1) (pv 2))) pe_int (nomark _)))))), ?_⟩
    refine q_ifF ((et_t (er_ne (er_lenT (er_var rfl p0)) er_c rfl)).to rfl) fun H1 e1 => ?_
    refine q_asgG (er_var rfl ((cir K q).mono e1 p0)) fun v2 H2 e2 p2 => g_cir p2 ?_
    refine s_ret ((er_eq (er_I0 (er_I0 (er_I (er_is rfl) (er_is rfl) (mulW hn b3 b3)) (er_I (er_is rfl) (er_is rfl) (mulW hn b4 b4))) (er_I (er_is rfl) (er_is rfl) (mulW hn b1 b2))) er_c rfl).to (P1 := pbl (decide (isC q))) ?_) fun v3 H3 e3 p3 => ?_
    rotate_left
    · exact k v3 H3 ((e1.trans e2).trans e3) p3
    rw [dI]
    rfl
/-! ### check_circle -/
def spChk (K : PySem.W.Frag) : Sp := Spf (fun d : Cir × Nat => [cir K d.1]) (fun d => isC d.1 ∧ Bd d.2 d.1 ∧ d.2 ≤ 300000) (fun d => is .non)
theorem c_check_circle (F : Df K mg "check_circle" s_check_circle ["circle"]) (c_is_circle : C8.Cal P w K mg base 1 "is_circle" (spIsC K) []) : C8.Cal P w K mg base 2 "check_circle" (spChk K) [] :=
  F.cal sc_check_circle (fun _ => rfl) fun f cdv An outer s H vs Q E d hr hp hv k => by
    obtain ⟨q, n⟩ := d
    obtain ⟨v, e0, p0⟩ := pl1 hv
    subst e0
    refine ⟨_, (pss_one (ps_if (pt_not (pt_val (C8.pe_c c_is_circle hr (by decide) (by rfl) (pa_cons (pv 0) pa_nil)))) (pss_one ps_never) pss_nil)), ?_⟩
    refine s_ifF ((et_not (et_v (er_call (q, n) (ea_cons (er_var rfl p0) ea_nil) hp.2))).to (by rw [decide_eq_true hp.1]; rfl)) fun H1 e1 => k _ H1 e1 rfl
/-! ### double -/
def Pre2 (d : Cir × Cir × Nat) : Prop := (isC d.1 ∧ isC d.2.1) ∧ (Bd d.2.2 d.1 ∧ Bd d.2.2 d.2.1) ∧ d.2.2 ≤ 300000
def spDbl (K : PySem.W.Frag) : Sp := Spf (fun d : Cir × Cir × Nat => [cir K d.1, cir K d.2.1]) Pre2 (fun d => pint (dbl d.1 d.2.1))
theorem c_double (F : Df K mg "double" s_double ["one", "other"]) (c_check_circle : C8.Cal P w K mg base 2 "check_circle" (spChk K) []) : C8.Cal P w K mg base 3 "double" (spDbl K) [] :=
  F.cal sc_double (fun _ => rfl) fun f cdv An outer s H vs Q E d hr hp hv k => by
    obtain ⟨p, q, n⟩ := d
    obtain ⟨v, u, e0, p0, q0⟩ := pl2 hv
    subst e0
    obtain ⟨⟨c1, c2⟩, ⟨B1, B2⟩, hn⟩ := hp
    obtain ⟨a1, a2, a3, a4⟩ := id B1
    obtain ⟨b1, b2, b3, b4⟩ := id B2
    refine ⟨_, (pss_cons (ps_expr (C8.pe_c c_check_circle hr (by decide) (by rfl) (pa_cons (pv 0) pa_nil)))
    (pss_cons (ps_expr (C8.pe_c c_check_circle hr (by decide) (by rfl) (pa_cons (pv 1) pa_nil)))
    (pss_cons (ps_asg (pv 0) (k_gtup (K := K) rfl (pg_tup (by rfl) (pgs_cons (pg_name (i := 2) sc_double.nd rfl (by first | exact Or.inl rfl | exact Or.inr rfl)) (pgs_cons (pg_name (i := 3) sc_double.nd rfl (by first | exact Or.inl rfl | exact Or.inr rfl)) (pgs_cons (pg_name (i := 4) sc_double.nd rfl (by first | exact Or.inl rfl | exact Or.inr rfl)) (pgs_cons (pg_name (i := 5) sc_double.nd rfl (by first | exact Or.inl rfl | exact Or.inr rfl)) pgs_nil)))))))
    (pss_cons (ps_asg (pv 1) (k_gtup (K := K) rfl (pg_tup (by rfl) (pgs_cons (pg_name (i := 6) sc_double.nd rfl (by first | exact Or.inl rfl | exact Or.inr rfl)) (pgs_cons (pg_name (i := 7) sc_double.nd rfl (by first | exact Or.inl rfl | exact Or.inr rfl)) (pgs_cons (pg_name (i := 8) sc_double.nd rfl (by first | exact Or.inl rfl | exact Or.inr rfl)) (pgs_cons (pg_name (i := 9) sc_double.nd rfl (by first | exact Or.inl rfl | exact Or.inr rfl)) pgs_nil)))))))
    (pss_one (ps_ret (pe_op op_sub (pe_op op_mul pe_int (pe_op op_add (pe_op op_mulW (pv 4) (pv 8)) (pe_op op_mulW (pv 5) (pv 9)))) (pe_op op_add (pe_op op_mulW (pv 2) (pv 7)) (pe_op op_mulW (pv 6) (pv 3)))))))))), ?_⟩
    refine q_drop (er_call (p, n) (ea_cons (er_var rfl p0) ea_nil) ⟨c1, B1, hn⟩) fun H1 e1 => ?_
    refine q_drop (er_call (q, n) (ea_cons (er_var rfl ((cir K q).mono e1 q0)) ea_nil) ⟨c2, B2, hn⟩) fun H2 e2 => ?_
    have e12 := e1.trans e2
    refine q_asgG (er_var rfl ((cir K p).mono e12 p0)) fun v3 H3 e3 p3 => g_cir p3 ?_
    refine q_asgG (er_var rfl ((cir K q).mono (e12.trans e3) q0)) fun v4 H4 e4 p4 => g_cir p4 ?_
    refine s_ret (P := pint (dbl p q)) (er_I0 (er_I er_c (er_I0 (er_I (er_is rfl) (er_is rfl) (mulW hn a3 b3)) (er_I (er_is rfl) (er_is rfl) (mulW hn a4 b4))) (.inl ⟨by decide, by decide⟩)) (er_I0 (er_I (er_is rfl) (er_is rfl) (mulW hn a1 b2)) (er_I (er_is rfl) (er_is rfl) (mulW hn b1 a2)))) fun v5 H5 e5 p5 => k v5 H5 (((e12.trans e3).trans e4).trans e5) p5
/-! ### are_outward, touch -/
def spOut (K : PySem.W.Frag) : Sp := Spf (fun d : Cir × Cir => [cir K d.1, cir K d.2]) (fun _ => True) (fun d => pbl (decide (outw d.1 d.2)))
theorem c_are_outward (F : Df K mg "are_outward" s_are_outward ["one", "other"]) : C8.Cal P w K mg base 1 "are_outward" (spOut K) [] :=
  F.cal sc_are_outward (fun _ => rfl) fun f cdv An outer s H vs Q E d hr hp hv k => by
    obtain ⟨p, q⟩ := d
    obtain ⟨v, u, e0, p0, q0⟩ := pl2 hv
    subst e0
    refine ⟨_, (pss_cons (ps_set (i := 2) sc_are_outward.nd rfl (by first | exact Or.inl rfl | exact Or.inr rfl) (pe_op op_add (pe_ix (ix_tupK (K := K) rfl) (pv 0) pe_int (fun _ _ => rfl)) (pe_ix (ix_tupK (K := K) rfl) (pv 1) pe_int (fun _ _ => rfl))))
    (pss_one (ps_ret (pe_or (pe_cmpR op_gt (pv 2) pe_int (nomark _)) (pe_one (pe_and (pe_cmpR op_eq (pv 2) pe_int (nomark _)) (pe_one (pe_cmpR op_gt (pe_op op_add (pe_ix (ix_tupK (K := K) rfl) (pv 0) pe_int (fun _ _ => rfl)) (pe_ix (ix_tupK (K := K) rfl) (pv 1) pe_int (fun _ _ => rfl))) pe_int (nomark _))))))))), ?_⟩
    refine q_asg (er_I0 (er_ixT (er_var rfl p0) er_c rfl) (er_ixT (er_var rfl q0) er_c rfl)) fun v1 H1 e1 p1 => ?_
    have p1' : v1 = V.int (p.b + q.b) := p1
    subst p1'
    refine s_ret (P := pbl (decide (outw p q))) (er_or (er_I0 (er_is rfl) er_c) (fun h => er_and (er_eq (er_is rfl) er_c rfl) (fun h2 => (er_I0 (er_I0 (er_ixT (er_var rfl ((cir K p).mono e1 p0)) er_c rfl) (er_ixT (er_var rfl ((cir K q).mono e1 q0)) er_c rfl)) er_c).to ?_) ?_) ?_) fun v5 H5 e5 p5 => ?_
    rotate_left 3
    · exact k v5 H5 (e1.trans e5) p5
    · rw [dI] at h2
      have h3 := of_decide_eq_true h2
      have h4 := of_decide_eq_false h
      show is (.bl (decide (0 < p.c + q.c))) = is (.bl (decide (outw p q)))
      congr 2
      unfold outw
      exact decide_eq_decide.mpr (by omega)
    · intro h2
      rw [dI] at h2
      have h3 := of_decide_eq_false h2
      have h4 := of_decide_eq_false h
      exact decide_eq_false (by unfold outw; omega)
    · intro h2
      have h3 := of_decide_eq_true h2
      exact decide_eq_true (by unfold outw; omega)
def spTch (K : PySem.W.Frag) : Sp := Spf (fun d : Cir × Cir × Nat => [cir K d.1, cir K d.2.1]) Pre2 (fun d => pbl (decide (tch d.1 d.2.1)))
theorem c_touch (F : Df K mg "touch" s_touch ["one", "other"]) (c_double : C8.Cal P w K mg base 3 "double" (spDbl K) []) (c_are_outward : C8.Cal P w K mg base 1 "are_outward" (spOut K) []) : C8.Cal P w K mg base 4 "touch" (spTch K) [] :=
  F.cal sc_touch (fun _ => rfl) fun f cdv An outer s H vs Q E d hr hp hv k => by
    obtain ⟨p, q, n⟩ := d
    obtain ⟨v, u, e0, p0, q0⟩ := pl2 hv
    subst e0
    refine ⟨_, (pss_one (ps_ret (pe_and (pe_cmpR op_eq (C8.pe_c c_double hr (by decide) (by rfl) (pa_cons (pv 0) (pa_cons (pv 1) pa_nil))) (pe_un un_neg pe_int) (nomark _)) (pe_one (C8.pe_c c_are_outward hr (by decide) (by rfl) (pa_cons (pv 0) (pa_cons (pv 1) pa_nil))))))), ?_⟩
    refine s_ret (P := pbl (decide (tch p q))) (er_and (er_eq (er_call (p, q, n) (ea_cons (er_var rfl p0) (ea_cons (er_var rfl q0) ea_nil)) hp) (er_neg er_c) rfl) (fun h => (er_call (p, q) (ea_cons (er_var rfl p0) (ea_cons (er_var rfl q0) ea_nil)) trivial).to ?_) ?_) fun v5 H5 e5 p5 => k v5 H5 e5 p5
    · rw [dI] at h
      have h3 := of_decide_eq_true h
      show is (.bl (decide (outw p q))) = is (.bl (decide (tch p q)))
      congr 2
      unfold tch
      exact decide_eq_decide.mpr ⟨fun h => ⟨h3, h⟩, fun h => h.2⟩
    · intro h
      rw [dI] at h
      have h3 := of_decide_eq_false h
      exact decide_eq_false (fun h => h3 h.1)
end
end Ft
set_option maxHeartbeats 4000000
namespace Ft
open PySem PySem.Spec PyProof.Rows L2
def wI (w : List Nat) : List Int := w.map fun k : Nat => ((k : Nat) : Int) + 1
def W4 (w : List Nat) : Prop := ∀ k ∈ w, k < 4
def L1234 : List V := [.int 1, .int 2, .int 3, .int 4]
theorem inV_num {k : Nat} (h : k < 4) : inV (.int ((k : Int) + 1)) L1234 = true := by
  match k, h with
  | 0, _ => rfl
  | 1, _ => rfl
  | 2, _ => rfl
  | 3, _ => rfl
section
variable {P : Program} {w : World} {K : PySem.W.Frag} {mg : Str → Option Value} {base : Heap} {C : Addr}
def spWord (K : PySem.W.Frag) : Sp := Spf (fun d : List Nat => [tl K ((wI d).map pint)]) W4 (fun _ => is .non)
theorem c_check_word (F : Df K mg "check_word" s_check_word ["word"]) (T : Tx K mg) {aLW : Addr} (hLW : KTup K mg "LETTERS_words" aLW L1234) : C8.Cal P w K mg base 1 "check_word" (spWord K) [] :=
  F.cal sc_check_word (fun _ => rfl) fun f cdv An outer s H vs Q E d hr hp hv k => by
    obtain ⟨v, e0, p0⟩ := pl1 hv
    subst e0
    refine ⟨_, (pss_one (ps_for PassesOwn.never rfl (k_tup (K := K) rfl (pi_tup (pv 0))) (pg_name (i := 1) sc_check_word.nd rfl (by first | exact Or.inl rfl | exact Or.inr rfl))
      (pss_one (ps_if (PW.pt (pw_or (pt_val (pe_callB (call_isiX (K := K) rfl) (by rfl) T.isinstance (by decide +kernel) (pa_cons (pv 1) (pa_cons (pe_bltn (v := V.ty "bool") (by rfl) T.bool (by decide +kernel) rfl) pa_nil)))) (pw_or1 (pt_cmpR (op_notIn_seqK (K := K) rfl) (pv 1) (pe_glob (v := V.ref aLW) rfl hLW.1 rfl) (by rfl))))) (pss_one ps_never) pss_nil)))), ?_⟩
    refine s_for (ei_tup (as := wI d) (A := pint) (er_var rfl p0)) (fun _ σ' _ => ∃ z, σ' = [some v, z]) (fun H1 e1 => ⟨none, rfl⟩) (fun i a x σ' H1 H' ha e1 hz e2 pa N hN => ?_) (fun σ' H' e1 _ => k _ H' e1 rfl)
    obtain ⟨z, e3⟩ := hz
    have e4 : x = .int a := pa
    subst e3 e4
    have hm : a ∈ wI d := List.mem_of_getElem? ha
    obtain ⟨j, hj, ej⟩ := List.mem_map.mp hm
    subst ej
    refine s_ifF (D := { nx := N, rt := Q, ct := N, bk := fun _ H' => Q .non H' }) (et_or (et_v (er_isi (b := false) (er_is rfl) (fun H => .int _) (by decide +kernel))) (fun _ => (et_t (er_in (neg := true) (er_is rfl) (er_cP (ktup_p hLW)) rfl rfl)).to ?_) (fun h => nomatch h)) fun H3 e3 => hN _ H3 e3 ⟨_, rfl⟩
    show (!inV (.int ((j : Int) + 1)) L1234) = false
    rw [inV_num (hp j hj)]
    rfl
def spNum (K : PySem.W.Frag) : Sp := Spf (fun d : Nat => [pint ((d : Int) + 1)]) (fun d => d < 4) (fun _ => is .non)
theorem c_check_number (F : Df K mg "check_number" s_check_number ["number"]) {aNU : Addr} (hNU : KTup K mg "NUMBERS" aNU L1234) : C8.Cal P w K mg base 1 "check_number" (spNum K) [] :=
  F.cal sc_check_number (fun _ => rfl) fun f cdv An outer s H vs Q E d hr hp hv k => by
    obtain ⟨v, e0, p0⟩ := pl1 hv
    have e1 : v = .int ((d : Int) + 1) := p0
    subst e0 e1
    refine ⟨_, (pss_one (ps_if (pt_cmpR (op_notIn_seqK (K := K) rfl) (pv 0) (pe_glob (v := V.ref aNU) rfl hNU.1 rfl) (by rfl)) (pss_one ps_never) pss_nil)), ?_⟩
    refine s_ifF ((et_t (er_in (neg := true) (er_is rfl) (er_cP (ktup_p hNU)) rfl rfl)).to ?_) fun H3 e3 => k _ H3 e3 rfl
    show (!inV (.int ((d : Int) + 1)) L1234) = false
    rw [inV_num hp]
    rfl
/-- the class Four -/
structure Tc (K : PySem.W.Frag) (C : Addr) : Prop where
  cl : Cls K C
  nC : NoAttr K C "circles"
def spCurv (K : PySem.W.Frag) (C : Addr) : Sp := Spf (fun l : List Cir => [four K C l]) (fun l => l.length = 4) (fun l => tl K ((cv l).map pint))
theorem m_curvatures (F : Dm K C "curvatures" "Four.curvatures" s_Four_curvatures ["self"]) (T : Tx K mg) (Tc : Tc K C) : C8.Met P w K mg base 1 C "curvatures" (spCurv K C) [] :=
  F.met sc_Four_curvatures (fun _ => rfl) fun f cdv An outer s H vs Q E l hr hp hv k => by
    obtain ⟨v, e0, p0⟩ := pl1 hv
    subst e0
    refine ⟨_, (pss_one (ps_ret (pe_callTy (call_tupleK (K := K) rfl) (by rfl) T.tuple (by decide +kernel) (pa_cons (pe_lc (own := [("circle", 1)]) (g := (gName 1)) (tt := tYes) rfl sc_Four_curvatures.nd (k_tup (K := K) rfl (pi_tup (k_fld (K := K) rfl (pe_fld (pv 0) rfl)))) (blkOk_by (own := [("circle", 1)]) (N := n_Four_curvatures) (sc := defScope s_Four_curvatures) (by decide +kernel)) (fun _ _ _ _ _ => (pg_name (i := 1) sc_Four_curvatures.nd rfl (by first | exact Or.inl rfl | exact Or.inr rfl))) (fun _ _ _ _ _ => pts_nil) (fun _ _ _ _ _ => (pe_ix (ix_tupK (K := K) rfl) (pv 1) pe_int (fun _ _ => rfl)))) pa_nil)))), ?_⟩
    refine s_ret (P := tl K ((cv l).map pint)) ((er_tupL (er_lcN (as := l) (A := cir K) (R := fun q => pint q.b) (ei_tup (er_circles (er_var rfl p0) Tc.cl Tc.nC)) (by omega) (fun _ _ => solid_is) (fun q x H' _ _ px => er_ixT (er_var rfl px) er_c rfl))).to ?_) (fun v1 H1 e1 p1 => ?_)
    · congr 1
      unfold cv
      rw [List.map_map]
      rfl
    · exact k v1 H1 e1 p1
def spCirc (K : PySem.W.Frag) (C : Addr) : Sp := Spf (fun d : List Cir × Nat => [four K C d.1, pint ((d.2 : Int) + 1)]) (fun d => d.1.length = 4 ∧ d.2 < 4) (fun d => cir K (d.1.getD d.2 c0))
theorem m_circle (F : Dm K C "circle" "Four.circle" s_Four_circle ["self", "number"]) (Tc : Tc K C) (c_check_number : C8.Cal P w K mg base 1 "check_number" (spNum K) []) : C8.Met P w K mg base 2 C "circle" (spCirc K C) [] :=
  F.met sc_Four_circle (fun _ => rfl) fun f cdv An outer s H vs Q E d hr hp hv k => by
    obtain ⟨l, j⟩ := d
    obtain ⟨v, u, e0, p0, p1⟩ := pl2 hv
    have e1 : u = .int ((j : Int) + 1) := p1
    subst e0 e1
    refine ⟨_, (pss_cons (ps_expr (C8.pe_c c_check_number hr (by decide) (by rfl) (pa_cons (pv 1) pa_nil)))
    (pss_one (ps_ret (pe_ix (ix_tupK (K := K) rfl) (k_fld (K := K) rfl (pe_fld (pv 0) rfl)) (pe_op op_sub (pv 1) pe_int) (fun _ _ => rfl))))), ?_⟩
    refine q_drop (er_call j (ea_cons (er_is rfl) ea_nil) hp.2) fun H1 e1 => ?_
    refine s_ret (P := cir K (l.getD j c0)) (er_ixT (er_circles (er_var rfl ((four K C l).mono e1 p0)) Tc.cl Tc.nC) (er_I0 (er_is rfl) er_c) ?_) (fun v1 H2 e2 p2 => ?_)
    · have hj : j < l.length := by rw [hp.1]; exact hp.2
      refine at_ofP (z := (j : Int) + 1 - 1) (j := j) (by omega) ?_
      rw [List.getElem?_map, List.getD_eq_getElem?_getD, List.getElem?_eq_getElem hj]
      rfl
    · exact k v1 H2 (e1.trans e2) p2
/-- a part of a circle by its place -/
def prt (q : Cir) (i : Nat) : Int := [q.b, q.c, q.x, q.y].getD i 0
theorem at_prt {K : PySem.W.Frag} (q : Cir) {i : Nat} (h : i < 4) : atI [pint q.b, pint q.c, pint q.x, pint q.y] (i : Int) = some (pint (prt q i)) := by
  match i, h with
  | 0, _ => rfl
  | 1, _ => rfl
  | 2, _ => rfl
  | 3, _ => rfl
def spOth (K : PySem.W.Frag) (C : Addr) : Sp := Spf (fun d : List Cir × Nat => [four K C d.1, pint ((d.2 : Int) + 1)]) (fun d => d.1.length = 4 ∧ d.2 < 4) (fun d => cir K (oth d.1 (d.1.getD d.2 c0)))
theorem m_other (F : Dm K C "other" "Four.other" s_Four_other ["self", "number"]) (T : Tx K mg) (Tc : Tc K C) (m_circle : C8.Met P w K mg base 2 C "circle" (spCirc K C) []) : C8.Met P w K mg base 3 C "other" (spOth K C) [] :=
  F.met sc_Four_other (fun _ => rfl) fun f cdv An outer s H vs Q E d hr hp hv k => by
    obtain ⟨l, j⟩ := d
    obtain ⟨v, u, e0, p0, p1⟩ := pl2 hv
    have e1 : u = .int ((j : Int) + 1) := p1
    subst e0 e1
    have hl4 : l.length = 4 := hp.1
    refine ⟨_, (pss_cons (ps_set (i := 2) sc_Four_other.nd rfl (by first | exact Or.inl rfl | exact Or.inr rfl) (C8.pe_mt m_circle hr (by decide) (pv 0) (pa_cons (pv 1) pa_nil)))
    (pss_cons (ps_setLc (i := 3) (own := [("part", 5)]) (g := (gName 5)) (tt := tYes) rfl sc_Four_other.nd rfl rfl (sw_true rfl rfl rfl (by decide +kernel)) (pi_range1 (by rfl) T.range (pa_cons pe_int pa_nil)) (blkOk_by (own := [("part", 5)]) (N := n_Four_other) (sc := defScope s_Four_other) (by decide +kernel)) (fun _ _ _ _ _ => (pg_name (i := 5) sc_Four_other.nd rfl (by first | exact Or.inl rfl | exact Or.inr rfl))) (fun _ _ _ _ _ => pts_nil) (fun _ _ _ _ _ => (pe_callB (cr_sumK (K := K) rfl rfl) (by rfl) T.sum (by decide +kernel) (pa_cons (pe_lc (own := [("circle", 4)]) (g := (gName 4)) (tt := tYes) rfl sc_Four_other.nd (k_tup (K := K) rfl (pi_tup (k_fld (K := K) rfl (pe_fld (pv 0) rfl)))) (blkOk_by (own := [("circle", 4)]) (N := n_Four_other) (sc := ({ kind := .function, names := [(".0", .local), ("part", .cell), ("sum", .globalImplicit), ("self", .cell)], isGenerator := false, isCoroutine := false } : Scope)) (by decide +kernel)) (fun _ _ _ _ _ => (pg_name (i := 4) sc_Four_other.nd rfl (by first | exact Or.inl rfl | exact Or.inr rfl))) (fun _ _ _ _ _ => pts_nil) (fun _ _ _ _ _ => (pe_ix (ix_tupK (K := K) rfl) (pv 4) (pv 5) (fun _ _ => rfl)))) pa_nil))))
    (pss_one (ps_ret (pe_callTy (call_tupleK (K := K) rfl) (by rfl) T.tuple (by decide +kernel) (pa_cons (pe_lc (own := [("whole", 6), ("one", 7)]) (g := (gTup K 2 (gCons (gName 6) (gCons (gName 7) gNil)))) (tt := tYes) rfl sc_Four_other.nd (k_zipX (K := K) rfl (pi_zipX (by rfl) T.zip (pa_cons (pv 3) (pa_cons (pv 2) pa_nil)))) (blkOk_by (own := [("whole", 6), ("one", 7)]) (N := n_Four_other) (sc := defScope s_Four_other) (by decide +kernel)) (fun _ _ _ _ _ => (k_gtup (K := K) rfl (pg_tup (by rfl) (pgs_cons (pg_name (i := 6) sc_Four_other.nd rfl (by first | exact Or.inl rfl | exact Or.inr rfl)) (pgs_cons (pg_name (i := 7) sc_Four_other.nd rfl (by first | exact Or.inl rfl | exact Or.inr rfl)) pgs_nil))))) (fun _ _ _ _ _ => pts_nil) (fun _ _ _ _ _ => (pe_op op_sub (pe_op op_mul pe_int (pe_op op_sub (pv 6) (pv 7))) (pv 7)))) pa_nil)))))), ?_⟩
    refine q_asg (P := cir K (l.getD j c0)) (er_meth (l, j) (er_var rfl p0) (four_m (by decide +kernel)) (ea_cons (er_is rfl) ea_nil) rfl hp) fun v1 H1 e1 p1 => ?_
    have p01 := (four K C l).mono e1 p0
    refine q_asg (P := ll ((List.range 4).map fun i => pint (tot (prt · i) l))) (er_lcN (as := List.range 4) (A := fun i : Nat => pint (i : Int)) (R := fun i => pint (tot (prt · i) l)) (ei_range er_c (by decide) (by decide)) (by decide) (fun _ _ => solid_is) (fun i x H' hi e px => ?_)) fun v2 H2 e2 p2 => ?_
    · have hi4 : i < 4 := List.mem_range.mp hi
      have ex : x = .int (i : Int) := px
      subst ex
      refine er_sum (ns := l.map (prt · i)) ((er_lcN (as := l) (A := cir K) (R := fun q => pint (prt q i)) (ei_tup (er_circles (er_var rfl ((four K C l).mono e p01)) Tc.cl Tc.nC)) (by omega) (fun _ _ => solid_is) (fun q x H' _ _ px => er_ixT (er_var rfl px) (er_is rfl) (at_prt (K := K) q hi4))).to ?_)
      rw [List.map_map]
      rfl
    · have hS : ((List.range 4).map fun i => pint (tot (prt · i) l)) = [tot (·.b) l, tot (·.c) l, tot (·.x) l, tot (·.y) l].map pint := rfl
      rw [hS] at p2
      refine s_ret (P := cir K (oth l (l.getD j c0))) ((er_tupL (er_lcT (K := K) (as := [tot (·.b) l, tot (·.c) l, tot (·.x) l, tot (·.y) l].zip [(l.getD j c0).b, (l.getD j c0).c, (l.getD j c0).x, (l.getD j c0).y]) (A1 := fun c => pint c.1) (A2 := fun c => pint c.2) (R := fun c => pint (2 * (c.1 - c.2) - c.2))
        (ei_zip (A := pint) (B := pint) (ea_cons (er_var rfl p2) (ea_cons (er_var rfl ((cir K _).mono e2 p1)) ea_nil))) (by simp) (fun _ _ => solid_is) (fun c x y H' _ _ px py => ?_))).to rfl) (fun v3 H3 e3 p3 => ?_)
      · have ex : x = .int c.1 := px
        have ey : y = .int c.2 := py
        subst ex ey
        exact er_I0 (er_I er_c (er_I0 (er_is rfl) (er_is rfl)) (.inl ⟨by decide, by decide⟩)) (er_is rfl)
      · exact k v3 H3 ((e1.trans e2).trans e3) p3
end
end Ft
set_option maxHeartbeats 4000000
namespace Ft
open PySem PySem.Spec PyProof.Rows L2
/-! ### mathematics: touching pairs, sizes -/
theorem Gram.all {p q r s : Cir} (h : Gram p q r s) : ∀ (i : Nat) (a : Cir), [p, q, r, s][i]? = some a → ∀ o ∈ [p, q, r, s].take i, tch a o := by
  intro i a ha o ho
  match i with
  | 0 => simp at ho
  | 1 =>
    have e : q = a := Option.some.inj ha
    have e2 : o = p := by simpa using ho
    subst e e2
    exact h.t
  | 2 =>
    have e : r = a := Option.some.inj ha
    have e2 : o = p ∨ o = q := by simpa using ho
    subst e
    rcases e2 with e2 | e2 <;> subst e2
    · exact h.s23.t
    · exact h.s12.s23.t
  | 3 =>
    have e : s = a := Option.some.inj ha
    have e2 : o = p ∨ o = q ∨ o = r := by simpa using ho
    subst e
    rcases e2 with e2 | e2 | e2 <;> subst e2
    · exact h.s34.s23.t
    · exact h.s12.s34.s23.t
    · exact h.swap.t
  | i + 4 => simp at ha
theorem Ok.tch {l : List Cir} (h : Ok l) {i : Nat} {a : Cir} (ha : l[i]? = some a) : ∀ o ∈ l.take i, Ft.tch a o := by
  obtain ⟨p, q, r, s, rfl, g⟩ := h
  exact g.all i a ha
theorem Ok.isC {l : List Cir} (h : Ok l) : ∀ q ∈ l, Ft.isC q := by
  obtain ⟨p, q, r, s, rfl, g⟩ := h
  intro a ha
  have e : a = p ∨ a = q ∨ a = r ∨ a = s := by simpa using ha
  rcases e with e | e | e | e <;> subst e
  · exact g.p1
  · exact g.q1
  · exact g.r1
  · exact g.s1
def Bds (n : Nat) (l : List Cir) : Prop := ∀ q ∈ l, Bd n q
theorem Bds.mono {n m : Nat} {l : List Cir} (h : Bds n l) (e : n ≤ m) : Bds m l := fun q hq => by
  obtain ⟨a, b, c, d⟩ := h q hq
  have := Nat.pow_le_pow_right (show 0 < 2 by decide) e
  exact ⟨Nat.lt_of_lt_of_le a this, Nat.lt_of_lt_of_le b this, Nat.lt_of_lt_of_le c this, Nat.lt_of_lt_of_le d this⟩
theorem lin16 {a b c d o : Int} {M : Nat} (h1 : a.natAbs < M) (h2 : b.natAbs < M) (h3 : c.natAbs < M) (h4 : d.natAbs < M) (h5 : o.natAbs < M) : (2 * (a + b + c + d - o) - o).natAbs < 16 * M := by
  have a1 : a < M ∧ -(M : Int) < a := by omega
  have a2 : b < M ∧ -(M : Int) < b := by omega
  have a3 : c < M ∧ -(M : Int) < c := by omega
  have a4 : d < M ∧ -(M : Int) < d := by omega
  have a5 : o < M ∧ -(M : Int) < o := by omega
  clear h1 h2 h3 h4 h5
  omega
theorem Bds.oth {n : Nat} {l : List Cir} (h : Bds n l) (hl : l.length = 4) {o : Cir} (ho : o ∈ l) : Bd (n + 4) (Ft.oth l o) := by
  obtain ⟨p, q, r, s, rfl⟩ : ∃ p q r s, l = [p, q, r, s] := by
    match l, hl with
    | [p, q, r, s], _ => exact ⟨p, q, r, s, rfl⟩
  obtain ⟨p1, p2, p3, p4⟩ := h p (by simp)
  obtain ⟨q1, q2, q3, q4⟩ := h q (by simp)
  obtain ⟨r1, r2, r3, r4⟩ := h r (by simp)
  obtain ⟨s1, s2, s3, s4⟩ := h s (by simp)
  obtain ⟨o1, o2, o3, o4⟩ := h o ho
  have e : 2 ^ (n + 4) = 16 * 2 ^ n := by rw [Nat.pow_add, Nat.mul_comm]
  unfold Bd Ft.oth
  rw [tot4, tot4, tot4, tot4, e]
  exact ⟨lin16 p1 q1 r1 s1 o1, lin16 p2 q2 r2 s2 o2, lin16 p3 q3 r3 s3 o3, lin16 p4 q4 r4 s4 o4⟩
theorem getD_mem {l : List Cir} {k : Nat} (hk : k < l.length) : l.getD k c0 ∈ l := by
  rw [List.getD_eq_getElem?_getD, List.getElem?_eq_getElem hk]
  exact List.getElem_mem hk
theorem Bds.exch {n : Nat} {l : List Cir} (h : Bds n l) (hl : l.length = 4) {k : Nat} (hk : k < 4) : Bds (n + 4) (Ft.exch l k) := fun q hq => by
  rcases List.mem_or_eq_of_mem_set hq with h1 | h1
  · exact h.mono (by omega) q h1
  · rw [h1]
    exact h.oth hl (getD_mem (by omega))
theorem exch_zip {l : List Cir} (hl : l.length = 4) {j : Nat} (hj : j < 4) (c : Cir) : (l.zipIdx.map fun b : Cir × Nat => if ((1 : Int) + ((b.2 : Nat) : Int) = (j : Int) + 1) then c else b.1) = l.set j c := by
  match l, hl with
  | [p, q, r, s], _ =>
    match j, hj with
    | 0, _ => rfl
    | 1, _ => rfl
    | 2, _ => rfl
    | 3, _ => rfl
theorem sqT_updI {K : PySem.W.Frag} {H : Hp} {a x C dx : Addr} {fs : List (Str × V)} {o : HO} {zs : List V} (hx : H x = some (.ins C dx fs)) (h : SqT K H a zs) : SqT K (upd H x o) a zs := by
  rcases h with (h | ⟨ob, h⟩) | h
  · exact .inl (.inl (by rw [upd_ne (ne_of h hx (by intro z; cases z))]; exact h))
  · exact .inl (.inr ⟨ob, by rw [upd_ne (ne_of h hx (by intro z; cases z))]; exact h⟩)
  · exact .inr h
def SolidI (P : Pd) : Prop := ∀ (v : V) (H : Hp) (x C dx : Addr) (fs : List (Str × V)) (o : HO), H x = some (.ins C dx fs) → P.p v H → P.p v (upd H x o)
theorem solidLI {H : Hp} {x C dx : Addr} {fs : List (Str × V)} {o : HO} (hx : H x = some (.ins C dx fs)) : ∀ {Ps : List Pd} {vs : List V}, (∀ P ∈ Ps, SolidI P) → PL Ps vs H → PL Ps vs (upd H x o)
  | [], [], _, _ => trivial
  | P :: Ps, v :: vs, s, h => ⟨s P (List.mem_cons_self ..) _ _ _ _ _ _ _ hx h.1, solidLI hx (fun P hP => s P (List.mem_cons_of_mem _ hP)) h.2⟩
  | [], _ :: _, _, h => h.elim
  | _ :: _, [], _, h => h.elim
theorem solidI_tl {K : PySem.W.Frag} {Ps : List Pd} (s : ∀ P ∈ Ps, SolidI P) : SolidI (tl K Ps) := fun v H x C dx fs o hx ⟨a, zs, h1, h2, h3⟩ => ⟨a, zs, h1, sqT_updI hx h2, solidLI hx s h3⟩
theorem solidI_cir {K : PySem.W.Frag} (q : Cir) : SolidI (cir K q) := solidI_tl fun P hP => by
  simp only [List.mem_cons, List.not_mem_nil, or_false] at hP
  rcases hP with e | e | e | e <;> (rw [e]; exact fun _ _ _ _ _ _ _ _ h => h)
theorem q_fld {K : PySem.W.Frag} {σ : L2.St} {H : Hp} {ta tv : TE} {P : Pd} {D : Ends} {u : TS} {x C dx : Addr} {fs : List (Str × V)} {f : Str} (hv : Er tv σ H P) (ho : Er ta σ H (is (.ref x))) (hx : H x = some (.ins C dx fs)) (cl : Cls K C) (nC : NoAttr K C f) (hl : fs.length < 1000)
    (k : ∀ y H1, Same H H1 → P.p y H1 → u D σ (upd H1 x (.ins C dx (putF f y fs)))) : tSeq (sFld K ta tv f) u D σ H :=
  hv H (Same.refl _) _ fun y H1 e1 p1 => ho H1 e1 _ fun x' H2 e2 p2 => ⟨x, C, dx, fs, p2, (e1.trans e2) _ _ hx, cl, nC, hl, k y H2 (e1.trans e2) (P.mono e2 p1)⟩
/-! ### Four(circles) -/
structure Di (K : PySem.W.Frag) (mg : Str → Option Value) (C : Addr) : Prop where
  ex : ∃ (f : Addr) (fd : FuncData), L2.Fun K "__init__" "Four.__init__" s_Four___init__ f fd ∧ Mk K C f ∧ mg "Four" = some (.ref C) ∧ Binds K fd ["self", "circles"] []
def spInit (K : PySem.W.Frag) (C : Addr) : Sp := fun vs H Q _ => ∃ (l : List Cir) (n : Nat) (x dx : Addr) (v : V), vs = [.ref x, v] ∧ H x = some (.ins C dx []) ∧ (cirs K l).p v H ∧ Ok l ∧ Bds n l ∧ n ≤ 300000 ∧
  ∀ H' : Hp, (∀ b o, b ≠ x → H b = some o → H' b = some o) → (four K C l).p (.ref x) H' → Q .non H'
section
variable {P : Program} {w : World} {K : PySem.W.Frag} {mg : Str → Option Value} {base : Heap} {C : Addr}
theorem c_Four (F : Di K mg C) (T : Tx K mg) (Tc : Tc K C) {aNU : Addr} (hNU : KTup K mg "NUMBERS" aNU L1234) (c_check_circle : C8.Cal P w K mg base 2 "check_circle" (spChk K) []) (c_touch : C8.Cal P w K mg base 4 "touch" (spTch K) []) : C8.Mak P w K mg base 5 "Four" C (spInit K C) [] := by
  obtain ⟨f, fd, F, M, hm, hb⟩ := F.ex
  refine ⟨⟨f, fd, ["self", "circles"], [], M, F.ok sc_Four___init__ (fun vs H Q E h => ?_) (fun cdv An outer s H vs Q E hr h => ?_), hm, hb, .nil⟩⟩
  · obtain ⟨l, n, x, dx, v, e0, _⟩ := h
    rw [e0]
    rfl
  · obtain ⟨l, n, x, dx, v, e0, hx, pvv, hok, hbd, hn, k⟩ := h
    subst e0
    have hl4 := hok.len
    refine ⟨_, (pss_cons (ps_if (pt_cmpR op_ne (pe_callB (call_lenK (K := K) rfl) (by rfl) T.len (by decide +kernel) (pa_cons (pv 1) pa_nil)) (pe_callB (call_lenK (K := K) rfl) (by rfl) T.len (by decide +kernel) (pa_cons (pe_glob (v := V.ref aNU) rfl hNU.1 rfl) pa_nil)) (nomark _)) (pss_one ps_never) pss_nil)
    (pss_cons (ps_for PassesOwn.never rfl (k_list (K := K) rfl (pi_list (pv 1))) (pg_name (i := 2) sc_Four___init__.nd rfl (by first | exact Or.inl rfl | exact Or.inr rfl))
      (pss_one (ps_expr (C8.pe_c c_check_circle hr (by decide) (by rfl) (pa_cons (pv 2) pa_nil)))))
    (pss_cons (ps_fld (pv 0) (pe_callTy (call_tupleK (K := K) rfl) (by rfl) T.tuple (by decide +kernel) (pa_cons (pe_lc (own := [("circle", 2)]) (g := (gName 2)) (tt := tYes) rfl sc_Four___init__.nd (k_list (K := K) rfl (pi_list (pv 1))) (blkOk_by (own := [("circle", 2)]) (N := n_Four___init__) (sc := defScope s_Four___init__) (by decide +kernel)) (fun _ _ _ _ _ => (pg_name (i := 2) sc_Four___init__.nd rfl (by first | exact Or.inl rfl | exact Or.inr rfl))) (fun _ _ _ _ _ => pts_nil) (fun _ _ _ _ _ => (pe_callTy (call_tupleK (K := K) rfl) (by rfl) T.tuple (by decide +kernel) (pa_cons (pv 2) pa_nil)))) pa_nil)) rfl)
    (pss_one (ps_for PassesOwn.never rfl (k_enum1 (K := K) rfl (pi_enum1 (by rfl) T.enumerate (pa_cons (k_fld (K := K) rfl (pe_fld (pv 0) rfl)) pa_nil))) (k_gtup (K := K) rfl (pg_tup (by rfl) (pgs_cons (pg_name (i := 3) sc_Four___init__.nd rfl (by first | exact Or.inl rfl | exact Or.inr rfl)) (pgs_cons (pg_name (i := 2) sc_Four___init__.nd rfl (by first | exact Or.inl rfl | exact Or.inr rfl)) pgs_nil))))
      (pss_one (ps_if (pt_not (pt_val (pe_callB (cr_allK (K := K) rfl rfl) (by rfl) T.all (by decide +kernel) (pa_cons (pe_lc (own := [("other", 4)]) (g := (gName 4)) (tt := tYes) rfl sc_Four___init__.nd (k_tup (K := K) rfl (pi_tup (pe_slice (sl_tupK (K := K) rfl) (k_fld (K := K) rfl (pe_fld (pv 0) rfl)) po_none (po_some (pv 3))))) (blkOk_by (own := [("other", 4)]) (N := n_Four___init__) (sc := defScope s_Four___init__) (by decide +kernel)) (fun _ _ _ _ _ => (pg_name (i := 4) sc_Four___init__.nd rfl (by first | exact Or.inl rfl | exact Or.inr rfl))) (fun _ _ _ _ _ => pts_nil) (fun _ _ _ _ _ => (C8.pe_c c_touch hr (by decide) (by rfl) (pa_cons (pv 2) (pa_cons (pv 4) pa_nil))))) pa_nil)))) (pss_one ps_never) pss_nil))))))), ?_⟩
    refine q_ifF ((et_t (er_ne (er_lenL (er_var (P := cirs K l) rfl pvv)) (er_lenT (er_cP (ktup_p hNU))) rfl)).to ?_) fun H1 e1 => ?_
    · rw [dI, List.length_map, hl4]
      rfl
    refine q_for (ei_list (as := l) (A := cir K) (er_var rfl ((cirs K l).mono e1 pvv))) (fun _ σ' _ => ∃ z, σ' = [some (.ref x), some v, z, none, none]) (fun H2 e2 => ⟨none, rfl⟩) (fun i q y σ' H2 H' ha e2 hz e3 py N hN => ?_) (fun σ' H2 e2 hz => ?_)
    · obtain ⟨z, ez⟩ := hz
      subst ez
      have hm : q ∈ l := List.mem_of_getElem? ha
      exact s_drop (er_call (A := fun d : Cir × Nat => [cir K d.1]) (q, n) (ea_cons (er_var rfl py) ea_nil) ⟨hok.isC q hm, hbd q hm, hn⟩) fun H4 e4 => hN _ H4 e4 ⟨_, rfl⟩
    obtain ⟨z, ez⟩ := hz
    subst ez
    have e12 := e1.trans e2
    refine q_fld (P := tl K (l.map (cir K))) (er_tupL (er_lcN (as := l) (A := cir K) (R := cir K) (ei_list (er_var rfl ((cirs K l).mono e12 pvv))) (by omega) (fun q _ => solid_cir q) (fun q y H' _ _ py => er_tupT (er_var rfl py)))) (er_is rfl) (e12 _ _ hx) Tc.cl Tc.nC (by decide) fun u H3 e3 pu => ?_
    have e13 := e12.trans e3
    have hx3 := e13 _ _ hx
    have pf : (four K C l).p (.ref x) (upd H3 x (.ins C dx (putF "circles" u []))) := ⟨x, dx, u, rfl, upd_same, solidI_tl (fun P hP => by
      obtain ⟨q, _, e⟩ := List.mem_map.mp hP
      rw [← e]
      exact solidI_cir q) _ _ _ _ _ _ _ hx3 pu⟩
    have keep : ∀ b o, b ≠ x → H b = some o → upd H3 x (.ins C dx (putF "circles" u [])) b = some o := fun b o hb hq => by
      rw [upd_ne hb]
      exact e13 _ _ hq
    refine s_for (ei_enum1 (as := l) (A := cir K) (er_circles (er_var rfl pf) Tc.cl Tc.nC)) (fun _ σ' _ => ∃ z1 z2, σ' = [some (.ref x), some v, z1, z2, none]) (fun H4 e4 => ⟨z, none, rfl⟩) (fun i b y σ' H4 H' ha e4 hz e5 py N hN => ?_) (fun σ' H4 e4 hz => ?_)
    · obtain ⟨z1, z2, ez⟩ := hz
      subst ez
      obtain ⟨q, j⟩ := b
      obtain ⟨hq, hj⟩ := zipIdx_at ha
      have hj' : j = i := hj
      subst hj'
      obtain ⟨a, xs, e0, h2, h3⟩ := py
      obtain ⟨x1, x2, e1', p1, p2⟩ := pl2 h3
      have e6 : x1 = .int ((j : Nat) : Int) := (show x1 = .int (0 + ((j : Nat) : Int)) from p1).trans (by rw [Int.zero_add])
      subst e1' e6 e0
      refine ⟨a, _, rfl, h2, rfl, _, _, rfl, _, _, rfl, rfl, ?_⟩
      have hjl : j < l.length := (List.getElem?_eq_some_iff.mp hq).1
      have hm : q ∈ l := List.mem_of_getElem? hq
      have pf2 := (four K C l).mono (e4.trans e5) pf
      refine s_ifF ((et_not (et_v (er_all (bs := (l.take j).map fun o => decide (tch q o)) ((er_lcN (as := l.take j) (A := cir K) (R := fun o => pbl (decide (tch q o))) (ei_tup ((er_slT (er_circles (er_var rfl pf2) Tc.cl Tc.nC) (eo_some (er_is rfl)) (by rw [List.length_map]; exact hjl)).to (by rw [List.map_take]))) (by rw [List.length_take]; omega) (fun _ _ => solid_is) (fun o y H' ho e7 po => ?_)).to (by rw [List.map_map]; rfl))))).to ?_) fun H5 e5' => hN _ H5 e5' ⟨_, _, rfl⟩
      · have hmo : o ∈ l := List.mem_of_mem_take ho
        exact er_call (A := fun d : Cir × Cir × Nat => [cir K d.1, cir K d.2.1]) (q, o, n) (ea_cons (er_var rfl ((cir K q).mono e7 p2)) (ea_cons (er_var rfl po) ea_nil)) ⟨⟨hok.isC q hm, hok.isC o hmo⟩, ⟨hbd q hm, hbd o hmo⟩, hn⟩
      · rw [List.all_map]
        have ht := hok.tch hq
        have : (l.take j).all (id ∘ fun o => decide (tch q o)) = true := List.all_eq_true.mpr fun o ho => decide_eq_true (ht o ho)
        rw [this]
        rfl
    · exact k H4 (fun b o hb hq => e4 _ _ (keep b o hb hq)) ((four K C l).mono e4 pf)
theorem er_make {σ : L2.St} {H : Hp} {te : TE} {l : List Cir} {n : Nat} {E : XK} (h : Er te σ H (cirs K l)) (hok : Ok l) (hb : Bds n l) (hn : n ≤ 300000) : Er (tMake C (spInit K C) [] E (tCons te tNil)) σ H (four K C l) := fun H1 e Q q =>
  h H1 e _ fun v H2 e2 p2 => fun x dx nx ndx ne => by
    have s2 : Same H2 (upd (upd H2 dx (.own x)) x (.ins C dx [])) := fun b o hq => by
      rw [upd_ne (ne_of_none hq nx), upd_ne (ne_of_none hq ndx)]
      exact hq
    exact ⟨l, n, x, dx, v, rfl, upd_same, (cirs K l).mono s2 p2, hok, hb, hn, fun H' keep pf => ⟨rfl, q _ H' (e2.trans fun b o hq => keep b o (ne_of_none hq nx) (s2 b o hq)) pf⟩⟩
/-! ### exchanged -/
structure Fp where
  l : List Cir
  k : Nat
  n : Nat
def PreX (d : Fp) : Prop := Ok d.l ∧ Bds d.n d.l ∧ d.k < 4 ∧ d.n ≤ 200000
def spExch (K : PySem.W.Frag) (C : Addr) : Sp := Spf (fun d : Fp => [four K C d.l, pint ((d.k : Int) + 1)]) PreX (fun d => four K C (exch d.l d.k))
theorem m_exchanged (F : Dm K C "exchanged" "Four.exchanged" s_Four_exchanged ["self", "number"]) (T : Tx K mg) (Tc : Tc K C) (m_other : C8.Met P w K mg base 3 C "other" (spOth K C) []) (c_Four : C8.Mak P w K mg base 5 "Four" C (spInit K C) []) : C8.Met P w K mg base 7 C "exchanged" (spExch K C) [] :=
  F.met sc_Four_exchanged (fun _ => rfl) fun f cdv An outer s H vs Q E d hr hp hv k => by
    obtain ⟨l, j, n⟩ := d
    obtain ⟨v, u, e0, p0, p1⟩ := pl2 hv
    have e1 : u = .int ((j : Int) + 1) := p1
    subst e0 e1
    obtain ⟨hok, hbd, hj, hn⟩ := hp
    have hj4 : j < 4 := hj
    have hl4 : l.length = 4 := hok.len
    have hn' : n ≤ 200000 := hn
    refine ⟨_, (pss_cons (ps_set (i := 2) sc_Four_exchanged.nd rfl (by first | exact Or.inl rfl | exact Or.inr rfl) (C8.pe_mt m_other hr (by decide) (pv 0) (pa_cons (pv 1) pa_nil)))
    (pss_one (ps_ret (C8.pe_mk c_Four hr (by decide) (by rfl) (pa_cons (pe_lc (own := [("at", 3), ("old", 4)]) (g := (gTup K 2 (gCons (gName 3) (gCons (gName 4) gNil)))) (tt := tYes) rfl sc_Four_exchanged.nd (k_enumX (K := K) rfl (pi_enumX (by rfl) T.enumerate (pa_cons (k_fld (K := K) rfl (pe_fld (pv 0) rfl)) (pa_cons pe_int pa_nil)))) (blkOk_by (own := [("at", 3), ("old", 4)]) (N := n_Four_exchanged) (sc := defScope s_Four_exchanged) (by decide +kernel)) (fun _ _ _ _ _ => (k_gtup (K := K) rfl (pg_tup (by rfl) (pgs_cons (pg_name (i := 3) sc_Four_exchanged.nd rfl (by first | exact Or.inl rfl | exact Or.inr rfl)) (pgs_cons (pg_name (i := 4) sc_Four_exchanged.nd rfl (by first | exact Or.inl rfl | exact Or.inr rfl)) pgs_nil))))) (fun _ _ _ _ _ => pts_nil) (fun _ _ _ _ _ => (pe_ifExp (pt_cmpR op_eq (pv 3) (pv 1) (nomark _)) (pv 2) (pv 4)))) pa_nil))))), ?_⟩
    refine q_asg (P := cir K (oth l (l.getD j c0))) (er_meth (l, j) (er_var rfl p0) (four_m (by decide +kernel)) (ea_cons (er_is rfl) ea_nil) rfl ⟨hl4, hj4⟩) fun v1 H1 e1 p1 => ?_
    have p01 := (four K C l).mono e1 p0
    refine s_ret (P := four K C (exch l j)) (er_make (n := n + 4) ((er_lcT (K := K) (as := l.zipIdx) (A1 := fun b => pint (1 + ((b.2 : Nat) : Int))) (A2 := fun b => cir K b.1) (R := fun b => cir K (if ((1 : Int) + ((b.2 : Nat) : Int) = (j : Int) + 1) then oth l (l.getD j c0) else b.1))
      (ei_enumT (k := 1) (ea_cons (er_circles (er_var rfl p01) Tc.cl Tc.nC) (ea_cons er_c ea_nil)) (by decide)) (by rw [List.length_zipIdx]; omega) (fun b _ => solid_cir _) (fun b x y H' _ e7 px py => ?_)).to ?_) (hok.exch hj4) (hbd.exch hl4 hj4) (by omega)) (fun v3 H3 e3 p3 => ?_)
    · have ex : x = .int (1 + ((b.2 : Nat) : Int)) := px
      subst ex
      refine er_if (et_t (er_eq (er_is rfl) (er_is rfl) rfl)) (fun h => ?_) (fun h => ?_)
      · rw [dI] at h
        rw [if_pos (of_decide_eq_true h)]
        exact er_var rfl ((cir K _).mono e7 p1)
      · rw [dI] at h
        rw [if_neg (of_decide_eq_false h)]
        exact er_var rfl py
    · unfold cirs exch
      rw [← exch_zip hl4 hj4, List.map_map]
      rfl
    · exact k v3 H3 (e1.trans e3) p3
/-! ### is_root -/
def isRt (cs : List Int) : Bool := decide ((srt cs).getD 3 0 ≤ ((srt cs).take 3).sum)
def spRoot (K : PySem.W.Frag) (C : Addr) : Sp := Spf (fun l : List Cir => [four K C l]) (fun l => l.length = 4) (fun l => pbl (isRt (cv l)))
theorem srt_len (cs : List Int) : (srt cs).length = cs.length := (srt_perm cs).length_eq
theorem cv_len (l : List Cir) : (cv l).length = l.length := List.length_map _
theorem m_is_root (F : Dm K C "is_root" "Four.is_root" s_Four_is_root ["self"]) (T : Tx K mg) (m_curvatures : C8.Met P w K mg base 1 C "curvatures" (spCurv K C) []) : C8.Met P w K mg base 2 C "is_root" (spRoot K C) [] :=
  F.met sc_Four_is_root (fun _ => rfl) fun f cdv An outer s H vs Q E l hr hp hv k => by
    obtain ⟨v, e0, p0⟩ := pl1 hv
    subst e0
    have hl4 : l.length = 4 := hp
    refine ⟨_, (pss_cons (ps_set (i := 1) sc_Four_is_root.nd rfl (by first | exact Or.inl rfl | exact Or.inr rfl) (pe_callB (cr_sortedTK (K := K) rfl) (by rfl) T.sorted (by decide +kernel) (pa_cons (C8.pe_mt0 m_curvatures hr (by decide) (pv 0)) pa_nil)))
    (pss_one (ps_ret (pe_cmpR op_ge (pe_callB (cr_sumK (K := K) rfl rfl) (by rfl) T.sum (by decide +kernel) (pa_cons (pe_slice (sl_listK (K := K) rfl) (pv 1) po_none (po_some pe_int)) pa_nil)) (pe_ix (ix_listK (K := K) rfl) (pv 1) pe_int (fun _ _ => rfl)) (nomark _))))), ?_⟩
    refine q_asg (P := ll ((srt (cv l)).map pint)) (er_sortedT (er_meth l (er_var rfl p0) (four_m (by decide +kernel)) ea_nil rfl hl4) (by rw [cv_len]; omega)) fun v1 H1 e1 p1 => ?_
    refine s_ret (P := pbl (isRt (cv l))) (er_I0 (er_sum ((er_slL (er_var rfl p1) eo_none (eo_some er_c)).to ?_)) (er_ixL (er_var rfl p1) er_c ?_)) (fun v3 H3 e3 p3 => ?_)
    · rw [show (3 : Int) = ((3 : Nat) : Int) from rfl, cutP_to, List.map_take]
    · refine at_ofP (j := 3) rfl ?_
      have h3 : 3 < (srt (cv l)).length := by rw [srt_len, cv_len]; omega
      rw [List.getElem?_map, List.getD_eq_getElem?_getD, List.getElem?_eq_getElem h3]
      rfl
    · exact k v3 H3 (e1.trans e3) p3
end
end Ft
set_option maxHeartbeats 4000000
namespace Ft
open PySem PySem.Spec PyProof.Rows L2
theorem wI_get {w : List Nat} {i : Nat} (h : i < w.length) : (wI w)[i]? = some (((w.getD i 0 : Nat) : Int) + 1) := by
  unfold wI
  rw [List.getElem?_map, List.getD_eq_getElem?_getD, List.getElem?_eq_getElem h]
  rfl
theorem wI_len (w : List Nat) : (wI w).length = w.length := List.length_map _
theorem fall_take {l : List Cir} {w : List Nat} {i : Nat} (h : i < w.length) : fall l (w.take (i + 1)) = exch (fall l (w.take i)) (w.getD i 0) := by
  unfold fall
  rw [List.take_add_one, List.getElem?_eq_getElem h, List.foldl_append, List.getD_eq_getElem?_getD, List.getElem?_eq_getElem h]
  rfl
theorem Bds.fall {n : Nat} {l : List Cir} (h : Bds n l) (hok : Ok l) : ∀ {w : List Nat}, W4 w → Bds (n + 4 * w.length) (Ft.fall l w) := by
  intro w hw
  induction w generalizing l n with
  | nil => exact h
  | cons k w ih =>
    have hk := hw k (List.mem_cons_self ..)
    have h2 := ih (h.exch hok.len hk) (hok.exch hk) fun j hj => hw j (List.mem_cons_of_mem _ hj)
    exact h2.mono (by rw [List.length_cons]; omega)
theorem W4.take {w : List Nat} (h : W4 w) (i : Nat) : W4 (w.take i) := fun k hk => h k (List.mem_of_mem_take hk)
theorem Dn.w4 {l : List Cir} (h : Ok l) {cs : List Int} {w : List Nat} {r : List Int} (d : Dn cs w r) (e : cs = cv l) : W4 w ∧ cv (Ft.fall l w) = r := by
  induction d generalizing l with
  | root _ => exact ⟨fun k hk => by simp at hk, e.symm⟩
  | step eg d ih =>
    rename_i cs k w r
    subst e
    obtain ⟨hk, _⟩ := gp_lt h.good eg
    obtain ⟨i1, i2⟩ := ih (h.exch hk) (cv_exch l k).symm
    refine ⟨fun j hj => ?_, i2⟩
    rcases List.mem_cons.mp hj with e | e
    · rw [e]; exact hk
    · exact i1 j e
section
variable {K : PySem.W.Frag} {σ : L2.St} {H : Hp} {ta : TA} {D : Ends} {u : TS}
/-- a list of one's own, at a place that was free -/
theorem q_lst {Ps : List Pd} {i : Nat} (h : Ea ta σ H Ps) (hl : Ps.length ≤ 100000) (k : ∀ p vs H1, Same H H1 → H p = none → H1 p = some (.lst vs) → PL Ps vs H1 → u D (σ.set i (some (.ref p))) H1) : tSeq (tAsg (tLst ta) (gName i)) u D σ H :=
  h H (Same.refl _) _ fun vs H2 e2 p2 => ⟨by rw [p2.len]; exact sz_of hl, fun p hp => k p vs _ (e2.trans (same_new hp)) (Same.free e2 hp) upd_same (p2.mono (same_new hp))⟩
end
section
variable {P : Program} {w : World} {K : PySem.W.Frag} {mg : Str → Option Value} {base : Heap} {C : Addr}
/-! ### fours_along, four_at -/
structure Fw where
  l : List Cir
  w : List Nat
  n : Nat
def PreW (d : Fw) : Prop := Ok d.l ∧ Bds d.n d.l ∧ W4 d.w ∧ d.n + 4 * d.w.length ≤ 200000 ∧ d.w.length ≤ 1000
def foursP (K : PySem.W.Frag) (C : Addr) (l : List Cir) (w : List Nat) (i : Nat) : List Pd := (List.range (i + 1)).map fun j => four K C (fall l (w.take j))
theorem foursP_last (l : List Cir) (w : List Nat) (i : Nat) : foursP K C l w i = ((List.range i).map fun j => four K C (fall l (w.take j))) ++ [four K C (fall l (w.take i))] := by
  unfold foursP
  rw [List.range_succ, List.map_append]
  rfl
def spAlong (K : PySem.W.Frag) (C : Addr) : Sp := Spf (fun d : Fw => [four K C d.l, tl K ((wI d.w).map pint)]) PreW (fun d => ll (foursP K C d.l d.w d.w.length))
theorem c_fours_along (F : Df K mg "fours_along" s_fours_along ["four", "word"]) (m_exchanged : C8.Met P w K mg base 7 C "exchanged" (spExch K C) []) (c_check_word : C8.Cal P w K mg base 1 "check_word" (spWord K) []) : C8.Cal P w K mg base 8 "fours_along" (spAlong K C) [] :=
  F.cal sc_fours_along (fun _ => rfl) fun f cdv An outer s H vs Q E d hr hp hv k => by
    obtain ⟨l, ws, n⟩ := d
    obtain ⟨v, u, e0, p0, p1⟩ := pl2 hv
    subst e0
    obtain ⟨hok, hbd, hw, hn, hl⟩ := hp
    dsimp only at hok hbd hw hn hl p0 p1 k
    refine ⟨_, (pss_cons (ps_expr (C8.pe_c c_check_word hr (by decide) (by rfl) (pa_cons (pv 1) pa_nil)))
    (pss_cons (ps_set (i := 2) sc_fours_along.nd rfl (by first | exact Or.inl rfl | exact Or.inr rfl) (pe_lst (pa_cons (pv 0) pa_nil)))
    (pss_cons (ps_for PassesOwn.never rfl (k_tup (K := K) rfl (pi_tup (pv 1))) (pg_name (i := 3) sc_fours_along.nd rfl (by first | exact Or.inl rfl | exact Or.inr rfl))
      (pss_one (ps_expr (k_bm (K := K) rfl (pe_bm PySem.F.plainAttrs_list PySem.F.slot_list_append PySem.F.type_list_append mt_append (pv 2) (pa_cons (C8.pe_mt m_exchanged hr (by decide) (pe_ix (ix_listK (K := K) rfl) (pv 2) (pe_un un_neg pe_int) (fun _ _ => rfl)) (pa_cons (pv 3) pa_nil)) pa_nil))))))
    (pss_one (ps_ret (pv 2)))))), ?_⟩
    refine q_drop (er_call (A := fun d : List Nat => [tl K ((wI d).map pint)]) ws (ea_cons (er_var rfl p1) ea_nil) hw) fun H1 e1 => ?_
    refine q_lst (Ps := [four K C l]) (ea_cons (er_var rfl ((four K C l).mono e1 p0)) ea_nil) (by show 1 ≤ 100000; decide) fun lf vs H2 e2 nf hf pf => ?_
    obtain ⟨a, xs, ea, hS, hL⟩ := p1
    have ex : xs = (wI ws).map V.int := hL.valsf
    subst ea ex
    have hS2 := same_t (e1.trans e2) hS
    refine ⟨_, rfl, a, rfl, ⟨_, hS2⟩, for_tup (K := K) (a := a) (xs := (wI ws).map V.int) (fun i σ' H' => ∃ z acc, σ' = [some v, some (.ref a), some (.ref lf), z] ∧ Same H1 H' ∧ H' lf = some (.lst acc) ∧ PL (foursP K C l ws i) acc H') ⟨none, vs, rfl, e2, hf, pf⟩ (fun i σ' H' _ ⟨_, _, _, e3, _⟩ => same_t e3 (same_t e1 hS)) ?_ ?_⟩
    · rintro i x σ' H' hi ⟨z, acc, rfl, e3, hf3, pf3⟩
      have hil : i < ws.length := by
        have := (List.getElem?_eq_some_iff.mp hi).1
        rw [List.length_map, wI_len] at this
        exact this
      have ex : x = .int (((ws.getD i 0 : Nat) : Int) + 1) := by
        rw [List.getElem?_map, wI_get hil] at hi
        exact (Option.some.inj hi).symm
      subst ex
      have hW4 : ws.getD i 0 < 4 := by
        rw [List.getD_eq_getElem?_getD, List.getElem?_eq_getElem hil]
        exact hw _ (List.getElem_mem hil)
      have hlen : acc.length = i + 1 := by
        rw [pf3.len]
        unfold foursP
        rw [List.length_map, List.length_range]
      refine s_app (P := four K C (fall l (ws.take (i + 1)))) hf3 (er_is rfl) ((er_meth (A := fun d : Fp => [four K C d.l, pint ((d.k : Int) + 1)]) (R := fun d : Fp => four K C (exch d.l d.k)) ⟨fall l (ws.take i), ws.getD i 0, n + 4 * ws.length⟩ (P := four K C (fall l (ws.take i))) (er_ixL (Ps := foursP K C l ws i) (er_var rfl ⟨lf, acc, rfl, hf3, pf3⟩) (er_neg er_c) (by rw [foursP_last]; exact at_lastP _ _)) (four_m (by decide +kernel)) (ea_cons (er_is rfl) ea_nil) rfl ⟨hok.fall (hw.take i), (hbd.fall hok (hw.take i)).mono (by show n + 4 * (ws.take i).length ≤ n + 4 * ws.length; rw [List.length_take]; omega), hW4, by show n + 4 * ws.length ≤ 200000; exact hn⟩).to (by rw [fall_take hil])) (by omega) fun v4 H4 e4 p4 => ?_
      have hf4 := e4 _ _ hf3
      refine ⟨_, acc ++ [v4], rfl, Same.mut (e3.trans e4) nf, upd_same, ?_⟩
      rw [foursP_last]
      exact (solidL hf4 (fun P hP => by
        obtain ⟨j, _, e⟩ := List.mem_map.mp hP
        rw [← e]
        exact solid_four _) (pf3.mono e4)).snoc (solid_four _ _ _ _ _ _ hf4 p4)
    · rintro σ' H' ⟨z, acc, rfl, e3, hf3, pf3⟩
      rw [List.length_map, wI_len] at pf3
      exact s_ret (P := ll (foursP K C l ws ws.length)) (er_var rfl ⟨lf, acc, rfl, hf3, pf3⟩) fun v5 H5 e5 p5 => k v5 H5 ((e1.trans e3).trans e5) p5
def spAt (K : PySem.W.Frag) (C : Addr) : Sp := Spf (fun d : Fw => [four K C d.l, tl K ((wI d.w).map pint)]) PreW (fun d => four K C (fall d.l d.w))
theorem c_four_at (F : Df K mg "four_at" s_four_at ["four", "word"]) (c_fours_along : C8.Cal P w K mg base 8 "fours_along" (spAlong K C) []) : C8.Cal P w K mg base 9 "four_at" (spAt K C) [] :=
  F.cal sc_four_at (fun _ => rfl) fun f cdv An outer s H vs Q E d hr hp hv k => by
    obtain ⟨v, u, e0, p0, p1⟩ := pl2 hv
    subst e0
    refine ⟨_, (pss_one (ps_ret (pe_ix (ix_listK (K := K) rfl) (C8.pe_c c_fours_along hr (by decide) (by rfl) (pa_cons (pv 0) (pa_cons (pv 1) pa_nil))) (pe_un un_neg pe_int) (fun _ _ => rfl)))), ?_⟩
    refine s_ret (P := four K C (fall d.l d.w)) (er_ixL (er_call (A := fun d : Fw => [four K C d.l, tl K ((wI d.w).map pint)]) (R := fun d : Fw => ll (foursP K C d.l d.w d.w.length)) d (ea_cons (er_var rfl p0) (ea_cons (er_var rfl p1) ea_nil)) hp) (er_neg er_c) ?_) k
    rw [foursP_last, List.take_length]
    exact at_lastP _ _
/-! ### greater_place -/
def pGp : Option Nat → V
  | none => .non
  | some k => .int ((k : Int) + 1)
def spGp (K : PySem.W.Frag) (C : Addr) : Sp := Spf (fun l : List Cir => [four K C l]) Ok (fun l => is (pGp (gp (cv l))))
theorem c_greater_place (F : Df K mg "greater_place" s_greater_place ["four"]) (T : Tx K mg) (m_curvatures : C8.Met P w K mg base 1 C "curvatures" (spCurv K C) []) : C8.Cal P w K mg base 2 "greater_place" (spGp K C) [] :=
  F.cal sc_greater_place (fun _ => rfl) fun f cdv An outer s H vs Q E l hr hp hv k => by
    obtain ⟨v, e0, p0⟩ := pl1 hv
    subst e0
    have hok : Ok l := hp
    have hl4 := hok.len
    have hc4 : (cv l).length = 4 := by rw [cv_len]; exact hl4
    refine ⟨_, (pss_cons (ps_set (i := 1) sc_greater_place.nd rfl (by first | exact Or.inl rfl | exact Or.inr rfl) (C8.pe_mt0 m_curvatures hr (by decide) (pv 0)))
    (pss_cons (ps_for PassesOwn.never rfl (k_enumX (K := K) rfl (pi_enumX (by rfl) T.enumerate (pa_cons (pv 1) (pa_cons pe_int pa_nil)))) (k_gtup (K := K) rfl (pg_tup (by rfl) (pgs_cons (pg_name (i := 2) sc_greater_place.nd rfl (by first | exact Or.inl rfl | exact Or.inr rfl)) (pgs_cons (pg_name (i := 3) sc_greater_place.nd rfl (by first | exact Or.inl rfl | exact Or.inr rfl)) pgs_nil))))
      (pss_one (ps_if (pt_cmpR op_gt (pe_op op_mul pe_int (pv 3)) (pe_callB (cr_sumTK (K := K) rfl rfl) (by rfl) T.sum (by decide +kernel) (pa_cons (pv 1) pa_nil)) (nomark _)) (pss_one (ps_ret (pv 2))) pss_nil)))
    (pss_one (ps_ret pe_non)))), ?_⟩
    refine q_asg (P := tl K ((cv l).map pint)) (er_meth (A := fun l : List Cir => [four K C l]) (R := fun l => tl K ((cv l).map pint)) l (er_var rfl p0) (four_m (by decide +kernel)) ea_nil rfl hl4) fun v1 H1 e1 p1 => ?_
    refine q_for (ei_enumT (as := cv l) (A := pint) (k := 1) (ea_cons (er_var rfl p1) (ea_cons er_c ea_nil)) (by decide)) (fun i σ' _ => ∃ z1 z2, σ' = [some v, some v1, z1, z2] ∧ ∀ j, j < i → ¬ 2 * (cv l).getD j 0 > (cv l).sum) (fun H2 e2 => ⟨none, none, rfl, fun j hj => absurd hj (Nat.not_lt_zero _)⟩) (fun i b y σ' H2 H' ha e2 hz e3 py N hN => ?_) (fun σ' H2 e2 hz => ?_)
    · obtain ⟨z1, z2, ez, hb⟩ := hz
      subst ez
      obtain ⟨c, j⟩ := b
      obtain ⟨hq, hj⟩ := zipIdx_at ha
      have hj' : j = i := hj
      subst hj'
      obtain ⟨a, xs, e0, h2, h3⟩ := py
      obtain ⟨x1, x2, e1', q1, q2⟩ := pl2 h3
      have e6 : x1 = .int (1 + ((j : Nat) : Int)) := q1
      have e7 : x2 = .int c := q2
      subst e1' e6 e7 e0
      refine ⟨a, _, rfl, h2, rfl, _, _, rfl, _, _, rfl, rfl, ?_⟩
      have hjl : j < (cv l).length := (List.getElem?_eq_some_iff.mp hq).1
      have hcj : (cv l).getD j 0 = c := by
        rw [List.getD_eq_getElem?_getD, hq]
        rfl
      refine s_if (b := decide ((cv l).sum < 2 * c)) (et_t (er_I0 (er_I er_c (er_is rfl) (.inl ⟨by decide, by decide⟩)) (er_sumT (er_var rfl ((tl K _).mono (e2.trans e3) p1))))) (fun h H5 e5 => ?_) (fun h H5 e5 => ?_)
      · have h' := of_decide_eq_true h
        refine s_ret (P := pint (1 + ((j : Nat) : Int))) (er_is rfl) fun v6 H6 e6 p6 => ?_
        refine k v6 H6 ((((e1.trans e2).trans e3).trans e5).trans e6) ?_
        have eg := gp_at hok.good (show j < 4 by omega) (by rw [hcj]; omega)
        show v6 = pGp (gp (cv l))
        rw [eg]
        exact (show v6 = V.int (1 + ((j : Nat) : Int)) from p6).trans (by show V.int _ = V.int _; congr 1; omega)
      · refine hN _ H5 e5 ⟨_, _, rfl, fun m hm => ?_⟩
        have h' := of_decide_eq_false h
        rcases Nat.lt_succ_iff_lt_or_eq.mp hm with hm | hm
        · exact hb m hm
        · rw [hm, hcj]
          omega
    · obtain ⟨z1, z2, ez, hb⟩ := hz
      subst ez
      refine s_ret (P := is .non) er_c fun v6 H6 e6 p6 => ?_
      refine k v6 H6 ((e1.trans e2).trans e6) ?_
      have eg : gp (cv l) = none := by
        rw [List.length_zipIdx, hc4] at hb
        obtain ⟨a, b, c, d, ec, _⟩ := hok.good
        rw [ec] at hb ⊢
        rw [sum4] at hb
        have b0 := hb 0 (by omega)
        have b1 := hb 1 (by omega)
        have b2 := hb 2 (by omega)
        have b3 := hb 3 (by omega)
        have b0' : ¬ 2 * a > a + b + c + d := b0
        have b1' : ¬ 2 * b > a + b + c + d := b1
        have b2' : ¬ 2 * c > a + b + c + d := b2
        have b3' : ¬ 2 * d > a + b + c + d := b3
        exact gp_none.mpr ⟨by omega, by omega, by omega, by omega⟩
      show v6 = pGp (gp (cv l))
      rw [eg]
      exact p6
/-! ### way_down -/
structure Fd where
  l : List Cir
  w : List Nat
  r : List Int
  n : Nat
def PreD (d : Fd) : Prop := Ok d.l ∧ Bds d.n d.l ∧ Dn (cv d.l) d.w d.r ∧ d.n + 4 * d.w.length ≤ 200000 ∧ d.w.length ≤ 1000
def spDown (K : PySem.W.Frag) (C : Addr) : Sp := Spf (fun d : Fd => [four K C d.l]) PreD (fun d => tl K ((wI d.w).map pint))
theorem c_way_down (F : Df K mg "way_down" s_way_down ["four"]) (T : Tx K mg) (m_exchanged : C8.Met P w K mg base 7 C "exchanged" (spExch K C) []) (c_greater_place : C8.Cal P w K mg base 2 "greater_place" (spGp K C) []) : C8.Cal P w K mg base 8 "way_down" (spDown K C) [] :=
  F.cal sc_way_down (fun _ => rfl) fun f cdv An outer s H vs Q E d hr hp hv k => by
    obtain ⟨l, ws, r, n⟩ := d
    obtain ⟨v, e0, p0⟩ := pl1 hv
    subst e0
    obtain ⟨hok, hbd, hd, hn, hl⟩ := hp
    dsimp only at hok hbd hd hn hl p0 k
    refine ⟨_, (pss_cons (ps_set (i := 1) sc_way_down.nd rfl (by first | exact Or.inl rfl | exact Or.inr rfl) (pe_lst pa_nil))
    (pss_cons (ps_set (i := 2) sc_way_down.nd rfl (by first | exact Or.inl rfl | exact Or.inr rfl) (C8.pe_c c_greater_place hr (by decide) (by rfl) (pa_cons (pv 0) pa_nil)))
    (pss_cons (ps_while PassesOwn.never (pt_cmpR op_notN (pv 2) pe_non (nomark _)) (pss_cons (ps_expr (k_bm (K := K) rfl (pe_bm PySem.F.plainAttrs_list PySem.F.slot_list_append PySem.F.type_list_append mt_append (pv 1) (pa_cons (pv 2) pa_nil))))
    (pss_cons (ps_set (i := 0) sc_way_down.nd rfl (by first | exact Or.inl rfl | exact Or.inr rfl) (C8.pe_mt m_exchanged hr (by decide) (pv 0) (pa_cons (pv 2) pa_nil)))
    (pss_one (ps_set (i := 2) sc_way_down.nd rfl (by first | exact Or.inl rfl | exact Or.inr rfl) (C8.pe_c c_greater_place hr (by decide) (by rfl) (pa_cons (pv 0) pa_nil)))))))
    (pss_one (ps_ret (pe_callTy (call_tupleK (K := K) rfl) (by rfl) T.tuple (by decide +kernel) (pa_cons (pv 1) pa_nil))))))), ?_⟩
    refine q_lst (Ps := []) ea_nil (by decide) fun lf vs H2 e2 nf hf pf => ?_
    have ev : vs = [] := by
      have := pf.len
      exact List.length_eq_zero_iff.mp this
    subst ev
    refine q_asg (P := is (pGp (gp (cv l)))) (er_call (A := fun l : List Cir => [four K C l]) (R := fun l => is (pGp (gp (cv l)))) l (ea_cons (er_var rfl ((four K C l).mono e2 p0)) ea_nil) hok) fun v3 H3 e3 p3 => ?_
    have ev3 : v3 = pGp (gp (cv l)) := p3
    subst ev3
    refine ⟨fun m σ' H' => ∃ (v' : V) (l' : List Cir) (w1 w2 : List Nat), ws = w1 ++ w2 ∧ m = w2.length ∧ σ' = [some v', some (.ref lf), some (pGp (gp (cv l')))] ∧ (four K C l').p v' H' ∧ Ok l' ∧ Bds (n + 4 * w1.length) l' ∧ Dn (cv l') w2 r ∧ Same H H' ∧ H' lf = some (.lst ((wI w1).map V.int)), ⟨ws.length, v, l, [], ws, rfl, rfl, rfl, (four K C l).mono (e2.trans e3) p0, hok, hbd, hd, e2.trans e3, e3 _ _ hf⟩, ?_⟩
    rintro m σ' H' ⟨v', l', w1, w2, ew, em, rfl, pv', hok', hbd', hd', eH, hlf⟩
    refine (et_t (er_notN (er_is rfl))) H' (Same.refl _) _ fun H4 e4 => ?_
    have hwl : ws.length = w1.length + w2.length := by rw [ew, List.length_append]
    cases hd' with
    | root eg =>
      rw [eg]
      refine iteF ?_
      rw [List.append_nil] at ew
      subst ew
      refine s_ret (P := tl K ((wI ws).map pint)) (er_tupL (er_var rfl ⟨lf, _, rfl, e4 _ _ hlf, PL.off _⟩)) fun v5 H5 e5 p5 => k v5 H5 ((eH.trans e4).trans e5) p5
    | step eg d' =>
      rename_i j w3
      rw [eg]
      refine iteT ?_
      obtain ⟨hj, _⟩ := gp_lt hok'.good eg
      have hlf4 := e4 _ _ hlf
      refine ⟨fun σ' H' => ∃ (v' : V) (l' : List Cir) (w1 w2 : List Nat), ws = w1 ++ w2 ∧ w2.length < m ∧ σ' = [some v', some (.ref lf), some (pGp (gp (cv l')))] ∧ (four K C l').p v' H' ∧ Ok l' ∧ Bds (n + 4 * w1.length) l' ∧ Dn (cv l') w2 r ∧ Same H H' ∧ H' lf = some (.lst ((wI w1).map V.int)), fun σ2 H2' ⟨v', l', w1, w2, h1, h2, h3, h4, h5, h6, h7, h8, h9⟩ => ⟨w2.length, h2, v', l', w1, w2, h1, rfl, h3, h4, h5, h6, h7, h8, h9⟩, ?_⟩
      rw [List.length_cons] at hwl
      refine q_app (P := pint ((j : Int) + 1)) hlf4 (er_is rfl) (er_is rfl) (by rw [List.length_map, wI_len]; omega) fun v5 H5 e5 p5 => ?_
      have ev5 : v5 = .int ((j : Int) + 1) := p5
      subst ev5
      have hlf5 := e5 _ _ hlf4
      have pv5 : (four K C l').p v' (upd H5 lf (.lst ((wI w1).map V.int ++ [.int ((j : Int) + 1)]))) := solid_four _ _ _ _ _ _ hlf5 ((four K C l').mono (e4.trans e5) pv')
      have sH5 : Same H (upd H5 lf (.lst ((wI w1).map V.int ++ [.int ((j : Int) + 1)]))) := Same.mut ((eH.trans e4).trans e5) nf
      refine q_asg (P := four K C (exch l' j)) (er_meth (A := fun d : Fp => [four K C d.l, pint ((d.k : Int) + 1)]) (R := fun d : Fp => four K C (exch d.l d.k)) ⟨l', j, n + 4 * w1.length⟩ (er_var rfl pv5) (four_m (by decide +kernel)) (ea_cons (er_is rfl) ea_nil) rfl ⟨hok', hbd', hj, by show n + 4 * w1.length ≤ 200000; omega⟩) fun v6 H6 e6 p6 => ?_
      refine s_asg (P := is (pGp (gp (cv (exch l' j))))) (er_call (A := fun l : List Cir => [four K C l]) (R := fun l => is (pGp (gp (cv l)))) (exch l' j) (ea_cons (er_var rfl p6) ea_nil) (hok'.exch hj)) fun v7 H7 e7 p7 => ?_
      have ev7 : v7 = pGp (gp (cv (exch l' j))) := p7
      subst ev7
      refine ⟨v6, exch l' j, w1 ++ [j], w3, by rw [ew, List.append_assoc]; rfl, by rw [em, List.length_cons]; exact Nat.lt_succ_self _, rfl, (four K C _).mono e7 p6, hok'.exch hj, (hbd'.exch hok'.len hj).mono (by rw [List.length_append, List.length_singleton]; omega), by rw [cv_exch]; exact d', (sH5.trans e6).trans e7, ?_⟩
      rw [(e6.trans e7) _ _ upd_same]
      unfold wI
      rw [List.map_append, List.map_append]
      rfl
end
end Ft
set_option maxHeartbeats 4000000
namespace Ft
open PySem PySem.Spec PyProof.Rows L2
/-- is the paper right -/
def chk (wd : Str) (c1 c2 : List Int) : Bool := if wd = sAlike then decide (srt c1 = srt c2) else (decide (wd = sUnlike) && (!decide (srt c1 = srt c2) && (isRt c1 && isRt c2)))
section
variable {P : Program} {w : World} {K : PySem.W.Frag} {mg : Str → Option Value} {base : Heap} {C : Addr}
def spRootOf (K : PySem.W.Frag) (C : Addr) : Sp := Spf (fun d : Fd => [four K C d.l]) PreD (fun d => four K C (fall d.l d.w))
theorem c_root_of (F : Df K mg "root_of" s_root_of ["four"]) (c_four_at : C8.Cal P w K mg base 9 "four_at" (spAt K C) []) (c_way_down : C8.Cal P w K mg base 8 "way_down" (spDown K C) []) : C8.Cal P w K mg base 10 "root_of" (spRootOf K C) [] :=
  F.cal sc_root_of (fun _ => rfl) fun f cdv An outer s H vs Q E d hr hp hv k => by
    obtain ⟨v, e0, p0⟩ := pl1 hv
    subst e0
    obtain ⟨hok, hbd, hd, hn, hl⟩ := id hp
    refine ⟨_, (pss_one (ps_ret (C8.pe_c c_four_at hr (by decide) (by rfl) (pa_cons (pv 0) (pa_cons (C8.pe_c c_way_down hr (by decide) (by rfl) (pa_cons (pv 0) pa_nil)) pa_nil))))), ?_⟩
    exact s_ret (P := four K C (fall d.l d.w)) (er_call (A := fun d : Fw => [four K C d.l, tl K ((wI d.w).map pint)]) (R := fun d : Fw => four K C (fall d.l d.w)) ⟨d.l, d.w, d.n⟩ (ea_cons (er_var rfl p0) (ea_cons (er_call (A := fun d : Fd => [four K C d.l]) (R := fun d : Fd => tl K ((wI d.w).map pint)) d (ea_cons (er_var rfl p0) ea_nil) hp) ea_nil)) ⟨hok, hbd, (hd.w4 hok rfl).1, hn, hl⟩) k
def spRootC (K : PySem.W.Frag) (C : Addr) : Sp := Spf (fun d : Fd => [four K C d.l]) PreD (fun d => tl K ((srt d.r).map pint))
theorem c_root_curvatures (F : Df K mg "root_curvatures" s_root_curvatures ["four"]) (T : Tx K mg) (c_root_of : C8.Cal P w K mg base 10 "root_of" (spRootOf K C) []) (m_curvatures : C8.Met P w K mg base 1 C "curvatures" (spCurv K C) []) : C8.Cal P w K mg base 11 "root_curvatures" (spRootC K C) [] :=
  F.cal sc_root_curvatures (fun _ => rfl) fun f cdv An outer s H vs Q E d hr hp hv k => by
    obtain ⟨v, e0, p0⟩ := pl1 hv
    subst e0
    obtain ⟨hok, hbd, hd, hn, hl⟩ := id hp
    obtain ⟨hw4, er⟩ := hd.w4 hok rfl
    have hl4 : (fall d.l d.w).length = 4 := (hok.fall hw4).len
    refine ⟨_, (pss_one (ps_ret (pe_callTy (call_tupleK (K := K) rfl) (by rfl) T.tuple (by decide +kernel) (pa_cons (pe_callB (cr_sortedTK (K := K) rfl) (by rfl) T.sorted (by decide +kernel) (pa_cons (C8.pe_mt0 m_curvatures hr (by decide) (C8.pe_c c_root_of hr (by decide) (by rfl) (pa_cons (pv 0) pa_nil))) pa_nil)) pa_nil)))), ?_⟩
    refine s_ret (P := tl K ((srt d.r).map pint)) ((er_tupL (er_sortedT (ns := cv (fall d.l d.w)) (er_meth (A := fun l : List Cir => [four K C l]) (R := fun l => tl K ((cv l).map pint)) (fall d.l d.w) (er_call (A := fun d : Fd => [four K C d.l]) (R := fun d : Fd => four K C (fall d.l d.w)) d (ea_cons (er_var rfl p0) ea_nil) hp) (four_m (by decide +kernel)) ea_nil rfl hl4) (by rw [cv_len]; omega))).to (by rw [er])) k
def Pre2D (d : Fd × Fd) : Prop := PreD d.1 ∧ PreD d.2
def spAlike (K : PySem.W.Frag) (C : Addr) : Sp := Spf (fun d : Fd × Fd => [four K C d.1.l, four K C d.2.l]) Pre2D (fun d => pbl (decide (srt d.1.r = srt d.2.r)))
theorem c_alike_heaps (F : Df K mg "alike_heaps" s_alike_heaps ["one", "other"]) (c_root_curvatures : C8.Cal P w K mg base 11 "root_curvatures" (spRootC K C) []) : C8.Cal P w K mg base 12 "alike_heaps" (spAlike K C) [] :=
  F.cal sc_alike_heaps (fun _ => rfl) fun f cdv An outer s H vs Q E d hr hp hv k => by
    obtain ⟨v, u, e0, p0, p1⟩ := pl2 hv
    subst e0
    refine ⟨_, (pss_one (ps_ret (pe_cmpR (op_eqDK (K := K) rfl hr.units) (C8.pe_c c_root_curvatures hr (by decide) (by rfl) (pa_cons (pv 0) pa_nil)) (C8.pe_c c_root_curvatures hr (by decide) (by rfl) (pa_cons (pv 1) pa_nil)) (nomark _)))), ?_⟩
    exact s_ret (P := pbl (decide (srt d.1.r = srt d.2.r))) (er_eqT (er_call (A := fun d : Fd => [four K C d.l]) (R := fun d : Fd => tl K ((srt d.r).map pint)) d.1 (ea_cons (er_var rfl p0) ea_nil) hp.1) (er_call (A := fun d : Fd => [four K C d.l]) (R := fun d : Fd => tl K ((srt d.r).map pint)) d.2 (ea_cons (er_var rfl p1) ea_nil) hp.2)) k
def paperP (K : PySem.W.Frag) (wd : Str) (w1 w2 : List Nat) : Pd := tl K [pstr wd, tl K ((wI w1).map pint), tl K ((wI w2).map pint)]
def spPaper (K : PySem.W.Frag) (C : Addr) : Sp := Spf (fun d : Fd × Fd => [four K C d.1.l, four K C d.2.l]) Pre2D (fun d => paperP K (vWord (decide (srt d.1.r = srt d.2.r))) d.1.w d.2.w)
theorem c_heap_paper (F : Df K mg "heap_paper" s_heap_paper ["one", "other"]) (c_alike_heaps : C8.Cal P w K mg base 12 "alike_heaps" (spAlike K C) []) (c_way_down : C8.Cal P w K mg base 8 "way_down" (spDown K C) []) : C8.Cal P w K mg base 13 "heap_paper" (spPaper K C) [] :=
  F.cal sc_heap_paper (fun _ => rfl) fun f cdv An outer s H vs Q E d hr hp hv k => by
    obtain ⟨v, u, e0, p0, p1⟩ := pl2 hv
    subst e0
    refine ⟨_, (pss_cons (ps_set (i := 2) sc_heap_paper.nd rfl (by first | exact Or.inl rfl | exact Or.inr rfl) (pe_ifExp (pt_val (C8.pe_c c_alike_heaps hr (by decide) (by rfl) (pa_cons (pv 0) (pa_cons (pv 1) pa_nil)))) pe_str pe_str))
    (pss_one (ps_ret (pe_tup (pa_cons (pv 2) (pa_cons (C8.pe_c c_way_down hr (by decide) (by rfl) (pa_cons (pv 0) pa_nil)) (pa_cons (C8.pe_c c_way_down hr (by decide) (by rfl) (pa_cons (pv 1) pa_nil)) pa_nil))))))), ?_⟩
    refine q_asg (P := pstr (vWord (decide (srt d.1.r = srt d.2.r)))) (er_if (et_v (er_call (A := fun d : Fd × Fd => [four K C d.1.l, four K C d.2.l]) (R := fun d : Fd × Fd => pbl (decide (srt d.1.r = srt d.2.r))) d (ea_cons (er_var rfl p0) (ea_cons (er_var rfl p1) ea_nil)) hp)) (fun h => er_c.to (by rw [h]; rfl)) (fun h => er_c.to (by rw [h]; rfl))) fun v1 H1 e1 q1 => ?_
    refine s_ret (P := paperP K (vWord (decide (srt d.1.r = srt d.2.r))) d.1.w d.2.w) (er_tup (ea_cons (er_var rfl q1) (ea_cons (er_call (A := fun d : Fd => [four K C d.l]) (R := fun d : Fd => tl K ((wI d.w).map pint)) d.1 (ea_cons (er_var rfl ((four K C _).mono e1 p0)) ea_nil) hp.1) (ea_cons (er_call (A := fun d : Fd => [four K C d.l]) (R := fun d : Fd => tl K ((wI d.w).map pint)) d.2 (ea_cons (er_var rfl ((four K C _).mono e1 p1)) ea_nil) hp.2) ea_nil))) (by show 3 ≤ 100000; decide)) fun v2 H2 e2 q2 => k v2 H2 (e1.trans e2) q2
/-! ### check_heap_paper -/
structure Fc where
  a : Fw
  b : Fw
  wd : Str
def PreC (d : Fc) : Prop := PreW d.a ∧ PreW d.b
def spChkP (K : PySem.W.Frag) (C : Addr) : Sp := Spf (fun d : Fc => [four K C d.a.l, four K C d.b.l, paperP K d.wd d.a.w d.b.w]) PreC (fun d => pbl (chk d.wd (cv (fall d.a.l d.a.w)) (cv (fall d.b.l d.b.w))))
theorem g_three {v : V} {H : Hp} {i j m : Nat} {P1 P2 P3 : Pd} {σ : L2.St} {Q : L2.St → Hp → Prop} (p : (tl K [P1, P2, P3]).p v H) (h : ∀ x y z, P1.p x H → P2.p y H → P3.p z H → Q (((σ.set i (some x)).set j (some y)).set m (some z)) H) :
    gTup K 3 (gCons (gName i) (gCons (gName j) (gCons (gName m) gNil))) v σ H Q := by
  obtain ⟨a, xs, e0, h2, h3⟩ := p
  obtain ⟨x1, x2, x3, e1, p1, p2, p3⟩ := pl3 h3
  subst e1 e0
  exact ⟨a, _, rfl, h2, rfl, _, _, rfl, _, _, rfl, _, _, rfl, rfl, h x1 x2 x3 p1 p2 p3⟩
theorem c_check_heap_paper (F : Df K mg "check_heap_paper" s_check_heap_paper ["one", "other", "told"]) (T : Tx K mg) (c_four_at : C8.Cal P w K mg base 9 "four_at" (spAt K C) []) (m_curvatures : C8.Met P w K mg base 1 C "curvatures" (spCurv K C) []) (m_is_root : C8.Met P w K mg base 2 C "is_root" (spRoot K C) []) : C8.Cal P w K mg base 10 "check_heap_paper" (spChkP K C) [] :=
  F.cal sc_check_heap_paper (fun _ => rfl) fun f cdv An outer s H vs Q E d hr hp hv k => by
    obtain ⟨v, u, t, e0, p0, p1, p2⟩ := pl3 hv
    subst e0
    obtain ⟨ha, hb⟩ := hp
    have la : (fall d.a.l d.a.w).length = 4 := (ha.1.fall ha.2.2.1).len
    have lb : (fall d.b.l d.b.w).length = 4 := (hb.1.fall hb.2.2.1).len
    refine ⟨_, (pss_cons (ps_asg (pv 2) (k_gtup (K := K) rfl (pg_tup (by rfl) (pgs_cons (pg_name (i := 3) sc_check_heap_paper.nd rfl (by first | exact Or.inl rfl | exact Or.inr rfl)) (pgs_cons (pg_name (i := 4) sc_check_heap_paper.nd rfl (by first | exact Or.inl rfl | exact Or.inr rfl)) (pgs_cons (pg_name (i := 5) sc_check_heap_paper.nd rfl (by first | exact Or.inl rfl | exact Or.inr rfl)) pgs_nil))))))
    (pss_cons (ps_set (i := 6) sc_check_heap_paper.nd rfl (by first | exact Or.inl rfl | exact Or.inr rfl) (C8.pe_c c_four_at hr (by decide) (by rfl) (pa_cons (pv 0) (pa_cons (pv 4) pa_nil))))
    (pss_cons (ps_set (i := 7) sc_check_heap_paper.nd rfl (by first | exact Or.inl rfl | exact Or.inr rfl) (C8.pe_c c_four_at hr (by decide) (by rfl) (pa_cons (pv 1) (pa_cons (pv 5) pa_nil))))
    (pss_cons (ps_set (i := 8) sc_check_heap_paper.nd rfl (by first | exact Or.inl rfl | exact Or.inr rfl) (pe_cmpR (op_eqDK (K := K) rfl hr.units) (pe_callB (cr_sortedTK (K := K) rfl) (by rfl) T.sorted (by decide +kernel) (pa_cons (C8.pe_mt0 m_curvatures hr (by decide) (pv 6)) pa_nil)) (pe_callB (cr_sortedTK (K := K) rfl) (by rfl) T.sorted (by decide +kernel) (pa_cons (C8.pe_mt0 m_curvatures hr (by decide) (pv 7)) pa_nil)) (nomark _)))
    (pss_cons (ps_if (pt_cmpR op_eq (pv 3) pe_str (nomark _)) (pss_one (ps_ret (pv 8))) pss_nil)
    (pss_one (ps_ret (pe_and (pe_cmpR op_eq (pv 3) pe_str (nomark _)) (pe_and (pe_not (pv 8)) (pe_and (C8.pe_mt0 m_is_root hr (by decide) (pv 6)) (pe_one (C8.pe_mt0 m_is_root hr (by decide) (pv 7))))))))))))), ?_⟩
    refine q_asgG (P := paperP K d.wd d.a.w d.b.w) (er_var rfl p2) fun v1 H1 e1 q1 => g_three q1 fun x y z px py pz => ?_
    have ex : x = .str d.wd := px
    subst ex
    refine q_asg (P := four K C (fall d.a.l d.a.w)) (er_call (A := fun d : Fw => [four K C d.l, tl K ((wI d.w).map pint)]) (R := fun d : Fw => four K C (fall d.l d.w)) d.a (ea_cons (er_var rfl ((four K C _).mono e1 p0)) (ea_cons (er_var rfl py) ea_nil)) ha) fun v2 H2 e2 q2 => ?_
    refine q_asg (P := four K C (fall d.b.l d.b.w)) (er_call (A := fun d : Fw => [four K C d.l, tl K ((wI d.w).map pint)]) (R := fun d : Fw => four K C (fall d.l d.w)) d.b (ea_cons (er_var rfl ((four K C _).mono (e1.trans e2) p1)) (ea_cons (er_var rfl ((tl K _).mono e2 pz)) ea_nil)) hb) fun v3 H3 e3 q3 => ?_
    have q23 := (four K C _).mono e3 q2
    refine q_asg (P := pbl (decide (srt (cv (fall d.a.l d.a.w)) = srt (cv (fall d.b.l d.b.w))))) (er_eqL (er_sortedT (ns := cv (fall d.a.l d.a.w)) (er_meth (A := fun l : List Cir => [four K C l]) (R := fun l => tl K ((cv l).map pint)) (fall d.a.l d.a.w) (er_var rfl q23) (four_m (by decide +kernel)) ea_nil rfl la) (by rw [cv_len]; omega)) (er_sortedT (ns := cv (fall d.b.l d.b.w)) (er_meth (A := fun l : List Cir => [four K C l]) (R := fun l => tl K ((cv l).map pint)) (fall d.b.l d.b.w) (er_var rfl q3) (four_m (by decide +kernel)) ea_nil rfl lb) (by rw [cv_len]; omega))) fun v4 H4 e4 q4 => ?_
    have ev4 : v4 = .bl (decide (srt (cv (fall d.a.l d.a.w)) = srt (cv (fall d.b.l d.b.w)))) := q4
    subst ev4
    have e14 := ((e1.trans e2).trans e3).trans e4
    refine q_ifR (b := decide (d.wd = sAlike)) ((et_t (er_eq (er_is rfl) er_c rfl)).to dS) (fun h H5 e5 => ?_) (fun h H5 e5 => ?_)
    · have h' := of_decide_eq_true h
      refine s_ret (P := pbl (chk d.wd (cv (fall d.a.l d.a.w)) (cv (fall d.b.l d.b.w)))) ((er_is rfl).to ?_) fun v6 H6 e6 q6 => k v6 H6 ((e14.trans e5).trans e6) q6
      unfold chk
      rw [if_pos h']
    · have h' := of_decide_eq_false h
      have q25 := (four K C _).mono (e4.trans e5) q23
      have q35 := (four K C _).mono (e4.trans e5) q3
      refine s_ret (P := pbl (chk d.wd (cv (fall d.a.l d.a.w)) (cv (fall d.b.l d.b.w)))) ((er_and2 ((er_eq (er_is rfl) er_c rfl).to (by rw [dS])) fun _ => er_and2 (er_not (er_is rfl)) fun _ => er_and2 (er_meth (A := fun l : List Cir => [four K C l]) (R := fun l => pbl (isRt (cv l))) (fall d.a.l d.a.w) (er_var rfl q25) (four_m (by decide +kernel)) ea_nil rfl la) fun _ => er_meth (A := fun l : List Cir => [four K C l]) (R := fun l => pbl (isRt (cv l))) (fall d.b.l d.b.w) (er_var rfl q35) (four_m (by decide +kernel)) ea_nil rfl lb).to ?_) fun v6 H6 e6 q6 => k v6 H6 ((e14.trans e5).trans e6) q6
      unfold chk
      rw [if_neg h']
/-! ### texts -/
def PreL (w : List Nat) : Prop := W4 w ∧ w.length ≤ 1000
def strOf : V → Str
  | .str s => s
  | .int i => Str.ofString (toString i)
  | _ => Str.empty
def lineV (w : List Nat) : List V := .str sWay :: (wI w).map V.int
theorem lineV_str (w : List Nat) : (lineV w).map strOf = wayL w := by
  unfold lineV wayL wI
  rw [List.map_cons, List.map_map, List.map_map]
  rfl
def spLine (K : PySem.W.Frag) : Sp := Spf (fun d : List Nat => [ll ((lineV d).map is)]) PreL (fun d => pstr (lineT d))
theorem c_line_of (F : Df K mg "line_of" s_line_of ["words"]) (T : Tx K mg) : C8.Cal P w K mg base 1 "line_of" (spLine K) [] :=
  F.cal sc_line_of (fun _ => rfl) fun f cdv An outer s H vs Q E d hr hp hv k => by
    obtain ⟨v, e0, p0⟩ := pl1 hv
    subst e0
    obtain ⟨hw, hl⟩ := hp
    have hll : (lineV d).length = d.length + 1 := by
      unfold lineV
      rw [List.length_cons, List.length_map, wI_len]
    refine ⟨_, (pss_one (ps_ret (k_join (K := K) rfl (pe_join pe_str (pe_lc (own := [("word", 1)]) (g := (gName 1)) (tt := tYes) rfl sc_line_of.nd (k_list (K := K) rfl (pi_list (pv 0))) (blkOk_by (own := [("word", 1)]) (N := n_line_of) (sc := defScope s_line_of) (by decide +kernel)) (fun _ _ _ _ _ => (pg_name (i := 1) sc_line_of.nd rfl (by first | exact Or.inl rfl | exact Or.inr rfl))) (fun _ _ _ _ _ => pts_nil) (fun _ _ _ _ _ => (pe_callTy (CallR.or call_str_int SkE.call_str_str) (by rfl) T.str (by decide +kernel) (pa_cons (pv 1) pa_nil)))))))), ?_⟩
    refine s_ret (P := pstr (lineT d)) (er_join (ys := wayL d) er_c ((er_lcN (as := lineV d) (A := is) (R := fun v => pstr (strOf v)) (ei_list (er_var rfl p0)) (by omega) (fun _ _ => solid_is) (fun a x H' ha e px => ?_)).to ?_) ?_) k
    · have ex : x = a := px
      subst ex
      refine er_cb1 (P1 := is x) (er_is rfl) fun H1 y _ py Q' q => ?_
      have ey : y = x := py
      subst ey
      unfold lineV at ha
      rcases List.mem_cons.mp ha with e1 | e1
      · subst e1
        exact .inr ⟨sWay, rfl, q _ H1 (Same.refl _) rfl⟩
      · obtain ⟨i, hi, ei⟩ := List.mem_map.mp e1
        subst ei
        unfold wI at hi
        obtain ⟨j, hj, ej⟩ := List.mem_map.mp hi
        subst ej
        have h4 := hw j hj
        refine .inl ⟨_, rfl, ?_, q _ H1 (Same.refl _) rfl⟩
        have hle : (((j : Nat) : Int) + 1).natAbs ≤ 4 := by omega
        refine Nat.lt_of_le_of_lt (Nat.log2_le_self _) (by omega)
    · rw [← lineV_str, List.map_map]
      rfl
    · rw [wayL_len hw]
      have e : (wayL d).length = d.length + 1 := by
        unfold wayL
        rw [List.length_cons, List.length_map]
      have e2 : sSp.length = 1 := len_sp
      rw [e]
      show d.length + 3 + (d.length + 1) * sSp.length ≤ 100000
      rw [e2]
      omega
def spAre (K : PySem.W.Frag) : Sp := Spf (fun d : List Str => [ll (d.map pstr)]) (fun d => d.length ≤ 1001) (fun d => pbl ((d.map fun z => inV (.str z) LTx).all id))
theorem c_are_letters (F : Df K mg "are_letters" s_are_letters ["words"]) (T : Tx K mg) {aLT : Addr} (hLT : KTup K mg "LETTERS_texts" aLT LTx) : C8.Cal P w K mg base 1 "are_letters" (spAre K) [] :=
  F.cal sc_are_letters (fun _ => rfl) fun f cdv An outer s H vs Q E d hr hp hv k => by
    obtain ⟨v, e0, p0⟩ := pl1 hv
    subst e0
    have hl : d.length ≤ 1001 := hp
    refine ⟨_, (pss_one (ps_ret (pe_callB (cr_allK (K := K) rfl rfl) (by rfl) T.all (by decide +kernel) (pa_cons (pe_lc (own := [("word", 1)]) (g := (gName 1)) (tt := tYes) rfl sc_are_letters.nd (k_list (K := K) rfl (pi_list (pv 0))) (blkOk_by (own := [("word", 1)]) (N := n_are_letters) (sc := defScope s_are_letters) (by decide +kernel)) (fun _ _ _ _ _ => (pg_name (i := 1) sc_are_letters.nd rfl (by first | exact Or.inl rfl | exact Or.inr rfl))) (fun _ _ _ _ _ => pts_nil) (fun _ _ _ _ _ => (pe_cmpR (op_in_seqK (K := K) rfl) (pv 1) (pe_glob (v := V.ref aLT) rfl hLT.1 rfl) (by rfl)))) pa_nil)))), ?_⟩
    refine s_ret (P := pbl ((d.map fun z => inV (.str z) LTx).all id)) (er_all (bs := d.map fun z => inV (.str z) LTx) ((er_lcN (as := d) (A := pstr) (R := fun z => pbl (inV (.str z) LTx)) (ei_list (er_var rfl p0)) (by omega) (fun _ _ => solid_is) (fun a x H' _ _ px => ?_)).to (by rw [List.map_map]; rfl))) k
    have ex : x = .str a := px
    subst ex
    exact er_in (neg := false) (er_is rfl) (er_cP (ktup_p hLT)) rfl rfl
def spLet (K : PySem.W.Frag) : Sp := Spf (fun d : List Nat => [ll ((d.map dg).map pstr)]) PreL (fun d => tl K ((wI d).map pint))
theorem c_letters_of (F : Df K mg "letters_of" s_letters_of ["words"]) (T : Tx K mg) : C8.Cal P w K mg base 1 "letters_of" (spLet K) [] :=
  F.cal sc_letters_of (fun _ => rfl) fun f cdv An outer s H vs Q E d hr hp hv k => by
    obtain ⟨v, e0, p0⟩ := pl1 hv
    subst e0
    obtain ⟨hw, hl⟩ := hp
    refine ⟨_, (pss_one (ps_ret (pe_callTy (call_tupleK (K := K) rfl) (by rfl) T.tuple (by decide +kernel) (pa_cons (pe_lc (own := [("word", 1)]) (g := (gName 1)) (tt := tYes) rfl sc_letters_of.nd (k_list (K := K) rfl (pi_list (pv 0))) (blkOk_by (own := [("word", 1)]) (N := n_letters_of) (sc := defScope s_letters_of) (by decide +kernel)) (fun _ _ _ _ _ => (pg_name (i := 1) sc_letters_of.nd rfl (by first | exact Or.inl rfl | exact Or.inr rfl))) (fun _ _ _ _ _ => pts_nil) (fun _ _ _ _ _ => (pe_callTy call_int_str (by rfl) T.int (by decide +kernel) (pa_cons (pv 1) pa_nil)))) pa_nil)))), ?_⟩
    refine s_ret (P := tl K ((wI d).map pint)) ((er_tupL (er_lcN (as := d) (A := fun j => pstr (dg j)) (R := fun j : Nat => pint ((j : Int) + 1)) (ei_list ((er_var rfl p0).to (by rw [List.map_map]; rfl))) (by omega) (fun _ _ => solid_is) (fun j x H' hj _ px => ?_))).to ?_) k
    · exact er_intS (er_var rfl px) (dg_int (hw j hj)) (by rw [dg_len (hw j hj)]; decide)
    · unfold wI
      rw [List.map_map]
      rfl
def spText (K : PySem.W.Frag) (C : Addr) : Sp := Spf (fun d : Fd × Fd => [four K C d.1.l, four K C d.2.l]) Pre2D (fun d => pstr (heapT (vWord (decide (srt d.1.r = srt d.2.r))) d.1.w d.2.w))
theorem c_heap_text (F : Df K mg "heap_text" s_heap_text ["one", "other"]) (c_heap_paper : C8.Cal P w K mg base 13 "heap_paper" (spPaper K C) []) (c_line_of : C8.Cal P w K mg base 1 "line_of" (spLine K) []) : C8.Cal P w K mg base 14 "heap_text" (spText K C) [] :=
  F.cal sc_heap_text (fun _ => rfl) fun f cdv An outer s H vs Q E d hr hp hv k => by
    obtain ⟨v, u, e0, p0, p1⟩ := pl2 hv
    subst e0
    have h1 := hp.1
    have h2 := hp.2
    have w1 := (h1.2.2.1.w4 h1.1 rfl).1
    have w2 := (h2.2.2.1.w4 h2.1 rfl).1
    have l1 := h1.2.2.2.2
    have l2 := h2.2.2.2.2
    refine ⟨_, (pss_cons (ps_asg (C8.pe_c c_heap_paper hr (by decide) (by rfl) (pa_cons (pv 0) (pa_cons (pv 1) pa_nil))) (k_gtup (K := K) rfl (pg_tup (by rfl) (pgs_cons (pg_name (i := 2) sc_heap_text.nd rfl (by first | exact Or.inl rfl | exact Or.inr rfl)) (pgs_cons (pg_name (i := 3) sc_heap_text.nd rfl (by first | exact Or.inl rfl | exact Or.inr rfl)) (pgs_cons (pg_name (i := 4) sc_heap_text.nd rfl (by first | exact Or.inl rfl | exact Or.inr rfl)) pgs_nil))))))
    (pss_one (ps_ret (k_join (K := K) rfl (pe_join pe_str (pe_lst (pa_cons (pv 2) (pa_cons (C8.pe_c c_line_of hr (by decide) (by rfl) (pa_cons (pe_lst (pa_cons pe_str (k_star (K := K) rfl (StX.pa_star (pv 3) pa_nil)))) pa_nil)) (pa_cons (C8.pe_c c_line_of hr (by decide) (by rfl) (pa_cons (pe_lst (pa_cons pe_str (k_star (K := K) rfl (StX.pa_star (pv 4) pa_nil)))) pa_nil)) pa_nil))))))))), ?_⟩
    refine q_asgG (P := paperP K (vWord (decide (srt d.1.r = srt d.2.r))) d.1.w d.2.w) (er_call (A := fun d : Fd × Fd => [four K C d.1.l, four K C d.2.l]) (R := fun d : Fd × Fd => paperP K (vWord (decide (srt d.1.r = srt d.2.r))) d.1.w d.2.w) d (ea_cons (er_var rfl p0) (ea_cons (er_var rfl p1) ea_nil)) hp) fun v1 H1 e1 q1 => g_three q1 fun x y z px py pz => ?_
    have ll_eq : ∀ ws : List Nat, (pstr sWay :: ((wI ws).map pint ++ [])) = (lineV ws).map is := fun ws => by
      unfold lineV
      rw [List.append_nil, List.map_cons, List.map_map]
      rfl
    have ln : ∀ ws : List Nat, ws.length ≤ 1000 → (pstr sWay :: ((wI ws).map pint ++ [])).length ≤ 100000 := fun ws h => by
      rw [List.length_cons, List.append_nil, List.length_map, wI_len]
      omega
    refine s_ret (P := pstr (heapT (vWord (decide (srt d.1.r = srt d.2.r))) d.1.w d.2.w)) (er_join (ys := [vWord (decide (srt d.1.r = srt d.2.r)), lineT d.1.w, lineT d.2.w]) er_c (er_lst (Ps := [pstr (vWord (decide (srt d.1.r = srt d.2.r))), pstr (lineT d.1.w), pstr (lineT d.2.w)]) (ea_cons (er_var rfl px) (ea_cons (er_call (A := fun d : List Nat => [ll ((lineV d).map is)]) (R := fun d => pstr (lineT d)) d.1.w (ea_cons ((er_lst (ea_cons er_c (ea_star (er_var rfl py) ea_nil)) (ln _ l1)).to (congrArg ll (ll_eq _))) ea_nil) ⟨w1, l1⟩) (ea_cons (er_call (A := fun d : List Nat => [ll ((lineV d).map is)]) (R := fun d => pstr (lineT d)) d.2.w (ea_cons ((er_lst (ea_cons er_c (ea_star (er_var rfl pz) ea_nil)) (ln _ l2)).to (congrArg ll (ll_eq _))) ea_nil) ⟨w2, l2⟩) ea_nil))) (by show 3 ≤ 100000; decide)) ?_) fun v2 H2 e2 q2 => k v2 H2 (e1.trans e2) q2
    have b1 := lineT_len w1
    have b2 := lineT_len w2
    have b3 := vWord_len (decide (srt d.1.r = srt d.2.r))
    have b4 := len_nl
    show ([vWord (decide (srt d.1.r = srt d.2.r)), lineT d.1.w, lineT d.2.w].map (·.length)).sum + 3 * sNl.length ≤ 100000
    simp only [List.map_cons, List.map_nil, List.sum_cons, List.sum_nil]
    omega
end
end Ft
set_option maxHeartbeats 4000000
namespace Ft
open PySem PySem.Spec PyProof.Rows L2
def VEx : List V := [.str "alike", .str "unlike"]
theorem inV_word (b : Bool) : inV (.str (vWord b)) VEx = true := by
  cases b
  · decide +kernel
  · decide +kernel
structure Fh where
  b : Bool
  w1 : List Nat
  w2 : List Nat
def PreH (d : Fh) : Prop := PreL d.w1 ∧ PreL d.w2
def wayP (w : List Nat) : Pd := ll ((wayL w).map pstr)
def linesP (d : Fh) : Pd := ll [ll [pstr (vWord d.b)], wayP d.w1, wayP d.w2]
theorem wayL_drop (w : List Nat) : cutP ((wayL w).map pstr) (some (1 : Int)) none = (w.map dg).map pstr := by
  rw [show (1 : Int) = ((1 : Nat) : Int) from rfl, cutP_from]
  rfl
section
variable {P : Program} {w : World} {K : PySem.W.Frag} {mg : Str → Option Value} {base : Heap} {C : Addr}
def spParse (K : PySem.W.Frag) : Sp := Spf (fun d : Fh => [pstr (heapT (vWord d.b) d.w1 d.w2)]) PreH (fun d => paperP K (vWord d.b) d.w1 d.w2)
theorem c_parse_heap (F : Df K mg "parse_heap" s_parse_heap ["text"]) (T : Tx K mg) {aVE : Addr} (hVE : KTup K mg "VERDICTS" aVE VEx) (c_are_letters : C8.Cal P w K mg base 1 "are_letters" (spAre K) []) (c_letters_of : C8.Cal P w K mg base 1 "letters_of" (spLet K) []) : C8.Cal P w K mg base 2 "parse_heap" (spParse K) [] :=
  F.cal sc_parse_heap (fun _ => rfl) fun f cdv An outer s H vs Q E d hr hp hv k => by
    obtain ⟨v, e0, p0⟩ := pl1 hv
    subst e0
    obtain ⟨⟨hw1, hl1⟩, ⟨hw2, hl2⟩⟩ := id hp
    have hT := heapT_len (b := d.b) hw1 hw2
    refine ⟨_, (pss_cons (ps_setLc (i := 1) (own := [("line", 2)]) (g := (gName 2)) (tt := tYes) rfl sc_parse_heap.nd rfl rfl (sw_true rfl rfl rfl (by decide +kernel)) (k_list (K := K) rfl (pi_list (pe_split (pv 0) pe_str))) (blkOk_by (own := [("line", 2)]) (N := n_parse_heap) (sc := defScope s_parse_heap) (by decide +kernel)) (fun _ _ _ _ _ => (pg_name (i := 2) sc_parse_heap.nd rfl (by first | exact Or.inl rfl | exact Or.inr rfl))) (fun _ _ _ _ _ => pts_nil) (fun _ _ _ _ _ => (pe_split (pv 2) pe_str)))
    (pss_cons (ps_if (PW.pt (pw_or (pt_cmpR op_ne (pe_callB (call_lenK (K := K) rfl) (by rfl) T.len (by decide +kernel) (pa_cons (pe_ix (ix_listK (K := K) rfl) (pv 1) pe_int (fun _ _ => rfl)) pa_nil)) pe_int (nomark _)) (pw_or1 (pt_cmpR (op_notIn_seqK (K := K) rfl) (pe_ix (ix_listK (K := K) rfl) (pe_ix (ix_listK (K := K) rfl) (pv 1) pe_int (fun _ _ => rfl)) pe_int (fun _ _ => rfl)) (pe_glob (v := V.ref aVE) rfl hVE.1 rfl) (by rfl))))) (pss_one ps_never) pss_nil)
    (pss_cons (ps_for PassesOwn.never rfl (k_enumX (K := K) rfl (pi_enumX (by rfl) T.enumerate (pa_cons (pe_slice (sl_listK (K := K) rfl) (pv 1) (po_some pe_int) po_none) (pa_cons pe_int pa_nil)))) (k_gtup (K := K) rfl (pg_tup (by rfl) (pgs_cons (pg_name (i := 3) sc_parse_heap.nd rfl (by first | exact Or.inl rfl | exact Or.inr rfl)) (pgs_cons (pg_name (i := 4) sc_parse_heap.nd rfl (by first | exact Or.inl rfl | exact Or.inr rfl)) pgs_nil))))
      (pss_one (ps_if (PW.pt (pw_or (pt_cmpR op_gt (pv 3) pe_int (nomark _)) (pw_or (pt_cmpR op_ne (pe_ix (ix_listK (K := K) rfl) (pv 4) pe_int (fun _ _ => rfl)) pe_str (nomark _)) (pw_or1 (pt_not (pt_val (C8.pe_c c_are_letters hr (by decide) (by rfl) (pa_cons (pe_slice (sl_listK (K := K) rfl) (pv 4) (po_some pe_int) po_none) pa_nil)))))))) (pss_one ps_never) pss_nil)))
    (pss_cons (ps_if (pt_cmpR op_lt (pe_callB (call_lenK (K := K) rfl) (by rfl) T.len (by decide +kernel) (pa_cons (pv 1) pa_nil)) pe_int (nomark _)) (pss_one ps_never) pss_nil)
    (pss_one (ps_ret (pe_tup (pa_cons (pe_ix (ix_listK (K := K) rfl) (pe_ix (ix_listK (K := K) rfl) (pv 1) pe_int (fun _ _ => rfl)) pe_int (fun _ _ => rfl)) (pa_cons (C8.pe_c c_letters_of hr (by decide) (by rfl) (pa_cons (pe_slice (sl_listK (K := K) rfl) (pe_ix (ix_listK (K := K) rfl) (pv 1) pe_int (fun _ _ => rfl)) (po_some pe_int) po_none) pa_nil)) (pa_cons (C8.pe_c c_letters_of hr (by decide) (by rfl) (pa_cons (pe_slice (sl_listK (K := K) rfl) (pe_ix (ix_listK (K := K) rfl) (pv 1) pe_int (fun _ _ => rfl)) (po_some pe_int) po_none) pa_nil)) pa_nil)))))))))), ?_⟩
    refine q_asg (P := linesP d) ((er_lcF (as := [vWord d.b, lineT d.w1, lineT d.w2]) (A := pstr) (R := fun z => ll ((Txt.split z sSp).map pstr)) (ei_list ((er_split (b := sNl) (er_var rfl p0) er_c (by rw [len_nl]; rfl) (by omega)).to (by rw [split_heap]))) (by show 3 ≤ 40000; decide) (fun z x H' hz e px => ern_split (er_var rfl px) er_c (by rw [len_sp]; rfl) ?_)).to ?_) fun v1 H1 e1 p1 => ?_
    · have e : z = vWord d.b ∨ z = lineT d.w1 ∨ z = lineT d.w2 := by simpa using hz
      have b1 := lineT_len hw1
      have b2 := lineT_len hw2
      have b3 := vWord_len d.b
      rcases e with e | e | e <;> (rw [e]; omega)
    · unfold linesP wayP
      rw [List.map_cons, List.map_cons, List.map_cons, List.map_nil, split_word, split_line, split_line]
      rfl
    refine q_ifF ((et_or (b := false) ((et_t (er_ne (er_lenL (er_ixL (P := ll [pstr (vWord d.b)]) (er_var rfl p1) er_c rfl)) er_c rfl)).to rfl) (fun _ => (et_t (er_in (neg := true) (x := .str (vWord d.b)) (er_ixL (er_ixL (P := ll [pstr (vWord d.b)]) (er_var rfl p1) er_c rfl) er_c rfl) (er_cP (ktup_p hVE)) rfl rfl)).to ?_) (fun h => nomatch h))) fun H2 e2 => ?_
    · show (!inV (.str (vWord d.b)) VEx) = false
      rw [inV_word]
      rfl
    refine q_for (ei_enumL (as := [wayL d.w1, wayL d.w2]) (A := fun ws => ll (ws.map pstr)) (k := 2) (ea_cons ((er_slL (er_var rfl ((linesP d).mono e2 p1)) (eo_some er_c) eo_none).to ?_) (ea_cons er_c ea_nil)) (by decide)) (fun _ σ' _ => ∃ z1 z2, σ' = [some v, some v1, none, z1, z2]) (fun H3 e3 => ⟨none, none, rfl⟩) (fun i b y σ' H3 H' ha e3 hz e4 py N hN => ?_) (fun σ' H3 e3 hz => ?_)
    · rw [show (1 : Int) = ((1 : Nat) : Int) from rfl, cutP_from]
      rfl
    · obtain ⟨z1, z2, ez⟩ := hz
      subst ez
      obtain ⟨ws, j⟩ := b
      obtain ⟨hq, hj⟩ := zipIdx_at ha
      have hj' : j = i := hj
      subst hj'
      obtain ⟨a, xs, e0, h2, h3⟩ := py
      obtain ⟨x1, x2, e1', q1, q2⟩ := pl2 h3
      have e6 : x1 = .int (2 + ((j : Nat) : Int)) := q1
      subst e1' e6 e0
      refine ⟨a, _, rfl, h2, rfl, _, _, rfl, _, _, rfl, rfl, ?_⟩
      have hjl : j < 2 := (List.getElem?_eq_some_iff.mp hq).1
      obtain ⟨wj, ew, hwj⟩ : ∃ wj, ws = wayL wj ∧ PreL wj := by
        match j, hjl with
        | 0, _ => exact ⟨d.w1, (Option.some.inj hq).symm, hw1, hl1⟩
        | 1, _ => exact ⟨d.w2, (Option.some.inj hq).symm, hw2, hl2⟩
      subst ew
      refine s_ifF (et_or (b := false) ((et_t (er_I0 (er_is rfl) er_c)).to (by show decide ((3 : Int) < 2 + ((j : Nat) : Int)) = false; exact decide_eq_false (by omega))) (fun _ => et_or (b := false) ((et_t (er_ne (x := .str sWay) (er_ixL (P := pstr sWay) (er_var rfl q2) er_c (at_ofP (j := 0) rfl rfl)) er_c rfl)).to (by rw [dS]; exact congrArg not (decide_eq_true rfl))) (fun _ => (et_not (et_v (er_call (A := fun d : List Str => [ll (d.map pstr)]) (R := fun d => pbl ((d.map fun z => inV (.str z) LTx).all id)) (wj.map dg) (ea_cons ((er_slL (er_var rfl q2) (eo_some er_c) eo_none).to (by rw [wayL_drop])) ea_nil) (by rw [List.length_map]; have := hwj.2; omega)))).to ?_) (fun h => nomatch h)) (fun h => nomatch h)) fun H5 e5 => hN _ H5 e5 ⟨_, _, rfl⟩
      have : ((wj.map dg).map fun z => inV (.str z) LTx).all id = true := by
        rw [List.map_map, List.all_map]
        exact List.all_eq_true.mpr fun k hk => inV_dg (hwj.1 k hk)
      rw [this]
      rfl
    · obtain ⟨z1, z2, ez⟩ := hz
      subst ez
      have p3 := (linesP d).mono (e2.trans e3) p1
      refine q_ifF ((et_t (er_I0 (er_lenL (er_var rfl p3)) er_c)).to rfl) fun H4 e4 => ?_
      have p4 := (linesP d).mono e4 p3
      refine s_ret (P := paperP K (vWord d.b) d.w1 d.w2) (er_tup (ea_cons (er_ixL (P := pstr (vWord d.b)) (er_ixL (P := ll [pstr (vWord d.b)]) (er_var rfl p4) er_c rfl) er_c rfl) (ea_cons (er_call (A := fun d : List Nat => [ll ((d.map dg).map pstr)]) (R := fun d => tl K ((wI d).map pint)) d.w1 (ea_cons ((er_slL (er_ixL (P := wayP d.w1) (er_var rfl p4) er_c rfl) (eo_some er_c) eo_none).to (by rw [wayL_drop])) ea_nil) ⟨hw1, hl1⟩) (ea_cons (er_call (A := fun d : List Nat => [ll ((d.map dg).map pstr)]) (R := fun d => tl K ((wI d).map pint)) d.w2 (ea_cons ((er_slL (er_ixL (P := wayP d.w2) (er_var rfl p4) er_c rfl) (eo_some er_c) eo_none).to (by rw [wayL_drop])) ea_nil) ⟨hw2, hl2⟩) ea_nil))) (by show 3 ≤ 100000; decide)) fun v5 H5 e5 p5 => k v5 H5 ((((e1.trans e2).trans e3).trans e4).trans e5) p5
structure Ft where
  a : Fw
  b : Fw
  t : Bool
def PreT (d : Ft) : Prop := PreW d.a ∧ PreW d.b
def spChkT (K : PySem.W.Frag) (C : Addr) : Sp := Spf (fun d : Ft => [four K C d.a.l, four K C d.b.l, pstr (heapT (vWord d.t) d.a.w d.b.w)]) PreT (fun d => pbl (chk (vWord d.t) (cv (fall d.a.l d.a.w)) (cv (fall d.b.l d.b.w))))
theorem c_check_heap_text (F : Df K mg "check_heap_text" s_check_heap_text ["one", "other", "text"]) (c_check_heap_paper : C8.Cal P w K mg base 10 "check_heap_paper" (spChkP K C) []) (c_parse_heap : C8.Cal P w K mg base 2 "parse_heap" (spParse K) []) : C8.Cal P w K mg base 11 "check_heap_text" (spChkT K C) [] :=
  F.cal sc_check_heap_text (fun _ => rfl) fun f cdv An outer s H vs Q E d hr hp hv k => by
    obtain ⟨v, u, t, e0, p0, p1, p2⟩ := pl3 hv
    subst e0
    refine ⟨_, (pss_one (ps_ret (C8.pe_c c_check_heap_paper hr (by decide) (by rfl) (pa_cons (pv 0) (pa_cons (pv 1) (pa_cons (C8.pe_c c_parse_heap hr (by decide) (by rfl) (pa_cons (pv 2) pa_nil)) pa_nil)))))), ?_⟩
    exact s_ret (P := pbl (chk (vWord d.t) (cv (fall d.a.l d.a.w)) (cv (fall d.b.l d.b.w)))) (er_call (A := fun d : Fc => [four K C d.a.l, four K C d.b.l, paperP K d.wd d.a.w d.b.w]) (R := fun d : Fc => pbl (chk d.wd (cv (fall d.a.l d.a.w)) (cv (fall d.b.l d.b.w)))) ⟨d.a, d.b, vWord d.t⟩ (ea_cons (er_var rfl p0) (ea_cons (er_var rfl p1) (ea_cons (er_call (A := fun d : Fh => [pstr (heapT (vWord d.b) d.w1 d.w2)]) (R := fun d : Fh => paperP K (vWord d.b) d.w1 d.w2) ⟨d.t, d.a.w, d.b.w⟩ (ea_cons (er_var rfl p2) ea_nil) ⟨⟨hp.1.2.2.1, hp.1.2.2.2.2⟩, ⟨hp.2.2.2.1, hp.2.2.2.2.2⟩⟩) ea_nil))) hp) k
end
end Ft
set_option maxHeartbeats 4000000
/-! what the law's own functions need besides -/
namespace Ft
open PySem PySem.Spec PyProof.Rows L2
theorem pn_get {ns : List Int} {i : Nat} (h : i < ns.length) : (ns.map pint)[i]? = some (pint (ns.getD i 0)) := by
  rw [List.getElem?_map, List.getD_eq_getElem?_getD, List.getElem?_eq_getElem h]
  rfl
section
variable {K : PySem.W.Frag} {σ : L2.St} {H H0 : Hp} {ta tb te : TE} {P : Pd} {D : Ends} {u : TS} {g : TG}
/-- ns[i] -/
theorem er_nth {ns : List Int} {i : Nat} {z : Int} (h : Er ta σ H (ll (ns.map pint))) (hi : Er tb σ H (pint z)) (hz : z = (i : Int)) (hl : i < ns.length) : Er (tOp (rIxL K) ta tb) σ H (pint (ns.getD i 0)) :=
  er_ixL h hi (at_ofP hz (pn_get hl))
/-- a walk whose turns change a list that is none of H0's -/
def EiB {α : Type} (wi : TI) (σ : L2.St) (H0 : Hp) (as : List α) (A : α → Pd) : Prop := ∀ H1, Same H0 H1 → ∀ R : It → Hp → Prop, (∀ J H2, Same H1 H2 → Wk J as A H0 → R J H2) → wi σ H1 R
theorem eib_list {α : Type} {as : List α} {A : α → Pd} {i : Nat} {v : V} (h : σ[i]? = some (some v)) (p : (ll (as.map A)).p v H0) : EiB (iList K (tVar i)) σ H0 as A := fun H1 e R q => by
  obtain ⟨a, xs, e0, h2, h3⟩ := p
  subst e0
  have hl : xs.length = as.length := by rw [h3.len, List.length_map]
  refine ⟨.ref a, h, a, rfl, ⟨xs, .inl (.inl (e _ _ h2))⟩, q _ H1 (Same.refl _) fun H3 e3 => ⟨fun i b hb => ?_, ⟨xs, .inl (.inl (e3 _ _ h2)), by omega⟩⟩⟩
  have hi : i < xs.length := by
    have := (List.getElem?_eq_some_iff.mp hb).1
    omega
  have hS : SqL K H3 a xs := .inl (.inl (e3 _ _ h2))
  refine ⟨⟨xs, xs[i], hS, List.getElem?_eq_getElem hi⟩, fun x H4 hy => ?_⟩
  obtain ⟨ey, hy⟩ := hy
  subst ey
  exact ⟨Same.refl _, (h3.mono e3).get (hy xs hS) (gmap hb)⟩
theorem eib_range {n : Int} (h : Er te σ H0 (pint n)) (h0 : 0 ≤ n) (h1 : n ≤ 100000) : EiB (iRng1 (tCons te tNil)) σ H0 (List.range n.toNat) (fun i : Nat => pint (i : Int)) := fun H1 e R q =>
  h H1 e _ fun v H2 e2 p => by
    have p' : v = .int n := p
    subst p'
    refine ⟨n, rfl, by omega, by omega, q _ H2 e2 fun H3 e3 => ⟨fun i b hb => ?_, by show n.toNat ≤ _; rw [List.length_range]; exact Nat.le_refl _⟩⟩
    have hi : i < n.toNat := by
      have := (List.getElem?_eq_some_iff.mp hb).1
      rw [List.length_range] at this
      exact this
    have eb : i = b := by
      rw [List.getElem?_range hi] at hb
      exact Option.some.inj hb
    refine ⟨hi, fun x H4 hy => ?_⟩
    obtain ⟨ex, eH⟩ := hy
    subst ex eH
    refine ⟨Same.refl _, ?_⟩
    show V.int _ = V.int _
    rw [← eb, Int.zero_add]
theorem s_forB {α : Type} {as : List α} {A : α → Pd} {wi : TI} {tb : TS} (e : Same H0 H) (h : EiB wi σ H0 as A) (Pv : Nat → L2.St → Hp → Prop) (h0 : ∀ H1, Same H H1 → Pv 0 σ H1)
    (hs : ∀ i a x σ' H1 H', as[i]? = some a → Same H0 H1 → Pv i σ' H1 → Same H1 H' → (A a).p x H' → ∀ N : L2.St → Hp → Prop, (∀ σ2 H2, Same H0 H2 → Pv (i + 1) σ2 H2 → N σ2 H2) → g x σ' H' fun σ2 H2 => tb { D with nx := N, ct := N, bk := D.nx } σ2 H2)
    (hd : ∀ σ' H', Same H0 H' → Pv as.length σ' H' → D.nx σ' H') : tFor wi g tb D σ H := h H e _ fun J H2 e2 wk => by
  refine ⟨fun i m σ' H' => m = as.length - i ∧ i ≤ as.length ∧ Same H0 H' ∧ Pv i σ' H', ⟨as.length, rfl, Nat.zero_le _, e.trans e2, h0 H2 e2⟩, ?_⟩
  rintro i m σ' H' ⟨rfl, hi, e3, hp⟩
  obtain ⟨wk1, wk2⟩ := wk H' e3
  by_cases hlt : i < as.length
  · have hg : as[i]? = some as[i] := List.getElem?_eq_getElem hlt
    obtain ⟨go, yl⟩ := wk1 i _ hg
    refine .inr ⟨go, fun σ2 H2' => Same H0 H2' ∧ Pv (i + 1) σ2 H2', fun σ2 H2' ⟨s1, s2⟩ => ⟨as.length - (i + 1), by omega, rfl, hlt, s1, s2⟩, fun x H4 hy => ?_⟩
    obtain ⟨e4, p4⟩ := yl x H4 hy
    exact hs i as[i] x σ' H' H4 hg e3 hp e4 p4 _ fun σ2 H5 e5 p5 => ⟨e5, p5⟩
  · have ei : i = as.length := by omega
    subst ei
    exact .inl ⟨wk2, hd σ' H' e3 hp⟩
theorem q_forB {α : Type} {as : List α} {A : α → Pd} {wi : TI} {tb : TS} (e : Same H0 H) (h : EiB wi σ H0 as A) (Pv : Nat → L2.St → Hp → Prop) (h0 : ∀ H1, Same H H1 → Pv 0 σ H1)
    (hs : ∀ i a x σ' H1 H', as[i]? = some a → Same H0 H1 → Pv i σ' H1 → Same H1 H' → (A a).p x H' → ∀ N : L2.St → Hp → Prop, (∀ σ2 H2, Same H0 H2 → Pv (i + 1) σ2 H2 → N σ2 H2) → g x σ' H' fun σ2 H2 => tb { D with nx := N, ct := N, bk := u D } σ2 H2)
    (hd : ∀ σ' H', Same H0 H' → Pv as.length σ' H' → u D σ' H') : tSeq (tFor wi g tb) u D σ H := s_forB (D := { D with nx := u D }) e h Pv h0 hs hd
/-- found = list(xs), at a place that was free -/
theorem q_listOf {Ps : List Pd} {i : Nat} (h : Er te σ H (ll Ps)) (k : ∀ p vs H1, Same H H1 → H p = none → H1 p = some (.lst vs) → PL Ps vs H1 → u D (σ.set i (some (.ref p))) H1) :
    tSeq (tAsg (tCB (fun xs H Q => ∃ p ys, xs = [.ref p] ∧ (SqL K H p ys ∨ SqT K H p ys) ∧ ∀ l, H l = none → Q (.ref l) (upd H l (.lst ys))) (tCons te tNil)) (gName i)) u D σ H :=
  h H (Same.refl _) _ fun v H1 e1 p1 => by
    obtain ⟨a, xs, e0, h2, h3⟩ := p1
    subst e0
    exact ⟨a, xs, rfl, .inl (.inl (.inl h2)), fun l hl => k l xs _ (e1.trans (same_new hl)) (Same.free e1 hl) upd_same (h3.mono (same_new hl))⟩
theorem s_par {i j : Nat} {P1 P2 : Pd} {ta : TA} (h : Ea ta σ H [P1, P2]) (k : ∀ v w H1, Same H H1 → P1.p v H1 → P2.p w H1 → D.nx ((σ.set i (some v)).set j (some w)) H1) : tPar i j ta D σ H := h H (Same.refl _) _ fun vs H1 e1 p1 => by
  obtain ⟨v, w, ev, q1, q2⟩ := pl2 p1
  exact ⟨v, w, ev, k v w H1 e1 q1 q2⟩
/-- an if whose two ways meet again -/
theorem q_ifM {t : TT} {tu : TS} {b : Bool} (h : Et t σ H b) (M : L2.St → Hp → Prop) (h1 : b = true → ∀ H1, Same H H1 → ∀ N : L2.St → Hp → Prop, (∀ σ2 H2, Same H H2 → M σ2 H2 → N σ2 H2) → tu { D with nx := N } σ H1) (h2 : b = false → ∀ H1, Same H H1 → M σ H1)
    (k : ∀ σ2 H2, Same H H2 → M σ2 H2 → u D σ2 H2) : tSeq (tIfS t tu tNext) u D σ H := q_ifR h (fun hb H1 e => h1 hb H1 e (u D) k) fun hb H1 e => k σ H1 e (h2 hb H1 e)
/-! ### what a call's list is: not one that was there -/
def Spn {α : Type} (A : α → List Pd) (Pre : α → Prop) (R : α → Pd) : Sp := fun vs H Q _ => ∃ d, Pre d ∧ PL (A d) vs H ∧ ∀ v H', Same H H' → (R d).p v H' → (∀ l xs ys, H l = some (.lst xs) → (R d).p v (upd H' l (.lst ys))) → Q v H'
theorem ern_call {α : Type} {A : α → List Pd} {Pre : α → Prop} {R : α → Pd} {ta : TA} {E : XK} (d : α) (h : Ea ta σ H (A d)) (hp : Pre d) : ErN (tCall (Spn A Pre R) [] E ta) σ H (R d) := fun H1 e Q q =>
  h H1 e _ fun vs H2 e2 p2 => ⟨d, hp, by rw [List.append_nil]; exact p2, fun v H3 e3 p3 n3 => q v H3 (e2.trans e3) p3 fun l xs ys hl => n3 l xs ys (e2 _ _ hl)⟩
end
section
variable {P : Program} {w : World} {K : PySem.W.Frag} {mg : Str → Option Value} {base : Heap}
theorem Df.caln {x : Str} {st : Stmt} {N ps : List Str} {k : Nat} {α : Type} {A : α → List Pd} {Pre : α → Prop} {R : α → Pd} (F : Df K mg x st ps) (S : FnScope N ps (defScope st)) (len : ∀ d, (A d).length = ps.length)
    (hbody : ∀ (f : Addr) (cdv : Value) (An : Around) (outer : List Env) (s : Shared) (H : Hp) (vs : List V) (Q : VK) (E : XK) (d : α), Room k (An.deeper (envOfC x (defScope st) s.heap.objs.size f cdv)) → Pre d → PL (A d) vs H → (∀ v H', Same H H' → (R d).p v H' → (∀ l xs ys, H l = some (.lst xs) → (R d).p v (upd H' l (.lst ys))) → Q v H') →
      ∃ t, PSs (cxOf CX0 P w K mg base N x (defScope st) f cdv An outer s H E).nox (defBody st) t ∧ t { nx := fun _ H' => Q .non H', rt := Q } (start N vs) H) : C8.Cal P w K mg base (k + 1) x (Spn A Pre R) [] := by
  obtain ⟨f, fd, F, hm, hb⟩ := F.ex
  refine ⟨⟨f, fd, ps, [], F.ok S (fun vs H Q E h => ?_) (fun cdv An outer s H vs Q E hr h => ?_), hm, F.kp, hb, .nil⟩⟩
  · obtain ⟨d, _, h, _⟩ := h
    rw [h.len, len d]
  · obtain ⟨d, hp, h, q⟩ := h
    exact hbody f cdv An outer s H vs Q E d hr hp h q
end
end Ft
set_option maxHeartbeats 4000000
namespace Ft
open PySem PySem.Spec PyProof.Rows L2
section
variable {P : Program} {w : World} {K : PySem.W.Frag} {mg : Str → Option Value} {base : Heap} {C : Addr}
/-! ### _law_moved -/
def mov (q : Cir) (s t : Int) : Cir := ⟨q.b, q.c + 2 * (q.x * s + q.y * t) + q.b * (s * s + t * t), q.x + q.b * s, q.y + q.b * t⟩
structure Fv where
  q : Cir
  s : Int
  t : Int
def sm (s : Int) : Prop := -1009 ≤ s ∧ s ≤ 1009
theorem sm_sq {s : Int} (h : sm s) : 0 ≤ s * s ∧ s * s ≤ 1018081 := by
  obtain ⟨h1, h2⟩ := h
  refine ⟨sq_nonneg s, ?_⟩
  have := Int.mul_nonneg (show 0 ≤ 1009 - s by omega) (show 0 ≤ 1009 + s by omega)
  grind
theorem sm_mul {a s : Int} (h : sm s) : CMul a s := .inr (by obtain ⟨h1, h2⟩ := h; omega)
def spMov (K : PySem.W.Frag) : Sp := Spf (fun d : Fv => [cir K d.q, pint d.s, pint d.t]) (fun d => sm d.s ∧ sm d.t) (fun d => cir K (mov d.q d.s d.t))
theorem c__law_moved (F : Df K mg "_law_moved" s__law_moved ["_law_circle", "_law_s", "_law_t"]) : C8.Cal P w K mg base 1 "_law_moved" (spMov K) [] :=
  F.cal sc__law_moved (fun _ => rfl) fun f cdv An outer s H vs Q E d hr hp hv k => by
    obtain ⟨q, i, j⟩ := d
    obtain ⟨v, v1, v2, e0, p0, p1, p2⟩ := pl3 hv
    have p1' : v1 = .int i := p1
    have p2' : v2 = .int j := p2
    subst e0 p1' p2'
    obtain ⟨hi, hj⟩ := hp
    dsimp only at hi hj k p0
    have qi := sm_sq hi
    have qj := sm_sq hj
    refine ⟨_, (pss_cons (ps_asg (pv 0) (k_gtup (K := K) rfl (pg_tup (by rfl) (pgs_cons (pg_name (i := 3) sc__law_moved.nd rfl (by first | exact Or.inl rfl | exact Or.inr rfl)) (pgs_cons (pg_name (i := 4) sc__law_moved.nd rfl (by first | exact Or.inl rfl | exact Or.inr rfl)) (pgs_cons (pg_name (i := 5) sc__law_moved.nd rfl (by first | exact Or.inl rfl | exact Or.inr rfl)) (pgs_cons (pg_name (i := 6) sc__law_moved.nd rfl (by first | exact Or.inl rfl | exact Or.inr rfl)) pgs_nil)))))))
    (pss_one (ps_ret (pe_tup (pa_cons (pv 3) (pa_cons (pe_op op_add (pe_op op_add (pv 4) (pe_op op_mul pe_int (pe_op op_add (pe_op op_mul (pv 5) (pv 1)) (pe_op op_mul (pv 6) (pv 2))))) (pe_op op_mul (pv 3) (pe_op op_add (pe_op op_mul (pv 1) (pv 1)) (pe_op op_mul (pv 2) (pv 2))))) (pa_cons (pe_op op_add (pv 5) (pe_op op_mul (pv 3) (pv 1))) (pa_cons (pe_op op_add (pv 6) (pe_op op_mul (pv 3) (pv 2))) pa_nil)))))))), ?_⟩
    refine q_asgG (er_var rfl p0) fun v3 H3 e3 p3 => g_cir p3 ?_
    refine s_ret (P := cir K (mov q i j)) (er_tup (ea_cons (er_is rfl) (ea_cons (er_I0 (er_I0 (er_is rfl) (er_I er_c (er_I0 (er_I (er_is rfl) (er_is rfl) (sm_mul hi)) (er_I (er_is rfl) (er_is rfl) (sm_mul hj))) (.inl ⟨by decide, by decide⟩))) (er_I (er_is rfl) (er_I0 (er_I (er_is rfl) (er_is rfl) (sm_mul hi)) (er_I (er_is rfl) (er_is rfl) (sm_mul hj))) (.inr ⟨by omega, by omega⟩))) (ea_cons (er_I0 (er_is rfl) (er_I (er_is rfl) (er_is rfl) (sm_mul hi))) (ea_cons (er_I0 (er_is rfl) (er_I (er_is rfl) (er_is rfl) (sm_mul hj))) ea_nil)))) (by show 4 ≤ 100000; decide)) fun v5 H5 e5 p5 => k v5 H5 (e3.trans e5) p5
/-! ### _law_given -/
def giv4 : List Cir := [⟨-3, 0, 1, 0⟩, ⟨5, 0, -1, 0⟩, ⟨8, 2, -4, 1⟩, ⟨8, 2, -4, -1⟩]
def giv5 : List Cir := [⟨0, 2, 0, 1⟩, ⟨0, 2, 0, -1⟩, ⟨1, -1, 0, 0⟩, ⟨1, 3, 2, 0⟩]
def giv6 : List Cir := [⟨0, 1, 0, 1⟩, ⟨0, 1, 0, -1⟩, ⟨2, 0, 1, 0⟩, ⟨2, 4, 3, 0⟩]
def givG (n : Int) : List Cir := [⟨0 - n, 0, 1, 0⟩, ⟨n + 1, 0, -1, 0⟩, ⟨n * (n + 1), 4, 0 - 2 * n - 1, 0⟩, ⟨n * (n + 1) + 1, 4, 0 - 2 * n - 1, 2⟩]
def Giv (l : List Cir) : Prop := l = giv4 ∨ l = giv5 ∨ l = giv6 ∨ ∃ n, (0 ≤ n ∧ n ≤ 40) ∧ l = givG n
def givP (K : PySem.W.Frag) : Pd := ⟨fun v H => ∃ l, Giv l ∧ (cirs K l).p v H, fun e ⟨l, h1, h2⟩ => ⟨l, h1, (cirs K l).mono e h2⟩⟩
def spGiv (K : PySem.W.Frag) : Sp := Spf (fun i : Int => [pint i]) (fun _ => True) (fun _ => givP K)
theorem er_cirT {σ : L2.St} {H : Hp} {t1 t2 t3 t4 : TE} {b c x y : Int} (h1 : Er t1 σ H (pint b)) (h2 : Er t2 σ H (pint c)) (h3 : Er t3 σ H (pint x)) (h4 : Er t4 σ H (pint y)) : Er (tTup (tCons t1 (tCons t2 (tCons t3 (tCons t4 tNil))))) σ H (cir K ⟨b, c, x, y⟩) :=
  er_tup (ea_cons h1 (ea_cons h2 (ea_cons h3 (ea_cons h4 ea_nil)))) (by show 4 ≤ 100000; decide)
theorem er_givL {σ : L2.St} {H : Hp} {t1 t2 t3 t4 : TE} {p q r s : Cir} (g : Giv [p, q, r, s]) (h1 : Er t1 σ H (cir K p)) (h2 : Er t2 σ H (cir K q)) (h3 : Er t3 σ H (cir K r)) (h4 : Er t4 σ H (cir K s)) : Er (tLst (tCons t1 (tCons t2 (tCons t3 (tCons t4 tNil))))) σ H (givP K) :=
  (er_lst (Ps := [cir K p, cir K q, cir K r, cir K s]) (ea_cons h1 (ea_cons h2 (ea_cons h3 (ea_cons h4 ea_nil)))) (by show 4 ≤ 100000; decide)).imp fun v H' _ p => ⟨_, g, p⟩
theorem c__law_given (F : Df K mg "_law_given" s__law_given ["_law_number"]) (T : Tx K mg) : C8.Cal P w K mg base 1 "_law_given" (spGiv K) [] :=
  F.cal sc__law_given (fun _ => rfl) fun f cdv An outer s H vs Q E i hr hp hv k => by
    obtain ⟨v, e0, p0⟩ := pl1 hv
    have p0' : v = .int i := p0
    subst e0 p0'
    refine ⟨_, (pss_cons (ps_set (i := 1) sc__law_given.nd rfl (by first | exact Or.inl rfl | exact Or.inr rfl) (pe_op op_mod (pe_callTy call_int1 (by rfl) T.int (by decide +kernel) (pa_cons (pv 0) pa_nil)) pe_int))
    (pss_cons (ps_if (pt_cmpR op_eq (pv 1) pe_int (nomark _)) (pss_one (ps_ret (pe_lst (pa_cons (pe_tup (pa_cons (pe_un un_neg pe_int) (pa_cons pe_int (pa_cons pe_int (pa_cons pe_int pa_nil))))) (pa_cons (pe_tup (pa_cons pe_int (pa_cons pe_int (pa_cons (pe_un un_neg pe_int) (pa_cons pe_int pa_nil))))) (pa_cons (pe_tup (pa_cons pe_int (pa_cons pe_int (pa_cons (pe_un un_neg pe_int) (pa_cons pe_int pa_nil))))) (pa_cons (pe_tup (pa_cons pe_int (pa_cons pe_int (pa_cons (pe_un un_neg pe_int) (pa_cons (pe_un un_neg pe_int) pa_nil))))) pa_nil))))))) pss_nil)
    (pss_cons (ps_if (pt_cmpR op_eq (pv 1) pe_int (nomark _)) (pss_one (ps_ret (pe_lst (pa_cons (pe_tup (pa_cons pe_int (pa_cons pe_int (pa_cons pe_int (pa_cons pe_int pa_nil))))) (pa_cons (pe_tup (pa_cons pe_int (pa_cons pe_int (pa_cons pe_int (pa_cons (pe_un un_neg pe_int) pa_nil))))) (pa_cons (pe_tup (pa_cons pe_int (pa_cons (pe_un un_neg pe_int) (pa_cons pe_int (pa_cons pe_int pa_nil))))) (pa_cons (pe_tup (pa_cons pe_int (pa_cons pe_int (pa_cons pe_int (pa_cons pe_int pa_nil))))) pa_nil))))))) pss_nil)
    (pss_cons (ps_if (pt_cmpR op_eq (pv 1) pe_int (nomark _)) (pss_one (ps_ret (pe_lst (pa_cons (pe_tup (pa_cons pe_int (pa_cons pe_int (pa_cons pe_int (pa_cons pe_int pa_nil))))) (pa_cons (pe_tup (pa_cons pe_int (pa_cons pe_int (pa_cons pe_int (pa_cons (pe_un un_neg pe_int) pa_nil))))) (pa_cons (pe_tup (pa_cons pe_int (pa_cons pe_int (pa_cons pe_int (pa_cons pe_int pa_nil))))) (pa_cons (pe_tup (pa_cons pe_int (pa_cons pe_int (pa_cons pe_int (pa_cons pe_int pa_nil))))) pa_nil))))))) pss_nil)
    (pss_cons (ps_set (i := 2) sc__law_given.nd rfl (by first | exact Or.inl rfl | exact Or.inr rfl) (pe_ix (ix_listK (K := K) rfl) (pe_lst (pa_cons pe_int (pa_cons pe_int (pa_cons pe_int (pa_cons (pe_op op_add pe_int (pe_op op_mod (pe_op op_fdiv (pe_callTy call_int1 (by rfl) T.int (by decide +kernel) (pa_cons (pv 0) pa_nil)) pe_int) pe_int)) pa_nil))))) (pv 1) (fun _ _ => rfl)))
    (pss_cons (ps_set (i := 3) sc__law_given.nd rfl (by first | exact Or.inl rfl | exact Or.inr rfl) (pe_op op_mul (pv 2) (pe_op op_add (pv 2) pe_int)))
    (pss_one (ps_ret (pe_lst (pa_cons (pe_tup (pa_cons (pe_op op_sub pe_int (pv 2)) (pa_cons pe_int (pa_cons pe_int (pa_cons pe_int pa_nil))))) (pa_cons (pe_tup (pa_cons (pe_op op_add (pv 2) pe_int) (pa_cons pe_int (pa_cons (pe_un un_neg pe_int) (pa_cons pe_int pa_nil))))) (pa_cons (pe_tup (pa_cons (pv 3) (pa_cons pe_int (pa_cons (pe_op op_sub (pe_op op_sub pe_int (pe_op op_mul pe_int (pv 2))) pe_int) (pa_cons pe_int pa_nil))))) (pa_cons (pe_tup (pa_cons (pe_op op_add (pv 3) pe_int) (pa_cons pe_int (pa_cons (pe_op op_sub (pe_op op_sub pe_int (pe_op op_mul pe_int (pv 2))) pe_int) (pa_cons pe_int pa_nil))))) pa_nil))))))))))))), ?_⟩
    refine q_asg (er_I (er_intI (er_is rfl)) er_c (by show (0 : Int) < 7; decide)) fun v1 H1 e1 p1 => ?_
    have p1' : v1 = V.int (i % 7) := p1
    subst p1'
    refine q_ifR (b := decide (i % 7 = 4)) ((et_t (er_eq (er_is rfl) er_c rfl)).to dI) (fun hb H2 e2 => s_ret (er_givL (.inl rfl) (er_cirT (er_neg er_c) er_c er_c er_c) (er_cirT er_c er_c (er_neg er_c) er_c) (er_cirT er_c er_c (er_neg er_c) er_c) (er_cirT er_c er_c (er_neg er_c) (er_neg er_c))) fun v5 H5 e5 p5 => k v5 H5 ((e1.trans e2).trans e5) p5) fun hb4 H2 e2 => ?_
    refine q_ifR (b := decide (i % 7 = 5)) ((et_t (er_eq (er_is rfl) er_c rfl)).to dI) (fun hb H3 e3 => s_ret (er_givL (.inr (.inl rfl)) (er_cirT er_c er_c er_c er_c) (er_cirT er_c er_c er_c (er_neg er_c)) (er_cirT er_c (er_neg er_c) er_c er_c) (er_cirT er_c er_c er_c er_c)) fun v5 H5 e5 p5 => k v5 H5 (((e1.trans e2).trans e3).trans e5) p5) fun hb5 H3 e3 => ?_
    refine q_ifR (b := decide (i % 7 = 6)) ((et_t (er_eq (er_is rfl) er_c rfl)).to dI) (fun hb H4 e4 => s_ret (er_givL (.inr (.inr (.inl rfl))) (er_cirT er_c er_c er_c er_c) (er_cirT er_c er_c er_c (er_neg er_c)) (er_cirT er_c er_c er_c er_c) (er_cirT er_c er_c er_c er_c)) fun v5 H5 e5 p5 => k v5 H5 ((((e1.trans e2).trans e3).trans e4).trans e5) p5) fun hb6 H4 e4 => ?_
    have h4 := of_decide_eq_false hb4
    have h5 := of_decide_eq_false hb5
    have h6 := of_decide_eq_false hb6
    have hm1 := Int.emod_nonneg i (show (7 : Int) ≠ 0 by decide)
    have hm2 := Int.emod_lt_of_pos i (show (0 : Int) < 7 by decide)
    have hm3 := Int.emod_nonneg (i / 7) (show (40 : Int) ≠ 0 by decide)
    have hm4 := Int.emod_lt_of_pos (i / 7) (show (0 : Int) < 40 by decide)
    obtain ⟨n, hn0, hn⟩ : ∃ n : Int, (0 ≤ n ∧ n ≤ 40) ∧ ([0, 1, 2, 1 + i / 7 % 40] : List Int)[(i % 7).toNat]? = some n := by
      rcases (show i % 7 = 0 ∨ i % 7 = 1 ∨ i % 7 = 2 ∨ i % 7 = 3 by omega) with e | e | e | e
      · exact ⟨0, by decide, by rw [e]; rfl⟩
      · exact ⟨1, by decide, by rw [e]; rfl⟩
      · exact ⟨2, by decide, by rw [e]; rfl⟩
      · exact ⟨1 + i / 7 % 40, by omega, by rw [e]; rfl⟩
    refine q_asg (P := pint n) (er_ixL (er_lst (ea_cons er_c (ea_cons er_c (ea_cons er_c (ea_cons (er_I0 er_c (er_I (er_I (er_intI (er_is rfl)) er_c ⟨by decide, by decide⟩) er_c (by show (0 : Int) < 40; decide))) ea_nil)))) (by show 4 ≤ 100000; decide)) (er_is rfl) (at_ofP (j := (i % 7).toNat) (by omega) (gmap (f := pint) hn))) fun v5 H5 e5 p5 => ?_
    have p5' : v5 = V.int n := p5
    subst p5'
    refine q_asg (er_I (er_is rfl) (er_I0 (er_is rfl) er_c) (.inl ⟨by omega, by omega⟩)) fun v6 H6 e6 p6 => ?_
    have p6' : v6 = V.int (n * (n + 1)) := p6
    subst p6'
    refine s_ret (er_givL (.inr (.inr (.inr ⟨n, hn0, rfl⟩))) (er_cirT (er_I0 er_c (er_is rfl)) er_c er_c er_c) (er_cirT (er_I0 (er_is rfl) er_c) er_c (er_neg er_c) er_c) (er_cirT (er_is rfl) er_c (er_I0 (er_I0 er_c (er_I er_c (er_is rfl) (.inl ⟨by decide, by decide⟩))) er_c) er_c) (er_cirT (er_I0 (er_is rfl) er_c) er_c (er_I0 (er_I0 er_c (er_I er_c (er_is rfl) (.inl ⟨by decide, by decide⟩))) er_c) er_c)) fun v7 H7 e7 p7 => k v7 H7 ((((((e1.trans e2).trans e3).trans e4).trans e5).trans e6).trans e7) p7
end
end Ft
set_option maxHeartbeats 4000000
namespace Ft
open PySem PySem.Spec PyProof.Rows L2
def rotC (q : Cir) : Cir := ⟨q.b, q.c, 0 - q.y, q.x⟩
def mirC (q : Cir) : Cir := ⟨q.b, q.c, 0 - q.x, q.y⟩
def rotN : Nat → Cir → Cir
  | 0, q => q
  | n + 1, q => rotC (rotN n q)
theorem rotN_b (n : Nat) (q : Cir) : (rotN n q).b = q.b ∧ (rotN n q).c = q.c := by
  induction n with
  | zero => exact ⟨rfl, rfl⟩
  | succ n ih => exact ih
def most (a : Int) : Int := ([0, 9, 1009] : List Int).getD (a % 3).toNat 0
def step (a1 a : Int) : Int := a % (2 * most a1 + 1) - most a1
def turned (a0 : Int) (q : Cir) : Cir := if decide (a0 / 4 % 2 = 1) then mirC (rotN (a0 % 4).toNat q) else rotN (a0 % 4).toNat q
def laidC (a0 a1 a2 a3 : Int) (q : Cir) : Cir := mov (turned a0 q) (step a1 a2) (step a1 a3)
def laidN (ns : List Int) (i : Nat) (q : Cir) : Cir := laidC (ns.getD i 0) (ns.getD (i + 1) 0) (ns.getD (i + 2) 0) (ns.getD (i + 3) 0) q
theorem most_mem (a : Int) : ([0, 9, 1009] : List Int)[(a % 3).toNat]? = some (most a) ∧ (most a = 0 ∨ most a = 9 ∨ most a = 1009) := by
  have h1 := Int.emod_nonneg a (show (3 : Int) ≠ 0 by decide)
  have h2 := Int.emod_lt_of_pos a (show (0 : Int) < 3 by decide)
  unfold most
  rcases (show a % 3 = 0 ∨ a % 3 = 1 ∨ a % 3 = 2 by omega) with e | e | e <;> (rw [e]; decide)
theorem step_sm (a1 a : Int) : sm (step a1 a) := by
  have hm := (most_mem a1).2
  have h0 : 0 < 2 * most a1 + 1 := by omega
  have h1 := Int.emod_nonneg a (show 2 * most a1 + 1 ≠ 0 by omega)
  have h2 := Int.emod_lt_of_pos a h0
  unfold sm step
  omega
section
variable {P : Program} {w : World} {K : PySem.W.Frag} {mg : Str → Option Value} {base : Heap} {C : Addr}
structure Fn where
  ns : List Int
  i : Nat
  q : Cir
def spLaid (K : PySem.W.Frag) : Sp := Spf (fun d : Fn => [ll (d.ns.map pint), pint ((d.i : Nat) : Int), cir K d.q]) (fun d => d.i + 3 < d.ns.length) (fun d => cir K (laidN d.ns d.i d.q))
theorem c__law_laid (F : Df K mg "_law_laid" s__law_laid ["_law_numbers_here", "_law_at", "_law_circle"]) (T : Tx K mg) (c__law_moved : C8.Cal P w K mg base 1 "_law_moved" (spMov K) []) : C8.Cal P w K mg base 2 "_law_laid" (spLaid K) [] :=
  F.cal sc__law_laid (fun _ => rfl) fun f cdv An outer s H vs Q E d hr hp hv k => by
    obtain ⟨ns, i, q⟩ := d
    obtain ⟨v, v1, v2, e0, p0, p1, p2⟩ := pl3 hv
    have p1' : v1 = .int (i : Int) := p1
    subst e0 p1'
    dsimp only at hp k p0 p2
    have L0 : i < ns.length := by omega
    have L1 : i + 1 < ns.length := by omega
    have L2 : i + 2 < ns.length := by omega
    have L3 : i + 3 < ns.length := hp
    have m0 := Int.emod_nonneg (ns.getD i 0) (show (4 : Int) ≠ 0 by decide)
    have m1 := Int.emod_lt_of_pos (ns.getD i 0) (show (0 : Int) < 4 by decide)
    have m2 := Int.emod_nonneg (ns.getD (i + 1) 0) (show (3 : Int) ≠ 0 by decide)
    obtain ⟨g1, g2⟩ := most_mem (ns.getD (i + 1) 0)
    have j1 : (i : Int) + 1 = ((i + 1 : Nat) : Int) := by omega
    have j2 : (i : Int) + 2 = ((i + 2 : Nat) : Int) := by omega
    have j3 : (i : Int) + 3 = ((i + 3 : Nat) : Int) := by omega
    have hmp : 0 < 2 * most (ns.getD (i + 1) 0) + 1 := by omega
    refine ⟨_, (pss_cons (ps_asg (pv 2) (k_gtup (K := K) rfl (pg_tup (by rfl) (pgs_cons (pg_name (i := 3) sc__law_laid.nd rfl (by first | exact Or.inl rfl | exact Or.inr rfl)) (pgs_cons (pg_name (i := 4) sc__law_laid.nd rfl (by first | exact Or.inl rfl | exact Or.inr rfl)) (pgs_cons (pg_name (i := 5) sc__law_laid.nd rfl (by first | exact Or.inl rfl | exact Or.inr rfl)) (pgs_cons (pg_name (i := 6) sc__law_laid.nd rfl (by first | exact Or.inl rfl | exact Or.inr rfl)) pgs_nil)))))))
    (pss_cons (ps_for PassesOwn.never rfl (pi_range1 (by rfl) T.range (pa_cons (pe_op op_mod (pe_callTy call_int1 (by rfl) T.int (by decide +kernel) (pa_cons (pe_ix (ix_listK (K := K) rfl) (pv 0) (pv 1) (fun _ _ => rfl)) pa_nil)) pe_int) pa_nil)) (pg_name (i := 7) sc__law_laid.nd rfl (by first | exact Or.inl rfl | exact Or.inr rfl))
      (pss_one (ps_par (i := 5) (j := 6) (by rfl) sc__law_laid.nd rfl rfl (by decide) rfl rfl (pa_cons (pe_op op_sub pe_int (pv 6)) (pa_cons (pv 5) pa_nil)) (by rfl))))
    (pss_cons (ps_if (pt_cmpR op_eq (pe_op op_mod (pe_op op_fdiv (pe_callTy call_int1 (by rfl) T.int (by decide +kernel) (pa_cons (pe_ix (ix_listK (K := K) rfl) (pv 0) (pv 1) (fun _ _ => rfl)) pa_nil)) pe_int) pe_int) pe_int (nomark _)) (pss_one (ps_set (i := 5) sc__law_laid.nd rfl (by first | exact Or.inl rfl | exact Or.inr rfl) (pe_op op_sub pe_int (pv 5)))) pss_nil)
    (pss_cons (ps_set (i := 8) sc__law_laid.nd rfl (by first | exact Or.inl rfl | exact Or.inr rfl) (pe_ix (ix_listK (K := K) rfl) (pe_lst (pa_cons pe_int (pa_cons pe_int (pa_cons pe_int pa_nil)))) (pe_op op_mod (pe_callTy call_int1 (by rfl) T.int (by decide +kernel) (pa_cons (pe_ix (ix_listK (K := K) rfl) (pv 0) (pe_op op_add (pv 1) pe_int) (fun _ _ => rfl)) pa_nil)) pe_int) (fun _ _ => rfl)))
    (pss_cons (ps_set (i := 9) sc__law_laid.nd rfl (by first | exact Or.inl rfl | exact Or.inr rfl) (pe_op op_sub (pe_op op_mod (pe_callTy call_int1 (by rfl) T.int (by decide +kernel) (pa_cons (pe_ix (ix_listK (K := K) rfl) (pv 0) (pe_op op_add (pv 1) pe_int) (fun _ _ => rfl)) pa_nil)) (pe_op op_add (pe_op op_mul pe_int (pv 8)) pe_int)) (pv 8)))
    (pss_cons (ps_set (i := 10) sc__law_laid.nd rfl (by first | exact Or.inl rfl | exact Or.inr rfl) (pe_op op_sub (pe_op op_mod (pe_callTy call_int1 (by rfl) T.int (by decide +kernel) (pa_cons (pe_ix (ix_listK (K := K) rfl) (pv 0) (pe_op op_add (pv 1) pe_int) (fun _ _ => rfl)) pa_nil)) (pe_op op_add (pe_op op_mul pe_int (pv 8)) pe_int)) (pv 8)))
    (pss_one (ps_ret (C8.pe_c c__law_moved hr (by decide) (by rfl) (pa_cons (pe_tup (pa_cons (pv 3) (pa_cons (pv 4) (pa_cons (pv 5) (pa_cons (pv 6) pa_nil))))) (pa_cons (pv 9) (pa_cons (pv 10) pa_nil)))))))))))), ?_⟩
    refine q_asgG (er_var rfl p2) fun v3 H1 e1 p3 => g_cir p3 ?_
    have pn1 := (ll (ns.map pint)).mono e1 p0
    refine q_for (ei_range (er_I (er_intI (er_nth (er_var rfl pn1) (er_is rfl) rfl L0)) er_c (by show (0 : Int) < 4; decide)) m0 (by omega))
      (fun j σ' _ => ∃ z, σ' = [some v, some (.int (i : Int)), some v2, some (.int q.b), some (.int q.c), some (.int (rotN j q).x), some (.int (rotN j q).y), z, none, none, none]) (fun H2 e2 => ⟨none, rfl⟩) (fun j a x σ' H2 H' ha e2 hz e3 pa N hN => ?_) (fun σ' H2 e2 hz => ?_)
    · obtain ⟨z, ez⟩ := hz
      subst ez
      refine s_par (P1 := pint (0 - (rotN j q).y)) (P2 := pint (rotN j q).x) (ea_cons (er_I0 er_c (er_is rfl)) (ea_cons (er_is rfl) ea_nil)) fun a1 a2 H3 e3 q1 q2 => ?_
      have q1' : a1 = .int (0 - (rotN j q).y) := q1
      have q2' : a2 = .int (rotN j q).x := q2
      subst q1' q2'
      exact hN _ H3 e3 ⟨_, rfl⟩
    · obtain ⟨z, ez⟩ := hz
      rw [List.length_range] at ez
      subst ez
      have pn2 := (ll (ns.map pint)).mono e2 pn1
      obtain ⟨rb, rc⟩ := rotN_b (ns.getD i 0 % 4).toNat q
      refine q_ifM (b := decide (ns.getD i 0 / 4 % 2 = 1)) ((et_t (er_eq (er_I (er_I (er_intI (er_nth (er_var rfl pn2) (er_is rfl) rfl L0)) er_c ⟨by decide, by decide⟩) er_c (by show (0 : Int) < 2; decide)) er_c rfl)).to dI)
        (fun σ2 _ => σ2 = [some v, some (.int (i : Int)), some v2, some (.int (turned (ns.getD i 0) q).b), some (.int (turned (ns.getD i 0) q).c), some (.int (turned (ns.getD i 0) q).x), some (.int (turned (ns.getD i 0) q).y), z, none, none, none]) (fun hb H3 e3 N hN => ?_) (fun hb H3 e3 => ?_) (fun σ3 H3 e3 h3 => ?_)
      · refine s_asg (er_I0 er_c (er_is rfl)) fun v4 H4 e4 p4 => hN _ H4 (e3.trans e4) ?_
        have p4' : v4 = V.int (0 - (rotN (ns.getD i 0 % 4).toNat q).x) := p4
        subst p4'
        unfold turned
        rw [hb, if_pos rfl, show (mirC (rotN (ns.getD i 0 % 4).toNat q)).b = q.b from rb, show (mirC (rotN (ns.getD i 0 % 4).toNat q)).c = q.c from rc]
        rfl
      · unfold turned
        rw [hb, if_neg (by decide), rb, rc]
      subst h3
      have pn3 := (ll (ns.map pint)).mono e3 pn2
      refine q_asg (P := pint (most (ns.getD (i + 1) 0))) (er_ixL (er_lst (ea_cons er_c (ea_cons er_c (ea_cons er_c ea_nil))) (by show 3 ≤ 100000; decide)) (er_I (er_intI (er_nth (er_var rfl pn3) (er_I0 (er_is rfl) er_c) j1 L1)) er_c (by show (0 : Int) < 3; decide)) (at_ofP (j := (ns.getD (i + 1) 0 % 3).toNat) (by omega) (gmap (f := pint) g1))) fun v4 H4 e4 p4 => ?_
      have p4' : v4 = V.int (most (ns.getD (i + 1) 0)) := p4
      subst p4'
      have pn4 := (ll (ns.map pint)).mono e4 pn3
      refine q_asg (P := pint (step (ns.getD (i + 1) 0) (ns.getD (i + 2) 0))) (er_I0 (er_I (er_intI (er_nth (er_var rfl pn4) (er_I0 (er_is rfl) er_c) j2 L2)) (er_I0 (er_I er_c (er_is rfl) (.inl ⟨by decide, by decide⟩)) er_c) hmp) (er_is rfl)) fun v5 H5 e5 p5 => ?_
      have p5' : v5 = V.int (step (ns.getD (i + 1) 0) (ns.getD (i + 2) 0)) := p5
      subst p5'
      have pn5 := (ll (ns.map pint)).mono e5 pn4
      refine q_asg (P := pint (step (ns.getD (i + 1) 0) (ns.getD (i + 3) 0))) (er_I0 (er_I (er_intI (er_nth (er_var rfl pn5) (er_I0 (er_is rfl) er_c) j3 L3)) (er_I0 (er_I er_c (er_is rfl) (.inl ⟨by decide, by decide⟩)) er_c) hmp) (er_is rfl)) fun v6 H6 e6 p6 => ?_
      have p6' : v6 = V.int (step (ns.getD (i + 1) 0) (ns.getD (i + 3) 0)) := p6
      subst p6'
      exact s_ret (P := cir K (laidN ns i q)) (er_call (A := fun d : Fv => [cir K d.q, pint d.s, pint d.t]) (R := fun d : Fv => cir K (mov d.q d.s d.t)) ⟨turned (ns.getD i 0) q, step (ns.getD (i + 1) 0) (ns.getD (i + 2) 0), step (ns.getD (i + 1) 0) (ns.getD (i + 3) 0)⟩ (ea_cons (er_cirT (er_is rfl) (er_is rfl) (er_is rfl) (er_is rfl)) (ea_cons (er_is rfl) (ea_cons (er_is rfl) ea_nil))) ⟨step_sm _ _, step_sm _ _⟩) fun v7 H7 e7 p7 => k v7 H7 (((((((e1.trans e2).trans e3).trans e4).trans e5).trans e6).trans e7)) p7
/-! ### _law_other, _law_fallen -/
def spLOth (K : PySem.W.Frag) : Sp := Spf (fun d : List Cir × Nat => [cirs K d.1, pint ((d.2 : Nat) : Int)]) (fun d => d.1.length = 4 ∧ d.2 < 4) (fun d => cir K (oth d.1 (d.1.getD d.2 c0)))
theorem c__law_other (F : Df K mg "_law_other" s__law_other ["_law_circles", "_law_k"]) (T : Tx K mg) : C8.Cal P w K mg base 1 "_law_other" (spLOth K) [] :=
  F.cal sc__law_other (fun _ => rfl) fun f cdv An outer s H vs Q E d hr hp hv k => by
    obtain ⟨l, j⟩ := d
    obtain ⟨v, u, e0, p0, p1⟩ := pl2 hv
    have e1 : u = .int (j : Int) := p1
    subst e0 e1
    have hl4 : l.length = 4 := hp.1
    have hj4 : j < 4 := hp.2
    refine ⟨_, (pss_one (ps_ret (pe_callTy (call_tupleK (K := K) rfl) (by rfl) T.tuple (by decide +kernel) (pa_cons (pe_lc (own := [("_law_part", 3)]) (g := (gName 3)) (tt := tYes) rfl sc__law_other.nd (pi_range1 (by rfl) T.range (pa_cons pe_int pa_nil)) (blkOk_by (own := [("_law_part", 3)]) (N := n__law_other) (sc := defScope s__law_other) (by decide +kernel)) (fun _ _ _ _ _ => (pg_name (i := 3) sc__law_other.nd rfl (by first | exact Or.inl rfl | exact Or.inr rfl))) (fun _ _ _ _ _ => pts_nil) (fun _ _ _ _ _ => (pe_op op_sub (pe_op op_mul pe_int (pe_callB (cr_sumK (K := K) rfl rfl) (by rfl) T.sum (by decide +kernel) (pa_cons (pe_lc (own := [("_law_circle", 2)]) (g := (gName 2)) (tt := tYes) rfl sc__law_other.nd (k_list (K := K) rfl (pi_list (pv 0))) (blkOk_by (own := [("_law_circle", 2)]) (N := n__law_other) (sc := ({ kind := .function, names := [(".0", .local), ("_law_part", .cell), ("sum", .globalImplicit), ("_law_circles", .cell), ("_law_k", .cell)], isGenerator := false, isCoroutine := false } : Scope)) (by decide +kernel)) (fun _ _ _ _ _ => (pg_name (i := 2) sc__law_other.nd rfl (by first | exact Or.inl rfl | exact Or.inr rfl))) (fun _ _ _ _ _ => pts_nil) (fun _ _ _ _ _ => (pe_ix (ix_tupK (K := K) rfl) (pv 2) (pv 3) (fun _ _ => rfl)))) pa_nil))) (pe_op op_mul pe_int (pe_ix (ix_tupK (K := K) rfl) (pe_ix (ix_listK (K := K) rfl) (pv 0) (pv 1) (fun _ _ => rfl)) (pv 3) (fun _ _ => rfl)))))) pa_nil)))), ?_⟩
    refine s_ret (P := cir K (oth l (l.getD j c0))) ((er_tupL (er_lcN (as := List.range 4) (A := fun i : Nat => pint (i : Int)) (R := fun i => pint (2 * tot (prt · i) l - 3 * prt (l.getD j c0) i)) (ei_range er_c (by decide) (by decide)) (by decide) (fun _ _ => solid_is) (fun i x H' hi e px => ?_))).to ?_) k
    · have hi4 : i < 4 := List.mem_range.mp hi
      have ex : x = .int (i : Int) := px
      subst ex
      have p0' := (cirs K l).mono e p0
      refine er_I0 (er_I er_c (er_sum (ns := l.map (prt · i)) ((er_lcN (as := l) (A := cir K) (R := fun q => pint (prt q i)) (ei_list (er_var rfl p0')) (by omega) (fun _ _ => solid_is) (fun q x H' _ _ px => er_ixT (er_var rfl px) (er_is rfl) (at_prt (K := K) q hi4))).to ?_)) (.inl ⟨by decide, by decide⟩)) (er_I er_c (er_ixT (er_ixL (P := cir K (l.getD j c0)) (er_var rfl p0') (er_is rfl) (at_ofP (j := j) rfl ?_)) (er_is rfl) (at_prt (K := K) _ hi4)) (.inl ⟨by decide, by decide⟩))
      · rw [List.map_map]
        rfl
      · rw [List.getElem?_map, List.getD_eq_getElem?_getD, List.getElem?_eq_getElem (by omega)]
        rfl
    · have e : ∀ a o : Int, 2 * a - 3 * o = 2 * (a - o) - o := fun a o => by omega
      show tl K [pint (2 * tot (·.b) l - 3 * (l.getD j c0).b), pint (2 * tot (·.c) l - 3 * (l.getD j c0).c), pint (2 * tot (·.x) l - 3 * (l.getD j c0).x), pint (2 * tot (·.y) l - 3 * (l.getD j c0).y)] = _
      rw [e, e, e, e]
      rfl
theorem fall_len (l : List Cir) (w : List Nat) : (fall l w).length = l.length := by
  induction w generalizing l with
  | nil => rfl
  | cons k w ih =>
    show (fall (exch l k) w).length = _
    rw [ih]
    exact List.length_set
structure Ff where
  l : List Cir
  w : List Nat
def wordP (w : List Nat) : Pd := ll (w.map fun k : Nat => pint (k : Int))
def spFal (K : PySem.W.Frag) : Sp := Spf (fun d : Ff => [cirs K d.l, wordP d.w]) (fun d => d.l.length = 4 ∧ W4 d.w) (fun d => cirs K (fall d.l d.w))
theorem c__law_fallen (F : Df K mg "_law_fallen" s__law_fallen ["_law_circles", "_law_word"]) (T : Tx K mg) (c__law_other : C8.Cal P w K mg base 1 "_law_other" (spLOth K) []) : C8.Cal P w K mg base 2 "_law_fallen" (spFal K) [] :=
  F.cal sc__law_fallen (fun _ => rfl) fun f cdv An outer s H vs Q E d hr hp hv k => by
    obtain ⟨l, ws⟩ := d
    obtain ⟨v, u, e0, p0, p1⟩ := pl2 hv
    subst e0
    obtain ⟨hl4, hw⟩ := hp
    dsimp only at hl4 hw p0 p1 k
    refine ⟨_, (pss_cons (ps_set (i := 2) sc__law_fallen.nd rfl (by first | exact Or.inl rfl | exact Or.inr rfl) (pe_callTy (call_listK (K := K) rfl) (by rfl) T.list (by decide +kernel) (pa_cons (pv 0) pa_nil)))
    (pss_cons (ps_for PassesOwn.never rfl (k_list (K := K) rfl (pi_list (pv 1))) (pg_name (i := 3) sc__law_fallen.nd rfl (by first | exact Or.inl rfl | exact Or.inr rfl))
      (pss_one (ps_asg (C8.pe_c c__law_other hr (by decide) (by rfl) (pa_cons (pv 2) (pa_cons (pv 3) pa_nil))) (pg_sub (pv 2) (pv 3) set_list))))
    (pss_one (ps_ret (pv 2))))), ?_⟩
    refine q_listOf (er_var rfl p0) fun lf vs H1 e1 nf hf pf => ?_
    refine q_forB e1 (eib_list (i := 1) rfl p1) (fun i σ' H' => ∃ z acc, σ' = [some v, some u, some (.ref lf), z] ∧ H' lf = some (.lst acc) ∧ PL ((fall l (ws.take i)).map (cir K)) acc H') (fun H2 e2 => ⟨none, vs, rfl, e2 _ _ hf, pf.mono e2⟩) (fun i a x σ' H2 H' ha e2 hz e3 pa N hN => ?_) (fun σ' H2 e2 hz => ?_)
    · obtain ⟨z, acc, ez, hl, hP⟩ := hz
      have ex : x = .int (a : Int) := pa
      subst ez ex
      have hil : i < ws.length := (List.getElem?_eq_some_iff.mp ha).1
      have ea : ws.getD i 0 = a := by rw [List.getD_eq_getElem?_getD, ha]; rfl
      have ha4 : a < 4 := hw a (List.mem_of_getElem? ha)
      have hl3 := e3 _ _ hl
      have hP3 := hP.mono e3
      have hal : acc.length = 4 := by rw [hP.len, List.length_map, fall_len]; exact hl4
      refine s_setL (P := cir K (oth (fall l (ws.take i)) ((fall l (ws.take i)).getD a c0))) hl3 (er_call (A := fun d : List Cir × Nat => [cirs K d.1, pint ((d.2 : Nat) : Int)]) (R := fun d => cir K (oth d.1 (d.1.getD d.2 c0))) (fall l (ws.take i), a) (ea_cons (er_var rfl ⟨lf, acc, rfl, hl3, hP3⟩) (ea_cons (er_is rfl) ea_nil)) ⟨by show (fall l (ws.take i)).length = 4; rw [fall_len]; exact hl4, ha4⟩) (er_is rfl) (er_is rfl) (by omega) fun v4 H4 e4 p4 => ?_
      have hl4' := e4 _ _ hl3
      refine hN _ _ (Same.mut ((e2.trans e3).trans e4) nf) ⟨_, acc.set a v4, rfl, upd_same, ?_⟩
      rw [fall_take hil, ea]
      unfold exch
      rw [List.map_set]
      exact PL.set (solid_cir _ _ _ _ _ _ hl4' p4) a (solidL hl4' (solid_map _ solid_cir) (hP3.mono e4))
    · obtain ⟨z, acc, ez, hl, hP⟩ := hz
      subst ez
      rw [List.take_length] at hP
      exact s_ret (P := cirs K (fall l ws)) (er_var rfl ⟨lf, acc, rfl, hl, hP⟩) fun v5 H5 e5 p5 => k v5 H5 (e2.trans e5) p5
/-! ### _law_is_root -/
theorem er_sizes {σ : L2.St} {H : Hp} {te : TE} {l : List Cir} {j : Nat} {vs : List Nat} (h : Er te σ H (cirs K l)) (hl : l.length = 4) (hx : ∀ x, ((wipe σ vs).set j (some x))[j]? = some (some x)) (hw : ∀ x, wipe ((wipe σ vs).set j (some x)) vs = wipe σ vs := by intro _; rfl) : Er (tLc (iList K te) (gName j) tYes (tOp (rIxT K) (tVar j) (tC (.int 0))) vs) σ H (ll ((cv l).map pint)) :=
  (er_lcN (as := l) (A := cir K) (R := fun q => pint q.b) (ei_list h) (by omega) (fun _ _ => solid_is) (fun q x H' _ _ px => er_ixT (er_var (hx x) px) er_c rfl) hw).to (by unfold cv; rw [List.map_map]; rfl)
def spLRt (K : PySem.W.Frag) : Sp := Spf (fun l : List Cir => [cirs K l]) (fun l => l.length = 4) (fun l => pbl (isRt (cv l)))
theorem c__law_is_root (F : Df K mg "_law_is_root" s__law_is_root ["_law_circles"]) (T : Tx K mg) : C8.Cal P w K mg base 1 "_law_is_root" (spLRt K) [] :=
  F.cal sc__law_is_root (fun _ => rfl) fun f cdv An outer s H vs Q E l hr hp hv k => by
    obtain ⟨v, e0, p0⟩ := pl1 hv
    subst e0
    have hl4 : l.length = 4 := hp
    refine ⟨_, (pss_cons (ps_set (i := 1) sc__law_is_root.nd rfl (by first | exact Or.inl rfl | exact Or.inr rfl) (pe_callB (cr_sortedK (K := K) rfl) (by rfl) T.sorted (by decide +kernel) (pa_cons (pe_lc (own := [("_law_circle", 2)]) (g := (gName 2)) (tt := tYes) rfl sc__law_is_root.nd (k_list (K := K) rfl (pi_list (pv 0))) (blkOk_by (own := [("_law_circle", 2)]) (N := n__law_is_root) (sc := defScope s__law_is_root) (by decide +kernel)) (fun _ _ _ _ _ => (pg_name (i := 2) sc__law_is_root.nd rfl (by first | exact Or.inl rfl | exact Or.inr rfl))) (fun _ _ _ _ _ => pts_nil) (fun _ _ _ _ _ => (pe_ix (ix_tupK (K := K) rfl) (pv 2) pe_int (fun _ _ => rfl)))) pa_nil)))
    (pss_one (ps_ret (pe_cmpR op_ge (pe_callB (cr_sumK (K := K) rfl rfl) (by rfl) T.sum (by decide +kernel) (pa_cons (pe_slice (sl_listK (K := K) rfl) (pv 1) po_none (po_some pe_int)) pa_nil)) (pe_ix (ix_listK (K := K) rfl) (pv 1) pe_int (fun _ _ => rfl)) (nomark _))))), ?_⟩
    refine q_asg (P := ll ((srt (cv l)).map pint)) (er_sorted (er_sizes (er_var rfl p0) hl4 fun x => rfl) (by rw [cv_len]; omega)) fun v1 H1 e1 p1 => ?_
    refine s_ret (P := pbl (isRt (cv l))) (er_I0 (er_sum ((er_slL (er_var rfl p1) eo_none (eo_some er_c)).to ?_)) (er_ixL (er_var rfl p1) er_c ?_)) (fun v3 H3 e3 p3 => ?_)
    · rw [show (3 : Int) = ((3 : Nat) : Int) from rfl, cutP_to, List.map_take]
    · refine at_ofP (j := 3) rfl ?_
      have h3 : 3 < (srt (cv l)).length := by rw [srt_len, cv_len]; omega
      rw [List.getElem?_map, List.getD_eq_getElem?_getD, List.getElem?_eq_getElem h3]
      rfl
    · exact k v3 H3 (e1.trans e3) p3
end
end Ft
set_option maxHeartbeats 4000000
namespace Ft
open PySem PySem.Spec PyProof.Rows L2
section
variable {P : Program} {w : World} {K : PySem.W.Frag} {mg : Str → Option Value} {base : Heap} {C : Addr}
/-! ### _law_row -/
def rowP : Pd := ⟨fun v H => ∃ ns : List Int, ns.length ≤ 1000 ∧ (ll (ns.map pint)).p v H, fun e ⟨ns, h1, h2⟩ => ⟨ns, h1, (ll (ns.map pint)).mono e h2⟩⟩
def spRow : Sp := Spn (fun d : Int × Int => [pint d.1, pint d.2]) (fun d => 0 ≤ d.2 ∧ d.2 ≤ 1000) (fun _ => rowP)
theorem c__law_row (F : Df K mg "_law_row" s__law_row ["_law_cell", "_law_many"]) (T : Tx K mg) : C8.Cal P w K mg base 1 "_law_row" spRow [] :=
  F.caln sc__law_row (fun _ => rfl) fun f cdv An outer s H vs Q E d hr hp hv k => by
    obtain ⟨c, m⟩ := d
    obtain ⟨v, u, e0, p0, p1⟩ := pl2 hv
    have p0' : v = .int c := p0
    have p1' : u = .int m := p1
    subst e0 p0' p1'
    obtain ⟨hm0, hm1⟩ := hp
    dsimp only at hm0 hm1
    refine ⟨_, (pss_cons (ps_set (i := 2) sc__law_row.nd rfl (by first | exact Or.inl rfl | exact Or.inr rfl) (pe_lst pa_nil))
    (pss_cons (ps_set (i := 3) sc__law_row.nd rfl (by first | exact Or.inl rfl | exact Or.inr rfl) (pe_callB call_abs (by rfl) T.abs (by decide +kernel) (pa_cons (pv 0) pa_nil)))
    (pss_cons (ps_set (i := 4) sc__law_row.nd rfl (by first | exact Or.inl rfl | exact Or.inr rfl) (pe_op op_mod (pe_callTy call_int1 (by rfl) T.int (by decide +kernel) (pa_cons (pe_op op_add (pe_op op_mul (pv 3) pe_int) pe_int) pa_nil)) pe_int))
    (pss_cons (ps_for PassesOwn.never rfl (pi_range1 (by rfl) T.range (pa_cons (pv 1) pa_nil)) (pg_name (i := 5) sc__law_row.nd rfl (by first | exact Or.inl rfl | exact Or.inr rfl))
      (pss_cons (ps_set (i := 4) sc__law_row.nd rfl (by first | exact Or.inl rfl | exact Or.inr rfl) (pe_op op_mod (pe_callTy call_int1 (by rfl) T.int (by decide +kernel) (pa_cons (pe_op op_add (pe_op op_mul (pv 4) pe_int) (pe_op op_mul pe_int (pe_op op_add (pv 5) pe_int))) pa_nil)) pe_int))
    (pss_one (ps_if (pt_cmpR op_ge (pe_callB call_abs (by rfl) T.abs (by decide +kernel) (pa_cons (pv 0) pa_nil)) (pe_op op_pow pe_int pe_int) (nomark _)) (pss_cons (ps_expr (k_bm (K := K) rfl (pe_bm PySem.F.plainAttrs_list PySem.F.slot_list_append PySem.F.type_list_append mt_append (pv 2) (pa_cons (pe_op op_mod (pe_callTy call_int1 (by rfl) T.int (by decide +kernel) (pa_cons (pv 3) pa_nil)) pe_int) pa_nil))))
    (pss_one (ps_set (i := 3) sc__law_row.nd rfl (by first | exact Or.inl rfl | exact Or.inr rfl) (pe_op op_fdiv (pv 3) pe_int)))) (pss_one (ps_expr (k_bm (K := K) rfl (pe_bm PySem.F.plainAttrs_list PySem.F.slot_list_append PySem.F.type_list_append mt_append (pv 2) (pa_cons (pe_op op_mod (pe_callTy call_int1 (by rfl) T.int (by decide +kernel) (pa_cons (pe_op op_fdiv (pv 4) pe_int) pa_nil)) pe_int) pa_nil)))))))))
    (pss_one (ps_ret (pv 2))))))), ?_⟩
    refine q_lst (Ps := []) ea_nil (by decide) fun lf us H1 e1 nf hf pf => ?_
    have eu : us = [] := List.length_eq_zero_iff.mp pf.len
    subst eu
    refine q_asg (er_abs (er_is rfl)) fun v2 H2 e2 p2 => ?_
    have p2' : v2 = V.int (if c < 0 then -c else c) := p2
    subst p2'
    refine q_asg (er_I (er_intI (er_I0 (er_I (er_is rfl) er_c (.inr ⟨by decide, by decide⟩)) er_c)) er_c (by show (0 : Int) < 2147483647; decide)) fun v3 H3 e3 p3 => ?_
    have p3' : v3 = V.int (((if c < 0 then -c else c) * 48271 + 69621) % 2147483647) := p3
    subst p3'
    refine q_forB (H0 := H) ((e1.trans e2).trans e3) (eib_range (er_is rfl) hm0 (by omega)) (fun i σ' H' => ∃ (r mx : Int) (z : Option V) (ns : List Int), σ' = [some (.int c), some (.int m), some (.ref lf), some (.int r), some (.int mx), z] ∧ H' lf = some (.lst (ns.map V.int)) ∧ ns.length = i)
      (fun H4 e4 => ⟨_, _, none, [], rfl, ((e2.trans e3).trans e4) _ _ hf, rfl⟩) (fun i a x σ' H4 H' ha e4 hz e5 pa N hN => ?_) (fun σ' H4 e4 hz => ?_)
    · obtain ⟨r, mx, z, ns, ez, hl, hn⟩ := hz
      have ex : x = .int (a : Int) := pa
      subst ez ex
      have hi : i < m.toNat := by
        have := (List.getElem?_eq_some_iff.mp ha).1
        rw [List.length_range] at this
        exact this
      have hl5 := e5 _ _ hl
      refine q_asg (er_I (er_intI (er_I0 (er_I (er_is rfl) er_c (.inr ⟨by decide, by decide⟩)) (er_I er_c (er_I0 (er_is rfl) er_c) (.inl ⟨by decide, by decide⟩)))) er_c (by show (0 : Int) < 2147483629; decide)) fun v6 H6 e6 p6 => ?_
      have p6' : v6 = V.int ((mx * 16807 + 271 * ((a : Int) + 3)) % 2147483629) := p6
      subst p6'
      have hl6 := e6 _ _ hl5
      refine s_if (et_t (er_I0 (er_abs (er_is rfl)) (er_I er_c er_c (by unfold CPow; decide)))) (fun hb H7 e7 => ?_) (fun hb H7 e7 => ?_)
      · have hl7 := e7 _ _ hl6
        refine q_app (P := pint (r % 1009)) hl7 (er_is rfl) (er_I (er_intI (er_is rfl)) er_c (by show (0 : Int) < 1009; decide)) (by rw [List.length_map]; omega) fun v8 H8 e8 p8 => ?_
        have p8' : v8 = V.int (r % 1009) := p8
        subst p8'
        refine s_asg (er_I (er_is rfl) er_c ⟨by decide, by decide⟩) fun v9 H9 e9 p9 => ?_
        have p9' : v9 = V.int (r / 1009) := p9
        subst p9'
        refine hN _ H9 ((Same.mut (((e4.trans e5).trans (e6.trans e7)).trans e8) nf).trans e9) ⟨_, _, _, ns ++ [r % 1009], rfl, ?_, by rw [List.length_append, hn]; rfl⟩
        rw [e9 _ _ upd_same, List.map_append]
        rfl
      · have hl7 := e7 _ _ hl6
        refine s_app (P := pint (((mx * 16807 + 271 * ((a : Int) + 3)) % 2147483629) / 7 % 1009)) hl7 (er_is rfl) (er_I (er_intI (er_I (er_is rfl) er_c ⟨by decide, by decide⟩)) er_c (by show (0 : Int) < 1009; decide)) (by rw [List.length_map]; omega) fun v8 H8 e8 p8 => ?_
        have p8' : v8 = V.int (((mx * 16807 + 271 * ((a : Int) + 3)) % 2147483629) / 7 % 1009) := p8
        subst p8'
        refine hN _ _ (Same.mut (((e4.trans e5).trans (e6.trans e7)).trans e8) nf) ⟨_, _, _, ns ++ [((mx * 16807 + 271 * ((a : Int) + 3)) % 2147483629) / 7 % 1009], rfl, ?_, by rw [List.length_append, hn]; rfl⟩
        rw [upd_same, List.map_append]
        rfl
    · obtain ⟨r, mx, z, ns, ez, hl, hn⟩ := hz
      subst ez
      rw [List.length_range] at hn
      refine s_ret (P := is (.ref lf)) (er_is rfl) fun v5 H5 e5 p5 => ?_
      have p5' : v5 = .ref lf := p5
      subst p5'
      have hl5 := e5 _ _ hl
      refine k _ H5 (e4.trans e5) ⟨ns, by omega, lf, _, rfl, hl5, PL.off _⟩ fun l xs ys h0 => ⟨ns, by omega, lf, _, rfl, ?_, PL.off _⟩
      rw [upd_ne (fun e => by subst e; rw [nf] at h0; cases h0)]
      exact hl5
/-! ### _law_numbers -/
theorem sqL_mono {H H' : Hp} {a : Addr} {xs : List V} (e : Same H H') (h : SqL K H a xs) : SqL K H' a xs := by
  rcases h with (h | ⟨o, h⟩) | h
  · exact .inl (.inl (e _ _ h))
  · exact .inl (.inr ⟨o, e _ _ h⟩)
  · exact .inr h
/-- a list that is only read -/
def sq (K : PySem.W.Frag) (xs : List V) : Pd := ⟨fun v H => ∃ a, v = .ref a ∧ SqL K H a xs, fun e ⟨a, h1, h2⟩ => ⟨a, h1, sqL_mono e h2⟩⟩
theorem er_slQ {σ : L2.St} {H : Hp} {te : TE} {xs : List V} {t1 t2 : TO} {lo hi : Option Int} (h : Er te σ H (sq K xs)) (h1 : Eo t1 σ H lo) (h2 : Eo t2 σ H hi) : Er (tSl (rSlL K) te t1 t2) σ H (ll ((cutV xs lo hi).map is)) := fun H1 e Q q =>
  h H1 e _ fun v H2 e2 p2 => h1 H2 (e.trans e2) _ fun H3 e3 => h2 H3 ((e.trans e2).trans e3) _ fun H4 e4 => by
    obtain ⟨a, e0, g2⟩ := (sq K xs).mono (e3.trans e4) p2
    exact ⟨a, xs, e0, g2, fun p hp => q _ _ (((e2.trans e3).trans e4).trans (same_new hp)) ⟨p, _, rfl, upd_same, PL.ofv _⟩⟩
def numsP : Pd := ⟨fun v H => ∃ ns : List Int, ns.length = 50 ∧ (ll (ns.map pint)).p v H, fun e ⟨ns, h1, h2⟩ => ⟨ns, h1, (ll (ns.map pint)).mono e h2⟩⟩
def spNums (K : PySem.W.Frag) : Sp := Spf (fun ns : List Int => [sq K (ns.map V.int), pint 50]) (fun _ => True) (fun _ => numsP)
theorem er_max2 {σ : L2.St} {H : Hp} {t1 t2 : TE} {i j : Int} (h1 : Er t1 σ H (pint i)) (h2 : Er t2 σ H (pint j)) : Er (tCB (fun xs H Q => ∃ i j, xs = [.int i, .int j] ∧ Q (.int (if j > i then j else i)) H) (tCons t1 (tCons t2 tNil))) σ H (pint (if j > i then j else i)) :=
  er_cb (ea_cons h1 (ea_cons h2 ea_nil)) fun H1 vs _ p Q q => by
    obtain ⟨a, b, ev, q1, q2⟩ := pl2 p
    exact ⟨i, j, by rw [ev, show a = V.int i from q1, show b = V.int j from q2], q _ H1 (Same.refl H1) rfl⟩
theorem c__law_numbers (F : Df K mg "_law_numbers" s__law_numbers ["_law_script", "_law_many"]) (T : Tx K mg) (c__law_row : C8.Cal P w K mg base 1 "_law_row" spRow []) : C8.Cal P w K mg base 2 "_law_numbers" (spNums K) [] :=
  F.cal sc__law_numbers (fun _ => rfl) fun f cdv An outer s H vs Q E ns hr hp hv k => by
    obtain ⟨v, u, e0, p0, p1⟩ := pl2 hv
    have p1' : u = .int 50 := p1
    subst e0 p1'
    refine ⟨_, (pss_cons (ps_set (i := 2) sc__law_numbers.nd rfl (by first | exact Or.inl rfl | exact Or.inr rfl) (pe_slice (sl_listK (K := K) rfl) (pv 0) po_none (po_some pe_int)))
    (pss_cons (ps_set (i := 3) sc__law_numbers.nd rfl (by first | exact Or.inl rfl | exact Or.inr rfl) (pe_op op_add pe_int (pe_op op_fdiv (pv 1) (pe_callB (call_max2 rfl) (by rfl) T.max (by decide +kernel) (pa_cons pe_int (pa_cons (pe_callB (call_lenK (K := K) rfl) (by rfl) T.len (by decide +kernel) (pa_cons (pv 2) pa_nil)) pa_nil))))))
    (pss_cons (ps_set (i := 4) sc__law_numbers.nd rfl (by first | exact Or.inl rfl | exact Or.inr rfl) (pe_lst pa_nil))
    (pss_cons (ps_for PassesOwn.never rfl (k_list (K := K) rfl (pi_list (pv 2))) (pg_name (i := 5) sc__law_numbers.nd rfl (by first | exact Or.inl rfl | exact Or.inr rfl))
      (pss_one (ps_for PassesOwn.never rfl (k_list (K := K) rfl (pi_list (C8.pe_c c__law_row hr (by decide) (by rfl) (pa_cons (pv 5) (pa_cons (pv 3) pa_nil))))) (pg_name (i := 6) sc__law_numbers.nd rfl (by first | exact Or.inl rfl | exact Or.inr rfl))
      (pss_one (ps_expr (k_bm (K := K) rfl (pe_bm PySem.F.plainAttrs_list PySem.F.slot_list_append PySem.F.type_list_append mt_append (pv 4) (pa_cons (pv 6) pa_nil))))))))
    (pss_cons (ps_while PassesOwn.never (pt_cmpR op_lt (pe_callB (call_lenK (K := K) rfl) (by rfl) T.len (by decide +kernel) (pa_cons (pv 4) pa_nil)) (pv 1) (nomark _)) (pss_one (ps_expr (k_bm (K := K) rfl (pe_bm PySem.F.plainAttrs_list PySem.F.slot_list_append PySem.F.type_list_append mt_append (pv 4) (pa_cons pe_int pa_nil))))))
    (pss_one (ps_ret (pe_slice (sl_listK (K := K) rfl) (pv 4) po_none (po_some (pv 1)))))))))), ?_⟩
    have ecut : (cutV (ns.map V.int) none (some 63)).map is = (ns.take 63).map pint := by
      rw [show cutV (ns.map V.int) none (some 63) = cutP (ns.map V.int) none (some ((63 : Nat) : Int)) from rfl, cutP_to, ← List.map_take, List.map_map]
      rfl
    refine q_asg (P := ll ((ns.take 63).map pint)) ((er_slQ (er_var rfl p0) eo_none (eo_some er_c)).to (by rw [ecut])) fun vc H1 e1 pc => ?_
    have hcl : (ns.take 63).length ≤ 63 := by rw [List.length_take]; omega
    generalize ns.take 63 = cs at pc hcl
    have hmx : (0 : Int) < (if (((cs.map pint).length : Nat) : Int) > 1 then (((cs.map pint).length : Nat) : Int) else 1) ∧ (if (((cs.map pint).length : Nat) : Int) > 1 then (((cs.map pint).length : Nat) : Int) else 1) < 1073741824 := by
      rw [List.length_map]
      split <;> omega
    refine q_asg (er_I0 er_c (er_I (er_is rfl) (er_max2 er_c (er_lenL (er_var rfl pc))) hmx)) fun ve H2 e2 pe => ?_
    obtain ⟨ea, he, ha0, ha1⟩ : ∃ ea : Int, ve = .int ea ∧ 0 ≤ ea ∧ ea ≤ 1000 := by
      refine ⟨_, pe, ?_, ?_⟩
      · have := Int.ediv_nonneg (show (0 : Int) ≤ 50 by decide) (Int.le_of_lt hmx.1)
        omega
      · have := Int.ediv_le_self (a := 50) (if (((cs.map pint).length : Nat) : Int) > 1 then (((cs.map pint).length : Nat) : Int) else 1) (by decide)
        omega
    subst he
    clear pe hmx
    have pc2 := (ll (cs.map pint)).mono e2 pc
    refine q_lst (Ps := []) ea_nil (by decide) fun lf us H3 e3 nf hf pf => ?_
    have eu : us = [] := List.length_eq_zero_iff.mp pf.len
    subst eu
    refine q_forB (H0 := H2) e3 (eib_list (i := 2) rfl pc2) (fun i σ' H' => ∃ (z1 z2 : Option V) (ns : List Int), σ' = [some v, some (.int 50), some vc, some (.int ea), some (.ref lf), z1, z2] ∧ H' lf = some (.lst (ns.map V.int)) ∧ ns.length ≤ i * 1000)
      (fun H4 e4 => ⟨none, none, [], rfl, e4 _ _ hf, by simp⟩) (fun i a x σ' H4 H' ha e4 hz e5 pa N hN => ?_) (fun σ' H4 e4 hz => ?_)
    · obtain ⟨z1, z2, ns, ez, hl, hn⟩ := hz
      have ex : x = .int a := pa
      subst ez ex
      have hi : i < cs.length := (List.getElem?_eq_some_iff.mp ha).1
      have hl5 := e5 _ _ hl
      refine ern_call (A := fun d : Int × Int => [pint d.1, pint d.2]) (R := fun _ => rowP) (a, ea) (ea_cons (er_is rfl) (ea_cons (er_is rfl) ea_nil)) ⟨ha0, ha1⟩ H' (Same.refl _) _ fun vr H6 e6 p6 n6 => ?_
      obtain ⟨ms, hm, ar, xs, er, hxs, hL⟩ := p6
      have exs : xs = ms.map V.int := hL.valsf
      subst er exs
      have hl6 := e6 _ _ hl5
      have hne : ar ≠ lf := fun e => by
        obtain ⟨ms', _, ar', xs', er', hxs', hL'⟩ := n6 lf _ [V.non] hl5
        have e1 : ar = ar' := by cases er'; rfl
        rw [← e1, e, upd_same] at hxs'
        have e2 : [V.non] = xs' := by cases hxs'; rfl
        have e3 : xs' = ms'.map V.int := hL'.valsf
        rw [e3] at e2
        cases ms' with
        | nil => cases e2
        | cons y ys => cases e2
      refine ⟨ar, rfl, ⟨_, .inl (.inl hxs)⟩, for_list (K := K) (a := ar) (xs := ms.map V.int) (fun j σ' H' => ∃ z2, σ' = [some v, some (.int 50), some vc, some (.int ea), some (.ref lf), some (.int a), z2] ∧ H' lf = some (.lst ((ns ++ ms.take j).map V.int)) ∧ H' ar = some (.lst (ms.map V.int)) ∧ Same H2 H')
        ⟨_, rfl, by rw [List.take_zero, List.append_nil]; exact hl6, hxs, (e4.trans e5).trans e6⟩ (fun j σ' H' _ ⟨_, _, _, h, _⟩ => .inl (.inl h)) ?_ ?_⟩
      · rintro j x σ' H7 hj ⟨z2', ez, h1, h2, h3⟩
        subst ez
        have hjl : j < ms.length := by
          have := (List.getElem?_eq_some_iff.mp hj).1
          rw [List.length_map] at this
          exact this
        have ex : x = .int (ms.getD j 0) := by
          rw [List.getElem?_map, List.getElem?_eq_getElem hjl] at hj
          rw [List.getD_eq_getElem?_getD, List.getElem?_eq_getElem hjl]
          exact (Option.some.inj hj).symm
        subst ex
        refine s_app (P := pint (ms.getD j 0)) h1 (er_is rfl) (er_is rfl) (by rw [List.length_map, List.length_append, List.length_take]; omega) fun v8 H8 e8 p8 => ?_
        have p8' : v8 = V.int (ms.getD j 0) := p8
        subst p8'
        refine ⟨_, rfl, ?_, ?_, Same.mut (h3.trans e8) nf⟩
        · rw [upd_same, List.take_add_one, List.getElem?_eq_getElem hjl, List.getD_eq_getElem?_getD, List.getElem?_eq_getElem hjl, ← List.append_assoc, List.map_append (l₁ := ns ++ List.take j ms)]
          rfl
        · rw [upd_ne hne]
          exact e8 _ _ h2
      · rintro σ' H7 ⟨z2', ez, h1, h2, h3⟩
        subst ez
        rw [List.length_map, List.take_length] at h1
        exact hN _ H7 h3 ⟨_, _, ns ++ ms, rfl, h1, by rw [List.length_append, Nat.add_mul]; omega⟩
    · obtain ⟨z1, z2, ns1, ez, hl, hn⟩ := hz
      subst ez
      refine ⟨fun m σ' H' => ∃ ns2 : List Int, σ' = [some v, some (.int 50), some vc, some (.int ea), some (.ref lf), z1, z2] ∧ H' lf = some (.lst (ns2.map V.int)) ∧ ns2.length ≤ 64000 ∧ m = 50 - ns2.length ∧ Same H2 H', ⟨_, ns1, rfl, hl, by omega, rfl, e4⟩, ?_⟩
      rintro m σ' H5 ⟨ns2, ez, hl5, hn5, hm, e5⟩
      subst ez
      have pl5 : (ll (ns2.map pint)).p (.ref lf) H5 := ⟨lf, _, rfl, hl5, PL.off _⟩
      refine (et_t (er_I0 (er_lenL (er_var rfl pl5)) (er_is rfl))) H5 (Same.refl _) _ fun H6 e6 => ?_
      have hl6 := e6 _ _ hl5
      by_cases hlt : ns2.length < 50
      · rw [decide_eq_true (by rw [List.length_map]; omega)]
        refine iteT ⟨fun σ' H' => ∃ ns2 : List Int, σ' = [some v, some (.int 50), some vc, some (.int ea), some (.ref lf), z1, z2] ∧ H' lf = some (.lst (ns2.map V.int)) ∧ ns2.length ≤ 64000 ∧ 50 - ns2.length < m ∧ Same H2 H', fun σ' H' ⟨ns2, h1, h2, h3, h4, h5⟩ => ⟨_, h4, ns2, h1, h2, h3, rfl, h5⟩, ?_⟩
        refine s_app (P := pint 0) hl6 (er_is rfl) er_c (by rw [List.length_map]; omega) fun v8 H8 e8 p8 => ?_
        have p8' : v8 = V.int 0 := p8
        subst p8'
        refine ⟨ns2 ++ [0], rfl, ?_, by rw [List.length_append]; show ns2.length + 1 ≤ _; omega, by rw [List.length_append]; show 50 - (ns2.length + 1) < _; omega, Same.mut ((e5.trans e6).trans e8) nf⟩
        rw [upd_same, List.map_append]
        rfl
      · rw [decide_eq_false (by rw [List.length_map]; omega)]
        refine iteF ?_
        have pl6 : (ll (ns2.map pint)).p (.ref lf) H6 := (ll (ns2.map pint)).mono e6 pl5
        refine s_ret (P := ll ((ns2.take 50).map pint)) ((er_slL (er_var rfl pl6) eo_none (eo_some (er_is rfl))).to ?_) fun v7 H7 e7 p7 => k v7 H7 (((e1.trans e2).trans (e5.trans e6)).trans e7) ⟨_, by rw [List.length_take]; omega, p7⟩
        rw [show (50 : Int) = ((50 : Nat) : Int) from rfl, cutP_to, List.map_take]
end
end Ft
set_option maxHeartbeats 4000000
namespace Ft
open PySem PySem.Spec PyProof.Rows L2
section
variable {P : Program} {w : World} {K : PySem.W.Frag} {mg : Str → Option Value} {base : Heap} {C : Addr}
theorem Dn.nil_of {cs : List Int} {w : List Nat} {r : List Int} (h : Dn cs w r) (e : gp cs = none) : w = [] ∧ cs = r := by
  cases h with
  | root _ => exact ⟨rfl, rfl⟩
  | step e' _ => rw [e] at e'; cases e'
theorem Dn.of_nil {cs : List Int} {r : List Int} (h : Dn cs [] r) : cs = r := by
  cases h with
  | root _ => rfl
/-! ### _law_root -/
structure Fo where
  l : List Cir
  w : List Nat
  r : List Int
def spLRoot (K : PySem.W.Frag) : Sp := Spf (fun d : Fo => [cirs K d.l]) (fun d => Ok d.l ∧ Dn (cv d.l) d.w d.r ∧ d.w.length ≤ 60) (fun d => ll ((srt d.r).map pint))
def RtI (r : List Int) (b : Nat) (l : List Cir) : Prop := Ok l ∧ ∃ w, Dn (cv l) w r ∧ w.length ≤ b
theorem c__law_root (F : Df K mg "_law_root" s__law_root ["_law_circles"]) (T : Tx K mg) (c__law_other : C8.Cal P w K mg base 1 "_law_other" (spLOth K) []) : C8.Cal P w K mg base 2 "_law_root" (spLRoot K) [] :=
  F.cal sc__law_root (fun _ => rfl) fun f cdv An outer s H vs Q E d hr hp hv k => by
    obtain ⟨l, ws, r⟩ := d
    obtain ⟨v, e0, p0⟩ := pl1 hv
    subst e0
    obtain ⟨hok, hd, hl⟩ := hp
    dsimp only at hok hd hl p0 k
    refine ⟨_, (pss_cons (ps_set (i := 1) sc__law_root.nd rfl (by first | exact Or.inl rfl | exact Or.inr rfl) (pe_callTy (call_listK (K := K) rfl) (by rfl) T.list (by decide +kernel) (pa_cons (pv 0) pa_nil)))
    (pss_cons (ps_for PassesOwn.never rfl (pi_range1 (by rfl) T.range (pa_cons pe_int pa_nil)) (pg_name (i := 2) sc__law_root.nd rfl (by first | exact Or.inl rfl | exact Or.inr rfl))
      (pss_cons (ps_setLc (i := 3) (own := [("_law_circle", 4)]) (g := (gName 4)) (tt := tYes) rfl sc__law_root.nd rfl rfl (sw_true rfl rfl rfl (by decide +kernel)) (k_list (K := K) rfl (pi_list (pv 1))) (blkOk_by (own := [("_law_circle", 4)]) (N := n__law_root) (sc := defScope s__law_root) (by decide +kernel)) (fun _ _ _ _ _ => (pg_name (i := 4) sc__law_root.nd rfl (by first | exact Or.inl rfl | exact Or.inr rfl))) (fun _ _ _ _ _ => pts_nil) (fun _ _ _ _ _ => (pe_ix (ix_tupK (K := K) rfl) (pv 4) pe_int (fun _ _ => rfl))))
    (pss_one (ps_for PassesOwn.never rfl (pi_range1 (by rfl) T.range (pa_cons pe_int pa_nil)) (pg_name (i := 5) sc__law_root.nd rfl (by first | exact Or.inl rfl | exact Or.inr rfl))
      (pss_one (ps_if (pt_cmpR op_gt (pe_op op_mul pe_int (pe_ix (ix_listK (K := K) rfl) (pv 3) (pv 5) (fun _ _ => rfl))) (pe_callB (cr_sumK (K := K) rfl rfl) (by rfl) T.sum (by decide +kernel) (pa_cons (pv 3) pa_nil)) (nomark _)) (pss_cons (ps_asg (C8.pe_c c__law_other hr (by decide) (by rfl) (pa_cons (pv 1) (pa_cons (pv 5) pa_nil))) (pg_sub (pv 1) (pv 5) set_list))
    (pss_one (ps_setLc (i := 3) (own := [("_law_circle", 4)]) (g := (gName 4)) (tt := tYes) rfl sc__law_root.nd rfl rfl (sw_true rfl rfl rfl (by decide +kernel)) (k_list (K := K) rfl (pi_list (pv 1))) (blkOk_by (own := [("_law_circle", 4)]) (N := n__law_root) (sc := defScope s__law_root) (by decide +kernel)) (fun _ _ _ _ _ => (pg_name (i := 4) sc__law_root.nd rfl (by first | exact Or.inl rfl | exact Or.inr rfl))) (fun _ _ _ _ _ => pts_nil) (fun _ _ _ _ _ => (pe_ix (ix_tupK (K := K) rfl) (pv 4) pe_int (fun _ _ => rfl)))))) pss_nil))))))
    (pss_one (ps_ret (pe_callB (cr_sortedK (K := K) rfl) (by rfl) T.sorted (by decide +kernel) (pa_cons (pe_lc (own := [("_law_circle", 4)]) (g := (gName 4)) (tt := tYes) rfl sc__law_root.nd (k_list (K := K) rfl (pi_list (pv 1))) (blkOk_by (own := [("_law_circle", 4)]) (N := n__law_root) (sc := defScope s__law_root) (by decide +kernel)) (fun _ _ _ _ _ => (pg_name (i := 4) sc__law_root.nd rfl (by first | exact Or.inl rfl | exact Or.inr rfl))) (fun _ _ _ _ _ => pts_nil) (fun _ _ _ _ _ => (pe_ix (ix_tupK (K := K) rfl) (pv 4) pe_int (fun _ _ => rfl)))) pa_nil)))))), ?_⟩
    refine q_listOf (er_var rfl p0) fun lf vs H1 e1 nf hf pf => ?_
    refine q_forB e1 (eib_range er_c (by decide) (by decide)) (fun i σ' H' => ∃ z1 z2 z3 z4 l' acc, σ' = [some v, some (.ref lf), z1, z2, z3, z4] ∧ H' lf = some (.lst acc) ∧ PL (l'.map (cir K)) acc H' ∧ RtI r (60 - i) l') (fun H2 e2 => ⟨none, none, none, none, l, vs, rfl, e2 _ _ hf, pf.mono e2, hok, ws, hd, hl⟩) (fun i a x σ' H2 H' ha e2 hz e3 pa N hN => ?_) (fun σ' H2 e2 hz => ?_)
    · obtain ⟨z1, z2, z3, z4, l1, acc, ez, hl1, hP, hok1, w1, hd1, hw1⟩ := hz
      subst ez
      have hl2 := e3 _ _ hl1
      have hP2 := hP.mono e3
      refine q_asg (P := ll ((cv l1).map pint)) (er_sizes (er_var rfl ⟨lf, acc, rfl, hl2, hP2⟩) hok1.len fun x => rfl) fun v4 H4 e4 p4 => ?_
      refine s_forB (H0 := H) ((e2.trans e3).trans e4) (eib_range er_c (by decide) (by decide)) (fun n σ' H' => ∃ vz z4 l' acc, σ' = [some v, some (.ref lf), some x, some vz, z3, z4] ∧ H' lf = some (.lst acc) ∧ PL (l'.map (cir K)) acc H' ∧ (ll ((cv l').map pint)).p vz H' ∧ Ok l' ∧ ∃ w, Dn (cv l') w r ∧ (w.length ≤ 60 - (i + 1) ∨ (w.length ≤ 60 - i ∧ ∀ k, gp (cv l') = some k → n ≤ k)))
        (fun H5 e5 => ⟨v4, z4, l1, acc, rfl, (e4.trans e5) _ _ hl2, hP2.mono (e4.trans e5), (ll ((cv l1).map pint)).mono e5 p4, hok1, w1, hd1, .inr ⟨hw1, fun k _ => Nat.zero_le k⟩⟩) (fun n b y σ' H5 H6 hb e5 hz e6 pb N2 hN2 => ?_) (fun σ' H5 e5 hz => ?_)
      · obtain ⟨vz, z4', l2, acc2, ez, hl5, hP5, pz, hok2, w2, hd2, hw2⟩ := hz
        have hn4 : n < 4 := by
          have := (List.getElem?_eq_some_iff.mp hb).1
          rw [List.length_range] at this
          exact this
        have eb : b = n := by
          have hb : (List.range 4)[n]? = some b := hb
          rw [List.getElem?_range hn4] at hb
          exact (Option.some.inj hb).symm
        have ey : y = .int (n : Int) := by rw [← eb]; exact pb
        subst ez ey
        have hl6 := e6 _ _ hl5
        have hP6 := hP5.mono e6
        have pz6 := (ll ((cv l2).map pint)).mono e6 pz
        have hc4 : (cv l2).length = 4 := by rw [cv_len]; exact hok2.len
        refine s_if (b := decide (2 * (cv l2).getD n 0 > (cv l2).sum)) ((et_t (er_I0 (er_I er_c (er_nth (er_var rfl pz6) (er_is rfl) rfl (by omega)) (.inl ⟨by decide, by decide⟩)) (er_sum (er_var rfl pz6)))).to rfl) (fun hb H7 e7 => ?_) (fun hb H7 e7 => ?_)
        · have hl7 := e7 _ _ hl6
          have hP7 := hP6.mono e7
          have hal : acc2.length = 4 := by rw [hP5.len, List.length_map]; exact hok2.len
          refine q_setL (P := cir K (oth l2 (l2.getD n c0))) hl7 (er_call (A := fun d : List Cir × Nat => [cirs K d.1, pint ((d.2 : Nat) : Int)]) (R := fun d => cir K (oth d.1 (d.1.getD d.2 c0))) (l2, n) (ea_cons (er_var rfl ⟨lf, acc2, rfl, hl7, hP7⟩) (ea_cons (er_is rfl) ea_nil)) ⟨hok2.len, hn4⟩) (er_is rfl) (er_is rfl) (by omega) fun v8 H8 e8 p8 => ?_
          have hl8 := e8 _ _ hl7
          have hP9 : PL ((exch l2 n).map (cir K)) (acc2.set n v8) (upd H8 lf (.lst (acc2.set n v8))) := by
            unfold exch
            rw [List.map_set]
            exact PL.set (solid_cir _ _ _ _ _ _ hl8 p8) n (solidL hl8 (solid_map _ solid_cir) (hP7.mono e8))
          have hs9 : Same H (upd H8 lf (.lst (acc2.set n v8))) := Same.mut (((e5.trans e6).trans e7).trans e8) nf
          refine s_asg (P := ll ((cv (exch l2 n)).map pint)) (er_sizes (er_var rfl ⟨lf, _, rfl, upd_same, hP9⟩) (hok2.exch hn4).len fun x => rfl) fun v10 H10 e10 p10 => ?_
          have eg := gp_at hok2.good hn4 (of_decide_eq_true hb)
          refine hN2 _ H10 (hs9.trans e10) ⟨v10, _, exch l2 n, _, rfl, e10 _ _ upd_same, hP9.mono e10, p10, hok2.exch hn4, ?_⟩
          cases hd2 with
          | root e' => rw [eg] at e'; cases e'
          | step e' d' =>
            rw [eg] at e'
            cases e'
            refine ⟨_, by rw [cv_exch]; exact d', .inl ?_⟩
            rw [List.length_cons] at hw2
            omega
        · refine hN2 _ H7 ((e5.trans e6).trans e7) ⟨vz, _, l2, acc2, rfl, e7 _ _ hl6, hP6.mono e7, (ll ((cv l2).map pint)).mono e7 pz6, hok2, w2, hd2, ?_⟩
          rcases hw2 with h | ⟨h1, h2⟩
          · exact .inl h
          · refine .inr ⟨h1, fun k hk => ?_⟩
            have h3 := h2 k hk
            have h4 := of_decide_eq_false hb
            rcases Nat.lt_or_eq_of_le h3 with h5 | h5
            · exact h5
            · exact absurd (gp_lt hok2.good hk).2 (by rw [← h5]; exact h4)
      · obtain ⟨vz, z4', l2, acc2, ez, hl5, hP5, pz, hok2, w2, hd2, hw2⟩ := hz
        subst ez
        refine hN _ H5 e5 ⟨_, _, _, _, l2, acc2, rfl, hl5, hP5, hok2, w2, hd2, ?_⟩
        rcases hw2 with h | ⟨h1, h2⟩
        · exact h
        · cases hg : gp (cv l2) with
          | none =>
            rw [(hd2.nil_of hg).1]
            exact Nat.zero_le _
          | some k =>
            have h3 : 4 ≤ k := h2 k hg
            have h4 := (gp_lt hok2.good hg).1
            omega
    · obtain ⟨z1, z2, z3, z4, l2, acc, ez, hl1, hP, hok1, w1, hd1, hw1⟩ := hz
      subst ez
      have hw0 : w1.length ≤ 60 - 60 := hw1
      have hw : w1 = [] := List.length_eq_zero_iff.mp (by omega)
      subst hw
      have ec := hd1.of_nil
      refine s_ret (P := ll ((srt r).map pint)) ((er_sorted (er_sizes (er_var rfl ⟨lf, acc, rfl, hl1, hP⟩) hok1.len fun x => rfl) (by rw [cv_len, hok1.len]; decide)).to (by rw [ec])) fun v5 H5 e5 p5 => k v5 H5 (e2.trans e5) p5
/-! ### _law_changed -/
def digP (w : List Nat) : Pd := ll ((w.map dg).map pstr)
def partsP (b : Bool) (w1 w2 : List Nat) : Pd := ll [pstr (vWord b), digP w1, digP w2]
def Wd (w : List Nat) : Prop := W4 w ∧ w.length ≤ 1000
def chP : Pd := ⟨fun v H => ∃ b w1 w2, (Wd w1 ∧ Wd w2) ∧ (partsP b w1 w2).p v H, fun e ⟨b, w1, w2, h1, h2⟩ => ⟨b, w1, w2, h1, (partsP b w1 w2).mono e h2⟩⟩
structure Fg where
  ns : List Int
  b : Bool
  w1 : List Nat
  w2 : List Nat
theorem g_unl3 {v : V} {H : Hp} {i j m : Nat} {P1 P2 P3 : Pd} {σ : L2.St} {Q : L2.St → Hp → Prop} (p : (ll [P1, P2, P3]).p v H) (h : ∀ x y z, P1.p x H → P2.p y H → P3.p z H → Q (((σ.set i (some x)).set j (some y)).set m (some z)) H) :
    gUnl K 3 (gCons (gName i) (gCons (gName j) (gCons (gName m) gNil))) v σ H Q := by
  obtain ⟨a, xs, e0, h2, h3⟩ := p
  obtain ⟨x1, x2, x3, e1, p1, p2, p3⟩ := pl3 h3
  subst e1 e0
  exact ⟨a, _, rfl, .inl (.inl h2), rfl, _, _, rfl, _, _, rfl, _, _, rfl, rfl, h _ _ _ p1 p2 p3⟩
theorem W4.of {w w' : List Nat} (h : W4 w) (e : ∀ k ∈ w', k ∈ w) : W4 w' := fun k hk => h k (e k hk)
theorem W4.app {w w' : List Nat} (h : W4 w) (h' : W4 w') : W4 (w ++ w') := fun k hk => by
  rcases List.mem_append.mp hk with e | e
  · exact h k e
  · exact h' k e
section
variable {σ : L2.St} {H : Hp} {ta tb te : TE}
theorem er_digTo {w : List Nat} {i : Int} {j : Nat} (h : Er ta σ H (digP w)) (hb : Er tb σ H (pint i)) (hi : i = (j : Int)) : Er (tSl (rSlL K) ta tNoPart (tPart tb)) σ H (digP (w.take j)) := (er_slL h eo_none (eo_some hb)).to (by subst hi; rw [cutP_to]; unfold digP; rw [List.map_take, List.map_take])
theorem er_digFrom {w : List Nat} {i : Int} {j : Nat} (h : Er ta σ H (digP w)) (hb : Er tb σ H (pint i)) (hi : i = (j : Int)) : Er (tSl (rSlL K) ta (tPart tb) tNoPart) σ H (digP (w.drop j)) := (er_slL h (eo_some hb) eo_none).to (by subst hi; rw [cutP_from]; unfold digP; rw [List.map_drop, List.map_drop])
theorem er_digCat {w1 w2 : List Nat} (h1 : Er ta σ H (digP w1)) (h2 : Er tb σ H (digP w2)) (hl : w1.length + w2.length ≤ 100000) : Er (tOp rCat ta tb) σ H (digP (w1 ++ w2)) := (er_cat h1 h2 (by rw [List.length_map, List.length_map, List.length_map, List.length_map]; exact hl)).to (by unfold digP; rw [List.map_append, List.map_append])
theorem er_dig1 {k : Nat} (h : Er te σ H (pstr (dg k))) : Er (tLst (tCons te tNil)) σ H (digP [k]) := er_lst (Ps := [pstr (dg k)]) (ea_cons h ea_nil) (by show 1 ≤ 100000; decide)
theorem er_dig0 : Er (tLst tNil) σ H (digP []) := er_lst (Ps := []) ea_nil (by decide)
theorem er_digLen {w : List Nat} (h : Er te σ H (digP w)) : Er (tCB (fun xs H Q => ∃ p ys, xs = [.ref p] ∧ (SqL K H p ys ∨ SqT K H p ys) ∧ Q (.int ys.length) H) (tCons te tNil)) σ H (pint (w.length : Int)) := (er_lenL h).to (by rw [List.length_map, List.length_map])
theorem er_chg {t1 t2 t3 : TE} {b : Bool} {w1 w2 : List Nat} (h1 : Er t1 σ H (pstr (vWord b))) (h2 : Er t2 σ H (digP w1)) (h3 : Er t3 σ H (digP w2)) (g1 : Wd w1) (g2 : Wd w2) : Er (tLst (tCons t1 (tCons t2 (tCons t3 tNil)))) σ H chP :=
  (er_lst (Ps := [pstr (vWord b), digP w1, digP w2]) (ea_cons h1 (ea_cons h2 (ea_cons h3 ea_nil))) (by show 3 ≤ 100000; decide)).imp fun v H' _ p => ⟨b, w1, w2, ⟨g1, g2⟩, p⟩
end
def spChanged : Sp := Spf (fun d : Fg => [ll (d.ns.map pint), partsP d.b d.w1 d.w2]) (fun d => d.ns.length = 50 ∧ (W4 d.w1 ∧ d.w1.length ≤ 500) ∧ (W4 d.w2 ∧ d.w2.length ≤ 500)) (fun _ => chP)
theorem c__law_changed (F : Df K mg "_law_changed" s__law_changed ["_law_numbers_here", "_law_parts"]) (T : Tx K mg) : C8.Cal P w K mg base 1 "_law_changed" spChanged [] :=
  F.cal sc__law_changed (fun _ => rfl) fun f cdv An outer s H vs Q E d hr hp hv k => by
    obtain ⟨ns, b, w1, w2⟩ := d
    obtain ⟨v, u, e0, p0, p1⟩ := pl2 hv
    subst e0
    obtain ⟨hns, ⟨h41, hl1⟩, ⟨h42, hl2⟩⟩ := hp
    dsimp only at hns h41 hl1 h42 hl2 p0 p1
    have wd1 : Wd w1 := ⟨h41, by omega⟩
    have wd2 : Wd w2 := ⟨h42, by omega⟩
    refine ⟨_, (pss_cons (ps_asg (pv 1) (k_gunl (K := K) rfl (pg_unl (by rfl) (pgs_cons (pg_name (i := 2) sc__law_changed.nd rfl (by first | exact Or.inl rfl | exact Or.inr rfl)) (pgs_cons (pg_name (i := 3) sc__law_changed.nd rfl (by first | exact Or.inl rfl | exact Or.inr rfl)) (pgs_cons (pg_name (i := 4) sc__law_changed.nd rfl (by first | exact Or.inl rfl | exact Or.inr rfl)) pgs_nil))))))
    (pss_cons (ps_set (i := 5) sc__law_changed.nd rfl (by first | exact Or.inl rfl | exact Or.inr rfl) (pe_op op_mod (pe_callTy call_int1 (by rfl) T.int (by decide +kernel) (pa_cons (pe_ix (ix_listK (K := K) rfl) (pv 0) pe_int (fun _ _ => rfl)) pa_nil)) pe_int))
    (pss_cons (ps_set (i := 6) sc__law_changed.nd rfl (by first | exact Or.inl rfl | exact Or.inr rfl) (pe_callTy call_str_int (by rfl) T.str (by decide +kernel) (pa_cons (pe_op op_add pe_int (pe_op op_mod (pe_callTy call_int1 (by rfl) T.int (by decide +kernel) (pa_cons (pe_ix (ix_listK (K := K) rfl) (pv 0) pe_int (fun _ _ => rfl)) pa_nil)) pe_int)) pa_nil)))
    (pss_cons (ps_set (i := 7) sc__law_changed.nd rfl (by first | exact Or.inl rfl | exact Or.inr rfl) (pe_op op_mod (pe_callTy call_int1 (by rfl) T.int (by decide +kernel) (pa_cons (pe_ix (ix_listK (K := K) rfl) (pv 0) pe_int (fun _ _ => rfl)) pa_nil)) (pe_op op_add (pe_callB (call_lenK (K := K) rfl) (by rfl) T.len (by decide +kernel) (pa_cons (pv 3) pa_nil)) pe_int)))
    (pss_cons (ps_if (pt_cmpR op_eq (pv 5) pe_int (nomark _)) (pss_one (ps_ret (pe_lst (pa_cons (pe_ix (ix_listK (K := K) rfl) (pe_lst (pa_cons pe_str (pa_cons pe_str pa_nil))) (pe_op op_mod (pe_callTy call_int1 (by rfl) T.int (by decide +kernel) (pa_cons (pe_ix (ix_listK (K := K) rfl) (pv 0) pe_int (fun _ _ => rfl)) pa_nil)) pe_int) (fun _ _ => rfl)) (pa_cons (pv 3) (pa_cons (pv 4) pa_nil)))))) pss_nil)
    (pss_cons (ps_if (pt_cmpR op_eq (pv 5) pe_int (nomark _)) (pss_one (ps_ret (pe_lst (pa_cons (pv 2) (pa_cons (pe_op op_cat (pe_op op_cat (pe_slice (sl_listK (K := K) rfl) (pv 3) po_none (po_some (pv 7))) (pe_lst (pa_cons (pv 6) pa_nil))) (pe_slice (sl_listK (K := K) rfl) (pv 3) (po_some (pv 7)) po_none)) (pa_cons (pv 4) pa_nil)))))) pss_nil)
    (pss_cons (ps_if (pt_cmpR op_eq (pv 5) pe_int (nomark _)) (pss_one (ps_ret (pe_lst (pa_cons (pv 2) (pa_cons (pv 3) (pa_cons (pe_op op_cat (pv 4) (pe_lst (pa_cons (pv 6) pa_nil))) pa_nil)))))) pss_nil)
    (pss_cons (ps_if (pt_cmpR op_eq (pv 5) pe_int (nomark _)) (pss_one (ps_ret (pe_lst (pa_cons (pv 2) (pa_cons (pe_op op_cat (pe_slice (sl_listK (K := K) rfl) (pv 3) po_none (po_some (pv 7))) (pe_slice (sl_listK (K := K) rfl) (pv 3) (po_some (pe_op op_add (pv 7) pe_int)) po_none)) (pa_cons (pv 4) pa_nil)))))) pss_nil)
    (pss_cons (ps_if (pt_cmpR op_eq (pv 5) pe_int (nomark _)) (pss_one (ps_ret (pe_lst (pa_cons (pv 2) (pa_cons (pv 3) (pa_cons (pe_slice (sl_listK (K := K) rfl) (pv 4) po_none (po_some (pe_op op_sub (pe_callB (call_lenK (K := K) rfl) (by rfl) T.len (by decide +kernel) (pa_cons (pv 4) pa_nil)) pe_int))) pa_nil)))))) pss_nil)
    (pss_cons (ps_if (pt_cmpR op_eq (pv 5) pe_int (nomark _)) (pss_one (ps_ret (pe_lst (pa_cons (pv 2) (pa_cons (pv 4) (pa_cons (pv 3) pa_nil)))))) pss_nil)
    (pss_cons (ps_if (pt_cmpR op_eq (pv 5) pe_int (nomark _)) (pss_one (ps_ret (pe_lst (pa_cons (pe_ix (ix_listK (K := K) rfl) (pe_lst (pa_cons pe_str (pa_cons pe_str pa_nil))) (pe_op op_mod (pe_callTy call_int1 (by rfl) T.int (by decide +kernel) (pa_cons (pe_ix (ix_listK (K := K) rfl) (pv 0) pe_int (fun _ _ => rfl)) pa_nil)) pe_int) (fun _ _ => rfl)) (pa_cons (pe_lst pa_nil) (pa_cons (pe_lst pa_nil) pa_nil)))))) pss_nil)
    (pss_one (ps_ret (pe_lst (pa_cons (pv 2) (pa_cons (pe_op op_rep (pe_lst (pa_cons (pv 6) pa_nil)) (pe_op op_mod (pe_callTy call_int1 (by rfl) T.int (by decide +kernel) (pa_cons (pe_ix (ix_listK (K := K) rfl) (pv 0) pe_int (fun _ _ => rfl)) pa_nil)) pe_int)) (pa_cons (pv 4) pa_nil))))))))))))))))), ?_⟩
    refine q_asgG (er_var rfl p1) fun v0 H1 e1 q1 => g_unl3 q1 fun x y z px py pz => ?_
    have ex : x = .str (vWord b) := px
    subst ex
    have pn1 := (ll (ns.map pint)).mono e1 p0
    refine q_asg (P := pint (ns.getD 41 0 % 8)) (er_I (er_intI (er_nth (i := 41) (er_var rfl pn1) er_c rfl (by omega))) er_c (by show (0 : Int) < 8; decide)) fun v2 H2 e2 p2 => ?_
    have ev2 : v2 = V.int (ns.getD 41 0 % 8) := p2
    subst ev2
    have m0 := Int.emod_nonneg (ns.getD 42 0) (show (4 : Int) ≠ 0 by decide)
    have m1 := Int.emod_lt_of_pos (ns.getD 42 0) (show (0 : Int) < 4 by decide)
    obtain ⟨c, hc, hc4⟩ : ∃ c : Nat, ns.getD 42 0 % 4 = (c : Int) ∧ c < 4 := ⟨(ns.getD 42 0 % 4).toNat, by omega, by omega⟩
    have pn2 := (ll (ns.map pint)).mono e2 pn1
    refine q_asg (P := pstr (dg c)) ((er_strI (er_I0 er_c (er_I (er_intI (er_nth (i := 42) (er_var rfl pn2) er_c rfl (by omega))) er_c (by show (0 : Int) < 4; decide))) (by
      rw [hc]
      exact Nat.lt_of_le_of_lt (Nat.log2_le_self _) (by omega))).to (by
      unfold dg
      rw [hc, show (1 : Int) + (c : Int) = ((c + 1 : Nat) : Int) by omega])) fun v3 H3 e3 p3 => ?_
    have ev3 : v3 = V.str (dg c) := p3
    subst ev3
    have pn3 := (ll (ns.map pint)).mono e3 pn2
    have d1 := (digP w1).mono (e2.trans e3) py
    have d2 := (digP w2).mono (e2.trans e3) pz
    have hm0 := Int.emod_nonneg (ns.getD 43 0) (show (w1.length : Int) + 1 ≠ 0 by omega)
    have hm1 := Int.emod_lt_of_pos (ns.getD 43 0) (show 0 < (w1.length : Int) + 1 by omega)
    refine q_asg (P := pint (ns.getD 43 0 % ((w1.length : Int) + 1))) (er_I (er_intI (er_nth (i := 43) (er_var rfl pn3) er_c rfl (by omega))) (er_I0 (er_digLen (er_var rfl d1)) er_c) (by show (0 : Int) < _; omega)) fun v4 H4 e4 p4 => ?_
    obtain ⟨j, hj, hjl⟩ : ∃ j : Nat, ns.getD 43 0 % ((w1.length : Int) + 1) = (j : Int) ∧ j ≤ w1.length := ⟨(ns.getD 43 0 % ((w1.length : Int) + 1)).toNat, by omega, by omega⟩
    have ev4 : v4 = V.int (j : Int) := by rw [← hj]; exact p4
    subst ev4
    have k4 : ∀ v5 H5, Same H4 H5 → chP.p v5 H5 → Q v5 H5 := fun v5 H5 e5 p5 => k v5 H5 ((((e1.trans e2).trans e3).trans e4).trans e5) p5
    have wC : W4 [c] := fun i hi => by rw [List.mem_singleton.mp hi]; exact hc4
    have a0 := (ll (ns.map pint)).mono e4 pn3
    have a1 := (digP w1).mono e4 d1
    have a2 := (digP w2).mono e4 d2
    have wo0 := Int.emod_nonneg (ns.getD 42 0) (show (2 : Int) ≠ 0 by decide)
    have wo1 := Int.emod_lt_of_pos (ns.getD 42 0) (show (0 : Int) < 2 by decide)
    have wo : ([pstr sAlike, pstr sUnlike] : List Pd)[(ns.getD 42 0 % 2).toNat]? = some (pstr (vWord (decide (ns.getD 42 0 % 2 = 0)))) := by
      rcases (show ns.getD 42 0 % 2 = 0 ∨ ns.getD 42 0 % 2 = 1 by omega) with e | e <;> (rw [e]; rfl)
    have tk : Wd (w1.take j) := ⟨h41.of fun k hk => List.mem_of_mem_take hk, by rw [List.length_take]; omega⟩
    have dk : ∀ i, Wd (w1.drop i) := fun i => ⟨h41.of fun k hk => List.mem_of_mem_drop hk, by rw [List.length_drop]; omega⟩
    refine q_ifR (b := decide (ns.getD 41 0 % 8 = 0)) ((et_t (er_eq (er_is rfl) er_c rfl)).to dI) (fun hb H5 e5 => s_ret (er_chg (er_ixL (er_lst (ea_cons er_c (ea_cons er_c ea_nil)) (by show 2 ≤ 100000; decide)) (er_I (er_intI (er_nth (i := 42) (er_var rfl ((ll (ns.map pint)).mono e5 a0)) er_c rfl (by omega))) er_c (by show (0 : Int) < 2; decide)) (at_ofP (j := (ns.getD 42 0 % 2).toNat) (by omega) wo)) (er_var rfl ((digP w1).mono e5 a1)) (er_var rfl ((digP w2).mono e5 a2)) wd1 wd2) fun v6 H6 e6 p6 => k4 v6 H6 (e5.trans e6) p6) fun hb0 H5 e5 => ?_
    have a1 := (digP w1).mono e5 a1
    have a2 := (digP w2).mono e5 a2
    have a0 := (ll (ns.map pint)).mono e5 a0
    refine q_ifR (b := decide (ns.getD 41 0 % 8 = 1)) ((et_t (er_eq (er_is rfl) er_c rfl)).to dI) (fun hb H6 e6 => s_ret (er_chg (er_is rfl) (er_digCat (er_digCat (er_digTo (er_var rfl ((digP w1).mono e6 a1)) (er_is rfl) rfl) (er_dig1 (er_is rfl)) (by rw [List.length_take]; show _ + 1 ≤ _; omega)) (er_digFrom (er_var rfl ((digP w1).mono e6 a1)) (er_is rfl) rfl) (by rw [List.length_append, List.length_take, List.length_drop]; show _ + 1 + _ ≤ _; omega)) (er_var rfl ((digP w2).mono e6 a2)) ⟨(tk.1.app wC).app (dk j).1, by rw [List.length_append, List.length_append, List.length_take, List.length_drop]; show _ + 1 + _ ≤ _; omega⟩ wd2) fun v7 H7 e7 p7 => k4 v7 H7 ((e5.trans e6).trans e7) p7) fun hb1 H6 e6 => ?_
    have a1 := (digP w1).mono e6 a1
    have a2 := (digP w2).mono e6 a2
    have a0 := (ll (ns.map pint)).mono e6 a0
    have e56 := e5.trans e6
    refine q_ifR (b := decide (ns.getD 41 0 % 8 = 2)) ((et_t (er_eq (er_is rfl) er_c rfl)).to dI) (fun hb H7 e7 => s_ret (er_chg (er_is rfl) (er_var rfl ((digP w1).mono e7 a1)) (er_digCat (er_var rfl ((digP w2).mono e7 a2)) (er_dig1 (er_is rfl)) (by show _ + 1 ≤ _; omega)) wd1 ⟨h42.app wC, by rw [List.length_append]; show _ + 1 ≤ _; omega⟩) fun v8 H8 e8 p8 => k4 v8 H8 ((e56.trans e7).trans e8) p8) fun hb2 H7 e7 => ?_
    have a1 := (digP w1).mono e7 a1
    have a2 := (digP w2).mono e7 a2
    have a0 := (ll (ns.map pint)).mono e7 a0
    have e57 := e56.trans e7
    refine q_ifR (b := decide (ns.getD 41 0 % 8 = 3)) ((et_t (er_eq (er_is rfl) er_c rfl)).to dI) (fun hb H8 e8 => s_ret (er_chg (er_is rfl) (er_digCat (er_digTo (er_var rfl ((digP w1).mono e8 a1)) (er_is rfl) rfl) (er_digFrom (j := j + 1) (er_var rfl ((digP w1).mono e8 a1)) (er_I0 (er_is rfl) er_c) (by show (j : Int) + 1 = _; omega)) (by rw [List.length_take, List.length_drop]; omega)) (er_var rfl ((digP w2).mono e8 a2)) ⟨tk.1.app (dk (j + 1)).1, by rw [List.length_append, List.length_take, List.length_drop]; omega⟩ wd2) fun v9 H9 e9 p9 => k4 v9 H9 ((e57.trans e8).trans e9) p9) fun hb3 H8 e8 => ?_
    have a1 := (digP w1).mono e8 a1
    have a2 := (digP w2).mono e8 a2
    have a0 := (ll (ns.map pint)).mono e8 a0
    have e58 := e57.trans e8
    refine q_ifR (b := decide (ns.getD 41 0 % 8 = 4)) ((et_t (er_eq (er_is rfl) er_c rfl)).to dI) (fun hb H9 e9 => s_ret (er_chg (er_is rfl) (er_var rfl ((digP w1).mono e9 a1)) ((er_slL (er_var rfl ((digP w2).mono e9 a2)) eo_none (eo_some (er_I0 (er_digLen (er_var rfl ((digP w2).mono e9 a2))) er_c))).to (P1 := digP w2.dropLast) (by rw [cutP_neg _ _ (by rw [List.length_map, List.length_map])]; unfold digP; rw [List.map_dropLast, List.map_dropLast])) wd1 ⟨h42.of fun k hk => (List.dropLast_sublist w2).subset hk, by rw [List.length_dropLast]; omega⟩) fun v10 H10 e10 p10 => k4 v10 H10 ((e58.trans e9).trans e10) p10) fun hb4 H9 e9 => ?_
    have a1 := (digP w1).mono e9 a1
    have a2 := (digP w2).mono e9 a2
    have a0 := (ll (ns.map pint)).mono e9 a0
    have e59 := e58.trans e9
    refine q_ifR (b := decide (ns.getD 41 0 % 8 = 5)) ((et_t (er_eq (er_is rfl) er_c rfl)).to dI) (fun hb H10 e10 => s_ret (er_chg (er_is rfl) (er_var rfl ((digP w2).mono e10 a2)) (er_var rfl ((digP w1).mono e10 a1)) wd2 wd1) fun v11 H11 e11 p11 => k4 v11 H11 ((e59.trans e10).trans e11) p11) fun hb5 H10 e10 => ?_
    have a1 := (digP w1).mono e10 a1
    have a2 := (digP w2).mono e10 a2
    have a0 := (ll (ns.map pint)).mono e10 a0
    have e60 := e59.trans e10
    have wd0 : Wd [] := ⟨fun _ h => (nomatch h), Nat.zero_le _⟩
    refine q_ifR (b := decide (ns.getD 41 0 % 8 = 6)) ((et_t (er_eq (er_is rfl) er_c rfl)).to dI) (fun hb H11 e11 => s_ret (er_chg (er_ixL (er_lst (ea_cons er_c (ea_cons er_c ea_nil)) (by show 2 ≤ 100000; decide)) (er_I (er_intI (er_nth (i := 42) (er_var rfl ((ll (ns.map pint)).mono e11 a0)) er_c rfl (by omega))) er_c (by show (0 : Int) < 2; decide)) (at_ofP (j := (ns.getD 42 0 % 2).toNat) (by omega) wo)) er_dig0 er_dig0 wd0 wd0) fun v12 H12 e12 p12 => k4 v12 H12 ((e60.trans e11).trans e12) p12) fun hb6 H11 e11 => ?_
    have a1 := (digP w1).mono e11 a1
    have a2 := (digP w2).mono e11 a2
    have a0 := (ll (ns.map pint)).mono e11 a0
    have e61 := e60.trans e11
    have r0 := Int.emod_nonneg (ns.getD 43 0) (show (4 : Int) ≠ 0 by decide)
    have r1 := Int.emod_lt_of_pos (ns.getD 43 0) (show (0 : Int) < 4 by decide)
    exact s_ret (er_chg (er_is rfl) ((er_rep1 (P := pstr (dg c)) (er_lst (ea_cons (er_is rfl) ea_nil) (by show 1 ≤ 100000; decide)) (er_I (er_intI (er_nth (i := 43) (er_var rfl a0) er_c rfl (by omega))) er_c (by show (0 : Int) < 4; decide)) r0 (by omega)).to (P1 := digP (List.replicate (ns.getD 43 0 % 4).toNat c)) (by unfold digP; rw [List.map_replicate, List.map_replicate])) (er_var rfl a2) ⟨fun i hi => by rw [List.eq_of_mem_replicate hi]; exact hc4, by rw [List.length_replicate]; omega⟩ wd2) fun v12 H12 e12 p12 => k4 v12 H12 (e61.trans e12) p12
end
end Ft
set_option maxHeartbeats 4000000
/-! the plain law: what the fours are, and why the word is theirs -/
namespace Ft
/-! ### the given fours -/
theorem givG_gram (n : Int) (h : 0 ≤ n) : Ok (givG n) := by
  have hq : 0 ≤ n * n := Int.mul_nonneg h h
  refine ⟨_, _, _, _, rfl, ?_, ?_, ?_, ?_, ?_, ?_, ?_, ?_, ?_, ?_, ?_⟩
  all_goals first
    | (unfold isC; grind)
    | (unfold dbl; grind)
    | skip
  show 0 - n + (n + 1) + n * (n + 1) + (n * (n + 1) + 1) > 0
  have e : n * (n + 1) = n * n + n := by grind
  rw [e]
  omega
theorem Giv.ok {l : List Cir} (h : Giv l) : Ok l := by
  rcases h with e | e | e | ⟨n, hn, e⟩
  · subst e
    refine ⟨_, _, _, _, rfl, ?_, ?_, ?_, ?_, ?_, ?_, ?_, ?_, ?_, ?_, ?_⟩ <;> (first | (unfold isC; decide) | (unfold dbl; decide) | decide)
  · subst e
    refine ⟨_, _, _, _, rfl, ?_, ?_, ?_, ?_, ?_, ?_, ?_, ?_, ?_, ?_, ?_⟩ <;> (first | (unfold isC; decide) | (unfold dbl; decide) | decide)
  · subst e
    refine ⟨_, _, _, _, rfl, ?_, ?_, ?_, ?_, ?_, ?_, ?_, ?_, ?_, ?_, ?_⟩ <;> (first | (unfold isC; decide) | (unfold dbl; decide) | decide)
  · subst e
    exact givG_gram n hn.1
theorem Giv.root {l : List Cir} (h : Giv l) : gp (cv l) = none := by
  rcases h with e | e | e | ⟨n, hn, e⟩
  · subst e; rfl
  · subst e; rfl
  · subst e; rfl
  · subst e
    show gp [0 - n, n + 1, n * (n + 1), n * (n + 1) + 1] = none
    have e : n * (n + 1) = n * n + n := by grind
    have hq : 0 ≤ n * n := Int.mul_nonneg hn.1 hn.1
    rw [gp_none, e]
    omega
theorem Giv.bds {l : List Cir} (h : Giv l) : Bds 11 l := by
  have bd : ∀ q : Cir, -2000 ≤ q.b ∧ q.b ≤ 2000 → -2000 ≤ q.c ∧ q.c ≤ 2000 → -2000 ≤ q.x ∧ q.x ≤ 2000 → -2000 ≤ q.y ∧ q.y ≤ 2000 → Bd 11 q := fun q h1 h2 h3 h4 => by
    refine ⟨?_, ?_, ?_, ?_⟩ <;> (show _ < 2048; omega)
  have four : ∀ p q r s : Cir, Bd 11 p → Bd 11 q → Bd 11 r → Bd 11 s → Bds 11 [p, q, r, s] := fun p q r s h1 h2 h3 h4 t ht => by
    simp only [List.mem_cons, List.not_mem_nil, or_false] at ht
    rcases ht with e | e | e | e <;> (rw [e]; assumption)
  rcases h with e | e | e | ⟨n, hn, e⟩
  · subst e
    exact four _ _ _ _ (bd _ (by decide) (by decide) (by decide) (by decide)) (bd _ (by decide) (by decide) (by decide) (by decide)) (bd _ (by decide) (by decide) (by decide) (by decide)) (bd _ (by decide) (by decide) (by decide) (by decide))
  · subst e
    exact four _ _ _ _ (bd _ (by decide) (by decide) (by decide) (by decide)) (bd _ (by decide) (by decide) (by decide) (by decide)) (bd _ (by decide) (by decide) (by decide) (by decide)) (bd _ (by decide) (by decide) (by decide) (by decide))
  · subst e
    exact four _ _ _ _ (bd _ (by decide) (by decide) (by decide) (by decide)) (bd _ (by decide) (by decide) (by decide) (by decide)) (bd _ (by decide) (by decide) (by decide) (by decide)) (bd _ (by decide) (by decide) (by decide) (by decide))
  · subst e
    obtain ⟨h0, h1⟩ := hn
    have hq : 0 ≤ n * n := Int.mul_nonneg h0 h0
    have hq2 : n * n ≤ 1600 := by
      have := Int.mul_le_mul h1 h1 h0 (by decide)
      omega
    have e : n * (n + 1) = n * n + n := by grind
    unfold givG
    rw [e]
    refine four _ _ _ _ (bd _ ?_ ?_ ?_ ?_) (bd _ ?_ ?_ ?_ ?_) (bd _ ?_ ?_ ?_ ?_) (bd _ ?_ ?_ ?_ ?_)
    all_goals (dsimp only; omega)
/-! ### laid otherwise -/
structure Lay (f : Cir → Cir) (k : Nat) : Prop where
  b : ∀ q, (f q).b = q.b
  c : ∀ q, isC q → isC (f q)
  d : ∀ p q, dbl (f p) (f q) = dbl p q
  n : ∀ n q, Bd n q → Bd (n + k) (f q)
theorem Lay.id : Lay (fun q => q) 0 := ⟨fun _ => rfl, fun _ h => h, fun _ _ => rfl, fun _ _ h => h⟩
theorem Lay.comp {f g : Cir → Cir} {j k : Nat} (h : Lay f j) (h' : Lay g k) : Lay (fun q => f (g q)) (k + j) := ⟨fun q => (h.b _).trans (h'.b q), fun q hq => h.c _ (h'.c q hq), fun p q => (h.d _ _).trans (h'.d p q), fun n q hq => by
  rw [← Nat.add_assoc]
  exact h.n _ _ (h'.n _ _ hq)⟩
theorem Lay.rot : Lay rotC 0 := ⟨fun _ => rfl, fun q h => by unfold isC rotC at *; grind, fun p q => by unfold dbl rotC; grind, fun n q ⟨h1, h2, h3, h4⟩ => ⟨h1, h2, by show (0 - q.y).natAbs < _; rw [show 0 - q.y = -q.y by omega, Int.natAbs_neg]; exact h4, h3⟩⟩
theorem Lay.mir : Lay mirC 0 := ⟨fun _ => rfl, fun q h => by unfold isC mirC at *; grind, fun p q => by unfold dbl mirC; grind, fun n q ⟨h1, h2, h3, h4⟩ => ⟨h1, h2, by show (0 - q.x).natAbs < _; rw [show 0 - q.x = -q.x by omega, Int.natAbs_neg]; exact h3, h4⟩⟩
theorem Lay.rotN : ∀ n : Nat, Lay (Ft.rotN n) 0
  | 0 => Lay.id
  | n + 1 => Lay.rot.comp (Lay.rotN n)
theorem abs_mul_lt {a b : Int} {M k : Nat} (h : a.natAbs < M) (hb : b.natAbs ≤ k) : (a * b).natAbs ≤ M * k := by
  rw [Int.natAbs_mul]
  exact Nat.mul_le_mul (Nat.le_of_lt h) hb
theorem Lay.mov {s t : Int} (hs : sm s) (ht : sm t) : Lay (fun q => Ft.mov q s t) 21 := ⟨fun _ => rfl, fun q h => by unfold isC Ft.mov at *; grind, fun p q => by unfold dbl Ft.mov; grind, fun n q ⟨h1, h2, h3, h4⟩ => by
  have qs := sm_sq hs
  have qt := sm_sq ht
  obtain ⟨s1, s2⟩ := hs
  obtain ⟨t1, t2⟩ := ht
  have M : 2 ^ (n + 21) = 2 ^ n * 2097152 := Nat.pow_add 2 n 21
  have a1 := abs_mul_lt (k := 1009) h3 (show s.natAbs ≤ 1009 by omega)
  have a2 := abs_mul_lt (k := 1009) h4 (show t.natAbs ≤ 1009 by omega)
  have a3 := abs_mul_lt (k := 2036162) h1 (show (s * s + t * t).natAbs ≤ 2036162 by omega)
  have a4 := abs_mul_lt (k := 1009) h1 (show s.natAbs ≤ 1009 by omega)
  have a5 := abs_mul_lt (k := 1009) h1 (show t.natAbs ≤ 1009 by omega)
  unfold Bd
  rw [M]
  generalize 2 ^ n = N at *
  refine ⟨?_, ?_, ?_, ?_⟩
  · show q.b.natAbs < _
    omega
  · show (q.c + 2 * (q.x * s + q.y * t) + q.b * (s * s + t * t)).natAbs < _
    generalize q.x * s = z1 at *
    generalize q.y * t = z2 at *
    generalize q.b * (s * s + t * t) = z3 at *
    clear a4 a5
    have b1 := Int.natAbs_add_le (q.c + 2 * (z1 + z2)) z3
    have b2 := Int.natAbs_add_le q.c (2 * (z1 + z2))
    have b3 := Int.natAbs_add_le z1 z2
    have b4 : (2 * (z1 + z2)).natAbs = 2 * (z1 + z2).natAbs := Int.natAbs_mul 2 _
    clear qs qt
    generalize (z1 + z2).natAbs = y at *
    generalize (2 * (z1 + z2)).natAbs = y2 at *
    generalize (q.c + 2 * (z1 + z2)).natAbs = y3 at *
    generalize (q.c + 2 * (z1 + z2) + z3).natAbs = y4 at *
    generalize q.c.natAbs = y5 at *
    generalize z3.natAbs = y6 at *
    generalize z1.natAbs = y7 at *
    generalize z2.natAbs = y8 at *
    clear h1 h3 h4 s1 s2 t1 t2 M
    omega
  · show (q.x + q.b * s).natAbs < _
    have b1 := Int.natAbs_add_le q.x (q.b * s)
    generalize (q.x + q.b * s).natAbs = y at *
    generalize (q.b * s).natAbs = y2 at *
    omega
  · show (q.y + q.b * t).natAbs < _
    have b1 := Int.natAbs_add_le q.y (q.b * t)
    generalize (q.y + q.b * t).natAbs = y at *
    generalize (q.b * t).natAbs = y2 at *
    omega⟩
theorem Lay.turned (a : Int) : Lay (Ft.turned a) 0 := by
  by_cases h : decide (a / 4 % 2 = 1) = true
  · have e : Ft.turned a = fun q => mirC (Ft.rotN (a % 4).toNat q) := funext fun q => by unfold Ft.turned; rw [if_pos h]
    rw [e]
    exact Lay.mir.comp (Lay.rotN _)
  · have e : Ft.turned a = fun q => Ft.rotN (a % 4).toNat q := funext fun q => by unfold Ft.turned; rw [if_neg h]
    rw [e]
    exact Lay.rotN _
theorem Lay.laid (ns : List Int) (i : Nat) : Lay (laidN ns i) 21 := (Lay.mov (step_sm _ _) (step_sm _ _)).comp (Lay.turned _)
theorem Lay.ok {f : Cir → Cir} {k : Nat} (h : Lay f k) {l : List Cir} (g : Ok l) : Ok (l.map f) := by
  obtain ⟨p, q, r, s, rfl, g⟩ := g
  exact ⟨f p, f q, f r, f s, rfl, h.c _ g.p1, h.c _ g.q1, h.c _ g.r1, h.c _ g.s1, (h.d _ _).trans g.pq, (h.d _ _).trans g.pr, (h.d _ _).trans g.ps, (h.d _ _).trans g.qr, (h.d _ _).trans g.qs, (h.d _ _).trans g.rs, by rw [h.b, h.b, h.b, h.b]; exact g.pos⟩
theorem Lay.cv {f : Cir → Cir} {k : Nat} (h : Lay f k) (l : List Cir) : Ft.cv (l.map f) = Ft.cv l := by
  unfold Ft.cv
  rw [List.map_map]
  exact List.map_congr_left fun q _ => h.b q
theorem Lay.bds {f : Cir → Cir} {k n : Nat} (h : Lay f k) {l : List Cir} (g : Bds n l) : Bds (n + k) (l.map f) := fun q hq => by
  obtain ⟨p, hp, e⟩ := List.mem_map.mp hq
  rw [← e]
  exact h.n _ _ (g p hp)
/-! ### the order of a four does not count -/
theorem sum_perm {l m : List Int} (h : l.Perm m) : l.sum = m.sum := by
  induction h with
  | nil => rfl
  | cons x _ ih => rw [List.sum_cons, List.sum_cons, ih]
  | swap x y l => simp only [List.sum_cons]; omega
  | trans _ _ i1 i2 => exact i1.trans i2
theorem perm_at : ∀ {l : List Int} {k : Nat}, k < l.length → (l.getD k 0 :: l.eraseIdx k).Perm l
  | [], _, h => absurd h (Nat.not_lt_zero _)
  | x :: l, 0, _ => .refl _
  | x :: l, k + 1, h => ((List.Perm.swap x (l.getD k 0) (l.eraseIdx k)).trans ((perm_at (Nat.lt_of_succ_lt_succ h)).cons x) : (l.getD k 0 :: x :: l.eraseIdx k).Perm (x :: l))
theorem perm_set {l : List Int} {k : Nat} {y : Int} (h : k < l.length) : (l.set k y).Perm (y :: l.eraseIdx k) := by
  have h1 : k < (l.set k y).length := by rw [List.length_set]; exact h
  have e := perm_at h1
  rw [List.eraseIdx_set_eq, List.getD_eq_getElem?_getD, List.getElem?_eq_getElem h1, List.getElem_set_self] at e
  exact e.symm
theorem gp_all {cs : List Int} (g : Good cs) : gp cs = none ↔ ∀ x ∈ cs, 2 * x ≤ cs.sum := by
  obtain ⟨a, b, c, d, rfl, _⟩ := g
  rw [gp_none, sum4]
  simp
theorem Dn.perm {cs : List Int} {w : List Nat} {r : List Int} (h : Dn cs w r) : ∀ {l l' : List Cir}, cs = cv l → Ok l → Ok l' → (cv l').Perm (cv l) → ∃ w' r', Dn (cv l') w' r' ∧ w'.length = w.length ∧ r'.Perm r := by
  induction h with
  | root e =>
    rintro l l' rfl hl hl' p
    refine ⟨[], cv l', .root ?_, rfl, p⟩
    rw [gp_all hl'.good]
    intro x hx
    rw [sum_perm p]
    exact (gp_all hl.good).mp e x (p.mem_iff.mp hx)
  | step e d ih =>
    rename_i cs k w r
    rintro l l' rfl hl hl' p
    obtain ⟨hk, hg⟩ := gp_lt hl.good e
    have hkl : k < (cv l).length := by rw [cv_len, hl.len]; exact hk
    have hm : (cv l).getD k 0 ∈ cv l' := p.mem_iff.mpr ((perm_at hkl).mem_iff.mp (List.mem_cons_self ..))
    obtain ⟨j, hj, ej⟩ := List.getElem_of_mem hm
    have hj4 : j < 4 := by rw [cv_len, hl'.len] at hj; exact hj
    have ej' : (cv l').getD j 0 = (cv l).getD k 0 := by rw [List.getD_eq_getElem?_getD, List.getElem?_eq_getElem hj]; exact ej
    have eg : gp (cv l') = some j := gp_at hl'.good hj4 (by rw [ej', sum_perm p]; exact hg)
    have p2 : ((cv l').eraseIdx j).Perm ((cv l).eraseIdx k) := by
      have := ((perm_at hj).trans p).trans (perm_at hkl).symm
      rw [ej'] at this
      exact this.cons_inv
    have p3 : (cv (Ft.exch l' j)).Perm (cv (Ft.exch l k)) := by
      rw [cv_exch, cv_exch]
      unfold exchC
      rw [ej', sum_perm p]
      exact ((perm_set hj).trans (p2.cons _)).trans (perm_set hkl).symm
    obtain ⟨w', r', d', e1, e2⟩ := ih (cv_exch l k).symm (hl.exch hk) (hl'.exch hj4) p3
    rw [cv_exch] at d'
    exact ⟨j :: w', r', .step eg d', by rw [List.length_cons, List.length_cons, e1], e2⟩
theorem srt_eq {l m : List Int} : srt l = srt m ↔ l.Perm m := ⟨fun h => (srt_perm l).symm.trans (h ▸ srt_perm m), fun h => srt_of ((srt_perm l).trans h) (srt_sorted l)⟩
theorem isRt_gp {cs : List Int} (g : Good cs) : isRt cs = true ↔ gp cs = none := by
  rw [gp_all g]
  have hp := srt_perm cs
  have hs := srt_sorted cs
  have hl : (srt cs).length = 4 := by
    obtain ⟨a, b, c, d, rfl, _⟩ := g
    exact hp.length_eq
  have hm : (∀ x ∈ cs, 2 * x ≤ cs.sum) ↔ ∀ x ∈ srt cs, 2 * x ≤ (srt cs).sum := by
    rw [sum_perm hp]
    exact ⟨fun h x hx => h x (hp.mem_iff.mp hx), fun h x hx => h x (hp.mem_iff.mpr hx)⟩
  rw [hm]
  unfold isRt
  generalize srt cs = s at *
  match s, hl with
  | [a, b, c, d], _ =>
    have h1 : a ≤ b ∧ a ≤ c ∧ a ≤ d ∧ b ≤ c ∧ b ≤ d ∧ c ≤ d := by
      simp only [List.pairwise_cons, List.mem_cons, List.not_mem_nil, or_false, forall_eq_or_imp, forall_eq] at hs
      omega
    have e : decide ([a, b, c, d].getD 3 0 ≤ ([a, b, c, d].take 3).sum) = decide (d ≤ a + (b + (c + 0))) := rfl
    rw [e, decide_eq_true_eq, sum4]
    simp only [List.mem_cons, List.not_mem_nil, or_false, forall_eq_or_imp, forall_eq]
    omega
theorem Dn.end_root {cs : List Int} {w : List Nat} {r : List Int} (h : Dn cs w r) : gp r = none := by
  induction h with
  | root e => exact e
  | step _ _ ih => exact ih
/-! ### the order in which a four is drawn -/
theorem Ok.turn {l : List Cir} (h : Ok l) (t : Nat) (ht : t < 4) : Ok (l.drop t ++ l.take t) := by
  obtain ⟨p, q, r, s, rfl, g⟩ := h
  match t, ht with
  | 0, _ => exact ⟨_, _, _, _, rfl, g⟩
  | 1, _ => exact ⟨_, _, _, _, rfl, g.s12.s23.s34⟩
  | 2, _ => exact ⟨_, _, _, _, rfl, g.swap⟩
  | 3, _ => exact ⟨_, _, _, _, rfl, g.s34.s23.s12⟩
theorem Ok.rev {l : List Cir} (h : Ok l) : Ok l.reverse := by
  obtain ⟨p, q, r, s, rfl, g⟩ := h
  exact ⟨_, _, _, _, rfl, g.swap.s12.s34⟩
theorem turn_perm (l : List Cir) (t : Nat) : (l.drop t ++ l.take t).Perm l := by
  have := List.perm_append_comm (l₁ := l.drop t) (l₂ := l.take t)
  rwa [List.take_append_drop] at this
/-- a drawn four: how far up it stands -/
def Drawn (l : List Cir) : Prop := Ok l ∧ Bds 100 l ∧ ∃ w r, Dn (cv l) w r ∧ w.length ≤ 6
theorem Drawn.of {l l' : List Cir} (h : Drawn l) (hok : Ok l') (p : l'.Perm l) : Drawn l' := by
  obtain ⟨h1, h2, w, r, d, hw⟩ := h
  obtain ⟨w', r', d', e, _⟩ := d.perm rfl h1 hok (p.map _)
  exact ⟨hok, fun q hq => h2 q (p.mem_iff.mp hq), w', r', d', by omega⟩
theorem drawn_fall {l : List Cir} (g : Giv l) (ns : List Int) (i : Nat) {w : List Nat} (hw : W4 w) (hl : w.length ≤ 6) : Drawn (fall (l.map (laidN ns i)) w) := by
  have L := Lay.laid ns i
  have hok := L.ok g.ok
  have hb := L.bds g.bds
  have d : Dn (cv (l.map (laidN ns i))) [] (cv l) := by
    rw [L.cv]
    exact .root g.root
  obtain ⟨v, d', hv⟩ := d.fall hok hw
  exact ⟨hok.fall hw, (hb.fall hok hw).mono (by omega), v, _, d', by simp at hv; omega⟩
/-- told and due -/
theorem told_due {b : Bool} {c1 c2 : List Int} : chk (vWord b) c1 c2 = if b then decide (srt c1 = srt c2) else (!decide (srt c1 = srt c2) && (isRt c1 && isRt c2)) := by
  unfold chk
  cases b with
  | true =>
    have e : vWord true = sAlike := rfl
    rw [e, if_pos rfl]
    rfl
  | false =>
    have e : vWord false = sUnlike := rfl
    rw [e, if_neg word_ne, decide_eq_true rfl]
    rfl
/-- the heap's own paper is taken -/
theorem own_taken {l1 l2 : List Cir} {w1 w2 : List Nat} {r1 r2 : List Int} (h1 : Ok l1) (h2 : Ok l2) (d1 : Dn (cv l1) w1 r1) (d2 : Dn (cv l2) w2 r2) : chk (vWord (decide (srt r1 = srt r2))) (cv (fall l1 w1)) (cv (fall l2 w2)) = true := by
  obtain ⟨a1, b1⟩ := d1.w4 h1 rfl
  obtain ⟨a2, b2⟩ := d2.w4 h2 rfl
  have g1 := (h1.fall a1).good
  have g2 := (h2.fall a2).good
  rw [b1] at g1
  rw [b2] at g2
  rw [told_due, b1, b2, (isRt_gp g1).mpr d1.end_root, (isRt_gp g2).mpr d2.end_root]
  cases decide (srt r1 = srt r2) <;> rfl
/-- the word of a text that is taken -/
theorem word_is {l1 l2 : List Cir} {w1 w2 v1 v2 : List Nat} {r1 r2 : List Int} {b : Bool} (h1 : Ok l1) (h2 : Ok l2) (d1 : Dn (cv l1) w1 r1) (d2 : Dn (cv l2) w2 r2) (hv1 : W4 v1) (hv2 : W4 v2) (h : chk (vWord b) (cv (fall l1 v1)) (cv (fall l2 v2)) = true) : decide (srt r1 = srt r2) = b := by
  obtain ⟨u1, e1, _⟩ := d1.fall h1 hv1
  obtain ⟨u2, e2, _⟩ := d2.fall h2 hv2
  have o1 := h1.fall hv1
  have o2 := h2.fall hv2
  rw [told_due] at h
  cases b with
  | true =>
    have h' := of_decide_eq_true (show decide (srt (cv (fall l1 v1)) = srt (cv (fall l2 v2))) = true from h)
    obtain ⟨u, r', e3, _, p⟩ := e2.perm rfl o2 o1 (srt_eq.mp h')
    rw [(e1.det e3).2]
    exact decide_eq_true (srt_eq.mpr p)
  | false =>
    have h' : (!decide (srt (cv (fall l1 v1)) = srt (cv (fall l2 v2))) && (isRt (cv (fall l1 v1)) && isRt (cv (fall l2 v2)))) = true := h
    rw [Bool.and_eq_true, Bool.and_eq_true] at h'
    obtain ⟨k1, k2, k3⟩ := h'
    have q1 := (e1.nil_of ((isRt_gp o1.good).mp k2)).2
    have q2 := (e2.nil_of ((isRt_gp o2.good).mp k3)).2
    rw [← q1, ← q2]
    simpa using k1
end Ft
set_option maxHeartbeats 4000000
namespace Ft
open PySem PySem.Spec PyProof.Rows L2
section
variable {P : Program} {w : World} {K : PySem.W.Frag} {mg : Str → Option Value} {base : Heap} {C : Addr}
/-- a comprehension over a list that a call gives: which list, the call says -/
theorem er_lcE {σ : L2.St} {H : Hp} {te e : TE} {g : TG} {tt : TT} {vs : List Nat} {Px Pd' : Pd} (h : Er te σ H Px) (k : ∀ v H1, Same H H1 → Px.p v H1 → Er (tLc (iList K (tC v)) g tt e vs) σ H1 Pd') : Er (tLc (iList K te) g tt e vs) σ H Pd' := fun H1 e1 Q q =>
  h H1 e1 _ fun v H2 e2 p2 => k v H2 (e1.trans e2) p2 H2 (Same.refl _) Q fun v' H3 e3 p3 => q v' H3 (e2.trans e3) p3
def modW (f : Nat → Int) (n : Nat) : List Nat := (List.range n).map fun k => (f k % 4).toNat
theorem modW_w4 (f : Nat → Int) (n : Nat) : W4 (modW f n) := fun k hk => by
  obtain ⟨i, _, e⟩ := List.mem_map.mp hk
  have h0 := Int.emod_nonneg (f i) (show (4 : Int) ≠ 0 by decide)
  have h1 := Int.emod_lt_of_pos (f i) (show (0 : Int) < 4 by decide)
  rw [← e]
  omega
theorem modW_len (f : Nat → Int) (n : Nat) : (modW f n).length = n := by
  unfold modW
  rw [List.length_map, List.length_range]
theorem modW_p (f : Nat → Int) (n : Nat) : ll ((List.range n).map fun k => pint (f k % 4)) = wordP (modW f n) := by
  unfold wordP modW
  rw [List.map_map]
  congr 1
  refine List.map_congr_left fun k _ => ?_
  have h0 := Int.emod_nonneg (f k) (show (4 : Int) ≠ 0 by decide)
  show pint (f k % 4) = pint (((f k % 4).toNat : Nat) : Int)
  rw [Int.toNat_of_nonneg h0]
/-! ### _law_four -/
def drP (K : PySem.W.Frag) : Pd := ⟨fun v H => ∃ l, Drawn l ∧ (cirs K l).p v H, fun e ⟨l, h1, h2⟩ => ⟨l, h1, (cirs K l).mono e h2⟩⟩
def spFour (K : PySem.W.Frag) : Sp := Spf (fun d : List Int × Nat => [ll (d.1.map pint), pint ((d.2 : Nat) : Int)]) (fun d => d.1.length = 50 ∧ d.2 ≤ 30) (fun _ => drP K)
theorem cirs_turn (l : List Cir) (t : Nat) : ((l.map (cir K)).drop t ++ (l.map (cir K)).take t) = (l.drop t ++ l.take t).map (cir K) := by rw [List.map_append, List.map_drop, List.map_take]
theorem c__law_four (F : Df K mg "_law_four" s__law_four ["_law_numbers_here", "_law_at"]) (T : Tx K mg) (c__law_given : C8.Cal P w K mg base 1 "_law_given" (spGiv K) []) (c__law_laid : C8.Cal P w K mg base 2 "_law_laid" (spLaid K) []) (c__law_fallen : C8.Cal P w K mg base 2 "_law_fallen" (spFal K) []) : C8.Cal P w K mg base 3 "_law_four" (spFour K) [] :=
  F.cal sc__law_four (fun _ => rfl) fun f cdv An outer s H vs Q E d hr hp hv k => by
    obtain ⟨ns, i⟩ := d
    obtain ⟨v, u, e0, p0, p1⟩ := pl2 hv
    have p1' : u = .int (i : Int) := p1
    subst e0 p1'
    obtain ⟨hns, hi⟩ := hp
    dsimp only at hns hi p0 k
    refine ⟨_, (pss_cons (ps_setLc (i := 2) (own := [("_law_circle", 3)]) (g := (gName 3)) (tt := tYes) rfl sc__law_four.nd rfl rfl (sw_true rfl rfl rfl (by decide +kernel)) (k_list (K := K) rfl (pi_list (C8.pe_c c__law_given hr (by decide) (by rfl) (pa_cons (pe_ix (ix_listK (K := K) rfl) (pv 0) (pv 1) (fun _ _ => rfl)) pa_nil)))) (blkOk_by (own := [("_law_circle", 3)]) (N := n__law_four) (sc := defScope s__law_four) (by decide +kernel)) (fun _ _ _ _ _ => (pg_name (i := 3) sc__law_four.nd rfl (by first | exact Or.inl rfl | exact Or.inr rfl))) (fun _ _ _ _ _ => pts_nil) (fun _ _ _ _ _ => (C8.pe_c c__law_laid hr (by decide) (by rfl) (pa_cons (pv 0) (pa_cons (pe_op op_add (pv 1) pe_int) (pa_cons (pv 3) pa_nil))))))
    (pss_cons (ps_setLc (i := 4) (own := [("_law_k", 5)]) (g := (gName 5)) (tt := tYes) rfl sc__law_four.nd rfl rfl (sw_true rfl rfl rfl (by decide +kernel)) (pi_range1 (by rfl) T.range (pa_cons (pe_op op_mod (pe_callTy call_int1 (by rfl) T.int (by decide +kernel) (pa_cons (pe_ix (ix_listK (K := K) rfl) (pv 0) (pe_op op_add (pv 1) pe_int) (fun _ _ => rfl)) pa_nil)) pe_int) pa_nil)) (blkOk_by (own := [("_law_k", 5)]) (N := n__law_four) (sc := defScope s__law_four) (by decide +kernel)) (fun _ _ _ _ _ => (pg_name (i := 5) sc__law_four.nd rfl (by first | exact Or.inl rfl | exact Or.inr rfl))) (fun _ _ _ _ _ => pts_nil) (fun _ _ _ _ _ => (pe_op op_mod (pe_callTy call_int1 (by rfl) T.int (by decide +kernel) (pa_cons (pe_ix (ix_listK (K := K) rfl) (pv 0) (pe_op op_add (pe_op op_add (pv 1) pe_int) (pv 5)) (fun _ _ => rfl)) pa_nil)) pe_int)))
    (pss_cons (ps_set (i := 2) sc__law_four.nd rfl (by first | exact Or.inl rfl | exact Or.inr rfl) (C8.pe_c c__law_fallen hr (by decide) (by rfl) (pa_cons (pv 2) (pa_cons (pv 4) pa_nil))))
    (pss_cons (ps_set (i := 6) sc__law_four.nd rfl (by first | exact Or.inl rfl | exact Or.inr rfl) (pe_op op_mod (pe_callTy call_int1 (by rfl) T.int (by decide +kernel) (pa_cons (pe_ix (ix_listK (K := K) rfl) (pv 0) (pe_op op_add (pv 1) pe_int) (fun _ _ => rfl)) pa_nil)) pe_int))
    (pss_cons (ps_set (i := 2) sc__law_four.nd rfl (by first | exact Or.inl rfl | exact Or.inr rfl) (pe_op op_cat (pe_slice (sl_listK (K := K) rfl) (pv 2) (po_some (pv 6)) po_none) (pe_slice (sl_listK (K := K) rfl) (pv 2) po_none (po_some (pv 6)))))
    (pss_cons (ps_if (pt_cmpR op_eq (pe_op op_mod (pe_callTy call_int1 (by rfl) T.int (by decide +kernel) (pa_cons (pe_ix (ix_listK (K := K) rfl) (pv 0) (pe_op op_add (pv 1) pe_int) (fun _ _ => rfl)) pa_nil)) pe_int) pe_int (nomark _)) (pss_one (ps_set (i := 2) sc__law_four.nd rfl (by first | exact Or.inl rfl | exact Or.inr rfl) (k_revL (K := K) rfl (pe_revL (pv 2))))) pss_nil)
    (pss_one (ps_ret (pv 2))))))))), ?_⟩
    refine q_asg (P := ⟨fun v H => ∃ l, Giv l ∧ (cirs K (l.map (laidN ns (i + 1)))).p v H, fun e ⟨l, h1, h2⟩ => ⟨l, h1, (cirs K _).mono e h2⟩⟩) (er_lcE (Px := givP K) (er_call (A := fun i : Int => [pint i]) (R := fun _ => givP K) (ns.getD i 0) (ea_cons (er_nth (er_var rfl p0) (er_is rfl) rfl (by omega)) ea_nil) trivial) fun v1 H1 e1 p1 => ?_) fun v2 H2 e2 p2 => ?_
    · obtain ⟨l, gl, pl⟩ := p1
      have hl4 : l.length = 4 := gl.ok.len
      have pn1 := (ll (ns.map pint)).mono e1 p0
      refine (er_lcN (as := l) (A := cir K) (R := fun q => cir K (laidN ns (i + 1) q)) (ei_list (er_cP pl)) (by omega) (fun _ _ => solid_cir _) (fun q x H' _ e px => er_call (A := fun d : Fn => [ll (d.ns.map pint), pint ((d.i : Nat) : Int), cir K d.q]) (R := fun d : Fn => cir K (laidN d.ns d.i d.q)) ⟨ns, i + 1, q⟩ (ea_cons (er_var rfl ((ll (ns.map pint)).mono e pn1)) (ea_cons ((er_I0 (er_is rfl) er_c).to (congrArg pint (show (i : Int) + 1 = ((i + 1 : Nat) : Int) by omega))) (ea_cons (er_var rfl px) ea_nil))) (by show i + 1 + 3 < ns.length; omega))).imp fun v' H' _ p => ⟨l, gl, ?_⟩
      unfold cirs
      rw [List.map_map]
      exact p
    · obtain ⟨l, gl, pl⟩ := p2
      have pn2 := (ll (ns.map pint)).mono e2 p0
      have m0 := Int.emod_nonneg (ns.getD (i + 5) 0) (show (7 : Int) ≠ 0 by decide)
      have m1 := Int.emod_lt_of_pos (ns.getD (i + 5) 0) (show (0 : Int) < 7 by decide)
      refine q_asg (P := wordP (modW (fun k => ns.getD (i + 6 + k) 0) (ns.getD (i + 5) 0 % 7).toNat)) ((er_lcN (as := List.range (ns.getD (i + 5) 0 % 7).toNat) (A := fun i : Nat => pint (i : Int)) (R := fun k => pint (ns.getD (i + 6 + k) 0 % 4)) (ei_range (er_I (er_intI (er_nth (i := i + 5) (er_var rfl pn2) (er_I0 (er_is rfl) er_c) (by omega) (by omega))) er_c (by show (0 : Int) < 7; decide)) m0 (by omega)) (by rw [List.length_range]; omega) (fun _ _ => solid_is) (fun k x H' hk e px => ?_)).to (modW_p _ _)) fun v3 H3 e3 p3 => ?_
      · have hk' := List.mem_range.mp hk
        have ex : x = .int (k : Int) := px
        subst ex
        exact er_I (er_intI (er_nth (i := i + 6 + k) (er_var rfl ((ll (ns.map pint)).mono e pn2)) (er_I0 (er_I0 (er_is rfl) er_c) (er_is rfl)) (by omega) (by omega))) er_c (by show (0 : Int) < 4; decide)
      have hw4 : W4 (modW (fun k => ns.getD (i + 6 + k) 0) (ns.getD (i + 5) 0 % 7).toNat) := modW_w4 _ _
      have hwl : (modW (fun k => ns.getD (i + 6 + k) 0) (ns.getD (i + 5) 0 % 7).toNat).length ≤ 6 := by rw [modW_len]; omega
      generalize modW (fun k => ns.getD (i + 6 + k) 0) (ns.getD (i + 5) 0 % 7).toNat = ws at *
      have D1 := drawn_fall gl ns (i + 1) hw4 hwl
      refine q_asg (P := cirs K (fall (l.map (laidN ns (i + 1))) ws)) (er_call (A := fun d : Ff => [cirs K d.l, wordP d.w]) (R := fun d : Ff => cirs K (fall d.l d.w)) ⟨l.map (laidN ns (i + 1)), ws⟩ (ea_cons (er_var rfl ((cirs K _).mono e3 pl)) (ea_cons (er_var rfl p3) ea_nil)) ⟨by rw [List.length_map]; exact gl.ok.len, hw4⟩) fun v4 H4 e4 p4 => ?_
      generalize fall (l.map (laidN ns (i + 1))) ws = l2 at *
      have pn4 := (ll (ns.map pint)).mono (e3.trans e4) pn2
      have t0 := Int.emod_nonneg (ns.getD (i + 12) 0) (show (4 : Int) ≠ 0 by decide)
      have t1 := Int.emod_lt_of_pos (ns.getD (i + 12) 0) (show (0 : Int) < 4 by decide)
      refine q_asg (P := pint (ns.getD (i + 12) 0 % 4)) (er_I (er_intI (er_nth (i := i + 12) (er_var rfl pn4) (er_I0 (er_is rfl) er_c) (by omega) (by omega))) er_c (by show (0 : Int) < 4; decide)) fun v5 H5 e5 p5 => ?_
      obtain ⟨t, ht, ht4⟩ : ∃ t : Nat, ns.getD (i + 12) 0 % 4 = (t : Int) ∧ t < 4 := ⟨(ns.getD (i + 12) 0 % 4).toNat, by omega, by omega⟩
      have ev5 : v5 = V.int (t : Int) := by rw [← ht]; exact p5
      subst ev5
      have pc5 := (cirs K l2).mono e5 p4
      have hl24 : l2.length = 4 := D1.1.len
      refine q_asg (P := cirs K (l2.drop t ++ l2.take t)) ((er_cat (er_slL (er_var rfl pc5) (eo_some (er_is rfl)) eo_none) (er_slL (er_var rfl pc5) eo_none (eo_some (er_is rfl))) (by rw [cutP_from, cutP_to, List.length_drop, List.length_take, List.length_map]; omega)).to (by rw [cutP_from, cutP_to, cirs_turn]; rfl)) fun v6 H6 e6 p6 => ?_
      have D2 : Drawn (l2.drop t ++ l2.take t) := D1.of (D1.1.turn t ht4) (turn_perm l2 t)
      generalize l2.drop t ++ l2.take t = l3 at *
      have pn6 := (ll (ns.map pint)).mono (e5.trans e6) pn4
      have s6 : Same H H6 := (((e2.trans e3).trans e4).trans e5).trans e6
      refine q_ifM (b := decide (ns.getD (i + 13) 0 % 2 = 1)) ((et_t (er_eq (er_I (er_intI (er_nth (i := i + 13) (er_var rfl pn6) (er_I0 (er_is rfl) er_c) (by omega) (by omega))) er_c (by show (0 : Int) < 2; decide)) er_c rfl)).to dI)
        (fun σ2 H' => ∃ x, σ2 = [some v, some (.int (i : Int)), some x, none, some v3, none, some (.int (t : Int))] ∧ (drP K).p x H') (fun hb H7 e7 N hN => ?_) (fun hb H7 e7 => ⟨v6, rfl, l3, D2, (cirs K l3).mono e7 p6⟩) (fun σ3 H7 e7 h3 => ?_)
      · refine s_asg (P := cirs K l3.reverse) ((er_rev (er_var rfl ((cirs K l3).mono e7 p6))).to (by unfold cirs; rw [List.map_reverse])) fun v8 H8 e8 p8 => hN _ H8 (e7.trans e8) ⟨v8, rfl, l3.reverse, D2.of D2.1.rev (List.reverse_perm l3), p8⟩
      · obtain ⟨x, ex, px⟩ := h3
        subst ex
        exact s_ret (P := drP K) (er_var rfl px) fun v9 H9 e9 p9 => k v9 H9 ((s6.trans e7).trans e9) p9
end
end Ft
set_option maxHeartbeats 8000000
namespace Ft
open PySem PySem.Spec PyProof.Rows L2
/-- the second four: how far up it stands -/
def Sec (l : List Cir) : Prop := Ok l ∧ Bds 200 l ∧ ∃ w r, Dn (cv l) w r ∧ w.length ≤ 12
theorem Drawn.sec {l : List Cir} (h : Drawn l) : Sec l := by
  obtain ⟨h1, h2, w, r, d, hw⟩ := h
  exact ⟨h1, h2.mono (by omega), w, r, d, by omega⟩
theorem Drawn.next {l : List Cir} (h : Drawn l) (ns : List Int) (i : Nat) {w : List Nat} (hw : W4 w) (hl : w.length = 6) : Sec ((fall l w).map (laidN ns i)) := by
  obtain ⟨h1, h2, v, r, d, hv⟩ := h
  obtain ⟨v', d', hv'⟩ := d.fall h1 hw
  have L := Lay.laid ns i
  exact ⟨L.ok (h1.fall hw), (L.bds (h2.fall h1 hw)).mono (by omega), v', r, by rw [L.cv]; exact d', by omega⟩
def secP (K : PySem.W.Frag) : Pd := ⟨fun v H => ∃ l, Sec l ∧ (cirs K l).p v H, fun e ⟨l, h1, h2⟩ => ⟨l, h1, (cirs K l).mono e h2⟩⟩
section
variable {P : Program} {w : World} {K : PySem.W.Frag} {mg : Str → Option Value} {base : Heap} {C : Addr}
section
variable {σ : L2.St} {H : Hp} {te : TE}
/-- int(letter) - 1 -/
theorem er_backW {u : List Nat} {j i : Nat} {vs : List Nat} (hw : Wd u) (h : Er (tVar i) σ H (digP u)) (hx : ∀ x, ((wipe σ vs).set j (some x))[j]? = some (some x)) (hw2 : ∀ x, wipe ((wipe σ vs).set j (some x)) vs = wipe σ vs := by intro _; rfl) :
    Er (tLc (iList K (tVar i)) (gName j) tYes (tOp (rI0 fun a b => .int (a - b)) (tCB (fun xs H Q => ∃ a n, xs = [.str a] ∧ PySem.intText? a = some n ∧ a.length ≤ 640 ∧ Q (.int n) H) (tCons (tVar j) tNil)) (tC (.int 1))) vs) σ H (wordP u) :=
  er_lcN (as := u) (A := fun k => pstr (dg k)) (R := fun k : Nat => pint (k : Int)) (ei_list (h.to (by unfold digP; rw [List.map_map]; rfl))) (by have := hw.2; omega) (fun _ _ => solid_is) (fun k x H' hk _ px => (er_I0 (er_intS (er_var (hx x) px) (dg_int (hw.1 k hk)) (by rw [dg_len (hw.1 k hk)]; omega)) er_c).to (congrArg pint (show (k : Int) + 1 - 1 = (k : Int) by omega))) hw2
/-- " ".join(["way"] + letters) -/
theorem er_lineT {u : List Nat} {i : Nat} (hw : Wd u) (h : Er (tVar i) σ H (digP u)) : Er (tM1 (fun x xs H Q => ∃ a p, ∃ ys : List Str, x = .str a ∧ xs = [.ref p] ∧ (SqL K H p (ys.map V.str) ∨ SqT K H p (ys.map V.str)) ∧ (ys.map (·.length)).sum + ys.length * a.length ≤ 16777216 ∧ Q (.str (Txt.join a ys)) H) (tC (.str sSp)) (tOp rCat (tLst (tCons (tC (.str sWay)) tNil)) (tVar i))) σ H (pstr (lineT u)) :=
  er_join (a := sSp) (ys := wayL u) er_c ((er_cat (Ps := [pstr sWay]) (er_lst (ea_cons er_c ea_nil) (by show 1 ≤ 100000; decide)) h (by rw [List.length_map, List.length_map]; show 1 + _ ≤ _; have := hw.2; omega)).to rfl) (by
    rw [wayL_len hw.1, len_sp]
    unfold wayL
    rw [List.length_cons, List.length_map]
    have := hw.2
    omega)
end
theorem heapT_sum {b : Bool} {w1 w2 : List Nat} (h1 : Wd w1) (h2 : Wd w2) : (([vWord b, lineT w1, lineT w2] : List Str).map (·.length)).sum + ([vWord b, lineT w1, lineT w2] : List Str).length * sNl.length ≤ 100000 := by
  have a1 := lineT_len h1.1
  have a2 := lineT_len h2.1
  have a3 := vWord_len b
  have a4 := h1.2
  have a5 := h2.2
  rw [len_nl]
  simp only [List.map_cons, List.map_nil, List.sum_cons, List.sum_nil, List.length_cons, List.length_nil]
  omega
def linesP3 (b : Bool) (w1 w2 : List Nat) : Pd := ll [pstr (vWord b), pstr (lineT w1), pstr (lineT w2)]
def spLaw (K : PySem.W.Frag) : Sp := Spf (fun ns : List Int => [sq K (ns.map V.int)]) (fun _ => True) (fun _ => pbl true)
theorem ok_law {fa : Addr} {fd : FuncData} (F : L2.Fun K "law" "law" s_law fa fd) (T : Tx K mg) (c__law_numbers : C8.Cal P w K mg base 2 "_law_numbers" (spNums K) []) (c__law_four : C8.Cal P w K mg base 3 "_law_four" (spFour K) []) (c__law_fallen : C8.Cal P w K mg base 2 "_law_fallen" (spFal K) [])
    (c__law_laid : C8.Cal P w K mg base 2 "_law_laid" (spLaid K) []) (c_Four : C8.Mak P w K mg base 5 "Four" C (spInit K C) []) (c_heap_text : C8.Cal P w K mg base 14 "heap_text" (spText K C) []) (c_check_heap_text : C8.Cal P w K mg base 11 "check_heap_text" (spChkT K C) [])
    (c__law_root : C8.Cal P w K mg base 2 "_law_root" (spLRoot K) []) (c__law_changed : C8.Cal P w K mg base 1 "_law_changed" spChanged []) (c__law_is_root : C8.Cal P w K mg base 1 "_law_is_root" (spLRt K) []) : FnOk P w K mg base CX0 15 fa fd ["_law_script"] (spLaw K) := by
  refine F.ok sc_law (fun vs H Q E h => ?_) (fun cdv An outer s H vs Q E hr h => ?_)
  · obtain ⟨d, _, h, _⟩ := h
    exact h.len
  obtain ⟨sc, _, hv, k⟩ := h
  obtain ⟨v, e0, p0⟩ := pl1 hv
  subst e0
  refine ⟨_, (pss_cons (ps_set (i := 1) sc_law.nd rfl (by first | exact Or.inl rfl | exact Or.inr rfl) (C8.pe_c c__law_numbers hr (by decide) (by rfl) (pa_cons (pv 0) (pa_cons pe_int pa_nil))))
    (pss_cons (ps_set (i := 2) sc_law.nd rfl (by first | exact Or.inl rfl | exact Or.inr rfl) (C8.pe_c c__law_four hr (by decide) (by rfl) (pa_cons (pv 1) (pa_cons pe_int pa_nil))))
    (pss_cons (ps_setLc (i := 3) (own := [("_law_circle", 4)]) (g := (gName 4)) (tt := tYes) rfl sc_law.nd rfl rfl (sw_true rfl rfl rfl (by decide +kernel)) (k_list (K := K) rfl (pi_list (C8.pe_c c__law_fallen hr (by decide) (by rfl) (pa_cons (pv 2) (pa_cons (pe_lc (own := [("_law_k", 5)]) (g := (gName 5)) (tt := tYes) rfl sc_law.nd (pi_range1 (by rfl) T.range (pa_cons pe_int pa_nil)) (blkOk_by (own := [("_law_k", 5)]) (N := n_law) (sc := defScope s_law) (by decide +kernel)) (fun _ _ _ _ _ => (pg_name (i := 5) sc_law.nd rfl (by first | exact Or.inl rfl | exact Or.inr rfl))) (fun _ _ _ _ _ => pts_nil) (fun _ _ _ _ _ => (pe_op op_mod (pe_callTy call_int1 (by rfl) T.int (by decide +kernel) (pa_cons (pe_ix (ix_listK (K := K) rfl) (pv 1) (pe_op op_add pe_int (pv 5)) (fun _ _ => rfl)) pa_nil)) pe_int))) pa_nil))))) (blkOk_by (own := [("_law_circle", 4)]) (N := n_law) (sc := defScope s_law) (by decide +kernel)) (fun _ _ _ _ _ => (pg_name (i := 4) sc_law.nd rfl (by first | exact Or.inl rfl | exact Or.inr rfl))) (fun _ _ _ _ _ => pts_nil) (fun _ _ _ _ _ => (C8.pe_c c__law_laid hr (by decide) (by rfl) (pa_cons (pv 1) (pa_cons pe_int (pa_cons (pv 4) pa_nil))))))
    (pss_cons (ps_if (pt_cmpR op_eq (pe_op op_mod (pe_callTy call_int1 (by rfl) T.int (by decide +kernel) (pa_cons (pe_ix (ix_listK (K := K) rfl) (pv 1) pe_int (fun _ _ => rfl)) pa_nil)) pe_int) pe_int (nomark _)) (pss_one (ps_set (i := 3) sc_law.nd rfl (by first | exact Or.inl rfl | exact Or.inr rfl) (C8.pe_c c__law_four hr (by decide) (by rfl) (pa_cons (pv 1) (pa_cons pe_int pa_nil))))) pss_nil)
    (pss_cons (ps_set (i := 6) sc_law.nd rfl (by first | exact Or.inl rfl | exact Or.inr rfl) (C8.pe_mk c_Four hr (by decide) (by rfl) (pa_cons (pv 2) pa_nil)))
    (pss_cons (ps_set (i := 7) sc_law.nd rfl (by first | exact Or.inl rfl | exact Or.inr rfl) (C8.pe_mk c_Four hr (by decide) (by rfl) (pa_cons (pv 3) pa_nil)))
    (pss_cons (ps_set (i := 8) sc_law.nd rfl (by first | exact Or.inl rfl | exact Or.inr rfl) (pe_split (C8.pe_c c_heap_text hr (by decide) (by rfl) (pa_cons (pv 6) (pa_cons (pv 7) pa_nil))) pe_str))
    (pss_cons (ps_if (pt_cmpR op_notBl (C8.pe_c c_check_heap_text hr (by decide) (by rfl) (pa_cons (pv 6) (pa_cons (pv 7) (pa_cons (k_join (K := K) rfl (pe_join pe_str (pv 8))) pa_nil)))) pe_bl (nomark _)) (pss_one (ps_ret pe_bl)) pss_nil)
    (pss_cons (ps_set (i := 9) sc_law.nd rfl (by first | exact Or.inl rfl | exact Or.inr rfl) (pe_cmpR (op_eqDK (K := K) rfl hr.units) (C8.pe_c c__law_root hr (by decide) (by rfl) (pa_cons (pv 2) pa_nil)) (C8.pe_c c__law_root hr (by decide) (by rfl) (pa_cons (pv 3) pa_nil)) (nomark _)))
    (pss_cons (ps_asg (C8.pe_c c__law_changed hr (by decide) (by rfl) (pa_cons (pv 1) (pa_cons (pe_op op_cat (pe_lst (pa_cons (pe_ix (ix_listK (K := K) rfl) (pv 8) pe_int (fun _ _ => rfl)) pa_nil)) (pe_lc (own := [("_law_line", 13)]) (g := (gName 13)) (tt := tYes) rfl sc_law.nd (k_list (K := K) rfl (pi_list (pe_slice (sl_listK (K := K) rfl) (pv 8) (po_some pe_int) po_none))) (blkOk_by (own := [("_law_line", 13)]) (N := n_law) (sc := defScope s_law) (by decide +kernel)) (fun _ _ _ _ _ => (pg_name (i := 13) sc_law.nd rfl (by first | exact Or.inl rfl | exact Or.inr rfl))) (fun _ _ _ _ _ => pts_nil) (fun _ _ _ _ _ => (pe_slice (sl_listK (K := K) rfl) (pe_split (pv 13) pe_str) (po_some pe_int) po_none)))) pa_nil))) (k_gunl (K := K) rfl (pg_unl (by rfl) (pgs_cons (pg_name (i := 10) sc_law.nd rfl (by first | exact Or.inl rfl | exact Or.inr rfl)) (pgs_cons (pg_name (i := 11) sc_law.nd rfl (by first | exact Or.inl rfl | exact Or.inr rfl)) (pgs_cons (pg_name (i := 12) sc_law.nd rfl (by first | exact Or.inl rfl | exact Or.inr rfl)) pgs_nil))))))
    (pss_cons (ps_set (i := 14) sc_law.nd rfl (by first | exact Or.inl rfl | exact Or.inr rfl) (pe_lst (pa_cons (C8.pe_c c__law_fallen hr (by decide) (by rfl) (pa_cons (pv 2) (pa_cons (pe_lc (own := [("_law_letter", 15)]) (g := (gName 15)) (tt := tYes) rfl sc_law.nd (k_list (K := K) rfl (pi_list (pv 11))) (blkOk_by (own := [("_law_letter", 15)]) (N := n_law) (sc := defScope s_law) (by decide +kernel)) (fun _ _ _ _ _ => (pg_name (i := 15) sc_law.nd rfl (by first | exact Or.inl rfl | exact Or.inr rfl))) (fun _ _ _ _ _ => pts_nil) (fun _ _ _ _ _ => (pe_op op_sub (pe_callTy call_int_str (by rfl) T.int (by decide +kernel) (pa_cons (pv 15) pa_nil)) pe_int))) pa_nil))) (pa_cons (C8.pe_c c__law_fallen hr (by decide) (by rfl) (pa_cons (pv 3) (pa_cons (pe_lc (own := [("_law_letter", 15)]) (g := (gName 15)) (tt := tYes) rfl sc_law.nd (k_list (K := K) rfl (pi_list (pv 12))) (blkOk_by (own := [("_law_letter", 15)]) (N := n_law) (sc := defScope s_law) (by decide +kernel)) (fun _ _ _ _ _ => (pg_name (i := 15) sc_law.nd rfl (by first | exact Or.inl rfl | exact Or.inr rfl))) (fun _ _ _ _ _ => pts_nil) (fun _ _ _ _ _ => (pe_op op_sub (pe_callTy call_int_str (by rfl) T.int (by decide +kernel) (pa_cons (pv 15) pa_nil)) pe_int))) pa_nil))) pa_nil))))
    (pss_cons (ps_setLc (i := 17) (own := [("_law_circles", 16)]) (g := (gName 16)) (tt := tYes) rfl sc_law.nd rfl rfl (sw_true rfl rfl rfl (by decide +kernel)) (k_list (K := K) rfl (pi_list (pv 14))) (blkOk_by (own := [("_law_circles", 16)]) (N := n_law) (sc := defScope s_law) (by decide +kernel)) (fun _ _ _ _ _ => (pg_name (i := 16) sc_law.nd rfl (by first | exact Or.inl rfl | exact Or.inr rfl))) (fun _ _ _ _ _ => pts_nil) (fun _ _ _ _ _ => (pe_callB (cr_sortedK (K := K) rfl) (by rfl) T.sorted (by decide +kernel) (pa_cons (pe_lc (own := [("_law_circle", 4)]) (g := (gName 4)) (tt := tYes) rfl sc_law.nd (k_list (K := K) rfl (pi_list (pv 16))) (blkOk_by (own := [("_law_circle", 4)]) (N := n_law) (sc := ({ kind := .function, names := [(".0", .local), ("_law_circles", .local), ("sorted", .globalImplicit)], isGenerator := false, isCoroutine := false } : Scope)) (by decide +kernel)) (fun _ _ _ _ _ => (pg_name (i := 4) sc_law.nd rfl (by first | exact Or.inl rfl | exact Or.inr rfl))) (fun _ _ _ _ _ => pts_nil) (fun _ _ _ _ _ => (pe_ix (ix_tupK (K := K) rfl) (pv 4) pe_int (fun _ _ => rfl)))) pa_nil))))
    (pss_cons (ps_set (i := 18) sc_law.nd rfl (by first | exact Or.inl rfl | exact Or.inr rfl) (pe_cmpR (op_eqDK (K := K) rfl hr.units) (pe_ix (ix_listK (K := K) rfl) (pv 17) pe_int (fun _ _ => rfl)) (pe_ix (ix_listK (K := K) rfl) (pv 17) pe_int (fun _ _ => rfl)) (nomark _)))
    (pss_cons (ps_if (pt_cmpR op_eq (pv 10) pe_str (nomark _)) (pss_one (ps_set (i := 18) sc_law.nd rfl (by first | exact Or.inl rfl | exact Or.inr rfl) (pe_and (pe_not (pv 18)) (pe_and (C8.pe_c c__law_is_root hr (by decide) (by rfl) (pa_cons (pe_ix (ix_listK (K := K) rfl) (pv 14) pe_int (fun _ _ => rfl)) pa_nil)) (pe_one (C8.pe_c c__law_is_root hr (by decide) (by rfl) (pa_cons (pe_ix (ix_listK (K := K) rfl) (pv 14) pe_int (fun _ _ => rfl)) pa_nil))))))) pss_nil)
    (pss_cons (ps_set (i := 19) sc_law.nd rfl (by first | exact Or.inl rfl | exact Or.inr rfl) (C8.pe_c c_check_heap_text hr (by decide) (by rfl) (pa_cons (pv 6) (pa_cons (pv 7) (pa_cons (k_join (K := K) rfl (pe_join pe_str (pe_lst (pa_cons (pv 10) (pa_cons (k_join (K := K) rfl (pe_join pe_str (pe_op op_cat (pe_lst (pa_cons pe_str pa_nil)) (pv 11)))) (pa_cons (k_join (K := K) rfl (pe_join pe_str (pe_op op_cat (pe_lst (pa_cons pe_str pa_nil)) (pv 12)))) pa_nil)))))) pa_nil)))))
    (pss_cons (ps_if (PW.pt (pw_or (pt_not (pt_val (pe_callB (call_isiX (K := K) rfl) (by rfl) T.isinstance (by decide +kernel) (pa_cons (pv 19) (pa_cons (pe_bltn (v := V.ty "bool") (by rfl) T.bool (by decide +kernel) rfl) pa_nil))))) (pw_or1 (pt_cmpR op_ne (pv 19) (pv 18) (nomark _))))) (pss_one (ps_ret pe_bl)) pss_nil)
    (pss_one (ps_ret (pe_or (pe_not (pv 19)) (pe_one (pe_cmpR op_eq (pv 9) (pe_cmpR op_eq (pv 10) pe_str (nomark _)) (nomark _)))))))))))))))))))))), ?_⟩
  refine q_asg (P := numsP) (er_call (A := fun ns : List Int => [sq K (ns.map V.int), pint 50]) (R := fun _ => numsP) sc (ea_cons (er_var rfl p0) (ea_cons er_c ea_nil)) trivial) fun v1 H1 e1 p1 => ?_
  obtain ⟨ns, hns, pn1⟩ := p1
  refine q_asg (P := drP K) (er_call (A := fun d : List Int × Nat => [ll (d.1.map pint), pint ((d.2 : Nat) : Int)]) (R := fun _ => drP K) (ns, 0) (ea_cons (er_var rfl pn1) (ea_cons er_c ea_nil)) ⟨hns, Nat.zero_le _⟩) fun v2 H2 e2 p2 => ?_
  obtain ⟨l1, D1, pf2⟩ := p2
  have pn2 := (ll (ns.map pint)).mono e2 pn1
  have hl14 : l1.length = 4 := D1.1.len
  have hw6 : W4 (modW (fun k => ns.getD (35 + k) 0) 6) := modW_w4 _ _
  have hl6 : (modW (fun k => ns.getD (35 + k) 0) 6).length = 6 := modW_len _ _
  refine q_asg (P := cirs K ((fall l1 (modW (fun k => ns.getD (35 + k) 0) 6)).map (laidN ns 30))) ((er_lcN (as := fall l1 (modW (fun k => ns.getD (35 + k) 0) 6)) (A := cir K) (R := fun q => cir K (laidN ns 30 q))
    (ei_list (er_call (A := fun d : Ff => [cirs K d.l, wordP d.w]) (R := fun d : Ff => cirs K (fall d.l d.w)) ⟨l1, modW (fun k => ns.getD (35 + k) 0) 6⟩ (ea_cons (er_var rfl pf2) (ea_cons ((er_lcN (as := List.range 6) (A := fun i : Nat => pint (i : Int)) (R := fun k => pint (ns.getD (35 + k) 0 % 4)) (ei_range er_c (by decide) (by decide)) (by decide) (fun _ _ => solid_is) (fun k x H' hk e px => ?_)).to (modW_p _ _)) ea_nil)) ⟨hl14, hw6⟩))
    (by rw [fall_len]; omega) (fun _ _ => solid_cir _) (fun q x H' _ e px => er_call (A := fun d : Fn => [ll (d.ns.map pint), pint ((d.i : Nat) : Int), cir K d.q]) (R := fun d : Fn => cir K (laidN d.ns d.i d.q)) ⟨ns, 30, q⟩ (ea_cons (er_var rfl ((ll (ns.map pint)).mono e pn2)) (ea_cons er_c (ea_cons (er_var rfl px) ea_nil))) (by show 30 + 3 < ns.length; omega))).to (by unfold cirs; rw [List.map_map]; rfl)) fun v3 H3 e3 p3 => ?_
  · have hk' := List.mem_range.mp hk
    have ex : x = .int (k : Int) := px
    subst ex
    exact er_I (er_intI (er_nth (i := 35 + k) (er_var rfl ((ll (ns.map pint)).mono e pn2)) (er_I0 er_c (er_is rfl)) (by omega) (by omega))) er_c (by show (0 : Int) < 4; decide)
  have S3 := D1.next ns 30 hw6 hl6
  generalize (fall l1 (modW (fun k => ns.getD (35 + k) 0) 6)).map (laidN ns 30) = l3 at *
  have pn3 := (ll (ns.map pint)).mono e3 pn2
  have pf3 := (cirs K l1).mono e3 pf2
  refine q_ifM (b := decide (ns.getD 20 0 % 3 = 1)) ((et_t (er_eq (er_I (er_intI (er_nth (i := 20) (er_var rfl pn3) er_c rfl (by omega))) er_c (by show (0 : Int) < 3; decide)) er_c rfl)).to dI)
    (fun σ2 H' => ∃ x, σ2 = [some v, some v1, some v2, some x, none, none, none, none, none, none, none, none, none, none, none, none, none, none, none, none] ∧ (secP K).p x H') (fun hb H4 e4 N hN => ?_) (fun hb H4 e4 => ⟨v3, rfl, l3, S3, (cirs K l3).mono e4 p3⟩) (fun σ4 H4 e4 h4 => ?_)
  · refine s_asg (P := drP K) (er_call (A := fun d : List Int × Nat => [ll (d.1.map pint), pint ((d.2 : Nat) : Int)]) (R := fun _ => drP K) (ns, 15) (ea_cons (er_var rfl ((ll (ns.map pint)).mono e4 pn3)) (ea_cons er_c ea_nil)) ⟨hns, by show 15 ≤ 30; decide⟩) fun v5 H5 e5 p5 => hN _ H5 (e4.trans e5) ?_
    obtain ⟨l5, D5, pf5⟩ := p5
    exact ⟨v5, rfl, l5, D5.sec, pf5⟩
  obtain ⟨x4, ex4, l2, S2, ps4⟩ := h4
  subst ex4
  clear S3 p3
  have pn4 := (ll (ns.map pint)).mono e4 pn3
  have pf4 := (cirs K l1).mono e4 pf3
  obtain ⟨hok1, hb1, w1, r1, d1, hw1⟩ := D1
  obtain ⟨hok2, hb2, w2, r2, d2, hw2⟩ := S2
  obtain ⟨a1, c1⟩ := d1.w4 hok1 rfl
  obtain ⟨a2, c2⟩ := d2.w4 hok2 rfl
  have wd1 : Wd w1 := ⟨a1, by omega⟩
  have wd2 : Wd w2 := ⟨a2, by omega⟩
  -- the two fours
  refine q_asg (P := four K C l1) (er_make (n := 100) (er_var rfl pf4) hok1 hb1 (by decide)) fun v5 H5 e5 p5 => ?_
  refine q_asg (P := four K C l2) (er_make (n := 200) (er_var rfl ((cirs K l2).mono e5 ps4)) hok2 hb2 (by decide)) fun v6 H6 e6 p6 => ?_
  have s6 : Same H4 H6 := e5.trans e6
  have pn6 := (ll (ns.map pint)).mono s6 pn4
  have pf6 := (cirs K l1).mono s6 pf4
  have ps6 := (cirs K l2).mono s6 ps4
  have po6 := (four K C l1).mono e6 p5
  have preD : Pre2D ((⟨l1, w1, r1, 100⟩ : Fd), (⟨l2, w2, r2, 200⟩ : Fd)) := ⟨⟨hok1, hb1, d1, by show 100 + 4 * w1.length ≤ 200000; omega, by show w1.length ≤ 1000; omega⟩, ⟨hok2, hb2, d2, by show 200 + 4 * w2.length ≤ 200000; omega, by show w2.length ≤ 1000; omega⟩⟩
  have hT := heapT_len (b := decide (srt r1 = srt r2)) a1 a2
  -- lines
  refine q_asg (P := linesP3 (decide (srt r1 = srt r2)) w1 w2) ((er_split (b := sNl) (er_call (A := fun d : Fd × Fd => [four K C d.1.l, four K C d.2.l]) (R := fun d : Fd × Fd => pstr (heapT (vWord (decide (srt d.1.r = srt d.2.r))) d.1.w d.2.w)) ((⟨l1, w1, r1, 100⟩ : Fd), (⟨l2, w2, r2, 200⟩ : Fd)) (ea_cons (er_var rfl po6) (ea_cons (er_var rfl p6) ea_nil)) preD) er_c (by rw [len_nl]; rfl) (by dsimp only; omega)).to (by dsimp only; rw [split_heap]; rfl)) fun v7 H7 e7 p7 => ?_
  have po7 := (four K C l1).mono e7 po6
  have pq7 := (four K C l2).mono e7 p6
  have pn7 := (ll (ns.map pint)).mono e7 pn6
  have pf7 := (cirs K l1).mono e7 pf6
  have ps7 := (cirs K l2).mono e7 ps6
  -- the heap's own paper
  have preT : PreT (⟨⟨l1, w1, 100⟩, ⟨l2, w2, 200⟩, decide (srt r1 = srt r2)⟩ : Ft) := ⟨⟨hok1, hb1, a1, by show 100 + 4 * w1.length ≤ 200000; omega, by show w1.length ≤ 1000; omega⟩, ⟨hok2, hb2, a2, by show 200 + 4 * w2.length ≤ 200000; omega, by show w2.length ≤ 1000; omega⟩⟩
  refine q_ifF ((et_t (er_isB (neg := true) (a := true) (b := true) ((er_call (A := fun d : Ft => [four K C d.a.l, four K C d.b.l, pstr (heapT (vWord d.t) d.a.w d.b.w)]) (R := fun d : Ft => pbl (chk (vWord d.t) (cv (fall d.a.l d.a.w)) (cv (fall d.b.l d.b.w)))) ⟨⟨l1, w1, 100⟩, ⟨l2, w2, 200⟩, decide (srt r1 = srt r2)⟩ (ea_cons (er_var rfl po7) (ea_cons (er_var rfl pq7) (ea_cons (er_join (a := sNl) (ys := [vWord (decide (srt r1 = srt r2)), lineT w1, lineT w2]) er_c (er_var rfl p7) (heapT_sum wd1 wd2)) ea_nil))) preT).to (congrArg pbl (own_taken hok1 hok2 d1 d2))) er_c)).to rfl) fun H8 e8 => ?_
  have po8 := (four K C l1).mono e8 po7
  have pq8 := (four K C l2).mono e8 pq7
  have pn8 := (ll (ns.map pint)).mono e8 pn7
  have pf8 := (cirs K l1).mono e8 pf7
  have ps8 := (cirs K l2).mono e8 ps7
  have pl8 := (linesP3 (decide (srt r1 = srt r2)) w1 w2).mono e8 p7
  -- the law's own roots
  refine q_asg (P := pbl (decide (srt r1 = srt r2))) (er_eqL (er_call (A := fun d : Fo => [cirs K d.l]) (R := fun d : Fo => ll ((srt d.r).map pint)) ⟨l1, w1, r1⟩ (ea_cons (er_var rfl pf8) ea_nil) ⟨hok1, d1, by show w1.length ≤ 60; omega⟩) (er_call (A := fun d : Fo => [cirs K d.l]) (R := fun d : Fo => ll ((srt d.r).map pint)) ⟨l2, w2, r2⟩ (ea_cons (er_var rfl ps8) ea_nil) ⟨hok2, d2, by show w2.length ≤ 60; omega⟩)) fun v9 H9 e9 p9 => ?_
  have ev9 : v9 = V.bl (decide (srt r1 = srt r2)) := p9
  subst ev9
  have pn9 := (ll (ns.map pint)).mono e9 pn8
  have pl9 := (linesP3 (decide (srt r1 = srt r2)) w1 w2).mono e9 pl8
  have fromL : ∀ z, z = lineT w1 ∨ z = lineT w2 → ∃ u, z = lineT u ∧ Wd u := fun z hz => by
    rcases hz with e | e
    · exact ⟨w1, e, wd1⟩
    · exact ⟨w2, e, wd2⟩
  have cutL : ∀ u : List Nat, ll ((cutP ((Txt.split (lineT u) sSp).map V.str) (some 1) none).map is) = digP u := fun u => by
    rw [split_line, show (1 : Int) = ((1 : Nat) : Int) from rfl, cutP_from]
    unfold digP
    rw [map_pstr]
    rfl
  -- the changed parts
  refine q_asgG (P := chP) (er_call (A := fun d : Fg => [ll (d.ns.map pint), partsP d.b d.w1 d.w2]) (R := fun _ => chP) ⟨ns, decide (srt r1 = srt r2), w1, w2⟩ (ea_cons (er_var rfl pn9) (ea_cons ((er_cat (Ps := [pstr (vWord (decide (srt r1 = srt r2)))]) (Qs := [digP w1, digP w2]) (er_lst (ea_cons (er_ixL (er_var rfl pl9) er_c rfl) ea_nil) (by show 1 ≤ 100000; decide)) ((er_lcF (as := [lineT w1, lineT w2]) (A := pstr) (R := fun z => ll ((cutP ((Txt.split z sSp).map V.str) (some 1) none).map is)) (ei_list ((er_slL (er_var rfl pl9) (eo_some er_c) eo_none).to (by rw [show (1 : Int) = ((1 : Nat) : Int) from rfl, cutP_from]; rfl))) (by show 2 ≤ 40000; decide)
    (fun z x H' hz _ px => ern_slL ((er_split (b := sSp) (er_var rfl px) er_c (by rw [len_sp]; rfl) ?_).to (by rw [map_pstr])) (eo_some er_c) eo_none)).to (by
      show ll [_, _] = _
      dsimp only
      rw [cutL, cutL])) (by show 1 + 2 ≤ 100000; decide)).to rfl) ea_nil)) ⟨hns, ⟨a1, by show w1.length ≤ 500; omega⟩, ⟨a2, by show w2.length ≤ 500; omega⟩⟩) fun v10 H10 e10 p10 => ?_
  · obtain ⟨u, eu, hu⟩ := fromL z (by simpa using hz)
    have b1 := lineT_len hu.1
    have b2 := hu.2
    rw [eu]
    omega
  obtain ⟨b, u1, u2, ⟨wu1, wu2⟩, pp⟩ := p10
  refine g_unl3 pp fun y10 y11 y12 q10 q11 q12 => ?_
  have ey10 : y10 = V.str (vWord b) := q10
  subst ey10
  have s10 : Same H8 H10 := e9.trans e10
  have po10 := (four K C l1).mono s10 po8
  have pq10 := (four K C l2).mono s10 pq8
  have pf10 := (cirs K l1).mono s10 pf8
  have ps10 := (cirs K l2).mono s10 ps8
  have hl24 : l2.length = 4 := hok2.len
  -- the ends of the ways
  refine q_asg (P := ll [cirs K (fall l1 u1), cirs K (fall l2 u2)]) (er_lst (ea_cons (er_call (A := fun d : Ff => [cirs K d.l, wordP d.w]) (R := fun d : Ff => cirs K (fall d.l d.w)) ⟨l1, u1⟩ (ea_cons (er_var rfl pf10) (ea_cons (er_backW wu1 (er_var rfl q11) fun x => rfl) ea_nil)) ⟨hl14, wu1.1⟩) (ea_cons (er_call (A := fun d : Ff => [cirs K d.l, wordP d.w]) (R := fun d : Ff => cirs K (fall d.l d.w)) ⟨l2, u2⟩ (ea_cons (er_var rfl ps10) (ea_cons (er_backW wu2 (er_var rfl q12) fun x => rfl) ea_nil)) ⟨hl24, wu2.1⟩) ea_nil)) (by show 2 ≤ 100000; decide)) fun v11 H11 e11 p11 => ?_
  have f1 : (fall l1 u1).length = 4 := (fall_len l1 u1).trans hl14
  have f2 : (fall l2 u2).length = 4 := (fall_len l2 u2).trans hl24
  have wi := fun (h : chk (vWord b) (cv (fall l1 u1)) (cv (fall l2 u2)) = true) => word_is hok1 hok2 d1 d2 wu1.1 wu2.1 h
  have td := told_due (b := b) (c1 := cv (fall l1 u1)) (c2 := cv (fall l2 u2))
  have preT2 : PreT (⟨⟨l1, u1, 100⟩, ⟨l2, u2, 200⟩, b⟩ : Ft) := ⟨⟨hok1, hb1, wu1.1, by show 100 + 4 * u1.length ≤ 200000; have := wu1.2; omega, wu1.2⟩, ⟨hok2, hb2, wu2.1, by show 200 + 4 * u2.length ≤ 200000; have := wu2.2; omega, wu2.2⟩⟩
  generalize hg1 : fall l1 u1 = g1 at *
  generalize hg2 : fall l2 u2 = g2 at *
  have len4 : ∀ l ∈ [g1, g2], l.length = 4 := fun l hl => by
    simp only [List.mem_cons, List.not_mem_nil, or_false] at hl
    rcases hl with e | e
    · rw [e]; exact f1
    · rw [e]; exact f2
  refine q_asg (P := ll [ll ((srt (cv g1)).map pint), ll ((srt (cv g2)).map pint)]) ((er_lcF (as := [g1, g2]) (A := cirs K) (R := fun l => ll ((srt (cv l)).map pint)) (ei_list (er_var rfl p11)) (by show 2 ≤ 40000; decide) (fun l x H' hl _ px => ern_sorted (er_sizes (er_var rfl px) (len4 l hl) fun x => rfl) (by rw [cv_len, len4 l hl]; decide))).to rfl) fun v12 H12 e12 p12 => ?_
  refine q_asg (P := pbl (decide (srt (cv g1) = srt (cv g2)))) (er_eqL (er_ixL (er_var rfl p12) er_c rfl) (er_ixL (er_var rfl p12) er_c rfl)) fun v13 H13 e13 p13 => ?_
  have ev13 : v13 = V.bl (decide (srt (cv g1) = srt (cv g2))) := p13
  subst ev13
  have pe13 := (ll [cirs K g1, cirs K g2]).mono (e12.trans e13) p11
  -- what is due
  refine q_ifM (b := decide (vWord b = sUnlike)) ((et_t (er_eq (er_is rfl) er_c rfl)).to dS)
    (fun σ2 _ => σ2 = [some v, some v1, some v2, some x4, none, none, some v5, some v6, some v7, some (.bl (decide (srt r1 = srt r2))), some (.str (vWord b)), some y11, some y12, none, some v11, none, none, some v12, some (.bl (chk (vWord b) (cv g1) (cv g2))), none]) (fun hb H14 e14 N hN => ?_) (fun hb H14 e14 => ?_) (fun σ14 H14 e14 h14 => ?_)
  · have eb : b = false := by
      cases b with
      | false => rfl
      | true => exact absurd (of_decide_eq_true hb).symm word_ne
    have pe14 := (ll [cirs K g1, cirs K g2]).mono e14 pe13
    refine s_asg (P := pbl (chk (vWord b) (cv g1) (cv g2))) ((er_and2 (er_not (er_is rfl)) fun _ => er_and2 (er_call (A := fun l : List Cir => [cirs K l]) (R := fun l => pbl (isRt (cv l))) g1 (ea_cons (er_ixL (er_var rfl pe14) er_c rfl) ea_nil) f1) fun _ => (er_call (A := fun l : List Cir => [cirs K l]) (R := fun l => pbl (isRt (cv l))) g2 (ea_cons (er_ixL (er_var rfl pe14) er_c rfl) ea_nil) f2)).to (by rw [td, eb]; rfl)) fun v15 H15 e15 p15 => hN _ H15 (e14.trans e15) ?_
    have ev15 : v15 = V.bl (chk (vWord b) (cv g1) (cv g2)) := p15
    subst ev15
    rfl
  · have eb : b = true := by
      cases b with
      | true => rfl
      | false => exact absurd rfl (of_decide_eq_false hb)
    have ec : chk (vWord b) (cv g1) (cv g2) = decide (srt (cv g1) = srt (cv g2)) := by rw [td, eb]; rfl
    rw [ec]
    rfl
  subst h14
  have s14 : Same H10 H14 := ((e11.trans e12).trans e13).trans e14
  have po14 := (four K C l1).mono s14 po10
  have pq14 := (four K C l2).mono s14 pq10
  have q11' := (digP u1).mono s14 q11
  have q12' := (digP u2).mono s14 q12
  -- what is told
  refine q_asg (P := pbl (chk (vWord b) (cv g1) (cv g2))) ((er_call (A := fun d : Ft => [four K C d.a.l, four K C d.b.l, pstr (heapT (vWord d.t) d.a.w d.b.w)]) (R := fun d : Ft => pbl (chk (vWord d.t) (cv (fall d.a.l d.a.w)) (cv (fall d.b.l d.b.w)))) ⟨⟨l1, u1, 100⟩, ⟨l2, u2, 200⟩, b⟩ (ea_cons (er_var rfl po14) (ea_cons (er_var rfl pq14) (ea_cons (er_join (a := sNl) (ys := [vWord b, lineT u1, lineT u2]) er_c (er_lst (Ps := [pstr (vWord b), pstr (lineT u1), pstr (lineT u2)]) (ea_cons (er_is rfl) (ea_cons (er_lineT wu1 (er_var rfl q11')) (ea_cons (er_lineT wu2 (er_var rfl q12')) ea_nil))) (by show 3 ≤ 100000; decide)) (heapT_sum wu1 wu2)) ea_nil))) preT2).to (by dsimp only; rw [hg1, hg2])) fun v15 H15 e15 p15 => ?_
  have ev15 : v15 = V.bl (chk (vWord b) (cv g1) (cv g2)) := p15
  subst ev15
  refine q_ifF (et_or (b := false) ((et_not (et_v (er_isi (b := true) (er_is rfl) (fun H => .bl _) (by decide +kernel)))).to rfl) (fun _ => (et_t (er_ne (er_is rfl) (er_is rfl) rfl)).to (by rw [decide_eq_true rfl]; rfl)) (fun h => nomatch h)) fun H16 e16 => ?_
  refine s_ret (P := pbl true) (er_or (er_not (er_is rfl)) (fun h => (er_eq (er_is rfl) (er_eq (er_is rfl) er_c rfl) rfl).to ?_) (fun _ => rfl)) fun v17 H17 e17 p17 => k v17 H17 ((((((e1.trans e2).trans e3).trans e4).trans s6).trans ((e7.trans e8).trans s10)).trans ((s14.trans e15).trans (e16.trans e17))) p17
  have ht : chk (vWord b) (cv g1) (cv g2) = true := by
    cases hc : chk (vWord b) (cv g1) (cv g2) with
    | true => rfl
    | false => rw [hc] at h; cases h
  refine congrArg pbl ?_
  rw [wi ht, dS]
  refine decide_eq_true ?_
  congr 1
  cases b with
  | true => exact (decide_eq_true rfl).symm
  | false => exact (decide_eq_false word_ne).symm
end
end Ft
set_option maxHeartbeats 4000000
/-! what the top has written: each def, the class, the tuples -/
namespace Ft
open PySem PySem.Spec PyProof.Rows L2
section
variable {K : PySem.W.Frag} {h : Heap} {mg : Str → Option Value} {C f : Addr} {st : Stmt} {x m qual : Str} {ps : List Str} {oc kV doc pm cdv ct : Value} {od an : Option Addr} {osl : Array (Option Value)}
def Bs (x qual : Str) (st : Stmt) (ps : List Str) : Prop := ∀ (kV doc pm : Value) (an : Option Addr) (cdv ct : Value) (us : List Value), us.length = ps.length → bindArgs (PySem.W.fnOf x qual (defArgs st) (defBody st) (defScope st) .none kV doc pm an cdv ct) ⟨us, []⟩ = pure (ps.zip us)
theorem df_mk (X : K.In h) (G : h.Ns mainGlobals mg) (hb : Bs x x st ps) (a : PySem.W.nsIn K mainGlobals x = some (some (.ref f)))
    (l : K.lookup f = some ⟨oc, od, .func (PySem.W.fnOf x x (defArgs st) (defBody st) (defScope st) .none kV doc pm an cdv ct), osl⟩) (c : PySem.W.codeIn K cdv x = true) (k : PySem.W.keepIn K (.ref f) = true) : Df K mg x st ps :=
  ⟨⟨f, _, fun_mk l c k, PySem.W.mg_of X G a, (fun_mk l c k).binds hb⟩⟩
theorem dm_mk (hc : Cls K C) (hb : Bs m qual st ps) (a : PySem.W.findIn K (.ref C) m = some (some (.ref f))) (i : PySem.W.isFn K (.ref f) = true)
    (l : K.lookup f = some ⟨oc, od, .func (PySem.W.fnOf m qual (defArgs st) (defBody st) (defScope st) .none kV doc pm an cdv ct), osl⟩) (c : PySem.W.codeIn K cdv qual = true) (k : PySem.W.keepIn K (.ref f) = true) : Dm K C m qual st ps :=
  ⟨⟨f, _, fun_mk l c k, hc, ⟨a, i, k⟩, (fun_mk l c k).binds hb⟩⟩
theorem b_init : Bs "__init__" "Four.__init__" s_Four___init__ ["self", "circles"] := fun _ _ _ _ _ _ us hl => match us, hl with | [_, _], _ => rfl
theorem di_mk (X : K.In h) (G : h.Ns mainGlobals mg) (aC : PySem.W.nsIn K mainGlobals "Four" = some (some (.ref C))) (a : PySem.W.findIn K (.ref C) "__init__" = some (some (.ref f))) (i : PySem.W.isFn K (.ref f) = true)
    (l : K.lookup f = some ⟨oc, od, .func (PySem.W.fnOf "__init__" "Four.__init__" (defArgs s_Four___init__) (defBody s_Four___init__) (defScope s_Four___init__) .none kV doc pm an cdv ct), osl⟩) (c : PySem.W.codeIn K cdv "Four.__init__" = true) (k : PySem.W.keepIn K (.ref f) = true)
    (mk : PySem.W.makesIn K C = true) (kc : PySem.W.keepIn K (.ref C) = true) : Di K mg C :=
  ⟨⟨f, _, fun_mk l c k, ⟨mk, a, i, kc⟩, PySem.W.mg_of X G aC, (fun_mk l c k).binds b_init⟩⟩
theorem tc_mk (pg : PySem.W.plainGet K C Str.empty = true) (hd : PySem.W.hasDictIn K C = true) (po : PySem.W.plainOver K C = true) (sa : PySem.W.findIn K (.ref C) "__setattr__" = some (some (.builtin "object.__setattr__"))) (nC : PySem.W.findIn K (.ref C) "circles" = some none) : Tc K C := ⟨⟨pg, hd, po, sa⟩, nC⟩
theorem kt_ints {p : Addr} {t1 t2 t3 t4 : Nat} {n : Nat} (X : K.In h) (G : h.Ns mainGlobals mg) (a : PySem.W.nsIn K mainGlobals x = some (some (.ref p))) (l : K.lookup p = some ⟨.type "tuple", od, .seq #[.int 1 t1, .int 2 t2, .int 3 t3, .int 4 t4] n, osl⟩) : KTup K mg x p L1234 :=
  ⟨PySem.W.mg_of X G a, fun H => .inr ⟨_, _, n, l, rfl, rfl, (by show 4 ≤ sizeLine; decide), .cons ⟨_, rfl⟩ (.cons ⟨_, rfl⟩ (.cons ⟨_, rfl⟩ (.cons ⟨_, rfl⟩ .nil)))⟩⟩
theorem kt_texts {p : Addr} {t1 t2 t3 t4 : Nat} {n : Nat} (X : K.In h) (G : h.Ns mainGlobals mg) (a : PySem.W.nsIn K mainGlobals x = some (some (.ref p))) (l : K.lookup p = some ⟨.type "tuple", od, .seq #[.str "1" t1, .str "2" t2, .str "3" t3, .str "4" t4] n, osl⟩) : KTup K mg x p LTx :=
  ⟨PySem.W.mg_of X G a, fun H => .inr ⟨_, _, n, l, rfl, rfl, (by show 4 ≤ sizeLine; decide), .cons ⟨_, rfl⟩ (.cons ⟨_, rfl⟩ (.cons ⟨_, rfl⟩ (.cons ⟨_, rfl⟩ .nil)))⟩⟩
theorem kt_two {p : Addr} {t1 t2 : Nat} {n : Nat} (X : K.In h) (G : h.Ns mainGlobals mg) (a : PySem.W.nsIn K mainGlobals x = some (some (.ref p))) (l : K.lookup p = some ⟨.type "tuple", od, .seq #[.str "alike" t1, .str "unlike" t2] n, osl⟩) : KTup K mg x p VEx :=
  ⟨PySem.W.mg_of X G a, fun H => .inr ⟨_, _, n, l, rfl, rfl, (by show 2 ≤ sizeLine; decide), .cons ⟨_, rfl⟩ (.cons ⟨_, rfl⟩ .nil)⟩⟩
theorem b_is_circle : Bs "is_circle" "is_circle" s_is_circle ["circle"] := fun _ _ _ _ _ _ us hl => match us, hl with | [_], _ => rfl
theorem b_check_circle : Bs "check_circle" "check_circle" s_check_circle ["circle"] := fun _ _ _ _ _ _ us hl => match us, hl with | [_], _ => rfl
theorem b_double : Bs "double" "double" s_double ["one", "other"] := fun _ _ _ _ _ _ us hl => match us, hl with | [_, _], _ => rfl
theorem b_are_outward : Bs "are_outward" "are_outward" s_are_outward ["one", "other"] := fun _ _ _ _ _ _ us hl => match us, hl with | [_, _], _ => rfl
theorem b_touch : Bs "touch" "touch" s_touch ["one", "other"] := fun _ _ _ _ _ _ us hl => match us, hl with | [_, _], _ => rfl
theorem b_check_word : Bs "check_word" "check_word" s_check_word ["word"] := fun _ _ _ _ _ _ us hl => match us, hl with | [_], _ => rfl
theorem b_check_number : Bs "check_number" "check_number" s_check_number ["number"] := fun _ _ _ _ _ _ us hl => match us, hl with | [_], _ => rfl
theorem b_mcurvatures : Bs "curvatures" "Four.curvatures" s_Four_curvatures ["self"] := fun _ _ _ _ _ _ us hl => match us, hl with | [_], _ => rfl
theorem b_mcircle : Bs "circle" "Four.circle" s_Four_circle ["self", "number"] := fun _ _ _ _ _ _ us hl => match us, hl with | [_, _], _ => rfl
theorem b_mother : Bs "other" "Four.other" s_Four_other ["self", "number"] := fun _ _ _ _ _ _ us hl => match us, hl with | [_, _], _ => rfl
theorem b_mexchanged : Bs "exchanged" "Four.exchanged" s_Four_exchanged ["self", "number"] := fun _ _ _ _ _ _ us hl => match us, hl with | [_, _], _ => rfl
theorem b_mis_root : Bs "is_root" "Four.is_root" s_Four_is_root ["self"] := fun _ _ _ _ _ _ us hl => match us, hl with | [_], _ => rfl
theorem b_fours_along : Bs "fours_along" "fours_along" s_fours_along ["four", "word"] := fun _ _ _ _ _ _ us hl => match us, hl with | [_, _], _ => rfl
theorem b_four_at : Bs "four_at" "four_at" s_four_at ["four", "word"] := fun _ _ _ _ _ _ us hl => match us, hl with | [_, _], _ => rfl
theorem b_greater_place : Bs "greater_place" "greater_place" s_greater_place ["four"] := fun _ _ _ _ _ _ us hl => match us, hl with | [_], _ => rfl
theorem b_way_down : Bs "way_down" "way_down" s_way_down ["four"] := fun _ _ _ _ _ _ us hl => match us, hl with | [_], _ => rfl
theorem b_root_of : Bs "root_of" "root_of" s_root_of ["four"] := fun _ _ _ _ _ _ us hl => match us, hl with | [_], _ => rfl
theorem b_root_curvatures : Bs "root_curvatures" "root_curvatures" s_root_curvatures ["four"] := fun _ _ _ _ _ _ us hl => match us, hl with | [_], _ => rfl
theorem b_alike_heaps : Bs "alike_heaps" "alike_heaps" s_alike_heaps ["one", "other"] := fun _ _ _ _ _ _ us hl => match us, hl with | [_, _], _ => rfl
theorem b_heap_paper : Bs "heap_paper" "heap_paper" s_heap_paper ["one", "other"] := fun _ _ _ _ _ _ us hl => match us, hl with | [_, _], _ => rfl
theorem b_check_heap_paper : Bs "check_heap_paper" "check_heap_paper" s_check_heap_paper ["one", "other", "told"] := fun _ _ _ _ _ _ us hl => match us, hl with | [_, _, _], _ => rfl
theorem b_line_of : Bs "line_of" "line_of" s_line_of ["words"] := fun _ _ _ _ _ _ us hl => match us, hl with | [_], _ => rfl
theorem b_are_letters : Bs "are_letters" "are_letters" s_are_letters ["words"] := fun _ _ _ _ _ _ us hl => match us, hl with | [_], _ => rfl
theorem b_letters_of : Bs "letters_of" "letters_of" s_letters_of ["words"] := fun _ _ _ _ _ _ us hl => match us, hl with | [_], _ => rfl
theorem b_heap_text : Bs "heap_text" "heap_text" s_heap_text ["one", "other"] := fun _ _ _ _ _ _ us hl => match us, hl with | [_, _], _ => rfl
theorem b_parse_heap : Bs "parse_heap" "parse_heap" s_parse_heap ["text"] := fun _ _ _ _ _ _ us hl => match us, hl with | [_], _ => rfl
theorem b_check_heap_text : Bs "check_heap_text" "check_heap_text" s_check_heap_text ["one", "other", "text"] := fun _ _ _ _ _ _ us hl => match us, hl with | [_, _, _], _ => rfl
theorem b__law_moved : Bs "_law_moved" "_law_moved" s__law_moved ["_law_circle", "_law_s", "_law_t"] := fun _ _ _ _ _ _ us hl => match us, hl with | [_, _, _], _ => rfl
theorem b__law_given : Bs "_law_given" "_law_given" s__law_given ["_law_number"] := fun _ _ _ _ _ _ us hl => match us, hl with | [_], _ => rfl
theorem b__law_laid : Bs "_law_laid" "_law_laid" s__law_laid ["_law_numbers_here", "_law_at", "_law_circle"] := fun _ _ _ _ _ _ us hl => match us, hl with | [_, _, _], _ => rfl
theorem b__law_other : Bs "_law_other" "_law_other" s__law_other ["_law_circles", "_law_k"] := fun _ _ _ _ _ _ us hl => match us, hl with | [_, _], _ => rfl
theorem b__law_fallen : Bs "_law_fallen" "_law_fallen" s__law_fallen ["_law_circles", "_law_word"] := fun _ _ _ _ _ _ us hl => match us, hl with | [_, _], _ => rfl
theorem b__law_is_root : Bs "_law_is_root" "_law_is_root" s__law_is_root ["_law_circles"] := fun _ _ _ _ _ _ us hl => match us, hl with | [_], _ => rfl
theorem b__law_row : Bs "_law_row" "_law_row" s__law_row ["_law_cell", "_law_many"] := fun _ _ _ _ _ _ us hl => match us, hl with | [_, _], _ => rfl
theorem b__law_numbers : Bs "_law_numbers" "_law_numbers" s__law_numbers ["_law_script", "_law_many"] := fun _ _ _ _ _ _ us hl => match us, hl with | [_, _], _ => rfl
theorem b__law_root : Bs "_law_root" "_law_root" s__law_root ["_law_circles"] := fun _ _ _ _ _ _ us hl => match us, hl with | [_], _ => rfl
theorem b__law_changed : Bs "_law_changed" "_law_changed" s__law_changed ["_law_numbers_here", "_law_parts"] := fun _ _ _ _ _ _ us hl => match us, hl with | [_, _], _ => rfl
theorem b__law_four : Bs "_law_four" "_law_four" s__law_four ["_law_numbers_here", "_law_at"] := fun _ _ _ _ _ _ us hl => match us, hl with | [_, _], _ => rfl
theorem tx_mk (X : K.In h) (G : h.Ns mainGlobals mg) (z_len : PySem.W.nsIn K mainGlobals "len" = some none) (z_sum : PySem.W.nsIn K mainGlobals "sum" = some none) (z_sorted : PySem.W.nsIn K mainGlobals "sorted" = some none) (z_all : PySem.W.nsIn K mainGlobals "all" = some none) (z_abs : PySem.W.nsIn K mainGlobals "abs" = some none) (z_max : PySem.W.nsIn K mainGlobals "max" = some none) (z_isinstance : PySem.W.nsIn K mainGlobals "isinstance" = some none) (z_tuple : PySem.W.nsIn K mainGlobals "tuple" = some none) (z_list : PySem.W.nsIn K mainGlobals "list" = some none) (z_int : PySem.W.nsIn K mainGlobals "int" = some none) (z_str : PySem.W.nsIn K mainGlobals "str" = some none) (z_bool : PySem.W.nsIn K mainGlobals "bool" = some none) (z_range : PySem.W.nsIn K mainGlobals "range" = some none) (z_zip : PySem.W.nsIn K mainGlobals "zip" = some none) (z_enumerate : PySem.W.nsIn K mainGlobals "enumerate" = some none) : Tx K mg := ⟨PySem.W.mg_none_of X G z_len, PySem.W.mg_none_of X G z_sum, PySem.W.mg_none_of X G z_sorted, PySem.W.mg_none_of X G z_all, PySem.W.mg_none_of X G z_abs, PySem.W.mg_none_of X G z_max, PySem.W.mg_none_of X G z_isinstance, PySem.W.mg_none_of X G z_tuple, PySem.W.mg_none_of X G z_list, PySem.W.mg_none_of X G z_int, PySem.W.mg_none_of X G z_str, PySem.W.mg_none_of X G z_bool, PySem.W.mg_none_of X G z_range, PySem.W.mg_none_of X G z_zip, PySem.W.mg_none_of X G z_enumerate⟩
theorem b_law : Bs "law" "law" s_law ["_law_script"] := fun _ _ _ _ _ _ us hl => match us, hl with | [_], _ => rfl
theorem all_mk {l : PySem.W.OpenLaw} {w : World} {fa f4 aNU aLW aLT aVE : Addr} (X : K.In h) (G : h.Ns mainGlobals mg) (hfa : mg "law" = some (.ref fa))
    (a4 : PySem.W.nsIn K mainGlobals "law" = some (some (.ref f4))) (l4 : K.lookup f4 = some ⟨oc, od, .func (PySem.W.fnOf "law" "law" (defArgs s_law) (defBody s_law) (defScope s_law) .none kV doc pm an cdv ct), osl⟩) (c4 : PySem.W.codeIn K cdv "law" = true) (k4 : PySem.W.keepIn K (.ref f4) = true)
    (aC : PySem.W.nsIn K mainGlobals "Four" = some (some (.ref C))) (T : Tx K mg) (tc : Tc K C) (hNU : KTup K mg "NUMBERS" aNU L1234) (hLW : KTup K mg "LETTERS_words" aLW L1234) (hLT : KTup K mg "LETTERS_texts" aLT LTx) (hVE : KTup K mg "VERDICTS" aVE VEx)
    (D_is_circle : Df K mg "is_circle" s_is_circle ["circle"])
    (D_check_circle : Df K mg "check_circle" s_check_circle ["circle"])
    (D_double : Df K mg "double" s_double ["one", "other"])
    (D_are_outward : Df K mg "are_outward" s_are_outward ["one", "other"])
    (D_touch : Df K mg "touch" s_touch ["one", "other"])
    (D_check_word : Df K mg "check_word" s_check_word ["word"])
    (D_check_number : Df K mg "check_number" s_check_number ["number"])
    (D_mcurvatures : Dm K C "curvatures" "Four.curvatures" s_Four_curvatures ["self"])
    (D_mcircle : Dm K C "circle" "Four.circle" s_Four_circle ["self", "number"])
    (D_mother : Dm K C "other" "Four.other" s_Four_other ["self", "number"])
    (D_Four : Di K mg C)
    (D_mexchanged : Dm K C "exchanged" "Four.exchanged" s_Four_exchanged ["self", "number"])
    (D_mis_root : Dm K C "is_root" "Four.is_root" s_Four_is_root ["self"])
    (D_fours_along : Df K mg "fours_along" s_fours_along ["four", "word"])
    (D_four_at : Df K mg "four_at" s_four_at ["four", "word"])
    (D_greater_place : Df K mg "greater_place" s_greater_place ["four"])
    (D_way_down : Df K mg "way_down" s_way_down ["four"])
    (D_root_of : Df K mg "root_of" s_root_of ["four"])
    (D_root_curvatures : Df K mg "root_curvatures" s_root_curvatures ["four"])
    (D_alike_heaps : Df K mg "alike_heaps" s_alike_heaps ["one", "other"])
    (D_heap_paper : Df K mg "heap_paper" s_heap_paper ["one", "other"])
    (D_check_heap_paper : Df K mg "check_heap_paper" s_check_heap_paper ["one", "other", "told"])
    (D_line_of : Df K mg "line_of" s_line_of ["words"])
    (D_are_letters : Df K mg "are_letters" s_are_letters ["words"])
    (D_letters_of : Df K mg "letters_of" s_letters_of ["words"])
    (D_heap_text : Df K mg "heap_text" s_heap_text ["one", "other"])
    (D_parse_heap : Df K mg "parse_heap" s_parse_heap ["text"])
    (D_check_heap_text : Df K mg "check_heap_text" s_check_heap_text ["one", "other", "text"])
    (D__law_moved : Df K mg "_law_moved" s__law_moved ["_law_circle", "_law_s", "_law_t"])
    (D__law_given : Df K mg "_law_given" s__law_given ["_law_number"])
    (D__law_laid : Df K mg "_law_laid" s__law_laid ["_law_numbers_here", "_law_at", "_law_circle"])
    (D__law_other : Df K mg "_law_other" s__law_other ["_law_circles", "_law_k"])
    (D__law_fallen : Df K mg "_law_fallen" s__law_fallen ["_law_circles", "_law_word"])
    (D__law_is_root : Df K mg "_law_is_root" s__law_is_root ["_law_circles"])
    (D__law_row : Df K mg "_law_row" s__law_row ["_law_cell", "_law_many"])
    (D__law_numbers : Df K mg "_law_numbers" s__law_numbers ["_law_script", "_law_many"])
    (D__law_root : Df K mg "_law_root" s__law_root ["_law_circles"])
    (D__law_changed : Df K mg "_law_changed" s__law_changed ["_law_numbers_here", "_law_parts"])
    (D__law_four : Df K mg "_law_four" s__law_four ["_law_numbers_here", "_law_at"]) :
    ∃ fd : FuncData, (∀ (s : Shared) (v : Value), BindsTo s fd ⟨[v], []⟩ [("_law_script", v)]) ∧ ∀ base : Heap, K.In base → base.Ns mainGlobals mg → FnOk l.prog w K mg base CX0 15 fa fd ["_law_script"] (spLaw K) := by
  have e := hfa.symm.trans (PySem.W.mg_of X G a4)
  cases e
  refine ⟨PySem.W.fnOf "law" "law" (defArgs s_law) (defBody s_law) (defScope s_law) .none kV doc pm an cdv ct, fun s v => .of_eq rfl, fun base _ _ => ?_⟩
  have c_is_circle := c_is_circle (P := l.prog) (w := w) (base := base) D_is_circle T
  have c_check_circle := c_check_circle (P := l.prog) (w := w) (base := base) D_check_circle c_is_circle
  have c_double := c_double (P := l.prog) (w := w) (base := base) D_double c_check_circle
  have c_are_outward := c_are_outward (P := l.prog) (w := w) (base := base) D_are_outward
  have c_touch := c_touch (P := l.prog) (w := w) (base := base) D_touch c_double c_are_outward
  have c_check_word := c_check_word (P := l.prog) (w := w) (base := base) D_check_word T hLW
  have c_check_number := c_check_number (P := l.prog) (w := w) (base := base) D_check_number hNU
  have m_curvatures := m_curvatures (P := l.prog) (w := w) (base := base) D_mcurvatures T tc
  have m_circle := m_circle (P := l.prog) (w := w) (base := base) D_mcircle tc c_check_number
  have m_other := m_other (P := l.prog) (w := w) (base := base) D_mother T tc m_circle
  have c_Four := c_Four (P := l.prog) (w := w) (base := base) D_Four T tc hNU c_check_circle c_touch
  have m_exchanged := m_exchanged (P := l.prog) (w := w) (base := base) D_mexchanged T tc m_other c_Four
  have m_is_root := m_is_root (P := l.prog) (w := w) (base := base) D_mis_root T m_curvatures
  have c_fours_along := c_fours_along (P := l.prog) (w := w) (base := base) D_fours_along m_exchanged c_check_word
  have c_four_at := c_four_at (P := l.prog) (w := w) (base := base) D_four_at c_fours_along
  have c_greater_place := c_greater_place (P := l.prog) (w := w) (base := base) D_greater_place T m_curvatures
  have c_way_down := c_way_down (P := l.prog) (w := w) (base := base) D_way_down T m_exchanged c_greater_place
  have c_root_of := c_root_of (P := l.prog) (w := w) (base := base) D_root_of c_four_at c_way_down
  have c_root_curvatures := c_root_curvatures (P := l.prog) (w := w) (base := base) D_root_curvatures T c_root_of m_curvatures
  have c_alike_heaps := c_alike_heaps (P := l.prog) (w := w) (base := base) D_alike_heaps c_root_curvatures
  have c_heap_paper := c_heap_paper (P := l.prog) (w := w) (base := base) D_heap_paper c_alike_heaps c_way_down
  have c_check_heap_paper := c_check_heap_paper (P := l.prog) (w := w) (base := base) D_check_heap_paper T c_four_at m_curvatures m_is_root
  have c_line_of := c_line_of (P := l.prog) (w := w) (base := base) D_line_of T
  have c_are_letters := c_are_letters (P := l.prog) (w := w) (base := base) D_are_letters T hLT
  have c_letters_of := c_letters_of (P := l.prog) (w := w) (base := base) D_letters_of T
  have c_heap_text := c_heap_text (P := l.prog) (w := w) (base := base) D_heap_text c_heap_paper c_line_of
  have c_parse_heap := c_parse_heap (P := l.prog) (w := w) (base := base) D_parse_heap T hVE c_are_letters c_letters_of
  have c_check_heap_text := c_check_heap_text (P := l.prog) (w := w) (base := base) D_check_heap_text c_check_heap_paper c_parse_heap
  have c__law_moved := c__law_moved (P := l.prog) (w := w) (base := base) D__law_moved
  have c__law_given := c__law_given (P := l.prog) (w := w) (base := base) D__law_given T
  have c__law_laid := c__law_laid (P := l.prog) (w := w) (base := base) D__law_laid T c__law_moved
  have c__law_other := c__law_other (P := l.prog) (w := w) (base := base) D__law_other T
  have c__law_fallen := c__law_fallen (P := l.prog) (w := w) (base := base) D__law_fallen T c__law_other
  have c__law_is_root := c__law_is_root (P := l.prog) (w := w) (base := base) D__law_is_root T
  have c__law_row := c__law_row (P := l.prog) (w := w) (base := base) D__law_row T
  have c__law_numbers := c__law_numbers (P := l.prog) (w := w) (base := base) D__law_numbers T c__law_row
  have c__law_root := c__law_root (P := l.prog) (w := w) (base := base) D__law_root T c__law_other
  have c__law_changed := c__law_changed (P := l.prog) (w := w) (base := base) D__law_changed T
  have c__law_four := c__law_four (P := l.prog) (w := w) (base := base) D__law_four T c__law_given c__law_laid c__law_fallen
  exact ok_law (fun_mk (st := s_law) l4 c4 k4) T c__law_numbers c__law_four c__law_fallen c__law_laid c_Four c_heap_text c_check_heap_text c__law_root c__law_changed c__law_is_root
theorem walk {l : PySem.W.OpenLaw} {q : Program} {loose : List Str} {XP : (Str → Option Value) → Heap → Prop} {YP : World → Heap → Prop} {d : DefRec} {K : Params → PySem.W.Frag} (hn : l.most = some 63) (hdf : d.params.defaults = [])
    (hY : ∀ (w : World) (h : Heap), YP w h → (K w.params).In h)
    (F : ∀ (w : World) (mg : Str → Option Value) (fa : Addr) (h : Heap), (K w.params).In h → h.Ns mainGlobals mg → mg d.name = some (.ref fa) →
      ∃ fd : FuncData, (∀ (s : Shared) (u : Value), BindsTo s fd ⟨[u], []⟩ [("_law_script", u)]) ∧ ∀ base : Heap, (K w.params).In base → base.Ns mainGlobals mg → FnOk l.prog w (K w.params) mg base CX0 15 fa fd ["_law_script"] (spLaw (K w.params))) :
    PySem.W.WalkO q loose XP YP l.row.toRowW d [] (fun f vs => PySem.call f vs) :=
  L2.walk_of (n := 63) (k := 15) (x := "_law_script") (CX := fun _ => CX0) (sp := fun w => spLaw (K w.params)) hn (by decide) hdf ⟨rfl, by decide, by decide⟩ hY F
    (fun _ _ a ns hl _ hS => ⟨ns, trivial, ⟨⟨a, rfl, hS⟩, trivial⟩, fun _ _ _ p => p⟩) fun _ _ _ _ _ z => z
end
end Ft
open PySem PySem.W PyProof.Rows in
set_option maxHeartbeats 0 in
theorem PySem.Challenge.cw_fourtouch_k63_whole_checked_heaps_holds : PySem.Challenge.rw_fourtouch_k63_whole_checked_heaps.Holds := by
  w_on; o_law; k_head; (case hw => w_witness2)
  k_fill
  refine Ft.walk (l := PySem.Challenge.rw_fourtouch_k63_whole_checked_heaps) rfl rfl (fun w h Y => PySem.W.kIn_of Y) ?F
  case F =>
    intro w mg fa h KX G hmg
    refine' Ft.all_mk KX G hmg ?a4 ?l4 ?c4 ?k4 ?aC ?T ?tc ?hNU ?hLW ?hLT ?hVE ?D_is_circle ?D_check_circle ?D_double ?D_are_outward ?D_touch ?D_check_word ?D_check_number ?D_mcurvatures ?D_mcircle ?D_mother ?D_Four ?D_mexchanged ?D_mis_root ?D_fours_along ?D_four_at ?D_greater_place ?D_way_down ?D_root_of ?D_root_curvatures ?D_alike_heaps ?D_heap_paper ?D_check_heap_paper ?D_line_of ?D_are_letters ?D_letters_of ?D_heap_text ?D_parse_heap ?D_check_heap_text ?D__law_moved ?D__law_given ?D__law_laid ?D__law_other ?D__law_fallen ?D__law_is_root ?D__law_row ?D__law_numbers ?D__law_root ?D__law_changed ?D__law_four
    (case a4 => k_is)
    (case l4 => k_is)
    (case c4 => k_is)
    (case k4 => k_is)
    (case aC => k_is)
    case T =>
      refine' Ft.tx_mk KX G ?z_len ?z_sum ?z_sorted ?z_all ?z_abs ?z_max ?z_isinstance ?z_tuple ?z_list ?z_int ?z_str ?z_bool ?z_range ?z_zip ?z_enumerate
      (case z_len => k_is)
      (case z_sum => k_is)
      (case z_sorted => k_is)
      (case z_all => k_is)
      (case z_abs => k_is)
      (case z_max => k_is)
      (case z_isinstance => k_is)
      (case z_tuple => k_is)
      (case z_list => k_is)
      (case z_int => k_is)
      (case z_str => k_is)
      (case z_bool => k_is)
      (case z_range => k_is)
      (case z_zip => k_is)
      (case z_enumerate => k_is)
    case tc =>
      refine' Ft.tc_mk ?pg ?hd ?po ?sa ?nC
      (case pg => k_is)
      (case hd => k_is)
      (case po => k_is)
      (case sa => k_is)
      (case nC => k_is)
    case hNU =>
      refine' Ft.kt_ints KX G ?a ?l
      (case a => k_is)
      (case l => k_is)
    case hLW =>
      refine' Ft.kt_ints KX G ?a ?l
      (case a => k_is)
      (case l => k_is)
    case hLT =>
      refine' Ft.kt_texts KX G ?a ?l
      (case a => k_is)
      (case l => k_is)
    case hVE =>
      refine' Ft.kt_two KX G ?a ?l
      (case a => k_is)
      (case l => k_is)
    case D_is_circle =>
      refine' Ft.df_mk KX G Ft.b_is_circle ?a ?l ?c ?k
      (case a => k_is)
      (case l => k_is)
      (case c => k_is)
      (case k => k_is)
    case D_check_circle =>
      refine' Ft.df_mk KX G Ft.b_check_circle ?a ?l ?c ?k
      (case a => k_is)
      (case l => k_is)
      (case c => k_is)
      (case k => k_is)
    case D_double =>
      refine' Ft.df_mk KX G Ft.b_double ?a ?l ?c ?k
      (case a => k_is)
      (case l => k_is)
      (case c => k_is)
      (case k => k_is)
    case D_are_outward =>
      refine' Ft.df_mk KX G Ft.b_are_outward ?a ?l ?c ?k
      (case a => k_is)
      (case l => k_is)
      (case c => k_is)
      (case k => k_is)
    case D_touch =>
      refine' Ft.df_mk KX G Ft.b_touch ?a ?l ?c ?k
      (case a => k_is)
      (case l => k_is)
      (case c => k_is)
      (case k => k_is)
    case D_check_word =>
      refine' Ft.df_mk KX G Ft.b_check_word ?a ?l ?c ?k
      (case a => k_is)
      (case l => k_is)
      (case c => k_is)
      (case k => k_is)
    case D_check_number =>
      refine' Ft.df_mk KX G Ft.b_check_number ?a ?l ?c ?k
      (case a => k_is)
      (case l => k_is)
      (case c => k_is)
      (case k => k_is)
    case D_mcurvatures =>
      refine' Ft.dm_mk (by refine' ⟨?pg, ?hd, ?po, ?sa⟩ <;> k_is) Ft.b_mcurvatures ?a ?i ?l ?c ?k
      (case a => k_is)
      (case i => k_is)
      (case l => k_is)
      (case c => k_is)
      (case k => k_is)
    case D_mcircle =>
      refine' Ft.dm_mk (by refine' ⟨?pg, ?hd, ?po, ?sa⟩ <;> k_is) Ft.b_mcircle ?a ?i ?l ?c ?k
      (case a => k_is)
      (case i => k_is)
      (case l => k_is)
      (case c => k_is)
      (case k => k_is)
    case D_mother =>
      refine' Ft.dm_mk (by refine' ⟨?pg, ?hd, ?po, ?sa⟩ <;> k_is) Ft.b_mother ?a ?i ?l ?c ?k
      (case a => k_is)
      (case i => k_is)
      (case l => k_is)
      (case c => k_is)
      (case k => k_is)
    case D_Four =>
      refine' Ft.di_mk KX G ?aC ?a ?i ?l ?c ?k ?mk ?kc
      (case aC => k_is)
      (case a => k_is)
      (case i => k_is)
      (case l => k_is)
      (case c => k_is)
      (case k => k_is)
      (case mk => k_is)
      (case kc => k_is)
    case D_mexchanged =>
      refine' Ft.dm_mk (by refine' ⟨?pg, ?hd, ?po, ?sa⟩ <;> k_is) Ft.b_mexchanged ?a ?i ?l ?c ?k
      (case a => k_is)
      (case i => k_is)
      (case l => k_is)
      (case c => k_is)
      (case k => k_is)
    case D_mis_root =>
      refine' Ft.dm_mk (by refine' ⟨?pg, ?hd, ?po, ?sa⟩ <;> k_is) Ft.b_mis_root ?a ?i ?l ?c ?k
      (case a => k_is)
      (case i => k_is)
      (case l => k_is)
      (case c => k_is)
      (case k => k_is)
    case D_fours_along =>
      refine' Ft.df_mk KX G Ft.b_fours_along ?a ?l ?c ?k
      (case a => k_is)
      (case l => k_is)
      (case c => k_is)
      (case k => k_is)
    case D_four_at =>
      refine' Ft.df_mk KX G Ft.b_four_at ?a ?l ?c ?k
      (case a => k_is)
      (case l => k_is)
      (case c => k_is)
      (case k => k_is)
    case D_greater_place =>
      refine' Ft.df_mk KX G Ft.b_greater_place ?a ?l ?c ?k
      (case a => k_is)
      (case l => k_is)
      (case c => k_is)
      (case k => k_is)
    case D_way_down =>
      refine' Ft.df_mk KX G Ft.b_way_down ?a ?l ?c ?k
      (case a => k_is)
      (case l => k_is)
      (case c => k_is)
      (case k => k_is)
    case D_root_of =>
      refine' Ft.df_mk KX G Ft.b_root_of ?a ?l ?c ?k
      (case a => k_is)
      (case l => k_is)
      (case c => k_is)
      (case k => k_is)
    case D_root_curvatures =>
      refine' Ft.df_mk KX G Ft.b_root_curvatures ?a ?l ?c ?k
      (case a => k_is)
      (case l => k_is)
      (case c => k_is)
      (case k => k_is)
    case D_alike_heaps =>
      refine' Ft.df_mk KX G Ft.b_alike_heaps ?a ?l ?c ?k
      (case a => k_is)
      (case l => k_is)
      (case c => k_is)
      (case k => k_is)
    case D_heap_paper =>
      refine' Ft.df_mk KX G Ft.b_heap_paper ?a ?l ?c ?k
      (case a => k_is)
      (case l => k_is)
      (case c => k_is)
      (case k => k_is)
    case D_check_heap_paper =>
      refine' Ft.df_mk KX G Ft.b_check_heap_paper ?a ?l ?c ?k
      (case a => k_is)
      (case l => k_is)
      (case c => k_is)
      (case k => k_is)
    case D_line_of =>
      refine' Ft.df_mk KX G Ft.b_line_of ?a ?l ?c ?k
      (case a => k_is)
      (case l => k_is)
      (case c => k_is)
      (case k => k_is)
    case D_are_letters =>
      refine' Ft.df_mk KX G Ft.b_are_letters ?a ?l ?c ?k
      (case a => k_is)
      (case l => k_is)
      (case c => k_is)
      (case k => k_is)
    case D_letters_of =>
      refine' Ft.df_mk KX G Ft.b_letters_of ?a ?l ?c ?k
      (case a => k_is)
      (case l => k_is)
      (case c => k_is)
      (case k => k_is)
    case D_heap_text =>
      refine' Ft.df_mk KX G Ft.b_heap_text ?a ?l ?c ?k
      (case a => k_is)
      (case l => k_is)
      (case c => k_is)
      (case k => k_is)
    case D_parse_heap =>
      refine' Ft.df_mk KX G Ft.b_parse_heap ?a ?l ?c ?k
      (case a => k_is)
      (case l => k_is)
      (case c => k_is)
      (case k => k_is)
    case D_check_heap_text =>
      refine' Ft.df_mk KX G Ft.b_check_heap_text ?a ?l ?c ?k
      (case a => k_is)
      (case l => k_is)
      (case c => k_is)
      (case k => k_is)
    case D__law_moved =>
      refine' Ft.df_mk KX G Ft.b__law_moved ?a ?l ?c ?k
      (case a => k_is)
      (case l => k_is)
      (case c => k_is)
      (case k => k_is)
    case D__law_given =>
      refine' Ft.df_mk KX G Ft.b__law_given ?a ?l ?c ?k
      (case a => k_is)
      (case l => k_is)
      (case c => k_is)
      (case k => k_is)
    case D__law_laid =>
      refine' Ft.df_mk KX G Ft.b__law_laid ?a ?l ?c ?k
      (case a => k_is)
      (case l => k_is)
      (case c => k_is)
      (case k => k_is)
    case D__law_other =>
      refine' Ft.df_mk KX G Ft.b__law_other ?a ?l ?c ?k
      (case a => k_is)
      (case l => k_is)
      (case c => k_is)
      (case k => k_is)
    case D__law_fallen =>
      refine' Ft.df_mk KX G Ft.b__law_fallen ?a ?l ?c ?k
      (case a => k_is)
      (case l => k_is)
      (case c => k_is)
      (case k => k_is)
    case D__law_is_root =>
      refine' Ft.df_mk KX G Ft.b__law_is_root ?a ?l ?c ?k
      (case a => k_is)
      (case l => k_is)
      (case c => k_is)
      (case k => k_is)
    case D__law_row =>
      refine' Ft.df_mk KX G Ft.b__law_row ?a ?l ?c ?k
      (case a => k_is)
      (case l => k_is)
      (case c => k_is)
      (case k => k_is)
    case D__law_numbers =>
      refine' Ft.df_mk KX G Ft.b__law_numbers ?a ?l ?c ?k
      (case a => k_is)
      (case l => k_is)
      (case c => k_is)
      (case k => k_is)
    case D__law_root =>
      refine' Ft.df_mk KX G Ft.b__law_root ?a ?l ?c ?k
      (case a => k_is)
      (case l => k_is)
      (case c => k_is)
      (case k => k_is)
    case D__law_changed =>
      refine' Ft.df_mk KX G Ft.b__law_changed ?a ?l ?c ?k
      (case a => k_is)
      (case l => k_is)
      (case c => k_is)
      (case k => k_is)
    case D__law_four =>
      refine' Ft.df_mk KX G Ft.b__law_four ?a ?l ?c ?k
      (case a => k_is)
      (case l => k_is)
      (case c => k_is)
      (case k => k_is)
