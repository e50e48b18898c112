import PyProof.Rows.All
import Wide.All
import OpenK.AllK
import Wide.FinOn
import HandS.ForMost
import KE.KTupSum
import KE.GoesEnum
import HandS.Walk
import HandS.Defaults
import HandS.HeadEnd
import HandS.HeadHook2
import HandS.Exc
import HandS.TupAny
import HandS.IsInst
import HandS.Star
import HandS.Wide
import HandS.Zip
import HandS.SortInts
import HandS.RaiseMore
import HandS.NoneIn
import HandS.Deep
import HandS.Property
import HandS.Style
import KE.KDictDisplayH
import KE.KStateDown
import HandS.Ends
import HandS.More
import HandS.Words
import HandS.WordsExc
import HandS.Head0
import HandS.Head1
import HandS.Head2
import HandS.HeadHook1
import PySem.Challenge.RW_ringwindows_k31_whole_steps_searched
set_option Elab.async false
set_option linter.all false
set_option maxRecDepth 100000
set_option maxHeartbeats 4000000
/-! DL0: rules of the machine that the hand layer lacks. -/
namespace DL0
open PySem PySem.Spec L2 PyProof.Rows
section
variable {prog : Program} {w : World} {A : Around} {E : Value → Shared → Prop} {s : Shared} {t : Addr}
theorem tup_iter {items : Array Value} {Q : Value → Shared → Prop} (hl : s.heap.IsTuple t items)
    (h : ∀ s₂ : Shared, s₂ = { s with heap := s.heap.push { cls := .type "tuple_iterator", data := .fields #[.ref t, .int 0 0] } } → (∀ b ∈ [s.heap.objs.size, t], b < s₂.heap.objs.size) → t ≠ s.heap.objs.size → Q (.ref s.heap.objs.size) s₂) :
    wpAny (model prog w) A (pyIter (.ref t)) Q E s := by
  have hlt : t < s.heap.objs.size := by obtain ⟨_, e, _⟩ := hl; exact Heap.lt_size e
  refine wpAny_pyIter_tuple hl (h _ rfl (fun b hb => ?_) (Nat.ne_of_lt hlt))
  show b < (s.heap.push _).objs.size
  rw [Heap.size_push]
  rcases List.mem_cons.mp hb with rfl | hb
  · exact Nat.lt_succ_self _
  · rcases List.mem_cons.mp hb with rfl | hb
    · exact Nat.lt_succ_of_lt hlt
    · cases hb
theorem max_intTup {xs : Array (Int × Tok)} {Q : Value → Shared → Prop} (hh : A.handled = none) (hl : s.heap.IsTuple t (intItems xs)) (hne : 0 < xs.size)
    (h : ∀ v h' tk, (intItems xs)[argBest (fun i j => decide (numAt xs i > numAt xs j)) (xs.size - 1)]? = some v → (∀ b o, s.heap.get? b = some o → h'.get? b = some o) → Q v { s with heap := h', toks := tk }) :
    wpAny (model prog w) A (call (.builtin "max") [.ref t]) Q E s := by
  refine call_max_walk (tup_iter hl fun s₂ e hfp hlI => ?_)
  subst e
  refine ⟨_, _, _, _, _, _, _, rfl, Walks.tuple (A := A.in1) hh _ t hlI (intItems xs), ⟨⟨_, Heap.get?_push_size _ rfl, rfl, rfl⟩, hl.at fun o e => Heap.get?_push_of_some _ e⟩, hfp, by simpa [intItems] using hne, CmpOf.ints_gt (numAt xs) (fun _ _ => intItems_at), fun v h' tk hP hk => ?_⟩
  refine h v h' tk (by simpa [intItems] using hP) fun b o e => hk b o (fun hm => ?_) (Heap.get?_push_of_some _ e)
  exact absurd (Heap.lt_size e) ((List.mem_singleton.mp hm) ▸ Nat.lt_irrefl _)
theorem min_intTup {xs : Array (Int × Tok)} {Q : Value → Shared → Prop} (hh : A.handled = none) (hl : s.heap.IsTuple t (intItems xs)) (hne : 0 < xs.size)
    (h : ∀ v h' tk, (intItems xs)[argBest (fun i j => decide (numAt xs i < numAt xs j)) (xs.size - 1)]? = some v → (∀ b o, s.heap.get? b = some o → h'.get? b = some o) → Q v { s with heap := h', toks := tk }) :
    wpAny (model prog w) A (call (.builtin "min") [.ref t]) Q E s := by
  refine call_min_walk (tup_iter hl fun s₂ e hfp hlI => ?_)
  subst e
  refine ⟨_, _, _, _, _, _, _, rfl, Walks.tuple (A := A.in1) hh _ t hlI (intItems xs), ⟨⟨_, Heap.get?_push_size _ rfl, rfl, rfl⟩, hl.at fun o e => Heap.get?_push_of_some _ e⟩, hfp, by simpa [intItems] using hne, CmpOf.ints_lt (numAt xs) (fun _ _ => intItems_at), fun v h' tk hP hk => ?_⟩
  refine h v h' tk (by simpa [intItems] using hP) fun b o e => hk b o (fun hm => ?_) (Heap.get?_push_of_some _ e)
  exact absurd (Heap.lt_size e) ((List.mem_singleton.mp hm) ▸ Nat.lt_irrefl _)
variable {its : List Value} {ns : List Int} {Q : Value → Shared → Prop}
theorem sum_tupR (hh : A.handled = none) (hl : s.heap.IsTuple t its.toArray) (hi : IntsAre its ns)
    (h : ∀ h' tk t', (∀ b o, s.heap.get? b = some o → h'.get? b = some o) → Q (.int ns.sum t') { s with heap := h', toks := tk }) : wpAny (model prog w) A (call (.builtin "sum") [.ref t]) Q E s := by
  obtain ⟨xs, e⟩ := hi.allInts.items
  have hn : numsOf (intItems xs).toList = ns := by rw [← e]; exact hi.numsOf
  rw [nums_intItems] at hn
  rw [e] at hl
  refine PySem.W.ktm_sumG hh hl fun h' tk t' hk => ?_
  have := h h' tk t' hk
  rw [preSum_eq, List.take_of_length_le (by simp), hn]; exact this
theorem max_tupR (hh : A.handled = none) (hl : s.heap.IsTuple t its.toArray) (hi : IntsAre its ns) (hne : 0 < ns.length)
    (h : ∀ h' tk M t', (∀ b o, s.heap.get? b = some o → h'.get? b = some o) → M ∈ ns → (∀ a, a ∈ ns → a ≤ M) → Q (.int M t') { s with heap := h', toks := tk }) : wpAny (model prog w) A (call (.builtin "max") [.ref t]) Q E s := by
  obtain ⟨xs, e⟩ := hi.allInts.items
  have hn : numsOf (intItems xs).toList = ns := by rw [← e]; exact hi.numsOf
  rw [nums_intItems] at hn
  subst hn
  rw [e] at hl
  have hsz : 0 < xs.size := by simpa using hne
  refine max_intTup hh hl hsz fun v h' tk hv hk => ?_
  obtain ⟨t, rfl⟩ := intItems_at hv
  obtain ⟨h1, h2⟩ := argBest_gt (numAt xs) (xs.size - 1)
  refine h h' tk _ t hk ?_ fun a ha => ?_
  · rw [numAt_eq]; exact PySem.getD_mem (by rw [List.length_map, Array.length_toList]; omega)
  · obtain ⟨j, hj, rfl⟩ := mem_getD ha
    rw [List.length_map, Array.length_toList] at hj
    rw [← numAt_eq]; exact h2 j (by omega)
theorem min_tupR (hh : A.handled = none) (hl : s.heap.IsTuple t its.toArray) (hi : IntsAre its ns) (hne : 0 < ns.length)
    (h : ∀ h' tk M t', (∀ b o, s.heap.get? b = some o → h'.get? b = some o) → M ∈ ns → (∀ a, a ∈ ns → M ≤ a) → Q (.int M t') { s with heap := h', toks := tk }) : wpAny (model prog w) A (call (.builtin "min") [.ref t]) Q E s := by
  obtain ⟨xs, e⟩ := hi.allInts.items
  have hn : numsOf (intItems xs).toList = ns := by rw [← e]; exact hi.numsOf
  rw [nums_intItems] at hn
  subst hn
  rw [e] at hl
  have hsz : 0 < xs.size := by simpa using hne
  refine min_intTup hh hl hsz fun v h' tk hv hk => ?_
  obtain ⟨t, rfl⟩ := intItems_at hv
  obtain ⟨h1, h2⟩ := argBest_lt (numAt xs) (xs.size - 1)
  refine h h' tk _ t hk ?_ fun a ha => ?_
  · rw [numAt_eq]; exact PySem.getD_mem (by rw [List.length_map, Array.length_toList]; omega)
  · obtain ⟨j, hj, rfl⟩ := mem_getD ha
    rw [List.length_map, Array.length_toList] at hj
    rw [← numAt_eq]; exact h2 j (by omega)
end
section
variable {X : Cx}
def rSumT (K : PySem.W.Frag) : List V → Hp → VK → Prop := fun vs H Q => ∃ (a : Addr) (ns : List Int), vs = [V.ref a] ∧ SqT K H a (ns.map V.int) ∧ Q (.int ns.sum) H
def rMaxT (K : PySem.W.Frag) : List V → Hp → VK → Prop := fun vs H Q => ∃ (a : Addr) (ns : List Int), vs = [V.ref a] ∧ SqT K H a (ns.map V.int) ∧ 0 < ns.length ∧ ∀ m, m ∈ ns → (∀ y, y ∈ ns → y ≤ m) → Q (.int m) H
def rMinT (K : PySem.W.Frag) : List V → Hp → VK → Prop := fun vs H Q => ∃ (a : Addr) (ns : List Int), vs = [V.ref a] ∧ SqT K H a (ns.map V.int) ∧ 0 < ns.length ∧ ∀ m, m ∈ ns → (∀ y, y ∈ ns → m ≤ y) → Q (.int m) H
theorem cr_sumT (hc : X.calm = true) : CallR X (.builtin "sum") (rSumT X.K) := by
  intro pins s σ H vs us Q I r h
  obtain ⟨a, ns, rfl, hs, q⟩ := h
  obtain ⟨its, rv, hl, _⟩ := I.tuple hs
  rw [Vals.ref1 r]
  exact sum_tupR (I.ok.hd hc) hl rv.ints fun h' tk t' hk => ⟨.int _, H, I.kept hk, ⟨_, rfl⟩, q⟩
theorem cr_maxT (hc : X.calm = true) : CallR X (.builtin "max") (rMaxT X.K) := by
  intro pins s σ H vs us Q I r h
  obtain ⟨a, ns, rfl, hs, hn, q⟩ := h
  obtain ⟨its, rv, hl, _⟩ := I.tuple hs
  rw [Vals.ref1 r]
  exact max_tupR (I.ok.hd hc) hl rv.ints hn fun h' tk m t' hk h1 h2 => ⟨.int _, H, I.kept hk, ⟨_, rfl⟩, q m h1 h2⟩
theorem cr_minT (hc : X.calm = true) : CallR X (.builtin "min") (rMinT X.K) := by
  intro pins s σ H vs us Q I r h
  obtain ⟨a, ns, rfl, hs, hn, q⟩ := h
  obtain ⟨its, rv, hl, _⟩ := I.tuple hs
  rw [Vals.ref1 r]
  exact min_tupR (I.ok.hd hc) hl rv.ints hn fun h' tk m t' hk h1 h2 => ⟨.int _, H, I.kept hk, ⟨_, rfl⟩, q m h1 h2⟩
end
end DL0

/-! DL1: enumerate over a tuple. -/
namespace DL0
open PySem PySem.Spec L2 PyProof.Rows
theorem meets_enum_one {v : Value} {o : Obj} {H : Heap → Prop} (B : Begins v o H) :
    Meets (Builtin.«enumerate.__new__» ⟨[.type "enumerate", v], []⟩) (fun _ R s => H s.heap ∧
      R (.ok (.ret (.ref (s.heap.push o).objs.size))) { s with heap := (s.heap.push o).push { cls := .type "enumerate", data := .fields #[.none, .bool false, .ref s.heap.objs.size, rawInt 0, .none, .none] } }) :=
  .of_wp fun prog w A R s h => by
    obtain ⟨hp, g, d, tk, os⟩ := s; obtain ⟨h1, h⟩ := h
    have hsub := sub_enumerate
    have q1 : ∀ {A' : Around} {E : Value → Shared → Prop} {Q : Value → Shared → Prop}, Q (.ref hp.objs.size) ⟨hp.push o, g, d, tk, os⟩ → wpAny (model prog w) A' (pyIter v) Q E ⟨hp, g, d, tk, os⟩ :=
      fun q => B.iter prog w _ _ ⟨hp, g, d, tk, os⟩ _ h1 q
    wp_walk using q1
    refine wpAny_stack_any fun st => wpAny_pure ?_
    split
    · rename_i c _ _ _ _ _
      cases (c == Value.type "enumerate") <;> (wp_walk using q1; exact ⟨_, rfl, h⟩)
    · wp_walk using q1
      exact ⟨_, rfl, h⟩
section
variable {prog : Program} {w : World} {A : Around} {E : Value → Shared → Prop} {s : Shared}
theorem enum_one {v : Value} {o : Obj} {H : Heap → Prop} {Q : Value → Shared → Prop} (B : Begins v o H) (h1 : H s.heap)
    (h : ∀ h', IsEnum h' (s.heap.objs.size + 1) s.heap.objs.size 0 .none → h'.get? s.heap.objs.size = some o → (∀ b o, s.heap.get? b = some o → h'.get? b = some o) → Q (.ref (s.heap.objs.size + 1)) { s with heap := h' }) :
    wpAny (model prog w) A (call (.type "enumerate") [v]) Q E s := by
  refine callType_new F.called_enumerate (by decide) (F.typeCall_enumerate_1 _) (F.newCall_enumerate_1 _) (fun obj => F.args_object_init_2 obj _) F.entry_enumerate_new (meets_enum_one B) ⟨h1, ?_⟩
  have hz : (s.heap.push o).objs.size = s.heap.objs.size + 1 := Heap.size_push ..
  show _ ∧ _
  rw [hz]
  have he : IsEnum ((s.heap.push o).push { cls := .type "enumerate", data := .fields #[.none, .bool false, .ref s.heap.objs.size, rawInt 0, .none, .none] }) (s.heap.objs.size + 1) s.heap.objs.size 0 .none := by
    have q := Heap.get?_push_size (s.heap.push o) (o := { cls := .type "enumerate", data := .fields #[.none, .bool false, .ref s.heap.objs.size, rawInt 0, .none, .none] }) rfl
    rwa [hz] at q
  exact ⟨⟨_, he, rfl⟩, h _ he (Heap.get?_push_of_some _ (Heap.get?_push_size _ B.free)) fun b o x => Heap.get?_push_of_some _ (Heap.get?_push_of_some _ x)⟩
end
/-- the tuple at a, each item in a new pair with the count from c on -/
def IteT (K : PySem.W.Frag) (a : Addr) (c : Int) : It :=
  ⟨fun i H => ∃ (xs : List V) (x : V), SqT K H a xs ∧ xs[i]? = some x, fun i H v H' => ∃ T x, v = .ref T ∧ H T = none ∧ H' = upd H T (.tup [.int (c + (i : Nat)), x]) ∧ ∀ xs, SqT K H a xs → xs[i]? = some x, fun i H => ∃ xs : List V, SqT K H a xs ∧ xs.length = i⟩
theorem turn_enumT {P : Program} {w : World} {K : PySem.W.Frag} {elts : List Expr} {kk : Nat} {tpos : Pos} (a e it : Addr) (c : Int) (hai : a ≠ it) (hea : e ≠ a) :
    Turn P w K (.Tuple elts kk tpos) (IteT K a c) [e, it] e (fun i h => (∃ old, IsEnum h e it (c + (i : Nat)) old) ∧ h.IsTupleIter it a i ∧ e ≠ it) where
  mem := List.mem_cons_self
  obj := fun i h st b hb => by
    obtain ⟨⟨old, he⟩, ⟨o, ho, hc, hd⟩, _⟩ := st
    rcases List.mem_cons.mp hb with z | z
    · subst z; exact ⟨_, he, fun v q => nomatch q⟩
    · have z := List.mem_singleton.mp z
      subst z; exact ⟨o, ho, fun v q => by rw [hd] at q; cases q⟩
  keep := fun i h h' st k => let ⟨⟨old, he⟩, hi, hne⟩ := st; ⟨⟨old, k e (by simp) _ he⟩, hi.at fun o q => k it (by simp) o q, hne⟩
  item := by
    intro X hP hw hK hc i pins s σ H E I hf st hg
    subst hP hw hK
    obtain ⟨⟨old, he⟩, hit, hne⟩ := st
    obtain ⟨xs, x, hq, hx⟩ := hg
    obtain ⟨its, rv, p, hz⟩ := I.tuple hq
    obtain ⟨u, hu, ru⟩ := rv.get hx
    have hel : e < s.heap.objs.size := Heap.lt_size he
    have hil : it < s.heap.objs.size := by obtain ⟨_, q, _⟩ := hit; exact Heap.lt_size q
    have Dr := Draws.tuple (prog := X.prog) (w := X.w) (A := X.A.in1) (I.ok.hd hc) it a hai its.toArray
    have hlt : i < its.toArray.size := by
      have := (List.getElem?_eq_some_iff.mp hu).1
      simpa using this
    refine wpAny_pyNext_enum_itemC Dr he ⟨hit, show s.heap.IsTuple a its.toArray from p⟩ hlt hne (by simp [hne, hea]) fun y h' tk hy ho hst' hT hsz hk => ?_
    have ey : y = u := by
      have : its.toArray[i]? = some u := by simpa using hu
      rw [this] at hy; exact (Option.some.inj hy).symm
    subst ey
    refine ⟨_, rfl, wpAny_letOwnedTupleGo_enum (s := { s with heap := h', toks := tk + 1 }) ho fun h'' he' sb => ?_⟩
    have hT2 := (sb.2 _ (Nat.ne_of_gt hel)).trans hT
    have new : ObjOk X.prog X.w (upd H s.heap.objs.size (.tup [.int (c + (i : Nat)), x])) h'' s.heap.objs.size (.tup [.int (c + (i : Nat)), x]) :=
      ⟨by show 2 ≤ sizeLine; decide, [.int (c + (i : Nat)) tk, y], .cons ⟨_, rfl⟩ (.cons ru .nil), ⟨_, hT2, rfl, _, rfl⟩⟩
    have I1 := I.turnedNew (h' := h'') (t' := tk + 1) (ch := [e, it]) (fun b ob hb q => (sb.2 b (fun z => hb (by simp [z]))).trans (hk b ob (fun z => hb (by simp [z])) (fun z => hb (by simp [z])) q)) hf (Nat.le_refl _) new
    refine ⟨.ref s.heap.objs.size, _, I1, rfl, ⟨_, x, rfl, I.hok.fresh (Nat.le_refl _), rfl, fun ys hy => by rw [I.tuple_inj hy hq]; exact hx⟩, ⟨⟨y, ?_⟩, hst'.1.at fun o q => (sb.2 it (Ne.symm hne)).trans q, hne⟩, fun b hb => ?_⟩
    · have e1 : c + ((i + 1 : Nat) : Int) = c + (i : Nat) + 1 := by omega
      rw [e1]; exact he'
    · have hb' : b < s.heap.objs.size := by
        rcases List.mem_cons.mp hb with z | z
        · rw [z]; exact hel
        · rw [List.mem_singleton.mp z]; exact hil
      rw [upd_ne (Nat.ne_of_lt hb')]
      exact (hf b hb).1
  done := by
    intro X hP hw hK hc i pins s σ H E I hf st hg
    subst hP hw hK
    obtain ⟨⟨old, he⟩, hit, hne⟩ := st
    obtain ⟨xs, hq, hx⟩ := hg
    obtain ⟨its, rv, p, hz⟩ := I.tuple hq
    obtain ⟨f0, f1, f2, f3, f4, f5⟩ := hf it (by simp)
    have hl := rv.length
    have Dr := Draws.tuple (prog := X.prog) (w := X.w) (A := X.A.in1) (I.ok.hd hc) it a hai its.toArray
    have hi : i = its.toArray.size := by simp; omega
    subst hi
    exact wpAny_pyNext_enum_endD Dr he ⟨hit, show s.heap.IsTuple a its.toArray from p⟩ fun h' eb => ⟨rfl, I.turned (t' := s.toks) (fun b o hb q => eb b o hb q) f0 f1 f3 f4 f5⟩
  self := fun A i s Q E st h => let ⟨⟨_, he⟩, _⟩ := st; wpAny_pyIter_enum he h

def iEnumT (K : PySem.W.Frag) (ta : TA) : TI := fun σ H R => ta σ H fun vs H1 => ∃ a xs, vs = [.ref a] ∧ SqT K H1 a xs ∧ R (IteT K a 0) H1
theorem pi_enumT {X : Cx} {e : Expr} {ta : TA} {p pos tpos : Pos} {elts : List Expr} {kk : Nat} (hg : Gl X "enumerate") (hm : X.mg "enumerate" = none) (ha : PA X [e] ta) (hs : starEach [e] X.env = [(false, eval e X.env)] := by rfl) :
    PI X (.Tuple elts kk tpos) (.Call (.Name "enumerate" p) [e] [] pos) (iEnumT X.K ta) := by
  constructor
  intro pins s σ H R I h
  refine Call_ (ld_blt I hg hm boot_enumerate (PyProof.Rows.callWith_type1 (thn (ha.run pos pins s σ H _ I h) fun us s1 ⟨vs, H1, I1, r1, q1⟩ => ?_) hs rfl))
  obtain ⟨a, xs, ex, hq, q⟩ := q1
  subst ex
  obtain ⟨u, rfl, r⟩ := vals1 r1
  cases r
  obtain ⟨its, rv, p', hz⟩ := I1.tuple hq
  have hal : a < s1.heap.objs.size := by obtain ⟨_, e, _⟩ := id p'; exact Heap.lt_size e
  refine enum_one (begins_tuple a its.toArray) (show s1.heap.IsTuple a its.toArray from p') fun h' he hit hk => wpAny_pyIter_enum he ?_
  have I2 := I1.kept (h' := h') (t' := s1.toks) hk
  refine ⟨s1.heap.objs.size + 1, [s1.heap.objs.size + 1, s1.heap.objs.size], _, _, H1, rfl, I2, turn_enumT a (s1.heap.objs.size + 1) s1.heap.objs.size 0 (Nat.ne_of_lt hal) (Nat.ne_of_gt (Nat.lt_succ_of_lt hal)), ⟨⟨.none, he⟩, ⟨_, hit, rfl, rfl⟩, Nat.succ_ne_self _⟩, fun b hb => ?_, q⟩
  have hle : s1.heap.objs.size ≤ b := by
    rcases List.mem_cons.mp hb with z | z
    · rw [z]; exact Nat.le_add_right _ _
    · rw [List.mem_singleton.mp z]; exact Nat.le_refl _
  exact I1.fpOk hle (I1.hok.fresh hle)
end DL0

/-! DLa: a layer over the hand layer: values as trees (D), the mutable cells apart (MS); judgements over these. -/
namespace DL
open PySem PySem.Spec L2

/-- a value: tuples and lists that no one changes any more are trees; ref a: the cell at a, or a class, a def -/
inductive D where
  | non | bl (b : Bool) | int (i : Int) | str (s : Str) | tup (l : List D) | lst (l : List D) | scr (l : List D) | ref (a : Addr) | ty (n : String)

/-- a mutable cell -/
inductive MO where
  | lst (l : List D)
  | ins (C : Addr) (fs : List (Str × D))
  | dK (kvs : List (Key × D))
  | dT (kvs : List (List Key × D))

abbrev MS := Addr → Option MO
def updM (M : MS) (a : Addr) (o : MO) : MS := fun b => if b = a then some o else M b
theorem updM_same {M : MS} {a : Addr} {o : MO} : updM M a o a = some o := by unfold updM; rw [if_pos rfl]
theorem updM_ne {M : MS} {a b : Addr} {o : MO} (h : b ≠ a) : updM M a o b = M b := by unfold updM; rw [if_neg h]
theorem updM_upd {M : MS} {a : Addr} {o u : MO} : updM (updM M a o) a u = updM M a u := by
  funext b; unfold updM; split <;> rfl
theorem updM_self {M : MS} {a : Addr} {o : MO} (h : M a = some o) : updM M a o = M := by
  funext b; unfold updM; split
  · rename_i e; rw [e, h]
  · rfl
theorem updM_comm {M : MS} {a b : Addr} {o u : MO} (h : a ≠ b) : updM (updM M a o) b u = updM (updM M b u) a o := by
  funext c; unfold updM
  by_cases h1 : c = a <;> by_cases h2 : c = b <;> simp_all

mutual
inductive Dp (K : PySem.W.Frag) (F : Hp) : V → D → Prop
  | non : Dp K F .non .non
  | bl (b : Bool) : Dp K F (.bl b) (.bl b)
  | int (i : Int) : Dp K F (.int i) (.int i)
  | str (s : Str) : Dp K F (.str s) (.str s)
  | tup {a : Addr} {xs : List V} {l : List D} : F a = some (.tup xs) → DpL K F xs l → Dp K F (.ref a) (.tup l)
  | lst {a : Addr} {xs : List V} {l : List D} : F a = some (.lst xs) → DpL K F xs l → Dp K F (.ref a) (.lst l)
  | scr {a : Addr} {xs : List V} {l : List D} : SqL K F a xs → DpL K F xs l → Dp K F (.ref a) (.scr l)
  | ref (a : Addr) : Dp K F (.ref a) (.ref a)
  | ty (n : String) : Dp K F (.ty n) (.ty n)
inductive DpL (K : PySem.W.Frag) (F : Hp) : List V → List D → Prop
  | nil : DpL K F [] []
  | cons {v : V} {vs : List V} {d : D} {ds : List D} : Dp K F v d → DpL K F vs ds → DpL K F (v :: vs) (d :: ds)
end

/-- all that was known stands -/
def Ext (F F' : Hp) : Prop := ∀ a o, F a = some o → F' a = some o
theorem Ext.refl (F : Hp) : Ext F F := fun _ _ h => h
theorem Ext.trans {F F1 F2 : Hp} (a : Ext F F1) (b : Ext F1 F2) : Ext F F2 := fun x o h => b x o (a x o h)
theorem Ext.new {F : Hp} {p : Addr} {o : HO} (h : F p = none) : Ext F (upd F p o) := fun a u e => by
  rw [upd_ne (ne_of_none e h)]; exact e
theorem Ext.rd {F F' : Hp} (e : Ext F F') {a : Addr} {u : HO} (h : Rd F a u) : Rd F' a u := by
  rcases h with h | ⟨o, h⟩
  · exact .inl (e a _ h)
  · exact .inr ⟨o, e a _ h⟩
theorem Ext.sqL {K : PySem.W.Frag} {F F' : Hp} (e : Ext F F') {a : Addr} {xs : List V} (h : SqL K F a xs) : SqL K F' a xs := by
  rcases h with h | h
  · exact .inl (e.rd h)
  · exact .inr h
theorem Ext.sqT {K : PySem.W.Frag} {F F' : Hp} (e : Ext F F') {a : Addr} {xs : List V} (h : SqT K F a xs) : SqT K F' a xs := by
  rcases h with h | h
  · exact .inl (e.rd h)
  · exact .inr h
section
variable {K : PySem.W.Frag} {F F' : Hp}
mutual
theorem Dp.ext (e : Ext F F') : ∀ {d : D} {v : V}, Dp K F v d → Dp K F' v d
  | .non, _, h => by cases h; exact .non
  | .bl _, _, h => by cases h; exact .bl _
  | .int _, _, h => by cases h; exact .int _
  | .str _, _, h => by cases h; exact .str _
  | .tup _, _, h => by cases h with | tup s l => exact .tup (e _ _ s) (DpL.ext e l)
  | .lst _, _, h => by cases h with | lst s l => exact .lst (e _ _ s) (DpL.ext e l)
  | .scr _, _, h => by cases h with | scr s l => exact .scr (e.sqL s) (DpL.ext e l)
  | .ref _, _, h => by cases h; exact .ref _
  | .ty _, _, h => by cases h; exact .ty _
theorem DpL.ext (e : Ext F F') : ∀ {l : List D} {vs : List V}, DpL K F vs l → DpL K F' vs l
  | [], _, h => by cases h; exact .nil
  | _ :: _, _, h => by cases h with | cons a b => exact .cons (Dp.ext e a) (DpL.ext e b)
end
theorem DpL.length : ∀ {l : List D} {vs : List V}, DpL K F vs l → vs.length = l.length
  | [], _, h => by cases h; rfl
  | _ :: _, _, h => by cases h with | cons a b => exact congrArg (· + 1) (DpL.length b)
theorem DpL.get : ∀ {l : List D} {vs : List V} {i : Nat} {d : D}, DpL K F vs l → l[i]? = some d → ∃ v, vs[i]? = some v ∧ Dp K F v d
  | [], _, _, _, _, e => by simp at e
  | d :: l, _, 0, _, h, e => by
    cases h with | cons a b => simp at e; subst e; exact ⟨_, rfl, a⟩
  | d :: l, _, i + 1, _, h, e => by
    cases h with | cons a b =>
      obtain ⟨v, h1, h2⟩ := DpL.get (i := i) b (by simpa using e)
      exact ⟨v, by simpa using h1, h2⟩
theorem DpL.getV : ∀ {l : List D} {vs : List V} {i : Nat} {v : V}, DpL K F vs l → vs[i]? = some v → ∃ d, l[i]? = some d ∧ Dp K F v d
  | [], _, _, _, h, e => by cases h; simp at e
  | d :: l, _, 0, _, h, e => by
    cases h with | cons a b => simp at e; subst e; exact ⟨_, rfl, a⟩
  | d :: l, _, i + 1, _, h, e => by
    cases h with | cons a b =>
      obtain ⟨v, h1, h2⟩ := DpL.getV (i := i) b (by simpa using e)
      exact ⟨v, by simpa using h1, h2⟩
theorem DpL.append : ∀ {l l' : List D} {vs vs' : List V}, DpL K F vs l → DpL K F vs' l' → DpL K F (vs ++ vs') (l ++ l')
  | [], _, _, _, h, g => by cases h; exact g
  | _ :: _, _, _, _, h, g => by cases h with | cons a b => exact .cons a (DpL.append b g)
theorem DpL.take : ∀ {l : List D} {vs : List V} (n : Nat), DpL K F vs l → DpL K F (vs.take n) (l.take n)
  | _, _, 0, _ => .nil
  | [], _, _ + 1, h => by cases h; exact .nil
  | _ :: _, _, n + 1, h => by cases h with | cons a b => exact .cons a (DpL.take n b)
theorem DpL.drop : ∀ {l : List D} {vs : List V} (n : Nat), DpL K F vs l → DpL K F (vs.drop n) (l.drop n)
  | _, _, 0, h => h
  | [], _, _ + 1, h => by cases h; exact .nil
  | _ :: _, _, n + 1, h => by cases h with | cons a b => exact DpL.drop n b
theorem DpL.set : ∀ {l : List D} {vs : List V} (i : Nat) {v : V} {d : D}, DpL K F vs l → Dp K F v d → DpL K F (vs.set i v) (l.set i d)
  | [], _, _, _, _, h, _ => by cases h; exact .nil
  | _ :: _, _, 0, _, _, h, g => by cases h with | cons a b => exact .cons g b
  | _ :: _, _, i + 1, _, _, h, g => by cases h with | cons a b => exact .cons a (DpL.set i b g)
theorem DpL.one {v : V} {d : D} (h : Dp K F v d) : DpL K F [v] [d] := .cons h .nil
theorem DpL.ints : ∀ (ns : List Int), DpL K F (ns.map V.int) (ns.map D.int)
  | [] => .nil
  | _ :: r => .cons (.int _) (DpL.ints r)
theorem DpL.of_ints : ∀ {ns : List Int} {vs : List V}, DpL K F vs (ns.map D.int) → vs = ns.map V.int
  | [], _, h => by cases h; rfl
  | n :: r, _, h => by
    cases h with | cons a b =>
      cases a
      rw [DpL.of_ints b]
      rfl
end

/-- how a cell lies -/
def FsOk (K : PySem.W.Frag) (F : Hp) : List (Str × V) → List (Str × D) → Prop := Paired fun p q => p.1 = q.1 ∧ Dp K F p.2 q.2
def KvOk {κ : Type} (K : PySem.W.Frag) (F : Hp) : List (κ × V) → List (κ × D) → Prop := Paired fun p q => p.1 = q.1 ∧ Dp K F p.2 q.2
def CellOk (K : PySem.W.Frag) (F : Hp) (o : Option HO) : MO → Prop
  | .lst l => ∃ xs, o = some (.lst xs) ∧ DpL K F xs l
  | .ins C fs => ∃ dx vs, o = some (.ins C dx vs) ∧ FsOk K F vs fs
  | .dK kvs => ∃ vs, o = some (.dK vs) ∧ KvOk K F vs kvs
  | .dT kvs => ∃ vs, o = some (.dT vs) ∧ KvOk K F vs kvs
theorem Paired.ext2 {α β : Type} {G G' : α → β → Prop} (k : ∀ a b, G a b → G' a b) : ∀ {xs : List α} {ys : List β}, Paired G xs ys → Paired G' xs ys
  | _, _, .nil => .nil
  | _, _, .cons r t => .cons (k _ _ r) (Paired.ext2 k t)
theorem FsOk.ext {K : PySem.W.Frag} {F F' : Hp} (e : Ext F F') {vs : List (Str × V)} {fs : List (Str × D)} (h : FsOk K F vs fs) : FsOk K F' vs fs :=
  Paired.ext2 (fun _ _ ⟨a, b⟩ => ⟨a, b.ext e⟩) h
theorem KvOk.ext {κ : Type} {K : PySem.W.Frag} {F F' : Hp} (e : Ext F F') {vs : List (κ × V)} {fs : List (κ × D)} (h : KvOk K F vs fs) : KvOk K F' vs fs :=
  Paired.ext2 (fun _ _ ⟨a, b⟩ => ⟨a, b.ext e⟩) h
theorem CellOk.ext {K : PySem.W.Frag} {F F' : Hp} (e : Ext F F') {o : Option HO} : ∀ {m : MO}, CellOk K F o m → CellOk K F' o m
  | .lst _, ⟨xs, h, g⟩ => ⟨xs, h, g.ext e⟩
  | .ins _ _, ⟨dx, vs, h, g⟩ => ⟨dx, vs, h, g.ext e⟩
  | .dK _, ⟨vs, h, g⟩ => ⟨vs, h, g.ext e⟩
  | .dT _, ⟨vs, h, g⟩ => ⟨vs, h, g.ext e⟩

/-- the heap holds what is frozen (F) and the cells (M), apart -/
structure Rel (K : PySem.W.Frag) (H F : Hp) (M : MS) : Prop where
  fr : ∀ a o, F a = some o → H a = some o
  cell : ∀ a m, M a = some m → F a = none ∧ CellOk K F (H a) m
section
variable {K : PySem.W.Frag} {H F F' : Hp} {M : MS}
theorem CellOk.some {o : Option HO} : ∀ {m : MO}, CellOk K F o m → ∃ u, o = Option.some u
  | .lst _, ⟨_, h, _⟩ => ⟨_, h⟩
  | .ins _ _, ⟨_, _, h, _⟩ => ⟨_, h⟩
  | .dK _, ⟨_, h, _⟩ => ⟨_, h⟩
  | .dT _, ⟨_, h, _⟩ => ⟨_, h⟩
theorem Rel.ext (R : Rel K H F M) : Ext F H := R.fr
theorem Rel.freeF (R : Rel K H F M) {p : Addr} (h : H p = none) : F p = none := by
  cases e : F p with
  | none => rfl
  | some o => rw [R.fr p o e] at h; cases h
theorem Rel.freeM (R : Rel K H F M) {p : Addr} (h : H p = none) : M p = none := by
  cases e : M p with
  | none => rfl
  | some m =>
    obtain ⟨u, hu⟩ := (R.cell p m e).2.some
    rw [hu] at h; cases h
/-- a new frozen object -/
theorem Rel.newF (R : Rel K H F M) {p : Addr} {o : HO} (h : H p = none) : Rel K (upd H p o) (upd F p o) M where
  fr := fun a u e => by
    by_cases q : a = p
    · subst q; rw [upd_same] at e ⊢; exact e
    · rw [upd_ne q] at e ⊢; exact R.fr a u e
  cell := fun a m e => by
    have q : a ≠ p := fun z => by subst z; rw [R.freeM h] at e; cases e
    obtain ⟨h1, h2⟩ := R.cell a m e
    rw [upd_ne q, upd_ne q]
    exact ⟨h1, h2.ext (Ext.new (R.freeF h))⟩
/-- a new tracked object that is neither -/
theorem Rel.newH (R : Rel K H F M) {p : Addr} {o : HO} (h : H p = none) : Rel K (upd H p o) F M where
  fr := fun a u e => by
    have q : a ≠ p := fun z => by subst z; rw [R.freeF h] at e; cases e
    rw [upd_ne q]; exact R.fr a u e
  cell := fun a m e => by
    have q : a ≠ p := fun z => by subst z; rw [R.freeM h] at e; cases e
    obtain ⟨h1, h2⟩ := R.cell a m e
    rw [upd_ne q]
    exact ⟨h1, h2⟩
/-- a new cell -/
theorem Rel.newM (R : Rel K H F M) {p : Addr} {o : HO} {m : MO} (h : H p = none) (c : CellOk K F (some o) m) : Rel K (upd H p o) F (updM M p m) where
  fr := fun a u e => by
    have q : a ≠ p := fun z => by subst z; rw [R.freeF h] at e; cases e
    rw [upd_ne q]; exact R.fr a u e
  cell := fun a n e => by
    by_cases q : a = p
    · subst q; rw [updM_same] at e; cases e; rw [upd_same]; exact ⟨R.freeF h, c⟩
    · rw [updM_ne q] at e
      rw [upd_ne q]
      exact R.cell a n e
/-- a cell is written -/
theorem Rel.write (R : Rel K H F M) {p : Addr} {o : HO} {m m0 : MO} (h : M p = some m0) (c : CellOk K F (some o) m) : Rel K (upd H p o) F (updM M p m) where
  fr := fun a u e => by
    have q : a ≠ p := fun z => by subst z; rw [(R.cell a m0 h).1] at e; cases e
    rw [upd_ne q]; exact R.fr a u e
  cell := fun a n e => by
    by_cases q : a = p
    · subst q; rw [updM_same] at e; cases e; rw [upd_same]; exact ⟨(R.cell a m0 h).1, c⟩
    · rw [updM_ne q] at e
      rw [upd_ne q]
      exact R.cell a n e
/-- forgetting cells -/
theorem Rel.forget (R : Rel K H F M) {M' : MS} (h : ∀ a m, M' a = some m → M a = some m) : Rel K H F M' :=
  ⟨R.fr, fun a m e => R.cell a m (h a m e)⟩
def dropM (M : MS) (a : Addr) : MS := fun b => if b = a then none else M b
/-- a list cell is frozen -/
theorem Rel.freeze (R : Rel K H F M) {a : Addr} {l : List D} (h : M a = some (.lst l)) :
    ∃ F', Ext F F' ∧ Rel K H F' (dropM M a) ∧ Dp K F' (.ref a) (.lst l) := by
  obtain ⟨h1, xs, h2, h3⟩ := R.cell a _ h
  refine ⟨upd F a (.lst xs), Ext.new h1, ⟨fun b u e => ?_, fun b m e => ?_⟩,   .lst upd_same (h3.ext (Ext.new h1))⟩
  · by_cases q : b = a
    · subst q; rw [upd_same] at e; cases e; exact h2
    · rw [upd_ne q] at e; exact R.fr b u e
  · unfold dropM at e
    by_cases q : b = a
    · rw [if_pos q] at e; cases e
    · rw [if_neg q] at e
      obtain ⟨g1, g2⟩ := R.cell b m e
      rw [upd_ne q]
      exact ⟨g1, g2.ext (Ext.new h1)⟩
end

abbrev DSt := List (Option D)
def Slots (K : PySem.W.Frag) (F : Hp) (σ : L2.St) (ds : DSt) : Prop := ds.length = σ.length ∧ ∀ (i : Nat) (d : D), ds[i]? = some (some d) → ∃ v, σ[i]? = some (some v) ∧ Dp K F v d
theorem Slots.ext {K : PySem.W.Frag} {F F' : Hp} (e : Ext F F') {σ : St} {ds : DSt} (h : Slots K F σ ds) : Slots K F' σ ds :=
  ⟨h.1, fun i d g => let ⟨v, a, b⟩ := h.2 i d g; ⟨v, a, b.ext e⟩⟩
theorem Slots.set {K : PySem.W.Frag} {F : Hp} {σ : St} {ds : DSt} (h : Slots K F σ ds) (i : Nat) {v : V} {d : D} (r : Dp K F v d) : Slots K F (σ.set i (some v)) (ds.set i (some d)) := by
  refine ⟨by simpa using h.1, fun j e g => ?_⟩
  by_cases q : i = j
  · subst q
    by_cases hl : i < ds.length
    · rw [List.getElem?_set_self hl] at g
      cases g
      exact ⟨v, List.getElem?_set_self (h.1 ▸ hl), r⟩
    · rw [List.getElem?_eq_none (by simpa using hl)] at g; cases g
  · rw [List.getElem?_set_ne q] at g ⊢
    exact h.2 j e g
theorem Slots.forget {K : PySem.W.Frag} {F : Hp} {σ : St} {ds ds' : DSt} (h : Slots K F σ ds) (hl : ds'.length = ds.length) (k : ∀ (i : Nat) (d : D), ds'[i]? = some (some d) → ds[i]? = some (some d)) : Slots K F σ ds' :=
  ⟨hl.trans h.1, fun i d g => h.2 i d (k i d g)⟩

/-- an exception: its class, its fields, the cells -/
abbrev XD := Value → List (Str × D) → MS → Prop
abbrev QD := D → MS → Prop
abbrev TEd := XD → DSt → MS → QD → Prop
abbrev TTd := XD → DSt → MS → (Bool → MS → Prop) → Prop
abbrev TAd := XD → DSt → MS → (List D → MS → Prop) → Prop
structure EndsD where
  nx : DSt → MS → Prop
  rt : QD
  bk : DSt → MS → Prop := fun _ _ => False
  ct : DSt → MS → Prop := fun _ _ => False
  xe : XD := fun _ _ _ => False
abbrev TSd := EndsD → DSt → MS → Prop

def XFs (K : PySem.W.Frag) (H F : Hp) : Option Addr → List (Str × D) → Prop
  | none, fs => fs = []
  | some d, fs => ∃ vs, H d = some (.xd vs) ∧ FsOk K F vs fs
def PostE (K : PySem.W.Frag) (F : Hp) (Qd : QD) (Q : VK) : Prop := ∀ v H' F' M' d, Ext F F' → Rel K H' F' M' → Dp K F' v d → Qd d M' → Q v H'
def PostB (K : PySem.W.Frag) (F : Hp) (Qd : Bool → MS → Prop) (Q : Bool → Hp → Prop) : Prop := ∀ b H' F' M', Ext F F' → Rel K H' F' M' → Qd b M' → Q b H'
def PostA (K : PySem.W.Frag) (F : Hp) (Qd : List D → MS → Prop) (Q : List V → Hp → Prop) : Prop := ∀ vs H' F' M' ds, Ext F F' → Rel K H' F' M' → DpL K F' vs ds → Qd ds M' → Q vs H'
def PostS (K : PySem.W.Frag) (F : Hp) (Qd : DSt → MS → Prop) (Q : St → Hp → Prop) : Prop := ∀ σ H' F' M' ds, Ext F F' → Rel K H' F' M' → Slots K F' σ ds → Qd ds M' → Q σ H'
def PostX (K : PySem.W.Frag) (F : Hp) (Ed : XD) (E : XK) : Prop := ∀ c od H' F' M' fs, Ext F F' → Rel K H' F' M' → XFs K H' F' od fs → Ed c fs M' → E c od H'
theorem PostE.ext {K : PySem.W.Frag} {F F1 : Hp} {Qd : QD} {Q : VK} (h : PostE K F Qd Q) (e : Ext F F1) : PostE K F1 Qd Q := fun v H' F' M' d a => h v H' F' M' d (e.trans a)
theorem PostB.ext {K : PySem.W.Frag} {F F1 : Hp} {Qd : Bool → MS → Prop} {Q : Bool → Hp → Prop} (h : PostB K F Qd Q) (e : Ext F F1) : PostB K F1 Qd Q := fun v H' F' M' a => h v H' F' M' (e.trans a)
theorem PostA.ext {K : PySem.W.Frag} {F F1 : Hp} {Qd : List D → MS → Prop} {Q : List V → Hp → Prop} (h : PostA K F Qd Q) (e : Ext F F1) : PostA K F1 Qd Q := fun v H' F' M' d a => h v H' F' M' d (e.trans a)
theorem PostS.ext {K : PySem.W.Frag} {F F1 : Hp} {Qd : DSt → MS → Prop} {Q : St → Hp → Prop} (h : PostS K F Qd Q) (e : Ext F F1) : PostS K F1 Qd Q := fun v H' F' M' d a => h v H' F' M' d (e.trans a)
theorem PostX.ext {K : PySem.W.Frag} {F F1 : Hp} {Ed : XD} {E : XK} (h : PostX K F Ed E) (e : Ext F F1) : PostX K F1 Ed E := fun c od H' F' M' fs a => h c od H' F' M' fs (e.trans a)
theorem PostX.none {K : PySem.W.Frag} {F : Hp} {E : XK} : PostX K F (fun _ _ _ => False) E := fun _ _ _ _ _ _ _ _ _ h => h.elim

def liftE (K : PySem.W.Frag) (E : XK) (t : TEd) : TE := fun σ H Q => ∃ F M ds Qd Ed, Rel K H F M ∧ Slots K F σ ds ∧ t Ed ds M Qd ∧ PostE K F Qd Q ∧ PostX K F Ed E
def liftT (K : PySem.W.Frag) (E : XK) (t : TTd) : TT := fun σ H Q => ∃ F M ds Qd Ed, Rel K H F M ∧ Slots K F σ ds ∧ t Ed ds M Qd ∧ PostB K F Qd Q ∧ PostX K F Ed E
def liftA (K : PySem.W.Frag) (E : XK) (t : TAd) : TA := fun σ H Q => ∃ F M ds Qd Ed, Rel K H F M ∧ Slots K F σ ds ∧ t Ed ds M Qd ∧ PostA K F Qd Q ∧ PostX K F Ed E
def liftS (K : PySem.W.Frag) (E : XK) (t : TSd) : TS := fun D σ H => ∃ F M ds Dd, Rel K H F M ∧ Slots K F σ ds ∧ t Dd ds M ∧ PostS K F Dd.nx D.nx ∧ PostE K F Dd.rt D.rt ∧ PostS K F Dd.bk D.bk ∧ PostS K F Dd.ct D.ct ∧ PostX K F Dd.xe E

theorem PE.mono {X : Cx} {e : Expr} {t t' : TE} (h : PE X e t) (k : ∀ σ H Q, t' σ H Q → t σ H Q) : PE X e t' := ⟨fun pins s σ H Q I q => h.run pins s σ H Q I (k σ H Q q)⟩
theorem PT.mono {X : Cx} {e : Expr} {t t' : TT} (h : PT X e t) (k : ∀ σ H Q, t' σ H Q → t σ H Q) : PT X e t' := ⟨fun pins s σ H Q I q => h.run pins s σ H Q I (k σ H Q q)⟩
theorem PW.mono {X : Cx} {e : Expr} {t t' : TT} (h : PW X e t) (k : ∀ σ H Q, t' σ H Q → t σ H Q) : PW X e t' := ⟨fun wh pins s σ H Q I q => h.run wh pins s σ H Q I (k σ H Q q)⟩
theorem PA.mono {X : Cx} {es : List Expr} {t t' : TA} (h : PA X es t) (k : ∀ σ H Q, t' σ H Q → t σ H Q) : PA X es t' := ⟨fun pos pins s σ H Q I q => h.run pos pins s σ H Q I (k σ H Q q)⟩
theorem PS.mono {X : Cx} {e : Stmt} {t t' : TS} (h : PS X e t) (k : ∀ D σ H, t' D σ H → t D σ H) : PS X e t' := ⟨fun pins s σ H D I q => h.run pins s σ H D I (k D σ H q)⟩
theorem PSs.mono {X : Cx} {e : List Stmt} {t t' : TS} (h : PSs X e t) (k : ∀ D σ H, t' D σ H → t D σ H) : PSs X e t' := ⟨fun pins s σ H D I q => h.run pins s σ H D I (k D σ H q)⟩

def PEd (X : Cx) (E : XK) (e : Expr) (t : TEd) : Prop := PE X e (liftE X.K E t)
def PTd (X : Cx) (E : XK) (e : Expr) (t : TTd) : Prop := PT X e (liftT X.K E t)
def PWd (X : Cx) (E : XK) (e : Expr) (t : TTd) : Prop := PW X e (liftT X.K E t)
def PAd (X : Cx) (E : XK) (es : List Expr) (t : TAd) : Prop := PA X es (liftA X.K E t)
def PSd (X : Cx) (E : XK) (e : Stmt) (t : TSd) : Prop := PS X e (liftS X.K E t)
def PSsd (X : Cx) (E : XK) (e : List Stmt) (t : TSd) : Prop := PSs X e (liftS X.K E t)
theorem PEd.mono {X : Cx} {E : XK} {e : Expr} {t t' : TEd} (h : PEd X E e t) (k : ∀ Ed ds M Q, t' Ed ds M Q → t Ed ds M Q) : PEd X E e t' :=
  PE.mono h fun σ H Q ⟨F, M, ds, Qd, Ed, R, S, q, p, x⟩ => ⟨F, M, ds, Qd, Ed, R, S, k _ _ _ _ q, p, x⟩
theorem PSsd.mono {X : Cx} {E : XK} {e : List Stmt} {t t' : TSd} (h : PSsd X E e t) (k : ∀ D ds M, t' D ds M → t D ds M) : PSsd X E e t' :=
  PSs.mono h fun D σ H ⟨F, M, ds, Dd, R, S, q, p⟩ => ⟨F, M, ds, Dd, R, S, k _ _ _ q, p⟩
theorem PWd.pt {X : Cx} {E : XK} {e : Expr} {t : TTd} (h : PWd X E e t) : PTd X E e t := PW.pt h

/-! ### promises -/
abbrev SpD := List D → MS → QD → XD → Prop
/-- a promise over trees, as a promise of the hand layer -/
def spL (K : PySem.W.Frag) (sp : SpD) : Sp := fun vs H Q E => ∃ F M ds Qd Ed, Rel K H F M ∧ DpL K F vs ds ∧ sp ds M Qd Ed ∧ PostE K F Qd Q ∧ PostX K F Ed E
theorem spL_len {K : PySem.W.Frag} {sp : SpD} {n : Nat} (h : ∀ ds M Q E, sp ds M Q E → ds.length = n) : ∀ vs H Q E, spL K sp vs H Q E → vs.length = n := by
  rintro vs H Q E ⟨F, M, ds, Qd, Ed, R, r, q, _⟩
  rw [r.length]
  exact h _ _ _ _ q
/-- the slots at a def's entry -/
def startD (n : Nat) (ds : List D) : DSt := ds.map some ++ List.replicate (n - ds.length) none
theorem startD_ok {K : PySem.W.Frag} {F : Hp} {N : List Str} {vs : List V} {ds : List D} (h : DpL K F vs ds) : Slots K F (L2.start N vs) (startD N.length ds) := by
  refine ⟨by simp [startD, L2.start, h.length], fun i d g => ?_⟩
  unfold startD at g
  unfold L2.start
  by_cases hi : i < ds.length
  · rw [List.getElem?_append_left (by simpa using hi)] at g
    rw [List.getElem?_append_left (by simpa [h.length] using hi)]
    rw [List.getElem?_map] at g ⊢
    cases e : ds[i]? with
    | none => rw [e] at g; cases g
    | some d' =>
      rw [e] at g
      cases g
      obtain ⟨v, h1, h2⟩ := h.get e
      exact ⟨v, by rw [h1]; rfl, h2⟩
  · rw [List.getElem?_append_right (by simpa using hi), List.getElem?_replicate] at g
    split at g <;> cases g
/-- what a def's body is to reach -/
def bodyD (Q : QD) (E : XD) : EndsD := { nx := fun _ M => Q .non M, rt := Q, xe := E }
/-- the cells that a caller had stand: for defs that hand back what they were given -/
theorem body_ok {K : PySem.W.Frag} {sp : SpD} {t : TSd} {N : List Str} (h : ∀ ds M Q E, sp ds M Q E → t (bodyD Q E) (startD N.length ds) M) {vs : List V} {H : Hp} {Q : VK} {E : XK}
    (q : spL K sp vs H Q E) : liftS K E t { nx := fun _ H' => Q .non H', rt := Q } (L2.start N vs) H := by
  obtain ⟨F, M, ds, Qd, Ed, R, r, q, p, x⟩ := q
  exact ⟨F, M, _, _, R, startD_ok r, h _ _ _ _ q, fun σ H' F' M' ds' e R' _ q' => p _ _ _ _ _ e R' .non q', p, fun _ _ _ _ _ _ _ _ h => h.elim, fun _ _ _ _ _ _ _ _ h => h.elim, x⟩
end DL

/-! DLb: expressions over trees. -/
namespace DL
open PySem PySem.Spec L2

/-! ### what a value is read as -/
def asSeq (M : MS) : D → Option (List D)
  | .tup l => some l
  | .lst l => some l
  | .scr l => some l
  | .ref a => match M a with
    | some (.lst l) => some l
    | _ => none
  | _ => none
def asLst (M : MS) : D → Option (List D)
  | .lst l => some l
  | .scr l => some l
  | .ref a => match M a with
    | some (.lst l) => some l
    | _ => none
  | _ => none
/-- a list that is tracked (no script) -/
def asTL (M : MS) : D → Option (List D)
  | .lst l => some l
  | .ref a => match M a with
    | some (.lst l) => some l
    | _ => none
  | _ => none
section
variable {K : PySem.W.Frag} {H F : Hp} {M : MS} {x : V} {d : D} {l : List D}
theorem Ext.sq {F' : Hp} (e : Ext F F') {a : Addr} {xs : List V} (h : SqL K F a xs ∨ SqT K F a xs) : SqL K F' a xs ∨ SqT K F' a xs := h.imp e.sqL e.sqT
theorem tlV (R : Rel K H F M) (r : Dp K F x d) (e : asTL M d = some l) : ∃ a xs, x = .ref a ∧ H a = some (.lst xs) ∧ DpL K F xs l := by
  cases r with
  | lst s q => cases e; exact ⟨_, _, rfl, R.fr _ _ s, q⟩
  | ref a =>
    unfold asTL at e
    cases hm : M a with
    | none => simp [hm] at e
    | some m =>
      cases m with
      | lst l' =>
        simp [hm] at e
        subst e
        obtain ⟨_, xs, h1, h2⟩ := R.cell a _ hm
        exact ⟨a, xs, rfl, h1, h2⟩
      | _ => simp [hm] at e
  | _ => cases e
theorem lstV (R : Rel K H F M) (r : Dp K F x d) (e : asLst M d = some l) : ∃ a xs, x = .ref a ∧ SqL K H a xs ∧ DpL K F xs l := by
  cases r with
  | lst s q => cases e; exact ⟨_, _, rfl, SqL.of (R.fr _ _ s), q⟩
  | scr s q => cases e; exact ⟨_, _, rfl, R.ext.sqL s, q⟩
  | ref a =>
    obtain ⟨b, xs, h1, h2, h3⟩ := tlV R (.ref a) (l := l) (by unfold asLst at e; unfold asTL; exact e)
    exact ⟨b, xs, h1, SqL.of h2, h3⟩
  | _ => cases e
theorem seqV (R : Rel K H F M) (r : Dp K F x d) (e : asSeq M d = some l) : ∃ a xs, x = .ref a ∧ (SqL K H a xs ∨ SqT K H a xs) ∧ DpL K F xs l := by
  cases r with
  | tup s q => cases e; exact ⟨_, _, rfl, .inr (SqT.of (R.ext _ _ s)), q⟩
  | lst s q => cases e; exact ⟨_, _, rfl, .inl (SqL.of (R.fr _ _ s)), q⟩
  | scr s q => cases e; exact ⟨_, _, rfl, .inl (R.ext.sqL s), q⟩
  | ref a =>
    obtain ⟨b, xs, h1, h2, h3⟩ := tlV R (.ref a) (l := l) (by unfold asSeq at e; unfold asTL; exact e)
    exact ⟨b, xs, h1, .inl (SqL.of h2), h3⟩
  | _ => cases e
theorem tupV (R : Rel K H F M) (r : Dp K F x (.tup l)) : ∃ a xs, x = .ref a ∧ SqT K H a xs ∧ DpL K F xs l := by
  cases r with
  | tup s q => exact ⟨_, _, rfl, SqT.of (R.ext _ _ s), q⟩
/-- a new list: frozen, or a cell -/
def nl (m : Bool) (l : List D) (M : MS) (Q : QD) : Prop := match m with
  | false => Q (.lst l) M
  | true => ∀ a, M a = none → Q (.ref a) (updM M a (.lst l))
theorem nl_ok {m : Bool} {xs : List V} {Qd : QD} {Q : VK} {p : Addr} (R : Rel K H F M) (r : DpL K F xs l) (h : nl m l M Qd) (po : PostE K F Qd Q) (hp : H p = none) : Q (.ref p) (upd H p (.lst xs)) := by
  cases m with
  | false => exact po _ _ _ _ _ (Ext.new (R.freeF hp)) (R.newF hp) (.lst upd_same (r.ext (Ext.new (R.freeF hp)))) h
  | true => exact po _ _ _ _ _ (Ext.refl F) (R.newM (m := .lst l) hp ⟨xs, rfl, r⟩) (.ref p) (h p (R.freeM hp))
theorem nt_ok {xs : List V} {Qd : QD} {Q : VK} {p : Addr} (R : Rel K H F M) (r : DpL K F xs l) (h : Qd (.tup l) M) (po : PostE K F Qd Q) (hp : H p = none) : Q (.ref p) (upd H p (.tup xs)) :=
  po _ _ _ _ _ (Ext.new (R.freeF hp)) (R.newF hp) (.tup upd_same (r.ext (Ext.new (R.freeF hp)))) h
/-- a result that makes nothing -/
theorem same_ok {v : V} {Qd : QD} {Q : VK} (R : Rel K H F M) (r : Dp K F v d) (h : Qd d M) (po : PostE K F Qd Q) : Q v H := po _ _ _ _ _ (Ext.refl F) R r h
end

/-! ### the rules by values -/
abbrev R2d := D → D → MS → QD → Prop
abbrev R1d := D → MS → QD → Prop
abbrev RCd := List D → MS → QD → Prop
def Lf2 (K : PySem.W.Frag) (r : R2) (rd : R2d) : Prop := ∀ x y d e H F M Qd Q, Rel K H F M → Dp K F x d → Dp K F y e → rd d e M Qd → PostE K F Qd Q → r x y H Q
def Lf1 (K : PySem.W.Frag) (r : V → Hp → VK → Prop) (rd : R1d) : Prop := ∀ x d H F M Qd Q, Rel K H F M → Dp K F x d → rd d M Qd → PostE K F Qd Q → r x H Q
def LfC (K : PySem.W.Frag) (r : List V → Hp → VK → Prop) (rd : RCd) : Prop := ∀ xs ds H F M Qd Q, Rel K H F M → DpL K F xs ds → rd ds M Qd → PostE K F Qd Q → r xs H Q
def LfM (K : PySem.W.Frag) (r : V → List V → Hp → VK → Prop) (rd : D → RCd) : Prop := ∀ x xs d ds H F M Qd Q, Rel K H F M → Dp K F x d → DpL K F xs ds → rd d ds M Qd → PostE K F Qd Q → r x xs H Q

section
variable {X : Cx} {E : XK} {a b e : Expr} {es : List Expr} {ta tb te : TEd} {t : TAd} {pos p : Pos}

/-! ### names, constants -/
def eVar (i : Nat) : TEd := fun _ ds M Q => match ds[i]? with
  | some (some d) => Q d M
  | _ => False
def eC (d : D) : TEd := fun _ _ M Q => Q d M
theorem de_var (i : Nat) {x : Str} (hN : X.N[i]? = some x := by rfl) (hv : Vis X.env.scope x := by first | exact Or.inl rfl | exact Or.inr (Or.inl rfl) | exact Or.inr (Or.inr rfl)) (hd : (x == ("__debug__" : Str)) = false := by decide)
    (hcd : (x == ("__classdict__" : Str)) = false := by decide) : PEd X E (.Name x pos) (eVar i) := by
  refine PE.mono (pe_var (pos := pos) hN hv hd hcd) fun σ H Q ⟨F, M, ds, Qd, Ed, R, S, q, p, x⟩ => ?_
  unfold eVar at q
  cases h : ds[i]? with
  | none => simp [h] at q
  | some o =>
    cases o with
    | none => simp [h] at q
    | some d =>
      simp only [h] at q
      obtain ⟨v, h1, h2⟩ := S.2 i d h
      exact ⟨v, h1, same_ok R h2 q p⟩
theorem de_c {v : V} {d : D} (h : PE X e (tC v)) (r : ∀ F, Dp X.K F v d) : PEd X E e (eC d) :=
  PE.mono h fun σ H Q ⟨F, M, ds, Qd, Ed, R, S, q, p, x⟩ => same_ok R (r F) q p
theorem de_int {i j} : PEd X E (.Constant (.int i) j pos) (eC (.int i)) := de_c pe_int fun _ => .int _
theorem de_bl {b j} : PEd X E (.Constant (.bool b) j pos) (eC (.bl b)) := de_c pe_bl fun _ => .bl _
theorem de_non {j} : PEd X E (.Constant .none j pos) (eC .non) := de_c pe_non fun _ => .non
theorem de_str {x j} : PEd X E (.Constant (.str x) j pos) (eC (.str x)) := de_c pe_str fun _ => .str _
theorem de_ty {x : Str} {n : String} (hg : Gl X x) (hm : X.mg x = none) (hv : bootBuiltins x = some (.type n)) (hn : x ≠ "__name__" := by decide) (hd : (x == ("__debug__" : Str)) = false := by decide) : PEd X E (.Name x pos) (eC (.ty n)) :=
  de_c (pe_bltn (v := .ty n) hg hm hv rfl hn hd) fun _ => .ty _
theorem de_gint {x : Str} {i : Int} (hg : Gl X x) (hm : ∃ t, X.mg x = some (.int i t)) (hd : (x == ("__debug__" : Str)) = false := by decide) : PEd X E (.Name x pos) (eC (.int i)) := by
  obtain ⟨t, hm⟩ := hm
  exact de_c (pe_glob (v := .int i) hg hm ⟨t, rfl⟩ hd) fun _ => .int _
theorem de_gstr {x y : Str} (hg : Gl X x) (hm : ∃ t, X.mg x = some (.str y t)) (hd : (x == ("__debug__" : Str)) = false := by decide) : PEd X E (.Name x pos) (eC (.str y)) := by
  obtain ⟨t, hm⟩ := hm
  exact de_c (pe_glob (v := .str y) hg hm ⟨t, rfl⟩ hd) fun _ => .str _
theorem de_gref {x : Str} {c : Addr} (hg : Gl X x) (hm : X.mg x = some (.ref c)) (hd : (x == ("__debug__" : Str)) = false := by decide) : PEd X E (.Name x pos) (eC (.ref c)) :=
  de_c (pe_glob (v := .ref c) hg hm rfl hd) fun _ => .ref _

/-! ### operators -/
def eOp (rd : R2d) (ta tb : TEd) : TEd := fun Ed ds M Q => ta Ed ds M fun x M1 => tb Ed ds M1 fun y M2 => rd x y M2 Q
theorem lift_op {r : R2} {rd : R2d} (l : Lf2 X.K r rd) (σ : L2.St) (H : Hp) (Q : VK) (h : liftE X.K E (eOp rd ta tb) σ H Q) : tOp r (liftE X.K E ta) (liftE X.K E tb) σ H Q := by
  obtain ⟨F, M, ds, Qd, Ed, R, S, q, p, x⟩ := h
  refine ⟨F, M, ds, _, Ed, R, S, q, fun v H1 F1 M1 d e1 R1 r1 q1 => ?_, x⟩
  exact ⟨F1, M1, ds, _, Ed, R1, S.ext e1, q1, fun u H2 F2 M2 e e2 R2 r2 q2 => l _ _ _ _ _ _ _ _ _ R2 (r1.ext e2) r2 q2 (p.ext (e1.trans e2)), x.ext e1⟩
theorem de_op {op : Operator} {r : R2} {rd : R2d} (ho : OpR X (binaryOp op) r) (l : Lf2 X.K r rd) (ha : PEd X E a ta) (hb : PEd X E b tb) : PEd X E (.BinOp a op b pos) (eOp rd ta tb) :=
  PE.mono (pe_op ho ha hb) (lift_op l)
theorem de_cmp {op : CmpOp} {r : R2} {rd : R2d} (ho : OpR X (compareOp op) r) (l : Lf2 X.K r rd) (ha : PEd X E a ta) (hb : PEd X E b tb) (hm : behindInMarks op b = false := by first | exact nomark _ | rfl) : PEd X E (.Compare a [op] [b] pos) (eOp rd ta tb) :=
  PE.mono (pe_cmpR ho ha hb hm) (lift_op l)
def eUn (rd : R1d) (ta : TEd) : TEd := fun Ed ds M Q => ta Ed ds M fun x M1 => rd x M1 Q
theorem lift_un {r : V → Hp → VK → Prop} {rd : R1d} (l : Lf1 X.K r rd) (σ : L2.St) (H : Hp) (Q : VK) (h : liftE X.K E (eUn rd ta) σ H Q) : tUn r (liftE X.K E ta) σ H Q := by
  obtain ⟨F, M, ds, Qd, Ed, R, S, q, p, x⟩ := h
  exact ⟨F, M, ds, _, Ed, R, S, q, fun v H1 F1 M1 d e1 R1 r1 q1 => l _ _ _ _ _ _ _ R1 r1 q1 (p.ext e1), x⟩
theorem de_un {op : UnaryOp} {r : V → Hp → VK → Prop} {rd : R1d} (ho : UnR X (unaryOp op) r) (l : Lf1 X.K r rd) (ha : PEd X E a ta) : PEd X E (.UnaryOp op a pos) (eUn rd ta) :=
  PE.mono (pe_un ho ha) (lift_un l)
def rdNeg : R1d := fun x M Q => match x with
  | .int i => Q (.int (-i)) M
  | _ => False
theorem lf_neg {K : PySem.W.Frag} : Lf1 K (rU fun i => .int (-i)) rdNeg := by
  intro x d H F M Qd Q R r q po
  cases r <;> first | exact q.elim | skip
  exact ⟨_, rfl, same_ok R (.int _) q po⟩
theorem de_neg (ha : PEd X E a ta) : PEd X E (.UnaryOp .USub a pos) (eUn rdNeg ta) := de_un un_neg lf_neg ha

/-- + -/
def rdAdd (m : Bool) : R2d := fun x y M Q => match x, y with
  | .int i, .int j => Q (.int (i + j)) M
  | .str i, .str j => i.length + j.length ≤ sizeLine ∧ Q (.str (i ++ j)) M
  | .tup i, .tup j => i.length + j.length ≤ sizeLine ∧ Q (.tup (i ++ j)) M
  | x, y => ∃ i j, asTL M x = some i ∧ asTL M y = some j ∧ i.length + j.length ≤ sizeLine ∧ nl m (i ++ j) M Q
abbrev rAdd (K : PySem.W.Frag) : R2 := fun x y H Q => rI0 (fun i j => .int (i + j)) x y H Q ∨ (∃ i j, x = .str i ∧ y = .str j ∧ i.length + j.length ≤ sizeLine ∧ Q (.str (i ++ j)) H) ∨ rCatA K x y H Q ∨ rCat x y H Q
theorem op_addD : OpR X (binaryOp .Add) (rAdd X.K) := op_add.or (op_add_str.or (op_catA.or op_cat))
theorem DpL.nil_iff {K : PySem.W.Frag} {F : Hp} {xs : List V} {l : List D} (r : DpL K F xs l) : xs = [] ↔ l = [] := by
  cases r <;> simp
theorem lf_add {K : PySem.W.Frag} {m : Bool} : Lf2 K (rAdd K) (rdAdd m) := by
  intro x y d e H F M Qd Q R r s q po
  have lists : ∀ {i j : List D}, asTL M d = some i → asTL M e = some j → i.length + j.length ≤ sizeLine → nl m (i ++ j) M Qd → rAdd K x y H Q := fun {i j} h1 h2 h3 h4 => by
    obtain ⟨a, xs, rfl, hx, dx⟩ := tlV R r h1
    obtain ⟨b, ys, rfl, hy, dy⟩ := tlV R s h2
    exact .inr (.inr (.inr ⟨a, b, xs, ys, rfl, rfl, hx, hy, by rw [dx.length, dy.length]; exact h3, fun p hp => nl_ok R (dx.append dy) h4 po hp⟩))
  unfold rdAdd at q
  split at q
  · cases r; cases s
    exact .inl ⟨_, _, rfl, rfl, same_ok R (.int _) q po⟩
  · cases r; cases s
    exact .inr (.inl ⟨_, _, rfl, rfl, q.1, same_ok R (.str _) q.2 po⟩)
  · rename_i i j
    obtain ⟨a, xs, rfl, hx, dx⟩ := tupV R r
    obtain ⟨b, ys, rfl, hy, dy⟩ := tupV R s
    refine .inr (.inr (.inl ⟨a, b, xs, ys, rfl, rfl, hx, hy, by rw [dx.length, dy.length]; exact q.1, fun h => ?_, fun h h' => ?_, fun h h' p hp => ?_⟩))
    · have := dx.nil_iff.mp h; subst this
      exact same_ok R s q.2 po
    · have := dy.nil_iff.mp h'; subst this
      have q2 := q.2
      rw [List.append_nil] at q2
      exact same_ok R r q2 po
    · exact nt_ok R (dx.append dy) q.2 po hp
  · obtain ⟨i, j, h1, h2, h3, h4⟩ := q
    exact lists h1 h2 h3 h4
theorem de_add (m : Bool) (ha : PEd X E a ta) (hb : PEd X E b tb) : PEd X E (.BinOp a .Add b pos) (eOp (rdAdd m) ta tb) := de_op op_addD lf_add ha hb
/-- ints -/
def rdI (C : Int → Int → Prop) (g : Int → Int → D) : R2d := fun x y M Q => match x, y with
  | .int i, .int j => C i j ∧ Q (g i j) M
  | _, _ => False
def rdI0 (g : Int → Int → D) : R2d := fun x y M Q => match x, y with
  | .int i, .int j => Q (g i j) M
  | _, _ => False
theorem lf_I0 {K : PySem.W.Frag} {g : Int → Int → V} {gd : Int → Int → D} (h : ∀ F i j, Dp K F (g i j) (gd i j)) : Lf2 K (rI0 g) (rdI0 gd) := by
  intro x y d e H F M Qd Q R r s q po
  unfold rdI0 at q
  split at q
  · cases r; cases s
    exact ⟨_, _, rfl, rfl, same_ok R (h F _ _) q po⟩
  · exact q.elim
theorem lf_I {K : PySem.W.Frag} {C : Int → Int → Prop} {g : Int → Int → V} {gd : Int → Int → D} (h : ∀ F i j, Dp K F (g i j) (gd i j)) : Lf2 K (rI C g) (rdI C gd) := by
  intro x y d e H F M Qd Q R r s q po
  unfold rdI at q
  split at q
  · cases r; cases s
    exact ⟨_, _, rfl, rfl, q.1, same_ok R (h F _ _) q.2 po⟩
  · exact q.elim
abbrev rdSub : R2d := rdI0 fun i j => .int (i - j)
theorem de_sub (ha : PEd X E a ta) (hb : PEd X E b tb) : PEd X E (.BinOp a .Sub b pos) (eOp rdSub ta tb) := de_op op_sub (lf_I0 fun _ _ _ => .int _) ha hb
abbrev rdFdiv : R2d := rdI CDivW fun i j => .int (i / j)
theorem de_fdiv (ha : PEd X E a ta) (hb : PEd X E b tb) : PEd X E (.BinOp a .FloorDiv b pos) (eOp rdFdiv ta tb) := de_op op_fdivW (lf_I fun _ _ _ => .int _) ha hb
abbrev rdMod : R2d := rdI (fun _ j => 0 < j) fun i j => .int (i % j)
theorem de_mod (ha : PEd X E a ta) (hb : PEd X E b tb) : PEd X E (.BinOp a .Mod b pos) (eOp rdMod ta tb) := de_op op_mod (lf_I fun _ _ _ => .int _) ha hb
abbrev rdPow : R2d := rdI CPow fun i j => .int (i ^ j.toNat)
theorem de_pow (ha : PEd X E a ta) (hb : PEd X E b tb) : PEd X E (.BinOp a .Pow b pos) (eOp rdPow ta tb) := de_op op_pow (lf_I fun _ _ _ => .int _) ha hb
/-- a product of ints; a list by an int -/
def rdMul (m : Bool) : R2d := fun x y M Q => match x, y with
  | .int i, .int j => (CMul i j ∨ CMulW i j) ∧ Q (.int (i * j)) M
  | x, .int k => ∃ i, asTL M x = some i ∧ -(2 ^ 63) ≤ k ∧ k < 2 ^ 63 ∧ i.length * k.toNat ≤ sizeLine ∧ nl m (List.replicate k.toNat i).flatten M Q
  | _, _ => False
abbrev rMul : R2 := fun x y H Q => rI CMul (fun i j => .int (i * j)) x y H Q ∨ rI CMulW (fun i j => .int (i * j)) x y H Q ∨ rRep x y H Q
theorem DpL.rep {K : PySem.W.Frag} {F : Hp} {xs : List V} {l : List D} (r : DpL K F xs l) : ∀ k, DpL K F (List.replicate k xs).flatten (List.replicate k l).flatten
  | 0 => .nil
  | k + 1 => by rw [List.replicate_succ, List.replicate_succ, List.flatten_cons, List.flatten_cons]; exact r.append (DpL.rep r k)
theorem lf_mul {K : PySem.W.Frag} {m : Bool} : Lf2 K rMul (rdMul m) := by
  intro x y d e H F M Qd Q R r s q po
  unfold rdMul at q
  split at q
  · cases r; cases s
    obtain ⟨c | c, q⟩ := q
    · exact .inl ⟨_, _, rfl, rfl, c, same_ok R (.int _) q po⟩
    · exact .inr (.inl ⟨_, _, rfl, rfl, c, same_ok R (.int _) q po⟩)
  · cases s
    obtain ⟨i, h1, h2, h3, h4, h5⟩ := q
    obtain ⟨a, xs, rfl, hx, dx⟩ := tlV R r h1
    exact .inr (.inr ⟨a, _, xs, rfl, rfl, hx, h2, h3, by rw [dx.length]; exact h4, fun p hp => nl_ok R (dx.rep _) h5 po hp⟩)
  · exact q.elim
theorem de_mul (m : Bool) (ha : PEd X E a ta) (hb : PEd X E b tb) : PEd X E (.BinOp a .Mult b pos) (eOp (rdMul m) ta tb) := de_op (op_mul.or (op_mulW.or op_rep)) lf_mul ha hb

/-! ### comparisons -/
abbrev rdLt : R2d := rdI0 fun i j => .bl (decide (i < j))
abbrev rdLe : R2d := rdI0 fun i j => .bl (decide (i ≤ j))
abbrev rdGt : R2d := rdI0 fun i j => .bl (decide (j < i))
abbrev rdGe : R2d := rdI0 fun i j => .bl (decide (j ≤ i))
theorem lf_lt {K : PySem.W.Frag} : Lf2 K (rI0 fun i j => .bl (decide (i < j))) rdLt := lf_I0 fun _ _ _ => .bl _
theorem lf_le {K : PySem.W.Frag} : Lf2 K (rI0 fun i j => .bl (decide (i ≤ j))) rdLe := lf_I0 fun _ _ _ => .bl _
theorem lf_gt {K : PySem.W.Frag} : Lf2 K (rI0 fun i j => .bl (decide (j < i))) rdGt := lf_I0 fun _ _ _ => .bl _
theorem lf_ge {K : PySem.W.Frag} : Lf2 K (rI0 fun i j => .bl (decide (j ≤ i))) rdGe := lf_I0 fun _ _ _ => .bl _
/-- is None -/
def isNon : D → Bool
  | .non => true
  | _ => false
def rdIsN : R2d := fun x y M Q => match y with
  | .non => Q (.bl (isNon x)) M
  | _ => False
def rdNotN : R2d := fun x y M Q => match y with
  | .non => Q (.bl (!isNon x)) M
  | _ => False
theorem isNon_ok {K : PySem.W.Frag} {F : Hp} {x : V} {d : D} (r : Dp K F x d) : isNon d = decide (x = .non) := by cases r <;> simp [isNon]
theorem lf_isN {K : PySem.W.Frag} : Lf2 K (fun x y H Q => y = .non ∧ Q (.bl (decide (x = .non))) H) rdIsN := by
  intro x y d e H F M Qd Q R r s q po
  cases s <;> first | exact q.elim | skip
  refine ⟨rfl, same_ok R (d := .bl (isNon d)) ?_ q po⟩
  rw [← isNon_ok r]
  exact .bl _
theorem lf_notN {K : PySem.W.Frag} : Lf2 K (fun x y H Q => y = .non ∧ Q (.bl (!decide (x = .non))) H) rdNotN := by
  intro x y d e H F M Qd Q R r s q po
  cases s <;> first | exact q.elim | skip
  refine ⟨rfl, same_ok R (d := .bl (!isNon d)) ?_ q po⟩
  rw [← isNon_ok r]
  exact .bl _
mutual
def D.pd : D → PyData
  | .non => .none
  | .bl b => .bool b
  | .int i => .int i
  | .str s => .str s
  | .tup l => .tuple (D.pds l)
  | .lst l => .list (D.pds l)
  | .scr l => .list (D.pds l)
  | .ref _ => .none
  | .ty _ => .none
def D.pds : List D → List PyData
  | [] => []
  | d :: l => D.pd d :: D.pds l
end
mutual
def D.plain : D → Bool
  | .ref _ => false
  | .ty _ => false
  | .tup l => D.plains l
  | .lst l => D.plains l
  | .scr l => D.plains l
  | _ => true
def D.plains : List D → Bool
  | [] => true
  | d :: l => D.plain d && D.plains l
end
mutual
theorem pd_ok {K : PySem.W.Frag} {H F : Hp} {M : MS} (R : Rel K H F M) : ∀ {d : D} {x : V}, Dp K F x d → d.plain = true → L2.Dp K H x d.pd
  | .non, _, r, _ => by cases r; exact .non
  | .bl _, _, r, _ => by cases r; exact .bl _
  | .int _, _, r, _ => by cases r; exact .int _
  | .str _, _, r, _ => by cases r; exact .str _
  | .tup l, _, r, h => by cases r with | tup s q => exact .tup (SqT.of (R.ext _ _ s)) (pds_ok R q (by simpa [D.plain] using h))
  | .lst l, _, r, h => by cases r with | lst s q => exact .lst (SqL.of (R.fr _ _ s)) (pds_ok R q (by simpa [D.plain] using h))
  | .scr l, _, r, h => by cases r with | scr s q => exact .lst (R.ext.sqL s) (pds_ok R q (by simpa [D.plain] using h))
  | .ref _, _, _, h => by simp [D.plain] at h
  | .ty _, _, _, h => by simp [D.plain] at h
theorem pds_ok {K : PySem.W.Frag} {H F : Hp} {M : MS} (R : Rel K H F M) : ∀ {l : List D} {xs : List V}, DpL K F xs l → D.plains l = true → L2.DpAll K H xs (D.pds l)
  | [], _, r, _ => by cases r; exact .nil
  | _ :: _, _, r, h => by
    cases r with | cons a b =>
      rw [D.plains, Bool.and_eq_true] at h
      exact .cons (pd_ok R a h.1) (pds_ok R b h.2)
end
/-- the value as it stands, cells and all (one deep) -/
def asData (M : MS) (d : D) : D := match d with
  | .ref a => match M a with
    | some (.lst l) => .lst l
    | _ => .ref a
  | d => d
theorem data_ok {K : PySem.W.Frag} {H F : Hp} {M : MS} (R : Rel K H F M) {d : D} {x : V} (r : Dp K F x d) (h : (asData M d).plain = true) : L2.Dp K H x (asData M d).pd := by
  cases d with
  | ref a =>
    cases r
    unfold asData at h ⊢
    cases hm : M a with
    | none => simp [hm, D.plain] at h
    | some m =>
      cases m with
      | lst l =>
        simp only [hm] at h ⊢
        obtain ⟨_, xs, h1, h2⟩ := R.cell a _ hm
        exact .lst (SqL.of h1) (pds_ok R h2 (by simpa [D.plain] using h))
      | _ => simp [hm, D.plain] at h
  | _ => exact pd_ok R r h
def rdEq : R2d := fun x y M Q => (asData M x).plain = true ∧ (asData M y).plain = true ∧ SeqAt.shaped (asData M x).pd = true ∧ SeqAt.shaped (asData M y).pd = true ∧ Q (.bl (PyData.eqv (asData M x).pd (asData M y).pd)) M
def rdNe : R2d := fun x y M Q => (asData M x).plain = true ∧ (asData M y).plain = true ∧ SeqAt.shaped (asData M x).pd = true ∧ SeqAt.shaped (asData M y).pd = true ∧ Q (.bl (!PyData.eqv (asData M x).pd (asData M y).pd)) M
theorem lf_eq {K : PySem.W.Frag} : Lf2 K (rEqD K) rdEq := by
  intro x y d e H F M Qd Q R r s q po
  obtain ⟨h1, h2, h3, h4, q⟩ := q
  exact ⟨_, _, data_ok R r h1, data_ok R s h2, h3, h4, same_ok R (.bl _) q po⟩
theorem lf_ne {K : PySem.W.Frag} : Lf2 K (rNeD K) rdNe := by
  intro x y d e H F M Qd Q R r s q po
  obtain ⟨h1, h2, h3, h4, q⟩ := q
  exact ⟨_, _, data_ok R r h1, data_ok R s h2, h3, h4, same_ok R (.bl _) q po⟩
end
end DL

/-! DLc: tests, places, slices, displays, calls of built-ins, over trees. -/
namespace DL
open PySem PySem.Spec L2
section
variable {X : Cx} {E : XK} {a b c e o : Expr} {es : List Expr} {ta tb te : TEd} {tA tB tC : TTd} {t : TAd} {pos p : Pos} {rest : List Expr}

/-! ### tests -/
def eTest (t : TEd) : TTd := fun Ed ds M Q => t Ed ds M fun x M1 => match x with
  | .bl k => Q k M1
  | _ => False
theorem lift_test {op : R2} {rd : R2d} (l : Lf2 X.K op rd) (σ : L2.St) (H : Hp) (Q : Bool → Hp → Prop) (h : liftT X.K E (eTest (eOp rd ta tb)) σ H Q) : tTest (tOp op (liftE X.K E ta) (liftE X.K E tb)) σ H Q := by
  obtain ⟨F, M, ds, Qd, Ed, R, S, q, p, x⟩ := h
  refine lift_op l σ H _ ⟨F, M, ds, _, Ed, R, S, q, fun v H1 F1 M1 d e1 R1 r1 q1 => ?_, x⟩
  cases r1 <;> first | exact q1.elim | skip
  exact ⟨_, rfl, p _ _ _ _ e1 R1 q1⟩
theorem dt_cmp {op : CmpOp} {r : R2} {rd : R2d} (ho : OpR X (compareOp op) r) (l : Lf2 X.K r rd) (ha : PEd X E a ta) (hb : PEd X E b tb) (hm : behindInMarks op b = false := by first | exact nomark _ | rfl) : PTd X E (.Compare a [op] [b] pos) (eTest (eOp rd ta tb)) :=
  PT.mono (pt_cmpR ho ha hb hm) (lift_test l)
/-- any expression that gives a bool -/
theorem dt_val (h : PEd X E e te) (he : ∀ whole, isTrue e X.env whole = (do let v ← whole; standAt e.pos; holding [v] (truthy v)) := by intro _; rfl) : PTd X E e (eTest te) :=
  PT.mono (pt_val h he) fun σ H Q ⟨F, M, ds, Qd, Ed, R, S, q, p, x⟩ => ⟨F, M, ds, _, Ed, R, S, q, fun v H1 F1 M1 d e1 R1 r1 q1 => by
    cases r1 <;> first | exact q1.elim | skip
    exact ⟨_, rfl, p _ _ _ _ e1 R1 q1⟩, x⟩
def eAndT (t u : TTd) : TTd := fun Ed ds M Q => t Ed ds M fun k M1 => if k = true then u Ed ds M1 Q else Q false M1
def eOrT (t u : TTd) : TTd := fun Ed ds M Q => t Ed ds M fun k M1 => if k = true then Q true M1 else u Ed ds M1 Q
def eNotT (t : TTd) : TTd := fun Ed ds M Q => t Ed ds M fun k M1 => Q (!k) M1
theorem lift_andT (σ : L2.St) (H : Hp) (Q : Bool → Hp → Prop) (h : liftT X.K E (eAndT tA tB) σ H Q) : tAnd (liftT X.K E tA) (liftT X.K E tB) σ H Q := by
  obtain ⟨F, M, ds, Qd, Ed, R, S, q, p, x⟩ := h
  refine ⟨F, M, ds, _, Ed, R, S, q, fun k H1 F1 M1 e1 R1 q1 => ?_, x⟩
  cases k with
  | true => exact ⟨F1, M1, ds, Qd, Ed, R1, S.ext e1, q1, p.ext e1, x.ext e1⟩
  | false => exact p _ _ _ _ e1 R1 q1
theorem lift_orT (σ : L2.St) (H : Hp) (Q : Bool → Hp → Prop) (h : liftT X.K E (eOrT tA tB) σ H Q) : tOr (liftT X.K E tA) (liftT X.K E tB) σ H Q := by
  obtain ⟨F, M, ds, Qd, Ed, R, S, q, p, x⟩ := h
  refine ⟨F, M, ds, _, Ed, R, S, q, fun k H1 F1 M1 e1 R1 q1 => ?_, x⟩
  cases k with
  | false => exact ⟨F1, M1, ds, Qd, Ed, R1, S.ext e1, q1, p.ext e1, x.ext e1⟩
  | true => exact p _ _ _ _ e1 R1 q1
theorem dw_and1 (ha : PTd X E a tA) : PWd X E (.BoolOp .And [a] pos) tA := pw_and1 ha
theorem dw_or1 (ha : PTd X E a tA) : PWd X E (.BoolOp .Or [a] pos) tA := pw_or1 ha
theorem dw_and (ha : PTd X E a tA) (hb : PWd X E (.BoolOp .And (b :: rest) pos) tB) : PWd X E (.BoolOp .And (a :: b :: rest) pos) (eAndT tA tB) := PW.mono (pw_and ha hb) lift_andT
theorem dw_or (ha : PTd X E a tA) (hb : PWd X E (.BoolOp .Or (b :: rest) pos) tB) : PWd X E (.BoolOp .Or (a :: b :: rest) pos) (eOrT tA tB) := PW.mono (pw_or ha hb) lift_orT
theorem dt_not (ha : PTd X E a tA) : PTd X E (.UnaryOp .Not a pos) (eNotT tA) :=
  PT.mono (pt_not ha) fun σ H Q ⟨F, M, ds, Qd, Ed, R, S, q, p, x⟩ => ⟨F, M, ds, _, Ed, R, S, q, fun k H1 F1 M1 e1 R1 q1 => p _ _ _ _ e1 R1 q1, x⟩
/-- as values: all but the last bools -/
def eAndV (ta tb : TEd) : TEd := fun Ed ds M Q => ta Ed ds M fun x M1 => match x with
  | .bl k => if k = true then tb Ed ds M1 Q else Q (.bl false) M1
  | _ => False
def eOrV (ta tb : TEd) : TEd := fun Ed ds M Q => ta Ed ds M fun x M1 => match x with
  | .bl k => if k = true then Q (.bl true) M1 else tb Ed ds M1 Q
  | _ => False
def eNotV (ta : TEd) : TEd := fun Ed ds M Q => ta Ed ds M fun x M1 => match x with
  | .bl k => Q (.bl (!k)) M1
  | _ => False
theorem de_one {op} (h : PEd X E a ta) : PEd X E (.BoolOp op [a] pos) ta := pe_one h
theorem de_and (ha : PEd X E a ta) (hb : PEd X E (.BoolOp .And (b :: rest) pos) tb) : PEd X E (.BoolOp .And (a :: b :: rest) pos) (eAndV ta tb) :=
  PE.mono (pe_and ha hb) fun σ H Q ⟨F, M, ds, Qd, Ed, R, S, q, p, x⟩ => ⟨F, M, ds, _, Ed, R, S, q, fun v H1 F1 M1 d e1 R1 r1 q1 => by
    cases r1 <;> first | exact q1.elim | skip
    rename_i k
    refine ⟨k, rfl, ?_⟩
    cases k with
    | true => exact ⟨F1, M1, ds, Qd, Ed, R1, S.ext e1, q1, p.ext e1, x.ext e1⟩
    | false => exact p _ _ _ _ _ e1 R1 (.bl _) q1, x⟩
theorem de_or (ha : PEd X E a ta) (hb : PEd X E (.BoolOp .Or (b :: rest) pos) tb) : PEd X E (.BoolOp .Or (a :: b :: rest) pos) (eOrV ta tb) :=
  PE.mono (pe_or ha hb) fun σ H Q ⟨F, M, ds, Qd, Ed, R, S, q, p, x⟩ => ⟨F, M, ds, _, Ed, R, S, q, fun v H1 F1 M1 d e1 R1 r1 q1 => by
    cases r1 <;> first | exact q1.elim | skip
    rename_i k
    refine ⟨k, rfl, ?_⟩
    cases k with
    | false => exact ⟨F1, M1, ds, Qd, Ed, R1, S.ext e1, q1, p.ext e1, x.ext e1⟩
    | true => exact p _ _ _ _ _ e1 R1 (.bl _) q1, x⟩
theorem de_not (ha : PEd X E a ta) : PEd X E (.UnaryOp .Not a pos) (eNotV ta) :=
  PE.mono (pe_not ha) fun σ H Q ⟨F, M, ds, Qd, Ed, R, S, q, p, x⟩ => ⟨F, M, ds, _, Ed, R, S, q, fun v H1 F1 M1 d e1 R1 r1 q1 => by
    cases r1 <;> first | exact q1.elim | skip
    exact ⟨_, rfl, p _ _ _ _ _ e1 R1 (.bl _) q1⟩, x⟩
def eIf (t : TTd) (ta tb : TEd) : TEd := fun Ed ds M Q => t Ed ds M fun k M1 => if k = true then ta Ed ds M1 Q else tb Ed ds M1 Q
theorem de_if (hc : PTd X E c tC) (ha : PEd X E a ta) (hb : PEd X E b tb) : PEd X E (.IfExp c a b pos) (eIf tC ta tb) :=
  PE.mono (pe_ifExp hc ha hb) fun σ H Q ⟨F, M, ds, Qd, Ed, R, S, q, p, x⟩ => ⟨F, M, ds, _, Ed, R, S, q, fun k H1 F1 M1 e1 R1 q1 => by
    cases k with
    | true => exact ⟨F1, M1, ds, Qd, Ed, R1, S.ext e1, q1, p.ext e1, x.ext e1⟩
    | false => exact ⟨F1, M1, ds, Qd, Ed, R1, S.ext e1, q1, p.ext e1, x.ext e1⟩, x⟩
/-- chains of two comparisons -/
def eChain (rd rd' : R2d) (ta tb tc : TEd) : TEd := fun Ed ds M Q => ta Ed ds M fun x M1 => tb Ed ds M1 fun y M2 => rd x y M2 fun z M3 => match z with
  | .bl k => if k = true then tc Ed ds M3 fun w M4 => rd' y w M4 Q else Q (.bl false) M3
  | _ => False
theorem lift_chain {tc : TEd} {r r' : R2} {rd rd' : R2d} (l : Lf2 X.K r rd) (l' : Lf2 X.K r' rd') (σ : L2.St) (H : Hp) (Q : VK) (h : liftE X.K E (eChain rd rd' ta tb tc) σ H Q) : tChain r r' (liftE X.K E ta) (liftE X.K E tb) (liftE X.K E tc) σ H Q := by
  obtain ⟨F, M, ds, Qd, Ed, R, S, q, p, x⟩ := h
  refine ⟨F, M, ds, _, Ed, R, S, q, fun v H1 F1 M1 d e1 R1 r1 q1 => ?_, x⟩
  refine ⟨F1, M1, ds, _, Ed, R1, S.ext e1, q1, fun u H2 F2 M2 e e2 R2 r2 q2 => ?_, x.ext e1⟩
  refine l _ _ _ _ _ _ _ _ _ R2 (r1.ext e2) r2 q2 fun z H3 F3 M3 dz e3 R3 r3 q3 => ?_
  cases r3 <;> first | exact q3.elim | skip
  rename_i k
  refine ⟨k, rfl, ?_⟩
  cases k with
  | true =>
    refine ⟨F3, M3, ds, _, Ed, R3, S.ext (e1.trans (e2.trans e3)), q3, fun w' H4 F4 M4 dw e4 R4 r4 q4 => ?_, x.ext (e1.trans (e2.trans e3))⟩
    exact l' _ _ _ _ _ _ _ _ _ R4 (r2.ext (e3.trans e4)) r4 q4 (p.ext (e1.trans (e2.trans (e3.trans e4))))
  | false => exact p _ _ _ _ _ (e1.trans (e2.trans e3)) R3 (.bl _) q3
theorem de_chain {op op' : CmpOp} {r r' : R2} {rd rd' : R2d} {tc : TEd} (ho : OpR X (compareOp op) r) (l : Lf2 X.K r rd) (ho' : OpR X (compareOp op') r') (l' : Lf2 X.K r' rd') (ha : PEd X E a ta) (hb : PEd X E b tb) (hc : PEd X E c tc)
    (hm : lastMarks [op, op'] [b, c] = false := by with_unfolding_all rfl) : PEd X E (.Compare a [op, op'] [b, c] pos) (eChain rd rd' ta tb tc) := PE.mono (pe_chain ho ho' ha hb hc hm) (lift_chain l l')
theorem dt_chain {op op' : CmpOp} {r r' : R2} {rd rd' : R2d} {tc : TEd} (ho : OpR X (compareOp op) r) (l : Lf2 X.K r rd) (ho' : OpR X (compareOp op') r') (l' : Lf2 X.K r' rd') (ha : PEd X E a ta) (hb : PEd X E b tb) (hc : PEd X E c tc)
    (hm : lastMarks [op, op'] [b, c] = false := by with_unfolding_all rfl) : PTd X E (.Compare a [op, op'] [b, c] pos) (eTest (eChain rd rd' ta tb tc)) :=
  PT.mono (pt_chain ho ho' ha hb hc hm) fun σ H Q ⟨F, M, ds, Qd, Ed, R, S, q, p, x⟩ => lift_chain l l' σ H _ ⟨F, M, ds, _, Ed, R, S, q, fun v H1 F1 M1 d e1 R1 r1 q1 => by
    cases r1 <;> first | exact q1.elim | skip
    exact ⟨_, rfl, p _ _ _ _ e1 R1 q1⟩, x⟩

/-! ### places and slices -/
def rdIx : R2d := fun x y M Q => match y with
  | .int i => match x with
    | .str z => z.length ≤ sizeLine ∧ ∃ c, atI z.cps.toList i = some c ∧ Q (.str ⟨#[c]⟩) M
    | x => ∃ l, asSeq M x = some l ∧ ∃ d, atI l i = some d ∧ Q d M
  | _ => False
theorem atI_ok {K : PySem.W.Frag} {F : Hp} {xs : List V} {l : List D} {i : Int} {d : D} (r : DpL K F xs l) (h : atI l i = some d) : ∃ v, atI xs i = some v ∧ Dp K F v d := by
  unfold atI at h ⊢
  rw [r.length]
  cases e : ixN l.length i with
  | none => simp [e] at h
  | some j =>
    simp only [e, Option.bind_some] at h ⊢
    exact r.get h
theorem lf_ix {K : PySem.W.Frag} : Lf2 K (rIx K) rdIx := by
  intro x y d e H F M Qd Q R r s q po
  unfold rdIx at q
  split at q
  · cases s
    split at q
    · cases r
      obtain ⟨h1, c, h2, q⟩ := q
      exact .inr (.inr ⟨_, _, c, rfl, rfl, h1, h2, same_ok R (.str _) q po⟩)
    · obtain ⟨l, h1, dd, h2, q⟩ := q
      obtain ⟨a, xs, rfl, hx, dx⟩ := seqV R r h1
      obtain ⟨v, h3, h4⟩ := atI_ok dx h2
      rcases hx with hx | hx
      · exact .inl ⟨a, xs, _, v, rfl, rfl, hx, h3, same_ok R h4 q po⟩
      · exact .inr (.inl ⟨a, xs, _, v, rfl, rfl, hx, h3, same_ok R h4 q po⟩)
  · exact q.elim
theorem de_ix (ha : PEd X E a ta) (hb : PEd X E b tb) (hs : PlainIx b := by exact fun _ _ => rfl) : PEd X E (.Subscript a b pos) (eOp rdIx ta tb) := PE.mono (pe_ix ix_seq ha hb hs) (lift_op lf_ix)
/-- slices -/
abbrev TOd := XD → DSt → MS → (Option Int → MS → Prop) → Prop
def PostO (K : PySem.W.Frag) (F : Hp) (Qd : Option Int → MS → Prop) (Q : Option Int → Hp → Prop) : Prop := ∀ b H' F' M', Ext F F' → Rel K H' F' M' → Qd b M' → Q b H'
def liftO (K : PySem.W.Frag) (E : XK) (t : TOd) : TO := fun σ H Q => ∃ F M ds Qd Ed, Rel K H F M ∧ Slots K F σ ds ∧ t Ed ds M Qd ∧ PostO K F Qd Q ∧ PostX K F Ed E
def POd (X : Cx) (E : XK) (e : Option Expr) (t : TOd) : Prop := PO X e (liftO X.K E t)
theorem PO.mono {X : Cx} {e : Option Expr} {t t' : TO} (h : PO X e t) (k : ∀ σ H Q, t' σ H Q → t σ H Q) : PO X e t' := ⟨fun pins s σ H Q I q => h.run pins s σ H Q I (k σ H Q q)⟩
def eNoPart : TOd := fun _ _ M Q => Q none M
def ePart (t : TEd) : TOd := fun Ed ds M Q => t Ed ds M fun x M1 => match x with
  | .int i => Q (some i) M1
  | _ => False
theorem do_none : POd X E none eNoPart := PO.mono po_none fun σ H Q ⟨F, M, ds, Qd, Ed, R, S, q, p, x⟩ => p _ _ _ _ (Ext.refl F) R q
theorem do_some (h : PEd X E e te) : POd X E (some e) (ePart te) :=
  PO.mono (po_some h) fun σ H Q ⟨F, M, ds, Qd, Ed, R, S, q, p, x⟩ => ⟨F, M, ds, _, Ed, R, S, q, fun v H1 F1 M1 d e1 R1 r1 q1 => by
    cases r1 <;> first | exact q1.elim | skip
    exact ⟨_, rfl, p _ _ _ _ e1 R1 q1⟩, x⟩
def cutD (xs : List D) (lo hi : Option Int) : List D := (xs.drop (HT.sIx xs.length 0 lo)).take (HT.sIx xs.length xs.length hi - HT.sIx xs.length 0 lo)
theorem cut_ok {K : PySem.W.Frag} {F : Hp} {xs : List V} {l : List D} (r : DpL K F xs l) (lo hi : Option Int) : DpL K F (cutV xs lo hi) (cutD l lo hi) := by
  unfold cutV cutD
  rw [r.length]
  exact (r.drop _).take _
def rdSl (m : Bool) : D → Option Int → Option Int → MS → QD → Prop := fun x lo hi M Q => match x with
  | .tup l => Q (.tup (cutD l lo hi)) M
  | .str z => z.length ≤ sizeLine ∧ Q (.str (cutS z lo hi)) M
  | x => ∃ l, asLst M x = some l ∧ nl m (cutD l lo hi) M Q
def eSl (rd : D → Option Int → Option Int → MS → QD → Prop) (te : TEd) (tl th : TOd) : TEd := fun Ed ds M Q => te Ed ds M fun x M1 => tl Ed ds M1 fun l M2 => th Ed ds M2 fun u M3 => rd x l u M3 Q

abbrev rSl (K : PySem.W.Frag) : V → Option Int → Option Int → Hp → VK → Prop := fun x lo hi H Q => rSlA K x lo hi H Q ∨ rSlS x lo hi H Q ∨ rSlL K x lo hi H Q
theorem cut_whole {α : Type} (l : List α) (lo hi : Option Int) (h : HT.sIx l.length 0 lo = 0 ∧ HT.sIx l.length l.length hi = l.length) : (l.drop (HT.sIx l.length 0 lo)).take (HT.sIx l.length l.length hi - HT.sIx l.length 0 lo) = l := by
  rw [h.1, h.2, List.drop_zero, Nat.sub_zero, List.take_length]
theorem lf_sl {K : PySem.W.Frag} {m : Bool} : ∀ x d lo hi H F M Qd Q, Rel K H F M → Dp K F x d → rdSl m d lo hi M Qd → PostE K F Qd Q → rSl K x lo hi H Q := by
  intro x d lo hi H F M Qd Q R r q po
  have lists : ∀ {l : List D}, asLst M d = some l → nl m (cutD l lo hi) M Qd → rSl K x lo hi H Q := fun {l} h1 h2 => by
    obtain ⟨a, xs, rfl, hx, dx⟩ := lstV R r h1
    exact .inr (.inr ⟨a, xs, rfl, hx, fun p hp => nl_ok R (cut_ok dx lo hi) h2 po hp⟩)
  unfold rdSl at q
  split at q
  · rename_i l
    obtain ⟨a, xs, rfl, hx, dx⟩ := tupV R r
    refine .inl ⟨a, xs, rfl, hx, fun h => ?_, fun h p hp => nt_ok R (cut_ok dx lo hi) q po hp⟩
    rw [dx.length] at h
    unfold cutD at q
    rw [cut_whole l lo hi h] at q
    exact same_ok R r q po
  · cases r
    exact .inr (.inl ⟨_, rfl, q.1, same_ok R (.str _) q.2 po⟩)
  · obtain ⟨l, h1, h2⟩ := q
    exact lists h1 h2
theorem de_sl {lo hi : Option Expr} {tl th : TOd} {p2 : Pos} (m : Bool) (he : PEd X E e te) (hl : POd X E lo tl) (hu : POd X E hi th) : PEd X E (.Subscript e (.Slice lo hi none p2) pos) (eSl (rdSl m) te tl th) := by
  refine PE.mono (pe_slice (sl_tupA.or (sl_str.or sl_list)) he hl hu) fun σ H Q ⟨F, M, ds, Qd, Ed, R, S, q, p, x⟩ => ?_
  refine ⟨F, M, ds, _, Ed, R, S, q, fun v H1 F1 M1 d e1 R1 r1 q1 => ?_, x⟩
  refine ⟨F1, M1, ds, _, Ed, R1, S.ext e1, q1, fun l H2 F2 M2 e2 R2 q2 => ?_, x.ext e1⟩
  refine ⟨F2, M2, ds, _, Ed, R2, S.ext (e1.trans e2), q2, fun u H3 F3 M3 e3 R3 q3 => ?_, x.ext (e1.trans e2)⟩
  exact lf_sl _ _ _ _ _ _ _ _ _ R3 (r1.ext (e2.trans e3)) q3 (p.ext (e1.trans (e2.trans e3)))

/-! ### argument lists, displays -/
def eNil : TAd := fun _ _ M Q => Q [] M
def eCons (te : TEd) (t : TAd) : TAd := fun Ed ds M Q => te Ed ds M fun x M1 => t Ed ds M1 fun xs M2 => Q (x :: xs) M2
def eStar (te : TEd) (t : TAd) : TAd := fun Ed ds M Q => te Ed ds M fun x M1 => ∃ l, asSeq M1 x = some l ∧ t Ed ds M1 fun xs M2 => Q (l ++ xs) M2
theorem da_nil : PAd X E [] eNil := PA.mono pa_nil fun σ H Q ⟨F, M, ds, Qd, Ed, R, S, q, p, x⟩ => p _ _ _ _ _ (Ext.refl F) R .nil q
theorem da_cons (ha : PEd X E e te) (hr : PAd X E es t) (hs : starEach (e :: es) X.env = (false, eval e X.env) :: starEach es X.env := by rfl) : PAd X E (e :: es) (eCons te t) :=
  PA.mono (pa_cons ha hr hs) fun σ H Q ⟨F, M, ds, Qd, Ed, R, S, q, p, x⟩ => ⟨F, M, ds, _, Ed, R, S, q, fun v H1 F1 M1 d e1 R1 r1 q1 =>
    ⟨F1, M1, ds, _, Ed, R1, S.ext e1, q1, fun vs H2 F2 M2 ds2 e2 R2 r2 q2 => p _ _ _ _ _ (e1.trans e2) R2 (.cons (r1.ext e2) r2) q2, x.ext e1⟩, x⟩
theorem da_star {sp_ : Pos} (ha : PEd X E e te) (hr : PAd X E es t) (hs : starEach (.Starred e sp_ :: es) X.env = (true, eval e X.env) :: starEach es X.env := by rfl) : PAd X E (.Starred e sp_ :: es) (eStar te t) :=
  PA.mono (StX.pa_star ha hr hs) fun σ H Q ⟨F, M, ds, Qd, Ed, R, S, q, p, x⟩ => ⟨F, M, ds, _, Ed, R, S, q, fun v H1 F1 M1 d e1 R1 r1 q1 => by
    obtain ⟨l, h1, q1⟩ := q1
    obtain ⟨a, xs, rfl, hx, dx⟩ := seqV R1 r1 h1
    exact ⟨a, xs, rfl, hx.symm, F1, M1, ds, _, Ed, R1, S.ext e1, q1, fun vs H2 F2 M2 ds2 e2 R2 r2 q2 => p _ _ _ _ _ (e1.trans e2) R2 ((dx.ext e2).append r2) q2, x.ext e1⟩, x⟩
def eTup (t : TAd) : TEd := fun Ed ds M Q => t Ed ds M fun xs M1 => xs.length ≤ sizeLine ∧ Q (.tup xs) M1
def eLst (m : Bool) (t : TAd) : TEd := fun Ed ds M Q => t Ed ds M fun xs M1 => xs.length ≤ sizeLine ∧ nl m xs M1 Q
theorem de_tup {x1} (h : PAd X E es t) : PEd X E (.Tuple es x1 pos) (eTup t) :=
  PE.mono (pe_tup h) fun σ H Q ⟨F, M, ds, Qd, Ed, R, S, q, p, x⟩ => ⟨F, M, ds, _, Ed, R, S, q, fun vs H1 F1 M1 ds1 e1 R1 r1 q1 =>
    ⟨by rw [r1.length]; exact q1.1, fun a ha => nt_ok R1 r1 q1.2 (p.ext e1) ha⟩, x⟩
theorem de_lst (m : Bool) (h : PAd X E es t) : PEd X E (.List es pos) (eLst m t) :=
  PE.mono (pe_lst h) fun σ H Q ⟨F, M, ds, Qd, Ed, R, S, q, p, x⟩ => ⟨F, M, ds, _, Ed, R, S, q, fun vs H1 F1 M1 ds1 e1 R1 r1 q1 =>
    ⟨by rw [r1.length]; exact q1.1, fun a ha => nl_ok R1 r1 q1.2 (p.ext e1) ha⟩, x⟩

/-! ### calls of built-ins by name -/
def eCB (rd : RCd) (t : TAd) : TEd := fun Ed ds M Q => t Ed ds M fun xs M1 => rd xs M1 Q
theorem lift_CB {r : List V → Hp → VK → Prop} {rd : RCd} (l : LfC X.K r rd) (σ : L2.St) (H : Hp) (Q : VK) (h : liftE X.K E (eCB rd t) σ H Q) : tCB r (liftA X.K E t) σ H Q := by
  obtain ⟨F, M, ds, Qd, Ed, R, S, q, p, x⟩ := h
  exact ⟨F, M, ds, _, Ed, R, S, q, fun vs H1 F1 M1 ds1 e1 R1 r1 q1 => l _ _ _ _ _ _ _ R1 r1 q1 (p.ext e1), x⟩
theorem de_callB {x : Str} {id : String} {r : List V → Hp → VK → Prop} {rd : RCd} (hc : CallR X (.builtin id) r) (l : LfC X.K r rd) (hg : Gl X x) (hm : X.mg x = none) (hv : bootBuiltins x = some (.builtin id)) (ha : PAd X E (e :: es) t) (hn : x ≠ "__name__" := by decide) (hdb : (x == ("__debug__" : Str)) = false := by decide)
    (he : starEach (e :: es) X.env = (false, eval e X.env) :: starEach es X.env := by rfl) (hpl : (backTo pos (starEach es X.env)).any (·.1) = false := by rfl) : PEd X E (.Call (.Name x p) (e :: es) [] pos) (eCB rd t) :=
  PE.mono (pe_callB hc hg hm hv ha hn hdb he hpl) (lift_CB l)
theorem de_callTy {x : Str} {T : String} {r : List V → Hp → VK → Prop} {rd : RCd} (hc : CallR X (.type T) r) (l : LfC X.K r rd) (hg : Gl X x) (hm : X.mg x = none) (hv : bootBuiltins x = some (.type T)) (ha : PAd X E (e :: es) t) (hn : x ≠ "__name__" := by decide) (hdb : (x == ("__debug__" : Str)) = false := by decide)
    (he : starEach (e :: es) X.env = (false, eval e X.env) :: starEach es X.env := by rfl) (hpl : (backTo pos (starEach es X.env)).any (·.1) = false := by rfl) : PEd X E (.Call (.Name x p) (e :: es) [] pos) (eCB rd t) :=
  PE.mono (pe_callTy hc hg hm hv ha hn hdb he hpl) (lift_CB l)

theorem DpL.one_inv {K : PySem.W.Frag} {F : Hp} {xs : List V} {d : D} (r : DpL K F xs [d]) : ∃ x, xs = [x] ∧ Dp K F x d := by
  cases r with | cons a b => cases b; exact ⟨_, rfl, a⟩
theorem DpL.two_inv {K : PySem.W.Frag} {F : Hp} {xs : List V} {d e : D} (r : DpL K F xs [d, e]) : ∃ x y, xs = [x, y] ∧ Dp K F x d ∧ Dp K F y e := by
  cases r with | cons a b => obtain ⟨y, rfl, h⟩ := b.one_inv; exact ⟨_, y, rfl, a, h⟩
/-- len -/
def rdLen : RCd := fun xs M Q => match xs with
  | [.str z] => z.length ≤ sizeLine ∧ Q (.int z.length) M
  | [d] => ∃ l, asSeq M d = some l ∧ Q (.int l.length) M
  | _ => False
abbrev rLen2 (K : PySem.W.Frag) : List V → Hp → VK → Prop := fun xs H Q => (∃ p ys, xs = [.ref p] ∧ (SqL K H p ys ∨ SqT K H p ys) ∧ Q (.int ys.length) H) ∨ (∃ z, xs = [.str z] ∧ z.length ≤ sizeLine ∧ Q (.int z.length) H)
theorem call_lenD2 : CallR X (.builtin "len") (rLen2 X.K) := call_len_seq.or call_len_str
theorem lf_len {K : PySem.W.Frag} : LfC K (rLen2 K) rdLen := by
  intro xs ds H F M Qd Q R r q po
  unfold rdLen at q
  split at q
  · obtain ⟨x, rfl, r1⟩ := r.one_inv
    cases r1
    exact .inr ⟨_, rfl, q.1, same_ok R (.int _) q.2 po⟩
  · obtain ⟨x, rfl, r1⟩ := r.one_inv
    obtain ⟨l, h1, q⟩ := q
    obtain ⟨a, ys, rfl, hx, dx⟩ := seqV R r1 h1
    refine .inl ⟨a, ys, rfl, hx, ?_⟩
    rw [dx.length]
    exact same_ok R (.int _) q po
  · exact q.elim
theorem de_len (hg : Gl X "len") (hm : X.mg "len" = none) (ha : PAd X E [e] t) (he : starEach [e] X.env = (false, eval e X.env) :: starEach [] X.env := by rfl) (hpl : (backTo pos (starEach [] X.env)).any (·.1) = false := by rfl) :
    PEd X E (.Call (.Name "len" p) [e] [] pos) (eCB rdLen t) := de_callB call_lenD2 lf_len hg hm boot_len ha (by decide) (by decide) he hpl
/-- sum, max, min of a list or tuple of ints -/
def asInts : List D → Option (List Int)
  | [] => some []
  | .int i :: l => (asInts l).map (i :: ·)
  | _ => none
theorem asInts_eq : ∀ {l : List D} {ns : List Int}, asInts l = some ns → l = ns.map D.int
  | [], _, h => by cases h; rfl
  | .int i :: l, ns, h => by
    unfold asInts at h
    cases e : asInts l with
    | none => simp [e] at h
    | some ms => simp [e] at h; subst h; rw [asInts_eq e]; rfl
  | .non :: _, _, h => by cases h
  | .bl _ :: _, _, h => by cases h
  | .str _ :: _, _, h => by cases h
  | .tup _ :: _, _, h => by cases h
  | .lst _ :: _, _, h => by cases h
  | .scr _ :: _, _, h => by cases h
  | .ref _ :: _, _, h => by cases h
  | .ty _ :: _, _, h => by cases h
theorem asInts_map : ∀ ns : List Int, asInts (ns.map D.int) = some ns
  | [] => rfl
  | n :: r => by rw [List.map_cons]; unfold asInts; rw [asInts_map r]; rfl

theorem ints_of_asInts {K : PySem.W.Frag} {F : Hp} {xs : List V} {l : List D} {ns : List Int} (r : DpL K F xs l) (h : asInts l = some ns) : xs = ns.map V.int := by
  have := asInts_eq h; subst this; exact r.of_ints
def rdSum : RCd := fun xs M Q => match xs with
  | [d] => ∃ l, asSeq M d = some l ∧ ∃ ns, asInts l = some ns ∧ Q (.int ns.sum) M
  | _ => False
theorem lf_sum {K : PySem.W.Frag} : LfC K (fun vs H Q => rSum K vs H Q ∨ DL0.rSumT K vs H Q) rdSum := by
  intro xs ds H F M Qd Q R r q po
  unfold rdSum at q
  split at q
  · obtain ⟨x, rfl, r1⟩ := r.one_inv
    obtain ⟨l, h1, ns, h2, q⟩ := q
    obtain ⟨a, ys, rfl, hx, dx⟩ := seqV R r1 h1
    have e := ints_of_asInts dx h2
    subst e
    rcases hx with hx | hx
    · exact .inl ⟨a, ns, rfl, hx, same_ok R (.int _) q po⟩
    · exact .inr ⟨a, ns, rfl, hx, same_ok R (.int _) q po⟩
  · exact q.elim
theorem de_sum (hc : X.calm = true) (hg : Gl X "sum") (hm : X.mg "sum" = none) (ha : PAd X E [e] t) (he : starEach [e] X.env = (false, eval e X.env) :: starEach [] X.env := by rfl) (hpl : (backTo pos (starEach [] X.env)).any (·.1) = false := by rfl) :
    PEd X E (.Call (.Name "sum" p) [e] [] pos) (eCB rdSum t) := de_callB ((cr_sum hc).or (DL0.cr_sumT hc)) lf_sum hg hm (by decide +kernel) ha (by decide) (by decide) he hpl
def lmax : List Int → Int
  | [] => 0
  | [a] => a
  | a :: b :: r => max a (lmax (b :: r))
def lmin : List Int → Int
  | [] => 0
  | [a] => a
  | a :: b :: r => min a (lmin (b :: r))
theorem lmax_mem : ∀ {l : List Int}, l ≠ [] → lmax l ∈ l
  | [a], _ => by simp [lmax]
  | a :: b :: r, _ => by
    have ih := lmax_mem (l := b :: r) (by simp)
    unfold lmax
    by_cases h : a ≤ lmax (b :: r)
    · rw [Int.max_def, if_pos h]; exact List.mem_cons_of_mem _ ih
    · rw [Int.max_def, if_neg h]; exact List.mem_cons_self
theorem lmax_le : ∀ {l : List Int} {a : Int}, a ∈ l → a ≤ lmax l
  | [x], a, h => by simp at h; subst h; exact Int.le_refl _
  | x :: y :: r, a, h => by
    unfold lmax
    rcases List.mem_cons.mp h with e | h
    · subst e; omega
    · have := lmax_le (l := y :: r) h; omega
theorem lmin_mem : ∀ {l : List Int}, l ≠ [] → lmin l ∈ l
  | [a], _ => by simp [lmin]
  | a :: b :: r, _ => by
    have ih := lmin_mem (l := b :: r) (by simp)
    unfold lmin
    by_cases h : a ≤ lmin (b :: r)
    · rw [Int.min_def, if_pos h]; exact List.mem_cons_self
    · rw [Int.min_def, if_neg h]; exact List.mem_cons_of_mem _ ih
theorem lmin_le : ∀ {l : List Int} {a : Int}, a ∈ l → lmin l ≤ a
  | [x], a, h => by simp at h; subst h; exact Int.le_refl _
  | x :: y :: r, a, h => by
    unfold lmin
    rcases List.mem_cons.mp h with e | h
    · subst e; omega
    · have := lmin_le (l := y :: r) h; omega
def rdMax : RCd := fun xs M Q => match xs with
  | [.int i, .int j] => Q (.int (max i j)) M
  | [d] => ∃ l, asSeq M d = some l ∧ ∃ ns, asInts l = some ns ∧ ns ≠ [] ∧ Q (.int (lmax ns)) M
  | _ => False
def rdMin : RCd := fun xs M Q => match xs with
  | [.int i, .int j] => Q (.int (min i j)) M
  | [d] => ∃ l, asSeq M d = some l ∧ ∃ ns, asInts l = some ns ∧ ns ≠ [] ∧ Q (.int (lmin ns)) M
  | _ => False
theorem lf_max {K : PySem.W.Frag} : LfC K (fun vs H Q => (∃ i j, vs = [.int i, .int j] ∧ Q (.int (if j > i then j else i)) H) ∨ rMax K vs H Q ∨ DL0.rMaxT K vs H Q) rdMax := by
  intro xs ds H F M Qd Q R r q po
  unfold rdMax at q
  split at q
  · rename_i i j
    obtain ⟨x, y, rfl, r1, r2⟩ := r.two_inv
    cases r1; cases r2
    have e : (if j > i then j else i) = max i j := by rw [Int.max_def]; split <;> split <;> omega
    exact .inl ⟨i, j, rfl, by rw [e]; exact same_ok R (.int _) q po⟩
  · obtain ⟨x, rfl, r1⟩ := r.one_inv
    obtain ⟨l, h1, ns, h2, hn, q⟩ := q
    obtain ⟨a, ys, rfl, hx, dx⟩ := seqV R r1 h1
    have e := ints_of_asInts dx h2
    subst e
    have hp : 0 < ns.length := List.length_pos_iff.mpr hn
    have u : ∀ m, m ∈ ns → (∀ y, y ∈ ns → y ≤ m) → Q (.int m) H := fun m h3 h4 => by
      have e : m = lmax ns := Int.le_antisymm (lmax_le h3) (h4 _ (lmax_mem hn))
      rw [e]; exact same_ok R (.int _) q po
    rcases hx with hx | hx
    · exact .inr (.inl ⟨a, ns, rfl, hx, hp, u⟩)
    · exact .inr (.inr ⟨a, ns, rfl, hx, hp, u⟩)
  · exact q.elim
theorem lf_min {K : PySem.W.Frag} : LfC K (fun vs H Q => (∃ i j, vs = [.int i, .int j] ∧ Q (.int (if j < i then j else i)) H) ∨ rMin K vs H Q ∨ DL0.rMinT K vs H Q) rdMin := by
  intro xs ds H F M Qd Q R r q po
  unfold rdMin at q
  split at q
  · rename_i i j
    obtain ⟨x, y, rfl, r1, r2⟩ := r.two_inv
    cases r1; cases r2
    have e : (if j < i then j else i) = min i j := by rw [Int.min_def]; split <;> split <;> omega
    exact .inl ⟨i, j, rfl, by rw [e]; exact same_ok R (.int _) q po⟩
  · obtain ⟨x, rfl, r1⟩ := r.one_inv
    obtain ⟨l, h1, ns, h2, hn, q⟩ := q
    obtain ⟨a, ys, rfl, hx, dx⟩ := seqV R r1 h1
    have e := ints_of_asInts dx h2
    subst e
    have hp : 0 < ns.length := List.length_pos_iff.mpr hn
    have u : ∀ m, m ∈ ns → (∀ y, y ∈ ns → m ≤ y) → Q (.int m) H := fun m h3 h4 => by
      have e : m = lmin ns := Int.le_antisymm (h4 _ (lmin_mem hn)) (lmin_le h3)
      rw [e]; exact same_ok R (.int _) q po
    rcases hx with hx | hx
    · exact .inr (.inl ⟨a, ns, rfl, hx, hp, u⟩)
    · exact .inr (.inr ⟨a, ns, rfl, hx, hp, u⟩)
  · exact q.elim
theorem de_max (hc : X.calm = true) (hg : Gl X "max") (hm : X.mg "max" = none) (ha : PAd X E (e :: es) t) (he : starEach (e :: es) X.env = (false, eval e X.env) :: starEach es X.env := by rfl) (hpl : (backTo pos (starEach es X.env)).any (·.1) = false := by rfl) :
    PEd X E (.Call (.Name "max" p) (e :: es) [] pos) (eCB rdMax t) := de_callB ((call_max2 hc).or ((cr_max hc).or (DL0.cr_maxT hc))) lf_max hg hm (by decide +kernel) ha (by decide) (by decide) he hpl
theorem de_min (hc : X.calm = true) (hg : Gl X "min") (hm : X.mg "min" = none) (ha : PAd X E (e :: es) t) (he : starEach (e :: es) X.env = (false, eval e X.env) :: starEach es X.env := by rfl) (hpl : (backTo pos (starEach es X.env)).any (·.1) = false := by rfl) :
    PEd X E (.Call (.Name "min" p) (e :: es) [] pos) (eCB rdMin t) := de_callB ((call_min2 hc).or ((cr_min hc).or (DL0.cr_minT hc))) lf_min hg hm (by decide +kernel) ha (by decide) (by decide) he hpl
/-- sorted, of a list of ints -/
def isort (l : List Int) : List Int := l.mergeSort (fun a b => decide (a ≤ b))
theorem isort_perm (l : List Int) : (isort l).Perm l := List.mergeSort_perm _ _
theorem isort_sorted (l : List Int) : (isort l).Pairwise (· ≤ ·) := by
  have h := List.pairwise_mergeSort (le := fun a b : Int => decide (a ≤ b)) (fun a b c h1 h2 => by simp at *; omega) (fun a b => by simp; omega) l
  exact h.imp fun h => by simpa using h
theorem sorted_unique : ∀ {a b : List Int}, a.Perm b → a.Pairwise (· ≤ ·) → b.Pairwise (· ≤ ·) → a = b := fun h1 h2 h3 =>
  h1.eq_of_pairwise (fun a b _ _ h4 h5 => Int.le_antisymm h4 h5) h2 h3
def rdSorted (m : Bool) : RCd := fun xs M Q => match xs with
  | [d] => ∃ l, asLst M d = some l ∧ ∃ ns, asInts l = some ns ∧ nl m ((isort ns).map D.int) M Q
  | _ => False
theorem lf_sorted {K : PySem.W.Frag} {m : Bool} : LfC K (rSortedI K) (rdSorted m) := by
  intro xs ds H F M Qd Q R r q po
  unfold rdSorted at q
  split at q
  · obtain ⟨x, rfl, r1⟩ := r.one_inv
    obtain ⟨l, h1, ns, h2, q⟩ := q
    obtain ⟨a, ys, rfl, hx, dx⟩ := lstV R r1 h1
    have e := ints_of_asInts dx h2
    subst e
    refine ⟨a, ns, rfl, hx, fun ns' p h3 h4 hp => ?_⟩
    have e : ns' = isort ns := sorted_unique (h3.trans (isort_perm ns).symm) h4 (isort_sorted ns)
    subst e
    exact nl_ok R (DpL.ints _) q po hp
  · exact q.elim
theorem de_sorted (m : Bool) (hg : Gl X "sorted") (hm : X.mg "sorted" = none) (ha : PAd X E [e] t) (he : starEach [e] X.env = (false, eval e X.env) :: starEach [] X.env := by rfl) (hpl : (backTo pos (starEach [] X.env)).any (·.1) = false := by rfl) :
    PEd X E (.Call (.Name "sorted" p) [e] [] pos) (eCB (rdSorted m) t) := de_callB cr_sortedI lf_sorted hg hm (by decide +kernel) ha (by decide) (by decide) he hpl
/-- tuple(..), list(..) -/
def rdTuple : RCd := fun xs M Q => match xs with
  | [d] => ∃ l, asSeq M d = some l ∧ Q (.tup l) M
  | _ => False
theorem lf_tuple {K : PySem.W.Frag} : LfC K (fun xs H Q => ∃ p ys, xs = [.ref p] ∧ ((SqL K H p ys ∧ ∀ l, H l = none → Q (.ref l) (upd H l (.tup ys))) ∨ (SqT K H p ys ∧ Q (.ref p) H))) rdTuple := by
  intro xs ds H F M Qd Q R r q po
  unfold rdTuple at q
  split at q
  · obtain ⟨x, rfl, r1⟩ := r.one_inv
    obtain ⟨l, h1, q⟩ := q
    cases r1 with
    | @tup a ys l' s dx =>
      cases h1
      exact ⟨a, ys, rfl, .inr ⟨SqT.of (R.ext _ _ s), same_ok R (.tup s dx) q po⟩⟩
    | @lst a ys l' s dx =>
      cases h1
      exact ⟨a, ys, rfl, .inl ⟨SqL.of (R.fr _ _ s), fun p hp => nt_ok R dx q po hp⟩⟩
    | @scr a ys l' s dx =>
      cases h1
      exact ⟨a, ys, rfl, .inl ⟨R.ext.sqL s, fun p hp => nt_ok R dx q po hp⟩⟩
    | ref a =>
      obtain ⟨b, ys, e, hx, dx⟩ := tlV R (.ref a) (l := l) (by unfold asSeq at h1; unfold asTL; exact h1)
      cases e
      exact ⟨a, ys, rfl, .inl ⟨SqL.of hx, fun p hp => nt_ok R dx q po hp⟩⟩
    | _ => cases h1
  · exact q.elim
theorem de_tuple (hg : Gl X "tuple") (hm : X.mg "tuple" = none) (ha : PAd X E [e] t) (he : starEach [e] X.env = (false, eval e X.env) :: starEach [] X.env := by rfl) (hpl : (backTo pos (starEach [] X.env)).any (·.1) = false := by rfl) :
    PEd X E (.Call (.Name "tuple" p) [e] [] pos) (eCB rdTuple t) := de_callTy call_tuple_of lf_tuple hg hm (by decide +kernel) ha (by decide) (by decide) he hpl
def rdList (m : Bool) : RCd := fun xs M Q => match xs with
  | [d] => ∃ l, asSeq M d = some l ∧ nl m l M Q
  | _ => False
theorem lf_list {K : PySem.W.Frag} {m : Bool} : LfC K (fun xs H Q => ∃ p ys, xs = [.ref p] ∧ (SqL K H p ys ∨ SqT K H p ys) ∧ ∀ l, H l = none → Q (.ref l) (upd H l (.lst ys))) (rdList m) := by
  intro xs ds H F M Qd Q R r q po
  unfold rdList at q
  split at q
  · obtain ⟨x, rfl, r1⟩ := r.one_inv
    obtain ⟨l, h1, q⟩ := q
    obtain ⟨a, ys, rfl, hx, dx⟩ := seqV R r1 h1
    exact ⟨a, ys, rfl, hx, fun p hp => nl_ok R dx q po hp⟩
  · exact q.elim
theorem de_list (m : Bool) (hg : Gl X "list") (hm : X.mg "list" = none) (ha : PAd X E [e] t) (he : starEach [e] X.env = (false, eval e X.env) :: starEach [] X.env := by rfl) (hpl : (backTo pos (starEach [] X.env)).any (·.1) = false := by rfl) :
    PEd X E (.Call (.Name "list" p) [e] [] pos) (eCB (rdList m) t) := de_callTy call_list_of lf_list hg hm (by decide +kernel) ha (by decide) (by decide) he hpl
/-- int(..) of an int or a bool; abs -/
def rdInt : RCd := fun xs M Q => match xs with
  | [.int i] => Q (.int i) M
  | [.bl k] => Q (.int (if k then 1 else 0)) M
  | _ => False
theorem lf_int {K : PySem.W.Frag} : LfC K (fun xs H Q => (∃ i, xs = [.int i] ∧ Q (.int i) H) ∨ ∃ k, xs = [.bl k] ∧ Q (.int (if k then 1 else 0)) H) rdInt := by
  intro xs ds H F M Qd Q R r q po
  unfold rdInt at q
  split at q
  · obtain ⟨x, rfl, r1⟩ := r.one_inv
    cases r1
    exact .inl ⟨_, rfl, same_ok R (.int _) q po⟩
  · obtain ⟨x, rfl, r1⟩ := r.one_inv
    cases r1
    exact .inr ⟨_, rfl, same_ok R (.int _) q po⟩
  · exact q.elim
theorem de_int_ (hg : Gl X "int") (hm : X.mg "int" = none) (ha : PAd X E [e] t) (he : starEach [e] X.env = (false, eval e X.env) :: starEach [] X.env := by rfl) (hpl : (backTo pos (starEach [] X.env)).any (·.1) = false := by rfl) :
    PEd X E (.Call (.Name "int" p) [e] [] pos) (eCB rdInt t) := de_callTy call_int1 lf_int hg hm (by decide +kernel) ha (by decide) (by decide) he hpl
def rdAbs : RCd := fun xs M Q => match xs with
  | [.int i] => Q (.int (i.natAbs : Int)) M
  | _ => False
theorem lf_abs {K : PySem.W.Frag} : LfC K (fun xs H Q => ∃ i, xs = [.int i] ∧ Q (.int (if i < 0 then -i else i)) H) rdAbs := by
  intro xs ds H F M Qd Q R r q po
  unfold rdAbs at q
  split at q
  · rename_i i
    obtain ⟨x, rfl, r1⟩ := r.one_inv
    cases r1
    have e : (if i < 0 then -i else i) = (i.natAbs : Int) := by split <;> omega
    exact ⟨i, rfl, by rw [e]; exact same_ok R (.int _) q po⟩
  · exact q.elim
theorem de_abs (hg : Gl X "abs") (hm : X.mg "abs" = none) (ha : PAd X E [e] t) (he : starEach [e] X.env = (false, eval e X.env) :: starEach [] X.env := by rfl) (hpl : (backTo pos (starEach [] X.env)).any (·.1) = false := by rfl) :
    PEd X E (.Call (.Name "abs" p) [e] [] pos) (eCB rdAbs t) := de_callB call_abs lf_abs hg hm (by decide +kernel) ha (by decide) (by decide) he hpl
/-- all, of a list of bools -/
def asBls : List D → Option (List Bool)
  | [] => some []
  | .bl i :: l => (asBls l).map (i :: ·)
  | _ => none
theorem asBls_eq : ∀ {l : List D} {ns : List Bool}, asBls l = some ns → l = ns.map D.bl
  | [], _, h => by cases h; rfl
  | .bl i :: l, ns, h => by
    unfold asBls at h
    cases e : asBls l with
    | none => simp [e] at h
    | some ms => simp [e] at h; subst h; rw [asBls_eq e]; rfl
  | .non :: _, _, h => by cases h
  | .int _ :: _, _, h => by cases h
  | .str _ :: _, _, h => by cases h
  | .tup _ :: _, _, h => by cases h
  | .lst _ :: _, _, h => by cases h
  | .scr _ :: _, _, h => by cases h
  | .ref _ :: _, _, h => by cases h
  | .ty _ :: _, _, h => by cases h
theorem asBls_map : ∀ ns : List Bool, asBls (ns.map D.bl) = some ns
  | [] => rfl
  | n :: r => by rw [List.map_cons]; unfold asBls; rw [asBls_map r]; rfl
theorem DpL.of_bls {K : PySem.W.Frag} {F : Hp} : ∀ {ns : List Bool} {vs : List V}, DpL K F vs (ns.map D.bl) → vs = ns.map V.bl
  | [], _, h => by cases h; rfl
  | n :: r, _, h => by
    cases h with | cons a b =>
      cases a
      rw [DpL.of_bls b]
      rfl
def rdAll : RCd := fun xs M Q => match xs with
  | [d] => ∃ l, asLst M d = some l ∧ ∃ bs, asBls l = some bs ∧ Q (.bl (bs.all id)) M
  | _ => False
theorem lf_all {K : PySem.W.Frag} : LfC K (rAll K) rdAll := by
  intro xs ds H F M Qd Q R r q po
  unfold rdAll at q
  split at q
  · obtain ⟨x, rfl, r1⟩ := r.one_inv
    obtain ⟨l, h1, bs, h2, q⟩ := q
    obtain ⟨a, ys, rfl, hx, dx⟩ := lstV R r1 h1
    have e := asBls_eq h2
    subst e
    have e := dx.of_bls
    subst e
    exact ⟨a, bs, rfl, hx, same_ok R (.bl _) q po⟩
  · exact q.elim
theorem de_all (hc : X.calm = true) (hg : Gl X "all") (hm : X.mg "all" = none) (ha : PAd X E [e] t) (he : starEach [e] X.env = (false, eval e X.env) :: starEach [] X.env := by rfl) (hpl : (backTo pos (starEach [] X.env)).any (·.1) = false := by rfl) :
    PEd X E (.Call (.Name "all" p) [e] [] pos) (eCB rdAll t) := de_callB (cr_all hc) lf_all hg hm (by decide +kernel) ha (by decide) (by decide) he hpl
/-- isinstance(x, T), T a built-in type -/
def tyD (M : MS) : D → Option String
  | .non => some "NoneType"
  | .bl _ => some "bool"
  | .int _ => some "int"
  | .str _ => some "str"
  | .tup _ => some "tuple"
  | .lst _ => some "list"
  | .ref a => match M a with
    | some (.lst _) => some "list"
    | some (.dK _) => some "dict"
    | some (.dT _) => some "dict"
    | _ => none
  | _ => none
def isTy (a b : String) : Bool := a == b || (a == "bool" && b == "int")
def rdIsi : RCd := fun xs M Q => match xs with
  | [d, .ty n] => ∃ k, tyD M d = some k ∧ (n ∈ ["int", "bool", "str", "tuple", "list", "dict"]) ∧ Q (.bl (isTy k n)) M
  | _ => False
theorem tyX {K : PySem.W.Frag} {H F : Hp} {M : MS} (R : Rel K H F M) {d : D} {x : V} {k : String} (r : Dp K F x d) (h : tyD M d = some k) : TyX K H x (.type k) := by
  cases r with
  | non => cases h; exact .base .non
  | bl b => cases h; exact .base (.bl b)
  | int b => cases h; exact .base (.int b)
  | str b => cases h; exact .base (.str b)
  | tup s q =>
    cases h
    rcases SqT.of (R.ext _ _ s) with (h | ⟨o, h⟩) | ⟨o, its, n, h1, h2, _⟩
    · exact .base (.tup h)
    · exact .fTuple h
    · exact .kTuple h1 h2
  | lst s q => cases h; exact .base (.lst (R.fr _ _ s))
  | ref a =>
    unfold tyD at h
    cases hm : M a with
    | none => simp [hm] at h
    | some m =>
      obtain ⟨_, c⟩ := R.cell a _ hm
      cases m with
      | lst l => simp [hm] at h; subst h; obtain ⟨xs, e, _⟩ := c; exact .base (.lst e)
      | dK l => simp [hm] at h; subst h; obtain ⟨xs, e, _⟩ := c; exact .base (.dK e)
      | dT l => simp [hm] at h; subst h; obtain ⟨xs, e, _⟩ := c; exact .base (.dT e)
      | ins C fs => simp [hm] at h
  | _ => cases h
theorem tyD_mem {M : MS} {d : D} {k : String} (h : tyD M d = some k) : k ∈ ["NoneType", "bool", "int", "str", "tuple", "list", "dict"] := by
  unfold tyD at h
  split at h <;> first | (cases h; decide) | cases h | skip
  split at h <;> first | (cases h; decide) | cases h
theorem kit_isTy {K : PySem.W.Frag} : ∀ {k n : String}, k ∈ ["NoneType", "bool", "int", "str", "tuple", "list", "dict"] → n ∈ ["int", "bool", "str", "tuple", "list", "dict"] → PySem.W.kitOne K (.type k) (.type n) = some (isTy k n) := fun {k n} hk hn => by
  have all : ∀ k ∈ ["NoneType", "bool", "int", "str", "tuple", "list", "dict"], ∀ n ∈ ["int", "bool", "str", "tuple", "list", "dict"], kitB k n = some (isTy k n) := by decide +kernel
  exact kit_ty (all k hk n hn)
theorem lf_isi {K : PySem.W.Frag} : LfC K (rIsi K) rdIsi := by
  intro xs ds H F M Qd Q R r q po
  unfold rdIsi at q
  split at q
  · obtain ⟨x, y, rfl, r1, r2⟩ := r.two_inv
    cases r2
    obtain ⟨k, h1, h2, q⟩ := q
    exact ⟨x, _, _, _, _, rfl, .ty _, tyX R r1 h1, kit_isTy (tyD_mem h1) h2, same_ok R (.bl _) q po⟩
  · exact q.elim
theorem de_isi (hg : Gl X "isinstance") (hm : X.mg "isinstance" = none) (ha : PAd X E (e :: es) t) (he : starEach (e :: es) X.env = (false, eval e X.env) :: starEach es X.env := by rfl) (hpl : (backTo pos (starEach es X.env)).any (·.1) = false := by rfl) :
    PEd X E (.Call (.Name "isinstance" p) (e :: es) [] pos) (eCB rdIsi t) := de_callB call_isi lf_isi hg hm (by decide +kernel) ha (by decide) (by decide) he hpl
end
end DL

/-! DLd: calls of defs, objects, targets, statements, loops, comprehensions, over trees. -/
namespace DL
open PySem PySem.Spec L2
section
variable {X : Cx} {E : XK} {a b c e o : Expr} {es : List Expr} {ta tb te : TEd} {tA tB tC : TTd} {t : TAd} {pos p apos : Pos} {rest : List Expr}
variable {CX : CXT} {k : Nat} {f C : Addr} {fd : FuncData} {ps : List Str} {sp : SpD} {dvs : List V} {dds : List D} {dus : List Value} {x m : Str}

/-! ### calls of defs -/
def eCall (sp : SpD) (dds : List D) (t : TAd) : TEd := fun Ed ds M Q => t Ed ds M fun xs M1 => sp (xs ++ dds) M1 Q Ed
theorem lift_call (hv : ∀ F, DpL X.K F dvs dds) (σ : L2.St) (H : Hp) (Q : VK) (h : liftE X.K E (eCall sp dds t) σ H Q) : tCall (spL X.K sp) dvs E (liftA X.K E t) σ H Q := by
  obtain ⟨F, M, ds, Qd, Ed, R, S, q, p, x⟩ := h
  exact ⟨F, M, ds, _, Ed, R, S, q, fun vs H1 F1 M1 xs e1 R1 r1 q1 => ⟨F1, M1, _, Qd, Ed, R1, r1.append (hv F1), q1, p.ext e1, x.ext e1⟩, x⟩
theorem nilV {K : PySem.W.Frag} : ∀ F, DpL K F [] [] := fun _ => .nil
theorem passA {X : Cx} {E : XK} : Passes CX0 X E := fun _ _ _ _ _ _ _ h => h.elim
theorem de_call (F : FnOk X.prog X.w X.K X.mg X.base CX k f fd ps (spL X.K sp)) (hr : Room k X.A) (hg : Gl X x) (hm : X.mg x = some (.ref f)) (hk : PySem.W.keepIn X.K (.ref f) = true) (hb : Binds X.K fd ps dus) (hd : Vals dvs dus) (hv : ∀ F, DpL X.K F dvs dds) (hx : Passes CX X E)
    (ha : PAd X E (e :: es) t) (hdb : (x == ("__debug__" : Str)) = false := by decide) (he : starEach (e :: es) X.env = (false, eval e X.env) :: starEach es X.env := by rfl) (hpl : (backTo pos (starEach es X.env)).any (·.1) = false := by rfl) :
    PEd X E (.Call (.Name x p) (e :: es) [] pos) (eCall sp dds t) := PE.mono (pe_call F hr hg hm hk hb hd hx ha hdb he hpl) (lift_call hv)
theorem de_call0 (F : FnOk X.prog X.w X.K X.mg X.base CX k f fd ps (spL X.K sp)) (hr : Room k X.A) (hg : Gl X x) (hm : X.mg x = some (.ref f)) (hk : PySem.W.keepIn X.K (.ref f) = true) (hb : Binds X.K fd ps dus) (hd : Vals dvs dus) (hv : ∀ F, DpL X.K F dvs dds) (hx : Passes CX X E)
    (hdb : (x == ("__debug__" : Str)) = false := by decide) : PEd X E (.Call (.Name x p) [] [] pos) (eCall sp dds eNil) :=
  PE.mono (pe_call0 F hr hg hm hk hb hd hx hdb) fun σ H Q ⟨F, M, ds, Qd, Ed, R, S, q, p, x⟩ => ⟨F, M, _, Qd, Ed, R, DpL.append .nil (hv F), q, p, x⟩

/-! ### objects -/
theorem FsOk.lookup {K : PySem.W.Frag} {F : Hp} {g : Str} : ∀ {vs : List (Str × V)} {fs : List (Str × D)}, FsOk K F vs fs → (∀ d, fs.lookup g = some d → ∃ v, vs.lookup g = some v ∧ Dp K F v d) ∧ (fs.lookup g = none → vs.lookup g = none)
  | _, _, .nil => ⟨fun d h => (by cases h), fun _ => rfl⟩
  | (n, v) :: vs, (n', d) :: fs, .cons ⟨e, r⟩ t => by
    simp only at e r
    subst e
    have ih := FsOk.lookup (g := g) t
    simp only [List.lookup_cons]
    cases q : g == n with
    | true => exact ⟨fun d' h => (by have h := Option.some.inj h; subst h; exact ⟨v, rfl, r⟩), fun h => (by cases h)⟩
    | false => exact ih
theorem insV {K : PySem.W.Frag} {H F : Hp} {M : MS} {a C : Addr} {fs : List (Str × D)} (R : Rel K H F M) (h : M a = some (.ins C fs)) : ∃ dx vs, H a = some (.ins C dx vs) ∧ FsOk K F vs fs := (R.cell a _ h).2
def eFld (C : Addr) (g : Str) (te : TEd) : TEd := fun Ed ds M Q => te Ed ds M fun x M1 => match x with
  | .ref a => ∃ fs, M1 a = some (.ins C fs) ∧ ∃ d, fs.lookup g = some d ∧ Q d M1
  | _ => False
theorem de_fld {g : Str} (c : Cls X.K C) (n : NoAttr X.K C g) (he : PEd X E e te) (hb : attributeBase e g X.env (eval e X.env) = eval e X.env := by rfl) : PEd X E (.Attribute e g pos) (eFld C g te) :=
  PE.mono (pe_fld he hb) fun σ H Q ⟨F, M, ds, Qd, Ed, R, S, q, p, x⟩ => ⟨F, M, ds, _, Ed, R, S, q, fun v H1 F1 M1 d e1 R1 r1 q1 => by
    cases r1 <;> first | exact q1.elim | skip
    obtain ⟨fs, h1, d, h2, q1⟩ := q1
    obtain ⟨dx, vs, h3, h4⟩ := insV R1 h1
    obtain ⟨v, h5, h6⟩ := h4.lookup.1 d h2
    exact ⟨_, C, dx, vs, v, rfl, h3, c, n, h5, same_ok R1 h6 q1 (p.ext e1)⟩, x⟩
/-- a constant of the class -/
def eCon (C : Addr) (g : Str) (d : D) (te : TEd) : TEd := fun Ed ds M Q => te Ed ds M fun x M1 => match x with
  | .ref a => ∃ fs, M1 a = some (.ins C fs) ∧ fs.lookup g = none ∧ Q d M1
  | _ => False
theorem de_con {g : Str} {v : V} {u : Value} {d : D} (c : Cls X.K C) (n : Con X.K C g v u) (hv : ∀ F, Dp X.K F v d) (he : PEd X E e te) (hb : attributeBase e g X.env (eval e X.env) = eval e X.env := by rfl) : PEd X E (.Attribute e g pos) (eCon C g d te) :=
  PE.mono (pe_con he hb) fun σ H Q ⟨F, M, ds, Qd, Ed, R, S, q, p, x⟩ => ⟨F, M, ds, _, Ed, R, S, q, fun v' H1 F1 M1 d' e1 R1 r1 q1 => by
    cases r1 <;> first | exact q1.elim | skip
    obtain ⟨fs, h1, h2, q1⟩ := q1
    obtain ⟨dx, vs, h3, h4⟩ := insV R1 h1
    exact ⟨_, C, dx, vs, v, u, rfl, h3, c, n, h4.lookup.2 h2, same_ok R1 (hv F1) q1 (p.ext e1)⟩, x⟩
/-- a property -/
def eProp (C : Addr) (sp : SpD) (te : TEd) : TEd := fun Ed ds M Q => te Ed ds M fun x M1 => match x with
  | .ref a => (∃ fs, M1 a = some (.ins C fs)) ∧ sp [.ref a] M1 Q fun _ _ _ => False
  | _ => False
theorem de_prop {g : Str} {pr : Addr} (c : Cls X.K C) (hp : PropOf X.K C g pr f) (F : FnOk X.prog X.w X.K X.mg X.base CX0 k f fd ps (spL X.K sp)) (hr : Room (k + 1) X.A) (hb : Binds X.K fd ps []) (he : PEd X E e te)
    (hab : attributeBase e g X.env (eval e X.env) = eval e X.env := by rfl) : PEd X E (.Attribute e g pos) (eProp C sp te) :=
  PE.mono (pe_prop (E := E0) he c hp F hr hb .nil passA hab) fun σ H Q ⟨F, M, ds, Qd, Ed, R, S, q, p, x⟩ => ⟨F, M, ds, _, Ed, R, S, q, fun v H1 F1 M1 d e1 R1 r1 q1 => by
    cases r1 <;> first | exact q1.elim | skip
    obtain ⟨⟨fs, h1⟩, q1⟩ := q1
    obtain ⟨dx, vs, h3, h4⟩ := insV R1 h1
    exact ⟨_, dx, vs, rfl, h3, F1, M1, _, Qd, _, R1, DpL.one (.ref _), q1, p.ext e1, PostX.none⟩, x⟩
/-- o.m(..) -/
def eMeth (C : Addr) (m : Str) (sp : SpD) (dds : List D) (te : TEd) (t : TAd) : TEd := fun Ed ds M Q => te Ed ds M fun x M1 => match x with
  | .ref a => ∃ fs, M1 a = some (.ins C fs) ∧ fs.lookup m = none ∧ t Ed ds M1 fun xs M2 => sp (.ref a :: (xs ++ dds)) M2 Q Ed
  | _ => False
theorem lift_meth (hv : ∀ F, DpL X.K F dvs dds) (σ : L2.St) (H : Hp) (Q : VK) (h : liftE X.K E (eMeth C m sp dds te t) σ H Q) : tMeth C m (spL X.K sp) dvs E (liftE X.K E te) (liftA X.K E t) σ H Q := by
  obtain ⟨F, M, ds, Qd, Ed, R, S, q, p, x⟩ := h
  refine ⟨F, M, ds, _, Ed, R, S, q, fun v H1 F1 M1 d e1 R1 r1 q1 => ?_, x⟩
  cases r1 <;> first | exact q1.elim | skip
  obtain ⟨fs, h1, h2, q1⟩ := q1
  obtain ⟨dx, vs, h3, h4⟩ := insV R1 h1
  refine ⟨_, dx, vs, rfl, h3, h4.lookup.2 h2, F1, M1, ds, _, Ed, R1, S.ext e1, q1, fun us H2 F2 M2 xs e2 R2 r2 q2 => ?_, x.ext e1⟩
  exact ⟨F2, M2, _, Qd, Ed, R2, .cons (.ref _) (r2.append (hv F2)), q2, p.ext (e1.trans e2), x.ext (e1.trans e2)⟩
theorem de_meth {pl : Sem Bool} (c : Cls X.K C) (hm : Meth X.K C m f) (F : FnOk X.prog X.w X.K X.mg X.base CX k f fd ps (spL X.K sp)) (hr : Room k X.A) (hb : Binds X.K fd ps dus) (hd : Vals dvs dus) (hv : ∀ F, DpL X.K F dvs dds) (hx : Passes CX X E) (he : PEd X E o te) (ha : PAd X E (e :: es) t)
    (hst : starEach (e :: es) X.env = (false, eval e X.env) :: starEach es X.env := by rfl) (hpl : (backTo pos (starEach es X.env)).any (·.1) = false := by rfl)
    (ht : eval (.Call (.Attribute o m apos) (e :: es) [] pos) X.env = (do
      let ov ← eval o X.env
      standAt apos.atName
      let (f, first) ← holding [ov] (getMethod ov m pl)
      callWith pos f first (backTo pos (starEach (e :: es) X.env)) (backToKw pos (keywordEach [] X.env))) := by rfl) :
    PEd X E (.Call (.Attribute o m apos) (e :: es) [] pos) (eMeth C m sp dds te t) := PE.mono (pe_meth (pl := pl) he c hm F hr hb hd hx ha hst hpl ht) (lift_meth hv)
theorem de_meth0 {pl : Sem Bool} (c : Cls X.K C) (hm : Meth X.K C m f) (F : FnOk X.prog X.w X.K X.mg X.base CX k f fd ps (spL X.K sp)) (hr : Room k X.A) (hb : Binds X.K fd ps dus) (hd : Vals dvs dus) (hv : ∀ F, DpL X.K F dvs dds) (hx : Passes CX X E) (he : PEd X E o te)
    (ht : eval (.Call (.Attribute o m apos) [] [] pos) X.env = (do
      let ov ← eval o X.env
      standAt apos.atName
      let (f, first) ← holding [ov] (getMethod ov m pl)
      callWith pos f first (backTo pos (starEach [] X.env)) (backToKw pos (keywordEach [] X.env))) := by rfl) :
    PEd X E (.Call (.Attribute o m apos) [] [] pos) (eMeth C m sp dds te eNil) :=
  PE.mono (pe_meth0 (pl := pl) he c hm F hr hb hd hx ht) fun σ H Q h => by
    obtain ⟨F, M, ds, Qd, Ed, R, S, q, p, x⟩ := h
    refine ⟨F, M, ds, _, Ed, R, S, q, fun v H1 F1 M1 d e1 R1 r1 q1 => ?_, x⟩
    cases r1 <;> first | exact q1.elim | skip
    obtain ⟨fs, h1, h2, q1⟩ := q1
    obtain ⟨dx, vs, h3, h4⟩ := insV R1 h1
    exact ⟨_, dx, vs, rfl, h3, h4.lookup.2 h2, F1, M1, _, Qd, Ed, R1, .cons (.ref _) (DpL.append .nil (hv F1)), q1, p.ext e1, x.ext e1⟩
/-- C(..) -/
def eMake (C : Addr) (sp : SpD) (dds : List D) (t : TAd) : TEd := fun Ed ds M Q => t Ed ds M fun xs M1 => ∀ a, M1 a = none → sp (.ref a :: (xs ++ dds)) (updM M1 a (.ins C [])) (fun v M2 => isNon v = true ∧ Q (.ref a) M2) Ed
theorem make_one {K : PySem.W.Frag} {E : XK} {Q : VK} {F : Hp} {M : MS} {H : Hp} {xs : List D} {vs : List V} {Qd : QD} {Ed : XD} {y dx : Addr} (R : Rel K H F M) (r : DpL K F vs xs) (p : PostE K F Qd Q) (x : PostX K F Ed E) (hy : H y = none) (hdx : H dx = none) (ne : dx ≠ y)
    (q : sp (.ref y :: xs) (updM M y (.ins C [])) (fun v M2 => isNon v = true ∧ Qd (.ref y) M2) Ed) : spL K sp (.ref y :: vs) (upd (upd H dx (.own y)) y (.ins C dx [])) (fun v H2 => v = .non ∧ Q (.ref y) H2) E := by
  refine ⟨F, _, _, _, Ed, (R.newH hdx).newM (m := .ins C []) (by rw [upd_ne ne.symm]; exact hy) ⟨dx, [], rfl, .nil⟩, .cons (.ref y) r, q, fun v H' F' M' d e' R' r' q' => ?_, x⟩
  obtain ⟨h1, q'⟩ := q'
  refine ⟨?_, p _ _ _ _ _ e' R' (.ref y) q'⟩
  have := isNon_ok r'
  rw [h1] at this
  exact of_decide_eq_true this.symm
theorem de_make (Mm : Mk X.K C f) (F : FnOk X.prog X.w X.K X.mg X.base CX k f fd ps (spL X.K sp)) (hr : Room (k + 1) X.A) (hg : Gl X x) (hm : X.mg x = some (.ref C)) (hb : Binds X.K fd ps dus) (hd : Vals dvs dus) (hv : ∀ F, DpL X.K F dvs dds) (hx : Passes CX X E)
    (ha : PAd X E (e :: es) t) (hdb : (x == ("__debug__" : Str)) = false := by decide) (he : starEach (e :: es) X.env = (false, eval e X.env) :: starEach es X.env := by rfl) (hpl : (backTo pos (starEach es X.env)).any (·.1) = false := by rfl) :
    PEd X E (.Call (.Name x p) (e :: es) [] pos) (eMake C sp dds t) :=
  PE.mono (pe_make Mm F hr hg hm hb hd hx ha hdb he hpl) fun σ H Q ⟨F, M, ds, Qd, Ed, R, S, q, p, x⟩ => ⟨F, M, ds, _, Ed, R, S, q, fun vs H1 F1 M1 xs e1 R1 r1 q1 y dx hy hdx ne =>
    make_one R1 (r1.append (hv F1)) (p.ext e1) (x.ext e1) hy hdx ne (q1 y (R1.freeM hy)), x⟩
theorem de_make0 (Mm : Mk X.K C f) (F : FnOk X.prog X.w X.K X.mg X.base CX k f fd ps (spL X.K sp)) (hr : Room (k + 1) X.A) (hg : Gl X x) (hm : X.mg x = some (.ref C)) (hb : Binds X.K fd ps dus) (hd : Vals dvs dus) (hv : ∀ F, DpL X.K F dvs dds) (hx : Passes CX X E)
    (hdb : (x == ("__debug__" : Str)) = false := by decide) : PEd X E (.Call (.Name x p) [] [] pos) (eMake C sp dds eNil) :=
  PE.mono (pe_make0 Mm F hr hg hm hb hd hx hdb) fun σ H Q ⟨F, M, ds, Qd, Ed, R, S, q, p, x⟩ y dx hy hdx ne =>
    make_one R (DpL.append .nil (hv F)) p x hy hdx ne (q y (R.freeM hy))
/-- methods of built-in types -/
def eBM (rd : D → RCd) (te : TEd) (t : TAd) : TEd := fun Ed ds M Q => te Ed ds M fun x M1 => t Ed ds M1 fun xs M2 => rd x xs M2 Q
/-- a cell's list -/
def rdAppend : D → RCd := fun x xs M Q => match x, xs with
  | .ref a, [d] => ∃ l, M a = some (.lst l) ∧ l.length < sizeLine ∧ Q .non (updM M a (.lst (l ++ [d])))
  | _, _ => False
def rdExtend : D → RCd := fun x xs M Q => match x, xs with
  | .ref a, [d] => ∃ l i, M a = some (.lst l) ∧ asTL M d = some i ∧ l.length + i.length ≤ sizeLine ∧ Q .non (updM M a (.lst (l ++ i)))
  | _, _ => False
def rdPop : D → RCd := fun x xs M Q => match x, xs with
  | .ref a, [] => ∃ l d, M a = some (.lst l) ∧ l[l.length - 1]? = some d ∧ Q d (updM M a (.lst l.dropLast))
  | _, _ => False
def rdPopAt : D → RCd := fun x xs M Q => match x, xs with
  | .ref a, [.int i] => ∃ l j d, M a = some (.lst l) ∧ -(2 ^ 63) ≤ i ∧ i < 2 ^ 63 ∧ seqIndex? i l.length = some j ∧ l[j]? = some d ∧ Q d (updM M a (.lst (l.eraseIdx j)))
  | _, _ => False
theorem cellL {K : PySem.W.Frag} {H F : Hp} {M : MS} {a : Addr} {l : List D} (R : Rel K H F M) (h : M a = some (.lst l)) : ∃ xs, H a = some (.lst xs) ∧ DpL K F xs l := (R.cell a _ h).2
theorem wr_ok {K : PySem.W.Frag} {H F : Hp} {M : MS} {a : Addr} {l l' : List D} {xs' : List V} {v : V} {d : D} {Qd : QD} {Q : VK} (R : Rel K H F M) (h : M a = some (.lst l)) (r : DpL K F xs' l') (rd : Dp K F v d) (q : Qd d (updM M a (.lst l'))) (po : PostE K F Qd Q) : Q v (upd H a (.lst xs')) :=
  po _ _ _ _ _ (Ext.refl F) (R.write (m := .lst l') h ⟨xs', rfl, r⟩) rd q
theorem DpL.dropLast {K : PySem.W.Frag} {F : Hp} {xs : List V} {l : List D} (r : DpL K F xs l) : DpL K F xs.dropLast l.dropLast := by
  rw [List.dropLast_eq_take, List.dropLast_eq_take, r.length]; exact r.take _
theorem DpL.eraseIdx {K : PySem.W.Frag} {F : Hp} : ∀ {l : List D} {vs : List V} (i : Nat), DpL K F vs l → DpL K F (vs.eraseIdx i) (l.eraseIdx i)
  | [], _, _, h => by cases h; exact .nil
  | _ :: _, _, 0, h => by cases h with | cons a b => exact b
  | _ :: _, _, i + 1, h => by cases h with | cons a b => exact .cons a (DpL.eraseIdx i b)
/-- the list's kind at the receiver is asked ahead of the arguments -/
def eLM (rd : D → RCd) (te : TEd) (t : TAd) : TEd := fun Ed ds M Q => te Ed ds M fun x M1 => (∃ l, asTL M1 x = some l) ∧ t Ed ds M1 fun xs M2 => rd x xs M2 Q
theorem lift_LM {r : V → List V → Hp → VK → Prop} {rd : D → RCd} (l : LfM X.K r rd) (σ : L2.St) (H : Hp) (Q : VK) (h : liftE X.K E (eLM rd te t) σ H Q) : tBM X.K "list" r (liftE X.K E te) (liftA X.K E t) σ H Q := by
  obtain ⟨F, M, ds, Qd, Ed, R, S, q, p, x⟩ := h
  refine ⟨F, M, ds, _, Ed, R, S, q, fun v H1 F1 M1 d e1 R1 r1 q1 => ?_, x⟩
  obtain ⟨⟨i, hi⟩, q1⟩ := q1
  obtain ⟨a, xs, rfl, hx, dx⟩ := tlV R1 r1 hi
  refine ⟨.inl ⟨rfl, _, SqL.of hx⟩, F1, M1, ds, _, Ed, R1, S.ext e1, q1, fun vs H2 F2 M2 ds2 e2 R2 r2 q2 => ?_, x.ext e1⟩
  exact l _ _ _ _ _ _ _ _ _ R2 (r1.ext e2) r2 q2 (p.ext (e1.trans e2))
theorem lf_append : LfM X.K rAppend rdAppend := by
  intro x xs d ds H F M Qd Q R r rs q po
  unfold rdAppend at q
  split at q
  · cases r
    obtain ⟨y, rfl, r1⟩ := rs.one_inv
    obtain ⟨l, h1, h2, q⟩ := q
    obtain ⟨ys, h3, h4⟩ := cellL R h1
    exact ⟨_, ys, y, rfl, rfl, h3, by rw [h4.length]; exact h2, wr_ok R h1 (h4.append (DpL.one r1)) .non q po⟩
  · exact q.elim
theorem lf_extend : LfM X.K rExtend rdExtend := by
  intro x xs d ds H F M Qd Q R r rs q po
  unfold rdExtend at q
  split at q
  · cases r
    obtain ⟨y, rfl, r1⟩ := rs.one_inv
    obtain ⟨l, i, h1, h2, h5, q⟩ := q
    obtain ⟨ys, h3, h4⟩ := cellL R h1
    obtain ⟨b, zs, rfl, h6, h7⟩ := tlV R r1 h2
    exact ⟨_, b, ys, zs, rfl, rfl, h3, h6, by rw [h4.length, h7.length]; exact h5, wr_ok R h1 (h4.append h7) .non q po⟩
  · exact q.elim
theorem lf_pop : LfM X.K rPop rdPop := by
  intro x xs d ds H F M Qd Q R r rs q po
  unfold rdPop at q
  split at q
  · cases r
    cases rs
    obtain ⟨l, dd, h1, h2, q⟩ := q
    obtain ⟨ys, h3, h4⟩ := cellL R h1
    obtain ⟨v, h5, h6⟩ := h4.get h2
    exact ⟨_, ys, v, rfl, rfl, h3, by rw [h4.length]; exact h5, wr_ok R h1 h4.dropLast h6 q po⟩
  · exact q.elim
theorem lf_popAt : LfM X.K rPopAt rdPopAt := by
  intro x xs d ds H F M Qd Q R r rs q po
  unfold rdPopAt at q
  split at q
  · cases r
    obtain ⟨y, rfl, r1⟩ := rs.one_inv
    cases r1
    obtain ⟨l, j, dd, h1, h2, h2', h3', h3, q⟩ := q
    obtain ⟨ys, h3, h4⟩ := cellL R h1
    obtain ⟨v, h5, h6⟩ := h4.get (by assumption)
    exact ⟨_, ys, _, j, v, rfl, rfl, h3, h2, h2', by rw [h4.length]; exact h3', h5, wr_ok R h1 (h4.eraseIdx j) h6 q po⟩
  · exact q.elim

theorem de_lm {name : Str} {id : String} {r : V → List V → Hp → VK → Prop} {rd : D → RCd} (slot : Slot "list" name id) (hty : typeOf (.builtin id) = pure (.type "method_descriptor")) (hm : MtR X id r) (l : LfM X.K r rd) (he : PEd X E o te) (ha : PAd X E (e :: es) t)
    (hbase : attributeBase o name X.env (eval o X.env) = eval o X.env := by rfl)
    (hfew : ((backTo pos (starEach (e :: es) X.env)).all (fun x => !x.1) && (backToKw pos (keywordEach [] X.env)).all (fun x => x.1.isSome)
      && decide ((e :: es).length + ([] : List Keyword).length + (if ([] : List Keyword).isEmpty then 0 else 1) < 30)) = true := by rfl)
    (hline : (apos.endLine == pos.line) = true := by rfl) (hs : starEach (e :: es) X.env = (false, eval e X.env) :: starEach es X.env := by rfl) (hplain : (backTo pos (starEach es X.env)).any (·.1) = false := by rfl) :
    PEd X E (.Call (.Attribute o name apos) (e :: es) [] pos) (eLM rd te t) := PE.mono (pe_bm PySem.F.plainAttrs_list slot hty hm he ha hbase hfew hline hs hplain) (lift_LM l)
theorem de_lm0 {name : Str} {id : String} {r : V → List V → Hp → VK → Prop} {rd : D → RCd} (slot : Slot "list" name id) (hty : typeOf (.builtin id) = pure (.type "method_descriptor")) (hm : MtR X id r) (l : LfM X.K r rd) (he : PEd X E o te)
    (hbase : attributeBase o name X.env (eval o X.env) = eval o X.env := by rfl) (hline : (apos.endLine == pos.line) = true := by rfl) :
    PEd X E (.Call (.Attribute o name apos) [] [] pos) (eLM rd te eNil) := PE.mono (pe_bm0 PySem.F.plainAttrs_list slot hty hm he hbase hline) fun σ H Q h => by
  obtain ⟨F, M, ds, Qd, Ed, R, S, q, p, x⟩ := h
  refine ⟨F, M, ds, _, Ed, R, S, q, fun v H1 F1 M1 d e1 R1 r1 q1 => ?_, x⟩
  obtain ⟨⟨i, hi⟩, q1⟩ := q1
  obtain ⟨a, xs, rfl, hx, dx⟩ := tlV R1 r1 hi
  exact ⟨.inl ⟨rfl, _, SqL.of hx⟩, l _ _ _ _ _ _ _ _ _ R1 r1 .nil q1 (p.ext e1)⟩
theorem de_append (he : PEd X E o te) (ha : PAd X E [e] t)
    (hbase : attributeBase o "append" X.env (eval o X.env) = eval o X.env := by rfl)
    (hfew : ((backTo pos (starEach [e] X.env)).all (fun x => !x.1) && (backToKw pos (keywordEach [] X.env)).all (fun x => x.1.isSome)
      && decide ([e].length + ([] : List Keyword).length + (if ([] : List Keyword).isEmpty then 0 else 1) < 30)) = true := by rfl)
    (hline : (apos.endLine == pos.line) = true := by rfl) (hs : starEach [e] X.env = (false, eval e X.env) :: starEach [] X.env := by rfl) (hplain : (backTo pos (starEach [] X.env)).any (·.1) = false := by rfl) :
    PEd X E (.Call (.Attribute o "append" apos) [e] [] pos) (eLM rdAppend te t) := de_lm PySem.F.slot_list_append PySem.F.type_list_append mt_append lf_append he ha hbase hfew hline hs hplain
theorem de_extend (he : PEd X E o te) (ha : PAd X E [e] t)
    (hbase : attributeBase o "extend" X.env (eval o X.env) = eval o X.env := by rfl)
    (hfew : ((backTo pos (starEach [e] X.env)).all (fun x => !x.1) && (backToKw pos (keywordEach [] X.env)).all (fun x => x.1.isSome)
      && decide ([e].length + ([] : List Keyword).length + (if ([] : List Keyword).isEmpty then 0 else 1) < 30)) = true := by rfl)
    (hline : (apos.endLine == pos.line) = true := by rfl) (hs : starEach [e] X.env = (false, eval e X.env) :: starEach [] X.env := by rfl) (hplain : (backTo pos (starEach [] X.env)).any (·.1) = false := by rfl) :
    PEd X E (.Call (.Attribute o "extend" apos) [e] [] pos) (eLM rdExtend te t) := de_lm PySem.F.slot_list_extend PySem.F.type_list_extend mt_extend lf_extend he ha hbase hfew hline hs hplain
theorem de_popAt (he : PEd X E o te) (ha : PAd X E [e] t)
    (hbase : attributeBase o "pop" X.env (eval o X.env) = eval o X.env := by rfl)
    (hfew : ((backTo pos (starEach [e] X.env)).all (fun x => !x.1) && (backToKw pos (keywordEach [] X.env)).all (fun x => x.1.isSome)
      && decide ([e].length + ([] : List Keyword).length + (if ([] : List Keyword).isEmpty then 0 else 1) < 30)) = true := by rfl)
    (hline : (apos.endLine == pos.line) = true := by rfl) (hs : starEach [e] X.env = (false, eval e X.env) :: starEach [] X.env := by rfl) (hplain : (backTo pos (starEach [] X.env)).any (·.1) = false := by rfl) :
    PEd X E (.Call (.Attribute o "pop" apos) [e] [] pos) (eLM rdPopAt te t) := de_lm PySem.F.slot_list_pop PySem.F.type_list_pop mt_popAt lf_popAt he ha hbase hfew hline hs hplain
theorem de_pop (he : PEd X E o te) (hbase : attributeBase o "pop" X.env (eval o X.env) = eval o X.env := by rfl) (hline : (apos.endLine == pos.line) = true := by rfl) :
    PEd X E (.Call (.Attribute o "pop" apos) [] [] pos) (eLM rdPop te eNil) := de_lm0 PySem.F.slot_list_pop PySem.F.type_list_pop mt_pop lf_pop he hbase hline

/-! ### targets -/
abbrev TGd := D → DSt → MS → (DSt → MS → Prop) → Prop
abbrev TGsd := List D → DSt → MS → (DSt → MS → Prop) → Prop
def liftG (K : PySem.W.Frag) (g : TGd) : TG := fun v σ H Q => ∃ F M ds d Qd, Rel K H F M ∧ Slots K F σ ds ∧ Dp K F v d ∧ g d ds M Qd ∧ PostS K F Qd Q
def liftGs (K : PySem.W.Frag) (g : TGsd) : TGs := fun vs σ H Q => ∃ F M ds l Qd, Rel K H F M ∧ Slots K F σ ds ∧ DpL K F vs l ∧ g l ds M Qd ∧ PostS K F Qd Q
def PGd (X : Cx) (tg : Expr) (g : TGd) : Prop := PG X tg (liftG X.K g)
def PGsd (X : Cx) (tgs : List Expr) (g : TGsd) : Prop := PGs X tgs (liftGs X.K g)
theorem PG.mono {tg : Expr} {g g' : TG} (h : PG X tg g) (k : ∀ v σ H Q, g' v σ H Q → g v σ H Q) : PG X tg g' := ⟨fun pins s σ H v u Q I r q => h.run pins s σ H v u Q I r (k v σ H Q q)⟩
theorem PGs.mono {tg : List Expr} {g g' : TGs} (h : PGs X tg g) (k : ∀ v σ H Q, g' v σ H Q → g v σ H Q) : PGs X tg g' := ⟨fun pins s σ H v u Q I r q => h.run pins s σ H v u Q I r (k v σ H Q q)⟩
theorem PG.or {tg : Expr} {g g' : TG} (h : PG X tg g) (h' : PG X tg g') : PG X tg (fun v σ H Q => g v σ H Q ∨ g' v σ H Q) := ⟨fun pins s σ H v u Q I r q => q.elim (h.run pins s σ H v u Q I r) (h'.run pins s σ H v u Q I r)⟩
def gVar (i : Nat) : TGd := fun d ds M Q => Q (ds.set i (some d)) M
theorem dg_name {i : Nat} {x : Str} (hN : X.N.Nodup) (hi : X.N[i]? = some x) (hx : Loc X.env.scope x) (hf : X.fn x = true ∨ X.env.scope.names.lookup x = some .local := by first | exact .inl rfl | exact .inr rfl | assumption) : PGd X (.Name x pos) (gVar i) :=
  PG.mono (pg_name (pos := pos) hN hi hx hf) fun v σ H Q ⟨F, M, ds, d, Qd, R, S, r, q, p⟩ => p _ _ _ _ _ (Ext.refl F) R (S.set i r) q
def gNilD : TGsd := fun l ds M Q => match l with
  | [] => Q ds M
  | _ => False
def gConsD (g : TGd) (gs : TGsd) : TGsd := fun l ds M Q => match l with
  | d :: l => g d ds M fun ds1 M1 => gs l ds1 M1 Q
  | _ => False
theorem dgs_nil : PGsd X [] gNilD := PGs.mono pgs_nil fun vs σ H Q ⟨F, M, ds, l, Qd, R, S, r, q, p⟩ => by
  unfold gNilD at q
  split at q
  · cases r
    exact ⟨rfl, p _ _ _ _ _ (Ext.refl F) R S q⟩
  · exact q.elim
theorem dgs_cons {g : TGd} {gs : TGsd} (h1 : PGd X e g) (h2 : PGsd X es gs) (hs : (assignEach (e :: es) X.env).map (·.2) = assign e X.env :: (assignEach es X.env).map (·.2) := by rfl) : PGsd X (e :: es) (gConsD g gs) :=
  PGs.mono (pgs_cons h1 h2 hs) fun vs σ H Q ⟨F, M, ds, l, Qd, R, S, r, q, p⟩ => by
    unfold gConsD at q
    split at q
    · cases r with | cons a b =>
        refine ⟨_, _, rfl, F, M, ds, _, _, R, S, a, q, fun σ1 H1 F1 M1 ds1 e1 R1 S1 q1 => ?_⟩
        exact ⟨F1, M1, ds1, _, Qd, R1, S1, b.ext e1, q1, p.ext e1⟩
    · exact q.elim
def gTupD (n : Nat) (gs : TGsd) : TGd := fun d ds M Q => ∃ l, asSeq M d = some l ∧ l.length = n ∧ gs l ds M Q
theorem dg_tup {kx : Nat} {gs : TGsd} {n : Nat} (hc : X.calm = true) (h : PGsd X es gs) (hn : (assignEach es X.env).length = n := by rfl) (hst : (assignEach es X.env).findIdx? (·.1) = none := by rfl) : PGd X (.Tuple es kx pos) (gTupD n gs) :=
  PG.mono (PG.or (pg_tup (pos := pos) (k := kx) hc h hn hst) (pg_unl (pos := pos) (k := kx) hc h hn hst)) fun v σ H Q ⟨F, M, ds, d, Qd, R, S, r, ⟨l, h1, h2, q⟩, p⟩ => by
    obtain ⟨a, xs, rfl, hx, dx⟩ := seqV R r h1
    have hl : xs.length = n := dx.length.trans h2
    have rest : liftGs X.K gs xs σ H Q := ⟨F, M, ds, l, Qd, R, S, dx, q, p⟩
    rcases hx with hx | hx
    · exact .inr ⟨a, xs, rfl, hx, hl, rest⟩
    · exact .inl ⟨a, xs, rfl, hx, hl, rest⟩
def xNo : XD := fun _ _ _ => False
def gSubD (to ti : TEd) : TGd := fun v ds M Q => to xNo ds M fun o M1 => ti xNo ds M1 fun i M2 => match o, i with
  | .ref a, .int k => ∃ l j, M2 a = some (.lst l) ∧ ixN l.length k = some j ∧ Q ds (updM M2 a (.lst (l.set j v)))
  | _, _ => False
theorem dg_sub {i : Expr} {to ti : TEd} (ho : PEd X E o to) (hi : PEd X E i ti) (ha : ∀ v, assign (.Subscript o i pos) X.env v = (do
      let ov ← holding [v] (eval o X.env)
      let iv ← holding [v, ov] (eval i X.env)
      standAt pos
      holding [v, ov, iv] (setItem ov iv v)
      release [v, ov, iv] []) := by intro _; rfl) : PGd X (.Subscript o i pos) (gSubD to ti) :=
  PG.mono (pg_sub ho hi set_list ha) fun v σ H Q ⟨F, M, ds, d, Qd, R, S, r, q, p⟩ => by
    refine ⟨F, M, ds, _, xNo, R, S, q, fun ov H1 F1 M1 od e1 R1 r1 q1 => ?_, PostX.none⟩
    refine ⟨F1, M1, ds, _, xNo, R1, S.ext e1, q1, fun iv H2 F2 M2 id e2 R2 r2 q2 => ?_, PostX.none⟩
    dsimp only at q2
    split at q2
    · cases r1; cases r2
      obtain ⟨l, j, h1, h2, q2⟩ := q2
      obtain ⟨xs, h3, h4⟩ := cellL R2 h1
      exact ⟨_, xs, _, j, rfl, rfl, h3, by rw [h4.length]; exact h2, p _ _ _ _ _ (e1.trans e2) (R2.write (m := .lst (l.set j d)) h1 ⟨_, rfl, h4.set j (r.ext (e1.trans e2))⟩) (S.ext (e1.trans e2)) q2⟩
    · exact q2.elim
end
end DL

/-! DLe: statements, iterables, loops, comprehensions, over trees. -/
namespace DL
open PySem PySem.Spec L2
section
variable {X : Cx} {E : XK} {a b c e o : Expr} {es : List Expr} {ta tb te : TEd} {tA tB tC : TTd} {t : TAd} {pos p apos : Pos} {st : Stmt} {rest sts : List Stmt} {s u : TSd} {C : Addr}

/-! ### blocks and small statements -/
def sNext : TSd := fun D ds M => D.nx ds M
def sSeq (t u : TSd) : TSd := fun D ds M => t { D with nx := fun ds1 M1 => u D ds1 M1 } ds M
theorem dss_nil : PSsd X E [] sNext := PSs.mono pss_nil fun D σ H ⟨F, M, ds, Dd, R, S, q, p, _⟩ => p _ _ _ _ _ (Ext.refl F) R S q
theorem dss_cons (h1 : PSd X E st s) (h2 : PSsd X E rest u) : PSsd X E (st :: rest) (sSeq s u) :=
  PSs.mono (pss_cons h1 h2) fun D σ H ⟨F, M, ds, Dd, R, S, q, p1, p2, p3, p4, p5⟩ =>
    ⟨F, M, ds, _, R, S, q, fun σ1 H1 F1 M1 ds1 e1 R1 S1 q1 => ⟨F1, M1, ds1, Dd, R1, S1, q1, p1.ext e1, p2.ext e1, p3.ext e1, p4.ext e1, p5.ext e1⟩, p2, p3, p4, p5⟩
theorem dss_one (h1 : PSd X E st s) : PSsd X E [st] s := pss_one h1
def sBreak : TSd := fun D ds M => D.bk ds M
def sCont : TSd := fun D ds M => D.ct ds M
theorem ds_pass : PSd X E (.Pass pos) sNext := PS.mono ps_pass fun D σ H ⟨F, M, ds, Dd, R, S, q, p, _⟩ => p _ _ _ _ _ (Ext.refl F) R S q
theorem ds_break : PSd X E (.Break pos) sBreak := PS.mono ps_break fun D σ H ⟨F, M, ds, Dd, R, S, q, p1, p2, p3, p4, p5⟩ => p3 _ _ _ _ _ (Ext.refl F) R S q
theorem ds_continue : PSd X E (.Continue pos) sCont := PS.mono ps_continue fun D σ H ⟨F, M, ds, Dd, R, S, q, p1, p2, p3, p4, p5⟩ => p4 _ _ _ _ _ (Ext.refl F) R S q
def sExpr (te : TEd) : TSd := fun D ds M => te D.xe ds M fun _ M1 => D.nx ds M1
theorem ds_expr (he : PEd X E e te) (hs : swapsWith e none pos.line X.env = pure false := by rfl) : PSd X E (.Expr e pos) (sExpr te) :=
  PS.mono (ps_expr he hs) fun D σ H ⟨F, M, ds, Dd, R, S, q, p1, p2, p3, p4, p5⟩ => ⟨F, M, ds, _, _, R, S, q, fun v H1 F1 M1 d e1 R1 r1 q1 => p1 _ _ _ _ _ e1 R1 (S.ext e1) q1, p5⟩
def sRet (te : TEd) : TSd := fun D ds M => te D.xe ds M D.rt
theorem ds_ret (he : PEd X E e te) : PSd X E (.Return (some e) pos) (sRet te) :=
  PS.mono (ps_ret he) fun D σ H ⟨F, M, ds, Dd, R, S, q, p1, p2, p3, p4, p5⟩ => ⟨F, M, ds, _, _, R, S, q, p2, p5⟩
def sRetN : TSd := fun D _ M => D.rt .non M
theorem ds_retN : PSd X E (.Return none pos) sRetN := PS.mono ps_retN fun D σ H ⟨F, M, ds, Dd, R, S, q, p1, p2, p3, p4, p5⟩ => p2 _ _ _ _ _ (Ext.refl F) R .non q
def sIf (c : TTd) (t u : TSd) : TSd := fun D ds M => c D.xe ds M fun k M1 => if k = true then t D ds M1 else u D ds M1
theorem ds_if {a b : List Stmt} (hc : PTd X E c tC) (ha : PSsd X E a s) (hb : PSsd X E b u) : PSd X E (.If c a b pos) (sIf tC s u) :=
  PS.mono (ps_if hc ha hb) fun D σ H ⟨F, M, ds, Dd, R, S, q, p1, p2, p3, p4, p5⟩ => ⟨F, M, ds, _, _, R, S, q, fun k H1 F1 M1 e1 R1 q1 => by
    cases k with
    | true => exact ⟨F1, M1, ds, Dd, R1, S.ext e1, q1, p1.ext e1, p2.ext e1, p3.ext e1, p4.ext e1, p5.ext e1⟩
    | false => exact ⟨F1, M1, ds, Dd, R1, S.ext e1, q1, p1.ext e1, p2.ext e1, p3.ext e1, p4.ext e1, p5.ext e1⟩, p5⟩
def sNever : TSd := fun _ _ _ => False
theorem ds_never : PSd X E st sNever := PS.mono ps_never fun D σ H ⟨F, M, ds, Dd, R, S, q, _⟩ => q
theorem dss_never : PSsd X E sts sNever := PSs.mono pss_never fun D σ H ⟨F, M, ds, Dd, R, S, q, _⟩ => q
/-- a list cell in slot i is frozen: the slot holds the tree -/
def sFreeze (i : Nat) (t : TSd) : TSd := fun D ds M => ∃ a l, ds[i]? = some (some (.ref a)) ∧ M a = some (.lst l) ∧ t D (ds.set i (some (.lst l))) (dropM M a)
theorem dss_freeze (i : Nat) (h : PSsd X E sts s) : PSsd X E sts (sFreeze i s) :=
  PSs.mono h fun D σ H ⟨F, M, ds, Dd, R, S, ⟨a, l, h1, h2, q⟩, p1, p2, p3, p4, p5⟩ => by
    obtain ⟨F', e, R', r⟩ := R.freeze h2
    obtain ⟨v, h3, h4⟩ := S.2 i _ h1
    cases h4
    have S' : Slots X.K F' σ (ds.set i (some (.lst l))) := by
      have := (S.ext e).set i r
      have e2 : σ.set i (some (V.ref a)) = σ := by
        apply List.ext_getElem?
        intro j
        by_cases hj : i = j
        · subst hj
          rw [h3]
          exact List.getElem?_set_self (List.getElem?_eq_some_iff.mp h3).1
        · rw [List.getElem?_set_ne hj]
      rwa [e2] at this
    exact ⟨F', _, _, Dd, R', S', q, p1.ext e, p2.ext e, p3.ext e, p4.ext e, p5.ext e⟩
def SubM (M' M : MS) : Prop := ∀ a m, M' a = some m → M a = some m
theorem SubM.refl (M : MS) : SubM M M := fun _ _ h => h
theorem SubM.trans {A B C : MS} (h : SubM A B) (g : SubM B C) : SubM A C := fun a m e => g a m (h a m e)
theorem SubM.upd {M : MS} {a : Addr} {o : MO} (h : M a = none) : SubM M (updM M a o) := fun b m e => by
  rw [updM_ne (fun z => by subst z; rw [h] at e; cases e)]; exact e
/-- cells are forgotten -/
def sForget (t : TSd) : TSd := fun D ds M => ∃ M', SubM M' M ∧ t D ds M'
theorem dss_forget (h : PSsd X E sts s) : PSsd X E sts (sForget s) :=
  PSs.mono h fun D σ H ⟨F, M, ds, Dd, R, S, ⟨M', k, q⟩, p⟩ => ⟨F, M', ds, Dd, R.forget k, S, q, p⟩

/-! ### assignments -/
def sAsg (te : TEd) (g : TGd) : TSd := fun D ds M => te D.xe ds M fun d M1 => g d ds M1 D.nx
theorem lift_asg {g : TGd} {tg : TG} (hg : ∀ v σ H Q, liftG X.K g v σ H Q → tg v σ H Q) (D : Ends) (σ : L2.St) (H : Hp) (h : liftS X.K E (sAsg te g) D σ H) : tAsg (liftE X.K E te) tg D σ H := by
  obtain ⟨F, M, ds, Dd, R, S, q, p1, p2, p3, p4, p5⟩ := h
  exact ⟨F, M, ds, _, _, R, S, q, fun v H1 F1 M1 d e1 R1 r1 q1 => hg _ _ _ _ ⟨F1, M1, ds, d, _, R1, S.ext e1, r1, q1, p1.ext e1⟩, p5⟩
theorem ds_asg {tg : Expr} {g : TGd} (he : PEd X E e te) (hg : PGd X tg g) (hs : swapsWithSole [tg] e pos.line X.env = pure false := by rfl) (hw : swappedStores [tg] e X.env = pure none := by rfl)
    (h1 : (assignEach [tg] X.env).map (·.2) = [assign tg X.env] := by rfl) : PSd X E (.Assign [tg] e pos) (sAsg te g) := PS.mono (ps_asg he hg hs hw h1) (lift_asg fun _ _ _ _ h => h)
theorem gVar_lift {i : Nat} (v : V) (σ : L2.St) (H : Hp) (Q : L2.St → Hp → Prop) (h : liftG X.K (gVar i) v σ H Q) : gName i v σ H Q := by
  obtain ⟨F, M, ds, d, Qd, R, S, r, q, p⟩ := h
  exact p _ _ _ _ _ (Ext.refl F) R (S.set i r) q
theorem ds_set {i : Nat} {x : Str} {pos' : Pos} (hN : X.N.Nodup) (hi : X.N[i]? = some x) (hx : Loc X.env.scope x) (he : PEd X E e te) (hs : swapsWith e (some (.Name x pos')) pos.line X.env = pure false := by rfl) (hf : X.fn x = true ∨ X.env.scope.names.lookup x = some .local := by first | exact .inl rfl | exact .inr rfl | assumption) :
    PSd X E (.Assign [.Name x pos'] e pos) (sAsg te (gVar i)) := PS.mono (ps_set hN hi hx he hs hf) (lift_asg gVar_lift)
/-- a, b = x, y -/
def sPar (i j : Nat) (t : TAd) : TSd := fun D ds M => t D.xe ds M fun xs M1 => match xs with
  | [x, y] => D.nx ((ds.set i (some x)).set j (some y)) M1
  | _ => False
theorem ds_par {i j : Nat} {x y : Str} {px py pt : Pos} {kt k2 pt2} (hc : X.calm = true) (hN : X.N.Nodup) (hi : X.N[i]? = some x) (hj : X.N[j]? = some y) (hij : i ≠ j)
    (hx : X.env.scope.names.lookup x = some .local) (hy : X.env.scope.names.lookup y = some .local) (ha : PAd X E [a, b] t)
    (hw : swappedStores [.Tuple [.Name x px, .Name y py] kt pt] (.Tuple [a, b] k2 pt2) X.env = pure (some [x, y]) := by rfl)
    (hs : swapsWithSole [.Tuple [.Name x px, .Name y py] kt pt] (.Tuple [a, b] k2 pt2) pos.line X.env = pure false := by rfl) :
    PSd X E (.Assign [.Tuple [.Name x px, .Name y py] kt pt] (.Tuple [a, b] k2 pt2) pos) (sPar i j t) :=
  PS.mono (ps_par hc hN hi hj hij hx hy ha hw hs) fun D σ H ⟨F, M, ds, Dd, R, S, q, p1, p2, p3, p4, p5⟩ => ⟨F, M, ds, _, _, R, S, q, fun vs H1 F1 M1 xs e1 R1 r1 q1 => by
    dsimp only at q1
    split at q1
    · obtain ⟨v, w, rfl, r2, r3⟩ := r1.two_inv
      exact ⟨v, w, rfl, p1 _ _ _ _ _ e1 R1 (((S.ext e1).set i r2).set j r3) q1⟩
    · exact q1.elim, p5⟩
/-- o.f = e -/
def putD (f : Str) (d : D) : List (Str × D) → List (Str × D)
  | [] => [(f, d)]
  | (g, x) :: r => if g = f then (g, d) :: r else (g, x) :: putD f d r
theorem FsOk.put {K : PySem.W.Frag} {F : Hp} {g : Str} {v : V} {d : D} (r : Dp K F v d) : ∀ {vs : List (Str × V)} {fs : List (Str × D)}, FsOk K F vs fs → FsOk K F (putF g v vs) (putD g d fs)
  | _, _, .nil => .cons ⟨rfl, r⟩ .nil
  | (n, v) :: vs, (n', d) :: fs, .cons ⟨e, q⟩ t => by
    simp only at e q
    subst e
    unfold putF putD
    by_cases h : n = g
    · rw [if_pos h, if_pos h]; exact .cons ⟨rfl, r⟩ t
    · rw [if_neg h, if_neg h]; exact .cons ⟨rfl, q⟩ (FsOk.put r t)
theorem FsOk.length {K : PySem.W.Frag} {F : Hp} {vs : List (Str × V)} {fs : List (Str × D)} (h : FsOk K F vs fs) : vs.length = fs.length := Paired.length h
def sFldD (C : Addr) (g : Str) (te to : TEd) : TSd := fun D ds M => te D.xe ds M fun d M1 => to D.xe ds M1 fun x M2 => match x with
  | .ref a => ∃ fs, M2 a = some (.ins C fs) ∧ fs.length < 1000 ∧ D.nx ds (updM M2 a (.ins C (putD g d fs)))
  | _ => False
theorem ds_fld {g : Str} {pos' : Pos} {to : TEd} (c : Cls X.K C) (n : NoAttr X.K C g) (he : PEd X E e te) (ho : PEd X E o to) (hs : swapsWith e (some (.Attribute o g pos')) pos.line X.env = pure false := by rfl) : PSd X E (.Assign [.Attribute o g pos'] e pos) (sFldD C g te to) :=
  PS.mono (ps_fld ho he hs) fun D σ H ⟨F, M, ds, Dd, R, S, q, p1, p2, p3, p4, p5⟩ => ⟨F, M, ds, _, _, R, S, q, fun v H1 F1 M1 d e1 R1 r1 q1 =>
    ⟨F1, M1, ds, _, _, R1, S.ext e1, q1, fun ov H2 F2 M2 od e2 R2 r2 q2 => by
      cases r2 <;> first | exact q2.elim | skip
      obtain ⟨fs, h1, h2, q2⟩ := q2
      obtain ⟨dx, vs, h3, h4⟩ := insV R2 h1
      exact ⟨_, C, dx, vs, rfl, h3, c, n, by rw [h4.length]; exact h2, p1 _ _ _ _ _ (e1.trans e2) (R2.write (m := .ins C _) h1 ⟨dx, _, rfl, h4.put (r1.ext e2)⟩) (S.ext (e1.trans e2)) q2⟩, p5.ext e1⟩, p5⟩
/-- x += e, a local, ints -/
def sAugAdd (i : Nat) (te : TEd) : TSd := fun D ds M => match ds[i]? with
  | some (some (.int x)) => te D.xe ds M fun d M1 => match d with
    | .int y => D.nx (ds.set i (some (.int (x + y)))) M1
    | _ => False
  | _ => False
theorem ds_augAdd {i : Nat} {x : Str} {pos' : Pos} (hN : X.N.Nodup) (hi : X.N[i]? = some x) (hx : Loc X.env.scope x) (he : PEd X E e te) (hf : X.fn x = true ∨ X.env.scope.names.lookup x = some .local := by first | exact .inl rfl | exact .inr rfl | assumption) :
    PSd X E (.AugAssign (.Name x pos') .Add e pos) (sAugAdd i te) := by
  refine PS.mono (ps_aug hN hi hx he ip_add hf) fun D σ H ⟨F, M, ds, Dd, R, S, q, p1, p2, p3, p4, p5⟩ => by
    unfold sAugAdd at q
    split at q
    · rename_i z hz
      obtain ⟨v, h1, h2⟩ := S.2 i _ hz
      cases h2
      refine ⟨_, h1, F, M, ds, _, _, R, S, q, fun w H1 F1 M1 d e1 R1 r1 q1 => ?_, p5⟩
      dsimp only at q1
      split at q1
      · cases r1
        exact ⟨z, _, rfl, rfl, p1 _ _ _ _ _ e1 R1 ((S.ext e1).set i (.int _)) q1⟩
      · exact q1.elim
    · exact q.elim

/-! ### iterables -/
abbrev TId := XD → DSt → MS → (List D → MS → Prop) → Prop
def YD (K : PySem.W.Frag) (F : Hp) (items : List D) : Nat → Hp → V → Hp → Prop := fun i H x H' => ∃ d, items[i]? = some d ∧
  ((H' = H ∧ Dp K F x d) ∨ ∃ T vs l, x = .ref T ∧ H T = none ∧ H' = upd H T (.tup vs) ∧ d = .tup l ∧ DpL K F vs l)
def IterD (K : PySem.W.Frag) (F : Hp) (items : List D) (J : It) : Prop := Walk J items.length (fun H => Ext F H) (YD K F items)
def liftI (K : PySem.W.Frag) (E : XK) (t : TId) : TI := fun σ H R => ∃ F M ds Qd Ed, Rel K H F M ∧ Slots K F σ ds ∧ t Ed ds M Qd ∧ PostX K F Ed E ∧
  ∀ J H' F' M' items, Ext F F' → Rel K H' F' M' → IterD K F' items J → Qd items M' → R J H'
def PId (X : Cx) (E : XK) (tg iter : Expr) (t : TId) : Prop := PI X tg iter (liftI X.K E t)
theorem PI.mono {tg iter : Expr} {t t' : TI} (h : PI X tg iter t) (k : ∀ σ H R, t' σ H R → t σ H R) : PI X tg iter t' := ⟨fun pins s σ H R I q => h.run pins s σ H R I (k σ H R q)⟩
theorem PI.or {tg iter : Expr} {t t' : TI} (h : PI X tg iter t) (h' : PI X tg iter t') : PI X tg iter (fun σ H R => t σ H R ∨ t' σ H R) := ⟨fun pins s σ H R I q => q.elim (h.run pins s σ H R I) (h'.run pins s σ H R I)⟩
/-- a frozen list or tuple -/
def asFz : D → Option (List D)
  | .tup l => some l
  | .lst l => some l
  | .scr l => some l
  | _ => none
def iSeq (te : TEd) : TId := fun Ed ds M Q => te Ed ds M fun d M1 => ∃ l, asFz d = some l ∧ Q l M1
theorem iter_list {K : PySem.W.Frag} {F : Hp} {a : Addr} {xs : List V} {l : List D} (h : SqL K F a xs) (r : DpL K F xs l) : IterD K F l (Itl K a) := by
  unfold IterD
  rw [← r.length]
  refine Walk.mono (walk_list (a := a) (xs := xs)) (fun H e => e.sqL h) fun i H x H' hi _ y => ?_
  obtain ⟨e, y⟩ := y
  obtain ⟨d, h1, h2⟩ := r.getV y
  exact ⟨d, h1, .inl ⟨e, h2⟩⟩
theorem iter_tup {K : PySem.W.Frag} {F : Hp} {a : Addr} {xs : List V} {l : List D} (h : SqT K F a xs) (r : DpL K F xs l) : IterD K F l (Itt K a) := by
  unfold IterD
  rw [← r.length]
  refine Walk.mono (walk_tup (a := a) (xs := xs)) (fun H e => e.sqT h) fun i H x H' hi _ y => ?_
  obtain ⟨e, y⟩ := y
  obtain ⟨d, h1, h2⟩ := r.getV y
  exact ⟨d, h1, .inl ⟨e, h2⟩⟩
theorem di_list {tg : Expr} (he : PEd X E e te) : PId X E tg e (iSeq te) := by
  have rule : ∀ (pins : List (Addr × Obj)) (s : Shared) (σ : L2.St) (H : Hp) (R : It → Hp → Prop), Inv X pins σ H s → liftI X.K E (iSeq te) σ H R →
      wpAny (model X.prog X.w) X.A (eval e X.env) (fun v s1 => wpAny (model X.prog X.w) X.A (pyIter v) (PIE X pins σ tg R) X.xe s1) X.xe s := fun pins s σ H R I h => by
    obtain ⟨F, M, ds, Qd, Ed, Rl, S, q, x, k⟩ := h
    refine thn (he.run pins s σ H (fun v H1 => ∃ a, v = .ref a ∧ ((∃ xs, SqL X.K H1 a xs) ∧ R (Itl X.K a) H1 ∨ (∃ xs, SqT X.K H1 a xs) ∧ R (Itt X.K a) H1)) I ⟨F, M, ds, _, Ed, Rl, S, q, fun v H1 F1 M1 d e1 R1 r1 q1 => ?_, x⟩) fun v s1 ⟨y, H1, I1, r1, a, e1, q1⟩ => ?_
    · obtain ⟨l, h1, q1⟩ := q1
      cases r1 with
      | tup s' r' => cases h1; exact ⟨_, rfl, .inr ⟨⟨_, SqT.of (R1.ext _ _ s')⟩, k _ _ _ _ _ e1 R1 (iter_tup (SqT.of s') r') q1⟩⟩
      | lst s' r' => cases h1; exact ⟨_, rfl, .inl ⟨⟨_, SqL.of (R1.fr _ _ s')⟩, k _ _ _ _ _ e1 R1 (iter_list (SqL.of s') r') q1⟩⟩
      | scr s' r' => cases h1; exact ⟨_, rfl, .inl ⟨⟨_, R1.ext.sqL s'⟩, k _ _ _ _ _ e1 R1 (iter_list s' r') q1⟩⟩
      | _ => cases h1
    · subst e1
      cases r1
      rcases q1 with ⟨⟨xs, hq⟩, q⟩ | ⟨⟨xs, hq⟩, q⟩
      · obtain ⟨its, rv, p, hz⟩ := I1.list hq
        refine wpAny_pyIter_list p.isList ?_
        refine ⟨s1.heap.objs.size, [s1.heap.objs.size], _, _, H1, rfl, I1.kept (t' := s1.toks) fun b o e => Heap.get?_push_of_some _ e, turn_list a _, ⟨_, Heap.get?_push_size _ rfl, rfl, rfl⟩, fun b hb => ?_, q⟩
        have e : b = s1.heap.objs.size := by simpa using hb
        subst e
        exact I1.fpOk (Nat.le_refl _) (I1.hok.fresh (Nat.le_refl _))
      · obtain ⟨its, rv, p, hz⟩ := I1.tuple hq
        refine wpAny_pyIter_tuple (show s1.heap.IsTuple a its.toArray from p) ?_
        refine ⟨s1.heap.objs.size, [s1.heap.objs.size], _, _, H1, rfl, I1.kept (t' := s1.toks) fun b o e => Heap.get?_push_of_some _ e, turn_tuple a _, ⟨_, Heap.get?_push_size _ rfl, rfl, rfl⟩, fun b hb => ?_, q⟩
        have e : b = s1.heap.objs.size := by simpa using hb
        subst e
        exact I1.fpOk (Nat.le_refl _) (I1.hok.fresh (Nat.le_refl _))
  exact ⟨rule⟩
/-- ranges -/
def rangeD (lo : Int) (n : Nat) : List D := (List.range n).map fun i => D.int (lo + (i : Nat))
theorem rangeD_len (lo : Int) (n : Nat) : (rangeD lo n).length = n := by simp [rangeD]
theorem rangeD_get {lo : Int} {n i : Nat} (h : i < n) : (rangeD lo n)[i]? = some (.int (lo + (i : Nat))) := by simp [rangeD, h]
theorem iter_range {K : PySem.W.Frag} {F : Hp} {lo : Int} {n : Nat} : IterD K F (rangeD lo n) (Itr lo n) := by
  unfold IterD
  rw [rangeD_len]
  refine Walk.mono (walk_range (lo := lo) (n := n)) (fun H e => trivial) fun i H x H' hi _ y => ?_
  obtain ⟨e, y⟩ := y
  subst y
  exact ⟨_, rangeD_get hi, .inl ⟨e, .int _⟩⟩
def iRange1 (t : TAd) : TId := fun Ed ds M Q => t Ed ds M fun xs M1 => match xs with
  | [.int j] => (-(2 ^ 62) ≤ j ∧ j < 2 ^ 62) ∧ Q (rangeD 0 j.toNat) M1
  | _ => False
def iRange2 (t : TAd) : TId := fun Ed ds M Q => t Ed ds M fun xs M1 => match xs with
  | [.int i, .int j] => (-(2 ^ 62) ≤ i ∧ i < 2 ^ 62 ∧ -(2 ^ 62) ≤ j ∧ j < 2 ^ 62) ∧ Q (rangeD i (j - i).toNat) M1
  | _ => False
theorem di_range1 {tg : Expr} (hg : Gl X "range") (hm : X.mg "range" = none) (ha : PAd X E [a] t) (hs : starEach [a] X.env = [(false, eval a X.env)] := by rfl) : PId X E tg (.Call (.Name "range" p) [a] [] pos) (iRange1 t) :=
  PI.mono (pi_range1 (tg := tg) (p := p) (pos := pos) hg hm ha hs) fun σ H R ⟨F, M, ds, Qd, Ed, Rl, S, q, x, k⟩ => ⟨F, M, ds, _, Ed, Rl, S, q, fun vs H1 F1 M1 xs e1 R1 r1 q1 => by
    dsimp only at q1
    split at q1
    · obtain ⟨y, rfl, r2⟩ := r1.one_inv
      cases r2
      exact ⟨_, rfl, q1.1.1, q1.1.2, k _ _ _ _ _ e1 R1 iter_range q1.2⟩
    · exact q1.elim, x⟩
theorem di_range2 {tg : Expr} (hg : Gl X "range") (hm : X.mg "range" = none) (ha : PAd X E [a, b] t) (hs : starEach [a, b] X.env = [(false, eval a X.env), (false, eval b X.env)] := by rfl) (hs2 : starEach [b] X.env = [(false, eval b X.env)] := by rfl) : PId X E tg (.Call (.Name "range" p) [a, b] [] pos) (iRange2 t) :=
  PI.mono (pi_range2 (tg := tg) (p := p) (pos := pos) hg hm ha hs hs2) fun σ H R ⟨F, M, ds, Qd, Ed, Rl, S, q, x, k⟩ => ⟨F, M, ds, _, Ed, Rl, S, q, fun vs H1 F1 M1 xs e1 R1 r1 q1 => by
    dsimp only at q1
    split at q1
    · obtain ⟨y, z, rfl, r2, r3⟩ := r1.two_inv
      cases r2; cases r3
      exact ⟨_, _, rfl, q1.1, k _ _ _ _ _ e1 R1 iter_range q1.2⟩
    · exact q1.elim, x⟩
/-- range(a, b, -1) -/
def downD (lo c : Int) (n : Nat) : List D := (List.range n).map fun i => D.int (lo + (i : Nat) * c)
theorem iter_rangeC {K : PySem.W.Frag} {F : Hp} {lo c : Int} {n : Nat} : IterD K F (downD lo c n) (Itc lo c n) := by
  unfold IterD
  rw [show (downD lo c n).length = n by simp [downD]]
  refine Walk.mono (walk_rangeC (lo := lo) (c := c) (n := n)) (fun H e => trivial) fun i H x H' hi _ y => ?_
  obtain ⟨e, y⟩ := y
  subst y
  exact ⟨.int (lo + (i : Nat) * c), by simp [downD, hi], .inl ⟨e, .int _⟩⟩
/-- pairs -/
def pairsD (xs ys : List D) : List D := (xs.zip ys).map fun p => D.tup [p.1, p.2]
def enumD (k : Nat) : List D → List D
  | [] => []
  | x :: xs => .tup [.int (k : Nat), x] :: enumD (k + 1) xs
theorem enumD_len : ∀ (k : Nat) (xs : List D), (enumD k xs).length = xs.length
  | _, [] => rfl
  | k, _ :: xs => congrArg (· + 1) (enumD_len (k + 1) xs)
theorem enumD_get : ∀ {k : Nat} {xs : List D} {i : Nat} {d : D}, xs[i]? = some d → (enumD k xs)[i]? = some (.tup [.int ((k + i : Nat) : Int), d])
  | k, [], i, d, h => by simp at h
  | k, x :: xs, 0, d, h => by simp at h; subst h; rfl
  | k, x :: xs, i + 1, d, h => by
    have := enumD_get (k := k + 1) (xs := xs) (i := i) (d := d) (by simpa using h)
    rw [enumD, List.getElem?_cons_succ, this]
    congr 5; omega
theorem pairs_get {l l' : List D} {i : Nat} {d d' : D} (h : l[i]? = some d) (h' : l'[i]? = some d') : (pairsD l l')[i]? = some (.tup [d, d']) := by
  unfold pairsD
  rw [List.getElem?_map]
  have : (l.zip l')[i]? = some (d, d') := by rw [List.getElem?_zip_eq_some]; exact ⟨h, h'⟩
  rw [this]; rfl
theorem iter_zip {K : PySem.W.Frag} {F : Hp} {a b : Addr} {xs ys : List V} {l l' : List D} (h : SqL K F a xs) (h' : SqL K F b ys) (r : DpL K F xs l) (r' : DpL K F ys l') : IterD K F (pairsD l l') (Itz K a b) := by
  unfold IterD
  have hn : (pairsD l l').length = min xs.length ys.length := by simp [pairsD, r.length, r'.length]
  refine Walk.mono (walk_zip (a := a) (b := b) hn) (fun H e => ⟨e.sqL h, e.sqL h'⟩) fun i H x H' hi _ y => ?_
  obtain ⟨T, u, v, h1, h2, h3, h4, h5⟩ := y
  obtain ⟨d, h6, h7⟩ := r.getV h4
  obtain ⟨d', h8, h9⟩ := r'.getV h5
  refine ⟨.tup [d, d'], ?_, .inr ⟨T, [u, v], [d, d'], h1, h2, h3, rfl, .cons h7 (.cons h9 .nil)⟩⟩
  rw [pairs_get h6 h8]
theorem iter_zipT {K : PySem.W.Frag} {F : Hp} {a b : Addr} {xs ys : List V} {l l' : List D} (h : SqT K F a xs) (h' : SqT K F b ys) (r : DpL K F xs l) (r' : DpL K F ys l') : IterD K F (pairsD l l') (RZ.ItzT K a b) := by
  unfold IterD
  have hn : (pairsD l l').length = min xs.length ys.length := by simp [pairsD, r.length, r'.length]
  rw [hn]
  refine ⟨fun i H hi e => ?_, fun H e => ⟨xs, ys, e.sqT h, e.sqT h', by omega⟩, fun i H x H' hi e y => ?_⟩
  · have h1 : i < xs.length := by omega
    have h2 : i < ys.length := by omega
    exact ⟨xs, ys, xs[i], ys[i], e.sqT h, e.sqT h', by simp [h1], by simp [h2]⟩
  · obtain ⟨T, u, v, h1, h2, h3, h4, h5⟩ := y
    obtain ⟨d, h6, h7⟩ := r.getV (h4 xs (e.sqT h))
    obtain ⟨d', h8, h9⟩ := r'.getV (h5 ys (e.sqT h'))
    refine ⟨.tup [d, d'], ?_, .inr ⟨T, [u, v], [d, d'], h1, h2, h3, rfl, .cons h7 (.cons h9 .nil)⟩⟩
    rw [pairs_get h6 h8]
/-- two lists, or two tuples -/
def iZipD (t : TAd) : TId := fun Ed ds M Q => t Ed ds M fun xs M1 => match xs with
  | [.tup x, .tup y] => Q (pairsD x y) M1
  | [.lst x, .lst y] => Q (pairsD x y) M1
  | _ => False
theorem di_zip {kk : Nat} {tpos : Pos} {elts : List Expr} (hg : Gl X "zip") (hm : X.mg "zip" = none) (ha : PAd X E [a, b] t)
    (hs : starEach [a, b] X.env = (false, eval a X.env) :: starEach [b] X.env := by rfl) (hpl : (backTo pos (starEach [b] X.env)).any (·.1) = false := by rfl) :
    PId X E (.Tuple elts kk tpos) (.Call (.Name "zip" p) [a, b] [] pos) (iZipD t) :=
  PI.mono (RZ.pi_zipA (elts := elts) (kk := kk) (tpos := tpos) (p := p) (pos := pos) hg hm ha hs hpl) fun σ H R ⟨F, M, ds, Qd, Ed, Rl, S, q, x, k⟩ => ⟨F, M, ds, _, Ed, Rl, S, q, fun vs H1 F1 M1 xs e1 R1 r1 q1 => by
    dsimp only at q1
    split at q1
    · obtain ⟨y, z, rfl, r2, r3⟩ := r1.two_inv
      cases r2 with | tup s2 l2 =>
      cases r3 with | tup s3 l3 =>
      exact ⟨_, _, _, _, rfl, .inr ⟨SqT.of (R1.ext _ _ s2), SqT.of (R1.ext _ _ s3), k _ _ _ _ _ e1 R1 (iter_zipT (SqT.of s2) (SqT.of s3) l2 l3) q1⟩⟩
    · obtain ⟨y, z, rfl, r2, r3⟩ := r1.two_inv
      cases r2 with | lst s2 l2 =>
      cases r3 with | lst s3 l3 =>
      exact ⟨_, _, _, _, rfl, .inl ⟨SqL.of (R1.fr _ _ s2), SqL.of (R1.fr _ _ s3), k _ _ _ _ _ e1 R1 (iter_zip (SqL.of s2) (SqL.of s3) l2 l3) q1⟩⟩
    · exact q1.elim, x⟩
end
end DL

/-! DLf: enumerate, for, while, list comprehensions, over trees. -/
namespace DL
open PySem PySem.Spec L2
section
variable {X : Cx} {E : XK} {a b c e o : Expr} {es : List Expr} {ta tb te : TEd} {tA tB tC : TTd} {t : TAd} {pos p apos : Pos} {st : Stmt} {rest sts : List Stmt} {s u : TSd} {C : Addr}
theorem iter_enum {K : PySem.W.Frag} {F : Hp} {a : Addr} {xs : List V} {l : List D} (h : SqL K F a xs) (r : DpL K F xs l) : IterD K F (enumD 0 l) (Ite K a) := by
  unfold IterD
  rw [enumD_len, ← r.length]
  refine Walk.mono (walk_enum (a := a) (xs := xs)) (fun H e => e.sqL h) fun i H x H' hi _ y => ?_
  obtain ⟨T, u, v, h1, h2, h3, h4, h5⟩ := y
  obtain ⟨d, h6, h7⟩ := r.getV h5
  cases h4
  refine ⟨_, enumD_get (k := 0) h6, .inr ⟨T, _, [.int ((0 + i : Nat) : Int), d], h1, h2, h3, rfl, ?_⟩⟩
  rw [Nat.zero_add]
  exact .cons (.int _) (.cons h7 .nil)
theorem iter_enumT {K : PySem.W.Frag} {F : Hp} {a : Addr} {xs : List V} {l : List D} (h : SqT K F a xs) (r : DpL K F xs l) : IterD K F (enumD 0 l) (DL0.IteT K a 0) := by
  unfold IterD
  rw [enumD_len, ← r.length]
  refine ⟨fun i H hi e => ⟨xs, xs[i], e.sqT h, by simp [hi]⟩, fun H e => ⟨xs, e.sqT h, rfl⟩, fun i H x H' hi e y => ?_⟩
  obtain ⟨T, v, h1, h2, h3, h4⟩ := y
  obtain ⟨d, h6, h7⟩ := r.getV (h4 xs (e.sqT h))
  refine ⟨_, enumD_get (k := 0) h6, .inr ⟨T, _, [.int ((0 + i : Nat) : Int), d], h1, h2, h3, rfl, ?_⟩⟩
  rw [Nat.zero_add, Int.zero_add]
  exact .cons (.int _) (.cons h7 .nil)
def iEnumD (t : TAd) : TId := fun Ed ds M Q => t Ed ds M fun xs M1 => match xs with
  | [.tup x] => Q (enumD 0 x) M1
  | [.lst x] => Q (enumD 0 x) M1
  | _ => False
theorem di_enum {kk : Nat} {tpos : Pos} {elts : List Expr} (hg : Gl X "enumerate") (hm : X.mg "enumerate" = none) (ha : PAd X E [e] t) (hs : starEach [e] X.env = [(false, eval e X.env)] := by rfl) :
    PId X E (.Tuple elts kk tpos) (.Call (.Name "enumerate" p) [e] [] pos) (iEnumD t) := by
  have both : PI X (.Tuple elts kk tpos) (.Call (.Name "enumerate" p) [e] [] pos) (fun σ H R => liftA X.K E t σ H fun vs H1 => ∃ a, vs = [.ref a] ∧ ((∃ xs, SqL X.K H1 a xs) ∧ R (Ite X.K a) H1 ∨ (∃ xs, SqT X.K H1 a xs) ∧ R (DL0.IteT X.K a 0) H1)) := by
    constructor
    intro pins s σ H R I h
    have h1 := pi_enum (X := X) (elts := elts) (kk := kk) (tpos := tpos) (p := p) (pos := pos) (ta := fun σ H Q => liftA X.K E t σ H Q) hg hm ha hs
    refine PyProof.Rows.Call_ (ld_blt I hg hm PyProof.Rows.boot_enumerate (PyProof.Rows.callWith_type1 (thn (ha.run pos pins s σ H _ I h) fun us s1 ⟨vs, H1, I1, r1, q1⟩ => ?_) hs rfl))
    obtain ⟨a, ex, q1⟩ := q1
    subst ex
    obtain ⟨u, rfl, r⟩ := vals1 r1
    cases r
    rcases q1 with ⟨⟨xs, hq⟩, q⟩ | ⟨⟨xs, hq⟩, q⟩
    · obtain ⟨its, rv, p', hz⟩ := I1.list hq
      refine PySem.call_enumerate_list p'.isList fun h' he hit hsz hk => PySem.wpAny_pyIter_enum he ?_
      have I2 := I1.kept (h' := h') (t' := s1.toks) hk
      refine ⟨s1.heap.objs.size + 1, [s1.heap.objs.size + 1, s1.heap.objs.size], _, _, H1, rfl, I2, turn_enum a (s1.heap.objs.size + 1) s1.heap.objs.size, ⟨⟨.none, he⟩, hit, Nat.succ_ne_self _⟩, fun b hb => ?_, q⟩
      have hle : s1.heap.objs.size ≤ b := by
        rcases List.mem_cons.mp hb with z | z
        · rw [z]; exact Nat.le_add_right _ _
        · rw [List.mem_singleton.mp z]; exact Nat.le_refl _
      exact I1.fpOk hle (I1.hok.fresh hle)
    · obtain ⟨its, rv, p', hz⟩ := I1.tuple hq
      have hal : a < s1.heap.objs.size := by obtain ⟨_, e, _⟩ := id p'; exact Heap.lt_size e
      refine DL0.enum_one (begins_tuple a its.toArray) (show s1.heap.IsTuple a its.toArray from p') fun h' he hit hk => PySem.wpAny_pyIter_enum he ?_
      have I2 := I1.kept (h' := h') (t' := s1.toks) hk
      refine ⟨s1.heap.objs.size + 1, [s1.heap.objs.size + 1, s1.heap.objs.size], _, _, H1, rfl, I2, DL0.turn_enumT a (s1.heap.objs.size + 1) s1.heap.objs.size 0 (Nat.ne_of_lt hal) (Nat.ne_of_gt (Nat.lt_succ_of_lt hal)), ⟨⟨.none, he⟩, ⟨_, hit, rfl, rfl⟩, Nat.succ_ne_self _⟩, fun b hb => ?_, q⟩
      have hle : s1.heap.objs.size ≤ b := by
        rcases List.mem_cons.mp hb with z | z
        · rw [z]; exact Nat.le_add_right _ _
        · rw [List.mem_singleton.mp z]; exact Nat.le_refl _
      exact I1.fpOk hle (I1.hok.fresh hle)
  refine PI.mono both fun σ H R ⟨F, M, ds, Qd, Ed, Rl, S, q, x, k⟩ => ⟨F, M, ds, _, Ed, Rl, S, q, fun vs H1 F1 M1 xs e1 R1 r1 q1 => ?_, x⟩
  dsimp only at q1
  split at q1
  · obtain ⟨y, rfl, r2⟩ := r1.one_inv
    cases r2 with | tup s2 l2 =>
    exact ⟨_, rfl, .inr ⟨⟨_, SqT.of (R1.ext _ _ s2)⟩, k _ _ _ _ _ e1 R1 (iter_enumT (SqT.of s2) l2) q1⟩⟩
  · obtain ⟨y, rfl, r2⟩ := r1.one_inv
    cases r2 with | lst s2 l2 =>
    exact ⟨_, rfl, .inl ⟨⟨_, SqL.of (R1.fr _ _ s2)⟩, k _ _ _ _ _ e1 R1 (iter_enum (SqL.of s2) l2) q1⟩⟩
  · exact q1.elim

/-! ### for -/
def forRun (g : TGd) (tb : TSd) : List D → TSd
  | [], D, ds, M => D.nx ds M
  | x :: xs, D, ds, M => g x ds M fun ds1 M1 => tb { D with nx := fun ds2 M2 => forRun g tb xs D ds2 M2, ct := fun ds2 M2 => forRun g tb xs D ds2 M2, bk := D.nx } ds1 M1
def sFor (wi : TId) (g : TGd) (tb : TSd) : TSd := fun D ds M => wi D.xe ds M fun items M1 => forRun g tb items D ds M1
/-- what a turn gives -/
theorem yd_ok {K : PySem.W.Frag} {F H H' : Hp} {M : MS} {items : List D} {i : Nat} {x : V} (R : Rel K H F M) {F0 : Hp} (e0 : Ext F0 F) (y : YD K F0 items i H x H') :
    ∃ d F', items[i]? = some d ∧ Ext F F' ∧ Rel K H' F' M ∧ Dp K F' x d := by
  obtain ⟨d, h1, h⟩ := y
  rcases h with ⟨rfl, h⟩ | ⟨T, vs, l, rfl, h2, rfl, rfl, h3⟩
  · exact ⟨d, F, h1, Ext.refl F, R, h.ext e0⟩
  · exact ⟨.tup l, _, h1, Ext.new (R.freeF h2), R.newF h2, .tup upd_same ((h3.ext e0).ext (Ext.new (R.freeF h2)))⟩
theorem ds_for {tg iter : Expr} {body : List Stmt} {wi : TId} {g : TGd} (hp : PassesOwn (model X.prog X.w) X.A X.env X.xe) (hc : X.calm = true) (hi : PId X E tg iter wi) (hg : PGd X tg g) (hb : PSsd X E body s)
    (hs : ∀ x, foldedSetIterable iter X.env x = pure x := by intro _; rfl) : PSd X E (.For tg iter body [] pos) (sFor wi g s) := by
  refine PS.mono (ps_for hp hc hi hg hb hs) fun D σ H ⟨F, M, ds, Dd, R, S, q, p1, p2, p3, p4, p5⟩ => ?_
  refine ⟨F, M, ds, _, _, R, S, q, p5, fun J H1 F1 M1 items e1 R1 w q1 => ?_⟩
  refine for_it w (fun i σ H => ∃ F2 M2 ds2, Ext F1 F2 ∧ Rel X.K H F2 M2 ∧ Slots X.K F2 σ ds2 ∧ forRun g s (items.drop i) Dd ds2 M2) ⟨F1, M1, ds, Ext.refl _, R1, S.ext e1, q1⟩ (fun i σ H _ ⟨F2, M2, ds2, e2, R2, S2, q2⟩ a o h => R2.fr _ _ (e2 _ _ h)) (fun i x σ H H' hi ⟨F2, M2, ds2, e2, R2, S2, q2⟩ y => ?_) fun σ H ⟨F2, M2, ds2, e2, R2, S2, q2⟩ => ?_
  · obtain ⟨d, F3, h1, e3, R3, r3⟩ := yd_ok R2 e2 y
    have hdrop : items.drop i = d :: items.drop (i + 1) := by
      obtain ⟨hl, he⟩ := List.getElem?_eq_some_iff.mp h1
      rw [List.drop_eq_getElem_cons hl, he]
    rw [hdrop] at q2
    have e03 := (e1.trans e2).trans e3
    refine ⟨F3, M2, ds2, d, _, R3, S2.ext e3, r3, q2, fun σ3 H3 F4 M4 ds4 e4 R4 S4 q4 => ?_⟩
    have e14 : Ext F1 F4 := (e2.trans e3).trans e4
    have back : PostS X.K F4 (fun ds2 M2 => forRun g s (items.drop (i + 1)) Dd ds2 M2) (fun σ H => ∃ F2 M2 ds2, Ext F1 F2 ∧ Rel X.K H F2 M2 ∧ Slots X.K F2 σ ds2 ∧ forRun g s (items.drop (i + 1)) Dd ds2 M2) :=
      fun σ5 H5 F5 M5 ds5 e5 R5 S5 q5 => ⟨F5, M5, ds5, e14.trans e5, R5, S5, q5⟩
    exact ⟨F4, M4, ds4, _, R4, S4, q4, back, p2.ext (e03.trans e4), p1.ext (e03.trans e4), back, p5.ext (e03.trans e4)⟩
  · rw [List.drop_eq_nil_of_le (Nat.le_refl _)] at q2
    exact p1 _ _ _ _ _ (e1.trans e2) R2 S2 q2

/-! ### while -/
def sWhile (c : TTd) (tb : TSd) : TSd := fun D ds M => ∃ W : Nat → DSt → MS → Prop, (∃ m, W m ds M) ∧ ∀ m ds M, W m ds M →
  c D.xe ds M fun b M1 => if b = true then tb { D with nx := fun ds' M' => ∃ m', m' < m ∧ W m' ds' M', ct := fun ds' M' => ∃ m', m' < m ∧ W m' ds' M', bk := D.nx } ds M1 else D.nx ds M1
theorem ds_while {body : List Stmt} (hp : PassesOwn (model X.prog X.w) X.A X.env X.xe) (hc : PTd X E c tC) (hb : PSsd X E body s) : PSd X E (.While c body [] pos) (sWhile tC s) := by
  refine PS.mono (ps_while hp hc hb) fun D σ H ⟨F, M, ds, Dd, R, S, ⟨W, ⟨m0, w0⟩, turn⟩, p1, p2, p3, p4, p5⟩ => ?_
  refine ⟨fun m σ H => ∃ F2 M2 ds2, Ext F F2 ∧ Rel X.K H F2 M2 ∧ Slots X.K F2 σ ds2 ∧ W m ds2 M2, ⟨m0, F, M, ds, Ext.refl _, R, S, w0⟩, fun m σ H ⟨F2, M2, ds2, e2, R2, S2, w2⟩ => ?_⟩
  refine ⟨F2, M2, ds2, _, _, R2, S2, turn m ds2 M2 w2, fun b H3 F3 M3 e3 R3 q3 => ?_, p5.ext e2⟩
  cases b with
  | true =>
    refine ⟨fun σ' H' => ∃ m', m' < m ∧ ∃ F4 M4 ds4, Ext F F4 ∧ Rel X.K H' F4 M4 ∧ Slots X.K F4 σ' ds4 ∧ W m' ds4 M4, fun σ' H' ⟨m', hm, z⟩ => ⟨m', hm, z⟩, ?_⟩
    have back : PostS X.K F3 (fun ds' M' => ∃ m', m' < m ∧ W m' ds' M') (fun σ' H' => ∃ m', m' < m ∧ ∃ F4 M4 ds4, Ext F F4 ∧ Rel X.K H' F4 M4 ∧ Slots X.K F4 σ' ds4 ∧ W m' ds4 M4) :=
      fun σ5 H5 F5 M5 ds5 e5 R5 S5 ⟨m', hm, w5⟩ => ⟨m', hm, F5, M5, ds5, (e2.trans e3).trans e5, R5, S5, w5⟩
    exact ⟨F3, M3, ds2, _, R3, S2.ext e3, q3, back, p2.ext (e2.trans e3), p1.ext (e2.trans e3), back, p5.ext (e2.trans e3)⟩
  | false => exact p1 _ _ _ _ _ (e2.trans e3) R3 (S2.ext e3) q3


/-! ### a list that no one else sees is laid aside -/
def dropH (H : Hp) (a : Addr) : Hp := fun b => if b = a then none else H b
theorem dropH_self {H : Hp} {a : Addr} : dropH H a a = none := by unfold dropH; rw [if_pos rfl]
theorem dropH_ne {H : Hp} {a b : Addr} (h : b ≠ a) : dropH H a b = H b := by unfold dropH; rw [if_neg h]
theorem dropH_upd {H : Hp} {a : Addr} {o : HO} (h : H a = some o) : upd (dropH H a) a o = H := by
  funext b
  by_cases q : b = a
  · subst q; rw [upd_same, h]
  · rw [upd_ne q, dropH_ne q]
theorem hide_inv {pins : List (Addr × Obj)} {σ : L2.St} {H : Hp} {s : Shared} {a : Addr} {xs : List V} (I : Inv X pins σ H s) (h : H a = some (.lst xs)) :
    ∃ ob, (∃ (its : List Value) (n : Nat), Vals xs its ∧ ob = { cls := .type "list", data := .seq its.toArray n }) ∧ xs.length ≤ sizeLine ∧ Inv X ((a, ob) :: pins) σ (dropH H a) s := by
  obtain ⟨z, its, n, rv, e⟩ := I.hok a _ h
  refine ⟨_, ⟨its, n, rv, rfl⟩, z, ?_⟩
  have keep : ∀ b o, H b = some o → o ≠ .lst xs → dropH H a b = some o := fun b o q ne => by
    by_cases w : b = a
    · subst w; rw [h] at q; exact absurd (Option.some.inj q).symm ne
    · rw [dropH_ne w]; exact q
  have off : ∀ b, H b = none → dropH H a b = none := fun b q => by
    by_cases w : b = a
    · subst w; exact dropH_self
    · rw [dropH_ne w]; exact q
  refine ⟨I.ok, I.os, I.bare, ⟨I.base.keep, I.base.slot, fun b o q n hx => off b (I.base.free b o q n hx), I.base.there, fun b ys q => keep b _ (I.base.tups b ys q) (fun w => nomatch w), fun b o u q => keep b _ (I.base.frzs b o u q) (fun w => nomatch w), fun b ps q => ?_⟩,
    I.loc, I.cell, off _ I.free, fun y c q => off _ (I.freeC y c q), fun p hp => ?_, fun b o q => ?_, I.len⟩
  · obtain ⟨more, q⟩ := I.base.tbls b ps q
    exact ⟨more, keep b _ q (fun w => nomatch w)⟩
  · rcases List.mem_append.mp hp with hp | hp
    · obtain ⟨p1, p2, p3⟩ := I.pin p (List.mem_append_left _ hp)
      exact ⟨p1, off _ p2, p3⟩
    · rcases List.mem_cons.mp hp with hp | hp
      · subst hp
        refine ⟨e, dropH_self, fun w => ?_, fun w => ?_, fun v w => ?_⟩
        · have := I.free; rw [← w, h] at this; cases this
        · obtain ⟨_, o, ho, _⟩ := I.ok.funs.mem w
          have := I.base.free a o ho (I.ok.frf a w) fun y => I.ok.exfs a y w
          rw [h] at this; cases this
        · cases w
      · obtain ⟨p1, p2, p3⟩ := I.pin p (List.mem_append_right _ hp)
        exact ⟨p1, off _ p2, p3⟩
  · have w : b ≠ a := fun w => by subst w; rw [dropH_self] at q; cases q
    rw [dropH_ne w] at q
    exact (I.hok b o q).stay (fun _ _ _ y => y) (fun d y => keep d _ y (fun v => nomatch v)) fun d ys y => keep d _ y (fun v => nomatch v)
theorem show_inv {pins : List (Addr × Obj)} {σ σ0 : L2.St} {H H1 : Hp} {s s1 : Shared} {a : Addr} {xs : List V} {its : List Value} {n : Nat} (I0 : Inv X pins σ0 H s) (h : H a = some (.lst xs)) (rv : Vals xs its) (hz : xs.length ≤ sizeLine)
    (I : Inv X ((a, { cls := .type "list", data := .seq its.toArray n }) :: pins) σ H1 s1) : H1 a = none ∧ Inv X pins σ (upd H1 a (.lst xs)) s1 := by
  obtain ⟨e, hn, hl, hf, hcl⟩ := I.pin (a, _) (List.mem_append_right _ List.mem_cons_self)
  simp only at e hn hl hf
  refine ⟨hn, ?_⟩
  have keep : ∀ b o, H1 b = some o → upd H1 a (.lst xs) b = some o := fun b o q => by rw [upd_ne (ne_of_none q hn)]; exact q
  refine ⟨I.ok, I.os, I.bare, ⟨I.base.keep, I.base.slot, fun b o q m hx => ?_, I.base.there, fun b ys q => keep b _ (I.base.tups b ys q), fun b o u q => keep b _ (I.base.frzs b o u q), fun b ps q => ?_⟩,
    I.loc, I.cell, by rw [upd_ne (Ne.symm hl)]; exact I.free, fun y c q => ?_, fun p hp => ?_, fun b o q => ?_, I.len⟩
  · have w : b ≠ a := fun w => by
      subst w
      have := I0.base.free b o q m hx
      rw [h] at this; cases this
    rw [upd_ne w]
    exact I.base.free b o q m hx
  · obtain ⟨more, q⟩ := I.base.tbls b ps q
    exact ⟨more, keep b _ q⟩
  · have w : c ≠ a := fun w => by
      subst w
      have := I0.freeC y c q
      rw [h] at this; cases this
    rw [upd_ne w]
    exact I.freeC y c q
  · obtain ⟨p1, p2, p3⟩ := I.pin p (by
      rcases List.mem_append.mp hp with hp | hp
      · exact List.mem_append_left _ hp
      · exact List.mem_append_right _ (List.mem_cons_of_mem _ hp))
    refine ⟨p1, ?_, p3⟩
    have w : p.1 ≠ a := fun w => by
      have := (I0.pin p hp).2.1
      rw [w, h] at this; cases this
    rw [upd_ne w]; exact p2
  · by_cases w : b = a
    · subst w
      rw [upd_same] at q; cases q
      exact ⟨hz, its, n, rv, e⟩
    · rw [upd_ne w] at q
      exact (I.hok b o q).stay (fun _ _ _ y => y) (fun d y => keep d _ y) fun d ys y => keep d _ y
def hideE (te : TE) : TE := fun σ H Q => ∃ a xs, H a = some (.lst xs) ∧ te σ (dropH H a) fun v H1 => H1 a = none → Q v (upd H1 a (.lst xs))
def hideT (tt : TT) : TT := fun σ H Q => ∃ a xs, H a = some (.lst xs) ∧ tt σ (dropH H a) fun v H1 => H1 a = none → Q v (upd H1 a (.lst xs))
theorem pe_hide {t : TE} (h : PE X e t) : PE X e (hideE t) := ⟨fun pins s σ H Q I ⟨a, xs, ha, q⟩ => by
  obtain ⟨ob, ⟨its, n, rv, rfl⟩, hz, I1⟩ := hide_inv I ha
  refine thn (h.run _ s σ _ _ I1 q) fun u s1 ⟨v, H1, I2, r, q1⟩ => ?_
  obtain ⟨hn, I3⟩ := show_inv I ha rv hz I2
  exact ⟨v, _, I3, r, q1 hn⟩⟩
theorem pts_hide {ifs : List Expr} {t : TT} (h : PTs X ifs t) : PTs X ifs (hideT t) := ⟨fun pins s σ H Q I ⟨a, xs, ha, q⟩ => by
  obtain ⟨ob, ⟨its, n, rv, rfl⟩, hz, I1⟩ := hide_inv I ha
  refine thn (h.run _ s σ _ _ I1 q) fun b s1 ⟨H1, I2, q1⟩ => ?_
  obtain ⟨hn, I3⟩ := show_inv I ha rv hz I2
  exact ⟨_, I3, q1 hn⟩⟩

/-! ### list comprehensions -/
def wipeD (ds : DSt) : List Nat → DSt
  | [] => ds
  | i :: vs => (wipeD ds vs).set i none
def compRun (g : TGd) (tt : TTd) (te : TEd) (Ed : XD) (ds : DSt) : List D → List D → MS → (List D → MS → Prop) → Prop
  | [], acc, M, Q => Q acc M
  | x :: xs, acc, M, Q => g x ds M fun ds1 M1 => tt Ed ds1 M1 fun b M2 => if b = true then te Ed ds1 M2 fun y M3 => acc.length < sizeLine ∧ compRun g tt te Ed ds xs (acc ++ [y]) M3 Q else compRun g tt te Ed ds xs acc M2 Q
def eYes : TTd := fun _ _ M Q => Q true M
def eComp (m : Bool) (wi : TId) (g : TGd) (tt : TTd) (te : TEd) (vs : List Nat) : TEd := fun Ed ds M Q => wi Ed ds M fun items M1 => compRun g tt te xNo (wipeD ds vs) items [] M1 fun ys M2 => nl m ys M2 Q
def PTsd (X : Cx) (E : XK) (ifs : List Expr) (t : TTd) : Prop := PTs X ifs (liftT X.K E t)
theorem PTs.mono {ifs : List Expr} {t t' : TT} (h : PTs X ifs t) (k : ∀ σ H Q, t' σ H Q → t σ H Q) : PTs X ifs t' := ⟨fun pins s σ H Q I q => h.run pins s σ H Q I (k σ H Q q)⟩
theorem dts_nil : PTsd X E [] eYes := PTs.mono pts_nil fun σ H Q ⟨F, M, ds, Qd, Ed, R, S, q, p, x⟩ => p _ _ _ _ (Ext.refl F) R q
theorem dts_one (h : PTd X E c tC) : PTsd X E [c] tC := pts_one h

/-- targets that are names, or a tuple of names -/
inductive CT where
  | name (i : Nat) | tup (is : List Nat)
def gsV : List Nat → TGs
  | [] => gNil
  | i :: is => gCons (gName i) (gsV is)
def gsD : List Nat → TGsd
  | [] => gNilD
  | i :: is => gConsD (gVar i) (gsD is)
def CT.v (K : PySem.W.Frag) : CT → TG
  | .name i => gName i
  | .tup is => fun v σ H Q => gTup K is.length (gsV is) v σ H Q ∨ gUnl K is.length (gsV is) v σ H Q
def CT.d : CT → TGd
  | .name i => gVar i
  | .tup is => gTupD is.length (gsD is)
def CT.own : CT → List Nat → Prop
  | .name i, vs => i ∈ vs
  | .tup is, vs => ∀ i ∈ is, i ∈ vs
theorem ct_name {i : Nat} {x : Str} (hN : X.N.Nodup) (hi : X.N[i]? = some x) (hx : Loc X.env.scope x) (hf : X.fn x = true ∨ X.env.scope.names.lookup x = some .local := by first | exact .inl rfl | exact .inr rfl | assumption) : PG X (.Name x pos) (CT.v X.K (.name i)) := pg_name hN hi hx hf
theorem cts_nil : PGs X [] (gsV []) := pgs_nil
theorem cts_cons {i : Nat} {is : List Nat} {x : Str} (hN : X.N.Nodup) (hi : X.N[i]? = some x) (hx : Loc X.env.scope x) (hr : PGs X es (gsV is)) (hf : X.fn x = true ∨ X.env.scope.names.lookup x = some .local := by first | exact .inl rfl | exact .inr rfl | assumption)
    (hs : (assignEach (.Name x pos :: es) X.env).map (·.2) = assign (.Name x pos) X.env :: (assignEach es X.env).map (·.2) := by rfl) : PGs X (.Name x pos :: es) (gsV (i :: is)) := pgs_cons (pg_name hN hi hx hf) hr hs
theorem ct_tup {kx : Nat} {is : List Nat} (hc : X.calm = true) (h : PGs X es (gsV is)) (hn : (assignEach es X.env).length = is.length := by rfl) (hst : (assignEach es X.env).findIdx? (·.1) = none := by rfl) : PG X (.Tuple es kx pos) (CT.v X.K (.tup is)) :=
  PG.or (pg_tup hc h hn hst) (pg_unl hc h hn hst)
theorem wipe_set {i : Nat} {o : Option V} : ∀ {vs : List Nat} {σ : L2.St}, i ∈ vs → wipe (σ.set i o) vs = wipe σ vs
  | [], _, h => by cases h
  | v :: vs, σ, h => by
    unfold wipe
    by_cases e : i ∈ vs
    · rw [wipe_set e]
    · have hv : i = v := by
        rcases List.mem_cons.mp h with h | h
        · exact h
        · exact absurd h e
      subst hv
      have : ∀ (vs : List Nat) (σ : L2.St), i ∉ vs → wipe (σ.set i o) vs = (wipe σ vs).set i o := by
        intro vs
        induction vs with
        | nil => intro σ _; rfl
        | cons w ws ih =>
          intro σ hw
          unfold wipe
          rw [ih σ (fun z => hw (List.mem_cons_of_mem _ z))]
          exact List.set_comm _ _ (fun z => hw (z ▸ List.mem_cons_self))
      rw [this vs σ e, List.set_set]
theorem wipe_wipe (σ : L2.St) : ∀ vs : List Nat, wipe (wipe σ vs) vs = wipe σ vs := by
  intro vs
  have key : ∀ ws : List Nat, (∀ w ∈ ws, w ∈ vs) → wipe (wipe σ ws) vs = wipe σ vs := by
    intro ws
    induction ws with
    | nil => intro _; rfl
    | cons w ws ih =>
      intro h
      show wipe ((wipe σ ws).set w none) vs = _
      rw [wipe_set (h w List.mem_cons_self)]
      exact ih fun x hx => h x (List.mem_cons_of_mem _ hx)
  exact key vs fun _ h => h
theorem Slots.wipe {K : PySem.W.Frag} {F : Hp} {σ : L2.St} {ds : DSt} (h : Slots K F σ ds) : ∀ vs : List Nat, Slots K F (L2.wipe σ vs) (wipeD ds vs)
  | [] => h
  | v :: vs => by
    have ih := Slots.wipe h vs
    refine ⟨by show (List.set _ _ _).length = (List.set _ _ _).length; simpa using ih.1, fun i d g => ?_⟩
    show ∃ x, ((L2.wipe σ vs).set v none)[i]? = some (some x) ∧ _
    have g : ((wipeD ds vs).set v none)[i]? = some (some d) := g
    by_cases q : v = i
    · subst q
      by_cases hl : v < (wipeD ds vs).length
      · rw [List.getElem?_set_self hl] at g; cases g
      · rw [List.getElem?_eq_none (by simpa using hl)] at g; cases g
    · rw [List.getElem?_set_ne q] at g ⊢
      exact ih.2 i d g
theorem gsV_ok {K : PySem.W.Frag} {F H : Hp} {M : MS} {Qd : DSt → MS → Prop} {ws : List Nat} : ∀ {is : List Nat} {vs : List V} {l : List D} {σ : L2.St} {ds : DSt}, DpL K F vs l → Slots K F σ ds → (∀ i ∈ is, i ∈ ws) → gsD is l ds M Qd →
    gsV is vs σ H (fun σ1 H1 => H1 = H ∧ wipe σ1 ws = wipe σ ws ∧ ∃ ds1, Slots K F σ1 ds1 ∧ Qd ds1 M)
  | [], _, l, σ, ds, r, S, _, q => by
    cases r with
    | nil => exact ⟨rfl, rfl, rfl, ds, S, q⟩
    | cons a b => exact False.elim q
  | i :: is, _, l, σ, ds, r, S, h, q => by
    cases r with
    | nil => exact False.elim q
    | @cons v vs d l a b =>
      refine ⟨v, vs, rfl, ?_⟩
      have ih := gsV_ok (H := H) (is := is) (σ := σ.set i (some v)) (ds := ds.set i (some d)) (Qd := Qd) (M := M) b (S.set i a) (fun j hj => h j (List.mem_cons_of_mem _ hj)) q
      show gsV is vs (σ.set i (some v)) H _
      rw [wipe_set (h i List.mem_cons_self)] at ih
      exact ih
theorem ct_ok {K : PySem.W.Frag} {F H : Hp} {M : MS} {Qd : DSt → MS → Prop} {ws : List Nat} (R : Rel K H F M) : ∀ {ct : CT} {v : V} {d : D} {σ : L2.St} {ds : DSt}, Dp K F v d → Slots K F σ ds → ct.own ws → ct.d d ds M Qd →
    ct.v K v σ H (fun σ1 H1 => H1 = H ∧ wipe σ1 ws = wipe σ ws ∧ ∃ ds1, Slots K F σ1 ds1 ∧ Qd ds1 M)
  | .name i, v, d, σ, ds, r, S, h, q => ⟨rfl, wipe_set h, _, S.set i r, q⟩
  | .tup is, v, d, σ, ds, r, S, h, ⟨l, h1, h2, q⟩ => by
    obtain ⟨a, xs, rfl, hx, dx⟩ := seqV R r h1
    have hl := dx.length.trans h2
    have k := gsV_ok (H := H) dx S h q
    rcases hx with hx | hx
    · exact .inr ⟨a, xs, rfl, hx, hl, k⟩
    · exact .inl ⟨a, xs, rfl, hx, hl, k⟩
theorem gsV_mono {Q Q' : L2.St → Hp → Prop} {H : Hp} (h : ∀ σ H, Q σ H → Q' σ H) : ∀ {is : List Nat} {vs : List V} {σ : L2.St}, gsV is vs σ H Q → gsV is vs σ H Q'
  | [], _, _, ⟨e, q⟩ => ⟨e, h _ _ q⟩
  | i :: is, _, _, ⟨v, r, e, q⟩ => ⟨v, r, e, gsV_mono h (is := is) q⟩
theorem ct_mono {K : PySem.W.Frag} {Q Q' : L2.St → Hp → Prop} {H : Hp} (h : ∀ σ H, Q σ H → Q' σ H) : ∀ {ct : CT} {v : V} {σ : L2.St}, ct.v K v σ H Q → ct.v K v σ H Q'
  | .name i, _, _, q => h _ _ q
  | .tup is, _, _, .inl ⟨a, xs, e, s, l, q⟩ => .inl ⟨a, xs, e, s, l, gsV_mono h q⟩
  | .tup is, _, _, .inr ⟨a, xs, e, s, l, q⟩ => .inr ⟨a, xs, e, s, l, gsV_mono h q⟩

theorem Rel.drop {K : PySem.W.Frag} {H F : Hp} {M : MS} {a : Addr} (R : Rel K H F M) (h1 : F a = none) (h2 : M a = none) : Rel K (dropH H a) F M :=
  ⟨fun b o e => by rw [dropH_ne (fun w => by subst w; rw [h1] at e; cases e)]; exact R.fr b o e, fun b m e => by rw [dropH_ne (fun w => by subst w; rw [h2] at e; cases e)]; exact R.cell b m e⟩
theorem lift_comp {m : Bool} {wi : TId} {ct : CT} {tt : TTd} {vs : List Nat} (own : ct.own vs) (σ : L2.St) (H : Hp) (Q : VK) (h : liftE X.K E (eComp m wi ct.d tt te vs) σ H Q) :
    tLc (liftI X.K E wi) (ct.v X.K) (hideT (liftT X.K E0 tt)) (hideE (liftE X.K E0 te)) vs σ H Q := by
  obtain ⟨F, M, ds, Qd, Ed, R, S, q, p, x⟩ := h
  refine ⟨F, M, ds, _, Ed, R, S, q, x, fun J H1 F1 M1 items e1 R1 w q1 Dl hD => ?_⟩
  refine lc_it w (fun i H => ∃ F2 M2 acc xs, Ext F1 F2 ∧ Rel X.K H F2 M2 ∧ F2 Dl = none ∧ M2 Dl = none ∧ H Dl = some (.lst xs) ∧ DpL X.K F2 xs acc ∧ compRun ct.d tt te xNo (wipeD ds vs) (items.drop i) acc M2 (fun ys M2 => nl m ys M2 Qd))
    ⟨F1, M1, [], [], Ext.refl _, R1.newH hD, R1.freeF hD, R1.freeM hD, upd_same, .nil, q1⟩
    (fun i H _ ⟨F2, M2, acc, xs, e2, R2, _⟩ a o h => R2.fr _ _ (e2 _ _ h)) (fun i y H2 H' hi ⟨F2, M2, acc, xs, e2, R2, f2, m2, d2, r2, q2⟩ yd => ?_) fun H2 ⟨F2, M2, acc, xs, e2, R2, f2, m2, d2, r2, q2⟩ => ?_
  · obtain ⟨d, h1, hy⟩ := yd
    have hdrop : items.drop i = d :: items.drop (i + 1) := by
      obtain ⟨hl, he⟩ := List.getElem?_eq_some_iff.mp h1
      rw [List.drop_eq_getElem_cons hl, he]
    rw [hdrop] at q2
    have item : ∃ F3, Ext F2 F3 ∧ Rel X.K H' F3 M2 ∧ Dp X.K F3 y d ∧ F3 Dl = none ∧ H' Dl = some (.lst xs) := by
      rcases hy with ⟨rfl, hy⟩ | ⟨T, us, l, rfl, h2, rfl, rfl, h3⟩
      · exact ⟨F2, Ext.refl _, R2, hy.ext e2, f2, d2⟩
      · have hT : Dl ≠ T := ne_of_none d2 h2
        exact ⟨_, Ext.new (R2.freeF h2), R2.newF h2, .tup upd_same ((h3.ext e2).ext (Ext.new (R2.freeF h2))), by rw [upd_ne hT]; exact f2, by rw [upd_ne hT]; exact d2⟩
    obtain ⟨F3, e3, R3, r3, f3, d3⟩ := item
    have e03 := (e1.trans e2).trans e3
    have S3 : Slots X.K F3 (wipe σ vs) (wipeD ds vs) := (S.ext e03).wipe vs
    refine ct_mono (fun σ4 H4 ⟨eH, ew, ds4, S4, q4⟩ => ?_) (ct_ok R3 r3 S3 own q2)
    subst eH
    rw [wipe_wipe] at ew
    refine ⟨ew, ?_⟩
    refine ⟨Dl, xs, d3, F3, M2, ds4, _, xNo, R3.drop f3 m2, S4, q4, fun b H5 F5 M5 e5 R5 q5 hn => ?_, PostX.none⟩
    have f5 := R5.freeF hn
    have m5 := R5.freeM hn
    cases b with
    | true =>
      refine ⟨Dl, xs, upd_same, F5, M5, ds4, _, xNo, ?_, S4.ext e5, q5, fun v H6 F6 M6 dd e6 R6 r6 q6 hn6 => ?_, PostX.none⟩
      · exact (R5.newH (o := .lst xs) hn).drop f5 m5
      · have f6 := R6.freeF hn6
        have m6 := R6.freeM hn6
        have ra : DpL X.K F6 xs acc := r2.ext ((e3.trans e5).trans e6)
        refine ⟨xs, upd_same, by rw [ra.length]; exact q6.1, F6, M6, acc ++ [dd], xs ++ [v], ((e2.trans e3).trans e5).trans e6, ?_, f6, m6, upd_same, ra.append (DpL.one r6), q6.2⟩
        rw [upd_upd]
        exact R6.newH hn6
    | false => exact ⟨F5, M5, acc, xs, (e2.trans e3).trans e5, R5.newH hn, f5, m5, upd_same, r2.ext (e3.trans e5), q5⟩
  · rw [List.drop_eq_nil_of_le (Nat.le_refl _)] at q2
    have q2 : nl m acc M2 Qd := q2
    have R0 := R2.drop f2 m2
    have := nl_ok (p := Dl) R0 r2 q2 (p.ext (e1.trans e2)) dropH_self
    rwa [dropH_upd d2] at this
theorem de_comp {elt tg iter : Expr} {ifs : List Expr} {scope : Scope} {own : List (Str × Nat)} {wi : TId} {ct : CT} {tt : TTd} (m : Bool) (hc : X.calm = true) (hN : X.N.Nodup) (hi : PId X E tg iter wi) (ok : BlkOk X.N X.env.scope scope own) (ho : ct.own (own.map (·.2)))
    (hg : ∀ (s : Shared) (H : Hp) (C : Addr) (cl : List (Str × Addr)) (fp : List Addr), PG (X.blk s H scope (compEnvC scope cl C X.env) fp) tg (ct.v X.K)) (ht : ∀ (s : Shared) (H : Hp) (C : Addr) (cl : List (Str × Addr)) (fp : List Addr), PTsd (X.blk s H scope (compEnvC scope cl C X.env) fp) E0 ifs tt)
    (he : ∀ (s : Shared) (H : Hp) (C : Addr) (cl : List (Str × Addr)) (fp : List Addr), PEd (X.blk s H scope (compEnvC scope cl C X.env) fp) E0 elt te) (hs : ∀ x, foldedSetIterable iter X.env x = pure x := by intro _; rfl) :
    PEd X E (.ListComp elt [⟨tg, iter, ifs, 0⟩] scope pos) (eComp m wi ct.d tt te (own.map (·.2))) :=
  PE.mono (pe_lc hc hN hi ok hg (fun s H C cl fp => pts_hide (t := liftT X.K E0 tt) (ht s H C cl fp)) (fun s H C cl fp => pe_hide (t := liftE X.K E0 te) (he s H C cl fp)) hs) (lift_comp ho)
theorem ds_setComp {i : Nat} {y : Str} {py spos : Pos} {elt tg iter : Expr} {ifs : List Expr} {scope : Scope} {own : List (Str × Nat)} {wi : TId} {ct : CT} {tt : TTd} (m : Bool) (hc : X.calm = true) (hN : X.N.Nodup) (hy : X.N[i]? = some y) (hyl : X.env.scope.names.lookup y = some .local)
    (hsw : swapsWith (.ListComp elt [⟨tg, iter, ifs, 0⟩] scope pos) (some (.Name y py)) spos.line X.env = pure true) (hi : PId X E tg iter wi) (ok : BlkOk X.N X.env.scope scope own) (ho : ct.own (own.map (·.2)))
    (hg : ∀ (s : Shared) (H : Hp) (C : Addr) (cl : List (Str × Addr)) (fp : List Addr), PG (X.blk s H scope (compEnvC scope cl C X.env) fp) tg (ct.v X.K)) (ht : ∀ (s : Shared) (H : Hp) (C : Addr) (cl : List (Str × Addr)) (fp : List Addr), PTsd (X.blk s H scope (compEnvC scope cl C X.env) fp) E0 ifs tt)
    (he : ∀ (s : Shared) (H : Hp) (C : Addr) (cl : List (Str × Addr)) (fp : List Addr), PEd (X.blk s H scope (compEnvC scope cl C X.env) fp) E0 elt te) (hs : ∀ x, foldedSetIterable iter X.env x = pure x := by intro _; rfl) :
    PSd X E (.Assign [.Name y py] (.ListComp elt [⟨tg, iter, ifs, 0⟩] scope pos) spos) (sAsg (eComp m wi ct.d tt te (own.map (·.2))) (gVar i)) :=
  PS.mono (ps_setLc hc hN hy hyl hsw hi ok hg (fun s H C cl fp => pts_hide (t := liftT X.K E0 tt) (ht s H C cl fp)) (fun s H C cl fp => pe_hide (t := liftE X.K E0 te) (he s H C cl fp)) hs) fun D σ H ⟨F, M, ds, Dd, R, S, q, p1, p2, p3, p4, p5⟩ =>
    lift_comp ho σ H _ ⟨F, M, ds, _, _, R, S, q, fun v H1 F1 M1 d e1 R1 r1 q1 => p1 _ _ _ _ _ e1 R1 ((S.ext e1).set i r1) q1, p5⟩
end
end DL

/-! DLg: defs and classes by what they keep (Has, HasM, ClsK), the rules for calls of these. -/
namespace DL
open PySem PySem.Spec L2

/-- the built-in names that no def of the text takes -/
structure Bl (mg : Str → Option Value) : Prop where
  len_ : mg "len" = none
  sum_ : mg "sum" = none
  max_ : mg "max" = none
  min_ : mg "min" = none
  sorted_ : mg "sorted" = none
  tuple_ : mg "tuple" = none
  list_ : mg "list" = none
  int_ : mg "int" = none
  abs_ : mg "abs" = none
  all_ : mg "all" = none
  isinstance_ : mg "isinstance" = none
  range_ : mg "range" = none
  zip_ : mg "zip" = none
  enumerate_ : mg "enumerate" = none
  bool_ : mg "bool" = none
  str_ : mg "str" = none
  dict_ : mg "dict" = none
  repr_ : mg "repr" = none
  set_ : mg "set" = none

structure HasDef (K : PySem.W.Frag) (mg : Str → Option Value) (name : Str) (st : Stmt) : Prop where
  ex : ∃ f fd, FunD K name name (defArgs st) (defBody st) (defScope st) [] [] f fd ∧ mg name = some (.ref f)
structure Has (P : Program) (w : World) (K : PySem.W.Frag) (mg : Str → Option Value) (base : Heap) (CX : CXT) (k : Nat) (name : Str) (ps : List Str) (sp : SpD) : Prop where
  ex : ∃ f fd, FnOk P w K mg base CX k f fd ps (spL K sp) ∧ mg name = some (.ref f) ∧ PySem.W.keepIn K (.ref f) = true ∧ Binds K fd ps []
section
variable {P : Program} {w : World} {K : PySem.W.Frag} {mg : Str → Option Value} {base : Heap} {name : Str} {st : Stmt} {N ps : List Str} {k : Nat} {sp : SpD} {t : TSd}
def BindsShape (name qual : Str) (ps : List Str) (st : Stmt) : Prop := ∀ (kV doc pm : Value) (an : Option Addr) (cdv ct : Value) (us : List Value), us.length = ps.length → bindArgs (PySem.W.fnOf name qual (defArgs st) (defBody st) (defScope st) .none kV doc pm an cdv ct) ⟨us, []⟩ = pure (ps.zip us)
/-- a def that raises nothing -/
theorem has_of (hF : HasDef K mg name st) (S : FnScope N ps (defScope st)) (hb : BindsShape name name ps st) (len : ∀ ds M Q E, sp ds M Q E → ds.length = ps.length) (rd : ∀ ds M Q E, sp ds M Q E → t (bodyD Q E) (startD N.length ds) M)
    (body : ∀ (f : Addr) (cdv : Value) (A : Around) (outer : List Env) (s : Shared) (H : Hp) (E : XK), Room k (A.deeper (PyProof.Rows.envOfC name (defScope st) s.heap.objs.size f cdv)) → PSsd (cxOf CX0 P w K mg base N name (defScope st) f cdv A outer s H E).nox E (defBody st) t) :
    Has P w K mg base CX0 (k + 1) name ps sp := by
  obtain ⟨f, fd, F, hm⟩ := hF.ex
  exact ⟨f, fd, F.ok S (spL_len len) fun cdv A outer s H vs Q E hr h => ⟨liftS K E t, PSs.nox (body f cdv A outer s H E hr), body_ok rd h⟩, hm, F.kp, F.bindsN hb⟩
theorem Has.imp {CX : CXT} {sp' : SpD} (h : Has P w K mg base CX k name ps sp) (i : ∀ ds M Q E, sp' ds M Q E → sp ds M Q E) : Has P w K mg base CX k name ps sp' := by
  obtain ⟨f, fd, F, r⟩ := h.ex
  exact ⟨f, fd, F.imp fun vs H Q E ⟨F', M, ds, Qd, Ed, R, r, q, p⟩ => ⟨F', M, ds, Qd, Ed, R, r, i _ _ _ _ q, p⟩, r⟩
end
/-! ### classes -/
structure ClsK (K : PySem.W.Frag) (mg : Str → Option Value) (name : Str) (C : Addr) (attrs : List Str) : Prop where
  cl : Cls K C
  mgC : mg name = some (.ref C)
  mks : PySem.W.makesIn K C = true
  kp : PySem.W.keepIn K (.ref C) = true
  na : ∀ f ∈ attrs, NoAttr K C f
structure MethDef (K : PySem.W.Frag) (C : Addr) (m qual : Str) (st : Stmt) : Prop where
  ex : ∃ f fd, FunD K m qual (defArgs st) (defBody st) (defScope st) [] [] f fd ∧ Meth K C m f
structure HasM (P : Program) (w : World) (K : PySem.W.Frag) (mg : Str → Option Value) (base : Heap) (CX : CXT) (k : Nat) (C : Addr) (m : Str) (ps : List Str) (sp : SpD) : Prop where
  ex : ∃ f fd, FnOk P w K mg base CX k f fd ps (spL K sp) ∧ Meth K C m f ∧ Binds K fd ps []
structure PropDef (K : PySem.W.Frag) (C : Addr) (m qual : Str) (st : Stmt) : Prop where
  ex : ∃ p f fd, FunD K m qual (defArgs st) (defBody st) (defScope st) [] [] f fd ∧ PropOf K C m p f
structure HasP (P : Program) (w : World) (K : PySem.W.Frag) (mg : Str → Option Value) (base : Heap) (k : Nat) (C : Addr) (m : Str) (ps : List Str) (sp : SpD) : Prop where
  ex : ∃ p f fd, FnOk P w K mg base CX0 k f fd ps (spL K sp) ∧ PropOf K C m p f ∧ Binds K fd ps []
section
variable {P : Program} {w : World} {K : PySem.W.Frag} {mg : Str → Option Value} {base : Heap} {C : Addr} {m qual : Str} {st : Stmt} {N ps : List Str} {k : Nat} {sp : SpD} {t : TSd}
theorem hasM_of (hF : MethDef K C m qual st) (S : FnScope N ps (defScope st)) (hb : BindsShape m qual ps st) (len : ∀ ds M Q E, sp ds M Q E → ds.length = ps.length) (rd : ∀ ds M Q E, sp ds M Q E → t (bodyD Q E) (startD N.length ds) M)
    (body : ∀ (f : Addr) (cdv : Value) (A : Around) (outer : List Env) (s : Shared) (H : Hp) (E : XK), Room k (A.deeper (PyProof.Rows.envOfC qual (defScope st) s.heap.objs.size f cdv)) → PSsd (cxOf CX0 P w K mg base N qual (defScope st) f cdv A outer s H E).nox E (defBody st) t) :
    HasM P w K mg base CX0 (k + 1) C m ps sp := by
  obtain ⟨f, fd, F, hm⟩ := hF.ex
  exact ⟨f, fd, F.ok S (spL_len len) fun cdv A outer s H vs Q E hr h => ⟨liftS K E t, PSs.nox (body f cdv A outer s H E hr), body_ok rd h⟩, hm, F.bindsN hb⟩
theorem hasP_of (hF : PropDef K C m qual st) (S : FnScope N ps (defScope st)) (hb : BindsShape m qual ps st) (len : ∀ ds M Q E, sp ds M Q E → ds.length = ps.length) (rd : ∀ ds M Q E, sp ds M Q E → t (bodyD Q E) (startD N.length ds) M)
    (body : ∀ (f : Addr) (cdv : Value) (A : Around) (outer : List Env) (s : Shared) (H : Hp) (E : XK), Room k (A.deeper (PyProof.Rows.envOfC qual (defScope st) s.heap.objs.size f cdv)) → PSsd (cxOf CX0 P w K mg base N qual (defScope st) f cdv A outer s H E).nox E (defBody st) t) :
    HasP P w K mg base (k + 1) C m ps sp := by
  obtain ⟨p, f, fd, F, hm⟩ := hF.ex
  exact ⟨p, f, fd, F.ok S (spL_len len) fun cdv A outer s H vs Q E hr h => ⟨liftS K E t, PSs.nox (body f cdv A outer s H E hr), body_ok rd h⟩, hm, F.bindsN hb⟩
end
section
variable {X : Cx} {E : XK} {e o : Expr} {es : List Expr} {te : TEd} {t : TAd} {pos p apos : Pos} {k : Nat} {x m : Str} {ps attrs : List Str} {sp : SpD} {C : Addr}
theorem de_callH (h : Has X.prog X.w X.K X.mg X.base CX0 k x ps sp) (hr : Room k X.A) (hg : Gl X x) (ha : PAd X E (e :: es) t) (hdb : (x == ("__debug__" : Str)) = false := by decide)
    (he : starEach (e :: es) X.env = (false, eval e X.env) :: starEach es X.env := by rfl) (hpl : (backTo pos (starEach es X.env)).any (·.1) = false := by rfl) : PEd X E (.Call (.Name x p) (e :: es) [] pos) (eCall sp [] t) := by
  obtain ⟨f, fd, F, hm, hk, hb⟩ := h.ex
  exact de_call F hr hg hm hk hb .nil nilV passA ha hdb he hpl
theorem de_callH0 (h : Has X.prog X.w X.K X.mg X.base CX0 k x ps sp) (hr : Room k X.A) (hg : Gl X x) (hdb : (x == ("__debug__" : Str)) = false := by decide) : PEd X E (.Call (.Name x p) [] [] pos) (eCall sp [] eNil) := by
  obtain ⟨f, fd, F, hm, hk, hb⟩ := h.ex
  exact de_call0 F hr hg hm hk hb .nil nilV passA hdb
theorem de_makeH (c : ClsK X.K X.mg x C attrs) (h : HasM X.prog X.w X.K X.mg X.base CX0 k C "__init__" ps sp) (hr : Room (k + 1) X.A) (hg : Gl X x) (ha : PAd X E (e :: es) t) (hdb : (x == ("__debug__" : Str)) = false := by decide)
    (he : starEach (e :: es) X.env = (false, eval e X.env) :: starEach es X.env := by rfl) (hpl : (backTo pos (starEach es X.env)).any (·.1) = false := by rfl) : PEd X E (.Call (.Name x p) (e :: es) [] pos) (eMake C sp [] t) := by
  obtain ⟨f, fd, F, hm, hb⟩ := h.ex
  exact de_make ⟨c.mks, hm.at_, hm.fn, c.kp⟩ F hr hg c.mgC hb .nil nilV passA ha hdb he hpl
theorem de_methH {pl : Sem Bool} (c : Cls X.K C) (h : HasM X.prog X.w X.K X.mg X.base CX0 k C m ps sp) (hr : Room k X.A) (he : PEd X E o te) (ha : PAd X E (e :: es) t)
    (hst : starEach (e :: es) X.env = (false, eval e X.env) :: starEach es X.env := by rfl) (hpl : (backTo pos (starEach es X.env)).any (·.1) = false := by rfl)
    (ht : eval (.Call (.Attribute o m apos) (e :: es) [] pos) X.env = (do
      let ov ← eval o X.env
      standAt apos.atName
      let (f, first) ← holding [ov] (getMethod ov m pl)
      callWith pos f first (backTo pos (starEach (e :: es) X.env)) (backToKw pos (keywordEach [] X.env))) := by rfl) : PEd X E (.Call (.Attribute o m apos) (e :: es) [] pos) (eMeth C m sp [] te t) := by
  obtain ⟨f, fd, F, hm, hb⟩ := h.ex
  exact de_meth (pl := pl) c hm F hr hb .nil nilV passA he ha hst hpl ht
theorem de_methH0 {pl : Sem Bool} (c : Cls X.K C) (h : HasM X.prog X.w X.K X.mg X.base CX0 k C m ps sp) (hr : Room k X.A) (he : PEd X E o te)
    (ht : eval (.Call (.Attribute o m apos) [] [] pos) X.env = (do
      let ov ← eval o X.env
      standAt apos.atName
      let (f, first) ← holding [ov] (getMethod ov m pl)
      callWith pos f first (backTo pos (starEach [] X.env)) (backToKw pos (keywordEach [] X.env))) := by rfl) : PEd X E (.Call (.Attribute o m apos) [] [] pos) (eMeth C m sp [] te eNil) := by
  obtain ⟨f, fd, F, hm, hb⟩ := h.ex
  exact de_meth0 (pl := pl) c hm F hr hb .nil nilV passA he ht
theorem de_propH (c : Cls X.K C) (h : HasP X.prog X.w X.K X.mg X.base k C m ps sp) (hr : Room (k + 1) X.A) (he : PEd X E e te) (hab : attributeBase e m X.env (eval e X.env) = eval e X.env := by rfl) : PEd X E (.Attribute e m pos) (eProp C sp te) := by
  obtain ⟨pr, f, fd, F, hp, hb⟩ := h.ex
  exact de_prop c hp F hr hb he hab
end
end DL

/-! DLh: what loops and comprehensions come to. -/
namespace DL
open PySem PySem.Spec L2
theorem comp_map {α : Type} {g : TGd} {te : TEd} {Ed : XD} {ds : DSt} {M : MS} {Q : List D → MS → Prop} (xs : List α) (j f : α → D) (acc : List D) (hl : acc.length + xs.length ≤ sizeLine)
    (h : ∀ a ∈ xs, ∀ Q' : QD, Q' (f a) M → g (j a) ds M fun ds1 M1 => te Ed ds1 M1 Q') (q : Q (acc ++ xs.map f) M) : compRun g eYes te Ed ds (xs.map j) acc M Q := by
  induction xs generalizing acc with
  | nil => simpa [compRun] using q
  | cons a xs ih =>
    have h1 := h a List.mem_cons_self (fun y M3 => acc.length < sizeLine ∧ compRun g eYes te Ed ds (xs.map j) (acc ++ [y]) M3 Q) ⟨by simp at hl; omega, ih (acc ++ [f a]) (by simp at hl ⊢; omega) (fun b hb => h b (List.mem_cons_of_mem _ hb)) (by simpa using q)⟩
    show g (j a) ds M fun ds1 M1 => eYes Ed ds1 M1 fun b M2 => if b = true then te Ed ds1 M2 fun y M3 => _ else _
    exact h1
/-- with a test -/
theorem comp_filter {α : Type} {g : TGd} {tt : TTd} {te : TEd} {Ed : XD} {ds : DSt} {M : MS} {Q : List D → MS → Prop} (xs : List α) (j f : α → D) (k : α → Bool) (acc : List D) (hl : acc.length + xs.length ≤ sizeLine)
    (h : ∀ a ∈ xs, ∀ Q' : QD, ∀ R : MS → Prop, (k a = true → Q' (f a) M) → (k a = false → R M) → g (j a) ds M fun ds1 M1 => tt Ed ds1 M1 fun b M2 => if b = true then te Ed ds1 M2 Q' else R M2) (q : Q (acc ++ (xs.filter k).map f) M) : compRun g tt te Ed ds (xs.map j) acc M Q := by
  induction xs generalizing acc with
  | nil => simpa [compRun] using q
  | cons a xs ih =>
    have step : ∀ acc', acc'.length + xs.length ≤ sizeLine → Q (acc' ++ (xs.filter k).map f) M → compRun g tt te Ed ds (xs.map j) acc' M Q := fun acc' h1 h2 => ih acc' h1 (fun b hb => h b (List.mem_cons_of_mem _ hb)) h2
    refine h a List.mem_cons_self (fun y M3 => acc.length < sizeLine ∧ compRun g tt te Ed ds (xs.map j) (acc ++ [y]) M3 Q) (fun M3 => compRun g tt te Ed ds (xs.map j) acc M3 Q) (fun hk => ⟨by simp at hl; omega, step _ (by simp at hl ⊢; omega) ?_⟩) fun hk => step _ (by simp at hl ⊢; omega) ?_
    · simpa [List.filter_cons, hk] using q
    · simpa [List.filter_cons, hk] using q
/-- the cells may change: I tells the state by what was taken and what was made -/
theorem comp_inv {α : Type} {g : TGd} {te : TEd} {Ed : XD} {ds : DSt} {M : MS} {Q : List D → MS → Prop} (xs : List α) (j : α → D) (I : List α → List D → MS → Prop) (h0 : I [] [] M) (hl : xs.length ≤ sizeLine)
    (h : ∀ pre a post, xs = pre ++ a :: post → ∀ acc M, acc.length = pre.length → I pre acc M → ∀ Q' : QD, (∀ y M', I (pre ++ [a]) (acc ++ [y]) M' → Q' y M') → g (j a) ds M fun ds1 M1 => te Ed ds1 M1 Q') (q : ∀ acc M, acc.length = xs.length → I xs acc M → Q acc M) :
    compRun g eYes te Ed ds (xs.map j) [] M Q := by
  have key : ∀ (post pre : List α) (acc : List D) (M : MS), xs = pre ++ post → acc.length = pre.length → I pre acc M → compRun g eYes te Ed ds (post.map j) acc M Q := by
    intro post
    induction post with
    | nil => intro pre acc M e ha hi; rw [List.append_nil] at e; subst e; exact q acc M ha hi
    | cons a post ih =>
      intro pre acc M e ha hi
      show g (j a) ds M fun ds1 M1 => eYes Ed ds1 M1 fun b M2 => if b = true then te Ed ds1 M2 fun y M3 => acc.length < sizeLine ∧ compRun g eYes te Ed ds (post.map j) (acc ++ [y]) M3 Q else _
      refine h pre a post e acc M ha hi (fun y M3 => acc.length < sizeLine ∧ compRun g eYes te Ed ds (post.map j) (acc ++ [y]) M3 Q) fun y M' hi' => ⟨?_, ih (pre ++ [a]) (acc ++ [y]) M' (by simp [e]) (by simp [ha]) hi'⟩
      have : xs.length = pre.length + (post.length + 1) := by rw [e]; simp
      omega
  exact key xs [] [] M rfl rfl h0
theorem for_inv {α : Type} {g : TGd} {tb : TSd} {Dd : EndsD} {ds : DSt} {M : MS} (xs : List α) (j : α → D) (I : List α → DSt → MS → Prop) (h0 : I [] ds M)
    (hs : ∀ pre a post, xs = pre ++ a :: post → ∀ ds M, I pre ds M → ∀ K : DSt → MS → Prop, (∀ ds M, I (pre ++ [a]) ds M → K ds M) → g (j a) ds M fun ds1 M1 => tb { Dd with nx := K, ct := K, bk := Dd.nx } ds1 M1)
    (hd : ∀ ds M, I xs ds M → Dd.nx ds M) : forRun g tb (xs.map j) Dd ds M := by
  have key : ∀ (post pre : List α) (ds : DSt) (M : MS), xs = pre ++ post → I pre ds M → forRun g tb (post.map j) Dd ds M := by
    intro post
    induction post with
    | nil => intro pre ds M e hi; rw [List.append_nil] at e; subst e; exact hd ds M hi
    | cons a post ih =>
      intro pre ds M e hi
      exact hs pre a post e ds M hi _ fun ds' M' hi' => ih (pre ++ [a]) ds' M' (by simp [e]) hi'
  exact key xs [] ds M rfl h0
theorem rangeD_map (n : Nat) : rangeD 0 n = (List.range n).map fun i => D.int (i : Nat) := by simp [rangeD]
theorem asInts_mapF {α : Type} (f : α → Int) : ∀ xs : List α, asInts (xs.map fun a => D.int (f a)) = some (xs.map f)
  | [] => rfl
  | a :: r => by rw [List.map_cons]; unfold asInts; rw [asInts_mapF f r]; rfl
theorem asBls_mapF {α : Type} (f : α → Bool) : ∀ xs : List α, asBls (xs.map fun a => D.bl (f a)) = some (xs.map f)
  | [] => rfl
  | a :: r => by rw [List.map_cons]; unfold asBls; rw [asBls_mapF f r]; rfl
def withIx {α : Type} : Nat → List α → List (Nat × α)
  | _, [] => []
  | i, a :: r => (i, a) :: withIx (i + 1) r
theorem enumD_map {α : Type} (j : α → D) : ∀ (k : Nat) (xs : List α), enumD k (xs.map j) = (withIx k xs).map fun p => D.tup [.int (p.1 : Nat), j p.2]
  | _, [] => rfl
  | k, a :: r => by rw [List.map_cons, enumD, enumD_map j (k + 1) r]; rfl
theorem pairsD_map {α β : Type} (j : α → D) (i : β → D) (xs : List α) (ys : List β) : pairsD (xs.map j) (ys.map i) = (xs.zip ys).map fun p => D.tup [j p.1, i p.2] := by
  unfold pairsD
  rw [List.zip_map, List.map_map]
  rfl
theorem dropM_upd {M : MS} {a : Addr} {o : MO} (h : M a = none) : dropM (updM M a o) a = M := by
  funext b
  unfold dropM updM
  by_cases q : b = a
  · subst q; rw [if_pos rfl, h]
  · rw [if_neg q, if_neg q]
theorem sizeK {n : Nat} (h : n < 100000) : n ≤ sizeLine := Nat.le_trans (Nat.le_of_lt h) (by decide)
theorem sizeKlt {n : Nat} (h : n < 100000) : n < sizeLine := Nat.lt_of_lt_of_le h (by decide)
/-! ### == of data -/
mutual
def D.flat : Nat → D → Bool
  | _, .non => true
  | _, .bl _ => true
  | _, .int _ => true
  | _, .str x => PyData.canLay0 (.str x)
  | n + 1, .tup l => D.flats n l
  | n + 1, .lst l => D.flats n l
  | n + 1, .scr l => D.flats n l
  | _, _ => false
def D.flats : Nat → List D → Bool
  | _, [] => true
  | n, d :: l => D.flat n d && D.flats n l
end
mutual
theorem flat_ok : ∀ {n : Nat} {d : D}, d.flat n = true → d.plain = true ∧ PyData.canLay0 d.pd = true ∧ PyData.depth d.pd ≤ n
  | _, .non, _ => ⟨by simp [D.plain], by simp [D.pd, PyData.canLay0], by simp [D.pd, PyData.depth]⟩
  | _, .bl _, _ => ⟨by simp [D.plain], by simp [D.pd, PyData.canLay0], by simp [D.pd, PyData.depth]⟩
  | _, .int _, _ => ⟨by simp [D.plain], by simp [D.pd, PyData.canLay0], by simp [D.pd, PyData.depth]⟩
  | _, .str x, h => ⟨by simp [D.plain], by simpa [D.pd, D.flat] using h, by simp [D.pd, PyData.depth]⟩
  | n + 1, .tup l, h => by
    obtain ⟨h1, h2, h3⟩ := flats_ok (n := n) (l := l) (by simpa [D.flat] using h)
    exact ⟨by simpa [D.plain] using h1, by simpa [D.pd, PyData.canLay0] using h2, by simpa [D.pd, PyData.depth] using h3⟩
  | n + 1, .lst l, h => by
    obtain ⟨h1, h2, h3⟩ := flats_ok (n := n) (l := l) (by simpa [D.flat] using h)
    exact ⟨by simpa [D.plain] using h1, by simpa [D.pd, PyData.canLay0] using h2, by simpa [D.pd, PyData.depth] using h3⟩
  | n + 1, .scr l, h => by
    obtain ⟨h1, h2, h3⟩ := flats_ok (n := n) (l := l) (by simpa [D.flat] using h)
    exact ⟨by simpa [D.plain] using h1, by simpa [D.pd, PyData.canLay0] using h2, by simpa [D.pd, PyData.depth] using h3⟩
  | 0, .tup l, h => by simp [D.flat] at h
  | 0, .lst l, h => by simp [D.flat] at h
  | 0, .scr l, h => by simp [D.flat] at h
  | 0, .ref l, h => by simp [D.flat] at h
  | 0, .ty l, h => by simp [D.flat] at h
  | n + 1, .ref l, h => by simp [D.flat] at h
  | n + 1, .ty l, h => by simp [D.flat] at h
theorem flats_ok : ∀ {n : Nat} {l : List D}, D.flats n l = true → D.plains l = true ∧ PyData.canLayAll0 (D.pds l) = true ∧ PyData.depthAll (D.pds l) ≤ n
  | _, [], _ => ⟨by simp [D.plains], by simp [D.pds, PyData.canLayAll0], by simp [D.pds, PyData.depthAll]⟩
  | n, d :: l, h => by
    rw [D.flats, Bool.and_eq_true] at h
    obtain ⟨a1, a2, a3⟩ := flat_ok h.1
    obtain ⟨b1, b2, b3⟩ := flats_ok h.2
    exact ⟨by simp [D.plains, a1, b1], by simp [D.pds, PyData.canLayAll0, a2, b2], by simp [D.pds, PyData.depthAll]; omega⟩
end
theorem flats_all (n : Nat) : ∀ l : List D, D.flats n l = l.all (D.flat n)
  | [] => by simp [D.flats]
  | d :: l => by simp [D.flats, flats_all n l]
def D.eqv (x y : D) : Bool := PyData.eqv x.pd y.pd
theorem rdEq_of {x y : D} {M : MS} {Q : QD} (n : Nat) (hx : (asData M x).flat n = true) (hy : (asData M y).flat n = true) (q : Q (.bl ((asData M x).eqv (asData M y))) M) (hn : n ≤ 64 := by decide) : rdEq x y M Q := by
  obtain ⟨a1, a2, a3⟩ := flat_ok hx
  obtain ⟨b1, b2, b3⟩ := flat_ok hy
  exact ⟨a1, b1, by simp [SeqAt.shaped, a2]; omega, by simp [SeqAt.shaped, b2]; omega, q⟩
theorem rdNe_of {x y : D} {M : MS} {Q : QD} (n : Nat) (hx : (asData M x).flat n = true) (hy : (asData M y).flat n = true) (q : Q (.bl (!(asData M x).eqv (asData M y))) M) (hn : n ≤ 64 := by decide) : rdNe x y M Q := by
  obtain ⟨a1, a2, a3⟩ := flat_ok hx
  obtain ⟨b1, b2, b3⟩ := flat_ok hy
  exact ⟨a1, b1, by simp [SeqAt.shaped, a2]; omega, by simp [SeqAt.shaped, b2]; omega, q⟩
theorem eqv_int (i j : Int) : (D.int i).eqv (.int j) = decide (i = j) := by
  unfold D.eqv
  simp only [D.pd, PyData.eqv]
  by_cases h : i = j <;> simp [h]
theorem eqv_bl (i j : Bool) : (D.bl i).eqv (.bl j) = (i == j) := by
  unfold D.eqv; simp only [D.pd, PyData.eqv]
theorem eqv_str (i j : Str) : (D.str i).eqv (.str j) = (i == j) := by
  unfold D.eqv; simp only [D.pd, PyData.eqv]
theorem eqv_tup_nil (l : List D) : (D.tup l).eqv (.tup []) = l.isEmpty := by
  unfold D.eqv
  cases l <;> simp [D.pd, D.pds, PyData.eqv, PyData.eqvAll]
theorem eqv_lst_nil (l : List D) : (D.lst l).eqv (.lst []) = l.isEmpty := by
  unfold D.eqv
  cases l <;> simp [D.pd, D.pds, PyData.eqv, PyData.eqvAll]
theorem eqvAll_map {α : Type} {j : α → D} (h : ∀ a b : α, (j a).eqv (j b) = true ↔ a = b) : ∀ a b : List α, PyData.eqvAll (D.pds (a.map j)) (D.pds (b.map j)) = true ↔ a = b
  | [], [] => by simp [D.pds, PyData.eqvAll]
  | [], _ :: _ => by simp [D.pds, PyData.eqvAll]
  | _ :: _, [] => by simp [D.pds, PyData.eqvAll]
  | x :: xs, y :: ys => by
    have h1 := h x y
    unfold D.eqv at h1
    simp only [List.map_cons, D.pds, PyData.eqvAll, Bool.and_eq_true, h1, eqvAll_map h xs ys, List.cons.injEq]
theorem eqv_tup_map {α : Type} {j : α → D} (h : ∀ a b : α, (j a).eqv (j b) = true ↔ a = b) (a b : List α) : (D.tup (a.map j)).eqv (.tup (b.map j)) = true ↔ a = b := by
  have := eqvAll_map h a b
  unfold D.eqv
  simpa only [D.pd, PyData.eqv] using this
theorem eqv_lst_map {α : Type} {j : α → D} (h : ∀ a b : α, (j a).eqv (j b) = true ↔ a = b) (a b : List α) : (D.lst (a.map j)).eqv (.lst (b.map j)) = true ↔ a = b := by
  have := eqvAll_map h a b
  unfold D.eqv
  simpa only [D.pd, PyData.eqv] using this
theorem eqv_ints (a b : List Int) : (D.tup (a.map D.int)).eqv (.tup (b.map D.int)) = decide (a = b) := by
  have := eqv_tup_map (j := D.int) (fun a b => by rw [eqv_int]; simp) a b
  by_cases h : a = b
  · rw [decide_eq_true h]; exact this.mpr h
  · rw [decide_eq_false h]
    cases e : (D.tup (a.map D.int)).eqv (.tup (b.map D.int)) with
    | false => rfl
    | true => exact absurd (this.mp e) h
theorem flat_ints (n : Nat) (ns : List Int) : (D.tup (ns.map D.int)).flat (n + 1) = true := by
  rw [D.flat, flats_all, List.all_map, List.all_eq_true]
  intro x _
  show (D.int x).flat n = true
  cases n <;> rfl
theorem flat_intsL (n : Nat) (ns : List Int) : (D.lst (ns.map D.int)).flat (n + 1) = true := by
  rw [D.flat, flats_all, List.all_map, List.all_eq_true]
  intro x _
  show (D.int x).flat n = true
  cases n <;> rfl
end DL

/-! DLi: is True, in a list, dicts whose keys are tuples, range(a, b, -1), repr of an int. -/
namespace DL
open PySem PySem.Spec L2
variable {X : Cx} {E : XK} {a b c e i o value : Expr} {ta tb te ti to tv : TEd} {t : TAd} {pos p pos' : Pos}

/-! ### is of bools -/
def rdIsB : R2d := fun x y M Q => match x, y with
  | .bl a, .bl b => Q (.bl (a == b)) M
  | _, _ => False
def rdNotB : R2d := fun x y M Q => match x, y with
  | .bl a, .bl b => Q (.bl (!(a == b))) M
  | _, _ => False
theorem dec_beq (a b : Bool) : decide (a = b) = (a == b) := by cases a <;> cases b <;> rfl
theorem lf_isB {K : PySem.W.Frag} : Lf2 K rIsB rdIsB := by
  intro x y d e H F M Qd Q R r s q po
  cases r <;> first | exact q.elim | skip
  cases s <;> first | exact q.elim | skip
  exact ⟨_, _, rfl, rfl, same_ok R (.bl _) (by rw [dec_beq]; exact q) po⟩
theorem lf_notB {K : PySem.W.Frag} : Lf2 K rNotB rdNotB := by
  intro x y d e H F M Qd Q R r s q po
  cases r <;> first | exact q.elim | skip
  cases s <;> first | exact q.elim | skip
  exact ⟨_, _, rfl, rfl, same_ok R (.bl _) (by rw [dec_beq]; exact q) po⟩

/-! ### in a list -/
def rdIn : R2d := fun x y M Q => ∃ l, asTL M y = some l ∧ (asData M x).plain = true ∧ D.plains l = true ∧ SeqAt.shaped (asData M x).pd = true ∧ SeqAt.shaped (.list (D.pds l)) = true ∧ Q (.bl ((D.pds l).any fun z => PyData.eqv z (asData M x).pd)) M
def rdNotIn : R2d := fun x y M Q => ∃ l, asTL M y = some l ∧ (asData M x).plain = true ∧ D.plains l = true ∧ SeqAt.shaped (asData M x).pd = true ∧ SeqAt.shaped (.list (D.pds l)) = true ∧ Q (.bl (!(D.pds l).any fun z => PyData.eqv z (asData M x).pd)) M
theorem lf_in {K : PySem.W.Frag} : Lf2 K (rInD K) rdIn := by
  intro x y d e H F M Qd Q R r s ⟨l, h1, h2, h3, h4, h5, q⟩ po
  obtain ⟨ad, xs, rfl, h6, h7⟩ := tlV R s h1
  exact ⟨_, _, data_ok R r h2, .lst (SqL.of h6) (pds_ok R h7 h3), h4, h5, same_ok R (.bl _) q po⟩
theorem lf_notIn {K : PySem.W.Frag} : Lf2 K (rNotInD K) rdNotIn := by
  intro x y d e H F M Qd Q R r s ⟨l, h1, h2, h3, h4, h5, q⟩ po
  obtain ⟨ad, xs, rfl, h6, h7⟩ := tlV R s h1
  exact ⟨_, _, data_ok R r h2, .lst (SqL.of h6) (pds_ok R h7 h3), h4, h5, same_ok R (.bl _) q po⟩
theorem op_inS (hu : X.A.units + 64 < cLine) (hc : cLine = cLine := rfl) : X.A.units + 64 < cLine := hu

/-! ### dicts with tuple keys -/
def D.key : D → Option Key
  | .int i => some (.inl i)
  | .str x => some (.inr x)
  | _ => none
def D.keys : List D → Option (List Key)
  | [] => some []
  | d :: l => match d.key, D.keys l with
    | some k, some ks => some (k :: ks)
    | _, _ => none
theorem key_ok {K : PySem.W.Frag} {F : Hp} {x : V} {d : D} {k : Key} (r : Dp K F x d) (h : d.key = some k) : x = kV k := by
  cases r <;> simp [D.key] at h <;> subst h <;> rfl
theorem keys_ok {K : PySem.W.Frag} {F : Hp} : ∀ {l : List D} {xs : List V} {ks : List Key}, DpL K F xs l → D.keys l = some ks → xs = ks.map kV
  | [], _, _, r, h => by cases r; simp [D.keys] at h; subst h; rfl
  | d :: l, _, _, r, h => by
    cases r with | cons r1 r2 =>
      unfold D.keys at h
      split at h
      · rename_i k ks h1 h2
        cases h
        rw [key_ok r1 h1, keys_ok r2 h2]; rfl
      · cases h
def D.tkey : D → Option (List Key)
  | .tup l => D.keys l
  | _ => none
theorem tkey_ok {K : PySem.W.Frag} {F H : Hp} {M : MS} (R : Rel K H F M) {x : V} {d : D} {ks : List Key} (r : Dp K F x d) (h : d.tkey = some ks) : ∃ b, x = .ref b ∧ F b = some (.tup (ks.map kV)) ∧ H b = some (.tup (ks.map kV)) := by
  cases r <;> simp [D.tkey] at h
  rename_i a xs l h1 h2
  have e := keys_ok h2 h
  subst e
  exact ⟨_, rfl, h1, R.ext _ _ h1⟩
def valD (kvs : List (List Key × D)) (k : List Key) : Option D := (kvs.find? fun kv => decide (kv.1 = k)).map (·.2)
def putT (kvs : List (List Key × D)) (k : List Key) (d : D) : List (List Key × D) := if kvs.any (fun kv => decide (kv.1 = k)) then kvs.map (fun kv => if kv.1 = k then (kv.1, d) else kv) else kvs ++ [(k, d)]
theorem KvOk.val {K : PySem.W.Frag} {F : Hp} (k : List Key) : ∀ {vs : List (List Key × V)} {kvs : List (List Key × D)}, KvOk K F vs kvs → (∀ d, valD kvs k = some d → ∃ v, valV vs k = some v ∧ Dp K F v d) ∧ (valV vs k).isSome = (valD kvs k).isSome
  | [], _, r => by cases r; exact ⟨fun d h => by simp [valD] at h, rfl⟩
  | p :: vs, _, r => by
    cases r with
    | @cons _ q _ qs h t =>
      obtain ⟨h1, h2⟩ := h
      obtain ⟨i1, i2⟩ := KvOk.val k t
      by_cases e : p.1 = k
      · have e' : q.1 = k := h1.symm.trans e
        have e2 : valD (q :: qs) k = some q.2 := by simp [valD, List.find?_cons, e']
        rw [valV_pos e, e2]
        exact ⟨fun d h => by cases h; exact ⟨_, rfl, h2⟩, rfl⟩
      · have e' : ¬ q.1 = k := fun z => e (h1.trans z)
        have e2 : valD (q :: qs) k = valD qs k := by simp [valD, List.find?_cons, e']
        rw [valV_neg e, e2]
        exact ⟨i1, i2⟩
theorem KvOk.any {K : PySem.W.Frag} {F : Hp} (k : List Key) : ∀ {vs : List (List Key × V)} {kvs : List (List Key × D)}, KvOk K F vs kvs → (vs.any fun kv => decide (kv.1 = k)) = (kvs.any fun kv => decide (kv.1 = k))
  | [], _, r => by cases r; rfl
  | p :: vs, _, r => by
    cases r with
    | @cons _ q _ qs h t => rw [List.any_cons, List.any_cons, h.1, KvOk.any k t]
theorem KvOk.put {K : PySem.W.Frag} {F : Hp} {k : List Key} {v : V} {d : D} (rv : Dp K F v d) {vs : List (List Key × V)} {kvs : List (List Key × D)} (r : KvOk K F vs kvs) : KvOk K F (putK vs k v) (putT kvs k d) := by
  unfold putK putT
  rw [r.any k]
  have rep : ∀ {vs : List (List Key × V)} {kvs : List (List Key × D)}, KvOk K F vs kvs → KvOk K F (vs.map fun kv => if kv.1 = k then (kv.1, v) else kv) (kvs.map fun kv => if kv.1 = k then (kv.1, d) else kv) := by
    intro vs kvs r
    unfold KvOk at r ⊢
    induction r with
    | nil => exact .nil
    | @cons p q ps qs h t ih =>
      rw [List.map_cons, List.map_cons]
      refine .cons ?_ ih
      by_cases e : p.1 = k
      · rw [if_pos e, if_pos (h.1.symm.trans e)]; exact ⟨h.1, rv⟩
      · rw [if_neg e, if_neg (fun z => e (h.1.trans z))]; exact h
  split
  · exact rep r
  · exact Paired.snoc r ⟨rfl, rv⟩
theorem KvOk.length {K : PySem.W.Frag} {F : Hp} {vs : List (List Key × V)} {kvs : List (List Key × D)} (r : KvOk K F vs kvs) : vs.length = kvs.length := Paired.length r
/-- d[k], k in d, k not in d -/
def rdDGet : R2d := fun x y M Q => match x with
  | .ref a => ∃ kvs ks d, M a = some (.dT kvs) ∧ y.tkey = some ks ∧ valD kvs ks = some d ∧ Q d M
  | _ => False
def eDGet (to ti : TEd) : TEd := fun Ed ds M Q => to Ed ds M fun x M1 => ti Ed ds M1 fun y M2 => rdDGet x y M2 Q
theorem de_dget (hu : X.A.units + 64 < cLine) (ho : PEd X E o to) (hi : PEd X E i ti) (hs : NoSl i := by intro _ _; rfl) : PEd X E (.Subscript o i pos) (eDGet to ti) :=
  PE.mono (pe_dget (by omega) ho hi hs) fun σ H Q ⟨F, M, ds, Qd, Ed, R, S, q, po, x⟩ =>
    ⟨F, M, ds, _, Ed, R, S, q, fun v H1 F1 M1 d e1 R1 r1 q1 => ⟨F1, M1, ds, _, Ed, R1, S.ext e1, q1, fun u H2 F2 M2 e e2 R2 r2 q2 => by
      have r1' := r1.ext e2
      unfold rdDGet at q2
      split at q2
      · obtain ⟨kvs, ks, d', h1, h2, h3, q3⟩ := q2
        cases r1'
        obtain ⟨h4, vs, h5, h6⟩ := R2.cell _ _ h1
        obtain ⟨b, rfl, h7, h8⟩ := tkey_ok R2 r2 h2
        obtain ⟨w, h9, h10⟩ := (h6.val ks).1 _ h3
        exact ⟨_, w, rfl, .inr ⟨vs, ks, b, .inl h5, rfl, h8, h9.symm⟩, po _ _ _ _ _ (e1.trans e2) R2 h10 q3⟩
      · exact q2.elim, x.ext e1⟩, x⟩
def rdDIn (n : Bool) : R2d := fun y x M Q => match x with
  | .ref a => ∃ kvs ks, M a = some (.dT kvs) ∧ y.tkey = some ks ∧ Q (.bl ((valD kvs ks).isSome ^^ n)) M
  | _ => False
def rDIn (n : Bool) : R2 := fun y x H Q => ∃ a o, x = .ref a ∧ DGet H a y o ∧ Q (.bl (o.isSome ^^ n)) H
theorem op_din (hu : X.A.units + 64 < cLine) : OpR X (compareOp .In) (rDIn false) := by
  intro pins s σ H x y v u Q I rx ry h
  obtain ⟨a, o, rfl, g, q⟩ := h
  cases (show u = Value.ref a from ry)
  exact d_in (by omega) I g rx fun s' I' => ⟨.bl o.isSome, H, I', rfl, by simpa using q⟩
theorem op_dnotin (hu : X.A.units + 64 < cLine) : OpR X (compareOp .NotIn) (rDIn true) := by
  intro pins s σ H x y v u Q I rx ry h
  obtain ⟨a, o, rfl, g, q⟩ := h
  cases (show u = Value.ref a from ry)
  exact d_notIn (by omega) I g rx fun s' I' => ⟨.bl (!o.isSome), H, I', rfl, by simpa using q⟩
theorem lf_din {K : PySem.W.Frag} {n : Bool} : Lf2 K (rDIn n) (rdDIn n) := by
  intro y x d e H F M Qd Q R r s q po
  unfold rdDIn at q
  split at q
  · obtain ⟨kvs, ks, h1, h2, q⟩ := q
    cases s
    obtain ⟨h4, vs, h5, h6⟩ := R.cell _ _ h1
    obtain ⟨b, rfl, h7, h8⟩ := tkey_ok R r h2
    exact ⟨_, _, rfl, .inr ⟨vs, ks, b, .inl h5, rfl, h8, rfl⟩, same_ok R (.bl _) (by rw [(h6.val ks).2]; exact q) po⟩
  · exact q.elim
/-- d[k] = v -/
def sDPutD (te to ti : TEd) : TSd := fun D ds M => te D.xe ds M fun d M1 => to D.xe ds M1 fun x M2 => ti D.xe ds M2 fun y M3 => match x with
  | .ref a => ∃ kvs ks, M3 a = some (.dT kvs) ∧ y.tkey = some ks ∧ kvs.length < sizeLine ∧ D.nx ds (updM M3 a (.dT (putT kvs ks d)))
  | _ => False
theorem ds_dput (hu : X.A.units + 64 < cLine) (he : PEd X E value te) (ho : PEd X E o to) (hi : PEd X E i ti) (hs : swapsWith value (some (.Subscript o i pos')) pos.line X.env = pure false := by rfl) :
    PSd X E (.Assign [.Subscript o i pos'] value pos) (sDPutD te to ti) :=
  PS.mono (ps_dput (by omega) ho hi he hs) fun D σ H ⟨F, M, ds, Dd, R, S, q, p1, p2, p3, p4, px⟩ =>
    ⟨F, M, ds, _, _, R, S, q, fun v H1 F1 M1 d e1 R1 r1 q1 => ⟨F1, M1, ds, _, _, R1, S.ext e1, q1, fun u H2 F2 M2 d2 e2 R2 r2 q2 => ⟨F2, M2, ds, _, _, R2, S.ext (e1.trans e2), q2, fun y H3 F3 M3 d3 e3 R3 r3 q3 => by
      have r2' := r2.ext e3
      dsimp only at q3
      split at q3
      · obtain ⟨kvs, ks, h1, h2, h3, q4⟩ := q3
        cases r2'
        obtain ⟨h4, vs, h5, h6⟩ := R3.cell _ _ h1
        obtain ⟨b, rfl, h7, h8⟩ := tkey_ok R3 r3 h2
        refine ⟨_, _, rfl, .inr ⟨vs, ks, b, h5, rfl, h8, by rw [h6.length]; exact h3, rfl⟩, ?_⟩
        exact p1 _ _ _ _ _ ((e1.trans e2).trans e3) (R3.write (m := .dT (putT kvs ks d)) h1 ⟨_, rfl, h6.put (r1.ext (e2.trans e3))⟩) (S.ext ((e1.trans e2).trans e3)) q4
      · exact q3.elim, px.ext (e1.trans e2)⟩, px.ext e1⟩, px⟩
/-- {k: v}, k a tuple -/
def tDispT (tk tv : TE) : TE := fun σ H Q => ∀ p, H p = none → tk σ (upd H p (.dT [])) fun x H1 => tv σ H1 fun y H2 => H2 p = some (.dT []) ∧ ∃ b ks, x = .ref b ∧ H2 b = some (.tup (ks.map kV)) ∧ Q (.ref p) (upd H2 p (.dT [(ks, y)]))
theorem pe_dispT {k v : Expr} {tk tv : TE} (hu : X.A.units + 64 < cLine) (hk : PE X k tk) (hv : PE X v tv) : PE X (.Dict [some k] [v] pos) (tDispT tk tv) := by
  refine ⟨fun pins s σ H Q I q => ?_⟩
  have hn := I.hok.fresh (Nat.le_refl s.heap.objs.size)
  have I1 := I.laid (a := s.heap.objs.size) (o := .dT []) (h' := s.heap.push { cls := .type "dict", data := .dict #[] }) (t' := s.toks) (fun _ _ q => Heap.get?_push_of_some _ q) (Nat.le_refl _) (dt_empty s.heap I.big)
  have hshape := zip_pairTrees [some k] [v] X.env pos rfl rfl
  rw [arm_eval_Dict, hshape, dictDisplay_pairs (pairTrees [some k] [v] X.env pos) (fun h => by have := congrArg List.length h; rw [pairTrees_length _ _ _ _ rfl rfl] at this; exact nomatch this) (by rw [pairTrees_length _ _ _ _ rfl rfl]; simp)]
  refine wpAny_bind (wpAny_standAt (wpAny_bind (wpAny_subDictH (knd := tupleKind (mixKind X.prog X.w)) (show X.A.units < cLine by omega) (by rw [pairTrees_length _ _ _ _ rfl rfl]; simp) ?_)))
  refine pairTrees_cons_walk (thn (hk.run pins _ σ _ _ I1 (q _ hn)) fun u s1 ⟨x, H1, I2, rx, q1⟩ => thn (hv.run pins s1 σ H1 _ I2 q1) fun w2 s2 ⟨y, H2, I3, ry, e, b, ks, ex, hb, q2⟩ => ?_)
  refine pairTrees_nil_walk ?_
  subst ex
  obtain rfl : u = Value.ref b := rx
  obtain ⟨z, hd, xs, rel, dd⟩ := dt_of I3.hok e
  have ex : xs = [] := List.length_eq_zero_iff.mp (by rw [← Paired.length rel]; rfl)
  subst ex
  refine ⟨[(ks, b, w2)], ⟨rfl, rfl, key_of I3.hok hb, True.intro⟩, dd, fun h' tk' dd' hs => ?_⟩
  refine wpAny_pure ⟨.ref s.heap.objs.size, _, ?_, rfl, q2⟩
  obtain ⟨qo, es, ep, hq, h2, h3, h4, _, h5⟩ := dd'
  refine d_write I3 (by rw [e]; exact True.intro) hs ⟨qo, hq⟩ ⟨by rw [sizeLine_eq]; simp, hd, [(ks, b, w2)], ?_, qo, es, ep, hq, h2, h3, h4, h5⟩
  have : upd H2 s.heap.objs.size (.dT [(ks, y)]) b = some (.tup (ks.map kV)) := by
    rw [upd_ne (ne_of hb e (fun z => nomatch z))]; exact hb
  exact .cons ⟨rfl, this, ry⟩ .nil
def eDict1 (tk tv : TEd) : TEd := fun Ed ds M Q => ∀ p, M p = none → tk Ed ds (updM M p (.dT [])) fun x M1 => tv Ed ds M1 fun y M2 => M2 p = some (.dT []) ∧ ∃ ks, x.tkey = some ks ∧ Q (.ref p) (updM M2 p (.dT [(ks, y)]))
theorem de_dict1 {k v : Expr} {tk tv : TEd} (hu : X.A.units + 64 < cLine) (hk : PEd X E k tk) (hv : PEd X E v tv) : PEd X E (.Dict [some k] [v] pos) (eDict1 tk tv) :=
  PE.mono (pe_dispT hu hk hv) fun σ H Q ⟨F, M, ds, Qd, Ed, R, S, q, po, px⟩ p hp =>
    ⟨F, _, ds, _, Ed, R.newM (m := .dT []) hp ⟨[], rfl, .nil⟩, S, q p (R.freeM hp), fun x H1 F1 M1 d e1 R1 r1 q1 => ⟨F1, M1, ds, _, Ed, R1, S.ext e1, q1, fun y H2 F2 M2 d2 e2 R2 r2 ⟨h1, ks, h2, q2⟩ => by
      obtain ⟨h4, vs, h5, h6⟩ := R2.cell _ _ h1
      have : vs = [] := List.length_eq_zero_iff.mp (by rw [h6.length]; rfl)
      subst this
      obtain ⟨b, rfl, h7, h8⟩ := tkey_ok R2 (r1.ext e2) h2
      exact ⟨h5, b, ks, rfl, h8, po _ _ _ _ _ (e1.trans e2) (R2.write (m := .dT [(ks, d2)]) h1 ⟨_, rfl, .cons ⟨rfl, r2⟩ .nil⟩) (.ref p) q2⟩, px.ext e1⟩, px⟩

/-! ### range(a, b, -1), repr -/
def iRange3 (t : TAd) : TId := fun Ed ds M Q => t Ed ds M fun xs M1 => match xs with
  | [.int i, .int j, .int c] => c = -1 ∧ (-(2 ^ 62) ≤ i ∧ i < 2 ^ 62 ∧ -(2 ^ 62) ≤ j ∧ j < 2 ^ 62) ∧ Q (downD i (-1) (i - j).toNat) M1
  | _ => False
theorem three_inv {K : PySem.W.Frag} {F : Hp} {xs : List V} {a b c : D} (r : DpL K F xs [a, b, c]) : ∃ x y z, xs = [x, y, z] ∧ Dp K F x a ∧ Dp K F y b ∧ Dp K F z c := by
  cases r with | cons r1 r => cases r with | cons r2 r => cases r with | cons r3 r => cases r; exact ⟨_, _, _, rfl, r1, r2, r3⟩
theorem di_range3 {tg : Expr} (hg : Gl X "range") (hm : X.mg "range" = none) (ha : PAd X E [a, b, c] t) (hs : starEach [a, b, c] X.env = (false, eval a X.env) :: starEach [b, c] X.env := by rfl) (hpl : (backTo pos (starEach [b, c] X.env)).any (·.1) = false := by rfl) :
    PId X E tg (.Call (.Name "range" p) [a, b, c] [] pos) (iRange3 t) :=
  PI.mono (pi_range3 (tg := tg) (p := p) (pos := pos) hg hm ha hs hpl) fun σ H R ⟨F, M, ds, Qd, Ed, Rl, S, q, x, k⟩ => ⟨F, M, ds, _, Ed, Rl, S, q, fun vs H1 F1 M1 xs e1 R1 r1 q1 => by
    dsimp only at q1
    split at q1
    · obtain ⟨y, z, u, rfl, r2, r3, r4⟩ := three_inv r1
      cases r2; cases r3; cases r4
      obtain ⟨rfl, ⟨b1, b2, b3, b4⟩, q1⟩ := q1
      exact ⟨_, _, _, _, rfl, RgC.neg b1 b2 b3 b4, k _ _ _ _ _ e1 R1 iter_rangeC q1⟩
    · exact q1.elim, x⟩
def rdRepr : RCd := fun xs M Q => match xs with
  | [.int i] => i.natAbs.log2 < 1920 ∧ Q (.str (toString i)) M
  | _ => False
theorem lf_repr {K : PySem.W.Frag} : LfC K (fun xs H Q => ∃ i, xs = [.int i] ∧ i.natAbs.log2 < 1920 ∧ Q (.str (toString i)) H) rdRepr := by
  intro xs ds H F M Qd Q R r q po
  unfold rdRepr at q
  split at q
  · obtain ⟨x, rfl, r1⟩ := r.one_inv
    cases r1
    exact ⟨_, rfl, q.1, same_ok R (.str _) q.2 po⟩
  · exact q.elim
theorem de_repr (hg : Gl X "repr") (hm : X.mg "repr" = none) (ha : PAd X E [e] t) (he : starEach [e] X.env = (false, eval e X.env) :: starEach [] X.env := by rfl) (hpl : (backTo pos (starEach [] X.env)).any (·.1) = false := by rfl) :
    PEd X E (.Call (.Name "repr" p) [e] [] pos) (eCB rdRepr t) := de_callB SkE.call_repr_int lf_repr hg hm (by decide +kernel) ha (by decide) (by decide) he hpl
/-! ### a, b, c = x, y, z with plain locals -/
def sPar3 (i j k : Nat) (t : TAd) : TSd := fun D ds M => t D.xe ds M fun xs M1 => match xs with
  | [x, y, z] => D.nx (((ds.set i (some x)).set j (some y)).set k (some z)) M1
  | _ => False
theorem ds_par3 {i j k : Nat} {x y z : Str} {px py pz pt : Pos} {kt k2 pt2} (hc : X.calm = true) (hN : X.N.Nodup) (hi : X.N[i]? = some x) (hj : X.N[j]? = some y) (hk : X.N[k]? = some z) (hij : i ≠ j) (hik : i ≠ k) (hjk : j ≠ k)
    (hx : X.env.scope.names.lookup x = some .local) (hy : X.env.scope.names.lookup y = some .local) (hz : X.env.scope.names.lookup z = some .local) (ha : PAd X E [a, b, c] t)
    (hw : swappedStores [.Tuple [.Name x px, .Name y py, .Name z pz] kt pt] (.Tuple [a, b, c] k2 pt2) X.env = pure (some [x, y, z]) := by rfl)
    (hs : swapsWithSole [.Tuple [.Name x px, .Name y py, .Name z pz] kt pt] (.Tuple [a, b, c] k2 pt2) pos.line X.env = pure false := by rfl) :
    PSd X E (.Assign [.Tuple [.Name x px, .Name y py, .Name z pz] kt pt] (.Tuple [a, b, c] k2 pt2) pos) (sPar3 i j k t) :=
  PS.mono (ps_par3 hc hN hi hj hk hij hik hjk hx hy hz ha hw hs) fun D σ H ⟨F, M, ds, Dd, R, S, q, p1, p2, p3, p4, p5⟩ => ⟨F, M, ds, _, _, R, S, q, fun vs H1 F1 M1 d1 e1 R1 r1 q1 => by
    dsimp only at q1
    split at q1
    · obtain ⟨u, v, w, rfl, r2, r3, r4⟩ := three_inv r1
      exact ⟨u, v, w, rfl, p1 _ _ _ _ _ e1 R1 ((((S.ext e1).set i r2).set j r3).set k r4) q1⟩
    · exact q1.elim, p5⟩
/-! ### slices -/
theorem cutD_m1 (l : List D) : cutD l none (some (-1)) = l.dropLast := by
  unfold cutD HT.sIx
  simp only [show (-1 : Int) < 0 by decide, if_true, Nat.sub_zero, List.drop_zero, List.dropLast_eq_take]
  congr 1
  omega
theorem cutD_from (l : List D) (n : Nat) : cutD l (some (n : Int)) none = l.drop n := by
  unfold cutD HT.sIx
  simp only [show ¬ ((n : Int) < 0) by omega, if_false, Int.toNat_natCast]
  by_cases h : n ≤ l.length
  · rw [Nat.min_eq_left h, List.take_of_length_le (by simp)]
  · rw [Nat.min_eq_right (by omega), List.drop_of_length_le (Nat.le_refl _), List.drop_of_length_le (by omega)]
    simp
theorem cutD_from1 (l : List D) : cutD l (some 1) none = l.drop 1 := cutD_from l 1
theorem cutD_to (l : List D) (n : Nat) : cutD l none (some (n : Int)) = l.take n := by
  unfold cutD HT.sIx
  simp only [show ¬ ((n : Int) < 0) by omega, if_false, Int.toNat_natCast, Nat.sub_zero, List.drop_zero]
  by_cases h : n ≤ l.length
  · rw [Nat.min_eq_left h]
  · rw [Nat.min_eq_right (by omega), List.take_of_length_le (Nat.le_refl _), List.take_of_length_le (by omega)]
theorem atI_nat {α : Type} (l : List α) (n : Nat) : atI l (n : Int) = l[n]? := by
  unfold atI ixN
  by_cases h : n < l.length
  · simp [h]
  · simp [h, show ¬ (n : Int) < 0 by omega]
theorem atI_m1 {α : Type} (l : List α) : atI l (-1) = l.getLast? := by
  unfold atI ixN
  cases l with
  | nil => simp
  | cons a r =>
    rw [List.getLast?_eq_getElem?]
    simp only [show ¬ ((0 : Int) ≤ -1) by decide, if_false, List.length_cons, show -((r.length + 1 : Nat) : Int) ≤ -1 by omega, if_true, Option.bind_some]
    congr 1
    omega
theorem units65 {k : Nat} {A : Around} (r : Room k A) : A.units + 65 < cLine := by have := r.un; omega
end DL

/-! DLj: the end of a row. -/
namespace DL
open PySem PySem.Spec L2
section
variable {P : Program} {w : World} {K : PySem.W.Frag} {mg : Str → Option Value} {base : Heap} {name : Str} {st : Stmt} {N ps : List Str} {k : Nat} {sp : SpD} {t : TSd} {f : Addr} {fd : FuncData}
theorem fn_at (F : FunD K name name (defArgs st) (defBody st) (defScope st) [] [] f fd) (S : FnScope N ps (defScope st)) (len : ∀ ds M Q E, sp ds M Q E → ds.length = ps.length) (rd : ∀ ds M Q E, sp ds M Q E → t (bodyD Q E) (startD N.length ds) M)
    (body : ∀ (f : Addr) (cdv : Value) (A : Around) (outer : List Env) (s : Shared) (H : Hp) (E : XK), Room k (A.deeper (PyProof.Rows.envOfC name (defScope st) s.heap.objs.size f cdv)) → PSsd (cxOf CX0 P w K mg base N name (defScope st) f cdv A outer s H E).nox E (defBody st) t) :
    FnOk P w K mg base CX0 (k + 1) f fd ps (spL K sp) :=
  F.ok S (spL_len len) fun cdv A outer s H vs Q E hr h => ⟨liftS K E t, PSs.nox (body f cdv A outer s H E hr), body_ok rd h⟩
theorem has_at (F : FunD K name name (defArgs st) (defBody st) (defScope st) [] [] f fd) (hm : mg name = some (.ref f)) : HasDef K mg name st := ⟨f, fd, F, hm⟩
/-- the law's promise at the end -/
theorem law_sp (h : ∀ (ns : List Int) (M : MS) (Q : QD) (E : XD), ns.length ≤ 63 → (∀ M', Q (.bl true) M') → sp [.scr (ns.map D.int)] M Q E) (H : Hp) (a : Addr) (ns : List Int) (hl : ns.length ≤ 63) (hS : SqL K H a (ns.map V.int)) :
    spL K sp [.ref a] H (fun v _ => v = .bl true) fun _ _ _ => False :=
  ⟨H, fun _ => none, [.scr (ns.map D.int)], fun d _ => d = .bl true, fun _ _ _ => False, ⟨fun _ _ e => e, fun _ _ e => nomatch e⟩, .cons (.scr hS (DpL.ints ns)) .nil, h ns _ _ _ hl fun _ => rfl,
    fun v H' F' M' d _ _ r e => by subst e; cases r; rfl, PostX.none⟩
end
end DL

/-! PA: mirrors and promises: rules. -/
namespace RW1
open PySem PySem.Spec L2 DL

def oI : Option Int → D
  | none => .non
  | some i => .int i
structure Rl where
  f : Nat
  s : Nat
  l : Int
  m : Option Int
def Rl.d (r : Rl) : D := .tup [.int r.f, .int r.s, .int r.l, oI r.m]
def rulesD (rs : List Rl) : D := .tup (rs.map Rl.d)
def intsD (ns : List Int) : D := .tup (ns.map D.int)
def intsL (ns : List Int) : D := .lst (ns.map D.int)
/-- the place of a running number -/
def wsum (fl : List Int) (f s : Nat) : Int := ((List.range s).map fun k => fl.getD ((f + k) % fl.length) 0).sum
def wplaces (n f s : Nat) : List Int := isort ((List.range s).map fun k => (((f + k) % n : Nat) : Int))
def brk (fl : List Int) (i : Nat) (r : Rl) : List D :=
  (if wsum fl r.f r.s < r.l then [.tup [.int i, .str "least"]] else []) ++ (if r.m.any fun m => decide (m < wsum fl r.f r.s) then [.tup [.int i, .str "most"]] else [])
def brks (fl : List Int) : Nat → List Rl → List D
  | _, [] => []
  | i, r :: rs => brk fl i r ++ brks fl (i + 1) rs
def rfits (fl : List Int) (r : Rl) : Prop := r.l ≤ wsum fl r.f r.s ∧ ∀ m, r.m = some m → wsum fl r.f r.s ≤ m
def Fits (n : Nat) (rs : List Rl) (fl : List Int) : Prop := fl.length = n ∧ (∀ x ∈ fl, 0 ≤ x) ∧ ∀ r ∈ rs, rfits fl r
instance (fl : List Int) (r : Rl) : Decidable (rfits fl r) := by
  unfold rfits
  cases h : r.m with
  | none => exact decidable_of_iff (r.l ≤ wsum fl r.f r.s) (by simp)
  | some m => exact decidable_of_iff (r.l ≤ wsum fl r.f r.s ∧ wsum fl r.f r.s ≤ m) (by simp)
instance (n : Nat) (rs : List Rl) (fl : List Int) : Decidable (Fits n rs fl) := by unfold Fits; infer_instance

/-- is_number of a value of a known kind -/
def isNum (low : Int) (high : Option Int) : D → Bool
  | .int v => decide (low ≤ v) && high.all fun h => decide (v ≤ h)
  | _ => false
def sp_is_number : SpD := fun ds M Q _ => ∃ (d : D) (low : Int) (high : Option Int), ds = [d, .int low, oI high] ∧ (tyD M d).isSome ∧ Q (.bl (isNum low high d)) M
theorem len_is_number : ∀ ds M Q E, sp_is_number ds M Q E → ds.length = 3 := by rintro _ _ _ _ ⟨d, l, h, rfl, _⟩; rfl
/-- of a tuple of ints -/
def sp_is_filling : SpD := fun ds M Q _ => ∃ (n : Nat) (fl : List Int), ds = [.int n, intsD fl] ∧ fl.length < 1000 ∧ Q (.bl (decide (fl.length = n) && fl.all fun x => decide (0 ≤ x))) M
theorem len_is_filling : ∀ ds M Q E, sp_is_filling ds M Q E → ds.length = 2 := by rintro _ _ _ _ ⟨n, fl, rfl, _⟩; rfl
def sp_window_places : SpD := fun ds M Q _ => ∃ (n f s : Nat), ds = [.int n, .int f, .int s] ∧ 0 < n ∧ s < 1000 ∧ Q (intsD (wplaces n f s)) M
theorem len_window_places : ∀ ds M Q E, sp_window_places ds M Q E → ds.length = 3 := by rintro _ _ _ _ ⟨n, f, s, rfl, _⟩; rfl
def sp_window_sum : SpD := fun ds M Q _ => ∃ (fl : List Int) (f s : Nat), ds = [intsD fl, .int f, .int s] ∧ 0 < fl.length ∧ s < 1000 ∧ Q (.int (wsum fl f s)) M
theorem len_window_sum : ∀ ds M Q E, sp_window_sum ds M Q E → ds.length = 3 := by rintro _ _ _ _ ⟨n, f, s, rfl, _⟩; rfl
def sp_broken_rules : SpD := fun ds M Q _ => ∃ (n : Nat) (rs : List Rl) (fl : List Int), ds = [.int n, rulesD rs, intsD fl] ∧ 0 < fl.length ∧ rs.length < 1000 ∧ (∀ r ∈ rs, r.s < 1000) ∧ Q (.tup (brks fl 0 rs)) M
theorem len_broken_rules : ∀ ds M Q E, sp_broken_rules ds M Q E → ds.length = 3 := by rintro _ _ _ _ ⟨n, f, s, rfl, _⟩; rfl
def sp_fits : SpD := fun ds M Q _ => ∃ (n : Nat) (rs : List Rl) (fl : List Int), ds = [.int n, rulesD rs, intsD fl] ∧ 0 < n ∧ fl.length < 1000 ∧ rs.length < 1000 ∧ (∀ r ∈ rs, r.s < 1000) ∧ Q (.bl (decide (Fits n rs fl))) M
theorem len_fits : ∀ ds M Q E, sp_fits ds M Q E → ds.length = 3 := by rintro _ _ _ _ ⟨n, f, s, rfl, _⟩; rfl
end RW1

namespace RW1
open PySem PySem.Spec L2 DL
def t_is_number : TSd := sSeq (sIf (eOrT (eNotT (eTest (eCB rdIsi (eCons (eVar 0) (eCons (eC (.ty "int")) (eNil)))))) (eOrT (eTest (eCB rdIsi (eCons (eVar 0) (eCons (eC (.ty "bool")) (eNil))))) (eTest (eOp rdLt (eVar 0) (eVar 1))))) (sRet (eC (.bl false))) (sNext)) (sRet (eOrV (eOp rdIsN (eVar 2) (eC .non)) (eOp rdLe (eVar 0) (eVar 2))))
def t_is_filling : TSd := sRet (eAndV (eCB rdIsi (eCons (eVar 1) (eCons (eC (.ty "tuple")) (eNil)))) (eAndV (eOp rdEq (eCB rdLen (eCons (eVar 1) (eNil))) (eVar 0)) (eCB rdAll (eCons (eComp false (iSeq (eVar 1)) (CT.name 2).d (eYes) (eCall sp_is_number [] (eCons (eVar 2) (eCons (eC (.int 0)) (eCons (eC .non) (eNil))))) [2]) (eNil)))))
def t_window_places : TSd := sRet (eCB rdTuple (eCons (eCB (rdSorted false) (eCons (eComp false (iRange1 (eCons (eVar 2) (eNil))) (CT.name 3).d (eYes) (eOp rdMod (eOp (rdAdd false) (eVar 1) (eVar 3)) (eVar 0)) [3]) (eNil))) (eNil)))
def t_window_sum : TSd := sRet (eCB rdSum (eCons (eComp false (iSeq (eCall sp_window_places [] (eCons (eCB rdLen (eCons (eVar 0) (eNil))) (eCons (eVar 1) (eCons (eVar 2) (eNil)))))) (CT.name 3).d (eYes) (eOp rdIx (eVar 0) (eVar 3)) [3]) (eNil)))
def t_broken_rules : TSd := sSeq (sAsg (eLst true (eNil)) (gVar 3)) (sSeq (sFor (iEnumD (eCons (eVar 1) (eNil))) (gTupD 2 (gConsD (gVar 4) (gConsD (gTupD 4 (gConsD (gVar 5) (gConsD (gVar 6) (gConsD (gVar 7) (gConsD (gVar 8) (gNilD)))))) (gNilD)))) (sSeq (sAsg (eCall sp_window_sum [] (eCons (eVar 2) (eCons (eVar 5) (eCons (eVar 6) (eNil))))) (gVar 9)) (sSeq (sIf (eTest (eOp rdLt (eVar 9) (eVar 7))) (sExpr (eLM rdAppend (eVar 3) (eCons (eTup (eCons (eVar 4) (eCons (eC (.str "least")) (eNil)))) (eNil)))) (sNext)) (sIf (eAndT (eTest (eOp rdNotN (eVar 8) (eC .non))) (eTest (eOp rdGt (eVar 9) (eVar 8)))) (sExpr (eLM rdAppend (eVar 3) (eCons (eTup (eCons (eVar 4) (eCons (eC (.str "most")) (eNil)))) (eNil)))) (sNext))))) (sFreeze 3 (sRet (eCB rdTuple (eCons (eVar 3) (eNil))))))
def t_fits : TSd := sRet (eAndV (eCall sp_is_filling [] (eCons (eVar 0) (eCons (eVar 2) (eNil)))) (eOp rdEq (eCall sp_broken_rules [] (eCons (eVar 0) (eCons (eVar 1) (eCons (eVar 2) (eNil))))) (eTup (eNil))))
end RW1

/-! PB: the readings of rules.py keep their promises. -/
namespace RW1
open PySem PySem.Spec L2 DL
theorem oI_none : oI none = .non := rfl
theorem oI_some (i : Int) : oI (some i) = .int i := rfl
local macro_rules | `(tactic| walk_at "d") => `(tactic| simp only [startD, bodyD, List.map_cons, List.map_nil, List.length_cons, List.length_nil, List.cons_append, List.nil_append, Nat.reduceSub, Nat.reduceAdd, Nat.sub_self, List.replicate_zero, List.replicate_succ, List.append_nil, List.getElem?_cons_zero, List.getElem?_cons_succ, List.set_cons_zero, List.set_cons_succ,
  sSeq, sNext, sIf, sRet, eLM, rdAppend, updM_same, updM_upd, sRetN, sExpr, sAsg, sPar, gVar, gTupD, gConsD, gNilD, gsD, sFor, sFreeze, eVar, eC, eOp, eUn, eTest, eAndT, eOrT, eNotT, eAndV, eOrV, eNotV, eIf, eCons, eNil, eStar, eTup, eLst, eCB, eCall, eSl, ePart, eNoPart, eYes, eComp,
  rdI0, rdI, rdLt, rdLe, rdGt, rdGe, rdSub, rdMod, rdFdiv, rdPow, rdAdd, rdMul, rdIsN, rdNotN, rdLen, rdSum, rdTuple, rdList, rdAll, rdIsi, rdIx, rdMax, rdMin, rdInt, rdAbs, rdSorted, rdSl, DL.isNon, asSeq, asLst, asTL, asFz, tyD, nl, iSeq, iRange1, iRange2, iZipD, iEnumD, CT.d, wipeD, oI_none, oI_some, D.tup.injEq, D.int.injEq, D.bl.injEq, D.lst.injEq,
  Bool.not_true, Bool.not_false, Bool.false_eq_true, if_false, if_true, ↓reduceIte, exists_eq_left', exists_eq_left, true_and, and_true, exists_const, Option.some.injEq, reduceCtorEq, false_and, exists_false])
theorem rd_is_number : ∀ ds M Q E, sp_is_number ds M Q E → t_is_number (bodyD Q E) (startD 3 ds) M := by
  rintro ds M Q E ⟨d, low, high, rfl, hk, hQ⟩
  unfold t_is_number
  cases d with
  | int v =>
    walk_at "d"
    refine ⟨by decide, ?_⟩
    simp only [show isTy "int" "int" = true by decide, show isTy "int" "bool" = false by decide, Bool.not_true, Bool.false_eq_true, if_false]
    refine ⟨by decide, ?_⟩
    simp only [isNum] at hQ
    by_cases h : v < low
    · rw [decide_eq_true h, if_pos rfl]
      rw [decide_eq_false (by omega), Bool.false_and] at hQ
      exact hQ
    · rw [decide_eq_false h, if_neg (by decide)]
      rw [decide_eq_true (by omega : low ≤ v), Bool.true_and] at hQ
      cases high with
      | none => exact hQ
      | some h => exact hQ
  | bl b => walk_at "d"; exact ⟨by decide, by rw [show isTy "bool" "int" = true by decide]; exact ⟨by decide, hQ⟩⟩
  | non => walk_at "d"; exact ⟨by decide, hQ⟩
  | str b => walk_at "d"; exact ⟨by decide, hQ⟩
  | tup b => walk_at "d"; exact ⟨by decide, hQ⟩
  | lst b => walk_at "d"; exact ⟨by decide, hQ⟩
  | scr b => simp [tyD] at hk
  | ty b => simp [tyD] at hk
  | ref a =>
    walk_at "d"
    obtain ⟨k, hk⟩ := Option.isSome_iff_exists.mp hk
    unfold tyD at hk
    refine ⟨k, hk, by decide, ?_⟩
    have : isTy k "int" = false := by
      cases hM : M a with
      | none => simp [hM] at hk
      | some o => cases o <;> simp [hM] at hk <;> subst hk <;> decide
    rw [this]
    exact hQ
theorem rd_is_filling : ∀ ds M Q E, sp_is_filling ds M Q E → t_is_filling (bodyD Q E) (startD 3 ds) M := by
  rintro ds M Q E ⟨n, fl, rfl, hl, hQ⟩
  unfold t_is_filling intsD
  walk_at "d"
  refine ⟨by decide, ?_⟩
  rw [show isTy "tuple" "tuple" = true by decide, if_pos rfl]
  refine rdEq_of 1 rfl rfl ?_
  rw [show asData M (D.int ↑(List.map D.int fl).length) = D.int ↑(List.map D.int fl).length from rfl, show asData M (D.int (n : Int)) = D.int n from rfl, eqv_int, List.length_map]
  by_cases e : fl.length = n
  · rw [decide_eq_true e, Bool.true_and] at hQ
    simp only [e, decide_true, if_true]
    refine comp_map fl D.int (fun v => .bl (decide (0 ≤ v))) [] (sizeK (by simp; omega)) (fun v _ Q' q' => ?_) ⟨fl.map fun v => decide (0 ≤ v), asBls_mapF _ fl, ?_⟩
    · walk_at "d"
      exact ⟨.int v, 0, none, rfl, rfl, by simpa [isNum] using q'⟩
    · simpa [List.all_map] using hQ
  · rw [decide_eq_false e, Bool.false_and] at hQ
    rw [decide_eq_false (by omega)]
    exact hQ
theorem rd_window_places : ∀ ds M Q E, sp_window_places ds M Q E → t_window_places (bodyD Q E) (startD 4 ds) M := by
  rintro ds M Q E ⟨n, f, s, rfl, hn, hs, hQ⟩
  unfold t_window_places
  walk_at "d"
  refine ⟨by omega, ?_⟩
  rw [Int.toNat_natCast, rangeD_map]
  refine comp_map (List.range s) _ (fun k => .int (((f + k) % n : Nat) : Int)) [] (sizeK (by simp; omega)) (fun k _ Q' q' => ?_) ⟨_, asInts_mapF _ _, hQ⟩
  walk_at "d"
  exact ⟨by omega, by simpa using q'⟩
theorem perm_sum : ∀ {a b : List Int}, a.Perm b → a.sum = b.sum := by
  intro a b h
  induction h with
  | nil => rfl
  | cons x _ ih => simp [ih]
  | swap x y l => simp; omega
  | trans _ _ i1 i2 => exact i1.trans i2
theorem atI_nat {α : Type} (l : List α) (n : Nat) : atI l (n : Int) = l[n]? := by
  unfold atI ixN
  by_cases h : n < l.length
  · simp [h]
  · simp [h, show ¬ (n : Int) < 0 by omega]
theorem mem_wplaces {n f s : Nat} {p : Int} (h : p ∈ wplaces n f s) : ∃ k, k < s ∧ p = (((f + k) % n : Nat) : Int) := by
  have := (isort_perm _).mem_iff.mp h
  obtain ⟨k, hk, e⟩ := List.mem_map.mp this
  exact ⟨k, List.mem_range.mp hk, e.symm⟩
theorem wplaces_len (n f s : Nat) : (wplaces n f s).length = s := by
  unfold wplaces
  rw [(isort_perm _).length_eq]; simp
theorem wplaces_sum (fl : List Int) (f s : Nat) : ((wplaces fl.length f s).map fun p => fl.getD p.toNat 0).sum = wsum fl f s := by
  unfold wplaces wsum
  rw [perm_sum ((isort_perm _).map _), List.map_map]
  rfl
theorem rd_window_sum : ∀ ds M Q E, sp_window_sum ds M Q E → t_window_sum (bodyD Q E) (startD 4 ds) M := by
  rintro ds M Q E ⟨fl, f, s, rfl, hn, hs, hQ⟩
  unfold t_window_sum intsD
  walk_at "d"
  refine ⟨fl.length, f, s, by rw [List.length_map], hn, hs, _, rfl, ?_⟩
  refine comp_map (wplaces fl.length f s) D.int (fun p => .int (fl.getD p.toNat 0)) [] (sizeK (by simp [wplaces_len]; omega)) (fun p hp Q' q' => ?_) ⟨_, asInts_mapF _ _, by rw [wplaces_sum]; exact hQ⟩
  walk_at "d"
  obtain ⟨k, _, rfl⟩ := mem_wplaces hp
  have hlt := Nat.mod_lt (f + k) hn
  refine ⟨.int (fl.getD ((f + k) % fl.length) 0), ?_, q'⟩
  rw [atI_nat, List.getElem?_map, List.getD_eq_getElem?_getD, List.getElem?_eq_getElem hlt]
  rfl
theorem mem_withIx {α : Type} : ∀ {k : Nat} {xs : List α} {i : Nat} {x : α}, (i, x) ∈ withIx k xs → x ∈ xs
  | _, [], _, _, h => by simp [withIx] at h
  | k, y :: ys, i, x, h => by
    rw [withIx, List.mem_cons] at h
    rcases h with h | h
    · cases h; exact List.mem_cons_self
    · exact List.mem_cons_of_mem _ (mem_withIx h)
theorem withIx_snd {α : Type} : ∀ (k : Nat) (xs : List α), (withIx k xs).map Prod.snd = xs
  | _, [] => rfl
  | k, y :: ys => by rw [withIx, List.map_cons, withIx_snd]
theorem withIx_len {α : Type} (k : Nat) (xs : List α) : (withIx k xs).length = xs.length := by
  have := congrArg List.length (withIx_snd k xs)
  simpa using this
theorem withIx_append {α : Type} : ∀ (k : Nat) (xs ys : List α), withIx k (xs ++ ys) = withIx k xs ++ withIx (k + xs.length) ys
  | _, [], _ => rfl
  | k, x :: xs, ys => by rw [List.cons_append, withIx, withIx_append, withIx, List.length_cons, show k + 1 + xs.length = k + (xs.length + 1) by omega]; rfl
theorem withIx_get {α : Type} : ∀ {k : Nat} {xs : List α} {j i : Nat} {x : α}, (withIx k xs)[j]? = some (i, x) → i = k + j
  | _, [], _, _, _, h => by simp [withIx] at h
  | k, y :: ys, 0, i, x, h => by simp [withIx] at h; omega
  | k, y :: ys, j + 1, i, x, h => by
    have := withIx_get (k := k + 1) (xs := ys) (j := j) (by simpa [withIx] using h)
    omega
theorem withIx_at {α : Type} {xs : List α} {pre post : List (Nat × α)} {i : Nat} {x : α} (e : withIx 0 xs = pre ++ (i, x) :: post) : i = pre.length := by
  have := withIx_get (k := 0) (xs := xs) (j := pre.length) (i := i) (x := x) (by rw [e]; simp)
  omega
theorem brks_append (fl : List Int) : ∀ (i : Nat) (a b : List Rl), brks fl i (a ++ b) = brks fl i a ++ brks fl (i + a.length) b
  | _, [], _ => rfl
  | i, r :: a, b => by
    rw [List.cons_append, brks, brks, brks_append fl (i + 1) a b, List.append_assoc, List.length_cons, show i + 1 + a.length = i + (a.length + 1) by omega]
theorem brks_len (fl : List Int) : ∀ (i : Nat) (a : List Rl), (brks fl i a).length ≤ 2 * a.length
  | _, [] => Nat.le_refl _
  | i, r :: a => by
    rw [brks, List.length_append, List.length_cons]
    have := brks_len fl (i + 1) a
    have : (brk fl i r).length ≤ 2 := by unfold brk; split <;> split <;> simp
    omega
theorem rd_broken_rules : ∀ ds M Q E, sp_broken_rules ds M Q E → t_broken_rules (bodyD Q E) (startD 10 ds) M := by
  rintro ds M0 Q E ⟨n, rs, fl, rfl, h1, h2, h3, hQ⟩
  unfold t_broken_rules rulesD
  walk_at "d"
  refine ⟨by decide, fun a ha => ?_⟩
  rw [enumD_map]
  refine for_inv (withIx 0 rs) _ (fun pre ds' M' => ∃ o1 o2 o3 o4 o5 o6, ds' = [some (D.int ↑n), some (D.tup (rs.map Rl.d)), some (intsD fl), some (D.ref a), o1, o2, o3, o4, o5, o6] ∧ M' = updM M0 a (.lst (brks fl 0 (pre.map Prod.snd)))) ?_ ?_ ?_
  · exact ⟨_, _, _, _, _, _, rfl, rfl⟩
  · rintro pre ⟨i, r⟩ post e _ _ ⟨o1, o2, o3, o4, o5, o6, rfl, rfl⟩ K hK
    have hr : r ∈ rs := by
      have := mem_withIx (e ▸ List.mem_append_right pre List.mem_cons_self : (i, r) ∈ withIx 0 rs)
      exact this
    have hi : i = pre.length := withIx_at e
    have hl : pre.length < rs.length := by
      have := congrArg List.length e
      rw [withIx_len, List.length_append, List.length_cons] at this
      omega
    have hL := brks_len fl 0 (pre.map Prod.snd)
    rw [List.length_map] at hL
    have eK : brks fl 0 ((pre ++ [(i, r)]).map Prod.snd) = brks fl 0 (pre.map Prod.snd) ++ brk fl i r := by
      rw [List.map_append, brks_append, List.length_map, hi, Nat.zero_add]
      simp [brks]
    rw [eK] at hK
    generalize brks fl 0 (pre.map Prod.snd) = B at hK hL ⊢
    have s1 : B.length < sizeLine := sizeKlt (by omega)
    have s2 : (B ++ [D.tup [D.int ↑i, D.str "least"]]).length < sizeLine := sizeKlt (by simp; omega)
    have s3 : 2 ≤ sizeLine := by decide
    have hK' : ∀ ds M, (∃ o1 o2 o3 o4 o5 o6, ds = [some (D.int ↑n), some (D.tup (rs.map Rl.d)), some (intsD fl), some (D.ref a), o1, o2, o3, o4, o5, o6]) → M = updM M0 a (.lst (B ++ brk fl i r)) → K ds M := fun ds M ⟨o1, o2, o3, o4, o5, o6, h⟩ h' => hK ds M ⟨o1, o2, o3, o4, o5, o6, h, h'⟩
    unfold Rl.d
    walk_at "d"
    refine ⟨fl, r.f, r.s, rfl, h1, h3 r hr, ?_⟩
    unfold brk at hK'
    by_cases c1 : wsum fl r.f r.s < r.l
    · cases hm : r.m with
      | none =>
        simp only [c1, hm, oI_none, updM_same, decide_true, if_true, Option.any_none, Bool.false_eq_true, if_false, List.append_nil, Bool.not_true, Option.some.injEq, MO.lst.injEq, exists_eq', exists_eq_left', true_and, s1, s2, s3, updM_upd] at hK' ⊢
        exact hK' _ _ ⟨_, _, _, _, _, _, rfl⟩ rfl
      | some m =>
        by_cases c2 : m < wsum fl r.f r.s
        · simp only [c1, c2, hm, oI_some, updM_same, decide_true, if_true, Option.any_some, Bool.false_eq_true, if_false, List.append_nil, Bool.not_false, Option.some.injEq, MO.lst.injEq, exists_eq', exists_eq_left', true_and, s1, s2, s3, updM_upd] at hK' ⊢
          exact hK' _ _ ⟨_, _, _, _, _, _, rfl⟩ (by simp)
        · simp only [c1, c2, hm, oI_some, updM_same, decide_true, decide_false, if_true, Option.any_some, Bool.false_eq_true, if_false, List.append_nil, Bool.not_false, Option.some.injEq, MO.lst.injEq, exists_eq', exists_eq_left', true_and, s1, s2, s3, updM_upd] at hK' ⊢
          exact hK' _ _ ⟨_, _, _, _, _, _, rfl⟩ (by simp)
    · cases hm : r.m with
      | none =>
        simp only [c1, hm, oI_none, updM_same, decide_false, if_true, Option.any_none, Bool.false_eq_true, if_false, List.append_nil, Bool.not_true, Option.some.injEq, MO.lst.injEq, exists_eq', exists_eq_left', true_and, s1, s2, s3, updM_upd] at hK' ⊢
        exact hK' _ _ ⟨_, _, _, _, _, _, rfl⟩ rfl
      | some m =>
        by_cases c2 : m < wsum fl r.f r.s
        · simp only [c1, c2, hm, oI_some, updM_same, decide_true, decide_false, if_true, Option.any_some, Bool.false_eq_true, if_false, List.append_nil, List.nil_append, Bool.not_false, Option.some.injEq, MO.lst.injEq, exists_eq', exists_eq_left', true_and, s1, s2, s3, updM_upd] at hK' ⊢
          exact hK' _ _ ⟨_, _, _, _, _, _, rfl⟩ (by simp)
        · simp only [c1, c2, hm, oI_some, updM_same, decide_true, decide_false, if_true, Option.any_some, Bool.false_eq_true, if_false, List.append_nil, Bool.not_false, Option.some.injEq, MO.lst.injEq, exists_eq', exists_eq_left', true_and, s1, s2, s3, updM_upd] at hK' ⊢
          exact hK' _ _ ⟨_, _, _, _, _, _, rfl⟩ (by simp)
  · rintro _ _ ⟨o1, o2, o3, o4, o5, o6, rfl, rfl⟩
    walk_at "d"
    refine ⟨a, _, rfl, updM_same, ?_⟩
    rw [dropM_upd ha, withIx_snd]
    exact hQ
theorem isEmpty_brks (fl : List Int) : ∀ (i : Nat) (rs : List Rl), (brks fl i rs).isEmpty = decide (∀ r ∈ rs, rfits fl r)
  | _, [] => by simp [brks]
  | i, r :: rs => by
    have ap : ∀ a b : List D, (a ++ b).isEmpty = (a.isEmpty && b.isEmpty) := fun a b => by cases a <;> rfl
    rw [brks, ap, isEmpty_brks fl (i + 1) rs]
    have : (brk fl i r).isEmpty = decide (rfits fl r) := by
      obtain ⟨f, sz, l, m⟩ := r
      unfold brk
      cases m with
      | none =>
        by_cases h : wsum fl f sz < l
        · rw [decide_eq_false (fun k => by have := k.1; simp at this; omega)]; simp [h]
        · rw [decide_eq_true (show rfits fl ⟨f, sz, l, none⟩ from ⟨by simp; omega, fun m e => by simp at e⟩)]; simp [h]
      | some m =>
        by_cases h : wsum fl f sz < l
        · rw [decide_eq_false (fun k => by have := k.1; simp at this; omega)]; simp [h]
        · by_cases h' : m < wsum fl f sz
          · rw [decide_eq_false (fun k => by have := k.2 m rfl; simp at this; omega)]; simp [h, h']
          · rw [decide_eq_true (show rfits fl ⟨f, sz, l, some m⟩ from ⟨by simp; omega, fun m' e => by simp at e; subst e; simp; omega⟩)]; simp [h, h']
    rw [this]
    simp only [List.forall_mem_cons, Bool.decide_and]
theorem brks_flat (fl : List Int) : ∀ (i : Nat) (rs : List Rl), ∀ d ∈ brks fl i rs, d.flat 2 = true
  | _, [] => fun d h => by simp [brks] at h
  | i, r :: rs => fun d h => by
    rw [brks, List.mem_append] at h
    rcases h with h | h
    · unfold brk at h
      rw [List.mem_append] at h
      rcases h with h | h <;> split at h <;> simp at h <;> subst h <;> simp only [D.flat, D.flats] <;> decide +kernel
    · exact brks_flat fl (i + 1) rs d h
theorem rd_fits : ∀ ds M Q E, sp_fits ds M Q E → t_fits (bodyD Q E) (startD 3 ds) M := by
  rintro ds M Q E ⟨n, rs, fl, rfl, hn, h1, h2, h3, hQ⟩
  unfold t_fits
  walk_at "d"
  refine ⟨n, fl, rfl, h1, ?_⟩
  by_cases e : fl.length = n
  · by_cases e2 : ∀ x ∈ fl, 0 ≤ x
    · rw [decide_eq_true e, show (fl.all fun x => decide (0 ≤ x)) = true by simpa using e2]
      simp only [Bool.and_true, if_true]
      refine ⟨n, rs, fl, rfl, by omega, h2, h3, Nat.zero_le _, rdEq_of 3 ?_ rfl ?_⟩
      · show (D.tup (brks fl 0 rs)).flat 3 = true
        rw [D.flat, flats_all, List.all_eq_true]
        exact brks_flat fl 0 rs
      · rw [show asData M (D.tup (brks fl 0 rs)) = D.tup (brks fl 0 rs) from rfl, show asData M (D.tup []) = D.tup [] from rfl, eqv_tup_nil, isEmpty_brks]
        rw [show decide (∀ r ∈ rs, rfits fl r) = decide (Fits n rs fl) from decide_eq_decide.mpr ⟨fun h => ⟨e, e2, h⟩, fun h => h.2.2⟩]
        exact hQ
    · rw [show (fl.all fun x => decide (0 ≤ x)) = false by simpa using e2]
      rw [decide_eq_false (fun h => e2 h.2.1)] at hQ
      simpa using hQ
  · rw [decide_eq_false e]
    rw [decide_eq_false (fun h => e h.1)] at hQ
    simpa using hQ
end RW1

/-! PS: mirrors and promises: steps.py. -/
namespace RW1
open PySem PySem.Spec L2 DL
/-- the running sums -/
def ps : Int → List Int → List Int
  | s, [] => [s]
  | s, x :: r => s :: ps (s + x) r
def shf (a b : List Int) : List Int := ((ps 0 a).dropLast.zip (ps 0 b).dropLast).map fun p => p.2 - p.1
def lst (a b : List Int) : Int := (lmax (shf a b) - lmin (shf a b) + 1) / 2
def dif (l : List Int) : List Int := (l.zip (l.drop 1)).map fun p => p.2 - p.1
def pway (a b : List Int) (k m : Int) : List Int := dif (((ps 0 a).zip (shf a b ++ [(shf a b).headD 0])).map fun p => (m * p.1 + k * (p.2 - (lmin (shf a b) + m))) / m)
def isst (a b : List Int) : Bool := decide (a.sum = b.sum) && decide (lst a b ≤ 1)
def wayOk (n : Nat) (rs : List Rl) (a b : List Int) (w : List (List Int)) : Bool :=
  w.all (fun f => decide (Fits n rs f)) && (decide (w.head? = some a) && (decide (w.getLast? = some b) && (w.zip (w.drop 1)).all fun p => isst p.1 p.2))

def sp_running_sums : SpD := fun ds M Q _ => ∃ fl : List Int, ds = [intsD fl] ∧ fl.length < 1000 ∧ Q (intsL (ps 0 fl)) M
theorem len_running_sums : ∀ ds M Q E, sp_running_sums ds M Q E → ds.length = 1 := by rintro _ _ _ _ ⟨n, rfl, _⟩; rfl
def sp_shifts : SpD := fun ds M Q _ => ∃ a b : List Int, ds = [intsD a, intsD b] ∧ a.length < 1000 ∧ b.length < 1000 ∧ Q (intsL (shf a b)) M
theorem len_shifts : ∀ ds M Q E, sp_shifts ds M Q E → ds.length = 2 := by rintro _ _ _ _ ⟨n, f, rfl, _⟩; rfl
def sp_least_steps : SpD := fun ds M Q _ => ∃ a b : List Int, ds = [intsD a, intsD b] ∧ 0 < a.length ∧ a.length < 1000 ∧ 0 < b.length ∧ b.length < 1000 ∧ Q (if a.sum = b.sum then .int (lst a b) else .non) M
theorem len_least_steps : ∀ ds M Q E, sp_least_steps ds M Q E → ds.length = 2 := by rintro _ _ _ _ ⟨n, f, rfl, _⟩; rfl
def sp_part_way : SpD := fun ds M Q _ => ∃ (a b : List Int) (k m : Int), ds = [intsD a, intsD b, .int k, .int m] ∧ 0 < a.length ∧ a.length < 1000 ∧ 0 < b.length ∧ b.length < 1000 ∧ 0 < k ∧ k < 2 ^ 60 ∧ 0 < m ∧ m < 2 ^ 60 ∧ Q (intsD (pway a b k m)) M
theorem len_part_way : ∀ ds M Q E, sp_part_way ds M Q E → ds.length = 4 := by rintro _ _ _ _ ⟨n, f, _, _, rfl, _⟩; rfl
def sp_find_way : SpD := fun ds M Q _ => ∃ (d1 d2 : D) (a b : List Int), ds = [d1, d2, intsD a, intsD b] ∧ 0 < a.length ∧ a.length < 1000 ∧ 0 < b.length ∧ b.length < 1000 ∧ a.sum = b.sum ∧ 0 ≤ lst a b ∧ lst a b ≤ 500 ∧
  Q (.tup ((a :: (List.range (lst a b).toNat).map fun i : Nat => pway a b (1 + (i : Int)) (lst a b)).map intsD)) M
theorem len_find_way : ∀ ds M Q E, sp_find_way ds M Q E → ds.length = 4 := by rintro _ _ _ _ ⟨n, f, _, _, rfl, _⟩; rfl
def sp_is_step : SpD := fun ds M Q _ => ∃ a b : List Int, ds = [intsD a, intsD b] ∧ 0 < a.length ∧ a.length < 1000 ∧ 0 < b.length ∧ b.length < 1000 ∧ Q (.bl (isst a b)) M
theorem len_is_step : ∀ ds M Q E, sp_is_step ds M Q E → ds.length = 2 := by rintro _ _ _ _ ⟨n, f, rfl, _⟩; rfl
def sp_way_holds : SpD := fun ds M Q _ => ∃ (n : Nat) (rs : List Rl) (a b : List Int) (w : List (List Int)), ds = [.int n, rulesD rs, intsD a, intsD b, .tup (w.map intsD)] ∧ 0 < n ∧ rs.length < 1000 ∧ (∀ r ∈ rs, r.s < 1000) ∧ a.length < 1000 ∧ b.length < 1000 ∧
  w ≠ [] ∧ w.length < 1000 ∧ (∀ f ∈ w, 0 < f.length ∧ f.length < 1000) ∧ Q (.bl (wayOk n rs a b w)) M
theorem len_way_holds : ∀ ds M Q E, sp_way_holds ds M Q E → ds.length = 5 := by rintro _ _ _ _ ⟨n, f, _, _, _, rfl, _⟩; rfl
theorem ps_len : ∀ (s : Int) (l : List Int), (ps s l).length = l.length + 1
  | _, [] => rfl
  | s, x :: r => by rw [ps, List.length_cons, ps_len, List.length_cons]
end RW1

namespace RW1
open PySem PySem.Spec L2 DL
def t_running_sums : TSd := sSeq (sAsg (eLst true (eCons (eC (.int 0)) (eNil))) (gVar 1)) (sSeq (sFor (iSeq (eVar 0)) (gVar 2) (sExpr (eLM rdAppend (eVar 1) (eCons (eOp (rdAdd false) (eOp rdIx (eVar 1) (eUn rdNeg (eC (.int 1)))) (eVar 2)) (eNil))))) (sFreeze 1 (sRet (eVar 1))))
def t_shifts : TSd := sRet (eComp false (iZipD (eCons (eSl (rdSl false) (eCall sp_running_sums [] (eCons (eVar 0) (eNil))) (eNoPart) (ePart (eUn rdNeg (eC (.int 1))))) (eCons (eSl (rdSl false) (eCall sp_running_sums [] (eCons (eVar 1) (eNil))) (eNoPart) (ePart (eUn rdNeg (eC (.int 1))))) (eNil)))) (CT.tup [3, 2]).d (eYes) (eOp rdSub (eVar 2) (eVar 3)) [3, 2])
def t_least_steps : TSd := sSeq (sIf (eTest (eOp rdNe (eCB rdSum (eCons (eVar 0) (eNil))) (eCB rdSum (eCons (eVar 1) (eNil))))) (sRet (eC .non)) (sNext)) (sSeq (sAsg (eCall sp_shifts [] (eCons (eVar 0) (eCons (eVar 1) (eNil)))) (gVar 2)) (sRet (eOp rdFdiv (eOp (rdAdd false) (eOp rdSub (eCB rdMax (eCons (eVar 2) (eNil))) (eCB rdMin (eCons (eVar 2) (eNil)))) (eC (.int 1))) (eC (.int 2)))))
def t_part_way : TSd := sSeq (sAsg (eCall sp_shifts [] (eCons (eVar 0) (eCons (eVar 1) (eNil)))) (gVar 4)) (sSeq (sAsg (eOp (rdAdd false) (eCB rdMin (eCons (eVar 4) (eNil))) (eVar 3)) (gVar 5)) (sSeq (sAsg (eLst true (eNil)) (gVar 6)) (sSeq (sFor (iZipD (eCons (eCall sp_running_sums [] (eCons (eVar 0) (eNil))) (eCons (eLst false (eStar (eVar 4) (eCons (eOp rdIx (eVar 4) (eC (.int 0))) (eNil)))) (eNil)))) (gTupD 2 (gConsD (gVar 7) (gConsD (gVar 8) (gNilD)))) (sExpr (eLM rdAppend (eVar 6) (eCons (eOp rdFdiv (eOp (rdAdd false) (eOp (rdMul false) (eVar 3) (eVar 7)) (eOp (rdMul false) (eVar 2) (eOp rdSub (eVar 8) (eVar 5)))) (eVar 3)) (eNil))))) (sFreeze 6 (sRet (eCB rdTuple (eCons (eComp false (iZipD (eCons (eVar 6) (eCons (eSl (rdSl false) (eVar 6) (ePart (eC (.int 1))) (eNoPart)) (eNil)))) (CT.tup [7, 9]).d (eYes) (eOp rdSub (eVar 9) (eVar 7)) [7, 9]) (eNil))))))))
def t_find_way : TSd := sSeq (sAsg (eCall sp_least_steps [] (eCons (eVar 2) (eCons (eVar 3) (eNil)))) (gVar 4)) (sSeq (sIf (eTest (eOp rdIsN (eVar 4) (eC .non))) (sRet (eC .non)) (sNext)) (sSeq (sIf (eTest (eOp rdGt (eVar 4) (eC (.int 500)))) (sNever) (sNext)) (sRet (eTup (eCons (eVar 2) (eStar (eComp false (iRange2 (eCons (eC (.int 1)) (eCons (eOp (rdAdd false) (eVar 4) (eC (.int 1))) (eNil)))) (CT.name 5).d (eYes) (eCall sp_part_way [] (eCons (eVar 2) (eCons (eVar 3) (eCons (eVar 5) (eCons (eVar 4) (eNil)))))) [5]) (eNil)))))))
def t_is_step : TSd := sSeq (sAsg (eCall sp_least_steps [] (eCons (eVar 0) (eCons (eVar 1) (eNil)))) (gVar 2)) (sRet (eAndV (eOp rdNotN (eVar 2) (eC .non)) (eOp rdLe (eVar 2) (eC (.int 1)))))
def t_way_holds : TSd := sSeq (sIf (eOrT (eNotT (eTest (eCB rdIsi (eCons (eVar 4) (eCons (eC (.ty "tuple")) (eNil)))))) (eOrT (eTest (eOp rdEq (eVar 4) (eTup (eNil)))) (eNotT (eTest (eCB rdAll (eCons (eComp false (iSeq (eVar 4)) (CT.name 5).d (eYes) (eCall sp_fits [] (eCons (eVar 0) (eCons (eVar 1) (eCons (eVar 5) (eNil))))) [5]) (eNil))))))) (sRet (eC (.bl false))) (sNext)) (sSeq (sIf (eOrT (eTest (eOp rdNe (eOp rdIx (eVar 4) (eC (.int 0))) (eVar 2))) (eTest (eOp rdNe (eOp rdIx (eVar 4) (eUn rdNeg (eC (.int 1)))) (eVar 3)))) (sRet (eC (.bl false))) (sNext)) (sRet (eCB rdAll (eCons (eComp false (iZipD (eCons (eVar 4) (eCons (eSl (rdSl false) (eVar 4) (ePart (eC (.int 1))) (eNoPart)) (eNil)))) (CT.tup [7, 6]).d (eYes) (eCall sp_is_step [] (eCons (eVar 7) (eCons (eVar 6) (eNil)))) [7, 6]) (eNil)))))
end RW1

/-! PSr: the readings of steps.py keep their promises. -/
namespace RW1
open PySem PySem.Spec L2 DL
local macro_rules | `(tactic| walk_at "w") => `(tactic| conv => whnf)
theorem ps_append : ∀ (s : Int) (l : List Int) (x : Int), ps s (l ++ [x]) = ps s l ++ [s + l.sum + x]
  | s, [], x => by simp [ps]
  | s, y :: r, x => by
    rw [List.cons_append, ps, ps, ps_append (s + y) r x, List.sum_cons, List.cons_append]
    congr 3
    omega
theorem ps_last : ∀ (s : Int) (l : List Int), (ps s l).getLast? = some (s + l.sum)
  | s, [] => by simp [ps]
  | s, y :: r => by
    rw [ps, List.getLast?_cons, ps_last (s + y) r, List.sum_cons]
    simp
    omega
theorem asInts_map : ∀ l : List Int, asInts (l.map D.int) = some l := fun l => by
  have := asInts_mapF (α := Int) id l
  simpa using this
theorem asTL_ref {M : MS} {a : Addr} {l : List D} (h : M a = some (.lst l)) : asTL M (.ref a) = some l := by unfold asTL; simp only [h]
theorem asSeq_ref {M : MS} {a : Addr} {l : List D} (h : M a = some (.lst l)) : asSeq M (.ref a) = some l := by unfold asSeq; simp only [h]
theorem atI_zero {α : Type} (x : α) (l : List α) : atI (x :: l) 0 = some x := by
  have := atI_nat (x :: l) 0
  simpa using this
theorem eqD_ok {a b : D} {C : Prop} (n : Nat) (hx : a.flat n = true) (hy : b.flat n = true) (q : C) (hn : n ≤ 64 := by decide) : a.plain = true ∧ b.plain = true ∧ SeqAt.shaped a.pd = true ∧ SeqAt.shaped b.pd = true ∧ C := by
  obtain ⟨a1, a2, a3⟩ := flat_ok hx
  obtain ⟨b1, b2, b3⟩ := flat_ok hy
  exact ⟨a1, b1, by simp [SeqAt.shaped, a2]; omega, by simp [SeqAt.shaped, b2]; omega, q⟩
theorem iteB {c : Bool} {A B : Prop} (h1 : c = true → A) (h2 : c = false → B) : if c = true then A else B := by
  cases c
  · exact h2 rfl
  · exact h1 rfl
theorem asInts_pair (l : List (Int × Int)) (f : Int × Int → Int) : asInts (l.map fun p => D.int (f p)) = some (l.map f) := asInts_mapF f l
theorem rd_running_sums : ∀ ds M Q E, sp_running_sums ds M Q E → t_running_sums (bodyD Q E) (startD 3 ds) M := by
  rintro ds M0 Q E ⟨fl, rfl, hl, hQ⟩
  unfold t_running_sums
  walk_at "w"
  refine ⟨by decide, fun a ha => ?_⟩
  walk_at "w"
  refine ⟨_, rfl, ?_⟩
  refine for_inv fl D.int (fun pre ds' M' => ∃ o, ds' = [some (intsD fl), some (D.ref a), o] ∧ M' = updM M0 a (.lst ((ps 0 pre).map D.int))) ⟨none, rfl, rfl⟩ ?_ ?_
  · rintro pre x post e _ _ ⟨o, rfl, rfl⟩ K hK
    have hl' : pre.length < fl.length := by rw [e]; simp
    walk_at "w"
    refine ⟨⟨_, asTL_ref updM_same⟩, ?_⟩
    walk_at "w"
    refine ⟨_, asSeq_ref updM_same, .int pre.sum, ?_, ?_⟩
    · rw [show -(1 : Int) = -1 from rfl, atI_m1, List.getLast?_map, ps_last]; simp
    walk_at "w"
    refine ⟨_, updM_same, sizeKlt (by rw [List.length_map, ps_len]; omega), hK _ _ ⟨_, rfl, ?_⟩⟩
    rw [updM_upd, ps_append]
    simp
  · rintro _ _ ⟨o, rfl, rfl⟩
    walk_at "w"
    refine ⟨a, _, rfl, updM_same, ?_⟩
    walk_at "w"
    rw [dropM_upd ha]
    exact hQ
theorem map_dropLast (l : List Int) : (l.map D.int).dropLast = l.dropLast.map D.int := by
  rw [List.dropLast_eq_take, List.dropLast_eq_take, List.map_take, List.length_map]
theorem rd_shifts : ∀ ds M Q E, sp_shifts ds M Q E → t_shifts (bodyD Q E) (startD 4 ds) M := by
  rintro ds M0 Q E ⟨a, b, rfl, ha, hb, hQ⟩
  unfold t_shifts
  walk_at "w"
  refine ⟨a, rfl, ha, ?_⟩
  walk_at "w"
  refine ⟨_, rfl, ?_⟩
  walk_at "w"
  refine ⟨b, rfl, hb, ?_⟩
  walk_at "w"
  refine ⟨_, rfl, ?_⟩
  walk_at "w"
  rw [cutD_m1, cutD_m1, map_dropLast, map_dropLast, pairsD_map]
  refine DL.comp_map _ _ (fun p => .int (p.2 - p.1)) [] (sizeK ?_) (fun p _ Q' q' => ?_) ?_
  · simp [ps_len]; omega
  · walk_at "w"
    refine ⟨_, rfl, rfl, ?_⟩
    walk_at "w"
    exact q'
  · show Q (.lst _) M0
    unfold shf intsL at hQ
    rw [List.map_map] at hQ
    exact hQ
theorem shf_len (a b : List Int) : (shf a b).length = min a.length b.length := by
  unfold shf
  simp [ps_len]
theorem shf_ne {a b : List Int} (ha : 0 < a.length) (hb : 0 < b.length) : shf a b ≠ [] := by
  intro h
  have := shf_len a b
  rw [h] at this
  simp at this
  omega
theorem rd_least_steps : ∀ ds M Q E, sp_least_steps ds M Q E → t_least_steps (bodyD Q E) (startD 3 ds) M := by
  rintro ds M0 Q E ⟨a, b, rfl, ha, ha', hb, hb', hQ⟩
  unfold t_least_steps
  walk_at "w"
  refine ⟨_, rfl, _, asInts_map a, ?_⟩
  walk_at "w"
  refine ⟨_, rfl, _, asInts_map b, ?_⟩
  refine rdNe_of 1 rfl rfl ?_
  walk_at "w"
  refine iteB (fun h => ?_) (fun h => ?_)
  · rw [show asData M0 (D.int a.sum) = D.int a.sum from rfl, show asData M0 (D.int b.sum) = D.int b.sum from rfl, eqv_int] at h
    rw [if_neg (by simpa using h)] at hQ
    exact hQ
  · rw [show asData M0 (D.int a.sum) = D.int a.sum from rfl, show asData M0 (D.int b.sum) = D.int b.sum from rfl, eqv_int] at h
    rw [if_pos (by simpa using h)] at hQ
    walk_at "w"
    refine ⟨a, b, rfl, ha', hb', ?_⟩
    walk_at "w"
    refine ⟨_, rfl, _, asInts_map _, shf_ne ha hb, ?_⟩
    walk_at "w"
    refine ⟨_, rfl, _, asInts_map _, shf_ne ha hb, ?_⟩
    walk_at "w"
    exact ⟨⟨by decide, by decide⟩, hQ⟩
theorem log2_small {m : Int} (h : 0 < m) (h' : m < 2 ^ 60) : m.natAbs.log2 < 9000 :=
  Nat.lt_of_lt_of_le ((Nat.log2_lt (by omega : m.natAbs ≠ 0)).mpr (by omega : m.natAbs < 2 ^ 60)) (by decide)
theorem rd_part_way : ∀ ds M Q E, sp_part_way ds M Q E → t_part_way (bodyD Q E) (startD 10 ds) M := by
  rintro ds M0 Q E ⟨a, b, k, m, rfl, ha, ha', hb, hb', hk, hk', hm, hm', hQ⟩
  unfold t_part_way
  walk_at "w"
  refine ⟨a, b, rfl, ha', hb', ?_⟩
  walk_at "w"
  refine ⟨_, rfl, _, asInts_map _, shf_ne ha hb, ?_⟩
  walk_at "w"
  refine ⟨by decide, fun r hr => ?_⟩
  walk_at "w"
  refine ⟨a, rfl, ha', ?_⟩
  walk_at "w"
  refine ⟨_, rfl, ?_⟩
  walk_at "w"
  obtain ⟨x0, xs, hx⟩ := List.exists_cons_of_ne_nil (shf_ne ha hb)
  refine ⟨_, rfl, .int x0, by rw [hx]; exact atI_zero _ _, ?_⟩
  walk_at "w"
  refine ⟨sizeK (by simp [shf_len]; omega), ?_⟩
  walk_at "w"
  rw [show (List.map D.int (shf a b) ++ [D.int x0]) = (shf a b ++ [x0]).map D.int by simp, pairsD_map]
  have hx0 : (shf a b).headD 0 = x0 := by rw [hx]; rfl
  unfold pway at hQ
  rw [hx0] at hQ
  have hz : ((ps 0 a).zip (shf a b ++ [x0])).length < 2000 := by rw [List.length_zip, ps_len]; omega
  generalize (ps 0 a).zip (shf a b ++ [x0]) = zs at hQ hz ⊢
  generalize lmin (shf a b) = low at hQ ⊢
  refine for_inv zs (fun p => D.tup [.int p.1, .int p.2]) (fun pre ds' M' => ∃ o7 o8 o9, ds' = [some (intsD a), some (intsD b), some (D.int k), some (D.int m), some (intsL (shf a b)), some (D.int (low + m)), some (D.ref r), o7, o8, o9] ∧
    M' = updM M0 r (.lst ((pre.map fun p => (m * p.1 + k * (p.2 - (low + m))) / m).map D.int))) ⟨none, none, none, rfl, rfl⟩ ?_ ?_
  · rintro pre ⟨u, v⟩ post e _ _ ⟨o7, o8, o9, rfl, rfl⟩ K hK
    walk_at "w"
    refine ⟨_, rfl, rfl, ?_⟩
    walk_at "w"
    refine ⟨⟨_, asTL_ref updM_same⟩, ?_⟩
    walk_at "w"
    refine ⟨.inl (.inl ⟨by omega, by omega⟩), ?_⟩
    walk_at "w"
    refine ⟨.inl (.inl ⟨by omega, by omega⟩), ?_⟩
    walk_at "w"
    refine ⟨⟨hm, log2_small hm hm'⟩, ?_⟩
    walk_at "w"
    refine ⟨_, updM_same, sizeKlt ?_, hK _ _ ⟨_, _, _, rfl, ?_⟩⟩
    · rw [List.length_map, List.length_map]
      have := congrArg List.length e
      rw [List.length_append, List.length_cons] at this
      omega
    · rw [updM_upd, List.map_append, List.map_append]
      rfl
  · rintro _ _ ⟨o7, o8, o9, rfl, rfl⟩
    walk_at "w"
    refine ⟨r, _, rfl, updM_same, ?_⟩
    rw [dropM_upd hr]
    generalize hws : zs.map (fun p => (m * p.1 + k * (p.2 - (low + m))) / m) = ws at hQ ⊢
    replace hws := hws.symm
    have hw : ws.length < 2000 := by rw [hws, List.length_map]; exact hz
    walk_at "w"
    refine ⟨_, rfl, ?_⟩
    walk_at "w"
    rw [cutD_from1, ← List.map_drop, pairsD_map]
    refine DL.comp_map _ _ (fun p => .int (p.2 - p.1)) [] (sizeK ?_) (fun p _ Q' q' => ?_) ?_
    · rw [List.length_zip]; simp; omega
    · walk_at "w"
      refine ⟨_, rfl, rfl, ?_⟩
      walk_at "w"
      exact q'
    · walk_at "w"
      refine ⟨_, rfl, ?_⟩
      unfold intsD dif at hQ
      rw [List.map_map] at hQ
      exact hQ
theorem rd_find_way : ∀ ds M Q E, sp_find_way ds M Q E → t_find_way (bodyD Q E) (startD 6 ds) M := by
  rintro ds M0 Q E ⟨d1, d2, a, b, rfl, ha, ha', hb, hb', hs, h0, h5, hQ⟩
  unfold t_find_way
  walk_at "w"
  refine ⟨a, b, rfl, ha, ha', hb, hb', ?_⟩
  rw [if_pos hs]
  walk_at "w"
  refine iteB (fun h => ?_) (fun _ => ?_)
  · simp at h; omega
  walk_at "w"
  refine ⟨⟨by omega, by omega, by omega, by omega⟩, ?_⟩
  walk_at "w"
  rw [show rangeD 1 (lst a b + 1 - 1).toNat = (List.range (lst a b).toNat).map fun i => D.int (1 + (i : Nat)) by rw [Int.add_sub_cancel]; rfl]
  refine DL.comp_map (List.range (lst a b).toNat) _ (fun i => intsD (pway a b (1 + (i : Nat)) (lst a b))) [] (sizeK (by simp; omega)) (fun i hi Q' q' => ?_) ?_
  · have hi' := List.mem_range.mp hi
    walk_at "w"
    exact ⟨a, b, 1 + (i : Nat), lst a b, rfl, ha, ha', hb, hb', by omega, by omega, by omega, by omega, q'⟩
  · walk_at "w"
    refine ⟨_, rfl, ?_⟩
    walk_at "w"
    refine ⟨sizeK (by simp; omega), ?_⟩
    rw [List.map_cons, List.map_map] at hQ
    rw [List.nil_append, List.append_nil]
    exact hQ
theorem rd_is_step : ∀ ds M Q E, sp_is_step ds M Q E → t_is_step (bodyD Q E) (startD 3 ds) M := by
  rintro ds M0 Q E ⟨a, b, rfl, ha, ha', hb, hb', hQ⟩
  unfold t_is_step
  walk_at "w"
  refine ⟨a, b, rfl, ha, ha', hb, hb', ?_⟩
  unfold isst at hQ
  by_cases hs : a.sum = b.sum
  · rw [if_pos hs]
    rw [decide_eq_true hs, Bool.true_and] at hQ
    walk_at "w"
    exact hQ
  · rw [if_neg hs]
    rw [decide_eq_false hs, Bool.false_and] at hQ
    walk_at "w"
    exact hQ
theorem flat_intss (n : Nat) (w : List (List Int)) : (D.tup (w.map intsD)).flat (n + 2) = true := by
  rw [D.flat, flats_all, List.all_map, List.all_eq_true]
  intro x _
  exact flat_ints n x
theorem rd_way_holds : ∀ ds M Q E, sp_way_holds ds M Q E → t_way_holds (bodyD Q E) (startD 8 ds) M := by
  rintro ds M0 Q E ⟨n, rs, a, b, w, rfl, hn, hr, hr', ha, hb, hw, hw', hf, hQ⟩
  unfold t_way_holds
  walk_at "w"
  refine ⟨_, rfl, by decide, ?_⟩
  walk_at "w"
  refine ⟨by decide, ?_⟩
  walk_at "w"
  refine eqD_ok 2 (flat_intss 0 w) rfl ?_
  rw [show PyData.eqv (asData M0 (D.tup (w.map intsD))).pd (asData M0 (D.tup [])).pd = _ from eqv_tup_nil _, show (w.map intsD).isEmpty = false by cases w <;> simp at hw ⊢]
  walk_at "w"
  refine ⟨_, rfl, ?_⟩
  walk_at "w"
  refine DL.comp_map w intsD (fun f => .bl (decide (Fits n rs f))) [] (sizeK (by simp; omega)) (fun f hfw Q' q' => ?_) ?_
  · walk_at "w"
    exact ⟨n, rs, f, rfl, hn, (hf f hfw).2, hr, hr', q'⟩
  walk_at "w"
  refine ⟨_, rfl, _, asBls_mapF _ _, ?_⟩
  have hall : ((w.map fun f => decide (Fits n rs f)).all id) = w.all fun f => decide (Fits n rs f) := by rw [List.all_map]; rfl
  rw [hall]
  unfold wayOk at hQ
  walk_at "w"
  refine iteB (fun h => ?_) (fun h => ?_)
  · walk_at "w"
    rw [show (w.all fun f => decide (Fits n rs f)) = false by simpa using h, Bool.false_and] at hQ
    exact hQ
  rw [show (w.all fun f => decide (Fits n rs f)) = true by simpa using h, Bool.true_and] at hQ
  clear h hall
  obtain ⟨f0, w', rfl⟩ := List.exists_cons_of_ne_nil hw
  obtain ⟨fl, hfl⟩ : ∃ fl, (f0 :: w').getLast? = some fl := ⟨_, List.getLast?_eq_some_getLast (by simp)⟩
  walk_at "w"
  refine ⟨_, rfl, intsD f0, atI_zero _ _, ?_⟩
  refine eqD_ok 1 (flat_ints 0 f0) (flat_ints 0 a) ?_
  rw [show PyData.eqv (asData M0 (intsD f0)).pd (asData M0 (intsD a)).pd = _ from eqv_ints f0 a]
  walk_at "w"
  refine iteB (fun h => ?_) (fun h => ?_)
  · walk_at "w"
    rw [List.head?_cons, decide_eq_false (by simpa using h), Bool.false_and] at hQ
    exact hQ
  rw [List.head?_cons, decide_eq_true (by simpa using h), Bool.true_and] at hQ
  walk_at "w"
  refine ⟨_, rfl, intsD fl, by rw [atI_m1, List.getLast?_map, hfl]; rfl, ?_⟩
  refine eqD_ok 1 (flat_ints 0 fl) (flat_ints 0 b) ?_
  rw [show PyData.eqv (asData M0 (intsD fl)).pd (asData M0 (intsD b)).pd = _ from eqv_ints fl b]
  walk_at "w"
  rw [hfl] at hQ
  refine iteB (fun h => ?_) (fun h => ?_)
  · walk_at "w"
    rw [decide_eq_false (by simpa using h), Bool.false_and] at hQ
    exact hQ
  rw [decide_eq_true (by simpa using h), Bool.true_and] at hQ
  walk_at "w"
  rw [cutD_from1, ← List.map_drop, pairsD_map]
  refine DL.comp_map _ _ (fun p => .bl (isst p.1 p.2)) [] (sizeK ?_) (fun p hp Q' q' => ?_) ?_
  · rw [List.length_zip]; simp at hw' ⊢; omega
  · walk_at "w"
    refine ⟨_, rfl, rfl, ?_⟩
    walk_at "w"
    have h1 := hf p.1 (List.of_mem_zip hp).1
    have h2 := hf p.2 (List.mem_of_mem_drop (List.of_mem_zip hp).2)
    exact ⟨p.1, p.2, rfl, h1.1, h1.2, h2.1, h2.2, q'⟩
  · walk_at "w"
    refine ⟨_, rfl, _, asBls_mapF _ _, ?_⟩
    rw [List.all_map]
    exact hQ
end RW1

/-! MX: running sums, windows, mixtures of fillings, steps. Plain mathematics. -/
namespace RW1
open PySem PySem.Spec L2 DL
theorem lmax_ge : ∀ {l : List Int} {x : Int}, x ∈ l → x ≤ lmax l
  | [], _, h => by simp at h
  | [a], x, h => by simp at h; subst h; exact Int.le_refl _
  | a :: b :: r, x, h => by
    rw [lmax]
    rcases List.mem_cons.mp h with h | h
    · subst h; omega
    · have := lmax_ge h; omega
theorem lmin_le : ∀ {l : List Int} {x : Int}, x ∈ l → lmin l ≤ x
  | [], _, h => by simp at h
  | [a], x, h => by simp at h; subst h; exact Int.le_refl _
  | a :: b :: r, x, h => by
    rw [lmin]
    rcases List.mem_cons.mp h with h | h
    · subst h; omega
    · have := lmin_le h; omega
theorem lmax_mem : ∀ {l : List Int}, l ≠ [] → lmax l ∈ l
  | [], h => absurd rfl h
  | [a], _ => List.mem_singleton.mpr rfl
  | a :: b :: r, _ => by
    rw [lmax]
    have := lmax_mem (l := b :: r) (by simp)
    by_cases h : a ≤ lmax (b :: r)
    · rw [show max a (lmax (b :: r)) = lmax (b :: r) by omega]; exact List.mem_cons_of_mem _ this
    · rw [show max a (lmax (b :: r)) = a by omega]; exact List.mem_cons_self
theorem lmin_mem : ∀ {l : List Int}, l ≠ [] → lmin l ∈ l
  | [], h => absurd rfl h
  | [a], _ => List.mem_singleton.mpr rfl
  | a :: b :: r, _ => by
    rw [lmin]
    have := lmin_mem (l := b :: r) (by simp)
    by_cases h : a ≤ lmin (b :: r)
    · rw [show min a (lmin (b :: r)) = a by omega]; exact List.mem_cons_self
    · rw [show min a (lmin (b :: r)) = lmin (b :: r) by omega]; exact List.mem_cons_of_mem _ this

/-! ### running sums -/
def pk (x : List Int) (i : Nat) : Int := (x.take i).sum
theorem pk_zero (x : List Int) : pk x 0 = 0 := by simp [pk]
theorem pk_all {x : List Int} {n : Nat} (h : x.length ≤ n) : pk x n = x.sum := by unfold pk; rw [List.take_of_length_le h]
theorem pk_succ {x : List Int} {i : Nat} (h : i < x.length) : pk x (i + 1) = pk x i + x.getD i 0 := by
  unfold pk
  rw [List.take_add_one, List.sum_append, List.getElem?_eq_getElem h, List.getD_eq_getElem?_getD, List.getElem?_eq_getElem h]
  simp
theorem ps_get : ∀ (s : Int) (x : List Int) (i : Nat), i ≤ x.length → (ps s x)[i]? = some (s + pk x i)
  | s, [], i, h => by
    have : i = 0 := by simpa using h
    subst this; simp [ps, pk]
  | s, y :: r, 0, _ => by simp [ps, pk]
  | s, y :: r, i + 1, h => by
    rw [ps, List.getElem?_cons_succ, ps_get (s + y) r i (by simpa using h)]
    unfold pk
    rw [List.take_succ_cons, List.sum_cons]
    congr 1
    omega
theorem wsum_succ (x : List Int) (f s : Nat) : wsum x f (s + 1) = wsum x f s + x.getD ((f + s) % x.length) 0 := by
  unfold wsum
  rw [List.range_succ, List.map_append, List.sum_append]
  simp
theorem wsum_pk (x : List Int) (f : Nat) (hf : f < x.length) : ∀ s, s ≤ x.length → wsum x f s = pk x ((f + s) % x.length) - pk x f + (if x.length ≤ f + s then x.sum else 0)
  | 0, _ => by
    rw [Nat.add_zero, Nat.mod_eq_of_lt hf, if_neg (by omega)]
    simp [wsum]
  | s + 1, h => by
    rw [wsum_succ, wsum_pk x f hf s (by omega)]
    by_cases h1 : f + s < x.length
    · rw [Nat.mod_eq_of_lt h1, if_neg (by omega)]
      have := pk_succ h1
      by_cases h2 : f + s + 1 < x.length
      · rw [show f + (s + 1) = f + s + 1 by omega, Nat.mod_eq_of_lt h2, if_neg (by omega)]
        omega
      · have e : f + s + 1 = x.length := by omega
        rw [show f + (s + 1) = x.length by omega, Nat.mod_self, if_pos (Nat.le_refl _), pk_zero]
        rw [e, pk_all (Nat.le_refl _)] at this
        omega
    · have e1 : (f + s) % x.length = f + s - x.length := by rw [Nat.mod_eq_sub_mod (by omega), Nat.mod_eq_of_lt (by omega)]
      have e2 : (f + (s + 1)) % x.length = f + s - x.length + 1 := by rw [Nat.mod_eq_sub_mod (by omega), Nat.mod_eq_of_lt (by omega)]; omega
      rw [e1, e2, if_pos (by omega), if_pos (by omega), pk_succ (by omega)]
      omega
theorem getD_wsum (x : List Int) (i : Nat) (h : i < x.length) : x.getD i 0 = pk x (i + 1) - pk x i := by rw [pk_succ h]; omega
def RlIn (n : Nat) (r : Rl) : Prop := r.f < n ∧ 0 < r.s ∧ r.s ≤ n
/-- a mixture of two fillings fits -/
theorem fits_mix {n : Nat} {rs : List Rl} {x y z : List Int} {t : Int} (hx : Fits n rs x) (hy : Fits n rs y) (sx : x.sum = t) (sy : y.sum = t) (hz : z.length = n) (sz : z.sum = t) (hr : ∀ r ∈ rs, RlIn n r)
    (mix : ∀ i j : Nat, i < n → j < n → ∀ c : Int, pk x i - pk x j ≤ c → pk y i - pk y j ≤ c → pk z i - pk z j ≤ c) : Fits n rs z := by
  obtain ⟨lx, nx, rx⟩ := hx
  obtain ⟨ly, ny, ry⟩ := hy
  have nn : ∀ {w : List Int}, (∀ v ∈ w, 0 ≤ v) → ∀ i, i < w.length → pk w i ≤ pk w (i + 1) := fun {w} h i hi => by
    rw [pk_succ hi, List.getD_eq_getElem?_getD, List.getElem?_eq_getElem hi]
    have := h _ (List.getElem_mem hi)
    simp only [Option.getD_some]; omega
  refine ⟨hz, fun v hv => ?_, fun r hrr => ?_⟩
  · obtain ⟨i, hi, rfl⟩ := List.mem_iff_getElem.mp hv
    have e : z[i] = pk z (i + 1) - pk z i := by
      rw [← getD_wsum z i hi, List.getD_eq_getElem?_getD, List.getElem?_eq_getElem hi]; rfl
    rw [e]
    by_cases h : i + 1 < n
    · have := mix i (i + 1) (by omega) h 0 (by have := nn nx i (by omega); omega) (by have := nn ny i (by omega); omega)
      omega
    · have h1 : i + 1 = n := by omega
      have := mix i 0 (by omega) (by omega) t (by rw [pk_zero]; have := nn nx i (by omega); rw [h1, pk_all (Nat.le_of_eq lx), sx] at this; omega) (by rw [pk_zero]; have := nn ny i (by omega); rw [h1, pk_all (Nat.le_of_eq ly), sy] at this; omega)
      rw [pk_zero] at this
      rw [h1, pk_all (Nat.le_of_eq hz), sz]
      omega
  · obtain ⟨h1, h2, h3⟩ := hr r hrr
    obtain ⟨xl, xm⟩ := rx r hrr
    obtain ⟨yl, ym⟩ := ry r hrr
    have wx := wsum_pk x r.f (by omega) r.s (by omega)
    have wy := wsum_pk y r.f (by omega) r.s (by omega)
    have wz := wsum_pk z r.f (by omega) r.s (by omega)
    rw [lx, sx] at wx
    rw [ly, sy] at wy
    rw [hz, sz] at wz
    have he : (r.f + r.s) % n < n := Nat.mod_lt _ (by omega)
    generalize (r.f + r.s) % n = e at wx wy wz he
    generalize (if n ≤ r.f + r.s then t else 0) = lap at wx wy wz
    refine ⟨?_, fun m hm => ?_⟩
    · have := mix r.f e h1 he (lap - r.l) (by omega) (by omega)
      omega
    · have g1 := xm m hm
      have g2 := ym m hm
      have := mix e r.f he h1 (m - lap) (by omega) (by omega)
      omega
/-! ### differences -/
theorem dif_len (l : List Int) : (dif l).length = l.length - 1 := by unfold dif; simp
theorem dif_cons (a b : Int) (r : List Int) : dif (a :: b :: r) = (b - a) :: dif (b :: r) := by simp [dif]
theorem pk_dif : ∀ (l : List Int) (i : Nat) (h : i < l.length), pk (dif l) i = l[i] - l[0]'(by omega)
  | [], _, h => by simp at h
  | [a], i, h => by
    have : i = 0 := by simpa using h
    subst this; simp [pk]
  | a :: b :: r, 0, _ => by simp [pk]
  | a :: b :: r, i + 1, h => by
    have ih := pk_dif (b :: r) i (by simpa using h)
    rw [dif_cons]
    unfold pk at ih ⊢
    rw [List.take_succ_cons, List.sum_cons, ih]
    simp only [List.getElem_cons_succ, List.getElem_cons_zero]
    omega
theorem dif_sum (l : List Int) (h : 0 < l.length) : (dif l).sum = l[l.length - 1] - l[0] := by
  rw [← pk_all (x := dif l) (n := l.length - 1) (by rw [dif_len]; omega), pk_dif l (l.length - 1) (by omega)]
theorem pk_ext {x y : List Int} (hl : x.length = y.length) (hs : x.sum = y.sum) (h : ∀ i, i < x.length → pk x i = pk y i) : x = y := by
  refine List.ext_getElem hl fun i h1 h2 => ?_
  have e : ∀ (w : List Int) (hw : i < w.length), w[i] = pk w (i + 1) - pk w i := fun w hw => by
    rw [← getD_wsum w i hw, List.getD_eq_getElem?_getD, List.getElem?_eq_getElem hw]; rfl
  rw [e x h1, e y h2, h i h1]
  by_cases hh : i + 1 < x.length
  · rw [h _ hh]
  · rw [pk_all (x := x) (n := i + 1) (by omega), pk_all (x := y) (n := i + 1) (by omega), hs]
/-! ### steps -/
theorem shf_get {a b : List Int} {i : Nat} (ha : i < a.length) (hb : i < b.length) : (shf a b)[i]? = some (pk b i - pk a i) := by
  unfold shf
  have g : ∀ (x : List Int), i < x.length → (ps 0 x).dropLast[i]? = some (pk x i) := fun x hx => by
    rw [List.dropLast_eq_take, List.getElem?_take_of_lt (by rw [ps_len]; omega), ps_get 0 x i (by omega), Int.zero_add]
  rw [List.getElem?_map, List.zip_eq_zipWith, List.getElem?_zipWith, g a ha, g b hb]
  rfl
theorem shf_mem {a b : List Int} (hl : a.length = b.length) {v : Int} (h : v ∈ shf a b) : ∃ i, i < a.length ∧ v = pk b i - pk a i := by
  obtain ⟨i, hi, rfl⟩ := List.mem_iff_getElem.mp h
  rw [shf_len] at hi
  have := shf_get (a := a) (b := b) (i := i) (by omega) (by omega)
  rw [List.getElem?_eq_getElem (by rw [shf_len]; omega)] at this
  exact ⟨i, by omega, Option.some.inj this⟩
theorem mem_shf {a b : List Int} {i : Nat} (ha : i < a.length) (hb : i < b.length) : pk b i - pk a i ∈ shf a b := List.mem_of_getElem? (shf_get ha hb)
/-- as many steps as half the spread -/
theorem lst_le {a b : List Int} (hl : a.length = b.length) (h0 : 0 < a.length) (k : Int) : lst a b ≤ k ↔ ∀ i j : Nat, i < a.length → j < a.length → (pk b i - pk a i) - (pk b j - pk a j) ≤ 2 * k := by
  have hne := shf_ne h0 (hl ▸ h0)
  unfold lst
  constructor
  · intro h i j hi hj
    have h1 := lmax_ge (mem_shf hi (hl ▸ hi))
    have h2 := lmin_le (mem_shf hj (hl ▸ hj))
    omega
  · intro h
    obtain ⟨i, hi, e1⟩ := shf_mem hl (lmax_mem hne)
    obtain ⟨j, hj, e2⟩ := shf_mem hl (lmin_mem hne)
    have := h i j hi hj
    omega
theorem lst_nn {a b : List Int} (hl : a.length = b.length) (h0 : 0 < a.length) : 0 ≤ lst a b := by
  have := (lst_le hl h0 (lst a b)).mp (Int.le_refl _) 0 0 h0 h0
  omega
theorem lst_zero {a b : List Int} (hl : a.length = b.length) (h0 : 0 < a.length) (hs : a.sum = b.sum) (h : lst a b ≤ 0) : a = b := by
  refine pk_ext hl hs fun i hi => ?_
  have h1 := (lst_le hl h0 0).mp h i 0 hi h0
  have h2 := (lst_le hl h0 0).mp h 0 i h0 hi
  simp only [pk_zero] at h1 h2
  omega
theorem lst_self {a : List Int} (h0 : 0 < a.length) : lst a a = 0 := by
  have := (lst_le rfl h0 0).mpr fun i j _ _ => by omega
  have := lst_nn rfl h0
  omega
theorem lst_tri {a b c : List Int} (h1 : a.length = b.length) (h2 : b.length = c.length) (h0 : 0 < a.length) {k m : Int} (g1 : lst a b ≤ k) (g2 : lst b c ≤ m) : lst a c ≤ k + m := by
  refine (lst_le (h1.trans h2) h0 _).mpr fun i j hi hj => ?_
  have e1 := (lst_le h1 h0 k).mp g1 i j hi hj
  have e2 := (lst_le h2 (h1 ▸ h0) m).mp g2 i j (h1 ▸ hi) (h1 ▸ hj)
  omega
end RW1

/-! P31: promises of the law k31's own defs. -/
namespace RW1
open PySem PySem.Spec L2 DL
/-- the deck of draws: cells not negative, the number of draws at most n -/
def Deck (M : MS) (a b : Addr) (n : Nat) : Prop := a ≠ b ∧ ∃ (cs : List Int) (k : Nat), M a = some (.lst [.ref b, .int k]) ∧ M b = some (.lst (cs.map D.int)) ∧ (∀ x ∈ cs, 0 ≤ x) ∧ cs.length < 100 ∧ k ≤ n
def Same2 (M M' : MS) (a b : Addr) : Prop := ∀ c, c ≠ a → c ≠ b → M' c = M c
theorem Same2.refl (M : MS) (a b : Addr) : Same2 M M a b := fun _ _ _ => rfl
theorem Same2.trans {M M' M'' : MS} {a b : Addr} (h : Same2 M M' a b) (g : Same2 M' M'' a b) : Same2 M M'' a b := fun c x y => (g c x y).trans (h c x y)
theorem Deck.mono {M : MS} {a b : Addr} {n m : Nat} (h : Deck M a b n) (l : n ≤ m) : Deck M a b m := by
  obtain ⟨h1, cs, k, h2, h3, h4, h5, h6⟩ := h
  exact ⟨h1, cs, k, h2, h3, h4, h5, by omega⟩
def sp__law_deck : SpD := fun ds M Q _ => ∃ ns : List Int, ds = [.scr (ns.map D.int)] ∧ ns.length < 100 ∧ ∀ a b M', M a = none → M b = none → Deck M' a b 0 → Same2 M M' a b → Q (.ref a) M'
theorem len__law_deck : ∀ ds M Q E, sp__law_deck ds M Q E → ds.length = 1 := by rintro _ _ _ _ ⟨n, rfl, _⟩; rfl
def sp__law_draw : SpD := fun ds M Q _ => ∃ (a b : Addr) (m n : Nat), ds = [.ref a, .int m] ∧ 0 < m ∧ m < 2 ^ 60 ∧ n < 2 ^ 30 ∧ Deck M a b n ∧ ∀ (r : Nat) M', r < m → Deck M' a b (n + 1) → Same2 M M' a b → Q (.int r) M'
theorem len__law_draw : ∀ ds M Q E, sp__law_draw ds M Q E → ds.length = 2 := by rintro _ _ _ _ ⟨n, _, _, _, rfl, _⟩; rfl
def sp__law_sum : SpD := fun ds M Q _ => ∃ (fl : List Int) (f s : Nat), ds = [intsD fl, .int f, .int s] ∧ 0 < fl.length ∧ s < 1000 ∧ Q (.int (wsum fl f s)) M
theorem len__law_sum : ∀ ds M Q E, sp__law_sum ds M Q E → ds.length = 3 := by rintro _ _ _ _ ⟨n, _, _, rfl, _⟩; rfl
def RlsOk (n most : Nat) (x y : List Int) (rs : List Rl) : Prop := rs.length ≤ most ∧ ∀ r ∈ rs, r.f < n ∧ 0 < r.s ∧ r.s ≤ n ∧ rfits x r ∧ rfits y r
def sp__law_rules : SpD := fun ds M Q _ => ∃ (a b : Addr) (n most c : Nat) (x y : List Int), ds = [.ref a, .int n, .lst [intsD x, intsD y], .int most] ∧ 0 < n ∧ n < 100 ∧ most < 100 ∧ x.length = n ∧ y.length = n ∧ (∀ v ∈ x, 0 ≤ v) ∧ (∀ v ∈ y, 0 ≤ v) ∧
  x.sum = y.sum ∧ x.sum < 10 ^ 8 ∧ c < 2 ^ 20 ∧ Deck M a b c ∧ ∀ rs M', RlsOk n most x y rs → Deck M' a b (c + 1000) → Same2 M M' a b → Q (rulesD rs) M'
theorem len__law_rules : ∀ ds M Q E, sp__law_rules ds M Q E → ds.length = 4 := by rintro _ _ _ _ ⟨n, _, _, _, _, _, _, rfl, _⟩; rfl
def sp__law_fits : SpD := fun ds M Q _ => ∃ (n : Nat) (rs : List Rl) (fl : List Int), ds = [.int n, rulesD rs, intsD fl] ∧ 0 < n ∧ fl.length < 1000 ∧ (∀ r ∈ rs, r.s < 1000) ∧ Q (.bl (decide (Fits n rs fl))) M
theorem len__law_fits : ∀ ds M Q E, sp__law_fits ds M Q E → ds.length = 3 := by rintro _ _ _ _ ⟨n, _, _, rfl, _⟩; rfl
/-- all fillings with a total -/
def IsAll (n : Nat) (t : Int) (L : List (List Int)) : Prop := ∀ v : List Int, v ∈ L ↔ v.length = n ∧ (∀ x ∈ v, 0 ≤ x) ∧ v.sum = t
def sp__law_all : SpD := fun ds M Q _ => ∃ n t : Nat, ds = [.int n, .int t] ∧ 0 < n ∧ n ≤ 4 ∧ t < 5 ∧ ∀ L, IsAll n t L → L.length < 1000 → Q (.lst (L.map intsD)) M
theorem len__law_all : ∀ ds M Q E, sp__law_all ds M Q E → ds.length = 2 := by rintro _ _ _ _ ⟨n, _, rfl, _⟩; rfl
def IsFlows (n : Nat) (L : List (List Int)) : Prop := ∀ v : List Int, v ∈ L ↔ v.length = n ∧ (∀ x ∈ v, -1 ≤ x ∧ x ≤ 1)
def sp__law_flows : SpD := fun ds M Q _ => ∃ n : Nat, ds = [.int n] ∧ n ≤ 4 ∧ ∀ L, IsFlows n L → L.length < 1000 → Q (.lst (L.map intsD)) M
theorem len__law_flows : ∀ ds M Q E, sp__law_flows ds M Q E → ds.length = 1 := by rintro _ _ _ _ ⟨n, rfl, _⟩; rfl
def sent (f w : List Int) : List Int := (List.range f.length).map fun k => f.getD k 0 + w.getD k 0 - w.getD ((k + 1) % f.length) 0
def sp__law_sent : SpD := fun ds M Q _ => ∃ f w : List Int, ds = [intsD f, intsD w] ∧ 0 < f.length ∧ f.length < 1000 ∧ w.length = f.length ∧ Q (intsD (sent f w)) M
theorem len__law_sent : ∀ ds M Q E, sp__law_sent ds M Q E → ds.length = 2 := by rintro _ _ _ _ ⟨n, _, rfl, _⟩; rfl
def keyI (v : List Int) : List Key := v.map Sum.inl
/-- what the search must find: the fewest steps -/
def Found (one : List Int) (every : List (List Int)) (kvs : List (List Key × D)) : Prop := ∀ v ∈ every, valD kvs (keyI v) = some (.int (lst one v))
def Same1 (M M' : MS) : Prop := ∀ c, M c ≠ none → M' c = M c
def sp__law_reached : SpD := fun ds M Q _ => ∃ (n : Nat) (t : Int) (rs : List Rl) (one : List Int) (every : List (List Int)), ds = [intsD one, .lst (every.map intsD)] ∧ 0 < n ∧ n ≤ 4 ∧ one ∈ every ∧ (∀ v, v ∈ every ↔ Fits n rs v ∧ v.sum = t) ∧ every.length < 1000 ∧
  (∀ r ∈ rs, r.f < n ∧ 0 < r.s ∧ r.s ≤ n) ∧ ∀ d kvs M', M' d = some (.dT kvs) → M d = none → Same1 M M' → Found one every kvs → Q (.ref d) M'
theorem len__law_reached : ∀ ds M Q E, sp__law_reached ds M Q E → ds.length = 2 := by rintro _ _ _ _ ⟨n, _, _, _, _, rfl, _⟩; rfl
def sp_law : SpD := fun ds M Q _ => ∃ ns : List Int, ds = [.scr (ns.map D.int)] ∧ ns.length < 100 ∧ ∀ M', Q (.bl true) M'
theorem len_law : ∀ ds M Q E, sp_law ds M Q E → ds.length = 1 := by rintro _ _ _ _ ⟨n, rfl, _⟩; rfl
end RW1

namespace RW1
open PySem PySem.Spec L2 DL
def t__law_deck : TSd := sRet (eLst true (eCons (eComp true (iSeq (eSl (rdSl false) (eVar 0) (eNoPart) (ePart (eC (.int 60))))) (CT.name 1).d (eYes) (eCB rdAbs (eCons (eVar 1) (eNil))) [1]) (eCons (eC (.int 0)) (eNil))))
def t__law_draw : TSd := sSeq (sAsg (eOp (rdAdd false) (eOp rdIx (eVar 0) (eC (.int 1))) (eC (.int 1))) (gSubD (eVar 0) (eC (.int 1)))) (sSeq (sAsg (eOp rdMod (eOp rdIx (eVar 0) (eC (.int 1))) (eCB rdMax (eCons (eC (.int 1)) (eCons (eCB rdLen (eCons (eOp rdIx (eVar 0) (eC (.int 0))) (eNil))) (eNil))))) (gVar 2)) (sSeq (sAsg (eOp rdIx (eOp (rdAdd false) (eOp rdIx (eVar 0) (eC (.int 0))) (eLst false (eCons (eC (.int 0)) (eNil)))) (eVar 2)) (gVar 3)) (sSeq (sIf (eTest (eOp rdGe (eVar 3) (eOp rdPow (eC (.int 10)) (eC (.int 18))))) (sSeq (sAsg (eOp rdFdiv (eVar 3) (eVar 1)) (gSubD (eOp rdIx (eVar 0) (eC (.int 0))) (eVar 2))) (sRet (eOp rdMod (eVar 3) (eVar 1)))) (sNext)) (sSeq (sAsg (eOp rdMod (eOp rdPow (eOp (rdAdd false) (eOp (rdAdd false) (eOp rdMod (eVar 3) (eC (.int 2147483563))) (eOp (rdMul false) (eC (.int 104729)) (eOp rdIx (eVar 0) (eC (.int 1))))) (eC (.int 7))) (eC (.int 4))) (eC (.int 2147483629))) (gVar 4)) (sRet (eOp rdMod (eOp (rdAdd false) (eOp rdFdiv (eVar 4) (eC (.int 8))) (eOp (rdMul false) (eC (.int 31)) (eOp rdIx (eVar 0) (eC (.int 1))))) (eVar 1)))))))
def t__law_sum : TSd := sRet (eCB rdSum (eCons (eComp false (iRange1 (eCons (eVar 2) (eNil))) (CT.name 3).d (eYes) (eOp rdIx (eVar 0) (eOp rdMod (eOp (rdAdd false) (eVar 1) (eVar 3)) (eCB rdLen (eCons (eVar 0) (eNil))))) [3]) (eNil)))
def t__law_rules : TSd := sSeq (sAsg (eLst true (eNil)) (gVar 4)) (sSeq (sFor (iRange1 (eCons (eCall sp__law_draw [] (eCons (eVar 0) (eCons (eOp (rdAdd false) (eVar 3) (eC (.int 1))) (eNil)))) (eNil))) (gVar 5) (sSeq (sAsg (eTup (eCons (eCall sp__law_draw [] (eCons (eVar 0) (eCons (eVar 1) (eNil)))) (eCons (eOp (rdAdd false) (eC (.int 1)) (eCall sp__law_draw [] (eCons (eVar 0) (eCons (eVar 1) (eNil))))) (eCons (eOp rdIx (eLst false (eCons (eC (.int 0)) (eCons (eC (.int 0)) (eCons (eC (.int 1)) (eCons (eC (.int 50)) (eNil)))))) (eCall sp__law_draw [] (eCons (eVar 0) (eCons (eC (.int 4)) (eNil))))) (eNil))))) (gTupD 3 (gConsD (gVar 6) (gConsD (gVar 7) (gConsD (gVar 8) (gNilD)))))) (sSeq (sAsg (eComp false (iSeq (eVar 2)) (CT.name 10).d (eYes) (eCall sp__law_sum [] (eCons (eVar 10) (eCons (eVar 6) (eCons (eVar 7) (eNil))))) [10]) (gVar 9)) (sSeq (sPar 11 12 (eCons (eCB rdMin (eCons (eOp rdPow (eC (.int 10)) (eC (.int 9))) (eCons (eCB rdMax (eCons (eC (.int 0)) (eCons (eOp rdSub (eCB rdMin (eCons (eVar 9) (eNil))) (eVar 8)) (eNil)))) (eNil)))) (eCons (eOp (rdAdd false) (eCB rdMax (eCons (eVar 9) (eNil))) (eVar 8)) eNil))) (sExpr (eLM rdAppend (eVar 4) (eCons (eTup (eCons (eVar 6) (eCons (eVar 7) (eCons (eVar 11) (eCons (eIf (eOrT (eTest (eOp rdGt (eVar 12) (eOp rdPow (eC (.int 10)) (eC (.int 9))))) (eTest (eOp rdEq (eCall sp__law_draw [] (eCons (eVar 0) (eCons (eC (.int 4)) (eNil)))) (eC (.int 0))))) (eC .non) (eVar 12)) (eNil)))))) (eNil)))))))) (sFreeze 4 (sRet (eCB rdTuple (eCons (eVar 4) (eNil))))))
def t__law_fits : TSd := sSeq (sIf (eOrT (eNotT (eTest (eCB rdIsi (eCons (eVar 2) (eCons (eC (.ty "tuple")) (eNil)))))) (eTest (eOp rdNe (eCB rdLen (eCons (eVar 2) (eNil))) (eVar 0)))) (sRet (eC (.bl false))) (sNext)) (sSeq (sIf (eTest (eOp rdNe (eComp false (iSeq (eVar 2)) (CT.name 3).d (eOrT (eNotT (eTest (eCB rdIsi (eCons (eVar 3) (eCons (eC (.ty "int")) (eNil)))))) (eOrT (eTest (eCB rdIsi (eCons (eVar 3) (eCons (eC (.ty "bool")) (eNil))))) (eTest (eOp rdLt (eVar 3) (eC (.int 0)))))) (eC (.int 1)) [3]) (eLst false (eNil)))) (sRet (eC (.bl false))) (sNext)) (sSeq (sFor (iSeq (eVar 1)) (gTupD 4 (gConsD (gVar 4) (gConsD (gVar 5) (gConsD (gVar 6) (gConsD (gVar 7) (gNilD)))))) (sSeq (sAsg (eCall sp__law_sum [] (eCons (eVar 2) (eCons (eVar 4) (eCons (eVar 5) (eNil))))) (gVar 8)) (sIf (eOrT (eTest (eOp rdLt (eVar 8) (eVar 6))) (eAndT (eTest (eOp rdNotN (eVar 7) (eC .non))) (eTest (eOp rdGt (eVar 8) (eVar 7))))) (sRet (eC (.bl false))) (sNext)))) (sRet (eC (.bl true)))))
def t__law_all : TSd := sSeq (sAsg (eLst false (eCons (eTup (eNil)) (eNil))) (gVar 2)) (sSeq (sFor (iRange1 (eCons (eVar 0) (eNil))) (gVar 3) (sSeq (sAsg (eLst true (eNil)) (gVar 4)) (sSeq (sFor (iSeq (eVar 2)) (gVar 5) (sSeq (sAsg (eOp rdSub (eVar 1) (eCB rdSum (eCons (eVar 5) (eNil)))) (gVar 6)) (sExpr (eLM rdExtend (eVar 4) (eCons (eComp false (iRange1 (eCons (eOp (rdAdd false) (eVar 6) (eC (.int 1))) (eNil))) (CT.name 7).d (eOrT (eTest (eOp rdLt (eVar 3) (eOp rdSub (eVar 0) (eC (.int 1))))) (eTest (eOp rdEq (eVar 7) (eVar 6)))) (eOp (rdAdd false) (eVar 5) (eTup (eCons (eVar 7) (eNil)))) [7]) (eNil)))))) (sFreeze 4 (sAsg (eVar 4) (gVar 2)))))) (sRet (eVar 2)))
def t__law_flows : TSd := sSeq (sAsg (eLst false (eCons (eTup (eNil)) (eNil))) (gVar 1)) (sSeq (sFor (iRange1 (eCons (eVar 0) (eNil))) (gVar 2) (sSeq (sAsg (eLst true (eNil)) (gVar 3)) (sSeq (sFor (iSeq (eVar 1)) (gVar 4) (sExpr (eLM rdExtend (eVar 3) (eCons (eComp false (iSeq (eTup (eCons (eUn rdNeg (eC (.int 1))) (eCons (eC (.int 0)) (eCons (eC (.int 1)) (eNil)))))) (CT.name 5).d (eYes) (eOp (rdAdd false) (eVar 4) (eTup (eCons (eVar 5) (eNil)))) [5]) (eNil))))) (sFreeze 3 (sAsg (eVar 3) (gVar 1)))))) (sRet (eVar 1)))
def t__law_sent : TSd := sSeq (sAsg (eCB rdLen (eCons (eVar 0) (eNil))) (gVar 2)) (sRet (eCB rdTuple (eCons (eComp false (iRange1 (eCons (eVar 2) (eNil))) (CT.name 3).d (eYes) (eOp rdSub (eOp (rdAdd false) (eOp rdIx (eVar 0) (eVar 3)) (eOp rdIx (eVar 1) (eVar 3))) (eOp rdIx (eVar 1) (eOp rdMod (eOp (rdAdd false) (eVar 3) (eC (.int 1))) (eVar 2)))) [3]) (eNil))))
def t__law_reached : TSd := sSeq (sPar3 2 3 4 (eCons (eCall sp__law_flows [] (eCons (eCB rdLen (eCons (eVar 0) (eNil))) (eNil))) (eCons (eDict1 (eVar 0) (eC (.int 0))) (eCons (eLst true (eCons (eVar 0) (eNil))) eNil)))) (sSeq (sWhile (eTest (eOp rdNe (eVar 4) (eLst false (eNil)))) (sSeq (sAsg (eLM rdPopAt (eVar 4) (eCons (eC (.int 0)) (eNil))) (gVar 5)) (sFor (iSeq (eVar 2)) (gVar 6) (sSeq (sAsg (eCall sp__law_sent [] (eCons (eVar 5) (eCons (eVar 6) (eNil)))) (gVar 7)) (sIf (eAndT (eTest (eOp rdIn (eVar 7) (eVar 1))) (eTest (eOp (rdDIn true) (eVar 7) (eVar 3)))) (sSeq (sDPutD (eOp (rdAdd false) (eDGet (eVar 3) (eVar 5)) (eC (.int 1))) (eVar 3) (eVar 7)) (sExpr (eLM rdAppend (eVar 4) (eCons (eVar 7) (eNil))))) (sNext)))))) (sRet (eVar 3)))
def t_law : TSd := sSeq (sAsg (eCall sp__law_deck [] (eCons (eVar 0) (eNil))) (gVar 1)) (sSeq (sFor (iRange1 (eCons (eC (.int 3)) (eNil))) (gVar 2) (sSeq (sAsg (eTup (eCons (eOp (rdAdd false) (eC (.int 1)) (eCall sp__law_draw [] (eCons (eVar 1) (eCons (eC (.int 4)) (eNil))))) (eCons (eCall sp__law_draw [] (eCons (eVar 1) (eCons (eC (.int 5)) (eNil)))) (eNil)))) (gTupD 2 (gConsD (gVar 3) (gConsD (gVar 4) (gNilD))))) (sSeq (sAsg (eCall sp__law_all [] (eCons (eVar 3) (eCons (eVar 4) (eNil)))) (gVar 5)) (sSeq (sPar 6 7 (eCons (eOp rdIx (eVar 5) (eCall sp__law_draw [] (eCons (eVar 1) (eCons (eCB rdLen (eCons (eVar 5) (eNil))) (eNil))))) (eCons (eOp rdIx (eVar 5) (eCall sp__law_draw [] (eCons (eVar 1) (eCons (eCB rdLen (eCons (eVar 5) (eNil))) (eNil))))) eNil))) (sSeq (sAsg (eCall sp__law_rules [] (eCons (eVar 1) (eCons (eVar 3) (eCons (eLst false (eCons (eVar 6) (eCons (eVar 7) (eNil)))) (eCons (eC (.int 4)) (eNil)))))) (gVar 8)) (sSeq (sAsg (eComp false (iSeq (eVar 5)) (CT.name 10).d (eTest (eCall sp__law_fits [] (eCons (eVar 3) (eCons (eVar 8) (eCons (eVar 10) (eNil)))))) (eVar 10) [10]) (gVar 9)) (sSeq (sAsg (eCall sp__law_reached [] (eCons (eVar 6) (eCons (eVar 9) (eNil)))) (gVar 11)) (sFor (iSeq (eVar 9)) (gVar 10) (sSeq (sIf (eOrT (eTest (eOp (rdDIn true) (eVar 10) (eVar 11))) (eTest (eOp rdNe (eCB rdRepr (eCons (eCall sp_least_steps [] (eCons (eVar 6) (eCons (eVar 10) (eNil)))) (eNil))) (eCB rdRepr (eCons (eDGet (eVar 11) (eVar 10)) (eNil)))))) (sRet (eC (.bl false))) (sNext)) (sSeq (sIf (eTest (eOp rdNe (eCall sp_way_holds [] (eCons (eVar 3) (eCons (eVar 8) (eCons (eVar 6) (eCons (eVar 10) (eCons (eTup (eCons (eVar 6) (eCons (eVar 10) (eNil)))) (eNil))))))) (eOp rdLt (eDGet (eVar 11) (eVar 10)) (eC (.int 2))))) (sRet (eC (.bl false))) (sNext)) (sSeq (sAsg (eCall sp_find_way [] (eCons (eVar 3) (eCons (eVar 8) (eCons (eVar 6) (eCons (eVar 10) (eNil)))))) (gVar 12)) (sIf (eOrT (eTest (eOp rdNe (eCB rdLen (eCons (eVar 12) (eNil))) (eOp (rdAdd false) (eDGet (eVar 11) (eVar 10)) (eC (.int 1))))) (eTest (eOp rdNotB (eCall sp_way_holds [] (eCons (eVar 3) (eCons (eVar 8) (eCons (eVar 6) (eCons (eVar 10) (eCons (eVar 12) (eNil))))))) (eC (.bl true))))) (sRet (eC (.bl false))) (sNext))))))))))))) (sRet (eC (.bl true))))
end RW1

/-! P31r: the readings of the law k31's own defs keep their promises. -/
namespace RW1
open PySem PySem.Spec L2 DL
local macro_rules | `(tactic| walk_at "w") => `(tactic| conv => whnf)
theorem cutD_map {α : Type} (j : α → D) (l : List α) (lo hi : Option Int) : ∃ l' : List α, cutD (l.map j) lo hi = l'.map j ∧ l'.length ≤ l.length := by
  unfold cutD
  refine ⟨(l.drop (HT.sIx l.length 0 lo)).take (HT.sIx l.length l.length hi - HT.sIx l.length 0 lo), ?_, ?_⟩
  · rw [List.length_map, List.map_take, List.map_drop]
  · simp; omega
theorem rd__law_deck : ∀ ds M Q E, sp__law_deck ds M Q E → t__law_deck (bodyD Q E) (startD 2 ds) M := by
  rintro ds M Q E ⟨ns, rfl, hl, hQ⟩
  unfold t__law_deck
  walk_at "w"
  refine ⟨_, rfl, ?_⟩
  walk_at "w"
  refine ⟨_, rfl, ?_⟩
  obtain ⟨ms, hms, hml⟩ := cutD_map D.int ns none (some 60)
  rw [hms]
  refine DL.comp_map ms D.int (fun i => .int (i.natAbs : Nat)) [] (sizeK (by simp; omega)) (fun i _ Q' q' => ?_) ?_
  · walk_at "w"
    exact q'
  · walk_at "w"
    intro b hb
    walk_at "w"
    refine ⟨sizeK (by simp), fun a ha => ?_⟩
    have hab : a ≠ b := fun e => by subst e; rw [updM_same] at ha; cases ha
    rw [updM_ne hab] at ha
    refine hQ a b _ ha hb ⟨hab, ms.map fun i : Int => ((i.natAbs : Nat) : Int), 0, updM_same, ?_, ?_, ?_, Nat.le_refl _⟩ ?_
    · rw [updM_ne (Ne.symm hab), updM_same, List.map_map]; rfl
    · intro x hx
      obtain ⟨i, _, rfl⟩ := List.mem_map.mp hx
      omega
    · simp; omega
    · intro c h1 h2
      rw [updM_ne h1, updM_ne h2]
theorem rd__law_draw : ∀ ds M Q E, sp__law_draw ds M Q E → t__law_draw (bodyD Q E) (startD 5 ds) M := by
  rintro ds M Q E ⟨a, b, m, n, rfl, hm, hm', hn, ⟨hab, cs, k, hMa, hMb, hcs, hcl, hk⟩, hQ⟩
  unfold t__law_draw
  walk_at "w"
  refine ⟨_, asSeq_ref hMa, .int k, by exact atI_nat _ 1, ?_⟩
  walk_at "w"
  refine ⟨_, 1, hMa, by show ixN 2 1 = some 1; decide, ?_⟩
  have hMa' : updM M a (.lst [.ref b, .int (k + 1 : Int)]) a = some (.lst [.ref b, .int ((k + 1 : Nat) : Int)]) := updM_same
  have hMb' : updM M a (.lst [.ref b, .int (k + 1 : Int)]) b = some (.lst (cs.map D.int)) := by rw [updM_ne (Ne.symm hab)]; exact hMb
  have hS : Same2 M (updM M a (.lst [.ref b, .int (k + 1 : Int)])) a b := fun c h1 h2 => updM_ne h1
  have eM : updM M a (.lst (List.set [D.ref b, .int k] 1 (.int (k + 1)))) = updM M a (.lst [.ref b, .int (k + 1 : Int)]) := rfl
  rw [eM]
  generalize updM M a (.lst [.ref b, .int (k + 1 : Int)]) = M1 at hMa' hMb' hS ⊢
  walk_at "w"
  refine ⟨_, asSeq_ref hMa', .int ((k + 1 : Nat) : Int), by exact atI_nat _ 1, ?_⟩
  walk_at "w"
  refine ⟨_, asSeq_ref hMa', .ref b, atI_zero _ _, ?_⟩
  walk_at "w"
  refine ⟨_, asSeq_ref hMb', ?_⟩
  walk_at "w"
  rw [List.length_map]
  refine ⟨by omega, ?_⟩
  walk_at "w"
  refine ⟨_, asSeq_ref hMa', .ref b, atI_zero _ _, ?_⟩
  walk_at "w"
  refine ⟨by decide, ?_⟩
  walk_at "w"
  refine ⟨_, _, asTL_ref hMb', rfl, sizeK (by simp; omega), ?_⟩
  walk_at "w"
  have hat : ((k + 1 : Nat) : Int) % max 1 (cs.length : Int) = (((k + 1) % max 1 cs.length : Nat) : Int) := by
    rw [show max 1 (cs.length : Int) = ((max 1 cs.length : Nat) : Int) by omega]; simp
  have hlt : (k + 1) % max 1 cs.length < max 1 cs.length := Nat.mod_lt _ (by omega)
  rw [hat]
  generalize (k + 1) % max 1 cs.length = at_ at hlt hat ⊢
  have hc : ∃ c : Int, (cs.map D.int ++ [D.int 0])[at_]? = some (.int c) ∧ 0 ≤ c ∧ (10 ^ 18 ≤ c → at_ < cs.length) := by
    by_cases h : at_ < cs.length
    · exact ⟨cs[at_], by rw [List.getElem?_append_left (by simpa using h), List.getElem?_map, List.getElem?_eq_getElem h]; rfl, hcs _ (List.getElem_mem h), fun _ => h⟩
    · have : cs = [] := by
        cases cs with
        | nil => rfl
        | cons x r => simp at h hlt; omega
      subst this
      have : at_ = 0 := by simp at hlt; omega
      subst this
      exact ⟨0, rfl, Int.le_refl _, fun h => by omega⟩
  obtain ⟨c, hc1, hc2, hc3⟩ := hc
  refine ⟨_, rfl, .int c, by rw [atI_nat]; exact hc1, ?_⟩
  walk_at "w"
  refine ⟨⟨by decide, by decide, by decide⟩, ?_⟩
  walk_at "w"
  refine iteB (fun h => ?_) (fun h => ?_)
  · have hbig := hc3 (of_decide_eq_true h)
    have lg : m.log2 < 9000 := by
      rcases Nat.eq_zero_or_pos m with h0 | h0
      · omega
      · exact Nat.lt_of_lt_of_le ((Nat.log2_lt (by omega)).mpr hm') (by decide)
    walk_at "w"
    refine ⟨⟨by omega, lg⟩, ?_⟩
    walk_at "w"
    refine ⟨_, asSeq_ref hMa', .ref b, atI_zero _ _, ?_⟩
    walk_at "w"
    refine ⟨_, at_, hMb', by show ixN (cs.map D.int).length (((k + 1 : Nat) : Int) % max 1 (cs.length : Int)) = some at_; rw [hat, List.length_map]; unfold ixN; simp [hbig], ?_⟩
    walk_at "w"
    refine ⟨by omega, ?_⟩
    obtain ⟨r, hr⟩ : ∃ r : Nat, c % (m : Int) = (r : Int) := ⟨(c % (m : Int)).toNat, by have := Int.emod_nonneg c (show (m : Int) ≠ 0 by omega); omega⟩
    have hrm : r < m := by have := Int.emod_lt_of_pos c (show (0 : Int) < m by omega); omega
    show Q (D.int (c % (m : Int))) _
    rw [hr]
    refine hQ r _ hrm ⟨hab, cs.set at_ (c / m), k + 1, ?_, ?_, ?_, ?_, by omega⟩ ?_
    · rw [updM_ne hab]; exact hMa'
    · rw [updM_same, List.map_set]
    · intro x hx
      rcases List.mem_or_eq_of_mem_set hx with hx | hx
      · exact hcs _ hx
      · subst hx; exact Int.ediv_nonneg hc2 (by omega)
    · simpa using hcl
    · intro y h1 h2
      rw [updM_ne h2]; exact hS y h1 h2
  · walk_at "w"
    refine ⟨by show (0 : Int) < 2147483563; decide, ?_⟩
    walk_at "w"
    refine ⟨_, asSeq_ref hMa', .int ((k + 1 : Nat) : Int), by exact atI_nat _ 1, ?_⟩
    walk_at "w"
    refine ⟨.inl (.inl ⟨by decide, by decide⟩), ?_⟩
    walk_at "w"
    have e1 := Int.emod_nonneg c (show (2147483563 : Int) ≠ 0 by decide)
    have e2 := Int.emod_lt_of_pos c (show (0 : Int) < 2147483563 by decide)
    refine ⟨⟨by decide, by decide, by omega⟩, ?_⟩
    walk_at "w"
    refine ⟨by show (0 : Int) < 2147483629; decide, ?_⟩
    generalize (c % 2147483563 + 104729 * ((k + 1 : Nat) : Int) + 7) ^ (4 : Int).toNat = big
    have e3 := Int.emod_nonneg big (show (2147483629 : Int) ≠ 0 by decide)
    walk_at "w"
    refine ⟨⟨by decide, by decide⟩, ?_⟩
    walk_at "w"
    refine ⟨_, asSeq_ref hMa', .int ((k + 1 : Nat) : Int), by exact atI_nat _ 1, ?_⟩
    walk_at "w"
    refine ⟨.inl (.inl ⟨by decide, by decide⟩), ?_⟩
    walk_at "w"
    refine ⟨by omega, ?_⟩
    generalize big % 2147483629 / 8 + 31 * ((k + 1 : Nat) : Int) = v
    obtain ⟨r, hr⟩ : ∃ r : Nat, v % (m : Int) = (r : Int) := ⟨(v % (m : Int)).toNat, by have := Int.emod_nonneg v (show (m : Int) ≠ 0 by omega); omega⟩
    have hrm : r < m := by have := Int.emod_lt_of_pos v (show (0 : Int) < m by omega); omega
    show Q (D.int (v % (m : Int))) _
    rw [hr]
    exact hQ r _ hrm ⟨hab, cs, k + 1, hMa', hMb', hcs, hcl, by omega⟩ hS
theorem rd__law_sum : ∀ ds M Q E, sp__law_sum ds M Q E → t__law_sum (bodyD Q E) (startD 4 ds) M := by
  rintro ds M Q E ⟨fl, f, s, rfl, hl, hs, hQ⟩
  unfold t__law_sum
  walk_at "w"
  refine ⟨⟨by omega, by omega⟩, ?_⟩
  walk_at "w"
  rw [Int.toNat_natCast, rangeD_map]
  refine DL.comp_map (List.range s) _ (fun k => .int (fl.getD ((f + k) % fl.length) 0)) [] (sizeK (by simp; omega)) (fun k _ Q' q' => ?_) ?_
  · walk_at "w"
    refine ⟨_, rfl, ?_⟩
    walk_at "w"
    rw [List.length_map]
    refine ⟨by omega, ?_⟩
    walk_at "w"
    refine ⟨_, rfl, .int (fl.getD ((f + k) % fl.length) 0), ?_, q'⟩
    have hlt := Nat.mod_lt (f + k) hl
    rw [show ((f : Int) + (k : Int)) % (fl.length : Int) = (((f + k) % fl.length : Nat) : Int) by simp, atI_nat, List.getElem?_map, List.getD_eq_getElem?_getD, List.getElem?_eq_getElem hlt]
    rfl
  · walk_at "w"
    refine ⟨_, rfl, _, asInts_mapF _ _, ?_⟩
    exact hQ
theorem rd__law_sent : ∀ ds M Q E, sp__law_sent ds M Q E → t__law_sent (bodyD Q E) (startD 4 ds) M := by
  rintro ds M Q E ⟨f, w, rfl, hl, hl', hw, hQ⟩
  unfold t__law_sent
  walk_at "w"
  refine ⟨_, rfl, ?_⟩
  walk_at "w"
  rw [List.length_map]
  refine ⟨⟨by omega, by omega⟩, ?_⟩
  walk_at "w"
  rw [Int.toNat_natCast, rangeD_map]
  refine DL.comp_map (List.range f.length) _ (fun k => .int (f.getD k 0 + w.getD k 0 - w.getD ((k + 1) % f.length) 0)) [] (sizeK (by simp; omega)) (fun k hk Q' q' => ?_) ?_
  · have hk := List.mem_range.mp hk
    have at_ : ∀ (l : List Int) (j : Nat), j < l.length → atI (l.map D.int) (j : Int) = some (.int (l.getD j 0)) := fun l j hj => by
      rw [atI_nat, List.getElem?_map, List.getD_eq_getElem?_getD, List.getElem?_eq_getElem hj]; rfl
    walk_at "w"
    refine ⟨_, rfl, _, at_ f k hk, ?_⟩
    walk_at "w"
    refine ⟨_, rfl, _, at_ w k (by omega), ?_⟩
    walk_at "w"
    refine ⟨by omega, ?_⟩
    walk_at "w"
    refine ⟨_, rfl, .int (w.getD ((k + 1) % f.length) 0), ?_, q'⟩
    rw [show ((k : Int) + 1) % (f.length : Int) = (((k + 1) % f.length : Nat) : Int) by simp]
    exact at_ w _ (by rw [hw]; exact Nat.mod_lt _ hl)
  · walk_at "w"
    refine ⟨_, rfl, ?_⟩
    unfold sent intsD at hQ
    rw [List.map_map] at hQ
    exact hQ
theorem rd__law_fits : ∀ ds M Q E, sp__law_fits ds M Q E → t__law_fits (bodyD Q E) (startD 9 ds) M := by
  rintro ds M Q E ⟨n, rs, fl, rfl, hn, hl, hr, hQ⟩
  unfold t__law_fits
  walk_at "w"
  refine ⟨_, rfl, by decide, ?_⟩
  walk_at "w"
  refine ⟨_, rfl, ?_⟩
  walk_at "w"
  refine eqD_ok 1 rfl rfl ?_
  rw [show PyData.eqv (asData M (D.int ((fl.map D.int).length : Nat))).pd (asData M (D.int (n : Nat))).pd = _ from eqv_int _ _, List.length_map]
  walk_at "w"
  refine iteB (fun h => ?_) (fun h => ?_)
  · walk_at "w"
    rw [decide_eq_false (fun k => by simp at h; have := k.1; omega)] at hQ
    exact hQ
  have hlen : fl.length = n := by simp at h; omega
  walk_at "w"
  refine ⟨_, rfl, ?_⟩
  refine comp_filter fl D.int (fun _ => D.int 1) (fun x => decide (x < 0)) [] (sizeK (by simp; omega)) (fun x hx Q' R q1 q2 => ?_) ?_
  · walk_at "w"
    refine ⟨_, rfl, by decide, ?_⟩
    walk_at "w"
    refine ⟨_, rfl, by decide, ?_⟩
    walk_at "w"
    refine iteB (fun h => ?_) (fun h => ?_)
    · exact q1 h
    · exact q2 h
  · walk_at "w"
    refine ⟨by decide, ?_⟩
    walk_at "w"
    refine eqD_ok 1 ?_ rfl ?_
    · show (D.lst ((fl.filter fun x => decide (x < 0)).map fun _ => D.int 1)).flat 1 = true
      rw [D.flat, flats_all, List.all_map, List.all_eq_true]
      intro _ _
      rfl
    rw [show PyData.eqv (asData M (D.lst ([] ++ (fl.filter fun x => decide (x < 0)).map fun _ => D.int 1))).pd (asData M (D.lst [])).pd = _ from eqv_lst_nil _]
    walk_at "w"
    refine iteB (fun h => ?_) (fun h => ?_)
    · walk_at "w"
      rw [decide_eq_false (fun k => ?_)] at hQ
      · exact hQ
      · obtain ⟨_, k2, _⟩ := k
        simp at h
        obtain ⟨x, hx, hx'⟩ := h
        have := k2 x hx
        omega
    have hpos : ∀ x ∈ fl, 0 ≤ x := by
      intro x hx
      simp at h
      exact h x hx
    walk_at "w"
    refine ⟨_, rfl, ?_⟩
    have bad : ∀ r ∈ rs, ¬ rfits fl r → Q (.bl false) M := fun r hmem hb => by
      rw [decide_eq_false (fun k => hb (k.2.2 _ hmem))] at hQ
      exact hQ
    refine for_inv rs Rl.d (fun pre ds' M' => ∃ o3 o4 o5 o6 o7 o8, ds' = [some (.int n), some (rulesD rs), some (intsD fl), o3, o4, o5, o6, o7, o8] ∧ M' = M ∧ ∀ r ∈ pre, rfits fl r) ⟨_, _, _, _, _, _, rfl, rfl, fun _ h => by simp at h⟩ ?_ ?_
    · rintro pre ⟨f, sz, l, m⟩ post e _ _ ⟨o3, o4, o5, o6, o7, o8, rfl, rfl, hpre⟩ K hK
      have hmem : (⟨f, sz, l, m⟩ : Rl) ∈ rs := by rw [e]; simp
      have bad := bad _ hmem
      have good : rfits fl ⟨f, sz, l, m⟩ → ∀ r ∈ pre ++ [⟨f, sz, l, m⟩], rfits fl r := fun hg r hr => by
        rcases List.mem_append.mp hr with hr | hr
        · exact hpre r hr
        · rw [List.mem_singleton.mp hr]; exact hg
      walk_at "w"
      refine ⟨_, rfl, rfl, ?_⟩
      walk_at "w"
      refine ⟨fl, f, sz, rfl, by omega, hr _ hmem, ?_⟩
      walk_at "w"
      refine iteB (fun h1 => ?_) (fun h1 => ?_)
      · exact bad (fun k => by have := k.1; simp at h1 this; omega)
      walk_at "w"
      cases m with
      | none =>
        walk_at "w"
        exact hK _ _ ⟨_, _, _, _, _, _, rfl, rfl, good ⟨by simp at h1 ⊢; omega, fun m e => by simp at e⟩⟩
      | some m =>
        walk_at "w"
        refine iteB (fun h2 => ?_) (fun h2 => ?_)
        · exact bad (fun k => by have := k.2 m rfl; simp at h2 this; omega)
        · exact hK _ _ ⟨_, _, _, _, _, _, rfl, rfl, good ⟨by simp at h1 ⊢; omega, fun m' e => by simp at e; subst e; simp at h2 ⊢; omega⟩⟩
    · rintro _ _ ⟨o3, o4, o5, o6, o7, o8, rfl, rfl, hpre⟩
      walk_at "w"
      rw [decide_eq_true (show Fits n rs fl from ⟨hlen, hpos, hpre⟩)] at hQ
      exact hQ
theorem Deck.upd {M : MS} {a b r : Addr} {n : Nat} {o : MO} (h : Deck M a b n) (hr : M r = none) : Deck (updM M r o) a b n ∧ r ≠ a ∧ r ≠ b := by
  obtain ⟨h1, cs, k, h2, h3, h4, h5, h6⟩ := h
  have ha : a ≠ r := fun e => by subst e; rw [hr] at h2; cases h2
  have hb : b ≠ r := fun e => by subst e; rw [hr] at h3; cases h3
  exact ⟨⟨h1, cs, k, by rw [updM_ne ha]; exact h2, by rw [updM_ne hb]; exact h3, h4, h5, h6⟩, Ne.symm ha, Ne.symm hb⟩
theorem Deck.upd' {M : MS} {a b r : Addr} {n : Nat} {o : MO} (h : Deck M a b n) (ra : r ≠ a) (rb : r ≠ b) : Deck (updM M r o) a b n := by
  obtain ⟨h1, cs, k, h2, h3, h4, h5, h6⟩ := h
  exact ⟨h1, cs, k, by rw [updM_ne (Ne.symm ra)]; exact h2, by rw [updM_ne (Ne.symm rb)]; exact h3, h4, h5, h6⟩
theorem Deck.drop {M : MS} {a b r : Addr} {n : Nat} (h : Deck M a b n) (ra : r ≠ a) (rb : r ≠ b) : Deck (dropM M r) a b n := by
  obtain ⟨h1, cs, k, h2, h3, h4, h5, h6⟩ := h
  exact ⟨h1, cs, k, by unfold dropM; rw [if_neg (Ne.symm ra)]; exact h2, by unfold dropM; rw [if_neg (Ne.symm rb)]; exact h3, h4, h5, h6⟩
theorem sum_nn : ∀ {l : List Int}, (∀ x ∈ l, 0 ≤ x) → 0 ≤ l.sum
  | [], _ => by simp
  | x :: r, h => by
    have h1 := h x List.mem_cons_self
    have h2 := sum_nn fun y hy => h y (List.mem_cons_of_mem x hy)
    rw [List.sum_cons]; omega
theorem getD_nn {l : List Int} (h : ∀ x ∈ l, 0 ≤ x) (i : Nat) : 0 ≤ l.getD i 0 := by
  rw [List.getD_eq_getElem?_getD]
  cases e : l[i]? with
  | none => simp
  | some x => exact h x (List.mem_of_getElem? e)
theorem wsum_nn {l : List Int} (h : ∀ x ∈ l, 0 ≤ x) (f s : Nat) : 0 ≤ wsum l f s := by
  unfold wsum
  refine sum_nn fun x hx => ?_
  obtain ⟨k, _, rfl⟩ := List.mem_map.mp hx
  exact getD_nn h _
theorem loose4 {r : Nat} (h : r < 4) : ∃ z : Nat, atI [D.int 0, D.int 0, D.int 1, D.int 50] (r : Int) = some (.int z) ∧ z ≤ 50 := by
  rw [atI_nat]
  match r, h with
  | 0, _ => exact ⟨0, rfl, by decide⟩
  | 1, _ => exact ⟨0, rfl, by decide⟩
  | 2, _ => exact ⟨1, rfl, by decide⟩
  | 3, _ => exact ⟨50, rfl, by decide⟩
theorem rd__law_rules : ∀ ds M Q E, sp__law_rules ds M Q E → t__law_rules (bodyD Q E) (startD 13 ds) M := by
  rintro ds M Q E ⟨a, b, n, most, c, x, y, rfl, hn, hn', hmost, hx, hy, hx0, hy0, hxy, hxs, hc, hD, hQ⟩
  unfold t__law_rules
  walk_at "w"
  refine ⟨by decide, fun r hr => ?_⟩
  obtain ⟨hD0, hra, hrb⟩ := hD.upd (o := .lst []) hr
  walk_at "w"
  refine ⟨a, b, most + 1, c, rfl, by omega, by omega, by omega, hD0, fun many M1 hmany D1 S1 => ?_⟩
  walk_at "w"
  refine ⟨⟨by omega, by omega⟩, ?_⟩
  walk_at "w"
  rw [Int.toNat_natCast, rangeD_map]
  refine for_inv (List.range many) _ (fun pre ds' M' => ∃ o5 o6 o7 o8 o9 o10 o11 o12 rs, ds' = [some (.ref a), some (.int n), some (.lst [intsD x, intsD y]), some (.int most), some (.ref r), o5, o6, o7, o8, o9, o10, o11, o12] ∧
    M' r = some (.lst (rs.map Rl.d)) ∧ RlsOk n pre.length x y rs ∧ Deck M' a b (c + 1 + 5 * pre.length) ∧ ∀ c', c' ≠ a → c' ≠ b → c' ≠ r → M' c' = M c') ?_ ?_ ?_
  · refine ⟨_, _, _, _, _, _, _, _, [], rfl, ?_, ⟨Nat.le_refl _, fun _ h => by simp at h⟩, D1, fun c' h1 h2 h3 => ?_⟩
    · rw [S1 r hra hrb]; exact updM_same
    · rw [S1 c' h1 h2]; exact updM_ne h3
  · rintro pre i post e _ M2 ⟨o5, o6, o7, o8, o9, o10, o11, o12, rs, rfl, hr2, hrs, D2, S2⟩ K hK
    have hpl : pre.length < many := by
      have := congrArg List.length e
      rw [List.length_range, List.length_append, List.length_cons] at this
      omega
    walk_at "w"
    refine ⟨a, b, n, _, rfl, hn, by omega, by omega, D2, fun f M3 hf D3 S3 => ?_⟩
    walk_at "w"
    refine ⟨a, b, n, _, rfl, hn, by omega, by omega, D3, fun sz M4 hsz D4 S4 => ?_⟩
    walk_at "w"
    refine ⟨by decide, ?_⟩
    walk_at "w"
    refine ⟨a, b, 4, _, rfl, by omega, by omega, by omega, D4, fun z M5 hz D5 S5 => ?_⟩
    walk_at "w"
    obtain ⟨lo, hlo, hlo'⟩ := loose4 hz
    refine ⟨_, rfl, _, hlo, ?_⟩
    walk_at "w"
    refine ⟨sizeK (by simp), ?_⟩
    walk_at "w"
    refine ⟨_, rfl, rfl, ?_⟩
    walk_at "w"
    refine ⟨_, rfl, ?_⟩
    have hS5 : ∀ c', c' ≠ a → c' ≠ b → M5 c' = M2 c' := fun c' h1 h2 => by rw [S5 c' h1 h2, S4 c' h1 h2, S3 c' h1 h2]
    refine DL.comp_map [x, y] intsD (fun v => .int (wsum v f (1 + sz))) [] (sizeK (by simp)) (fun v hv Q' q' => ?_) ?_
    · have hv' : 0 < v.length := by simp at hv; rcases hv with rfl | rfl <;> omega
      walk_at "w"
      exact ⟨v, f, 1 + sz, rfl, hv', by omega, q'⟩
    have hwx := wsum_nn hx0 f (1 + sz)
    have hwy := wsum_nn hy0 f (1 + sz)
    walk_at "w"
    refine ⟨⟨by decide, by decide, by decide⟩, ?_⟩
    walk_at "w"
    refine ⟨_, rfl, [wsum x f (1 + sz), wsum y f (1 + sz)], rfl, by simp, ?_⟩
    walk_at "w"
    refine ⟨_, rfl, [wsum x f (1 + sz), wsum y f (1 + sz)], rfl, by simp, ?_⟩
    have g1 : wsum x f (1 + sz) ≤ lmax [wsum x f (1 + sz), wsum y f (1 + sz)] := lmax_ge (by simp)
    have g2 : wsum y f (1 + sz) ≤ lmax [wsum x f (1 + sz), wsum y f (1 + sz)] := lmax_ge (by simp)
    have g3 : lmin [wsum x f (1 + sz), wsum y f (1 + sz)] ≤ wsum x f (1 + sz) := lmin_le (by simp)
    have g4 : lmin [wsum x f (1 + sz), wsum y f (1 + sz)] ≤ wsum y f (1 + sz) := lmin_le (by simp)
    generalize hhi : lmax [wsum x f (1 + sz), wsum y f (1 + sz)] = hi at g1 g2 ⊢
    generalize hlw : lmin [wsum x f (1 + sz), wsum y f (1 + sz)] = lw at g3 g4 ⊢
    walk_at "w"
    refine ⟨⟨_, asTL_ref (by rw [hS5 r hra hrb]; exact hr2)⟩, ?_⟩
    walk_at "w"
    have e9 : (10 : Int) ^ Int.toNat 9 = 1000000000 := by decide
    have fin : ∀ (m : Option Int) (M6 : MS), (∀ v, m = some v → v = hi + lo) → Deck M6 a b (c + 1 + 5 * pre.length + 1 + 1 + 1 + 1) → Same2 M5 M6 a b →
        (D.tup [.int f, .int (1 + (sz : Int)), .int (min (10 ^ Int.toNat 9) (max 0 (lw - lo))), oI m]).flat 2 = true → 
        ∃ l, M6 r = some (.lst l) ∧ l.length < sizeLine ∧ K [some (D.ref a), some (D.int ↑n), some (D.lst [intsD x, intsD y]), some (D.int ↑most), some (D.ref r), some (.int i), some (.int f), some (.int (1 + (sz : Int))), some (.int lo), some (D.lst ([] ++ List.map (fun v => D.int (wsum v f (1 + sz))) [x, y])), o10, some (.int (min (10 ^ Int.toNat 9) (max 0 (lw - lo)))), some (.int (hi + lo))]
          (updM M6 r (.lst (l ++ [D.tup [.int f, .int (1 + (sz : Int)), .int (min (10 ^ Int.toNat 9) (max 0 (lw - lo))), oI m]]))) := by
      intro m M6 hm D6 S6 _
      refine ⟨_, by rw [S6 r hra hrb, hS5 r hra hrb]; exact hr2, sizeKlt ?_, hK _ _ ⟨_, _, _, _, _, _, _, _, rs ++ [⟨f, 1 + sz, min (10 ^ Int.toNat 9) (max 0 (lw - lo)), m⟩], rfl, ?_, ?_, ?_, ?_⟩⟩
      · rw [List.length_map]; have := hrs.1; omega
      · rw [updM_same, List.map_append]; rfl
      · refine ⟨by rw [List.length_append, List.length_append]; have := hrs.1; simpa using this, fun q hq => ?_⟩
        rcases List.mem_append.mp hq with hq | hq
        · exact hrs.2 q hq
        · rw [List.mem_singleton.mp hq]
          refine ⟨hf, by simp; omega, by simp; omega, ⟨?_, fun v hv => ?_⟩, ⟨?_, fun v hv => ?_⟩⟩
          · show min _ _ ≤ wsum x f (1 + sz); rw [e9]; omega
          · show wsum x f (1 + sz) ≤ v; have := hm v hv; omega
          · show min _ _ ≤ wsum y f (1 + sz); rw [e9]; omega
          · show wsum y f (1 + sz) ≤ v; have := hm v hv; omega
      · rw [List.length_append]
        exact (D6.upd' hra hrb).mono (by simp; omega)
      · intro c' h1 h2 h3
        rw [updM_ne h3, S6 c' h1 h2, hS5 c' h1 h2]
        exact S2 c' h1 h2 h3
    refine ⟨⟨by decide, by decide, by decide⟩, ?_⟩
    walk_at "w"
    refine iteB (fun h => ?_) (fun h => ?_)
    · walk_at "w"
      refine ⟨sizeK (by simp), ?_⟩
      walk_at "w"
      exact fin none M5 (fun _ h => by cases h) (D5.mono (by omega)) (Same2.refl _ _ _) rfl
    · walk_at "w"
      refine ⟨a, b, 4, _, rfl, by omega, by omega, by omega, D5, fun z2 M6 hz2 D6 S6 => ?_⟩
      walk_at "w"
      refine eqD_ok 1 rfl rfl ?_
      walk_at "w"
      refine iteB (fun h2 => ?_) (fun h2 => ?_)
      · walk_at "w"
        refine ⟨sizeK (by simp), ?_⟩
        walk_at "w"
        exact fin none M6 (fun _ h => by cases h) D6 S6 rfl
      · walk_at "w"
        refine ⟨sizeK (by simp), ?_⟩
        walk_at "w"
        exact fin (some (hi + lo)) M6 (fun _ h => by cases h; rfl) D6 S6 rfl
  · rintro _ M2 ⟨o5, o6, o7, o8, o9, o10, o11, o12, rs, rfl, hr2, hrs, D2, S2⟩
    rw [List.length_range] at hrs D2
    walk_at "w"
    refine ⟨r, _, rfl, hr2, ?_⟩
    walk_at "w"
    refine ⟨_, rfl, ?_⟩
    refine hQ rs _ ⟨by have := hrs.1; omega, hrs.2⟩ ((D2.drop hra hrb).mono (by omega)) fun c' h1 h2 => ?_
    unfold dropM
    by_cases h3 : c' = r
    · subst h3; rw [if_pos rfl, hr]
    · rw [if_neg h3]; exact S2 c' h1 h2 h3
theorem flatMap_len {α β : Type} (g : α → List β) (c : Nat) : ∀ L : List α, (∀ a ∈ L, (g a).length ≤ c) → (L.flatMap g).length ≤ c * L.length
  | [], _ => by simp
  | a :: L, h => by
    rw [List.flatMap_cons, List.length_append, List.length_cons]
    have h1 := h a List.mem_cons_self
    have h2 := flatMap_len g c L fun b hb => h b (List.mem_cons_of_mem a hb)
    rw [Nat.mul_succ]; omega
theorem sum_snoc (l : List Int) (x : Int) : (l ++ [x]).sum = l.sum + x := by simp
theorem snoc_of {v : List Int} {i : Nat} (h : v.length = i + 1) : ∃ u x, v = u ++ [x] ∧ u.length = i := by
  have hne : v ≠ [] := fun e => by rw [e] at h; simp at h
  refine ⟨v.dropLast, v.getLast hne, (List.dropLast_concat_getLast hne).symm, by simp; omega⟩
/-- one more place -/
def grow (n t place : Nat) (row : List Int) : List (List Int) := ((List.range ((t : Int) - row.sum).toNat.succ).filter fun c : Nat => decide (place + 1 < n) || decide ((c : Int) = t - row.sum)).map fun c : Nat => row ++ [(c : Int)]
def AllP (n t i : Nat) (L : List (List Int)) : Prop := (∀ v : List Int, v ∈ L ↔ v.length = i ∧ (∀ x ∈ v, 0 ≤ x) ∧ (i < n → v.sum ≤ t) ∧ (n ≤ i → v.sum = t)) ∧ L.length ≤ 5 ^ i
theorem allP_zero {n t : Nat} (hn : 0 < n) : AllP n t 0 [[]] := by
  refine ⟨fun v => ⟨fun h => ?_, fun h => ?_⟩, by simp⟩
  · simp at h; subst h; exact ⟨rfl, by simp, fun _ => by simp, fun h => by omega⟩
  · have := List.length_eq_zero_iff.mp h.1; subst this; simp
theorem allP_succ {n t i : Nat} {L : List (List Int)} (h : AllP n t i L) (hi : i < n) (ht : t < 5) : AllP n t (i + 1) (L.flatMap (grow n t i)) := by
  refine ⟨fun v => ⟨fun hv => ?_, fun ⟨h1, h2, h3, h4⟩ => ?_⟩, ?_⟩
  · obtain ⟨row, hr, hv⟩ := List.mem_flatMap.mp hv
    obtain ⟨c, hc, rfl⟩ := List.mem_map.mp hv
    obtain ⟨hc1, hc2⟩ := List.mem_filter.mp hc
    have hc1 := List.mem_range.mp hc1
    obtain ⟨g1, g2, g3, g4⟩ := (h.1 row).mp hr
    have g3 := g3 hi
    have gs := sum_nn g2
    rw [sum_snoc]
    refine ⟨by simp [g1], fun x hx => ?_, fun _ => by omega, fun hni => ?_⟩
    · rcases List.mem_append.mp hx with hx | hx
      · exact g2 x hx
      · rw [List.mem_singleton.mp hx]; omega
    · have : decide (i + 1 < n) = false := decide_eq_false (by omega)
      rw [this, Bool.false_or] at hc2
      have := of_decide_eq_true hc2
      omega
  · obtain ⟨u, x, rfl, hu⟩ := snoc_of h1
    rw [sum_snoc] at h3 h4
    have hx : 0 ≤ x := h2 x (by simp)
    have hu0 : ∀ y ∈ u, 0 ≤ y := fun y hy => h2 y (by simp [hy])
    have hus : u.sum + x ≤ t := by
      by_cases hni : i + 1 < n
      · exact h3 hni
      · have := h4 (by omega); omega
    refine List.mem_flatMap.mpr ⟨u, (h.1 u).mpr ⟨hu, hu0, fun _ => by omega, fun hh => by omega⟩, List.mem_map.mpr ⟨x.toNat, List.mem_filter.mpr ⟨List.mem_range.mpr (by omega), ?_⟩, by rw [Int.toNat_of_nonneg hx]⟩⟩
    by_cases hni : i + 1 < n
    · simp [hni]
    · have := h4 (by omega)
      have e : ((x.toNat : Nat) : Int) = t - u.sum := by omega
      simp [hni, e]
  · have := flatMap_len (grow n t i) 5 L (fun row hr => by
      unfold grow
      rw [List.length_map]
      refine Nat.le_trans (List.length_filter_le _ _) ?_
      rw [List.length_range]
      have := sum_nn ((h.1 row).mp hr).2.1
      omega)
    have h2 := h.2
    rw [Nat.pow_succ]
    omega
theorem rd__law_all : ∀ ds M Q E, sp__law_all ds M Q E → t__law_all (bodyD Q E) (startD 8 ds) M := by
  rintro ds M Q E ⟨n, t, rfl, hn, hn', ht, hQ⟩
  unfold t__law_all
  walk_at "w"
  refine ⟨by decide, ?_⟩
  walk_at "w"
  refine ⟨sizeK (by simp), ?_⟩
  walk_at "w"
  refine ⟨⟨by omega, by omega⟩, ?_⟩
  walk_at "w"
  rw [Int.toNat_natCast, rangeD_map]
  refine for_inv (List.range n) _ (fun pre ds' M' => ∃ o3 o4 o5 o6 o7 L, ds' = [some (.int n), some (.int t), some (.lst (L.map intsD)), o3, o4, o5, o6, o7] ∧ M' = M ∧ AllP n t pre.length L) ⟨_, _, _, _, _, [[]], rfl, rfl, allP_zero hn⟩ ?_ ?_
  · rintro pre i post e _ _ ⟨o3, o4, o5, o6, o7, L, rfl, rfl, hL⟩ K hK
    have hi : i = pre.length := by
      have h1 : (List.range n)[pre.length]? = some i := by rw [e]; simp
      rw [List.getElem?_range (by have := congrArg List.length e; simp at this; omega)] at h1
      cases h1; rfl
    have hin : i < n := by
      have := congrArg List.length e
      rw [List.length_range, List.length_append, List.length_cons] at this
      omega
    have hL5 : L.length ≤ 625 := Nat.le_trans hL.2 (by
      have : pre.length ≤ 4 := by omega
      exact Nat.pow_le_pow_right (by decide) this)
    rename_i M
    walk_at "w"
    refine ⟨by decide, fun r hr => ?_⟩
    walk_at "w"
    refine ⟨_, rfl, ?_⟩
    refine for_inv L intsD (fun pre' ds' M' => ∃ o5 o6 o7, ds' = [some (.int n), some (.int t), some (.lst (L.map intsD)), some (.int i), some (.ref r), o5, o6, o7] ∧ M' = updM M r (.lst ((pre'.flatMap (grow n t i)).map intsD))) ⟨_, _, _, rfl, rfl⟩ ?_ ?_
    · rintro pre' row post' e' _ _ ⟨o5, o6, o7, rfl, rfl⟩ K' hK'
      have hrow : row ∈ L := by rw [e']; simp
      obtain ⟨g1, g2, g3, g4⟩ := (hL.1 row).mp hrow
      have g3 := g3 (by omega)
      have gs := sum_nn g2
      walk_at "w"
      refine ⟨_, rfl, _, asInts_map row, ?_⟩
      walk_at "w"
      refine ⟨⟨_, asTL_ref updM_same⟩, ?_⟩
      walk_at "w"
      refine ⟨⟨by omega, by omega⟩, ?_⟩
      walk_at "w"
      rw [show (t - row.sum + 1).toNat = ((t : Int) - row.sum).toNat.succ by omega, rangeD_map]
      refine comp_filter (List.range ((t : Int) - row.sum).toNat.succ) _ (fun c : Nat => intsD (row ++ [(c : Int)])) (fun c : Nat => decide (i + 1 < n) || decide ((c : Int) = t - row.sum)) [] (sizeK (by simp; omega)) (fun c hc Q' R q1 q2 => ?_) ?_
      · have e2 : D.tup (row.map D.int ++ [.int (c : Int)]) = intsD (row ++ [(c : Int)]) := by unfold intsD; rw [List.map_append]; rfl
        walk_at "w"
        refine iteB (fun h => ?_) (fun h => ?_)
        · have h := of_decide_eq_true h
          walk_at "w"
          refine ⟨sizeK (by simp), ?_⟩
          walk_at "w"
          refine ⟨sizeK (by simp; omega), ?_⟩
          rw [e2]
          exact q1 (by rw [decide_eq_true (by omega : i + 1 < n), Bool.true_or])
        · have h := of_decide_eq_false h
          walk_at "w"
          refine eqD_ok 1 rfl rfl ?_
          rw [show PyData.eqv (asData (updM M r (.lst ((pre'.flatMap (grow n t i)).map intsD))) (D.int (c : Int))).pd (asData (updM M r (.lst ((pre'.flatMap (grow n t i)).map intsD))) (D.int (t - row.sum))).pd = _ from eqv_int _ _]
          walk_at "w"
          refine iteB (fun h2 => ?_) (fun h2 => ?_)
          · walk_at "w"
            refine ⟨sizeK (by simp), ?_⟩
            walk_at "w"
            refine ⟨sizeK (by simp; omega), ?_⟩
            rw [e2]
            exact q1 (by rw [h2, Bool.or_true])
          · exact q2 (by rw [decide_eq_false (by omega : ¬ i + 1 < n), h2]; rfl)
      · walk_at "w"
        refine ⟨_, _, updM_same, rfl, ?_, ?_⟩
        · have hb := flatMap_len (grow n t i) 5 pre' (fun q hq => by
            unfold grow
            rw [List.length_map]
            refine Nat.le_trans (List.length_filter_le _ _) ?_
            rw [List.length_range]
            have := sum_nn ((hL.1 q).mp (by rw [e']; simp [hq])).2.1
            omega)
          have hf := List.length_filter_le (fun c : Nat => decide (i + 1 < n) || decide ((c : Int) = t - row.sum)) (List.range ((t : Int) - row.sum).toNat.succ)
          have hp : pre'.length ≤ L.length := by rw [e']; simp
          rw [List.length_range] at hf
          refine sizeK ?_
          simp only [List.length_map, List.nil_append]
          omega
        walk_at "w"
        rw [updM_upd]
        refine hK' _ _ ⟨_, _, _, rfl, ?_⟩
        rw [List.nil_append, List.flatMap_append, List.map_append, List.flatMap_cons, List.flatMap_nil, List.append_nil]
        unfold grow
        rw [List.map_map]
        rfl
    · rintro _ _ ⟨o5, o6, o7, rfl, rfl⟩
      walk_at "w"
      refine ⟨r, _, rfl, updM_same, ?_⟩
      walk_at "w"
      rw [dropM_upd hr]
      refine hK _ _ ⟨_, _, _, _, _, _, rfl, rfl, ?_⟩
      rw [List.length_append, ← hi]
      exact allP_succ (by rw [hi]; exact hL) hin ht
  · rintro _ _ ⟨o3, o4, o5, o6, o7, L, rfl, rfl, hL⟩
    rw [List.length_range] at hL
    walk_at "w"
    refine hQ L (fun v => ?_) ?_
    · rw [hL.1 v]
      exact ⟨fun h => ⟨h.1, h.2.1, h.2.2.2 (Nat.le_refl n)⟩, fun h => ⟨h.1, h.2.1, fun h' => by omega, fun _ => h.2.2⟩⟩
    · exact Nat.lt_of_le_of_lt (Nat.le_trans hL.2 (Nat.pow_le_pow_right (by decide) hn' : 5 ^ n ≤ 5 ^ 4)) (by decide)
def grow3 (row : List Int) : List (List Int) := [-1, 0, 1].map fun u => row ++ [u]
def FlP (i : Nat) (L : List (List Int)) : Prop := IsFlows i L ∧ L.length ≤ 3 ^ i
theorem flP_zero : FlP 0 [[]] := by
  refine ⟨fun v => ⟨fun h => ?_, fun h => ?_⟩, by simp⟩
  · simp at h; subst h; exact ⟨rfl, by simp⟩
  · have := List.length_eq_zero_iff.mp h.1; subst this; simp
theorem flP_succ {i : Nat} {L : List (List Int)} (h : FlP i L) : FlP (i + 1) (L.flatMap grow3) := by
  refine ⟨fun v => ⟨fun hv => ?_, fun ⟨h1, h2⟩ => ?_⟩, ?_⟩
  · obtain ⟨row, hr, hv⟩ := List.mem_flatMap.mp hv
    obtain ⟨c, hc, rfl⟩ := List.mem_map.mp hv
    obtain ⟨g1, g2⟩ := (h.1 row).mp hr
    refine ⟨by simp [g1], fun x hx => ?_⟩
    rcases List.mem_append.mp hx with hx | hx
    · exact g2 x hx
    · rw [List.mem_singleton.mp hx]
      simp at hc
      omega
  · obtain ⟨u, x, rfl, hu⟩ := snoc_of h1
    have hx := h2 x (by simp)
    refine List.mem_flatMap.mpr ⟨u, (h.1 u).mpr ⟨hu, fun y hy => h2 y (by simp [hy])⟩, List.mem_map.mpr ⟨x, ?_, rfl⟩⟩
    simp
    omega
  · have := flatMap_len grow3 3 L (fun row hr => by simp [grow3])
    have h2 := h.2
    rw [Nat.pow_succ]
    omega
theorem rd__law_flows : ∀ ds M Q E, sp__law_flows ds M Q E → t__law_flows (bodyD Q E) (startD 6 ds) M := by
  rintro ds M Q E ⟨n, rfl, hn, hQ⟩
  unfold t__law_flows
  walk_at "w"
  refine ⟨by decide, ?_⟩
  walk_at "w"
  refine ⟨sizeK (by simp), ?_⟩
  walk_at "w"
  refine ⟨⟨by omega, by omega⟩, ?_⟩
  walk_at "w"
  rw [Int.toNat_natCast, rangeD_map]
  refine for_inv (List.range n) _ (fun pre ds' M' => ∃ o2 o3 o4 o5 L, ds' = [some (.int n), some (.lst (L.map intsD)), o2, o3, o4, o5] ∧ M' = M ∧ FlP pre.length L) ⟨_, _, _, _, [[]], rfl, rfl, flP_zero⟩ ?_ ?_
  · rintro pre i post e _ _ ⟨o2, o3, o4, o5, L, rfl, rfl, hL⟩ K hK
    have hin : pre.length < n := by
      have := congrArg List.length e
      rw [List.length_range, List.length_append, List.length_cons] at this
      omega
    have hL5 : L.length ≤ 81 := Nat.le_trans hL.2 (Nat.pow_le_pow_right (by decide) (by omega : pre.length ≤ 4))
    rename_i M
    walk_at "w"
    refine ⟨by decide, fun r hr => ?_⟩
    walk_at "w"
    refine ⟨_, rfl, ?_⟩
    refine for_inv L intsD (fun pre' ds' M' => ∃ o4 o5, ds' = [some (.int n), some (.lst (L.map intsD)), some (.int i), some (.ref r), o4, o5] ∧ M' = updM M r (.lst ((pre'.flatMap grow3).map intsD))) ⟨_, _, rfl, rfl⟩ ?_ ?_
    · rintro pre' row post' e' _ _ ⟨o4, o5, rfl, rfl⟩ K' hK'
      have hrow : row ∈ L := by rw [e']; simp
      have hl : row.length = pre.length := ((hL.1 row).mp hrow).1
      walk_at "w"
      refine ⟨⟨_, asTL_ref updM_same⟩, ?_⟩
      walk_at "w"
      refine ⟨sizeK (by simp), ?_⟩
      walk_at "w"
      refine ⟨_, rfl, ?_⟩
      refine DL.comp_map [-1, 0, 1] D.int (fun u => intsD (row ++ [u])) [] (sizeK (by simp)) (fun u hu Q' q' => ?_) ?_
      · have e2 : D.tup (row.map D.int ++ [.int u]) = intsD (row ++ [u]) := by unfold intsD; rw [List.map_append]; rfl
        walk_at "w"
        refine ⟨sizeK (by simp), ?_⟩
        walk_at "w"
        refine ⟨sizeK (by simp; omega), ?_⟩
        rw [e2]
        exact q'
      · walk_at "w"
        refine ⟨_, _, updM_same, rfl, ?_, ?_⟩
        · have hb := flatMap_len grow3 3 pre' (fun q hq => by simp [grow3])
          have hp : pre'.length ≤ L.length := by rw [e']; simp
          refine sizeK ?_
          simp only [List.length_map, List.nil_append, List.length_cons, List.length_nil]
          omega
        walk_at "w"
        rw [updM_upd]
        refine hK' _ _ ⟨_, _, rfl, ?_⟩
        rw [List.nil_append, List.flatMap_append, List.map_append, List.flatMap_cons, List.flatMap_nil, List.append_nil]
        unfold grow3
        rw [List.map_map]
        rfl
    · rintro _ _ ⟨o4, o5, rfl, rfl⟩
      walk_at "w"
      refine ⟨r, _, rfl, updM_same, ?_⟩
      walk_at "w"
      rw [dropM_upd hr]
      refine hK _ _ ⟨_, _, _, _, _, rfl, rfl, ?_⟩
      rw [List.length_append]
      exact flP_succ hL
  · rintro _ _ ⟨o2, o3, o4, o5, L, rfl, rfl, hL⟩
    rw [List.length_range] at hL
    walk_at "w"
    exact hQ L hL.1 (Nat.lt_of_le_of_lt (Nat.le_trans hL.2 (Nat.pow_le_pow_right (by decide) hn : 3 ^ n ≤ 3 ^ 4)) (by decide))
end RW1

/-! M31: ways, flows, the search. Plain mathematics. -/
namespace RW1
open PySem PySem.Spec L2 DL
section
variable {a b : List Int} {t : Int}
/-- how far a place has moved -/
def gg (a b : List Int) (k m : Int) (i : Nat) : Int := (k * (pk b i - pk a i - (lmin (shf a b) + m))) / m
theorem headD_get {l : List Int} {x : Int} (h : l[0]? = some x) : l.headD 0 = x := by
  cases l with
  | nil => simp at h
  | cons y r => simpa using h
theorem pway_all (hl : a.length = b.length) (h0 : 0 < a.length) (k m : Int) (hm : m ≠ 0) :
    (pway a b k m).length = a.length ∧ (pway a b k m).sum = a.sum ∧ ∀ i, i < a.length → pk (pway a b k m) i = pk a i + gg a b k m i - gg a b k m 0 := by
  unfold pway
  generalize hS : ((ps 0 a).zip (shf a b ++ [(shf a b).headD 0])).map (fun p => (m * p.1 + k * (p.2 - (lmin (shf a b) + m))) / m) = S
  have hSl : S.length = a.length + 1 := by rw [← hS]; simp [ps_len, shf_len]; omega
  have h00 : (shf a b)[0]? = some 0 := by rw [shf_get h0 (hl ▸ h0), pk_zero, pk_zero]; rfl
  have hget : ∀ i (hi : i < S.length), S[i] = pk a i + gg a b k m (if i = a.length then 0 else i) := by
    intro i hi
    have hsh : (shf a b ++ [(shf a b).headD 0])[i]? = some (pk b (if i = a.length then 0 else i) - pk a (if i = a.length then 0 else i)) := by
      by_cases h : i = a.length
      · rw [if_pos h, h, List.getElem?_append_right (by rw [shf_len]; omega), shf_len, show a.length - min a.length b.length = 0 by omega, headD_get h00, pk_zero, pk_zero]; rfl
      · rw [if_neg h, List.getElem?_append_left (by rw [shf_len]; omega), shf_get (by omega) (by omega)]
    have e : S[i]? = some ((m * (0 + pk a i) + k * ((pk b (if i = a.length then 0 else i) - pk a (if i = a.length then 0 else i)) - (lmin (shf a b) + m))) / m) := by
      rw [← hS, List.getElem?_map, List.zip_eq_zipWith, List.getElem?_zipWith, ps_get 0 a i (by omega), hsh]
      rfl
    rw [List.getElem?_eq_getElem hi] at e
    rw [Option.some.inj e, Int.zero_add, Int.add_comm, Int.add_mul_ediv_left _ _ hm, Int.add_comm]
    rfl
  have g0 := hget 0 (by omega)
  rw [pk_zero, Int.zero_add, show (if 0 = a.length then 0 else 0) = 0 by split <;> rfl] at g0
  refine ⟨by rw [dif_len, hSl]; rfl, ?_, fun i hi => ?_⟩
  · rw [dif_sum S (by omega)]
    have := hget (S.length - 1) (by omega)
    rw [this, g0, hSl, Nat.add_sub_cancel, if_pos rfl, pk_all (Nat.le_refl _)]
    omega
  · rw [pk_dif S i (by omega), hget i (by omega), g0, if_neg (by omega)]
theorem gg_mix {k m : Int} (hk : 0 ≤ k) (hkm : k ≤ m) (hm : 0 < m) (i j : Nat) (d : Int) (hd : 0 ≤ d) (h : (pk b i - pk a i) - (pk b j - pk a j) ≤ d) : gg a b k m i - gg a b k m j ≤ d := by
  unfold gg
  generalize lmin (shf a b) + m = low
  generalize hu : pk b i - pk a i = u at h ⊢
  generalize hv : pk b j - pk a j = v at h ⊢
  have h1 : k * (u - low) ≤ k * (v - low) + m * d := by
    have e1 : k * (u - v) ≤ k * d := Int.mul_le_mul_of_nonneg_left h hk
    have e2 : k * d ≤ m * d := Int.mul_le_mul_of_nonneg_right hkm hd
    have e3 : k * (u - low) = k * (v - low) + k * (u - v) := by rw [← Int.mul_add]; congr 1; omega
    omega
  have h2 := Int.ediv_le_ediv hm h1
  rw [Int.add_mul_ediv_left _ _ (by omega)] at h2
  omega
theorem gg_step {k m : Int} (hm : 0 < m) (hl : a.length = b.length) (h0 : 0 < a.length) (hs : lst a b ≤ m) (i : Nat) (hi : i < a.length) : -1 ≤ gg a b (k + 1) m i - gg a b k m i ∧ gg a b (k + 1) m i - gg a b k m i ≤ 1 := by
  unfold gg
  have hmem := mem_shf hi (hl ▸ hi)
  have hge := lmin_le hmem
  obtain ⟨j, hj, ej⟩ := shf_mem hl (lmin_mem (shf_ne h0 (hl ▸ h0)))
  have hsp := (lst_le hl h0 m).mp hs i j hi hj
  have b1 : -m ≤ (pk b i - pk a i - (lmin (shf a b) + m)) := by omega
  have b2 : (pk b i - pk a i - (lmin (shf a b) + m)) ≤ m := by omega
  generalize pk b i - pk a i - (lmin (shf a b) + m) = w at b1 b2 ⊢
  have e : (k + 1) * w = k * w + w := by rw [Int.add_mul, Int.one_mul]
  have h1 := Int.ediv_le_ediv hm (show (k + 1) * w ≤ k * w + m * 1 by omega)
  have h2 := Int.ediv_le_ediv hm (show k * w + m * (-1) ≤ (k + 1) * w by omega)
  rw [Int.add_mul_ediv_left _ _ (by omega)] at h1 h2
  omega
/-- one step further -/
theorem pway_step {k m : Int} (hm : 0 < m) (hl : a.length = b.length) (h0 : 0 < a.length) (hs : lst a b ≤ m) : lst (pway a b k m) (pway a b (k + 1) m) ≤ 1 := by
  obtain ⟨l1, _, p1⟩ := pway_all hl h0 k m (by omega)
  obtain ⟨l2, _, p2⟩ := pway_all hl h0 (k + 1) m (by omega)
  refine (lst_le (l1.trans l2.symm) (by omega) 1).mpr fun i j hi hj => ?_
  have e1 := gg_step (k := k) hm hl h0 hs i (by omega)
  have e2 := gg_step (k := k) hm hl h0 hs j (by omega)
  rw [p1 i (by omega), p2 i (by omega), p1 j (by omega), p2 j (by omega)]
  omega
theorem pway_zero {m : Int} (hm : 0 < m) (hl : a.length = b.length) (h0 : 0 < a.length) : pway a b 0 m = a := by
  obtain ⟨l1, s1, p1⟩ := pway_all hl h0 0 m (by omega)
  refine pk_ext l1 s1 fun i hi => ?_
  rw [p1 i (by omega)]
  unfold gg
  rw [Int.zero_mul, Int.zero_mul]
  omega
theorem pway_end {m : Int} (hm : 0 < m) (hl : a.length = b.length) (h0 : 0 < a.length) (hs : a.sum = b.sum) : pway a b m m = b := by
  obtain ⟨l1, s1, p1⟩ := pway_all hl h0 m m (by omega)
  refine pk_ext (l1.trans hl) (s1.trans hs) fun i hi => ?_
  rw [p1 i (by omega)]
  unfold gg
  rw [Int.mul_ediv_cancel_left _ (by omega), Int.mul_ediv_cancel_left _ (by omega), pk_zero, pk_zero]
  omega
theorem pway_fits {n : Nat} {rs : List Rl} {k m : Int} (hk : 0 ≤ k) (hkm : k ≤ m) (hm : 0 < m) (ha : Fits n rs a) (hb : Fits n rs b) (h0 : 0 < n) (hs : a.sum = b.sum) (hr : ∀ r ∈ rs, RlIn n r) : Fits n rs (pway a b k m) := by
  have hl : a.length = b.length := ha.1.trans hb.1.symm
  have la := ha.1
  obtain ⟨l1, s1, p1⟩ := pway_all hl (by omega) k m (by omega)
  refine fits_mix ha hb rfl hs.symm (l1.trans ha.1) s1 hr fun i j hi hj c h1 h2 => ?_
  rw [p1 i (by omega), p1 j (by omega)]
  have := gg_mix (a := a) (b := b) hk hkm hm i j (c - (pk a i - pk a j)) (by omega) (by omega)
  omega
theorem pway_near {k : Nat} {m : Int} (hm : 0 < m) (hl : a.length = b.length) (h0 : 0 < a.length) (hs : lst a b ≤ m) : lst a (pway a b k m) ≤ k := by
  induction k with
  | zero => rw [show ((0 : Nat) : Int) = 0 from rfl, pway_zero hm hl h0, lst_self h0]; exact Int.le_refl _
  | succ k ih =>
    obtain ⟨l1, _, _⟩ := pway_all hl h0 (k : Int) m (by omega)
    obtain ⟨l2, _, _⟩ := pway_all hl h0 ((k : Int) + 1) m (by omega)
    have := lst_tri l1.symm (l1.trans l2.symm) h0 ih (pway_step (k := (k : Int)) hm hl h0 hs)
    simpa using this
/-- before the last step -/
theorem before {n : Nat} {rs : List Rl} (ha : Fits n rs a) (hb : Fits n rs b) (h0 : 0 < n) (hs : a.sum = b.sum) (hr : ∀ r ∈ rs, RlIn n r) (d : Nat) (hd : lst a b = d + 1) :
    ∃ p, Fits n rs p ∧ p.sum = a.sum ∧ lst a p = d ∧ lst p b ≤ 1 := by
  have hl : a.length = b.length := ha.1.trans hb.1.symm
  have la := ha.1
  have hm : (0 : Int) < d + 1 := by omega
  obtain ⟨l1, s1, _⟩ := pway_all hl (by omega) (d : Int) (d + 1) (by omega)
  have st := pway_step (k := (d : Int)) hm hl (by omega) (by omega)
  rw [pway_end hm hl (by omega) hs] at st
  refine ⟨pway a b d (d + 1), pway_fits (by omega) (by omega) hm ha hb h0 hs hr, s1, ?_, st⟩
  have g1 := pway_near (k := d) hm hl (by omega) (by omega)
  have g2 := lst_tri l1.symm (l1.trans hl) (by omega) (Int.le_refl _) st
  omega
theorem lst_nat (hl : a.length = b.length) (h0 : 0 < a.length) : ∃ d : Nat, lst a b = d := ⟨(lst a b).toNat, by have := lst_nn hl h0; omega⟩
end
/-! ### flows -/
theorem sent_len (f w : List Int) : (sent f w).length = f.length := by simp [sent]
theorem sent_pk (f w : List Int) (h0 : 0 < f.length) : (∀ i, i < f.length → pk (sent f w) i = pk f i + w.getD 0 0 - w.getD i 0) ∧ (sent f w).sum = f.sum := by
  have hg : ∀ i, i < f.length → (sent f w).getD i 0 = f.getD i 0 + w.getD i 0 - w.getD ((i + 1) % f.length) 0 := fun i hi => by
    unfold sent
    rw [List.getD_eq_getElem?_getD, List.getElem?_map, List.getElem?_range hi]
    rfl
  have key : ∀ i, i < f.length → pk (sent f w) i = pk f i + w.getD 0 0 - w.getD i 0 := by
    intro i
    induction i with
    | zero => intro _; rw [pk_zero, pk_zero]; omega
    | succ i ih =>
      intro hi
      rw [pk_succ (by rw [sent_len]; omega), ih (by omega), hg i (by omega), pk_succ (x := f) (by omega), Nat.mod_eq_of_lt hi]
      omega
  refine ⟨key, ?_⟩
  obtain ⟨m, hm⟩ : ∃ m, f.length = m + 1 := ⟨f.length - 1, by omega⟩
  rw [← pk_all (x := sent f w) (n := m + 1) (by rw [sent_len]; omega), ← pk_all (x := f) (n := m + 1) (by omega), pk_succ (by rw [sent_len]; omega), key m (by omega), hg m (by omega), pk_succ (x := f) (by omega), ← hm, Nat.mod_self]
  omega
theorem sent_near {f w : List Int} (h0 : 0 < f.length) (hw : w.length = f.length) (hb : ∀ v ∈ w, -1 ≤ v ∧ v ≤ 1) : lst f (sent f w) ≤ 1 := by
  refine (lst_le (sent_len f w).symm h0 1).mpr fun i j hi hj => ?_
  obtain ⟨p, _⟩ := sent_pk f w h0
  have g : ∀ i, i < f.length → -1 ≤ w.getD i 0 ∧ w.getD i 0 ≤ 1 := fun i hi => by
    rw [List.getD_eq_getElem?_getD, List.getElem?_eq_getElem (by omega)]
    exact hb _ (List.getElem_mem _)
  rw [p i hi, p j hj]
  have := g i hi
  have := g j hj
  omega
theorem near_sent {f g : List Int} (h0 : 0 < f.length) (hl : f.length = g.length) (hs : f.sum = g.sum) (h : lst f g ≤ 1) : ∃ w : List Int, w.length = f.length ∧ (∀ v ∈ w, -1 ≤ v ∧ v ≤ 1) ∧ sent f w = g := by
  refine ⟨(List.range f.length).map fun i => lmax (shf f g) - 1 - (pk g i - pk f i), by simp, fun v hv => ?_, ?_⟩
  · obtain ⟨i, hi, rfl⟩ := List.mem_map.mp hv
    have hi := List.mem_range.mp hi
    have h1 := lmax_ge (mem_shf hi (hl ▸ hi))
    obtain ⟨j, hj, ej⟩ := shf_mem hl (lmax_mem (shf_ne h0 (hl ▸ h0)))
    have := (lst_le hl h0 1).mp h j i hj hi
    omega
  · obtain ⟨p, s⟩ := sent_pk f ((List.range f.length).map fun i => lmax (shf f g) - 1 - (pk g i - pk f i)) h0
    refine pk_ext ((sent_len f _).trans hl) (s.trans hs) fun i hi => ?_
    rw [sent_len] at hi
    have gd : ∀ i, i < f.length → ((List.range f.length).map fun i => lmax (shf f g) - 1 - (pk g i - pk f i)).getD i 0 = lmax (shf f g) - 1 - (pk g i - pk f i) := fun i hi => by
      rw [List.getD_eq_getElem?_getD, List.getElem?_map, List.getElem?_range hi]; rfl
    rw [p i hi, gd 0 h0, gd i hi, pk_zero, pk_zero]
    omega
/-! ### the ways of the program -/
theorem way_two {n : Nat} {rs : List Rl} {a b : List Int} (ha : Fits n rs a) (hb : Fits n rs b) (hs : a.sum = b.sum) : wayOk n rs a b [a, b] = decide (lst a b ≤ 1) := by
  unfold wayOk isst
  simp [ha, hb, hs]
theorem way_all {n : Nat} {rs : List Rl} {a b : List Int} (ha : Fits n rs a) (hb : Fits n rs b) (h0 : 0 < n) (hs : a.sum = b.sum) (hr : ∀ r ∈ rs, RlIn n r) :
    wayOk n rs a b (a :: (List.range (lst a b).toNat).map fun i : Nat => pway a b (1 + (i : Int)) (lst a b)) = true := by
  have hl : a.length = b.length := ha.1.trans hb.1.symm
  have la := ha.1
  obtain ⟨m, hm⟩ := lst_nat hl (by omega)
  rw [hm, Int.toNat_natCast]
  rcases Nat.eq_zero_or_pos m with h | h
  · subst h
    have : a = b := lst_zero hl (by omega) hs (by omega)
    subst this
    simp [wayOk, ha]
  have hm' : (0 : Int) < m := by omega
  have e : (a :: (List.range m).map fun i : Nat => pway a b (1 + (i : Int)) m) = (List.range (m + 1)).map fun i : Nat => pway a b (i : Int) m := by
    rw [List.range_succ_eq_map, List.map_cons, List.map_map]
    congr 1
    · exact (pway_zero hm' hl (by omega)).symm
    · refine List.map_congr_left fun i _ => ?_
      show pway a b (1 + (i : Int)) m = pway a b ((i + 1 : Nat) : Int) m
      congr 1
      omega
  rw [e]
  unfold wayOk
  rw [Bool.and_eq_true, Bool.and_eq_true, Bool.and_eq_true, List.all_eq_true, List.all_eq_true]
  refine ⟨fun f hf => ?_, ?_, ?_, fun p hp => ?_⟩
  · obtain ⟨i, hi, rfl⟩ := List.mem_map.mp hf
    have hi := List.mem_range.mp hi
    exact decide_eq_true (pway_fits (by omega) (by omega) hm' ha hb h0 hs hr)
  · rw [← e]; simp
  · rw [List.getLast?_map, List.range_succ, List.getLast?_append]
    simp only [List.getLast?_singleton, Option.some_or, Option.map_some, decide_eq_true_eq, Option.some.injEq]
    exact pway_end hm' hl (by omega) hs
  · obtain ⟨i, hi, rfl⟩ := List.mem_iff_getElem.mp hp
    simp at hi
    have g1 : ((List.range (m + 1)).map fun i : Nat => pway a b (i : Int) m)[i]'(by simp; omega) = pway a b (i : Int) m := by simp
    have g2 : (((List.range (m + 1)).map fun i : Nat => pway a b (i : Int) m).drop 1)[i]'(by simp; omega) = pway a b ((i : Int) + 1) m := by
      simp
    rw [List.getElem_zip, g1, g2]
    unfold isst
    rw [Bool.and_eq_true]
    obtain ⟨_, s1, _⟩ := pway_all hl (by omega) (i : Int) m (by omega)
    obtain ⟨_, s2, _⟩ := pway_all hl (by omega) ((i : Int) + 1) m (by omega)
    exact ⟨decide_eq_true (s1.trans s2.symm), decide_eq_true (pway_step hm' hl (by omega) (by omega))⟩
end RW1

/-! B31: the search of the law k31 finds the fewest steps. -/
namespace RW1
open PySem PySem.Spec L2 DL
local macro_rules | `(tactic| walk_at "w") => `(tactic| conv => whnf)
def kvsOf (one : List Int) (fs : List (List Int)) : List (List Key × D) := fs.map fun v => (keyI v, .int (lst one v))
theorem keyI_inj {a b : List Int} (h : keyI a = keyI b) : a = b := by
  unfold keyI at h
  exact List.map_inj_right (fun _ _ h => Sum.inl.inj h) |>.mp h
theorem valD_kvs (one : List Int) : ∀ (fs : List (List Int)) (v : List Int), valD (kvsOf one fs) (keyI v) = if v ∈ fs then some (.int (lst one v)) else none
  | [], v => by simp [valD, kvsOf]
  | f :: fs, v => by
    have ih := valD_kvs one fs v
    unfold valD kvsOf at ih ⊢
    rw [List.map_cons, List.find?_cons]
    by_cases h : f = v
    · subst h; simp
    · have : ¬ keyI f = keyI v := fun e => h (keyI_inj e)
      simp only [this, decide_false]
      rw [ih]
      have e : (v ∈ f :: fs) = (v ∈ fs) := by simp [Ne.symm h]
      simp only [e]
theorem putT_kvs {one v : List Int} {fs : List (List Int)} {d : D} (h : v ∉ fs) (hd : d = .int (lst one v)) : putT (kvsOf one fs) (keyI v) d = kvsOf one (fs ++ [v]) := by
  unfold putT
  have : ((kvsOf one fs).any fun kv => decide (kv.1 = keyI v)) = false := by
    rw [List.any_eq_false]
    intro kv hkv
    obtain ⟨f, hf, rfl⟩ := List.mem_map.mp hkv
    simp only [decide_eq_true_eq]
    exact fun e => h (keyI_inj e ▸ hf)
  rw [this, if_neg (by decide), hd]
  simp [kvsOf]
theorem keys_ints : ∀ v : List Int, D.keys (v.map D.int) = some (keyI v)
  | [] => rfl
  | x :: v => by rw [List.map_cons, D.keys, keys_ints v]; rfl
theorem tkey_ints (v : List Int) : D.tkey (intsD v) = some (keyI v) := keys_ints v
theorem nodup_le {α : Type} [DecidableEq α] : ∀ {l m : List α}, l.Nodup → (∀ x ∈ l, x ∈ m) → l.length ≤ m.length
  | [], _, _, _ => Nat.zero_le _
  | x :: l, m, h, g => by
    obtain ⟨h1, h2⟩ := List.nodup_cons.mp h
    have hx := g x List.mem_cons_self
    have := nodup_le (l := l) (m := m.erase x) h2 (fun y hy => (List.mem_erase_of_ne (fun e => by subst e; exact h1 hy)).mpr (g y (List.mem_cons_of_mem x hy)))
    rw [List.length_erase_of_mem hx] at this
    have : 0 < m.length := List.length_pos_of_mem hx
    rw [List.length_cons]; omega
section
variable {n : Nat} {t : Int} {rs : List Rl} {one : List Int} {every : List (List Int)}
structure Srch (one : List Int) (every fs rows : List (List Int)) : Prop where
  nd : fs.Nodup
  sub : ∀ v ∈ fs, v ∈ every
  rsub : ∀ v ∈ rows, v ∈ fs
  ord : rows.Pairwise fun a b => lst one a ≤ lst one b
  span : ∀ x r, rows = x :: r → ∀ v ∈ rows, lst one v ≤ lst one x + 1
  done : ∀ v ∈ fs, v ∉ rows → ∀ u ∈ every, lst v u ≤ 1 → u ∈ fs
  low : ∀ x r, rows = x :: r → ∀ v ∈ every, lst one v ≤ lst one x → v ∈ fs
  one : one ∈ fs
  rnd : rows.Nodup
structure Turn (one x : List Int) (every fs new pre : List (List Int)) : Prop where
  nd : (fs ++ new).Nodup
  sub : ∀ v ∈ new, v ∈ every
  lev : ∀ v ∈ new, lst one v = lst one x + 1
  seen : ∀ w ∈ pre, sent x w ∈ every → sent x w ∈ fs ++ new
theorem pred_of (hE : ∀ v, v ∈ every ↔ Fits n rs v ∧ v.sum = t) (h0 : 0 < n) (hr : ∀ r ∈ rs, RlIn n r) (h1 : one ∈ every) {v : List Int} (hv : v ∈ every) (d : Nat) (hd : lst one v = d + 1) : ∃ p ∈ every, lst one p = d ∧ lst p v ≤ 1 := by
  obtain ⟨f1, s1⟩ := (hE one).mp h1
  obtain ⟨f2, s2⟩ := (hE v).mp hv
  obtain ⟨p, g1, g2, g3, g4⟩ := before f1 f2 h0 (s1.trans s2.symm) hr d hd
  exact ⟨p, (hE p).mpr ⟨g1, g2.trans s1⟩, g3, g4⟩
theorem lst_nat' (hE : ∀ v, v ∈ every ↔ Fits n rs v ∧ v.sum = t) (h0 : 0 < n) {a b : List Int} (ha : a ∈ every) (hb : b ∈ every) : ∃ d : Nat, lst a b = d := by
  have l1 := ((hE a).mp ha).1.1
  have l2 := ((hE b).mp hb).1.1
  exact lst_nat (l1.trans l2.symm) (by omega)
theorem srch_start (hE : ∀ v, v ∈ every ↔ Fits n rs v ∧ v.sum = t) (h0 : 0 < n) (h1 : one ∈ every) : Srch one every [one] [one] := by
  have l1 := ((hE one).mp h1).1.1
  have z := lst_self (a := one) (by omega)
  refine ⟨by simp, by simpa using h1, by simp, by simp, fun x r e v hv => ?_, by simp, fun x r e v hv h => ?_, by simp, by simp⟩
  · cases e; simp at hv; subst hv; omega
  · cases e
    obtain ⟨f2, s2⟩ := (hE v).mp hv
    obtain ⟨f1, s1⟩ := (hE one).mp h1
    have := lst_zero (a := one) (b := v) (l1.trans f2.1.symm) (by omega) (s1.trans s2.symm) (by omega)
    subst this; simp
theorem srch_turn (hE : ∀ v, v ∈ every ↔ Fits n rs v ∧ v.sum = t) (h0 : 0 < n) (hr : ∀ r ∈ rs, RlIn n r) (h1 : one ∈ every) {x : List Int} {rest fs new L : List (List Int)} (hL : IsFlows n L) (S : Srch one every fs (x :: rest)) (T : Turn one x every fs new L) :
    Srch one every (fs ++ new) (rest ++ new) := by
  have hx : x ∈ every := S.sub x (S.rsub x List.mem_cons_self)
  have lx := ((hE x).mp hx).1.1
  have xrest : ∀ v ∈ rest, lst one x ≤ lst one v := fun v hv => (List.pairwise_cons.mp S.ord).1 v hv
  have rng : ∀ v ∈ rest ++ new, lst one x ≤ lst one v ∧ lst one v ≤ lst one x + 1 := fun v hv => by
    rcases List.mem_append.mp hv with hv | hv
    · exact ⟨xrest v hv, S.span x rest rfl v (List.mem_cons_of_mem x hv)⟩
    · have := T.lev v hv; omega
  have done' : ∀ v ∈ fs ++ new, v ∉ rest ++ new → ∀ u ∈ every, lst v u ≤ 1 → u ∈ fs ++ new := by
    intro v hv hn u hu hvu
    have hn1 : v ∉ rest := fun h => hn (List.mem_append_left _ h)
    have hn2 : v ∉ new := fun h => hn (List.mem_append_right _ h)
    have hvf : v ∈ fs := (List.mem_append.mp hv).resolve_right hn2
    by_cases e : v = x
    · subst e
      obtain ⟨f2, s2⟩ := (hE u).mp hu
      obtain ⟨f1, s1⟩ := (hE v).mp hx
      obtain ⟨w, w1, w2, w3⟩ := near_sent (f := v) (g := u) (by omega) (lx.trans f2.1.symm) (s1.trans s2.symm) hvu
      have := T.seen w ((hL w).mpr ⟨w1.trans lx, w2⟩) (by rw [w3]; exact hu)
      rw [w3] at this
      exact this
    · exact List.mem_append_left _ (S.done v hvf (fun h => (List.mem_cons.mp h).elim e hn1) u hu hvu)
  refine ⟨T.nd, fun v hv => (List.mem_append.mp hv).elim (S.sub v) (T.sub v), fun v hv => ?_, ?_, fun y r e v hv => ?_, done', fun y r e v hv h => ?_, List.mem_append_left _ S.one, List.nodup_append.mpr ⟨(List.nodup_cons.mp S.rnd).2, (List.nodup_append.mp T.nd).2.1, fun a ha b hb => (List.nodup_append.mp T.nd).2.2 a (S.rsub a (List.mem_cons_of_mem x ha)) b hb⟩⟩
  · rcases List.mem_append.mp hv with hv | hv
    · exact List.mem_append_left _ (S.rsub v (List.mem_cons_of_mem x hv))
    · exact List.mem_append_right _ hv
  · refine List.pairwise_append.mpr ⟨(List.pairwise_cons.mp S.ord).2, ?_, fun a ha b hb => ?_⟩
    · rw [List.pairwise_iff_getElem]
      intro i j hi hj _
      rw [T.lev _ (List.getElem_mem hi), T.lev _ (List.getElem_mem hj)]
      exact Int.le_refl _
    · rw [T.lev b hb]; exact (rng a (List.mem_append_left _ ha)).2
  · have h1 := (rng y (by rw [e]; exact List.mem_cons_self)).1
    have h2 := (rng v hv).2
    omega
  · have hy := rng y (by rw [e]; exact List.mem_cons_self)
    by_cases hvx : lst one v ≤ lst one x
    · exact List.mem_append_left _ (S.low x rest rfl v hv hvx)
    · have hyl : lst one y = lst one x + 1 := by omega
      obtain ⟨d, hd⟩ := lst_nat' hE h0 h1 hx
      obtain ⟨p, p1, p2, p3⟩ := pred_of hE h0 hr h1 hv d (by omega)
      have hp : p ∈ fs := S.low x rest rfl p p1 (by omega)
      refine done' p (List.mem_append_left _ hp) (fun hpr => ?_) v hv p3
      have hord : (rest ++ new).Pairwise fun a b => lst one a ≤ lst one b := by
        refine List.pairwise_append.mpr ⟨(List.pairwise_cons.mp S.ord).2, ?_, fun a ha b hb => ?_⟩
        · rw [List.pairwise_iff_getElem]
          intro i j hi hj _
          rw [T.lev _ (List.getElem_mem hi), T.lev _ (List.getElem_mem hj)]
          exact Int.le_refl _
        · rw [T.lev b hb]; exact (rng a (List.mem_append_left _ ha)).2
      rw [e] at hord hpr
      have := (List.pairwise_cons.mp hord).1
      rcases List.mem_cons.mp hpr with hpr | hpr
      · subst hpr; omega
      · have := this p hpr; omega
theorem srch_end (hE : ∀ v, v ∈ every ↔ Fits n rs v ∧ v.sum = t) (h0 : 0 < n) (hr : ∀ r ∈ rs, RlIn n r) (h1 : one ∈ every) {fs : List (List Int)} (S : Srch one every fs []) : ∀ v ∈ every, v ∈ fs := by
  have key : ∀ (d : Nat) v, v ∈ every → lst one v = d → v ∈ fs := by
    intro d
    induction d with
    | zero =>
      intro v hv hd
      obtain ⟨f2, s2⟩ := (hE v).mp hv
      obtain ⟨f1, s1⟩ := (hE one).mp h1
      have l1 := f1.1
      have := lst_zero (a := one) (b := v) (f1.1.trans f2.1.symm) (by omega) (s1.trans s2.symm) (by omega)
      subst this; exact S.one
    | succ d ih =>
      intro v hv hd
      obtain ⟨p, p1, p2, p3⟩ := pred_of hE h0 hr h1 hv d (by omega)
      exact S.done p (ih p p1 p2) (by simp) v hv p3
  intro v hv
  obtain ⟨d, hd⟩ := lst_nat' hE h0 h1 hv
  exact key d v hv hd
theorem turn_skip {x w : List Int} {fs new pre : List (List Int)} (T : Turn one x every fs new pre) (h : sent x w ∈ every → sent x w ∈ fs ++ new) : Turn one x every fs new (pre ++ [w]) :=
  ⟨T.nd, T.sub, T.lev, fun u hu => by
    rcases List.mem_append.mp hu with hu | hu
    · exact T.seen u hu
    · rw [List.mem_singleton.mp hu]; exact h⟩
theorem turn_add {x w : List Int} {rest fs new pre : List (List Int)} (hE : ∀ v, v ∈ every ↔ Fits n rs v ∧ v.sum = t) (h0 : 0 < n) (h1 : one ∈ every) (S : Srch one every fs (x :: rest)) (hw : w.length = n ∧ ∀ v ∈ w, -1 ≤ v ∧ v ≤ 1) (T : Turn one x every fs new pre)
    (h : sent x w ∈ every) (h2 : sent x w ∉ fs ++ new) : Turn one x every fs (new ++ [sent x w]) (pre ++ [w]) ∧ lst one (sent x w) = lst one x + 1 := by
  have hx : x ∈ every := S.sub x (S.rsub x List.mem_cons_self)
  have lx := ((hE x).mp hx).1.1
  have l1 := ((hE one).mp h1).1.1
  have nr := sent_near (f := x) (w := w) (by omega) (hw.1.trans lx.symm) hw.2
  have up := lst_tri (a := one) (b := x) (c := sent x w) (l1.trans lx.symm) (sent_len x w).symm (by omega) (Int.le_refl _) nr
  have lev : lst one (sent x w) = lst one x + 1 := by
    by_cases hh : lst one (sent x w) ≤ lst one x
    · exact absurd (List.mem_append_left _ (S.low x rest rfl _ h hh)) h2
    · omega
  refine ⟨⟨?_, fun v hv => ?_, fun v hv => ?_, fun u hu hu2 => ?_⟩, lev⟩
  · rw [← List.append_assoc]
    exact List.nodup_append.mpr ⟨T.nd, by simp, fun a ha b hb e => h2 (by rw [List.mem_singleton.mp hb] at e; exact e ▸ ha)⟩
  · rcases List.mem_append.mp hv with hv | hv
    · exact T.sub v hv
    · rw [List.mem_singleton.mp hv]; exact h
  · rcases List.mem_append.mp hv with hv | hv
    · exact T.lev v hv
    · rw [List.mem_singleton.mp hv]; exact lev
  · rw [← List.append_assoc]
    rcases List.mem_append.mp hu with hu | hu
    · exact List.mem_append_left _ (T.seen u hu hu2)
    · rw [List.mem_singleton.mp hu]; exact List.mem_append_right _ (by simp)
end
theorem asData_ref {M : MS} {a : Addr} {l : List D} (h : M a = some (.lst l)) : asData M (.ref a) = .lst l := by unfold asData; simp only [h]
theorem upd3 {M : MS} {d r : Addr} {A A' B : MO} (h : d ≠ r) : updM (updM (updM M d A) r B) d A' = updM (updM M d A') r B := by
  rw [updM_comm (Ne.symm h), updM_upd]
theorem flat_intssL (n : Nat) (w : List (List Int)) : (D.lst (w.map intsD)).flat (n + 2) = true := by
  rw [D.flat, flats_all, List.all_map, List.all_eq_true]
  intro x _
  exact flat_ints n x
theorem inD_ok {M : MS} {y : List Int} {every : List (List Int)} {C : Prop} (c : C) : (asData M (intsD y)).plain = true ∧ D.plains (every.map intsD) = true ∧ SeqAt.shaped (asData M (intsD y)).pd = true ∧ SeqAt.shaped (.list (D.pds (every.map intsD))) = true ∧ C := by
  obtain ⟨a1, a2, a3⟩ := flat_ok (flat_ints 0 y)
  obtain ⟨b1, b2, b3⟩ := flat_ok (flat_intssL 0 every)
  exact ⟨a1, by simpa [D.plain] using b1, by show (PyData.canLay0 (intsD y).pd && _) = true; rw [show PyData.canLay0 (intsD y).pd = true from a2, Bool.true_and]; exact decide_eq_true (Nat.le_trans a3 (by decide)),
    by show (PyData.canLay0 (D.lst (every.map intsD)).pd && decide (PyData.depth (D.lst (every.map intsD)).pd ≤ 64)) = true; rw [b2, Bool.true_and]; exact decide_eq_true (Nat.le_trans b3 (by decide)), c⟩
theorem any_in (y : List Int) : ∀ every : List (List Int), ((D.pds (every.map intsD)).any fun z => PyData.eqv z (intsD y).pd) = decide (y ∈ every)
  | [] => by simp [D.pds]
  | f :: r => by
    rw [List.map_cons, D.pds, List.any_cons, any_in y r]
    rw [show PyData.eqv (intsD f).pd (intsD y).pd = decide (f = y) from eqv_ints f y]
    by_cases h : f = y
    · subst h; simp
    · simp [h, Ne.symm h]
theorem rd__law_reached : ∀ ds M Q E, sp__law_reached ds M Q E → t__law_reached (bodyD Q E) (startD 8 ds) M := by
  rintro ds M Q E ⟨n, t, rs, one, every, rfl, h0, h4, h1, hE, hlen, hr, hQ⟩
  have l1 := ((hE one).mp h1).1.1
  unfold t__law_reached
  walk_at "w"
  refine ⟨_, rfl, ?_⟩
  walk_at "w"
  refine ⟨n, by rw [List.length_map, l1]; rfl, h4, fun L hL hLl => ?_⟩
  walk_at "w"
  intro d hd
  walk_at "w"
  refine ⟨updM_same, keyI one, tkey_ints one, ?_⟩
  walk_at "w"
  rw [updM_upd]
  refine ⟨sizeK (by simp), fun r hr' => ?_⟩
  have hdr : d ≠ r := fun e => by subst e; rw [updM_same] at hr'; cases hr'
  rw [updM_ne (Ne.symm hdr)] at hr'
  walk_at "w"
  refine ⟨fun m ds' M' => ∃ fs rows o5 o6 o7, ds' = [some (intsD one), some (D.lst (every.map intsD)), some (D.lst (L.map intsD)), some (.ref d), some (.ref r), o5, o6, o7] ∧
    M' = updM (updM M d (.dT (kvsOf one fs))) r (.lst (rows.map intsD)) ∧ Srch one every fs rows ∧ m = 2 * (every.length - fs.length) + rows.length, ⟨_, [one], [one], none, none, none, rfl, ?_, srch_start hE h0 h1, rfl⟩, ?_⟩
  · rw [show kvsOf one [one] = [(keyI one, .int 0)] by simp [kvsOf, lst_self (a := one) (by omega)]]
    rfl
  rintro m _ _ ⟨fs, rows, o5, o6, o7, rfl, rfl, S, rfl⟩
  walk_at "w"
  refine ⟨by decide, ?_⟩
  walk_at "w"
  refine eqD_ok 2 (by rw [asData_ref updM_same]; exact flat_intssL 0 rows) rfl ?_
  rw [asData_ref updM_same, show PyData.eqv (D.lst (rows.map intsD)).pd (asData (updM (updM M d (.dT (kvsOf one fs))) r (.lst (rows.map intsD))) (D.lst [])).pd = _ from eqv_lst_nil _]
  walk_at "w"
  refine iteB (fun h => ?_) (fun h => ?_)
  · obtain ⟨x, rest, rfl⟩ : ∃ x rest, rows = x :: rest := by
      cases rows with
      | nil => simp at h
      | cons x rest => exact ⟨x, rest, rfl⟩
    have hx : x ∈ every := S.sub x (S.rsub x List.mem_cons_self)
    have lx := ((hE x).mp hx).1.1
    walk_at "w"
    refine ⟨⟨_, asTL_ref updM_same⟩, ?_⟩
    walk_at "w"
    refine ⟨_, 0, intsD x, updM_same, by decide, by decide, by simp [seqIndex?], rfl, ?_⟩
    walk_at "w"
    refine ⟨_, rfl, ?_⟩
    rw [updM_upd]
    refine for_inv L intsD (fun pre ds' M' => ∃ new o6 o7, ds' = [some (intsD one), some (D.lst (every.map intsD)), some (D.lst (L.map intsD)), some (.ref d), some (.ref r), some (intsD x), o6, o7] ∧
      M' = updM (updM M d (.dT (kvsOf one (fs ++ new)))) r (.lst ((rest ++ new).map intsD)) ∧ Turn one x every fs new pre) ⟨[], o6, o7, rfl, ?_, ⟨by simpa using S.nd, by simp, by simp, by simp⟩⟩ ?_ ?_
    · rw [List.append_nil, List.append_nil]; rfl
    · rintro pre w post e _ _ ⟨new, o6, o7, rfl, rfl, T⟩ K hK
      have hw := (hL w).mp (by rw [e]; simp)
      walk_at "w"
      refine ⟨x, w, rfl, by omega, by omega, hw.1.trans lx.symm, ?_⟩
      walk_at "w"
      refine ⟨_, rfl, ?_⟩
      refine inD_ok ?_
      have hMd : updM (updM M d (.dT (kvsOf one (fs ++ new)))) r (.lst ((rest ++ new).map intsD)) d = some (.dT (kvsOf one (fs ++ new))) := by rw [updM_ne hdr, updM_same]
      generalize hM2 : updM (updM M d (.dT (kvsOf one (fs ++ new)))) r (.lst ((rest ++ new).map intsD)) = M2 at hMd ⊢
      rw [show ((D.pds (every.map intsD)).any fun z => PyData.eqv z (asData M2 (intsD (sent x w))).pd) = _ from any_in (sent x w) every]
      have skip : (sent x w ∈ every → sent x w ∈ fs ++ new) → K [some (intsD one), some (D.lst (every.map intsD)), some (D.lst (L.map intsD)), some (.ref d), some (.ref r), some (intsD x), some (intsD w), some (intsD (sent x w))] M2 := fun hsk =>
        hK _ _ ⟨new, _, _, rfl, hM2.symm, turn_skip T hsk⟩
      walk_at "w"
      refine iteB (fun hin => ?_) (fun hin => ?_)
      · have hin := of_decide_eq_true hin
        walk_at "w"
        refine ⟨_, _, hMd, tkey_ints (sent x w), ?_⟩
        rw [valD_kvs]
        by_cases hf : sent x w ∈ fs ++ new
        · rw [if_pos hf]
          exact skip fun _ => hf
        · rw [if_neg hf]
          have hx2 : x ∈ fs ++ new := List.mem_append_left _ (S.rsub x List.mem_cons_self)
          obtain ⟨T', lev⟩ := turn_add hE h0 h1 S hw T hin hf
          walk_at "w"
          refine ⟨_, _, .int (lst one x), hMd, tkey_ints x, by rw [valD_kvs, if_pos hx2], ?_⟩
          walk_at "w"
          have hle := nodup_le T.nd (fun v hv => (List.mem_append.mp hv).elim (S.sub v) (T.sub v))
          have hle2 : (rest ++ new).length ≤ (fs ++ new).length + 1000 := by
            have := nodup_le (List.nodup_cons.mp S.rnd).2 (fun v hv => S.rsub v (List.mem_cons_of_mem x hv))
            simp only [List.length_append]; omega
          refine ⟨_, _, hMd, tkey_ints (sent x w), sizeKlt (by simp only [kvsOf, List.length_map]; omega), ?_⟩
          rw [putT_kvs hf (by rw [lev])]
          have hMr : updM M2 d (.dT (kvsOf one (fs ++ new ++ [sent x w]))) r = some (.lst ((rest ++ new).map intsD)) := by rw [updM_ne (Ne.symm hdr), ← hM2, updM_same]
          walk_at "w"
          refine ⟨⟨_, asTL_ref hMr⟩, ?_⟩
          walk_at "w"
          refine ⟨_, hMr, sizeKlt (by rw [List.length_map]; omega), ?_⟩
          refine hK _ _ ⟨new ++ [sent x w], _, _, rfl, ?_, T'⟩
          rw [← hM2, upd3 hdr, updM_upd]
          simp only [List.append_assoc, List.map_append, List.map_cons, List.map_nil]
      · have hin := of_decide_eq_false hin
        exact skip fun h => absurd h hin
    · rintro _ _ ⟨new, o6, o7, rfl, rfl, T⟩
      have S' := srch_turn hE h0 hr h1 hL S T
      have hle := nodup_le S'.nd S'.sub
      refine ⟨_, ?_, fs ++ new, rest ++ new, _, _, _, rfl, rfl, S', rfl⟩
      simp only [List.length_append, List.length_cons] at hle ⊢
      omega
  · have : rows = [] := by simpa using h
    subst this
    walk_at "w"
    refine hQ d (kvsOf one fs) _ (by rw [updM_ne hdr, updM_same]) hd (fun c hc => ?_) fun v hv => ?_
    · have c1 : c ≠ d := fun e => hc (by rw [e]; exact hd)
      have c2 : c ≠ r := fun e => hc (by rw [e]; exact hr')
      rw [updM_ne c2, updM_ne c1]
    · rw [valD_kvs, if_pos (srch_end hE h0 hr h1 S v hv)]
end RW1

/-! L31: the law k31 itself. -/
namespace RW1
open PySem PySem.Spec L2 DL
local macro_rules | `(tactic| walk_at "w") => `(tactic| conv => whnf)
theorem strOk_ofString (s : String) : PyData.strOk (Str.ofString s) = true := by
  unfold PyData.strOk Str.ofString
  simp only [List.all_toArray, List.all_eq_true, decide_eq_true_eq]
  rw [cpsOfBytes_string]
  intro x hx
  obtain ⟨c, _, rfl⟩ := List.mem_map.mp hx
  have := c.valid
  unfold UInt32.isValidChar Nat.isValidChar at this
  show c.val.toNat < 1114112
  omega
theorem flat_str (s : String) : (D.str (Str.ofString s)).flat 0 = true := by
  show PyData.canLay0 (.str (Str.ofString s)) = true
  simp only [PyData.canLay0]
  exact strOk_ofString s
theorem pk_bd {x : List Int} (h : ∀ v ∈ x, 0 ≤ v) (i : Nat) : 0 ≤ pk x i ∧ pk x i ≤ x.sum := by
  unfold pk
  have h1 := sum_nn (l := x.take i) fun v hv => h v (List.mem_of_mem_take hv)
  have h2 := sum_nn (l := x.drop i) fun v hv => h v (List.mem_of_mem_drop hv)
  have h3 : x.sum = (x.take i).sum + (x.drop i).sum := by rw [← List.sum_append, List.take_append_drop]
  omega
theorem lst_small {n : Nat} {t : Int} {a b : List Int} (ha : a.length = n) (hb : b.length = n) (h0 : 0 < n) (na : ∀ v ∈ a, 0 ≤ v) (nb : ∀ v ∈ b, 0 ≤ v) (sa : a.sum = t) (sb : b.sum = t) (ht : t < 5) : lst a b ≤ 10 := by
  refine (lst_le (ha.trans hb.symm) (by omega) 10).mpr fun i j _ _ => ?_
  have := pk_bd na i
  have := pk_bd na j
  have := pk_bd nb i
  have := pk_bd nb j
  omega
theorem all_ne {n t : Nat} {L : List (List Int)} (h0 : 0 < n) (h : IsAll n t L) : 0 < L.length := by
  have : ((t : Int) :: List.replicate (n - 1) 0) ∈ L := (h _).mpr ⟨by simp; omega, fun x hx => by
    rcases List.mem_cons.mp hx with hx | hx
    · subst hx; omega
    · rw [List.eq_of_mem_replicate hx]; exact Int.le_refl _, by simp⟩
  exact List.length_pos_of_mem this
theorem Deck.same1 {M M' : MS} {a b : Addr} {n : Nat} (h : Deck M a b n) (s : Same1 M M') : Deck M' a b n := by
  obtain ⟨h1, cs, k, h2, h3, h4⟩ := h
  exact ⟨h1, cs, k, by rw [s a (by rw [h2]; exact fun h => nomatch h)]; exact h2, by rw [s b (by rw [h3]; exact fun h => nomatch h)]; exact h3, h4⟩
theorem eqvS (M : MS) (s : Str) : PyData.eqv (asData M (D.str s)).pd (asData M (D.str s)).pd = true := by
  rw [show PyData.eqv (asData M (D.str s)).pd (asData M (D.str s)).pd = _ from eqv_str s s]; simp
theorem eqvB (M : MS) (s t : Bool) : PyData.eqv (asData M (D.bl s)).pd (asData M (D.bl t)).pd = (s == t) := eqv_bl s t
theorem eqvI (M : MS) (s t : Int) : PyData.eqv (asData M (D.int s)).pd (asData M (D.int t)).pd = decide (s = t) := eqv_int s t
theorem rd_law : ∀ ds M Q E, sp_law ds M Q E → t_law (bodyD Q E) (startD 13 ds) M := by
  rintro ds M Q E ⟨ns, rfl, hl, hQ⟩
  unfold t_law
  walk_at "w"
  refine ⟨ns, rfl, hl, fun a b M1 ha hb hD S1 => ?_⟩
  walk_at "w"
  refine ⟨⟨by decide, by decide⟩, ?_⟩
  show forRun _ _ (rangeD 0 (Int.toNat 3)) _ _ _
  rw [show rangeD 0 (Int.toNat 3) = (List.range 3).map fun i => D.int (i : Nat) from rangeD_map 3]
  refine for_inv (List.range 3) _ (fun pre ds' M' => ∃ o2 o3 o4 o5 o6 o7 o8 o9 o10 o11 o12, ds' = [some (.scr (ns.map D.int)), some (.ref a), o2, o3, o4, o5, o6, o7, o8, o9, o10, o11, o12] ∧ Deck M' a b (2000 * pre.length)) ⟨_, _, _, _, _, _, _, _, _, _, _, rfl, hD⟩ ?_ ?_
  · clear hD S1 M1
    rintro pre i post e _ M1 ⟨o2, o3, o4, o5, o6, o7, o8, o9, o10, o11, o12, rfl, D1⟩ K hK
    have hp : pre.length < 3 := by
      have := congrArg List.length e
      rw [List.length_range, List.length_append, List.length_cons] at this
      omega
    walk_at "w"
    refine ⟨a, b, 4, _, rfl, by omega, by omega, by omega, D1, fun n' M2 hn' D2 S2 => ?_⟩
    walk_at "w"
    refine ⟨a, b, 5, _, rfl, by omega, by omega, by omega, D2, fun t M3 ht D3 S3 => ?_⟩
    walk_at "w"
    refine ⟨sizeK (by simp), ?_⟩
    walk_at "w"
    refine ⟨_, rfl, rfl, ?_⟩
    walk_at "w"
    obtain ⟨n, hn⟩ : ∃ n, n = 1 + n' := ⟨_, rfl⟩
    refine ⟨n, t, by rw [hn]; rfl, by omega, by omega, ht, fun L hL hLl => ?_⟩
    have hLp := all_ne (by omega : 0 < n) hL
    walk_at "w"
    refine ⟨_, rfl, ?_⟩
    walk_at "w"
    refine ⟨a, b, L.length, _, by rw [List.length_map]; rfl, hLp, by omega, by omega, D3, fun p M4 hpl D4 S4 => ?_⟩
    walk_at "w"
    refine ⟨_, rfl, intsD L[p], by rw [atI_nat, List.getElem?_map, List.getElem?_eq_getElem hpl]; rfl, ?_⟩
    walk_at "w"
    refine ⟨_, rfl, ?_⟩
    walk_at "w"
    refine ⟨a, b, L.length, _, by rw [List.length_map]; rfl, hLp, by omega, by omega, D4, fun q M5 hql D5 S5 => ?_⟩
    walk_at "w"
    refine ⟨_, rfl, intsD L[q], by rw [atI_nat, List.getElem?_map, List.getElem?_eq_getElem hql]; rfl, ?_⟩
    walk_at "w"
    have m1 := List.getElem_mem hpl
    have m2 := List.getElem_mem hql
    generalize L[p] = one at m1 ⊢
    generalize L[q] = other at m2 ⊢
    obtain ⟨f1, f2, f3⟩ := (hL one).mp m1
    obtain ⟨g1, g2, g3⟩ := (hL other).mp m2
    refine ⟨sizeK (by simp), ?_⟩
    walk_at "w"
    refine ⟨a, b, n, 4, _, one, other, by rw [hn]; rfl, by omega, by omega, by omega, f1, g1, f2, g2, f3.trans g3.symm, by omega, by omega, D5, fun rs M6 hrs D6 S6 => ?_⟩
    walk_at "w"
    refine ⟨_, rfl, ?_⟩
    have hs : ∀ r ∈ rs, r.s < 1000 := fun r hr => by have := (hrs.2 r hr).2.2.1; omega
    refine comp_filter L intsD intsD (fun v => decide (Fits n rs v)) [] (sizeK (by simp; omega)) (fun v hv Q' R q1 q2 => ?_) ?_
    · have hv' := (hL v).mp hv
      walk_at "w"
      refine ⟨n, rs, v, by rw [hn]; rfl, by omega, by omega, hs, ?_⟩
      walk_at "w"
      exact iteB (fun h => q1 h) (fun h => q2 h)
    rw [List.nil_append]
    have hE : ∀ v, v ∈ L.filter (fun v => decide (Fits n rs v)) ↔ Fits n rs v ∧ v.sum = t := fun v => by
      rw [List.mem_filter, hL v, decide_eq_true_eq]
      exact ⟨fun h => ⟨h.2, h.1.2.2⟩, fun h => ⟨⟨h.1.1, h.1.2.1, h.2⟩, h.1⟩⟩
    have hEl := List.length_filter_le (fun v => decide (Fits n rs v)) L
    generalize L.filter (fun v => decide (Fits n rs v)) = every at hE hEl ⊢
    have h1 : one ∈ every := (hE one).mpr ⟨⟨f1, f2, fun r hr => (hrs.2 r hr).2.2.2.1⟩, f3⟩
    have hin : ∀ r ∈ rs, RlIn n r := fun r hr => ⟨(hrs.2 r hr).1, (hrs.2 r hr).2.1, (hrs.2 r hr).2.2.1⟩
    walk_at "w"
    refine ⟨n, t, rs, one, every, rfl, by omega, by omega, h1, hE, by omega, hin, fun d kvs M7 hd hM hS hF => ?_⟩
    have D7 := D6.same1 hS
    walk_at "w"
    refine ⟨_, rfl, ?_⟩
    refine for_inv every intsD (fun pre' ds' M' => ∃ o10 o12, ds' = [some (.scr (ns.map D.int)), some (.ref a), some (.int i), some (.int (1 + (n' : Int))), some (.int t), some (.lst (L.map intsD)), some (intsD one), some (intsD other), some (rulesD rs), some (.lst (every.map intsD)), o10, some (.ref d), o12] ∧ M' = M7) ⟨_, _, rfl, rfl⟩ ?_ ?_
    · rintro pre' v post' e' _ _ ⟨o10, o12, rfl, rfl⟩ K' hK'
      have hv : v ∈ every := by rw [e']; simp
      obtain ⟨fv, sv⟩ := (hE v).mp hv
      obtain ⟨fo, so⟩ := (hE one).mp h1
      have lv := fv.1
      have e1 := hF v hv
      have lsm := lst_small fo.1 fv.1 (by omega) fo.2.1 fv.2.1 so sv (by omega)
      have lnn := lst_nn (a := one) (b := v) (fo.1.trans fv.1.symm) (by omega)
      have hss := so.trans sv.symm
      walk_at "w"
      refine ⟨_, _, hd, tkey_ints v, ?_⟩
      rw [e1]
      walk_at "w"
      refine ⟨one, v, rfl, by omega, by omega, by omega, by omega, ?_⟩
      rw [if_pos hss]
      have lg : (lst one v).natAbs.log2 < 1920 := by
        have : (lst one v).natAbs ≤ 10 := by omega
        rcases Nat.eq_zero_or_pos (lst one v).natAbs with h0 | h0
        · rw [h0]; decide
        · exact Nat.lt_of_lt_of_le ((Nat.log2_lt (by omega)).mpr (by omega : (lst one v).natAbs < 2 ^ 4)) (by decide)
      walk_at "w"
      refine ⟨lg, ?_⟩
      walk_at "w"
      refine ⟨_, _, _, hd, tkey_ints v, e1, ?_⟩
      walk_at "w"
      refine ⟨lg, ?_⟩
      walk_at "w"
      refine eqD_ok 0 (flat_str _) (flat_str _) ?_
      rw [eqvS]
      walk_at "w"
      refine ⟨sizeK (by simp), ?_⟩
      walk_at "w"
      refine ⟨n, rs, one, v, [one, v], by rw [hn]; rfl, by omega, by have := hrs.1; omega, hs, by omega, by omega, by simp, by simp, fun f hf => by simp at hf; rcases hf with rfl | rfl <;> omega, ?_⟩
      rw [way_two fo fv hss]
      walk_at "w"
      refine ⟨_, _, _, hd, tkey_ints v, e1, ?_⟩
      walk_at "w"
      refine eqD_ok 0 rfl rfl ?_
      rw [eqvB, show (decide (lst one v ≤ 1) == decide (lst one v < 2)) = true by rw [beq_iff_eq, decide_eq_decide]; omega]
      walk_at "w"
      refine ⟨_, _, one, v, rfl, by omega, by omega, by omega, by omega, hss, lnn, by omega, ?_⟩
      have wall := way_all fo fv (by omega : 0 < n) hss hin
      have wlen : (one :: (List.range (lst one v).toNat).map fun i : Nat => pway one v (1 + (i : Int)) (lst one v)).length = (lst one v).toNat + 1 := by simp
      have wpos : ∀ f ∈ (one :: (List.range (lst one v).toNat).map fun i : Nat => pway one v (1 + (i : Int)) (lst one v)), 0 < f.length ∧ f.length < 1000 := by
        intro f hf
        unfold wayOk at wall
        rw [Bool.and_eq_true, List.all_eq_true] at wall
        have := of_decide_eq_true (wall.1 f hf)
        have := this.1
        omega
      generalize (one :: (List.range (lst one v).toNat).map fun i : Nat => pway one v (1 + (i : Int)) (lst one v)) = way at wall wlen wpos ⊢
      walk_at "w"
      refine ⟨_, rfl, ?_⟩
      walk_at "w"
      refine ⟨_, _, _, hd, tkey_ints v, e1, ?_⟩
      walk_at "w"
      refine eqD_ok 0 rfl rfl ?_
      rw [eqvI, List.length_map, wlen, decide_eq_true (by omega : (((lst one v).toNat + 1 : Nat) : Int) = lst one v + 1)]
      walk_at "w"
      refine ⟨n, rs, one, v, way, by rw [hn]; rfl, by omega, by have := hrs.1; omega, hs, by omega, by omega, fun h => by rw [h] at wlen; simp at wlen, by omega, wpos, ?_⟩
      rw [wall]
      walk_at "w"
      exact hK' _ _ ⟨_, _, rfl, rfl⟩
    · rintro _ _ ⟨o10, o12, rfl, rfl⟩
      refine hK _ _ ⟨_, _, _, _, _, _, _, _, _, _, _, rfl, D7.mono ?_⟩
      rw [List.length_append]
      simp
      omega
  · rintro _ M' ⟨o2, o3, o4, o5, o6, o7, o8, o9, o10, o11, o12, rfl, _⟩
    walk_at "w"
    exact hQ _
end RW1

namespace RW1
open PySem PySem.Spec L2 DL
def top (i : Nat) : Stmt := PySem.Challenge.pw_ringwindows_k31_whole_steps_searched.main.body.getD i (.Pass ⟨0, 0, 0, 0⟩)
section
variable {P : Program} {w : World} {K : PySem.W.Frag} {mg : Str → Option Value} {base : Heap}
def N_is_number : List Str := ["value", "low", "high"]
theorem sc_is_number : FnScope N_is_number ["value", "low", "high"] (defScope (top 5)) := ⟨rfl, rfl, rfl, by decide +kernel, rfl, by decide +kernel, by decide +kernel⟩
theorem ok_is_number (B : Bl mg) (d : HasDef K mg "is_number" (top 5))  : Has P w K mg base CX0 1 "is_number" ["value", "low", "high"] (sp_is_number) :=
  has_of (t := t_is_number) d sc_is_number (fun _ _ _ _ _ _ us h => match us, h with | [a0, a1, a2], _ => rfl) len_is_number rd_is_number fun f cdv A outer s H E hr =>
  dss_cons (ds_if (PWd.pt (dw_or (dt_not (dt_val (de_isi rfl B.isinstance_ (da_cons (de_var 0) (da_cons (de_ty rfl B.int_ (by decide +kernel)) (da_nil)))))) (dw_or (dt_val (de_isi rfl B.isinstance_ (da_cons (de_var 0) (da_cons (de_ty rfl B.bool_ (by decide +kernel)) (da_nil))))) (dw_or1 (dt_cmp op_lt lf_lt (de_var 0) (de_var 1)))))) (dss_one (ds_ret (de_bl))) (dss_nil)) (dss_one (ds_ret (de_or (de_cmp op_isN lf_isN (de_var 2) de_non) (de_one (de_cmp op_le lf_le (de_var 0) (de_var 2))))))
def N_is_filling : List Str := ["n", "value", "count"]
theorem sc_is_filling : FnScope N_is_filling ["n", "value"] (defScope (top 6)) := ⟨rfl, rfl, rfl, by decide +kernel, rfl, by decide +kernel, by decide +kernel⟩
theorem ok_is_filling (B : Bl mg) (d : HasDef K mg "is_filling" (top 6)) (h_is_number : Has P w K mg base CX0 1 "is_number" ["value", "low", "high"] (sp_is_number)) : Has P w K mg base CX0 2 "is_filling" ["n", "value"] (sp_is_filling) :=
  has_of (t := t_is_filling) d sc_is_filling (fun _ _ _ _ _ _ us h => match us, h with | [a0, a1], _ => rfl) len_is_filling rd_is_filling fun f cdv A outer s H E hr =>
  dss_one (ds_ret (de_and (de_isi rfl B.isinstance_ (da_cons (de_var 1) (da_cons (de_ty rfl B.tuple_ (by decide +kernel)) (da_nil)))) (de_and (de_cmp (op_eqD hr.units) lf_eq (de_len rfl B.len_ (da_cons (de_var 1) (da_nil))) (de_var 0)) (de_one (de_all rfl rfl B.all_ (da_cons (de_comp (own := [("count", 2)]) (ct := (CT.name 2)) false rfl sc_is_filling.nd (di_list (de_var 1)) (blkOk_by (own := [("count", 2)]) (N := N_is_filling) (by kernel_rfl)) (List.mem_singleton.mpr rfl) (fun _ _ _ _ _ => ct_name (i := 2) sc_is_filling.nd rfl (Or.inl rfl)) (fun _ _ _ _ _ => dts_nil) (fun _ _ _ _ _ => de_callH h_is_number (hr.mono (by decide)) rfl (da_cons (de_var 2) (da_cons (de_int) (da_cons (de_non) (da_nil)))))) (da_nil)))))))
def N_window_places : List Str := ["n", "first", "size", "step"]
theorem sc_window_places : FnScope N_window_places ["n", "first", "size"] (defScope (top 7)) := ⟨rfl, rfl, rfl, by decide +kernel, rfl, by decide +kernel, by decide +kernel⟩
theorem ok_window_places (B : Bl mg) (d : HasDef K mg "window_places" (top 7))  : Has P w K mg base CX0 1 "window_places" ["n", "first", "size"] (sp_window_places) :=
  has_of (t := t_window_places) d sc_window_places (fun _ _ _ _ _ _ us h => match us, h with | [a0, a1, a2], _ => rfl) len_window_places rd_window_places fun f cdv A outer s H E hr =>
  dss_one (ds_ret (de_tuple rfl B.tuple_ (da_cons (de_sorted false rfl B.sorted_ (da_cons (de_comp (own := [("step", 3)]) (ct := (CT.name 3)) false rfl sc_window_places.nd (di_range1 rfl B.range_ (da_cons (de_var 2) (da_nil))) (blkOk_by (own := [("step", 3)]) (N := N_window_places) (by kernel_rfl)) (List.mem_singleton.mpr rfl) (fun _ _ _ _ _ => ct_name (i := 3) sc_window_places.nd rfl (Or.inl rfl)) (fun _ _ _ _ _ => dts_nil) (fun _ _ _ _ _ => de_mod (de_add false (de_var 1) (de_var 3)) (de_var 0))) (da_nil))) (da_nil))))
def N_window_sum : List Str := ["filling", "first", "size", "place"]
theorem sc_window_sum : FnScope N_window_sum ["filling", "first", "size"] (defScope (top 8)) := ⟨rfl, rfl, rfl, by decide +kernel, rfl, by decide +kernel, by decide +kernel⟩
theorem ok_window_sum (B : Bl mg) (d : HasDef K mg "window_sum" (top 8)) (h_window_places : Has P w K mg base CX0 1 "window_places" ["n", "first", "size"] (sp_window_places)) : Has P w K mg base CX0 2 "window_sum" ["filling", "first", "size"] (sp_window_sum) :=
  has_of (t := t_window_sum) d sc_window_sum (fun _ _ _ _ _ _ us h => match us, h with | [a0, a1, a2], _ => rfl) len_window_sum rd_window_sum fun f cdv A outer s H E hr =>
  dss_one (ds_ret (de_sum rfl rfl B.sum_ (da_cons (de_comp (own := [("place", 3)]) (ct := (CT.name 3)) false rfl sc_window_sum.nd (di_list (de_callH h_window_places (hr.mono (by decide)) rfl (da_cons (de_len rfl B.len_ (da_cons (de_var 0) (da_nil))) (da_cons (de_var 1) (da_cons (de_var 2) (da_nil)))))) (blkOk_by (own := [("place", 3)]) (N := N_window_sum) (by kernel_rfl)) (List.mem_singleton.mpr rfl) (fun _ _ _ _ _ => ct_name (i := 3) sc_window_sum.nd rfl (Or.inl rfl)) (fun _ _ _ _ _ => dts_nil) (fun _ _ _ _ _ => de_ix (de_var 0) (de_var 3))) (da_nil))))
def N_broken_rules : List Str := ["n", "rules", "filling", "found", "index", "first", "size", "least", "most", "held"]
theorem sc_broken_rules : FnScope N_broken_rules ["n", "rules", "filling"] (defScope (top 9)) := ⟨rfl, rfl, rfl, by decide +kernel, rfl, by decide +kernel, by decide +kernel⟩
theorem ok_broken_rules (B : Bl mg) (d : HasDef K mg "broken_rules" (top 9)) (h_window_sum : Has P w K mg base CX0 2 "window_sum" ["filling", "first", "size"] (sp_window_sum)) : Has P w K mg base CX0 3 "broken_rules" ["n", "rules", "filling"] (sp_broken_rules) :=
  has_of (t := t_broken_rules) d sc_broken_rules (fun _ _ _ _ _ _ us h => match us, h with | [a0, a1, a2], _ => rfl) len_broken_rules rd_broken_rules fun f cdv A outer s H E hr =>
  dss_cons (ds_set (i := 3) sc_broken_rules.nd rfl (Or.inl rfl) (de_lst true (da_nil))) (dss_cons (ds_for PassesOwn.never rfl (di_enum rfl B.enumerate_ (da_cons (de_var 1) (da_nil))) (dg_tup rfl (dgs_cons (dg_name (i := 4) sc_broken_rules.nd rfl (Or.inl rfl)) (dgs_cons (dg_tup rfl (dgs_cons (dg_name (i := 5) sc_broken_rules.nd rfl (Or.inl rfl)) (dgs_cons (dg_name (i := 6) sc_broken_rules.nd rfl (Or.inl rfl)) (dgs_cons (dg_name (i := 7) sc_broken_rules.nd rfl (Or.inl rfl)) (dgs_cons (dg_name (i := 8) sc_broken_rules.nd rfl (Or.inl rfl)) (dgs_nil)))))) (dgs_nil)))) (dss_cons (ds_set (i := 9) sc_broken_rules.nd rfl (Or.inl rfl) (de_callH h_window_sum (hr.mono (by decide)) rfl (da_cons (de_var 2) (da_cons (de_var 5) (da_cons (de_var 6) (da_nil)))))) (dss_cons (ds_if (dt_cmp op_lt lf_lt (de_var 9) (de_var 7)) (dss_one (ds_expr (de_append (de_var 3) (da_cons (de_tup (da_cons (de_var 4) (da_cons (de_str) (da_nil)))) (da_nil))))) (dss_nil)) (dss_one (ds_if (PWd.pt (dw_and (dt_cmp op_notN lf_notN (de_var 8) de_non) (dw_and1 (dt_cmp op_gt lf_gt (de_var 9) (de_var 8))))) (dss_one (ds_expr (de_append (de_var 3) (da_cons (de_tup (da_cons (de_var 4) (da_cons (de_str) (da_nil)))) (da_nil))))) (dss_nil)))))) (dss_freeze 3 (dss_one (ds_ret (de_tuple rfl B.tuple_ (da_cons (de_var 3) (da_nil)))))))
def N_fits : List Str := ["n", "rules", "value"]
theorem sc_fits : FnScope N_fits ["n", "rules", "value"] (defScope (top 10)) := ⟨rfl, rfl, rfl, by decide +kernel, rfl, by decide +kernel, by decide +kernel⟩
theorem ok_fits (B : Bl mg) (d : HasDef K mg "fits" (top 10)) (h_broken_rules : Has P w K mg base CX0 3 "broken_rules" ["n", "rules", "filling"] (sp_broken_rules)) (h_is_filling : Has P w K mg base CX0 2 "is_filling" ["n", "value"] (sp_is_filling)) : Has P w K mg base CX0 4 "fits" ["n", "rules", "value"] (sp_fits) :=
  has_of (t := t_fits) d sc_fits (fun _ _ _ _ _ _ us h => match us, h with | [a0, a1, a2], _ => rfl) len_fits rd_fits fun f cdv A outer s H E hr =>
  dss_one (ds_ret (de_and (de_callH h_is_filling (hr.mono (by decide)) rfl (da_cons (de_var 0) (da_cons (de_var 2) (da_nil)))) (de_one (de_cmp (op_eqD hr.units) lf_eq (de_callH h_broken_rules (hr.mono (by decide)) rfl (da_cons (de_var 0) (da_cons (de_var 1) (da_cons (de_var 2) (da_nil))))) (de_tup (da_nil))))))
def N_running_sums : List Str := ["filling", "found", "count"]
theorem sc_running_sums : FnScope N_running_sums ["filling"] (defScope (top 12)) := ⟨rfl, rfl, rfl, by decide +kernel, rfl, by decide +kernel, by decide +kernel⟩
theorem ok_running_sums (B : Bl mg) (d : HasDef K mg "running_sums" (top 12))  : Has P w K mg base CX0 1 "running_sums" ["filling"] (sp_running_sums) :=
  has_of (t := t_running_sums) d sc_running_sums (fun _ _ _ _ _ _ us h => match us, h with | [a0], _ => rfl) len_running_sums rd_running_sums fun f cdv A outer s H E hr =>
  dss_cons (ds_set (i := 1) sc_running_sums.nd rfl (Or.inl rfl) (de_lst true (da_cons (de_int) (da_nil)))) (dss_cons (ds_for PassesOwn.never rfl (di_list (de_var 0)) (dg_name (i := 2) sc_running_sums.nd rfl (Or.inl rfl)) (dss_one (ds_expr (de_append (de_var 1) (da_cons (de_add false (de_ix (de_var 1) (de_neg (de_int))) (de_var 2)) (da_nil)))))) (dss_freeze 1 (dss_one (ds_ret (de_var 1)))))
def N_shifts : List Str := ["one", "other", "after", "before"]
theorem sc_shifts : FnScope N_shifts ["one", "other"] (defScope (top 13)) := ⟨rfl, rfl, rfl, by decide +kernel, rfl, by decide +kernel, by decide +kernel⟩
theorem ok_shifts (B : Bl mg) (d : HasDef K mg "shifts" (top 13)) (h_running_sums : Has P w K mg base CX0 1 "running_sums" ["filling"] (sp_running_sums)) : Has P w K mg base CX0 2 "shifts" ["one", "other"] (sp_shifts) :=
  has_of (t := t_shifts) d sc_shifts (fun _ _ _ _ _ _ us h => match us, h with | [a0, a1], _ => rfl) len_shifts rd_shifts fun f cdv A outer s H E hr =>
  dss_one (ds_ret (de_comp (own := [("before", 3), ("after", 2)]) (ct := (CT.tup [3, 2])) false rfl sc_shifts.nd (di_zip rfl B.zip_ (da_cons (de_sl false (de_callH h_running_sums (hr.mono (by decide)) rfl (da_cons (de_var 0) (da_nil))) (do_none) (do_some (de_neg (de_int)))) (da_cons (de_sl false (de_callH h_running_sums (hr.mono (by decide)) rfl (da_cons (de_var 1) (da_nil))) (do_none) (do_some (de_neg (de_int)))) (da_nil)))) (blkOk_by (own := [("before", 3), ("after", 2)]) (N := N_shifts) (by kernel_rfl)) (fun _ h => h) (fun _ _ _ _ _ => ct_tup rfl (cts_cons (i := 3) sc_shifts.nd rfl (Or.inl rfl) (cts_cons (i := 2) sc_shifts.nd rfl (Or.inl rfl) (cts_nil)))) (fun _ _ _ _ _ => dts_nil) (fun _ _ _ _ _ => de_sub (de_var 2) (de_var 3))))
def N_least_steps : List Str := ["one", "other", "found"]
theorem sc_least_steps : FnScope N_least_steps ["one", "other"] (defScope (top 14)) := ⟨rfl, rfl, rfl, by decide +kernel, rfl, by decide +kernel, by decide +kernel⟩
theorem ok_least_steps (B : Bl mg) (d : HasDef K mg "least_steps" (top 14)) (h_shifts : Has P w K mg base CX0 2 "shifts" ["one", "other"] (sp_shifts)) : Has P w K mg base CX0 3 "least_steps" ["one", "other"] (sp_least_steps) :=
  has_of (t := t_least_steps) d sc_least_steps (fun _ _ _ _ _ _ us h => match us, h with | [a0, a1], _ => rfl) len_least_steps rd_least_steps fun f cdv A outer s H E hr =>
  dss_cons (ds_if (dt_cmp (op_neD hr.units) lf_ne (de_sum rfl rfl B.sum_ (da_cons (de_var 0) (da_nil))) (de_sum rfl rfl B.sum_ (da_cons (de_var 1) (da_nil)))) (dss_one (ds_ret (de_non))) (dss_nil)) (dss_cons (ds_set (i := 2) sc_least_steps.nd rfl (Or.inl rfl) (de_callH h_shifts (hr.mono (by decide)) rfl (da_cons (de_var 0) (da_cons (de_var 1) (da_nil))))) (dss_one (ds_ret (de_fdiv (de_add false (de_sub (de_max rfl rfl B.max_ (da_cons (de_var 2) (da_nil))) (de_min rfl rfl B.min_ (da_cons (de_var 2) (da_nil)))) (de_int)) (de_int)))))
def N_part_way : List Str := ["one", "other", "step", "steps", "found", "lowest", "sums", "before", "shift", "after"]
theorem sc_part_way : FnScope N_part_way ["one", "other", "step", "steps"] (defScope (top 15)) := ⟨rfl, rfl, rfl, by decide +kernel, rfl, by decide +kernel, by decide +kernel⟩
theorem ok_part_way (B : Bl mg) (d : HasDef K mg "part_way" (top 15)) (h_running_sums : Has P w K mg base CX0 1 "running_sums" ["filling"] (sp_running_sums)) (h_shifts : Has P w K mg base CX0 2 "shifts" ["one", "other"] (sp_shifts)) : Has P w K mg base CX0 3 "part_way" ["one", "other", "step", "steps"] (sp_part_way) :=
  has_of (t := t_part_way) d sc_part_way (fun _ _ _ _ _ _ us h => match us, h with | [a0, a1, a2, a3], _ => rfl) len_part_way rd_part_way fun f cdv A outer s H E hr =>
  dss_cons (ds_set (i := 4) sc_part_way.nd rfl (Or.inl rfl) (de_callH h_shifts (hr.mono (by decide)) rfl (da_cons (de_var 0) (da_cons (de_var 1) (da_nil))))) (dss_cons (ds_set (i := 5) sc_part_way.nd rfl (Or.inl rfl) (de_add false (de_min rfl rfl B.min_ (da_cons (de_var 4) (da_nil))) (de_var 3))) (dss_cons (ds_set (i := 6) sc_part_way.nd rfl (Or.inl rfl) (de_lst true (da_nil))) (dss_cons (ds_for PassesOwn.never rfl (di_zip rfl B.zip_ (da_cons (de_callH h_running_sums (hr.mono (by decide)) rfl (da_cons (de_var 0) (da_nil))) (da_cons (de_lst false (da_star (de_var 4) (da_cons (de_ix (de_var 4) (de_int)) (da_nil)))) (da_nil)))) (dg_tup rfl (dgs_cons (dg_name (i := 7) sc_part_way.nd rfl (Or.inl rfl)) (dgs_cons (dg_name (i := 8) sc_part_way.nd rfl (Or.inl rfl)) (dgs_nil)))) (dss_one (ds_expr (de_append (de_var 6) (da_cons (de_fdiv (de_add false (de_mul false (de_var 3) (de_var 7)) (de_mul false (de_var 2) (de_sub (de_var 8) (de_var 5)))) (de_var 3)) (da_nil)))))) (dss_freeze 6 (dss_one (ds_ret (de_tuple rfl B.tuple_ (da_cons (de_comp (own := [("before", 7), ("after", 9)]) (ct := (CT.tup [7, 9])) false rfl sc_part_way.nd (di_zip rfl B.zip_ (da_cons (de_var 6) (da_cons (de_sl false (de_var 6) (do_some (de_int)) (do_none)) (da_nil)))) (blkOk_by (own := [("before", 7), ("after", 9)]) (N := N_part_way) (by kernel_rfl)) (fun _ h => h) (fun _ _ _ _ _ => ct_tup rfl (cts_cons (i := 7) sc_part_way.nd rfl (Or.inl rfl) (cts_cons (i := 9) sc_part_way.nd rfl (Or.inl rfl) (cts_nil)))) (fun _ _ _ _ _ => dts_nil) (fun _ _ _ _ _ => de_sub (de_var 9) (de_var 7))) (da_nil)))))))))
def N_find_way : List Str := ["n", "rules", "one", "other", "steps", "step"]
theorem sc_find_way : FnScope N_find_way ["n", "rules", "one", "other"] (defScope (top 16)) := ⟨rfl, rfl, rfl, by decide +kernel, rfl, by decide +kernel, by decide +kernel⟩
theorem ok_find_way (B : Bl mg) (d : HasDef K mg "find_way" (top 16)) (g_LISTED : ∃ t, mg "LISTED" = some (.int 500 t)) (h_least_steps : Has P w K mg base CX0 3 "least_steps" ["one", "other"] (sp_least_steps)) (h_part_way : Has P w K mg base CX0 3 "part_way" ["one", "other", "step", "steps"] (sp_part_way)) : Has P w K mg base CX0 4 "find_way" ["n", "rules", "one", "other"] (sp_find_way) :=
  has_of (t := t_find_way) d sc_find_way (fun _ _ _ _ _ _ us h => match us, h with | [a0, a1, a2, a3], _ => rfl) len_find_way rd_find_way fun f cdv A outer s H E hr =>
  dss_cons (ds_set (i := 4) sc_find_way.nd rfl (Or.inr rfl) (de_callH h_least_steps (hr.mono (by decide)) rfl (da_cons (de_var 2) (da_cons (de_var 3) (da_nil))))) (dss_cons (ds_if (dt_cmp op_isN lf_isN (de_var 4) de_non) (dss_one (ds_ret (de_non))) (dss_nil)) (dss_cons (ds_if (dt_cmp op_gt lf_gt (de_var 4) (de_gint rfl g_LISTED)) (dss_one (ds_never)) (dss_nil)) (dss_one (ds_ret (de_tup (da_cons (de_var 2) (da_star (de_comp (own := [("step", 5)]) (ct := (CT.name 5)) false rfl sc_find_way.nd (di_range2 rfl B.range_ (da_cons (de_int) (da_cons (de_add false (de_var 4) (de_int)) (da_nil)))) (blkOk_by (own := [("step", 5)]) (N := N_find_way) (by kernel_rfl)) (List.mem_singleton.mpr rfl) (fun _ _ _ _ _ => ct_name (i := 5) sc_find_way.nd rfl (Or.inl rfl)) (fun _ _ _ _ _ => dts_nil) (fun _ _ _ _ _ => de_callH h_part_way (hr.mono (by decide)) rfl (da_cons (de_var 2) (da_cons (de_var 3) (da_cons (de_var 5) (da_cons (de_var 4) (da_nil))))))) (da_nil))))))))
def N_is_step : List Str := ["one", "other", "steps"]
theorem sc_is_step : FnScope N_is_step ["one", "other"] (defScope (top 17)) := ⟨rfl, rfl, rfl, by decide +kernel, rfl, by decide +kernel, by decide +kernel⟩
theorem ok_is_step (B : Bl mg) (d : HasDef K mg "is_step" (top 17)) (h_least_steps : Has P w K mg base CX0 3 "least_steps" ["one", "other"] (sp_least_steps)) : Has P w K mg base CX0 4 "is_step" ["one", "other"] (sp_is_step) :=
  has_of (t := t_is_step) d sc_is_step (fun _ _ _ _ _ _ us h => match us, h with | [a0, a1], _ => rfl) len_is_step rd_is_step fun f cdv A outer s H E hr =>
  dss_cons (ds_set (i := 2) sc_is_step.nd rfl (Or.inl rfl) (de_callH h_least_steps (hr.mono (by decide)) rfl (da_cons (de_var 0) (da_cons (de_var 1) (da_nil))))) (dss_one (ds_ret (de_and (de_cmp op_notN lf_notN (de_var 2) de_non) (de_one (de_cmp op_le lf_le (de_var 2) (de_int))))))
def N_way_holds : List Str := ["n", "rules", "one", "other", "value", "filling", "after", "before"]
theorem sc_way_holds : FnScope N_way_holds ["n", "rules", "one", "other", "value"] (defScope (top 18)) := ⟨rfl, rfl, rfl, by decide +kernel, rfl, by decide +kernel, by decide +kernel⟩
theorem ok_way_holds (B : Bl mg) (d : HasDef K mg "way_holds" (top 18)) (h_fits : Has P w K mg base CX0 4 "fits" ["n", "rules", "value"] (sp_fits)) (h_is_step : Has P w K mg base CX0 4 "is_step" ["one", "other"] (sp_is_step)) : Has P w K mg base CX0 5 "way_holds" ["n", "rules", "one", "other", "value"] (sp_way_holds) :=
  has_of (t := t_way_holds) d sc_way_holds (fun _ _ _ _ _ _ us h => match us, h with | [a0, a1, a2, a3, a4], _ => rfl) len_way_holds rd_way_holds fun f cdv A outer s H E hr =>
  dss_cons (ds_if (PWd.pt (dw_or (dt_not (dt_val (de_isi rfl B.isinstance_ (da_cons (de_var 4) (da_cons (de_ty rfl B.tuple_ (by decide +kernel)) (da_nil)))))) (dw_or (dt_cmp (op_eqD hr.units) lf_eq (de_var 4) (de_tup (da_nil))) (dw_or1 (dt_not (dt_val (de_all rfl rfl B.all_ (da_cons (de_comp (own := [("filling", 5)]) (ct := (CT.name 5)) false rfl sc_way_holds.nd (di_list (de_var 4)) (blkOk_by (own := [("filling", 5)]) (N := N_way_holds) (by kernel_rfl)) (List.mem_singleton.mpr rfl) (fun _ _ _ _ _ => ct_name (i := 5) sc_way_holds.nd rfl (Or.inl rfl)) (fun _ _ _ _ _ => dts_nil) (fun _ _ _ _ _ => de_callH h_fits (hr.mono (by decide)) rfl (da_cons (de_var 0) (da_cons (de_var 1) (da_cons (de_var 5) (da_nil)))))) (da_nil))))))))) (dss_one (ds_ret (de_bl))) (dss_nil)) (dss_cons (ds_if (PWd.pt (dw_or (dt_cmp (op_neD hr.units) lf_ne (de_ix (de_var 4) (de_int)) (de_var 2)) (dw_or1 (dt_cmp (op_neD hr.units) lf_ne (de_ix (de_var 4) (de_neg (de_int))) (de_var 3))))) (dss_one (ds_ret (de_bl))) (dss_nil)) (dss_one (ds_ret (de_all rfl rfl B.all_ (da_cons (de_comp (own := [("before", 7), ("after", 6)]) (ct := (CT.tup [7, 6])) false rfl sc_way_holds.nd (di_zip rfl B.zip_ (da_cons (de_var 4) (da_cons (de_sl false (de_var 4) (do_some (de_int)) (do_none)) (da_nil)))) (blkOk_by (own := [("before", 7), ("after", 6)]) (N := N_way_holds) (by kernel_rfl)) (fun _ h => h) (fun _ _ _ _ _ => ct_tup rfl (cts_cons (i := 7) sc_way_holds.nd rfl (Or.inl rfl) (cts_cons (i := 6) sc_way_holds.nd rfl (Or.inl rfl) (cts_nil)))) (fun _ _ _ _ _ => dts_nil) (fun _ _ _ _ _ => de_callH h_is_step (hr.mono (by decide)) rfl (da_cons (de_var 7) (da_cons (de_var 6) (da_nil))))) (da_nil))))))
def N__law_deck : List Str := ["_law_script", "_law_cell"]
theorem sc__law_deck : FnScope N__law_deck ["_law_script"] (defScope (top 20)) := ⟨rfl, rfl, rfl, by decide +kernel, rfl, by decide +kernel, by decide +kernel⟩
theorem ok__law_deck (B : Bl mg) (d : HasDef K mg "_law_deck" (top 20))  : Has P w K mg base CX0 1 "_law_deck" ["_law_script"] (sp__law_deck) :=
  has_of (t := t__law_deck) d sc__law_deck (fun _ _ _ _ _ _ us h => match us, h with | [a0], _ => rfl) len__law_deck rd__law_deck fun f cdv A outer s H E hr =>
  dss_one (ds_ret (de_lst true (da_cons (de_comp (own := [("_law_cell", 1)]) (ct := (CT.name 1)) true rfl sc__law_deck.nd (di_list (de_sl false (de_var 0) (do_none) (do_some (de_int)))) (blkOk_by (own := [("_law_cell", 1)]) (N := N__law_deck) (by kernel_rfl)) (List.mem_singleton.mpr rfl) (fun _ _ _ _ _ => ct_name (i := 1) sc__law_deck.nd rfl (Or.inl rfl)) (fun _ _ _ _ _ => dts_nil) (fun _ _ _ _ _ => de_abs rfl B.abs_ (da_cons (de_var 1) (da_nil)))) (da_cons (de_int) (da_nil)))))
def N__law_draw : List Str := ["_law_deck_here", "_law_bound", "_law_at", "_law_cell", "_law_mixed"]
theorem sc__law_draw : FnScope N__law_draw ["_law_deck_here", "_law_bound"] (defScope (top 21)) := ⟨rfl, rfl, rfl, by decide +kernel, rfl, by decide +kernel, by decide +kernel⟩
theorem ok__law_draw (B : Bl mg) (d : HasDef K mg "_law_draw" (top 21))  : Has P w K mg base CX0 1 "_law_draw" ["_law_deck_here", "_law_bound"] (sp__law_draw) :=
  has_of (t := t__law_draw) d sc__law_draw (fun _ _ _ _ _ _ us h => match us, h with | [a0, a1], _ => rfl) len__law_draw rd__law_draw fun f cdv A outer s H E hr =>
  dss_cons (ds_asg (de_add false (de_ix (de_var 0) (de_int)) (de_int)) (dg_sub (E := E) (de_var 0) (de_int))) (dss_cons (ds_set (i := 2) sc__law_draw.nd rfl (Or.inl rfl) (de_mod (de_ix (de_var 0) (de_int)) (de_max rfl rfl B.max_ (da_cons (de_int) (da_cons (de_len rfl B.len_ (da_cons (de_ix (de_var 0) (de_int)) (da_nil))) (da_nil)))))) (dss_cons (ds_set (i := 3) sc__law_draw.nd rfl (Or.inl rfl) (de_ix (de_add false (de_ix (de_var 0) (de_int)) (de_lst false (da_cons (de_int) (da_nil)))) (de_var 2))) (dss_cons (ds_if (dt_cmp op_ge lf_ge (de_var 3) (de_pow (de_int) (de_int))) (dss_cons (ds_asg (de_fdiv (de_var 3) (de_var 1)) (dg_sub (E := E) (de_ix (de_var 0) (de_int)) (de_var 2))) (dss_one (ds_ret (de_mod (de_var 3) (de_var 1))))) (dss_nil)) (dss_cons (ds_set (i := 4) sc__law_draw.nd rfl (Or.inl rfl) (de_mod (de_pow (de_add false (de_add false (de_mod (de_var 3) (de_int)) (de_mul false (de_int) (de_ix (de_var 0) (de_int)))) (de_int)) (de_int)) (de_int))) (dss_one (ds_ret (de_mod (de_add false (de_fdiv (de_var 4) (de_int)) (de_mul false (de_int) (de_ix (de_var 0) (de_int)))) (de_var 1))))))))
def N__law_sum : List Str := ["_law_filling", "_law_first", "_law_size", "_law_k"]
theorem sc__law_sum : FnScope N__law_sum ["_law_filling", "_law_first", "_law_size"] (defScope (top 22)) := ⟨rfl, rfl, rfl, by decide +kernel, rfl, by decide +kernel, by decide +kernel⟩
theorem ok__law_sum (B : Bl mg) (d : HasDef K mg "_law_sum" (top 22))  : Has P w K mg base CX0 1 "_law_sum" ["_law_filling", "_law_first", "_law_size"] (sp__law_sum) :=
  has_of (t := t__law_sum) d sc__law_sum (fun _ _ _ _ _ _ us h => match us, h with | [a0, a1, a2], _ => rfl) len__law_sum rd__law_sum fun f cdv A outer s H E hr =>
  dss_one (ds_ret (de_sum rfl rfl B.sum_ (da_cons (de_comp (own := [("_law_k", 3)]) (ct := (CT.name 3)) false rfl sc__law_sum.nd (di_range1 rfl B.range_ (da_cons (de_var 2) (da_nil))) (blkOk_by (own := [("_law_k", 3)]) (N := N__law_sum) (by kernel_rfl)) (List.mem_singleton.mpr rfl) (fun _ _ _ _ _ => ct_name (i := 3) sc__law_sum.nd rfl (Or.inl rfl)) (fun _ _ _ _ _ => dts_nil) (fun _ _ _ _ _ => de_ix (de_var 0) (de_mod (de_add false (de_var 1) (de_var 3)) (de_len rfl B.len_ (da_cons (de_var 0) (da_nil)))))) (da_nil))))
def N__law_rules : List Str := ["_law_deck_here", "_law_n", "_law_fillings", "_law_most", "_law_found", "_law_k", "_law_first", "_law_size", "_law_loose", "_law_sums", "_law_filling", "_law_low", "_law_high"]
theorem sc__law_rules : FnScope N__law_rules ["_law_deck_here", "_law_n", "_law_fillings", "_law_most"] (defScope (top 23)) := ⟨rfl, rfl, rfl, by decide +kernel, rfl, by decide +kernel, by decide +kernel⟩
theorem ok__law_rules (B : Bl mg) (d : HasDef K mg "_law_rules" (top 23)) (h__law_draw : Has P w K mg base CX0 1 "_law_draw" ["_law_deck_here", "_law_bound"] (sp__law_draw)) (h__law_sum : Has P w K mg base CX0 1 "_law_sum" ["_law_filling", "_law_first", "_law_size"] (sp__law_sum)) : Has P w K mg base CX0 2 "_law_rules" ["_law_deck_here", "_law_n", "_law_fillings", "_law_most"] (sp__law_rules) :=
  has_of (t := t__law_rules) d sc__law_rules (fun _ _ _ _ _ _ us h => match us, h with | [a0, a1, a2, a3], _ => rfl) len__law_rules rd__law_rules fun f cdv A outer s H E hr =>
  dss_cons (ds_set (i := 4) sc__law_rules.nd rfl (Or.inl rfl) (de_lst true (da_nil))) (dss_cons (ds_for PassesOwn.never rfl (di_range1 rfl B.range_ (da_cons (de_callH h__law_draw (hr.mono (by decide)) rfl (da_cons (de_var 0) (da_cons (de_add false (de_var 3) (de_int)) (da_nil)))) (da_nil))) (dg_name (i := 5) sc__law_rules.nd rfl (Or.inl rfl)) (dss_cons (ds_asg (de_tup (da_cons (de_callH h__law_draw (hr.mono (by decide)) rfl (da_cons (de_var 0) (da_cons (de_var 1) (da_nil)))) (da_cons (de_add false (de_int) (de_callH h__law_draw (hr.mono (by decide)) rfl (da_cons (de_var 0) (da_cons (de_var 1) (da_nil))))) (da_cons (de_ix (de_lst false (da_cons (de_int) (da_cons (de_int) (da_cons (de_int) (da_cons (de_int) (da_nil)))))) (de_callH h__law_draw (hr.mono (by decide)) rfl (da_cons (de_var 0) (da_cons (de_int) (da_nil))))) (da_nil))))) (dg_tup rfl (dgs_cons (dg_name (i := 6) sc__law_rules.nd rfl (Or.inr rfl)) (dgs_cons (dg_name (i := 7) sc__law_rules.nd rfl (Or.inr rfl)) (dgs_cons (dg_name (i := 8) sc__law_rules.nd rfl (Or.inl rfl)) (dgs_nil)))))) (dss_cons (ds_setComp (i := 9) (own := [("_law_filling", 10)]) (ct := (CT.name 10)) false rfl sc__law_rules.nd rfl rfl (sw_true rfl rfl rfl (by decide +kernel)) (di_list (de_var 2)) (blkOk_by (own := [("_law_filling", 10)]) (N := N__law_rules) (by kernel_rfl)) (List.mem_singleton.mpr rfl) (fun _ _ _ _ _ => ct_name (i := 10) sc__law_rules.nd rfl (Or.inl rfl)) (fun _ _ _ _ _ => dts_nil) (fun _ _ _ _ _ => de_callH h__law_sum (hr.mono (by decide)) rfl (da_cons (de_var 10) (da_cons (de_var 6) (da_cons (de_var 7) (da_nil)))))) (dss_cons (ds_par (i := 11) (j := 12) rfl sc__law_rules.nd rfl rfl (by decide) rfl rfl (da_cons (de_min rfl rfl B.min_ (da_cons (de_pow (de_int) (de_int)) (da_cons (de_max rfl rfl B.max_ (da_cons (de_int) (da_cons (de_sub (de_min rfl rfl B.min_ (da_cons (de_var 9) (da_nil))) (de_var 8)) (da_nil)))) (da_nil)))) (da_cons (de_add false (de_max rfl rfl B.max_ (da_cons (de_var 9) (da_nil))) (de_var 8)) da_nil))) (dss_one (ds_expr (de_append (de_var 4) (da_cons (de_tup (da_cons (de_var 6) (da_cons (de_var 7) (da_cons (de_var 11) (da_cons (de_if (PWd.pt (dw_or (dt_cmp op_gt lf_gt (de_var 12) (de_pow (de_int) (de_int))) (dw_or1 (dt_cmp (op_eqD hr.units) lf_eq (de_callH h__law_draw (hr.mono (by decide)) rfl (da_cons (de_var 0) (da_cons (de_int) (da_nil)))) (de_int))))) (de_non) (de_var 12)) (da_nil)))))) (da_nil))))))))) (dss_freeze 4 (dss_one (ds_ret (de_tuple rfl B.tuple_ (da_cons (de_var 4) (da_nil)))))))
def N__law_fits : List Str := ["_law_n", "_law_rules_here", "_law_value", "_law_count", "_law_first", "_law_size", "_law_low", "_law_high", "_law_found"]
theorem sc__law_fits : FnScope N__law_fits ["_law_n", "_law_rules_here", "_law_value"] (defScope (top 24)) := ⟨rfl, rfl, rfl, by decide +kernel, rfl, by decide +kernel, by decide +kernel⟩
theorem ok__law_fits (B : Bl mg) (d : HasDef K mg "_law_fits" (top 24)) (h__law_sum : Has P w K mg base CX0 1 "_law_sum" ["_law_filling", "_law_first", "_law_size"] (sp__law_sum)) : Has P w K mg base CX0 2 "_law_fits" ["_law_n", "_law_rules_here", "_law_value"] (sp__law_fits) :=
  has_of (t := t__law_fits) d sc__law_fits (fun _ _ _ _ _ _ us h => match us, h with | [a0, a1, a2], _ => rfl) len__law_fits rd__law_fits fun f cdv A outer s H E hr =>
  dss_cons (ds_if (PWd.pt (dw_or (dt_not (dt_val (de_isi rfl B.isinstance_ (da_cons (de_var 2) (da_cons (de_ty rfl B.tuple_ (by decide +kernel)) (da_nil)))))) (dw_or1 (dt_cmp (op_neD hr.units) lf_ne (de_len rfl B.len_ (da_cons (de_var 2) (da_nil))) (de_var 0))))) (dss_one (ds_ret (de_bl))) (dss_nil)) (dss_cons (ds_if (dt_cmp (op_neD hr.units) lf_ne (de_comp (own := [("_law_count", 3)]) (ct := (CT.name 3)) false rfl sc__law_fits.nd (di_list (de_var 2)) (blkOk_by (own := [("_law_count", 3)]) (N := N__law_fits) (by kernel_rfl)) (List.mem_singleton.mpr rfl) (fun _ _ _ _ _ => ct_name (i := 3) sc__law_fits.nd rfl (Or.inl rfl)) (fun _ _ _ _ _ => dts_one (PWd.pt (dw_or (dt_not (dt_val (de_isi rfl B.isinstance_ (da_cons (de_var 3) (da_cons (de_ty rfl B.int_ (by decide +kernel)) (da_nil)))))) (dw_or (dt_val (de_isi rfl B.isinstance_ (da_cons (de_var 3) (da_cons (de_ty rfl B.bool_ (by decide +kernel)) (da_nil))))) (dw_or1 (dt_cmp op_lt lf_lt (de_var 3) (de_int))))))) (fun _ _ _ _ _ => de_int)) (de_lst false (da_nil))) (dss_one (ds_ret (de_bl))) (dss_nil)) (dss_cons (ds_for PassesOwn.never rfl (di_list (de_var 1)) (dg_tup rfl (dgs_cons (dg_name (i := 4) sc__law_fits.nd rfl (Or.inl rfl)) (dgs_cons (dg_name (i := 5) sc__law_fits.nd rfl (Or.inl rfl)) (dgs_cons (dg_name (i := 6) sc__law_fits.nd rfl (Or.inl rfl)) (dgs_cons (dg_name (i := 7) sc__law_fits.nd rfl (Or.inl rfl)) (dgs_nil)))))) (dss_cons (ds_set (i := 8) sc__law_fits.nd rfl (Or.inl rfl) (de_callH h__law_sum (hr.mono (by decide)) rfl (da_cons (de_var 2) (da_cons (de_var 4) (da_cons (de_var 5) (da_nil)))))) (dss_one (ds_if (PWd.pt (dw_or (dt_cmp op_lt lf_lt (de_var 8) (de_var 6)) (dw_or1 (PWd.pt (dw_and (dt_cmp op_notN lf_notN (de_var 7) de_non) (dw_and1 (dt_cmp op_gt lf_gt (de_var 8) (de_var 7)))))))) (dss_one (ds_ret (de_bl))) (dss_nil))))) (dss_one (ds_ret (de_bl)))))
def N__law_all : List Str := ["_law_n", "_law_total", "_law_found", "_law_place", "_law_longer", "_law_row", "_law_left", "_law_count"]
theorem sc__law_all : FnScope N__law_all ["_law_n", "_law_total"] (defScope (top 25)) := ⟨rfl, rfl, rfl, by decide +kernel, rfl, by decide +kernel, by decide +kernel⟩
theorem ok__law_all (B : Bl mg) (d : HasDef K mg "_law_all" (top 25))  : Has P w K mg base CX0 1 "_law_all" ["_law_n", "_law_total"] (sp__law_all) :=
  has_of (t := t__law_all) d sc__law_all (fun _ _ _ _ _ _ us h => match us, h with | [a0, a1], _ => rfl) len__law_all rd__law_all fun f cdv A outer s H E hr =>
  dss_cons (ds_set (i := 2) sc__law_all.nd rfl (Or.inl rfl) (de_lst false (da_cons (de_tup (da_nil)) (da_nil)))) (dss_cons (ds_for PassesOwn.never rfl (di_range1 rfl B.range_ (da_cons (de_var 0) (da_nil))) (dg_name (i := 3) sc__law_all.nd rfl (Or.inr rfl)) (dss_cons (ds_set (i := 4) sc__law_all.nd rfl (Or.inl rfl) (de_lst true (da_nil))) (dss_cons (ds_for PassesOwn.never rfl (di_list (de_var 2)) (dg_name (i := 5) sc__law_all.nd rfl (Or.inr rfl)) (dss_cons (ds_set (i := 6) sc__law_all.nd rfl (Or.inr rfl) (de_sub (de_var 1) (de_sum rfl rfl B.sum_ (da_cons (de_var 5) (da_nil))))) (dss_one (ds_expr (de_extend (de_var 4) (da_cons (de_comp (own := [("_law_count", 7)]) (ct := (CT.name 7)) false rfl sc__law_all.nd (di_range1 rfl B.range_ (da_cons (de_add false (de_var 6) (de_int)) (da_nil))) (blkOk_by (own := [("_law_count", 7)]) (N := N__law_all) (by kernel_rfl)) (List.mem_singleton.mpr rfl) (fun _ _ _ _ _ => ct_name (i := 7) sc__law_all.nd rfl (Or.inl rfl)) (fun _ _ _ _ _ => dts_one (PWd.pt (dw_or (dt_cmp op_lt lf_lt (de_var 3) (de_sub (de_var 0) (de_int))) (dw_or1 (dt_cmp (op_eqD hr.units) lf_eq (de_var 7) (de_var 6)))))) (fun _ _ _ _ _ => de_add false (de_var 5) (de_tup (da_cons (de_var 7) (da_nil))))) (da_nil))))))) (dss_freeze 4 (dss_one (ds_set (i := 2) sc__law_all.nd rfl (Or.inl rfl) (de_var 4))))))) (dss_one (ds_ret (de_var 2))))
def N__law_flows : List Str := ["_law_n", "_law_found", "_law_border", "_law_longer", "_law_row", "_law_unit"]
theorem sc__law_flows : FnScope N__law_flows ["_law_n"] (defScope (top 26)) := ⟨rfl, rfl, rfl, by decide +kernel, rfl, by decide +kernel, by decide +kernel⟩
theorem ok__law_flows (B : Bl mg) (d : HasDef K mg "_law_flows" (top 26))  : Has P w K mg base CX0 1 "_law_flows" ["_law_n"] (sp__law_flows) :=
  has_of (t := t__law_flows) d sc__law_flows (fun _ _ _ _ _ _ us h => match us, h with | [a0], _ => rfl) len__law_flows rd__law_flows fun f cdv A outer s H E hr =>
  dss_cons (ds_set (i := 1) sc__law_flows.nd rfl (Or.inl rfl) (de_lst false (da_cons (de_tup (da_nil)) (da_nil)))) (dss_cons (ds_for PassesOwn.never rfl (di_range1 rfl B.range_ (da_cons (de_var 0) (da_nil))) (dg_name (i := 2) sc__law_flows.nd rfl (Or.inl rfl)) (dss_cons (ds_set (i := 3) sc__law_flows.nd rfl (Or.inl rfl) (de_lst true (da_nil))) (dss_cons (ds_for PassesOwn.never rfl (di_list (de_var 1)) (dg_name (i := 4) sc__law_flows.nd rfl (Or.inr rfl)) (dss_one (ds_expr (de_extend (de_var 3) (da_cons (de_comp (own := [("_law_unit", 5)]) (ct := (CT.name 5)) false rfl sc__law_flows.nd (di_list (de_tup (da_cons (de_neg (de_int)) (da_cons (de_int) (da_cons (de_int) (da_nil)))))) (blkOk_by (own := [("_law_unit", 5)]) (N := N__law_flows) (by kernel_rfl)) (List.mem_singleton.mpr rfl) (fun _ _ _ _ _ => ct_name (i := 5) sc__law_flows.nd rfl (Or.inl rfl)) (fun _ _ _ _ _ => dts_nil) (fun _ _ _ _ _ => de_add false (de_var 4) (de_tup (da_cons (de_var 5) (da_nil))))) (da_nil)))))) (dss_freeze 3 (dss_one (ds_set (i := 1) sc__law_flows.nd rfl (Or.inl rfl) (de_var 3))))))) (dss_one (ds_ret (de_var 1))))
def N__law_sent : List Str := ["_law_filling", "_law_flows_here", "_law_n", "_law_k"]
theorem sc__law_sent : FnScope N__law_sent ["_law_filling", "_law_flows_here"] (defScope (top 27)) := ⟨rfl, rfl, rfl, by decide +kernel, rfl, by decide +kernel, by decide +kernel⟩
theorem ok__law_sent (B : Bl mg) (d : HasDef K mg "_law_sent" (top 27))  : Has P w K mg base CX0 1 "_law_sent" ["_law_filling", "_law_flows_here"] (sp__law_sent) :=
  has_of (t := t__law_sent) d sc__law_sent (fun _ _ _ _ _ _ us h => match us, h with | [a0, a1], _ => rfl) len__law_sent rd__law_sent fun f cdv A outer s H E hr =>
  dss_cons (ds_set (i := 2) sc__law_sent.nd rfl (Or.inr rfl) (de_len rfl B.len_ (da_cons (de_var 0) (da_nil)))) (dss_one (ds_ret (de_tuple rfl B.tuple_ (da_cons (de_comp (own := [("_law_k", 3)]) (ct := (CT.name 3)) false rfl sc__law_sent.nd (di_range1 rfl B.range_ (da_cons (de_var 2) (da_nil))) (blkOk_by (own := [("_law_k", 3)]) (N := N__law_sent) (by kernel_rfl)) (List.mem_singleton.mpr rfl) (fun _ _ _ _ _ => ct_name (i := 3) sc__law_sent.nd rfl (Or.inl rfl)) (fun _ _ _ _ _ => dts_nil) (fun _ _ _ _ _ => de_sub (de_add false (de_ix (de_var 0) (de_var 3)) (de_ix (de_var 1) (de_var 3))) (de_ix (de_var 1) (de_mod (de_add false (de_var 3) (de_int)) (de_var 2))))) (da_nil)))))
def N__law_reached : List Str := ["_law_one", "_law_every", "_law_flows_here", "_law_found", "_law_rows", "_law_last", "_law_flow", "_law_after"]
theorem sc__law_reached : FnScope N__law_reached ["_law_one", "_law_every"] (defScope (top 28)) := ⟨rfl, rfl, rfl, by decide +kernel, rfl, by decide +kernel, by decide +kernel⟩
theorem ok__law_reached (B : Bl mg) (d : HasDef K mg "_law_reached" (top 28)) (h__law_flows : Has P w K mg base CX0 1 "_law_flows" ["_law_n"] (sp__law_flows)) (h__law_sent : Has P w K mg base CX0 1 "_law_sent" ["_law_filling", "_law_flows_here"] (sp__law_sent)) : Has P w K mg base CX0 2 "_law_reached" ["_law_one", "_law_every"] (sp__law_reached) :=
  has_of (t := t__law_reached) d sc__law_reached (fun _ _ _ _ _ _ us h => match us, h with | [a0, a1], _ => rfl) len__law_reached rd__law_reached fun f cdv A outer s H E hr =>
  dss_cons (ds_par3 (i := 2) (j := 3) (k := 4) rfl sc__law_reached.nd rfl rfl rfl (by decide) (by decide) (by decide) rfl rfl rfl (da_cons (de_callH h__law_flows (hr.mono (by decide)) rfl (da_cons (de_len rfl B.len_ (da_cons (de_var 0) (da_nil))) (da_nil))) (da_cons (de_dict1 hr.units (de_var 0) (de_int)) (da_cons (de_lst true (da_cons (de_var 0) (da_nil))) da_nil)))) (dss_cons (ds_while PassesOwn.never (dt_cmp (op_neD hr.units) lf_ne (de_var 4) (de_lst false (da_nil))) (dss_cons (ds_set (i := 5) sc__law_reached.nd rfl (Or.inl rfl) (de_popAt (de_var 4) (da_cons (de_int) (da_nil)))) (dss_one (ds_for PassesOwn.never rfl (di_list (de_var 2)) (dg_name (i := 6) sc__law_reached.nd rfl (Or.inl rfl)) (dss_cons (ds_set (i := 7) sc__law_reached.nd rfl (Or.inl rfl) (de_callH h__law_sent (hr.mono (by decide)) rfl (da_cons (de_var 5) (da_cons (de_var 6) (da_nil))))) (dss_one (ds_if (PWd.pt (dw_and (dt_cmp (op_inD (units65 hr)) lf_in (de_var 7) (de_var 1)) (dw_and1 (dt_cmp (op_dnotin hr.units) lf_din (de_var 7) (de_var 3))))) (dss_cons (ds_dput hr.units (de_add false (de_dget hr.units (de_var 3) (de_var 5)) (de_int)) (de_var 3) (de_var 7)) (dss_one (ds_expr (de_append (de_var 4) (da_cons (de_var 7) (da_nil)))))) (dss_nil)))))))) (dss_one (ds_ret (de_var 3))))
def N_law : List Str := ["_law_script", "_law_deck_here", "_law_turn", "_law_n", "_law_total", "_law_all_of", "_law_one", "_law_other", "_law_rules_here", "_law_every", "_law_filling", "_law_steps", "_law_way"]
theorem sc_law : FnScope N_law ["_law_script"] (defScope (top 29)) := ⟨rfl, rfl, rfl, by decide +kernel, rfl, by decide +kernel, by decide +kernel⟩
theorem fn_law (B : Bl mg) {f : Addr} {fd : FuncData} (F : FunD K "law" "law" (defArgs (top 29)) (defBody (top 29)) (defScope (top 29)) [] [] f fd) (h__law_all : Has P w K mg base CX0 1 "_law_all" ["_law_n", "_law_total"] (sp__law_all)) (h__law_deck : Has P w K mg base CX0 1 "_law_deck" ["_law_script"] (sp__law_deck)) (h__law_draw : Has P w K mg base CX0 1 "_law_draw" ["_law_deck_here", "_law_bound"] (sp__law_draw)) (h__law_fits : Has P w K mg base CX0 2 "_law_fits" ["_law_n", "_law_rules_here", "_law_value"] (sp__law_fits)) (h__law_reached : Has P w K mg base CX0 2 "_law_reached" ["_law_one", "_law_every"] (sp__law_reached)) (h__law_rules : Has P w K mg base CX0 2 "_law_rules" ["_law_deck_here", "_law_n", "_law_fillings", "_law_most"] (sp__law_rules)) (h_find_way : Has P w K mg base CX0 4 "find_way" ["n", "rules", "one", "other"] (sp_find_way)) (h_least_steps : Has P w K mg base CX0 3 "least_steps" ["one", "other"] (sp_least_steps)) (h_way_holds : Has P w K mg base CX0 5 "way_holds" ["n", "rules", "one", "other", "value"] (sp_way_holds)) : FnOk P w K mg base CX0 6 f fd ["_law_script"] (spL K sp_law) :=
  fn_at (t := t_law) F sc_law len_law rd_law fun f cdv A outer s H E hr =>
  dss_cons (ds_set (i := 1) sc_law.nd rfl (Or.inl rfl) (de_callH h__law_deck (hr.mono (by decide)) rfl (da_cons (de_var 0) (da_nil)))) (dss_cons (ds_for PassesOwn.never rfl (di_range1 rfl B.range_ (da_cons (de_int) (da_nil))) (dg_name (i := 2) sc_law.nd rfl (Or.inl rfl)) (dss_cons (ds_asg (de_tup (da_cons (de_add false (de_int) (de_callH h__law_draw (hr.mono (by decide)) rfl (da_cons (de_var 1) (da_cons (de_int) (da_nil))))) (da_cons (de_callH h__law_draw (hr.mono (by decide)) rfl (da_cons (de_var 1) (da_cons (de_int) (da_nil)))) (da_nil)))) (dg_tup rfl (dgs_cons (dg_name (i := 3) sc_law.nd rfl (Or.inr rfl)) (dgs_cons (dg_name (i := 4) sc_law.nd rfl (Or.inl rfl)) (dgs_nil))))) (dss_cons (ds_set (i := 5) sc_law.nd rfl (Or.inl rfl) (de_callH h__law_all (hr.mono (by decide)) rfl (da_cons (de_var 3) (da_cons (de_var 4) (da_nil))))) (dss_cons (ds_par (i := 6) (j := 7) rfl sc_law.nd rfl rfl (by decide) rfl rfl (da_cons (de_ix (de_var 5) (de_callH h__law_draw (hr.mono (by decide)) rfl (da_cons (de_var 1) (da_cons (de_len rfl B.len_ (da_cons (de_var 5) (da_nil))) (da_nil))))) (da_cons (de_ix (de_var 5) (de_callH h__law_draw (hr.mono (by decide)) rfl (da_cons (de_var 1) (da_cons (de_len rfl B.len_ (da_cons (de_var 5) (da_nil))) (da_nil))))) da_nil))) (dss_cons (ds_set (i := 8) sc_law.nd rfl (Or.inr rfl) (de_callH h__law_rules (hr.mono (by decide)) rfl (da_cons (de_var 1) (da_cons (de_var 3) (da_cons (de_lst false (da_cons (de_var 6) (da_cons (de_var 7) (da_nil)))) (da_cons (de_int) (da_nil))))))) (dss_cons (ds_setComp (i := 9) (own := [("_law_filling", 10)]) (ct := (CT.name 10)) false rfl sc_law.nd rfl rfl (sw_true rfl rfl rfl (by decide +kernel)) (di_list (de_var 5)) (blkOk_by (own := [("_law_filling", 10)]) (N := N_law) (by kernel_rfl)) (List.mem_singleton.mpr rfl) (fun _ _ _ _ _ => ct_name (i := 10) sc_law.nd rfl (Or.inl rfl)) (fun _ _ _ _ _ => dts_one (dt_val (de_callH h__law_fits (hr.mono (by decide)) rfl (da_cons (de_var 3) (da_cons (de_var 8) (da_cons (de_var 10) (da_nil))))))) (fun _ _ _ _ _ => de_var 10)) (dss_cons (ds_set (i := 11) sc_law.nd rfl (Or.inl rfl) (de_callH h__law_reached (hr.mono (by decide)) rfl (da_cons (de_var 6) (da_cons (de_var 9) (da_nil))))) (dss_one (ds_for PassesOwn.never rfl (di_list (de_var 9)) (dg_name (i := 10) sc_law.nd rfl (Or.inl rfl)) (dss_cons (ds_if (PWd.pt (dw_or (dt_cmp (op_dnotin hr.units) lf_din (de_var 10) (de_var 11)) (dw_or1 (dt_cmp (op_neD hr.units) lf_ne (de_repr rfl B.repr_ (da_cons (de_callH h_least_steps (hr.mono (by decide)) rfl (da_cons (de_var 6) (da_cons (de_var 10) (da_nil)))) (da_nil))) (de_repr rfl B.repr_ (da_cons (de_dget hr.units (de_var 11) (de_var 10)) (da_nil))))))) (dss_one (ds_ret (de_bl))) (dss_nil)) (dss_cons (ds_if (dt_cmp (op_neD hr.units) lf_ne (de_callH h_way_holds (hr.mono (by decide)) rfl (da_cons (de_var 3) (da_cons (de_var 8) (da_cons (de_var 6) (da_cons (de_var 10) (da_cons (de_tup (da_cons (de_var 6) (da_cons (de_var 10) (da_nil)))) (da_nil))))))) (de_cmp op_lt lf_lt (de_dget hr.units (de_var 11) (de_var 10)) (de_int))) (dss_one (ds_ret (de_bl))) (dss_nil)) (dss_cons (ds_set (i := 12) sc_law.nd rfl (Or.inl rfl) (de_callH h_find_way (hr.mono (by decide)) rfl (da_cons (de_var 3) (da_cons (de_var 8) (da_cons (de_var 6) (da_cons (de_var 10) (da_nil))))))) (dss_one (ds_if (PWd.pt (dw_or (dt_cmp (op_neD hr.units) lf_ne (de_len rfl B.len_ (da_cons (de_var 12) (da_nil))) (de_add false (de_dget hr.units (de_var 11) (de_var 10)) (de_int))) (dw_or1 (dt_cmp op_notBl lf_notB (de_callH h_way_holds (hr.mono (by decide)) rfl (da_cons (de_var 3) (da_cons (de_var 8) (da_cons (de_var 6) (da_cons (de_var 10) (da_cons (de_var 12) (da_nil))))))) de_bl)))) (dss_one (ds_ret (de_bl))) (dss_nil))))))))))))))) (dss_one (ds_ret (de_bl))))
end
end RW1

namespace RW1
open PySem PySem.Spec L2 DL
def lo0 : List Str := ["LISTED", "RingError", "TooMany", "is_number", "is_filling", "window_places", "window_sum", "broken_rules", "fits", "running_sums", "shifts", "least_steps", "part_way", "find_way", "is_step", "way_holds", "_law_deck", "_law_draw", "_law_sum", "_law_rules", "_law_fits", "_law_all", "_law_flows", "_law_sent", "_law_reached"]
def loose : List Str := lo0
abbrev R : PySem.W.OpenRow := PySem.W.OpenLaw.row PySem.Challenge.rw_ringwindows_k31_whole_steps_searched
def d0 : He.DefD := ⟨("is_number", none), "is_number", "is_number", defArgs (top 5), defBody (top 5), defScope (top 5), [], []⟩
def d1 : He.DefD := ⟨("is_filling", none), "is_filling", "is_filling", defArgs (top 6), defBody (top 6), defScope (top 6), [], []⟩
def d2 : He.DefD := ⟨("window_places", none), "window_places", "window_places", defArgs (top 7), defBody (top 7), defScope (top 7), [], []⟩
def d3 : He.DefD := ⟨("window_sum", none), "window_sum", "window_sum", defArgs (top 8), defBody (top 8), defScope (top 8), [], []⟩
def d4 : He.DefD := ⟨("broken_rules", none), "broken_rules", "broken_rules", defArgs (top 9), defBody (top 9), defScope (top 9), [], []⟩
def d5 : He.DefD := ⟨("fits", none), "fits", "fits", defArgs (top 10), defBody (top 10), defScope (top 10), [], []⟩
def d6 : He.DefD := ⟨("running_sums", none), "running_sums", "running_sums", defArgs (top 12), defBody (top 12), defScope (top 12), [], []⟩
def d7 : He.DefD := ⟨("shifts", none), "shifts", "shifts", defArgs (top 13), defBody (top 13), defScope (top 13), [], []⟩
def d8 : He.DefD := ⟨("least_steps", none), "least_steps", "least_steps", defArgs (top 14), defBody (top 14), defScope (top 14), [], []⟩
def d9 : He.DefD := ⟨("part_way", none), "part_way", "part_way", defArgs (top 15), defBody (top 15), defScope (top 15), [], []⟩
def d10 : He.DefD := ⟨("find_way", none), "find_way", "find_way", defArgs (top 16), defBody (top 16), defScope (top 16), [], []⟩
def d11 : He.DefD := ⟨("is_step", none), "is_step", "is_step", defArgs (top 17), defBody (top 17), defScope (top 17), [], []⟩
def d12 : He.DefD := ⟨("way_holds", none), "way_holds", "way_holds", defArgs (top 18), defBody (top 18), defScope (top 18), [], []⟩
def d13 : He.DefD := ⟨("_law_deck", none), "_law_deck", "_law_deck", defArgs (top 20), defBody (top 20), defScope (top 20), [], []⟩
def d14 : He.DefD := ⟨("_law_draw", none), "_law_draw", "_law_draw", defArgs (top 21), defBody (top 21), defScope (top 21), [], []⟩
def d15 : He.DefD := ⟨("_law_sum", none), "_law_sum", "_law_sum", defArgs (top 22), defBody (top 22), defScope (top 22), [], []⟩
def d16 : He.DefD := ⟨("_law_rules", none), "_law_rules", "_law_rules", defArgs (top 23), defBody (top 23), defScope (top 23), [], []⟩
def d17 : He.DefD := ⟨("_law_fits", none), "_law_fits", "_law_fits", defArgs (top 24), defBody (top 24), defScope (top 24), [], []⟩
def d18 : He.DefD := ⟨("_law_all", none), "_law_all", "_law_all", defArgs (top 25), defBody (top 25), defScope (top 25), [], []⟩
def d19 : He.DefD := ⟨("_law_flows", none), "_law_flows", "_law_flows", defArgs (top 26), defBody (top 26), defScope (top 26), [], []⟩
def d20 : He.DefD := ⟨("_law_sent", none), "_law_sent", "_law_sent", defArgs (top 27), defBody (top 27), defScope (top 27), [], []⟩
def d21 : He.DefD := ⟨("_law_reached", none), "_law_reached", "_law_reached", defArgs (top 28), defBody (top 28), defScope (top 28), [], []⟩
def d22 : He.DefD := ⟨("law", none), "law", "law", defArgs (top 29), defBody (top 29), defScope (top 29), [], []⟩
def fn : List He.DefD := [d0, d1, d2, d3, d4, d5, d6, d7, d8, d9, d10, d11, d12, d13, d14, d15, d16, d17, d18, d19, d20, d21, d22]
def fa : List He.Fa := [.glo "is_number", .glo "is_filling", .glo "window_places", .glo "window_sum", .glo "broken_rules", .glo "fits", .glo "running_sums", .glo "shifts", .glo "least_steps", .glo "part_way", .glo "find_way", .glo "is_step", .glo "way_holds", .glo "_law_deck", .glo "_law_draw", .glo "_law_sum", .glo "_law_rules", .glo "_law_fits", .glo "_law_all", .glo "_law_flows", .glo "_law_sent", .glo "_law_reached", .glo "law", .free "len", .free "sum", .free "max", .free "min", .free "sorted", .free "tuple", .free "list", .free "int", .free "abs", .free "all", .free "isinstance", .free "range", .free "zip", .free "enumerate", .free "bool", .free "str", .free "dict", .free "repr", .free "set", .int "LISTED" 500]
abbrev hk : PySem.W.Hook := He.hookD 4 fa fn
def ob (s : PySem.W.SharedT) : He.AlD := He.obsDG 4 fa fn (HandSHeadRun.getT s)
theorem ob_eq (s : PySem.W.SharedT) : ob s = hk.obs s.abs := He.obsDG_eq (HandSHeadRun.getT_eq s)
theorem run (w : World) : HandSHeadRun.RunEq R (PySem.W.view R.prog [29]) hk ob 20000 loose w := by
  intro os
  kernel_rfl
theorem facts {P : Program} {w : World} {K : PySem.W.Frag} {h : Heap} {mg : Str → Option Value} {f : Addr} (X : K.In h) (G : h.Ns mainGlobals mg) (hfa : mg ("law" : Str) = some (.ref f)) (c : He.SaysD fa fn K) :
    ∃ fd : FuncData, (∀ (s : Shared) (v : Value), BindsTo s fd ⟨[v], []⟩ [("_law_script", v)]) ∧ ∀ base : Heap, K.In base → base.Ns mainGlobals mg → FnOk P w K mg base CX0 6 f fd ["_law_script"] (spL K sp_law) := by
  obtain ⟨fd0, F0⟩ := c.def_ 0 (d := d0) rfl
  have D0 : HasDef K mg "is_number" (top 5) := has_at F0 (He.glo_ok X G (c.fact 0 (f := .glo "is_number") rfl))
  obtain ⟨fd1, F1⟩ := c.def_ 1 (d := d1) rfl
  have D1 : HasDef K mg "is_filling" (top 6) := has_at F1 (He.glo_ok X G (c.fact 1 (f := .glo "is_filling") rfl))
  obtain ⟨fd2, F2⟩ := c.def_ 2 (d := d2) rfl
  have D2 : HasDef K mg "window_places" (top 7) := has_at F2 (He.glo_ok X G (c.fact 2 (f := .glo "window_places") rfl))
  obtain ⟨fd3, F3⟩ := c.def_ 3 (d := d3) rfl
  have D3 : HasDef K mg "window_sum" (top 8) := has_at F3 (He.glo_ok X G (c.fact 3 (f := .glo "window_sum") rfl))
  obtain ⟨fd4, F4⟩ := c.def_ 4 (d := d4) rfl
  have D4 : HasDef K mg "broken_rules" (top 9) := has_at F4 (He.glo_ok X G (c.fact 4 (f := .glo "broken_rules") rfl))
  obtain ⟨fd5, F5⟩ := c.def_ 5 (d := d5) rfl
  have D5 : HasDef K mg "fits" (top 10) := has_at F5 (He.glo_ok X G (c.fact 5 (f := .glo "fits") rfl))
  obtain ⟨fd6, F6⟩ := c.def_ 6 (d := d6) rfl
  have D6 : HasDef K mg "running_sums" (top 12) := has_at F6 (He.glo_ok X G (c.fact 6 (f := .glo "running_sums") rfl))
  obtain ⟨fd7, F7⟩ := c.def_ 7 (d := d7) rfl
  have D7 : HasDef K mg "shifts" (top 13) := has_at F7 (He.glo_ok X G (c.fact 7 (f := .glo "shifts") rfl))
  obtain ⟨fd8, F8⟩ := c.def_ 8 (d := d8) rfl
  have D8 : HasDef K mg "least_steps" (top 14) := has_at F8 (He.glo_ok X G (c.fact 8 (f := .glo "least_steps") rfl))
  obtain ⟨fd9, F9⟩ := c.def_ 9 (d := d9) rfl
  have D9 : HasDef K mg "part_way" (top 15) := has_at F9 (He.glo_ok X G (c.fact 9 (f := .glo "part_way") rfl))
  obtain ⟨fd10, F10⟩ := c.def_ 10 (d := d10) rfl
  have D10 : HasDef K mg "find_way" (top 16) := has_at F10 (He.glo_ok X G (c.fact 10 (f := .glo "find_way") rfl))
  obtain ⟨fd11, F11⟩ := c.def_ 11 (d := d11) rfl
  have D11 : HasDef K mg "is_step" (top 17) := has_at F11 (He.glo_ok X G (c.fact 11 (f := .glo "is_step") rfl))
  obtain ⟨fd12, F12⟩ := c.def_ 12 (d := d12) rfl
  have D12 : HasDef K mg "way_holds" (top 18) := has_at F12 (He.glo_ok X G (c.fact 12 (f := .glo "way_holds") rfl))
  obtain ⟨fd13, F13⟩ := c.def_ 13 (d := d13) rfl
  have D13 : HasDef K mg "_law_deck" (top 20) := has_at F13 (He.glo_ok X G (c.fact 13 (f := .glo "_law_deck") rfl))
  obtain ⟨fd14, F14⟩ := c.def_ 14 (d := d14) rfl
  have D14 : HasDef K mg "_law_draw" (top 21) := has_at F14 (He.glo_ok X G (c.fact 14 (f := .glo "_law_draw") rfl))
  obtain ⟨fd15, F15⟩ := c.def_ 15 (d := d15) rfl
  have D15 : HasDef K mg "_law_sum" (top 22) := has_at F15 (He.glo_ok X G (c.fact 15 (f := .glo "_law_sum") rfl))
  obtain ⟨fd16, F16⟩ := c.def_ 16 (d := d16) rfl
  have D16 : HasDef K mg "_law_rules" (top 23) := has_at F16 (He.glo_ok X G (c.fact 16 (f := .glo "_law_rules") rfl))
  obtain ⟨fd17, F17⟩ := c.def_ 17 (d := d17) rfl
  have D17 : HasDef K mg "_law_fits" (top 24) := has_at F17 (He.glo_ok X G (c.fact 17 (f := .glo "_law_fits") rfl))
  obtain ⟨fd18, F18⟩ := c.def_ 18 (d := d18) rfl
  have D18 : HasDef K mg "_law_all" (top 25) := has_at F18 (He.glo_ok X G (c.fact 18 (f := .glo "_law_all") rfl))
  obtain ⟨fd19, F19⟩ := c.def_ 19 (d := d19) rfl
  have D19 : HasDef K mg "_law_flows" (top 26) := has_at F19 (He.glo_ok X G (c.fact 19 (f := .glo "_law_flows") rfl))
  obtain ⟨fd20, F20⟩ := c.def_ 20 (d := d20) rfl
  have D20 : HasDef K mg "_law_sent" (top 27) := has_at F20 (He.glo_ok X G (c.fact 20 (f := .glo "_law_sent") rfl))
  obtain ⟨fd21, F21⟩ := c.def_ 21 (d := d21) rfl
  have D21 : HasDef K mg "_law_reached" (top 28) := has_at F21 (He.glo_ok X G (c.fact 21 (f := .glo "_law_reached") rfl))
  obtain ⟨fd, F⟩ := c.def_ 22 (d := d22) rfl
  have e := hfa.symm.trans (He.glo_ok X G (c.fact 22 (f := .glo "law") rfl))
  cases e
  have B : Bl mg := ⟨He.free_ok X G (c.fact 23 (f := .free "len") rfl), He.free_ok X G (c.fact 24 (f := .free "sum") rfl), He.free_ok X G (c.fact 25 (f := .free "max") rfl), He.free_ok X G (c.fact 26 (f := .free "min") rfl), He.free_ok X G (c.fact 27 (f := .free "sorted") rfl), He.free_ok X G (c.fact 28 (f := .free "tuple") rfl), He.free_ok X G (c.fact 29 (f := .free "list") rfl), He.free_ok X G (c.fact 30 (f := .free "int") rfl), He.free_ok X G (c.fact 31 (f := .free "abs") rfl), He.free_ok X G (c.fact 32 (f := .free "all") rfl), He.free_ok X G (c.fact 33 (f := .free "isinstance") rfl), He.free_ok X G (c.fact 34 (f := .free "range") rfl), He.free_ok X G (c.fact 35 (f := .free "zip") rfl), He.free_ok X G (c.fact 36 (f := .free "enumerate") rfl), He.free_ok X G (c.fact 37 (f := .free "bool") rfl), He.free_ok X G (c.fact 38 (f := .free "str") rfl), He.free_ok X G (c.fact 39 (f := .free "dict") rfl), He.free_ok X G (c.fact 40 (f := .free "repr") rfl), He.free_ok X G (c.fact 41 (f := .free "set") rfl)⟩
  have g_LISTED : ∃ t, mg "LISTED" = some (.int 500 t) := He.int_ok X G (c.fact 42 (f := .int "LISTED" 500) rfl)
  have b := FunD.bindsA (ps := ["_law_script"]) F fun _ _ _ _ _ _ us hl => match us, hl with | [_], _ => rfl
  refine ⟨fd, fun s v => b s [v] rfl, fun base _ _ => ?_⟩
  have h_is_number := ok_is_number (P := P) (w := w) (base := base) B D0 
  have h_is_filling := ok_is_filling (P := P) (w := w) (base := base) B D1 h_is_number
  have h_window_places := ok_window_places (P := P) (w := w) (base := base) B D2 
  have h_window_sum := ok_window_sum (P := P) (w := w) (base := base) B D3 h_window_places
  have h_broken_rules := ok_broken_rules (P := P) (w := w) (base := base) B D4 h_window_sum
  have h_fits := ok_fits (P := P) (w := w) (base := base) B D5 h_broken_rules h_is_filling
  have h_running_sums := ok_running_sums (P := P) (w := w) (base := base) B D6 
  have h_shifts := ok_shifts (P := P) (w := w) (base := base) B D7 h_running_sums
  have h_least_steps := ok_least_steps (P := P) (w := w) (base := base) B D8 h_shifts
  have h_part_way := ok_part_way (P := P) (w := w) (base := base) B D9 h_running_sums h_shifts
  have h_find_way := ok_find_way (P := P) (w := w) (base := base) B D10 g_LISTED h_least_steps h_part_way
  have h_is_step := ok_is_step (P := P) (w := w) (base := base) B D11 h_least_steps
  have h_way_holds := ok_way_holds (P := P) (w := w) (base := base) B D12 h_fits h_is_step
  have h__law_deck := ok__law_deck (P := P) (w := w) (base := base) B D13 
  have h__law_draw := ok__law_draw (P := P) (w := w) (base := base) B D14 
  have h__law_sum := ok__law_sum (P := P) (w := w) (base := base) B D15 
  have h__law_rules := ok__law_rules (P := P) (w := w) (base := base) B D16 h__law_draw h__law_sum
  have h__law_fits := ok__law_fits (P := P) (w := w) (base := base) B D17 h__law_sum
  have h__law_all := ok__law_all (P := P) (w := w) (base := base) B D18 
  have h__law_flows := ok__law_flows (P := P) (w := w) (base := base) B D19 
  have h__law_sent := ok__law_sent (P := P) (w := w) (base := base) B D20 
  have h__law_reached := ok__law_reached (P := P) (w := w) (base := base) B D21 h__law_flows h__law_sent
  exact fn_law B F h__law_all h__law_deck h__law_draw h__law_fits h__law_reached h__law_rules h_find_way h_least_steps h_way_holds
theorem sp_law_end (ns : List Int) (M : MS) (Q : QD) (E : XD) (hl : ns.length ≤ 63) (h : ∀ M', Q (.bl true) M') : sp_law [.scr (ns.map D.int)] M Q E := ⟨ns, rfl, by omega, h⟩
end RW1
open PySem PySem.W PySem.Calls PyProof.Rows
theorem PySem.Challenge.cw_ringwindows_k31_whole_steps_searched_holds : PySem.Challenge.rw_ringwindows_k31_whole_steps_searched.Holds := by
  w_on; o_law
  refine HandSHeadRun.head_any (r := OpenLaw.row PySem.Challenge.rw_ringwindows_k31_whole_steps_searched) (q := view (OpenLaw.row PySem.Challenge.rw_ringwindows_k31_whole_steps_searched).prog [29]) (H := RW1.hk) (ob := RW1.ob) (M := 20000) (loose := RW1.loose) (d := HandSHeadRun.topDef (OpenLaw.row PySem.Challenge.rw_ringwindows_k31_whole_steps_searched).prog 29) (kwd := []) RW1.ob_eq
    (by kernel_rfl) (fun s => by kernel_rfl) RW1.run (by kernel_rfl) (by kernel_rfl) (by kernel_rfl) (by rfl) (by first | assumption | decide +kernel) (by decide +kernel) ⟨rfl, rfl, rfl, rfl, rfl, by decide +kernel⟩ ?hw ?hc
  case hw => w_witness2
  case hc =>
    refine L2.walk_ofE (l := PySem.Challenge.rw_ringwindows_k31_whole_steps_searched) (n := 63) (k := 6) (x := "_law_script") (CX := L2.CX0) rfl (by decide) (by kernel_rfl) ⟨rfl, by decide, by decide⟩ ?F (fun _ _ _ _ z => z)
    intro w mg fa h Y G hmg0
    obtain ⟨K, KX, c⟩ := Y
    have hmg : mg ("law" : PySem.Str) = some (.ref fa) := by
      have e : (HandSHeadRun.topDef (OpenLaw.row PySem.Challenge.rw_ringwindows_k31_whole_steps_searched).prog 29).name = ("law" : PySem.Str) := by kernel_rfl
      rw [← e]
      exact hmg0
    obtain ⟨fd, hb, hF⟩ := RW1.facts (P := (PySem.Challenge.rw_ringwindows_k31_whole_steps_searched).prog) (w := w) KX G hmg c
    exact ⟨K, fd, DL.spL K RW1.sp_law, KX, hb, fun H a ns hl _ hS => DL.law_sp RW1.sp_law_end H a ns hl hS, hF⟩
