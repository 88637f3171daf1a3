import PyProof.Rows.All
import Wide.All
import OpenK.AllK
import Wide.FinOn
import KE.GoesMore
import HandS.ForMost
import HandS.Walk
import HandS.ForExc
import HandS.ExcOwn
import HandS.Finally
import KE.KWithOwn
import HandS.Defaults
import HandS.Property
import HandS.HotCalls
import HandS.More
import HandS.Slots
import HandS.SlotsOwn
import HandS.ClsMeth
import HandS.GenYield
import HandS.GenCall
import HandS.GenList
import HandS.ExcInit
import HandS.ExcField
import HandS.TryOnly
import HandS.FStr
import HandS.IsInst
import HandS.AnyAll
import HandS.Zip
import HandS.Star
import HandS.Conv
import HandS.DictComp
import HandS.DictEq
import HandS.SortKw
import HandS.MakeKw
import KE.KUnpackStar
import KE.KDictSum
import KE.DataMinMax
import HandS.Set
import HandS.Strs
import HandS.CallLocal
import HandS.Dict
import HandS.Words
import HandS.WordsExc
import HandS.Flow
import HandS.GenBody
import PySem.Challenge.RW_bittenplates_k57_whole_works_and_recipes
import KE.KStateDown
import Lean
import HandS.Head0
import HandS.Head1
import HandS.Head2
import HandS.HeadEnd
import HandS.HeadHook1
import HandS.HeadHook2
import HandS.HeadHook3
import HandS.HeadNt
set_option Elab.async false
set_option linter.all false
set_option maxRecDepth 100000
set_option maxHeartbeats 0
/-! Own rules, part a: enumerate(tuple). -/
namespace PySem
open AutoSeq1 (wpAny_loadPart')
theorem k57_enum_newT (l : Addr) (items : Array Value) (n : Nat) (dct : Option Addr) (sl : Array (Option Value)) :
    Meets (Builtin.«enumerate.__new__» ⟨[.type "enumerate", .ref l], []⟩) (fun _ R s => s.heap.get? l = some { cls := .type "tuple", dict := dct, data := .seq items n, slots := sl } ∧
      R (.ok (.ret (.ref (s.heap.push { cls := .type "tuple_iterator", data := .fields #[.ref l, .int 0 0] }).objs.size)))
        { s with heap := (s.heap.push { cls := .type "tuple_iterator", data := .fields #[.ref l, .int 0 0] }).push { cls := .type "enumerate", data := .fields #[.none, .bool false, .ref s.heap.objs.size, rawInt 0, .none, .none] } }) :=
  .of_wp fun prog w A R s h => by
    obtain ⟨hp, g, d, tk, os⟩ := s
    obtain ⟨hl, h⟩ := h
    have hsub := sub_enumerate
    have hT : Heap.IsTuple hp l items := ⟨_, hl, rfl, n, rfl⟩
    have q1 : ∀ {A' : Around} {E : Value → Shared → Prop} {Q : Value → Shared → Prop}, Q (.ref hp.objs.size) ⟨hp.push { cls := .type "tuple_iterator", data := .fields #[.ref l, .int 0 0] }, g, d, tk, os⟩ → wpAny (model prog w) A' (pyIter (.ref l)) Q E ⟨hp, g, d, tk, os⟩ :=
      fun q => wpAny_pyIter_tuple hT q
    wp_walk using wpAny_loadPart' hl, q1
    refine wpAny_stack_any fun st => wpAny_pure ?_
    split
    · rename_i c _ _ _ _ _
      cases (c == Value.type "enumerate") <;> (wp_walk using wpAny_loadPart' hl, q1; exact ⟨_, rfl, h⟩)
    · wp_walk using wpAny_loadPart' hl, q1
      exact ⟨_, rfl, h⟩
theorem k57_call_enumT {prog : Program} {w : World} {A : Around} {E : Value → Shared → Prop} {s : Shared} {l : Addr} {items : Array Value} {Q : Value → Shared → Prop} (hL : s.heap.IsTuple l items)
    (h : ∀ h', IsEnum h' (s.heap.objs.size + 1) s.heap.objs.size 0 .none → h'.IsTupleIter s.heap.objs.size l 0 →
      (∀ b o, s.heap.get? b = some o → h'.get? b = some o) → Q (.ref (s.heap.objs.size + 1)) { s with heap := h' }) :
    wpAny (model prog w) A (call (.type "enumerate") [.ref l]) Q E s := by
  obtain ⟨⟨c, dct, dt, sl⟩, hl, hc, n, hd⟩ := hL
  obtain rfl : c = .type "tuple" := hc
  obtain rfl : dt = .seq items n := hd
  refine callType_new F.called_enumerate (by decide) (F.typeCall_enumerate_1 _) (F.newCall_enumerate_1 _) (fun obj => F.args_object_init_2 obj _) F.entry_enumerate_new (k57_enum_newT l items n dct sl) ⟨hl, ?_⟩
  have hz : (s.heap.push { cls := .type "tuple_iterator", data := .fields #[.ref l, .int 0 0] }).objs.size = s.heap.objs.size + 1 := Heap.size_push ..
  show _ ∧ _
  rw [hz]
  have he : IsEnum ((s.heap.push { cls := .type "tuple_iterator", data := .fields #[.ref l, .int 0 0] }).push { cls := .type "enumerate", data := .fields #[.none, .bool false, .ref s.heap.objs.size, rawInt 0, .none, .none] }) (s.heap.objs.size + 1) s.heap.objs.size 0 .none := by
    have z := Heap.get?_push_size (s.heap.push { cls := .type "tuple_iterator", data := .fields #[.ref l, .int 0 0] }) (o := { cls := .type "enumerate", data := .fields #[.none, .bool false, .ref s.heap.objs.size, rawInt 0, .none, .none] }) rfl
    rw [hz] at z
    exact z
  exact ⟨⟨_, he, rfl⟩, h _ he ⟨_, Heap.get?_push_of_some _ (Heap.get?_push_size _ rfl), rfl, rfl⟩ fun b o x => Heap.get?_push_of_some _ (Heap.get?_push_of_some _ x)⟩
end PySem

namespace L2
open PySem PySem.Spec PyProof.Rows
/-- enumerate over the tuple at a -/
def IteT (K : PySem.W.Frag) (a : Addr) : It :=
  ⟨fun i H => ∃ (xs : List V) (x : V), SqT K H a xs ∧ xs[i]? = some x, fun i H v H' => ∃ T x, v = .ref T ∧ H T = none ∧ H' = upd H T (.tup [.int (i : Nat), x]) ∧ ∀ xs, SqT K H a xs → xs[i]? = some x, fun i H => ∃ xs : List V, SqT K H a xs ∧ xs.length = i⟩
theorem turn_enumT {P : Program} {w : World} {K : PySem.W.Frag} {elts : List Expr} {kk : Nat} {tpos : Pos} (a e it : Addr) :
    Turn P w K (.Tuple elts kk tpos) (IteT K a) [e, it] e (fun i h => (∃ old, IsEnum h e it ((i : Nat) : Int) old) ∧ h.IsTupleIter it a i ∧ e ≠ it) where
  mem := by simp
  obj := fun i h st b hb => by
    obtain ⟨⟨old, he⟩, ⟨o, ho, hc, hd⟩, _⟩ := st
    have e' : b = e ∨ b = it := by simpa using hb
    rcases e' with z | z
    · rw [z]; exact ⟨_, he, fun v q => nomatch q⟩
    · rw [z]; exact ⟨o, ho, fun v q => by rw [hd] at q; cases q⟩
  keep := fun i h h' st k => let ⟨⟨old, he⟩, hi, hne⟩ := st; ⟨⟨old, k e (by simp) _ he⟩, hi.at fun o q => k it (by simp) o q, hne⟩
  item := by
    intro X hP hw hK hc i pins s σ H E I hf st hg
    subst hP hw hK
    obtain ⟨⟨old, he⟩, hit, hne⟩ := st
    obtain ⟨xs, x, hq, hx⟩ := hg
    obtain ⟨its, rv, p, hz⟩ := I.tuple hq
    obtain ⟨u0, hu, ru⟩ := rv.get hx
    have hel : e < s.heap.objs.size := Heap.lt_size he
    have hil : it < s.heap.objs.size := by obtain ⟨_, q, _⟩ := hit; exact Heap.lt_size q
    have hlt : i < its.toArray.size := by
      have z := (List.getElem?_eq_some_iff.mp hu).1
      simpa using z
    have hae : e ≠ a := fun z => by
      obtain ⟨o, e1, c1, _⟩ := p
      rw [← z, he] at e1
      have e2 := Option.some.inj e1
      rw [← e2] at c1
      exact absurd c1 (by show ¬ Value.type "enumerate" = Value.type "tuple"; decide +kernel)
    have hat : a ≠ it := fun z => by
      obtain ⟨o, e1, c1, _⟩ := p
      obtain ⟨o2, e2, c2, _⟩ := hit
      rw [z, e2] at e1
      rw [← Option.some.inj e1, c2] at c1
      exact absurd c1 (by decide +kernel)
    refine wpAny_pyNext_enum_itemD (Draws.tuple (show X.A.in1.handled = none from I.ok.hd hc) it a hat its.toArray) he ⟨hit, p⟩ hlt hne (by simp [hne, hae]) fun x' h' tk hPx ho hs' hT hsz hk => ?_
    have ex : x' = u0 := by
      have z : its.toArray[i]? = some x' := hPx
      have z2 : its[i]? = some x' := by simpa using z
      rw [hu] at z2
      exact (Option.some.inj z2).symm
    subst ex
    refine ⟨_, rfl, wpAny_letOwnedTupleGo_enum (s := { s with heap := h', toks := tk + 1 }) ho fun h'' he' sb => ?_⟩
    have hT2 : h''.get? s.heap.objs.size = some { cls := .type "tuple", data := .seq #[.int i tk, x'] } := (sb.2 _ (Nat.ne_of_gt hel)).trans hT
    have new : ObjOk X.prog X.w (upd H s.heap.objs.size (.tup [.int (i : Nat), x])) h'' s.heap.objs.size (.tup [.int (i : Nat), x]) :=
      ⟨by show 2 ≤ sizeLine; decide, [.int i tk, x'], .cons ⟨_, rfl⟩ (.cons ru .nil), ⟨_, hT2, rfl, _, rfl⟩⟩
    have I1 : Inv X pins σ (upd H s.heap.objs.size (.tup [.int (i : Nat), x])) { s with heap := h'', toks := tk + 1 } :=
      I.turnedNew (ch := [e, it]) (fun b ob hb q => (sb.2 b (fun z => hb (by simp [z]))).trans (hk b ob (fun z => hb (by simp [z])) (fun z => hb (by simp [z])) q)) hf (Nat.le_refl _) new
    refine ⟨.ref s.heap.objs.size, _, I1, rfl, ⟨_, x, rfl, I.hok.fresh (Nat.le_refl _), rfl, fun ys hy => by rw [I.tuple_inj hy hq]; exact hx⟩, ⟨⟨x', ?_⟩, hs'.1.at fun o q => (sb.2 it (Ne.symm hne)).trans q, hne⟩, fun b hb => ?_⟩
    · have e1 : ((i + 1 : Nat) : Int) = (i : Int) + 1 := by omega
      rw [e1]; exact he'
    · have hb' : b < s.heap.objs.size := by
        have e' : b = e ∨ b = it := by simpa using hb
        rcases e' with z | z
        · rw [z]; exact hel
        · rw [z]; exact hil
      rw [upd_ne (Nat.ne_of_lt hb')]
      exact (hf b hb).1
  done := by
    intro X hP hw hK hc i pins s σ H E I hf st hg
    subst hP hw hK
    obtain ⟨⟨old, he⟩, hit, hne⟩ := st
    obtain ⟨xs, hq, hx⟩ := hg
    obtain ⟨its, rv, p, hz⟩ := I.tuple hq
    obtain ⟨f0, f1, f2, f3, f4, f5⟩ := hf it (by simp)
    have hat : a ≠ it := fun z => by
      obtain ⟨o, e1, c1, _⟩ := p
      obtain ⟨o2, e2, c2, _⟩ := hit
      rw [z, e2] at e1
      rw [← Option.some.inj e1, c2] at c1
      exact absurd c1 (by decide +kernel)
    have hl : i = its.toArray.size := by
      have z := rv.length
      simp
      omega
    subst hl
    exact wpAny_pyNext_enum_endD (Draws.tuple (show X.A.in1.handled = none from I.ok.hd hc) it a hat its.toArray) he ⟨hit, p⟩ fun h' eb => ⟨rfl, I.turned (t' := s.toks) (fun b o hb q => eb b o hb q) f0 f1 f3 f4 f5⟩
  self := fun A i s Q E st h => let ⟨⟨_, he⟩, _⟩ := st; wpAny_pyIter_enum he h
def iEnumT (K : PySem.W.Frag) (ta : TA) : TI := fun σ H R => ta σ H fun vs H1 => ∃ a xs, vs = [.ref a] ∧ SqT K H1 a xs ∧ R (IteT K a) H1
theorem pi_enumT {X : Cx} {e : Expr} {ta : TA} {p pos tpos : Pos} {elts : List Expr} {kk : Nat} (hg : Gl X "enumerate") (hm : X.mg "enumerate" = none) (ha : PA X [e] ta) (hs : starEach [e] X.env = [(false, eval e X.env)] := by rfl) :
    PI X (.Tuple elts kk tpos) (.Call (.Name "enumerate" p) [e] [] pos) (iEnumT X.K ta) := by
  refine ⟨fun pins s σ H R I h => ?_⟩
  refine Call_ (ld_blt I hg hm boot_enumerate (PyProof.Rows.callWith_type1 (thn (ha.run pos pins s σ H _ I h) fun us s1 ⟨vs, H1, I1, r1, q1⟩ => ?_) hs rfl))
  obtain ⟨a, xs, ex, hq, q⟩ := q1
  subst ex
  cases r1 with
  | cons r rr =>
    cases rr
    cases r
    obtain ⟨its, rv, p', hz⟩ := I1.tuple hq
    refine PySem.k57_call_enumT (show s1.heap.IsTuple a its.toArray from p') fun h' he hit hk => wpAny_pyIter_enum he ?_
    have I2 : Inv X pins σ H1 { s1 with heap := h' } := I1.kept (t' := s1.toks) hk
    refine ⟨s1.heap.objs.size + 1, [s1.heap.objs.size + 1, s1.heap.objs.size], _, _, H1, rfl, I2, turn_enumT a (s1.heap.objs.size + 1) s1.heap.objs.size, ⟨⟨.none, he⟩, hit, Nat.succ_ne_self _⟩, fun b hb => ?_, q⟩
    have e' : b = s1.heap.objs.size + 1 ∨ b = s1.heap.objs.size := by simpa using hb
    have hle : s1.heap.objs.size ≤ b := by
      rcases e' with z | z
      · rw [z]; exact Nat.le_add_right _ _
      · rw [z]; exact Nat.le_refl _
    exact I1.fpOk hle (I1.hok.fresh hle)
theorem walk_enumT {K : PySem.W.Frag} {a : Addr} {xs : List V} : Walk (IteT K a) xs.length (fun H => SqT K H a xs ∧ ∀ ys, SqT K H a ys → ys = xs) (YPair (fun i => some (.int (i : Nat))) (fun i => xs[i]?)) := by
  refine ⟨fun i _ hi q => ⟨xs, xs[i], q.1, by simp [hi]⟩, fun _ q => ⟨xs, q.1, rfl⟩, fun i H v H' _ q y => ?_⟩
  obtain ⟨T, x, h1, h2, h3, h4⟩ := y
  exact ⟨T, .int (i : Nat), x, h1, h2, h3, rfl, h4 xs q.1⟩
end L2
/-! Own rules, part b: a list comprehension whose element raises. -/
namespace PySem
theorem k57_noteFrame {e : Value} {a b : Env} (h : a.frame = b.frame) : noteFrame e a = noteFrame e b := by
  unfold noteFrame frameOf
  rw [h]
section
variable {M : Model} {A : Around} {E : Value → Shared → Prop} {s : Shared} {env : Env}
/-- behind a block: an error flies on from the frame fr -/
def k57_post (M : Model) (A : Around) (E : Value → Shared → Prop) (fr : Option Addr) (use : Option (Value → Sem Unit)) (Q : Value → Shared → Prop) (acc : Value) (C : Addr) (r : Result) (s' : Shared) : Prop :=
  match r, use with
  | .ok _, none => ∃ m, s'.heap.Ns C m ∧ ∀ h', Heap.SameBut C s'.heap h' → Q acc { s' with heap := h' }
  | .ok _, some u => wpAny M A (u acc) (fun _ s'' => ∃ m, s''.heap.Ns C m ∧ ∀ h', Heap.SameBut C s''.heap h' → Q .none { s'' with heap := h' }) E s'
  | .error x, _ => ∃ m, s'.heap.Ns C m ∧ ∀ h', Heap.SameBut C s'.heap h' → ∀ cenv : Env, cenv.locals = C → cenv.frame = fr → wpAny M A (passOn "comprehension.variables-let-go" x cenv : Sem Value) (fun _ _ => False) E { s' with heap := h' }
theorem k57_comprehension {e : Expr} {scope : Scope} {pos : Pos} {newAcc first : Sem Value} {g : Comprehension} {gs : List Comprehension} {cl : List (Str × Addr)} {use : Option (Value → Sem Unit)}
    {Q : Value → Shared → Prop}
    (hcl : clausesOf e = g :: gs) (hs : ∀ x, foldedSetIterable g.iter env x = pure x) (hclos : closureFor scope env = pure cl)
    (hkind : scope.kind = .function) (hnames : ∀ x ∈ scope.names, x.2 = .local → scope.names.lookup x.1 = some .local)
    (h : wpAny M A first (fun x s₁ => wpAny M A (pyIter x) (fun it s₂ => wpAny M A newAcc (fun acc s₃ =>
      wpAny M A (newFunctionEnv scope env.globals cl [] env.qual none .none (some env)) (fun cenv s₄ => cenv.frame = env.frame ∧
        codeAny M A (.compStart e 0 it acc { cenv with scope := relabel scope env }) (k57_post M A E env.frame use Q acc cenv.locals) s₄) E s₃) E s₂) E s₁) E s) :
    wpAny M A (comprehension e scope env pos newAcc false first use) Q E s := by
  unfold comprehension
  rw [hclos, hcl]
  refine wpAny_bind (wpAny_mono h (fun x s₁ h₁ => wpAny_bind (wpAny_standAt (wpAny_bind (wpAny_of_eq (hs x) (wpAny_bind (wpAny_holding (wpAny_mono h₁ (fun it s₂ h₂ =>
    wpAny_standIf (wpAny_bind (wpAny_mono h₂ (fun acc s₃ h₃ => wpAny_bind (wpAny_pure (wpAny_bind (wpAny_mono h₃ (fun cenv s₄ h₄ => ?_) fun _ _ h' => h')))) fun _ _ h' => h')))
      fun _ _ h' => h'))))))) fun _ _ h' => h')
  obtain ⟨hfr, h₄⟩ := h₄
  dsimp only
  have hv : ∀ x ∈ (scope.names.filter fun x => (x.2 == .local || x.2 == .cell) && x.1 != (".0" : Str)).reverse, x.2 = .local →
      Env.kindOf { cenv with scope := relabel scope env } x.1 = some .local := fun x hx hl => lookup_relabel_local (hnames x (List.mem_filter.mp (List.mem_reverse.mp hx)).1 hl)
  have hv' : ∀ x ∈ (scope.names.filter fun x => (x.2 == .local || x.2 == .cell) && x.1 != (".0" : Str)).reverse.drop 1 ++ (scope.names.filter fun x => (x.2 == .local || x.2 == .cell) && x.1 != (".0" : Str)).reverse.take 1,
      x.2 = .local → Env.kindOf { cenv with scope := relabel scope env } x.1 = some .local := fun x hx hl => by
    rcases List.mem_append.mp hx with h1 | h1
    · exact hv x (List.mem_of_mem_drop h1) hl
    · exact hv x (List.mem_of_mem_take h1) hl
  refine wpAny_holding (wpAny_bind (wpAny_attempt (wpAny_holding (wpAny_run (codeAny_mono h₄ fun r s' hr => ?_)))))
  cases r with
  | ok f =>
    cases use with
    | none =>
      obtain ⟨m, hn, hr⟩ := hr
      exact wpAny_bind (wpAny_holding (wpAny_comp_letGo (cenv := { cenv with scope := relabel scope env }) hkind _ s' m hv hn fun h' m' _ hs' => wpAny_pure (hr h' hs')))
    | some u =>
      refine wpAny_bind (wpAny_rule (wpAny_bind (wpAny_holding (wpAny_mono hr (fun _ s'' hr' => ?_) fun _ _ h' => h'))))
      obtain ⟨m, hn, hr'⟩ := hr'
      exact wpAny_bind (wpAny_comp_letGo (cenv := { cenv with scope := relabel scope env }) hkind _ s'' m hv' hn fun h' m' _ hs' => wpAny_pure (hr' h' hs'))
  | error x =>
    have hr' : ∃ m, s'.heap.Ns cenv.locals m ∧ ∀ h', Heap.SameBut cenv.locals s'.heap h' → ∀ cenv' : Env, cenv'.locals = cenv.locals → cenv'.frame = env.frame → wpAny M A (passOn "comprehension.variables-let-go" x cenv' : Sem Value) (fun _ _ => False) E { s' with heap := h' } := by cases use <;> exact hr
    obtain ⟨m, hn, hr⟩ := hr'
    exact wpAny_bind (wpAny_holding (wpAny_comp_letGo (cenv := { cenv with scope := relabel scope env }) hkind _ s' m hv hn fun h' m' _ hs' => wpAny_mono (hr h' hs' _ rfl hfr) (fun _ _ f => f.elim) fun _ _ y => y))
end
end PySem

namespace L2
open PySem PySem.Spec PyProof.Rows
section
variable {X : Cx} {pins : List (Addr × Obj)} {σ : St} {H : Hp} {s s' : Shared}
/-- a call's exception in our air, in flight -/
theorem k57_air {E : XK} {u : Value} (I : Inv X pins σ H s) (c : CX X.prog X.w X.stack H s E u s') :
    ∃ (a : Addr) (B : Heap) (sI : Shared) (H' : Hp) (cls : Value) (d : Option Addr), u = .ref a ∧ Inv X pins σ H' sI ∧ (∀ b o, sI.heap.get? b = some o → b ∉ frs X.stack → B.get? b = some o) ∧ sI.heap.UpToSlots s'.heap ∧
      HandSPX.FlyingZ B X.stack a (Zc cls d) s'.heap ∧ H' a = none ∧ s'.os = sI.os ∧ AllBare s'.gens ∧ E cls d H' ∧ AllBare sI.gens := by
  obtain ⟨a, B, H', cls, d, rfl, fl, hok, ub, na, os, ag, hE⟩ := c
  obtain ⟨G, g1, g2⟩ := restrict s'.heap fun b => (B.get? b).isSome || decide (b ∈ frs X.stack)
  have st : B.StaysIn s'.heap := fl.1
  have gB : ∀ b o, B.get? b = some o → G.get? b = some o := fun b o e => by
    rw [g1 b (by simp [e])]
    exact st b o e
  have gF : ∀ b, b ∈ frs X.stack → G.get? b = s'.heap.get? b := fun b hb => g1 b (by simp [hb])
  have og : ∀ b o, G.get? b = some o → s'.heap.get? b = some o ∧ ((B.get? b).isSome = true ∨ b ∈ frs X.stack) := fun b o e => by
    cases q : ((B.get? b).isSome || decide (b ∈ frs X.stack)) with
    | false => rw [g2 b q] at e; cases e
    | true =>
      rw [g1 b q] at e
      exact ⟨e, by simpa [Bool.or_eq_true] using q⟩
  refine ⟨a, B, { s with heap := G, gens := s'.gens, drawn := s'.drawn, toks := s'.toks }, H', cls, d, rfl, ?_, fun b o e hb => ?_, Heap.UpToSlots.of_keeps fun b o e => (og b o e).1, fl, na, os, ag, hE, ag⟩
  · refine I.call (ch := []) ⟨fun b o e n hb _ => gB b o (ub.keep b o e n hb), fun b o e n hb _ => ?_, fun b o e n _ => ub.free b o e n, fun b o e _ => ?_, ub.tups, ub.frzs, ub.tbls⟩ (hok.kept gB) ag (fun _ z => nomatch z)
    · obtain ⟨sl, q⟩ := ub.slot b o e hb
      exact ⟨sl, by rw [gF b hb]; exact q⟩
    · by_cases hb : b ∈ frs X.stack
      · obtain ⟨sl, q⟩ := ub.slot b o e hb
        exact ⟨_, by rw [gF b hb]; exact q⟩
      · obtain ⟨o', q⟩ := ub.there b o e hb
        exact ⟨o', gB b o' q⟩
  · obtain ⟨e', h⟩ := og b o e
    rcases h with h | h
    · obtain ⟨o', q⟩ := Option.isSome_iff_exists.mp h
      have z := st b o' q
      rw [e'] at z; cases z
      exact q
    · exact absurd h hb
/-- an untracked object of ours is left out of the heap -/
theorem k57_less {C : Addr} {G : Heap} (I : Inv X pins σ H s) (f : FpOk X pins H C) (g1 : ∀ b, b ≠ C → G.get? b = s.heap.get? b) : Inv X pins σ H { s with heap := G } := by
  obtain ⟨f0, f1, f2, f3, f4, f5⟩ := f
  refine I.step (g' := s.gens) (d' := s.drawn) (t' := s.toks) (ch := [C]) (fun b hb => ?_) (fun b o _ _ hc e _ => ?_) (fun b o _ _ hc e _ => ⟨o.slots, ?_⟩) (fun _ _ _ _ n => n) (fun b o hc e => ⟨o, ?_⟩) (fun _ _ e => e) (fun _ _ _ e => e) (fun b ps e => ⟨#[], by rw [e]; simp⟩) (fun m hm => ?_) (fun b u e => ?_) I.bare
  · have e : b = C := by simpa using hb
    subst e
    exact ⟨f3, f1, f4, f5⟩
  · exact (g1 b fun z => hc (by simp [z])).trans e
  · exact (g1 b fun z => hc (by simp [z])).trans e
  · exact (g1 b fun z => hc (by simp [z])).trans e
  · obtain ⟨o, es, ep, ho, r⟩ := hm
    exact ⟨o, es, ep, (g1 _ (Ne.symm f1)).trans ho, r⟩
  · refine (I.hok b u e).stay (fun c v hc q => (g1 c fun z => ?_).trans q) (fun _ q => q) fun _ _ q => q
    rcases hc with hc | hc
    · rw [← hc, z, f0] at e; cases e
    · rw [z, f0] at hc; cases hc
theorem k57_frames {base h h' : Heap} : ∀ {l : List Env}, h.FunFrames base l → (∀ L ∈ frs l, ∀ o, h.get? L = some o → h'.get? L = some o) → h'.FunFrames base l
  | [], _, _ => trivial
  | env :: l, ⟨hk, ⟨L, o, hf, hn, ho, hd⟩, hr⟩, k => ⟨hk, ⟨L, o, hf, hn, k L (List.mem_filterMap.mpr ⟨env, List.mem_cons_self, hf⟩) o ho, hd⟩, k57_frames hr fun b hb => by
      obtain ⟨e, he, q⟩ := List.mem_filterMap.mp hb
      exact k b (List.mem_filterMap.mpr ⟨e, List.mem_cons_of_mem _ he, q⟩)⟩
theorem k57_frames_base {base B h : Heap} : ∀ {l : List Env}, h.FunFrames base l → (∀ L ∈ frs l, B.get? L = none) → h.FunFrames B l := fun h hn => funFrames_none h hn
/-- the exception of a block, its variables let go, is taken -/
theorem k57_block_exc {W : WX} {a C : Addr} {B : Heap} {sI : Shared} {cls : Value} {d : Option Addr} {h1 h' : Heap} {m : Str → Option Value} {use : Option (Value → Sem Unit)} {Qf : Value → Shared → Prop} {cenv : Env}
    (hs : X.stack = X.env :: X.outer) (hf : X.env.frame = some X.env.locals) (tk : Takes X W) (I : Inv X pins σ H sI) (f : FpOk X pins H C)
    (nb : ∀ b o, sI.heap.get? b = some o → b ∉ frs X.stack → B.get? b = some o) (up : sI.heap.UpToSlots h1) (hh : HandSPX.HeldZ B (X.env :: X.outer) a (Zc cls d) X.env.locals h1) (na : H a = none) (os : s'.os = sI.os) (ag : AllBare s'.gens)
    (hn : h1.Ns C m) (sb : Heap.SameBut C h1 h') (hfr : cenv.frame = some X.env.locals) (hw : W cls d σ H) :
    wpAny (model X.prog X.w) X.A (passOn "comprehension.variables-let-go" (.ref a) cenv : Sem Value) (fun _ _ => False) X.xe { s' with heap := h' } := by
  obtain ⟨G, g1, g2⟩ := restrict sI.heap fun b => decide (b ≠ C)
  have gk : ∀ b, b ≠ C → G.get? b = sI.heap.get? b := fun b hb => g1 b (decide_eq_true hb)
  have gC : G.get? C = none := g2 C (by simp)
  obtain ⟨B', b1, b2⟩ := restrict B fun b => decide (b ≠ C)
  have bk : ∀ b, b ≠ C → B'.get? b = B.get? b := fun b hb => b1 b (decide_eq_true hb)
  have bC : B'.get? C = none := b2 C (by simp)
  have bIn : ∀ b o, B'.get? b = some o → B.get? b = some o ∧ b ≠ C := fun b o e => by
    by_cases hb : b = C
    · rw [hb, bC] at e; cases e
    · exact ⟨(bk b hb).symm.trans e, hb⟩
  have bNo : ∀ b, B.get? b = none → B'.get? b = none := fun b e => by
    by_cases hb : b = C
    · rw [hb]; exact bC
    · rw [bk b hb]; exact e
  have J : Inv X pins σ H { sI with heap := G } := k57_less I f gk
  obtain ⟨k1, k2, k3, oe, vs, T, oT, ts, he, hz, hd, hv1, hnT, hTe, hT, hdT, ht3⟩ := hh
  obtain ⟨oC, esC, epC, hoC, hdC, _⟩ := hn
  have neC : ∀ (b : Addr) (o : Obj) (fv : Array Value), h1.get? b = some o → o.data = .fields fv → b ≠ C := fun b o fv e dd z => by
    rw [z, hoC] at e
    have eo : oC = o := Option.some.inj e
    rw [← eo, hdC] at dd
    cases dd
  have keep : ∀ b, b ≠ C → h'.get? b = h1.get? b := fun b hb => sb.2 b hb
  have Cfr : C ∉ frs X.stack := fun hm => (List.mem_cons.mp (I.stkSub C hm)).elim f.2.1 f.2.2.1
  have fr' : h'.FunFrames B' (X.env :: X.outer) := by
    refine k57_frames (h := h1) ?_ fun L hL o e => ?_
    · refine funFrames_none k3 fun L hL => ?_
      obtain ⟨hn1, _⟩ := k3.mem hL
      exact bNo L hn1
    · refine (keep L fun z => Cfr ?_).trans e
      rw [hs, ← z]; exact hL
  have hh2 : HandSPX.HeldZ B' (X.env :: X.outer) a (Zc cls d) X.env.locals h' :=
    ⟨fun b o e => (keep b (bIn b o e).2).trans (k1 b o (bIn b o e).1), bNo a k2, fr', oe, vs, T, oT, ts, (keep a (neC a oe vs he hd)).trans he, hz, hd, hv1, bNo T hnT, hTe, (keep T (neC T oT ts hT hdT)).trans hT, hdT, ht3⟩
  have up2 : G.UpToSlots h' := fun b o e hnf => by
    have hb : b ≠ C := fun z => by rw [z, gC] at e; cases e
    obtain ⟨sl, q⟩ := up b o ((gk b hb).symm.trans e) hnf
    exact ⟨sl, (keep b hb).trans q⟩
  have nb2 : ∀ b o, G.get? b = some o → b ∉ frs X.stack → B'.get? b = some o := fun b o e hb => by
    have hbC : b ≠ C := fun z => by rw [z, gC] at e; cases e
    exact (bk b hbC).trans (nb b o ((gk b hbC).symm.trans e) hb)
  unfold PySem.passOn
  refine wpAny_bind (wpAny_field ((keep a (neC a oe vs he hd)).trans he) hd hv1 ?_)
  rw [if_neg (show ¬ ((Value.ref T == Value.none) = true) from by simp)]
  have fin : wpAny (model X.prog X.w) X.A (setFlight (.ref a) cenv.frame) (fun _ s4 => wpAny (model X.prog X.w) X.A (throw (.ref a) : Sem Value) (fun _ _ => False) X.xe s4) X.xe { s' with heap := h' } := by
    rw [hfr]
    refine HandSPX.setFlight_onZ (s := { s' with heap := h' }) hh2 fun h4 hh4 up4 => wpAny_throw (tk _ _ ?_)
    exact ⟨a, B', { sI with heap := G }, pins, σ, H, cls, d, rfl, J, nb2, up2.trans up4, .inr (.inr (by rw [hs]; exact hh4)), na, os, ag, hw⟩
  first
    | exact wpAny_bind (wpAny_pure (wpAny_bind fin))
    | exact wpAny_bind fin
end
end L2
/-! Own rules, part c: name = [..] whose element raises. -/
namespace L2
open PySem PySem.Spec PyProof.Rows
section
variable {X : Cx}
theorem k57_lc_core {pins : List (Addr × Obj)} {s : Shared} {σ : St} {H : Hp} {Q : VK} {W : WX} {elt tg iter : Expr} {ifs : List Expr} {scope : Scope} {own : List (Str × Nat)} {pos pos' : Pos} {wi : TI} {g : TG} {tt : TT} {te : TE} {use : Option (Value → Sem Unit)} {Qf : Value → Shared → Prop}
    (hc : X.calm = true) (hst : X.stack = X.env :: X.outer) (hf : X.env.frame = some X.env.locals) (tk : Takes X W) (hN : X.N.Nodup) (I : Inv X pins σ H s) (hi : PI X tg iter wi) (ok : BlkOk X.N X.env.scope scope own)
    (hg : ∀ (s : Shared) (H : Hp) (C : Addr) (cl : List (Str × Addr)) (fp : List Addr) (xe : Value → Shared → Prop), PG ((X.blk s H scope (compEnvC scope cl C X.env) fp).wish xe) tg g)
    (ht : ∀ (s : Shared) (H : Hp) (C : Addr) (cl : List (Str × Addr)) (fp : List Addr) (xe : Value → Shared → Prop), PTs ((X.blk s H scope (compEnvC scope cl C X.env) fp).wish xe) ifs tt)
    (he : ∀ (s : Shared) (H : Hp) (C : Addr) (cl : List (Str × Addr)) (fp : List Addr) (xe : Value → Shared → Prop), Passes (CX X.prog X.w) ((X.blk s H scope (compEnvC scope cl C X.env) fp).wish xe) (fun cls d H => ∀ σ, W cls d σ H) →
      PE ((X.blk s H scope (compEnvC scope cl C X.env) fp).wish xe) elt te) (hs : ∀ x, foldedSetIterable iter X.env x = pure x)
    (h : tLc wi g tt te (own.map (·.2)) σ H Q)
    (hRR : ∀ D C s' m H', Inv X pins σ H' s' → Q (.ref D) H' → s'.heap.Ns C m → FpOk X pins H' C → k57_post (model X.prog X.w) X.A X.xe X.env.frame use Qf (.ref D) C (.ok .next) s') :
    wpAny (model X.prog X.w) X.A (comprehension (.ListComp elt [⟨tg, iter, ifs, 0⟩] scope pos) scope X.env pos' (newList []) false (eval iter X.env) use) Qf X.xe s := by
  have hfree : ∀ y ∈ scope.names, y.2 = .free → ∃ c, X.env.cells.lookup y.1 = some c := fun y hy e => by
    rcases ok.free y hy e with k | k
    · exact I.ok.has _ (.inl k)
    · exact I.ok.has _ (.inr k)
  refine k57_comprehension (use := use) rfl hs (closure_ok hfree) ok.kind (fun y hy e => by rw [ok.uniq y hy, e])
    (thn (hi.run pins s σ H _ I h) fun xv s1 hx => thn hx fun itv s2 h2 => ?_)
  obtain ⟨it, fp, tn, J, H2, e, I2, T, st2, f2, q⟩ := h2
  subst e
  refine wpAny_newObj_type (newEnv_comp ⟨rfl, ?_⟩) (by show 0 ≤ sizeLine; decide)
  generalize hD : s2.heap.objs.size = D
  have hDn : H2 D = none := I2.hok.fresh (Nat.le_of_eq hD)
  obtain ⟨W0, ⟨m0, w0⟩, turn⟩ := q D hDn
  generalize hs3 : ({ s2 with heap := s2.heap.push { cls := .type "list", data := .seq ([] : List Value).toArray } } : Shared) = s3
  have I3 : Inv X pins σ (upd H2 D (.lst [])) s3 := by
    rw [← hs3]
    refine I2.laid (t' := s2.toks) (fun b o e => Heap.get?_push_of_some _ e) (Nat.le_of_eq hD) ⟨Nat.zero_le _, [], 0, .nil, ?_⟩
    rw [← hD]
    exact Heap.get?_push_size _ rfl
  have h3 : s3.heap = s2.heap.push { cls := .type "list", data := .seq ([] : List Value).toArray } := by rw [← hs3]
  have sz : ∀ b ∈ fp, b < s2.heap.objs.size := fun b hb => by
    obtain ⟨o, e, _⟩ := T.obj _ _ st2 b hb
    exact Heap.lt_size e
  have f3 : ∀ b ∈ fp, FpOk X pins (upd H2 D (.lst [])) b ∧ b < s3.heap.objs.size := fun b hb => by
    have hlt := sz b hb
    refine ⟨⟨?_, (f2 b hb).2⟩, by rw [h3, Heap.size_push]; exact Nat.lt_succ_of_lt hlt⟩
    rw [upd_ne (by rw [← hD]; exact Nat.ne_of_lt hlt)]
    exact (f2 b hb).1
  have st3 : tn 0 s3.heap := T.keep _ _ _ st2 fun b _ o e => by rw [h3]; exact Heap.get?_push_of_some _ e
  have I4 := block_start I3 ok hN f3
  have pg := hg s3 (upd H2 D (.lst [])) s3.heap.objs.size (cellsFrom (s3.heap.objs.size + 1) scope.names (cloFrom X.env.cells scope.names [])) fp
  have pt := ht s3 (upd H2 D (.lst [])) s3.heap.objs.size (cellsFrom (s3.heap.objs.size + 1) scope.names (cloFrom X.env.cells scope.names [])) fp
  have pe := he s3 (upd H2 D (.lst [])) s3.heap.objs.size (cellsFrom (s3.heap.objs.size + 1) scope.names (cloFrom X.env.cells scope.names [])) fp
  show codeAny _ _ (.compStart (.ListComp elt [⟨tg, iter, ifs, 0⟩] scope pos) 0 (.ref it) (.ref D) (compEnvC scope (cellsFrom (s3.heap.objs.size + 1) scope.names (cloFrom X.env.cells scope.names [])) s3.heap.objs.size X.env)) (k57_post (model X.prog X.w) X.A X.xe X.env.frame use Qf (.ref D) s3.heap.objs.size) { s3 with heap := pushCells (s3.heap.push { cls := .type "dict", data := .dict #[] }) scope.names }
  have nfp : ∀ b ∈ fp, (upd H2 D (.lst [])) b = none := fun b hb => (f3 b hb).1.1
  have cF : (compEnvC scope (cellsFrom (s3.heap.objs.size + 1) scope.names (cloFrom X.env.cells scope.names [])) s3.heap.objs.size X.env).frame = X.env.frame := rfl
  generalize hce : compEnvC scope (cellsFrom (s3.heap.objs.size + 1) scope.names (cloFrom X.env.cells scope.names [])) s3.heap.objs.size X.env = ce at I4 pg pt pe cF ⊢
  have cL : ce.locals = s3.heap.objs.size := by subst hce; rfl
  generalize hH3 : upd H2 D (.lst []) = H3 at I3 I4 pg pt pe w0 nfp f3
  generalize hs4 : ({ s3 with heap := pushCells (s3.heap.push { cls := .type "dict", data := .dict #[] }) scope.names } : Shared) = s4 at I4 ⊢
  have st4 : tn 0 s4.heap := T.keep _ _ _ st3 fun b _ o e => by rw [← hs4]; exact pushCells_keeps _ _ _ _ (Heap.get?_push_of_some _ e)
  have stat : ∀ {σ' : St} {H' : Hp} {s' : Shared}, Inv (X.blk s3 H3 scope ce fp) [] σ' H' s' → (∀ b ∈ fp, H' b = none) → ∀ b ∈ fp, FpOk (X.blk s3 H3 scope ce fp) [] H' b := fun {σ' H' s'} I' hn b hb =>
    ⟨hn b hb, (I'.ok.exf b hb).1, I'.ok.exfs b hb, .inl hb, fun x c e => (I'.ok.exf b hb).2 x c e, fun p hp => absurd (show p ∈ ([] : List (Addr × Obj)) ++ [] from hp) (by simp)⟩
  -- the wish within the block
  generalize hxe : (notedBy (model X.prog X.w) X.A ce fun e s' => k57_post (model X.prog X.w) X.A X.xe X.env.frame use Qf (.ref D) s3.heap.objs.size (.error e) s') = xe
  -- back in the def's context
  have back : ∀ {σ' : St} {H' : Hp} {s' : Shared} {pn : List (Addr × Obj)}, Inv (X.blk s3 H3 scope ce fp) pn σ' H' s' → Inv X pins σ H' s' ∧ FpOk X pins H' s3.heap.objs.size ∧ ∃ m, s'.heap.Ns s3.heap.objs.size m := fun {σ' H' s' pn} I6 => by
    have I7 : Inv X pins σ H' s' := I3.call' (ch := fp) I6.os I6.base I6.hok I6.bare fun b hb => ⟨(f3 b hb).1.2.2.2.1, (f3 b hb).1.2.1, (f3 b hb).1.2.2.2.2.1, (f3 b hb).1.2.2.2.2.2⟩
    have nC : H' s3.heap.objs.size = none := by
      have z : H' ce.locals = none := I6.free
      rw [cL] at z
      exact z
    obtain ⟨m, hn, _⟩ := I6.loc
    have hn : s'.heap.Ns ce.locals m := hn
    rw [cL] at hn
    exact ⟨I7, I3.fpOk (Nat.le_refl _) nC, m, hn⟩
  have psx : Passes (CX X.prog X.w) ((X.blk s3 H3 scope ce fp).wish xe) (fun cls d H => ∀ σ, W cls d σ H) := by
    intro pn' σ' H' s0 e s' I' c
    obtain ⟨a, B, sI, H'', cls, d, rfl, J', nb, up, fl, na, os, ag, hw, agI⟩ := k57_air (X := X.blk s3 H3 scope ce fp) I'.unwish c
    obtain ⟨I7, fC, m, hn⟩ := back J'
    show xe (.ref a) s'
    rw [← hxe]
    unfold notedBy
    rw [k57_noteFrame cF]
    have hfr : X.A.frames = some (X.env :: X.outer) := by rw [I7.ok.frames, hst]
    have fl2 : HandSPX.FlyingZ B (X.env :: X.outer) a (Zc cls d) s'.heap := by rw [← hst]; exact fl
    refine HandSPX.looks_onZ Zc.steady hfr hf fl2 fun h1 hh1 up1 => ?_
    have hn1 : h1.Ns s3.heap.objs.size m := up1.ns (up.ns hn)
    have key : ∃ m, h1.Ns s3.heap.objs.size m ∧ ∀ h', Heap.SameBut s3.heap.objs.size h1 h' → ∀ cenv : Env, cenv.locals = s3.heap.objs.size → cenv.frame = X.env.frame →
        wpAny (model X.prog X.w) X.A (passOn "comprehension.variables-let-go" (.ref a) cenv : Sem Value) (fun _ _ => False) X.xe { s' with heap := h' } :=
      ⟨m, hn1, fun h' sb cenv _ hcf => k57_block_exc (use := use) (Qf := Qf) hst hf tk I7 fC nb (up.trans up1) hh1 na os ag hn1 sb (hcf.trans hf) (hw σ)⟩
    cases use with
    | none => exact key
    | some u => exact key
  have pg := pg xe
  have pt := pt xe
  have pe := pe xe psx
  have loop : codeAny (model X.prog X.w) X.A (.compLoop (.ListComp elt [⟨tg, iter, ifs, 0⟩] scope pos) 0 (.ref it) (.ref D) ce) (k57_post (model X.prog X.w) X.A X.xe X.env.frame use Qf (.ref D) s3.heap.objs.size) s4 := by
    refine compLoop_any (fun n s' => ∃ i H', Inv (X.blk s3 H3 scope ce fp) [] (wipe σ (own.map (·.2))) H' s' ∧ tn i s'.heap ∧ (∀ b ∈ fp, H' b = none) ∧ W0 i n H') ?_ m0 ⟨0, H3, I4, st4, nfp, w0⟩
    rintro n s5 ⟨i, H5, I5, st5, n5, w5⟩
    rw [hxe]
    rcases turn i n H5 w5 with ⟨stop, qq⟩ | ⟨go, Nx, hNx, step⟩
    · have td := T.done (X.blk s3 H3 scope ce fp) rfl rfl rfl hc i [] s5 _ H5 xe I5 (stat I5 n5) st5 stop
      refine thn td fun r s6 ⟨hr, I6⟩ => ?_
      subst hr
      obtain ⟨I7, fC, m, hn⟩ := back I6
      exact hRR D s3.heap.objs.size s6 m H5 I7 qq hn fC
    · have ti := T.item (X.blk s3 H3 scope ce fp) rfl rfl rfl hc i [] s5 _ H5 xe I5 (stat I5 n5) st5 go
      refine thn ti fun r s6 ⟨u, hr, h6⟩ => ?_
      subst hr
      refine thn h6 fun _ s7 ⟨x, H7, I7, r7, y7, st7, n7⟩ => ?_
      have I7' := I7.pinned (stat I7 n7) (T.obj _ _ st7)
      refine thn (pg.run _ s7 _ H7 x u _ (I7'.wish xe) r7 (step x H7 y7)) fun _ s8 ⟨σ8, H8, I8, hw8, q8⟩ => ?_
      refine thn (pt.run _ s8 σ8 H8 _ I8 q8) fun b s9 ⟨H9, I9, q9⟩ => ?_
      have fin : ∀ {s' : Shared} {H' : Hp}, Inv ((X.blk s3 H3 scope ce fp).wish xe) ([] ++ pinsAt fp s7.heap) σ8 H' s' → Nx H' → ∃ m, m < n ∧ ∃ i H', Inv (X.blk s3 H3 scope ce fp) [] (wipe σ (own.map (·.2))) H' s' ∧ tn i s'.heap ∧ (∀ b ∈ fp, H' b = none) ∧ W0 i m H' := fun {s' H'} I0 nx => by
        have I' : Inv (X.blk s3 H3 scope ce fp) ([] ++ pinsAt fp s7.heap) σ8 H' s' := I0.unwish
        obtain ⟨m', hm, w'⟩ := hNx H' nx
        have pin' : ∀ b ∈ fp, ∀ o, s7.heap.get? b = some o → s'.heap.get? b = some o ∧ H' b = none := fun b hb o e =>
          let z := I'.pin (b, o) (List.mem_append_right _ (List.mem_append_right _ (mem_pinsAt hb e)))
          ⟨z.1, z.2.1⟩
        have hl : (wipe σ (own.map (·.2))).length = σ8.length := by rw [← hw8, wipe_length]
        refine ⟨m', hm, i + 1, H', (I'.unpinned (pins := [])).weak hl (fun j v e => ?_), T.keep _ _ _ st7 fun b hb o e => (pin' b hb o e).1, fun b hb => ?_, w'⟩
        · rw [← hw8] at e
          exact (wipe_some e).1
        · obtain ⟨o, e, _⟩ := T.obj _ _ st7 b hb
          exact (pin' b hb o e).2
      cases b with
      | false =>
        simp only [Bool.false_eq_true, if_false] at q9 ⊢
        exact fin I9 q9
      | true =>
        simp only [if_true] at q9 ⊢
        refine thn (pe.run _ s9 σ8 H9 _ I9 q9) fun z s10 ⟨yv, H10, I10, r10, acc, hD10, hz10, nx⟩ => ?_
        exact app_ok (X := (X.blk s3 H3 scope ce fp).wish xe) I10 hD10 hz10 r10 fun s11 I11 => fin I11 nx
  exact codeAny_compStart_list loop (T.self X.A 0 _ _ _ st4 loop)
/-- name = [..] on one line, the name a local; an exception of the element's call leaves by W -/
theorem ps_setLcX {i : Nat} {y : Str} {py : Pos} {W : WX} {elt tg iter : Expr} {ifs : List Expr} {scope : Scope} {own : List (Str × Nat)} {pos spos : Pos} {wi : TI} {g : TG} {tt : TT} {te : TE} (hc : X.calm = true) (hst : X.stack = X.env :: X.outer) (hf : X.env.frame = some X.env.locals) (tk : Takes X W)
    (hN : X.N.Nodup) (hy : X.N[i]? = some y) (hyl : X.env.scope.names.lookup y = some .local)
    (hsw : swapsWith (.ListComp elt [⟨tg, iter, ifs, 0⟩] scope pos) (some (.Name y py)) spos.line X.env = pure true) (hi : PI X tg iter wi) (ok : BlkOk X.N X.env.scope scope own)
    (hg : ∀ (s : Shared) (H : Hp) (C : Addr) (cl : List (Str × Addr)) (fp : List Addr) (xe : Value → Shared → Prop), PG ((X.blk s H scope (compEnvC scope cl C X.env) fp).wish xe) tg g)
    (ht : ∀ (s : Shared) (H : Hp) (C : Addr) (cl : List (Str × Addr)) (fp : List Addr) (xe : Value → Shared → Prop), PTs ((X.blk s H scope (compEnvC scope cl C X.env) fp).wish xe) ifs tt)
    (he : ∀ (s : Shared) (H : Hp) (C : Addr) (cl : List (Str × Addr)) (fp : List Addr) (xe : Value → Shared → Prop), Passes (CX X.prog X.w) ((X.blk s H scope (compEnvC scope cl C X.env) fp).wish xe) (fun cls d H => ∀ σ, W cls d σ H) →
      PE ((X.blk s H scope (compEnvC scope cl C X.env) fp).wish xe) elt te) (hs : ∀ x, foldedSetIterable iter X.env x = pure x := by intro _; rfl) :
    PS X (.Assign [.Name y py] (.ListComp elt [⟨tg, iter, ifs, 0⟩] scope pos) spos) (tAsg (tLc wi g tt te (own.map (·.2))) (gName i)) := by
  refine ⟨fun pins s σ H D I h => ?_⟩
  rw [exec_Assign_Name_used _ _ _ _ hsw]
  refine wpAny_bind (wpAny_standAt (wpAny_bind ?_))
  show wpAny _ X.A (do let _ ← comprehension (.ListComp elt [⟨tg, iter, ifs, 0⟩] scope pos) scope X.env (firstIterPos [⟨tg, iter, ifs, 0⟩] pos) (newList []) false (eval iter X.env) (some (assign (.Name y py) X.env))) _ _ s
  have h : tLc wi g tt te (own.map (·.2)) σ H (fun x H1 => gName i x σ H1 D.nx) := h
  refine wpAny_bind (thn (k57_lc_core (Qf := fun _ s' => SP X pins D .next s') hc hst hf tk hN I hi ok hg ht he hs h fun L C s' m H' I' q hn f => ?_) fun _ s' hq => wpAny_pure (wpAny_pure hq))
  show wpAny _ _ (assign (.Name y py) X.env (.ref L)) _ _ _
  refine wpAny_assign_Name (store_ok2 (v := V.ref L) I' hN hy (.inl hyl) rfl (fun s2 I2 ⟨a, sb, ha⟩ => ?_) (.inr hyl))
  obtain ⟨f0, f1, f2, f3, f4, f5⟩ := f
  have haC : C ≠ a := by
    rcases ha with z | z
    · rw [z]; exact f1
    · exact fun e => f4 y a z e.symm
  refine ⟨m, hn.sameBut sb haC, fun h3 sb3 => ?_⟩
  exact ⟨_, H', I2.turned (t' := s2.toks) (fun b o hb e => (sb3.2 b hb).trans e) f0 f1 f3 f4 f5, q⟩
end
end L2
/-! Own rules, part d: defs that are called whatever is handled; a property read there; with .. as .. whose body raises. -/
namespace L2
open PySem PySem.Spec PyProof.Rows L2H

/-- a def's promise by position, an exception handled or not -/
def FnA (P : Program) (w : World) (K : PySem.W.Frag) (mg : Str → Option Value) (base : Heap) (CX : CXT) (k : Nat) (f : Addr) (sp : Sp) : Prop :=
  ∀ (A : Around) (outer : List Env) (s : Shared) (H : Hp) (us : List Value) (vs : List V) (Q : VK) (E : XK), RoomH k A → Env0 P w K mg base A outer s H → Vals vs us → sp vs H Q E →
    codeAny (model P w) A (.call (.ref f) ⟨us, []⟩) (CR CX outer P w H s Q E) s
theorem FnA.toR {P : Program} {w : World} {K : PySem.W.Frag} {mg : Str → Option Value} {base : Heap} {CX : CXT} {k : Nat} {f : Addr} {sp : Sp} (F : FnA P w K mg base CX k f sp) : FnR P w K mg base CX k f sp :=
  fun A outer s H us vs Q E hr e0 r hs => F A outer s H us vs Q E (roomH_of hr) e0 r hs
theorem FnA.mono {P : Program} {w : World} {K : PySem.W.Frag} {mg : Str → Option Value} {base : Heap} {CX : CXT} {j k : Nat} {f : Addr} {sp : Sp} (F : FnA P w K mg base CX j f sp) (h : j ≤ k) : FnA P w K mg base CX k f sp :=
  fun A outer s H us vs Q E hr => F A outer s H us vs Q E (hr.mono h)
/-- such a def's body -/
abbrev cxA (CX : CXT) (P : Program) (w : World) (K : PySem.W.Frag) (mg : Str → Option Value) (base : Heap) (N : List Str) (qual : Str) (scope : Scope) (f : Addr) (cd : Value) (A : Around) (outer : List Env) (s : Shared) (H : Hp) (E : XK) : Cx :=
  { cxOf CX P w K mg base N qual scope f cd A outer s H E with calm := false }
theorem k57_startA {CX : CXT} {P : Program} {w : World} {K : PySem.W.Frag} {mg : Str → Option Value} {base : Heap} {N ps : List Str} {qual : Str} {scope : Scope} {f : Addr} {cd : Value} {A : Around} {outer : List Env} {s s1 : Shared} {H : Hp} {E : XK} {us : List Value} {vs : List V}
    (S : FnScope N ps scope) (e0 : Env0 P w K mg base A outer s H) (hl : vs.length = ps.length) (r : Vals vs us)
    (x : InCallC s s.heap.objs.size (bindL (envOfC qual scope s.heap.objs.size f cd).kindOf (ps.zip us) fun _ => none) (cellsFrom (s.heap.objs.size + 1) scope.names []) (bindC (envOfC qual scope s.heap.objs.size f cd).kindOf (ps.zip us) fun _ => none) s1) :
    Inv (cxA CX P w K mg base N qual scope f cd A outer s H E) [] (L2.start N vs) H s1 := by
  have hpl : ps.length ≤ N.length := by have := congrArg List.length S.pre; rw [List.length_take] at this; omega
  obtain ⟨h1, tk, rfl, hk⟩ := x.done
  have noA : ∀ b : Addr, b ∉ (cxA CX P w K mg base N qual scope f cd A outer s H E).ex := fun b z => absurd (show b ∈ ([] : List Addr) from z) (by simp)
  refine ⟨⟨e0.mod, S.kind, rfl, rfl, Nat.le_refl _, fun y z c h1 h2 => ?_, fun y hy => ?_, fun y c _ h => ?_, (fun z => Bool.noConfusion (show false = true from z)), Around.frames_deeper e0.frames, .inr ⟨rfl, rfl⟩, fun b z => absurd z (noA b), e0.bs, e0.bsz, fun b _ _ => noA b, fun b z => absurd z (noA b), e0.funs, e0.frf⟩,
    rfl, e0.bare, Un.kept hk, ⟨_, x.toInCall.ns, fun i y v h1 h2 h3 => ?_⟩, fun y c h => ⟨_, x.cell y c h⟩, e0.hok.fresh (Nat.le_refl _), fun y c h => ?_, fun q hq => absurd (show q ∈ ([] : List (Addr × Obj)) from hq) (by simp), e0.hok.kept hk, ?_⟩
  · exact name_of_addr x.apart (PySem.mem_of_lookup h1) (PySem.mem_of_lookup h2)
  · have hy : scope.names.lookup y = some .cell ∨ scope.names.lookup y = some .free := hy
    rcases hy with hy | hy
    · exact cell_has hy
    · exact absurd rfl (S.nofree _ (PySem.mem_of_lookup hy))
  · exact Nat.le_of_lt (x.above y c (PySem.mem_of_lookup h))
  · have hi : i < vs.length := by
      unfold L2.start at h2
      by_cases hi : i < vs.length
      · exact hi
      · rw [List.getElem?_append_right (by simpa using hi)] at h2
        rw [List.getElem?_replicate] at h2
        split at h2 <;> cases h2
    have ha : vs[i]? = some v := by
      unfold L2.start at h2
      rw [List.getElem?_append_left (by simpa using hi), List.getElem?_map] at h2
      cases e : vs[i]? with
      | none => rw [e] at h2; cases h2
      | some a => rw [e] at h2; cases h2; rfl
    obtain ⟨u, hu, rv⟩ := r.get ha
    have hp : ps[i]? = some y := by
      rw [← S.pre, List.getElem?_take_of_lt (by omega)]; exact h1
    have ndP : ps.Nodup := by rw [← S.pre]; exact S.nd.sublist (List.take_sublist _ _)
    refine ⟨u, rv, ?_⟩
    rcases S.par y (List.mem_of_getElem? hp) with k | k
    · exact .inl ⟨k, bindL_get ndP hp hu k⟩
    · obtain ⟨c, e⟩ := cell_has (n := s.heap.objs.size + 1) k
      refine .inr ⟨.inl k, c, e, ?_⟩
      have q := x.cell y c e
      rw [bindC_get ndP hp hu (by show scope.names.lookup y ≠ _; rw [k]; decide)] at q
      exact q
  · exact e0.hok.fresh (Nat.le_of_lt (x.above y c (PySem.mem_of_lookup h)))
  · unfold L2.start
    show _ = N.length
    rw [List.length_append, List.length_map, List.length_replicate]
    omega
theorem FunD.okA {P : Program} {w : World} {K : PySem.W.Frag} {mg : Str → Option Value} {base : Heap} {x qual : Str} {params : Arguments} {body : List Stmt} {scope : Scope} {f : Addr} {fd : FuncData} {CX : CXT} {N ps : List Str} {k : Nat} {sp : Sp}
    (F : FunD K x qual params body scope [] [] f fd) (S : FnScope N ps scope) (hb : Binds K fd ps []) (len : ∀ vs H Q E, sp vs H Q E → vs.length = ps.length)
    (hbody : ∀ (cdv : Value) (A : Around) (outer : List Env) (s : Shared) (H : Hp) (vs : List V) (Q : VK) (E : XK), RoomH k (A.deeper (envOfC qual scope s.heap.objs.size f cdv)) → sp vs H Q E →
      ∃ t, PSs (cxA CX P w K mg base N qual scope f cdv A outer s H E) body t ∧ t { nx := fun _ H' => Q .non H', rt := Q } (L2.start N vs) H) : FnA P w K mg base CX (k + 1) f sp := by
  obtain ⟨oc, od, dV, kV, doc, pm, an, cdv, ct, osl, rfl, lk, hcd, _, _⟩ := F.ex
  intro A outer s H us vs Q E hr e0 r hsp
  have hl := len _ _ _ _ hsp
  have KX : K.In s.heap := e0.mod.kin.keeps fun b o e => (e0.bs b o e).1
  have lim : s.heap.NoLimit := e0.mod.nolimit.keeps fun b o e => (e0.bs b o e).1
  have hb2 := hb s us KX (by rw [List.append_nil, ← r.length]; exact hl)
  rw [List.append_nil] at hb2
  have hkind : ∀ y ∈ ps.zip us, scope.names.lookup y.1 = some .local ∨ (scope.names.lookup y.1 = some .cell ∧ ((cellsFrom (s.heap.objs.size + 1) scope.names []).lookup y.1).isSome = true) := fun ⟨n, v⟩ hy => by
    rcases S.par n (List.of_mem_zip hy).1 with q | q
    · exact .inl q
    · exact .inr ⟨q, PySem.W.cellsFrom_some _ _ _ (.inl q)⟩
  refine codeAny_call_function hr.depth (KX _ _ lk) rfl S.co S.gen rfl (PySem.W.codeRec_of KX hcd) (hb2 _ _ _ _ ?_)
  refine wpAny_newFunctionEnv_cells S.kind hkind fun env he s1 x => ?_
  subst he
  refine ⟨lim.keeps x.toInCall.keep, codeAny_func ?_⟩
  obtain ⟨t, ht, hq⟩ := hbody cdv A outer s H vs Q E (hr.deeper _) hsp
  have I : Inv (cxA CX P w K mg base N qual scope f cdv A outer s H E) [] (L2.start N vs) H s1 := k57_startA S e0 hl r x
  refine wpAny_mono (ht.run [] s1 (L2.start N vs) H _ I hq) (fun fl s' hs => ?_) fun e s' hs => hs
  have fin : ∀ {σ' : L2.St} {H' : Hp} {v : V} {u : Value}, Inv (cxA CX P w K mg base N qual scope f cdv A outer s H E) [] σ' H' s' → RelV v u → Q v H' → CE outer P w H s Q u s' :=
    fun {σ' H' v u} J rv q => ⟨v, H', J.os, J.bare, J.base, J.hok, rv, q⟩
  cases fl with
  | ret u =>
    obtain ⟨v, σ', H', J, rv, q⟩ := hs
    exact fin J rv q
  | next =>
    obtain ⟨σ', H', J, q⟩ := hs
    exact fin (v := V.non) (u := Value.none) J rfl q
  | brk =>
    obtain ⟨_, _, _, q⟩ := hs
    exact False.elim q
  | cont =>
    obtain ⟨_, _, _, q⟩ := hs
    exact False.elim q
theorem RoomH.in1 {k : Nat} {A : Around} (r : RoomH (k + 1) A) : RoomH k A.in1 :=
  ⟨by have := r.dp; show A.depth + 3 * k + 5 < _; omega, by have := r.un; show A.units + 1 + 16 * k + 200 < _; omega⟩
theorem RoomH.mark {k : Nat} {A : Around} (r : RoomH k A) (h : Option Value) : RoomH k (A.mark h) := ⟨r.dp, r.un⟩

/-! ### a property, an exception handled or not -/
/-- e.f: the getter's promise -/
def tPropA (C : Addr) (sp : Sp) (ta : TE) : TE := fun σ H Q => ta σ H fun x H1 => ∃ a dx fs, x = .ref a ∧ H1 a = some (.ins C dx fs) ∧ sp [.ref a] H1 Q (fun _ _ _ => False)
/-- no exception leaves -/
abbrev CXN : CXT := fun _ _ _ _ _ _ => False
section
variable {X : Cx} {k : Nat} {C p g a dx : Addr} {fs : List (Str × V)} {f : Str} {sp : Sp} {e : Expr} {pos : Pos} {ta : TE}
theorem k57_getprop {pins : List (Addr × Obj)} {σ : L2.St} {H : Hp} {s : Shared} {Q : VK} {b : Bool} {E' : Value → Shared → Prop} (I : Inv X pins σ H s) (ea : H a = some (.ins C dx fs)) (c : Cls X.K C) (hp : PropOf X.K C f p g)
    (F : FnA X.prog X.w X.K X.mg X.base CXN k g sp) (hr : RoomH (k + 1) X.A) (h : sp [.ref a] H Q (fun _ _ _ => False)) :
    wpAny (model X.prog X.w) X.A (getAttr (.ref a) f b) (EP X pins σ Q) E' s := by
  obtain ⟨mA, O, _, _, _, _⟩ := ins_get I.hok ea
  obtain ⟨od, J, _⟩ := O.look
  obtain ⟨rest, hrec⟩ := hp.rec_
  have I1 := I.tok (s.toks + 1)
  have hc : (PySem.W.clsIn X.K C).isSome = true := by
    obtain ⟨cd, hc, _⟩ := PySem.W.any_some c.hd
    rw [hc]
    rfl
  refine PySem.W.get_bind I.kIn J (PySem.W.plainGet_of (c.get f)).1 (PySem.W.findObj_data hc hp.at_ hp.get hp.tak) (PySem.W.plainGet_of (c.get f)).2 (wpAny_call (PySem.W.prop_get (s := { s with toks := s.toks + 1 }) I.kIn hrec ?_))
  refine codeAny_mono (F X.A.in1 X.stack { s with toks := s.toks + 1 } H [.ref a] [.ref a] Q (fun _ _ _ => False) (RoomH.in1 hr) I1.env0.in1 (.cons rfl .nil) h) fun r s' hq => ?_
  cases r with
  | error er => exact False.elim hq
  | ok fl =>
    cases fl with
    | ret u =>
      obtain ⟨v, H', I3, rv, q3⟩ := I1.after hq
      show wpAny _ _ (handedOut u) _ _ _
      rw [PySem.W.handedOut_of (handed_of rv)]
      exact wpAny_pure ⟨v, H', I3, rv, q3⟩
    | next => exact False.elim hq
    | brk => exact False.elim hq
    | cont => exact False.elim hq
theorem pe_propA (he : PE X e ta) (c : Cls X.K C) (hp : PropOf X.K C f p g) (F : FnA X.prog X.w X.K X.mg X.base CXN k g sp) (hr : RoomH (k + 1) X.A)
    (hab : attributeBase e f X.env (eval e X.env) = eval e X.env := by rfl) : PE X (.Attribute e f pos) (tPropA C sp ta) := by
  refine ⟨fun pins s σ H Q I h => ?_⟩
  refine attr_of hab (thn (he.run pins s σ H _ I h) fun u s1 ⟨x, H1, I1, rx, a, dx, fs, ex, ea, q⟩ => ?_)
  subst ex
  obtain rfl : u = Value.ref a := rx
  exact k57_getprop I1 ea c hp F hr q
end
end L2
/-! Own rules, part e: with .. as .. whose body may raise. -/
namespace L2
open PySem PySem.Spec PyProof.Rows L2H
theorem k57_att {M : Model} {A : Around} {E : Value → Shared → Prop} {s : Shared} {env : Env} {inner : Sem Flow} {rest : Value → Sem Flow} {P1 Q : Flow → Shared → Prop}
    (h : wpAny M A inner P1 (fun e s₁ => wpAny M A (noteFrame e env) (fun _ s₂ => wpAny M A (rest e) Q E s₂) E s₁) s) : wpAny M A inner P1 (fun e s' => wpAny M A (noteFrame e env >>= fun _ => rest e) Q E s') s :=
  wpAny_mono h (fun _ _ x => x) fun _ _ x => wpAny_bind x
theorem k57_tracebackOf {M : Model} {A : Around} {E : Value → Shared → Prop} {s : Shared} {a T : Addr} {oe oT : Obj} {vs ts : Array Value} {u : Value} {Q : Value → Shared → Prop} (he : s.heap.get? a = some oe) (hd : oe.data = .fields vs) (h1 : vs[1]? = some (.ref T))
    (hT : s.heap.get? T = some oT) (hdT : oT.data = .fields ts) (h3 : ts[1]? = some u) (q : ∀ tv, tv = Value.none ∨ tv = Value.ref T → Q tv s) : wpAny M A (tracebackOf (.ref a)) Q E s := by
  unfold tracebackOf
  refine wpAny_bind (wpAny_field he hd h1 ?_)
  dsimp only
  refine wpAny_bind (wpAny_field hT hdT h3 ?_)
  by_cases hu : (u == Value.none) = true
  · rw [if_pos hu]
    exact wpAny_pure (q _ (.inl rfl))
  · rw [if_neg hu]
    first
      | exact wpAny_pure (q _ (.inr rfl))
      | exact wpAny_bind (wpAny_pure (wpAny_pure (q _ (.inr rfl))))
/-- what is wished of an exception of the block: __exit__ runs, then Wout -/
def wWith (a : Addr) (spX : Sp) (Wout : WX) : WX := fun cls d σ H => ∃ cv, RelV cv cls ∧ ∀ ev tv, spX [.ref a, cv, ev, tv] H (fun v H' => v = .non ∧ Wout cls d σ H') (fun _ _ _ => False)
/-- behind the block: __exit__ runs -/
def dWith (a : Addr) (spX : Sp) (D : Ends) : Ends where
  nx := fun σ H => spX [.ref a, .non, .non, .non] H (fun _ H' => D.nx σ H') (fun _ _ _ => False)
  rt := fun v H => spX [.ref a, .non, .non, .non] H (fun _ H' => D.rt v H') (fun _ _ _ => False)
  bk := fun σ H => spX [.ref a, .non, .non, .non] H (fun _ H' => D.bk σ H') (fun _ _ _ => False)
  ct := fun σ H => spX [.ref a, .non, .non, .non] H (fun _ H' => D.ct σ H') (fun _ _ _ => False)
def tWith (C : Addr) (spE spX : Sp) (i : Nat) (Wout : WX) (te : TE) (tb : WX → TS) : TS := fun D σ H => te σ H fun x H1 => ∃ a dx fs, x = .ref a ∧ H1 a = some (.ins C dx fs) ∧
  spE [.ref a] H1 (fun v H2 => tb (wWith a spX Wout) (dWith a spX D) (σ.set i (some v)) H2) (fun _ _ _ => False)
/-- what K says of the manager's class -/
structure WithC (K : PySem.W.Frag) (C fe fx : Addr) : Prop where
  he : PySem.W.findIn K (.ref C) "__enter__" = some (some (.ref fe))
  hfe : PySem.W.isFn K (.ref fe) = true
  hx : PySem.W.findIn K (.ref C) "__exit__" = some (some (.ref fx))
  hfx : PySem.W.isFn K (.ref fx) = true
section
variable {X : Cx} {C fe fx : Addr} {ke kx i : Nat} {spE spX : Sp} {y : Str} {py pos : Pos} {ctx : Expr} {body : List Stmt} {te : TE} {tb : WX → TS} {Wout : WX}
/-- what is tracked, once more, behind a call that is made with an exception in hand -/
theorem k57_runA {pins : List (Addr × Obj)} {σ : L2.St} {H : Hp} {s : Shared} {Q : VK} {us : List Value} {vs : List V} {hd : Option Value} (F : FnA X.prog X.w X.K X.mg X.base CXN kx fx spX) (hr : RoomH kx X.A) (I : Inv X pins σ H s) (r : Vals vs us)
    (h : spX vs H Q (fun _ _ _ => False)) : codeAny (model X.prog X.w) (X.A.mark hd) (.call (.ref fx) ⟨us, []⟩) (fun r s' => match r with | .ok (.ret u) => CE X.stack X.prog X.w H s Q u s' | _ => False) s := by
  have e0 := I.env0
  refine codeAny_mono (F (X.A.mark hd) X.stack s H us vs Q (fun _ _ _ => False) (RoomH.mark hr hd) ⟨e0.frames, e0.mod, e0.bs, e0.bsz, e0.funs, e0.frf, e0.hok, e0.bare⟩ r h) fun r s' hq => ?_
  cases r with
  | error e => exact False.elim hq
  | ok fl =>
    cases fl with
    | ret u => exact hq
    | next => exact False.elim hq
    | brk => exact False.elim hq
    | cont => exact False.elim hq
theorem k57_with_exc {pins : List (Addr × Obj)} {σ' : List (Option V)} {H' : Hp} {sI s' : Shared} {a x : Addr} {cls : Value} {d : Option Addr} {B : Heap} {D : Ends} {cpos : Pos} (hs : X.stack = X.env :: X.outer) (hf : X.env.frame = some X.env.locals) (hex : X.ex = []) (ok : X.Ok) (tk : Takes X Wout)
    (Fx : FnA X.prog X.w X.K X.mg X.base CXN kx fx spX) (hrx : RoomH kx X.A) (J : Inv X pins σ' H' sI) (nb : ∀ b o, sI.heap.get? b = some o → b ∉ frs X.stack → B.get? b = some o) (up : sI.heap.UpToSlots s'.heap) (na : H' a = none) (os : s'.os = sI.os) (ag : AllBare s'.gens)
    (hw : wWith x spX Wout cls d σ' H') (h1 : Heap) (hh1 : HandSPX.HeldZ B (X.env :: X.outer) a (Zc cls d) X.env.locals h1) (up1 : s'.heap.UpToSlots h1) {tail : Value → Sem Flow}
    (htail : ∀ (Q : Flow → Shared → Prop) (s : Shared), wpAny (model X.prog X.w) X.A (PySem.passOn "with" (.ref a) X.env : Sem Flow) Q X.xe s → wpAny (model X.prog X.w) X.A (tail .none) Q X.xe s) :
    wpAny (model X.prog X.w) X.A (setFlight (.ref a) none >>= fun _ => standAt cpos >>= fun _ => holding [.ref a] (typeOf (.ref a) >>= fun t => tracebackOf (.ref a) >>= fun tv => withItem.marked (.ref a) (.call (.ref fx) ⟨[.ref x] ++ [t, .ref a, tv], []⟩) >>= tail)) (SP X pins D) X.xe { s' with heap := h1 } := by
  obtain ⟨cv, rcv, hw⟩ := hw
  have hfr : X.A.frames = some (X.env :: X.outer) := by rw [ok.frames, hs]
  refine wpAny_bind (HandSPX.landsZ hh1 fun h3 fl3 up3 => ?_)
  refine wpAny_bind (wpAny_standAt (wpAny_holding ?_))
  have J3 : Inv X pins σ' H' { s' with heap := h3 } := J.landed nb fl3.1 ((up.trans up1).trans up3) os ag
  obtain ⟨k1, k2, k3, oe, vs, T, oT, ts, he3, hz, hd, hv1, hnT, hTe, hT, hdT, ht3⟩ := id fl3
  have nT : H' T = none := (J.inGround nb).gone hnT
  have notFr : ∀ (b : Addr) (o : Obj) (fv : Array Value), h3.get? b = some o → o.data = .fields fv → b ∉ frs (X.env :: X.outer) := fun b o fv e dd hm => by
    obtain ⟨_, o', e', hnf⟩ := k3.mem hm
    have eo : o = o' := Option.some.inj (e.symm.trans e')
    rw [← eo] at hnf
    exact hnf _ dd
  have fa := notFr a oe vs he3 hd
  have fT := notFr T oT ts hT hdT
  refine wpAny_bind (wpAny_typeOf_ref he3 ?_)
  rw [hz.1]
  have hsz : 3 < ts.size := (Array.getElem?_eq_some_iff.mp ht3).1
  refine wpAny_bind (k57_tracebackOf he3 hd hv1 hT hdT (u := ts[1]) (by rw [Array.getElem?_eq_some_iff]; exact ⟨by omega, rfl⟩) fun tv htv => ?_)
  have rtv : ∃ t : V, RelV t tv := by
    rcases htv with e | e
    · exact ⟨.non, e⟩
    · exact ⟨.ref T, e⟩
  obtain ⟨tV, rtV⟩ := rtv
  unfold withItem.marked
  refine wpAny_bind (wpAny_bind (wpAny_run (codeAny_mono (k57_runA (hd := some (.ref a)) Fx hrx J3 (us := [.ref x, cls, .ref a, tv]) (vs := [.ref x, cv, .ref a, tV]) (.cons rfl (.cons rcv (.cons rfl (.cons rtV .nil)))) (hw _ _)) fun r s6 hq => ?_) (fun z => ref_ne_byPass a (Option.some.inj z))))
  cases r with
  | error e => exact False.elim hq
  | ok flw =>
    cases flw with
    | next => exact False.elim hq
    | brk => exact False.elim hq
    | cont => exact False.elim hq
    | ret u =>
      obtain ⟨v6, H6, os6, bare6, un, hok6, r6, ev6, q6⟩ := hq
      subst ev6
      obtain rfl : u = Value.none := r6
      refine wpAny_pure ?_
      have st6 : ∀ (b : Addr) (o : Obj), h3.get? b = some o → H' b = none → b ∉ frs (X.env :: X.outer) → s6.heap.get? b = some o ∧ H6 b = none := fun b o e n hb =>
        ⟨un.keep b o e n (by rw [hs]; exact hb) (by simp), un.free b o e n (by simp)⟩
      have J6 : Inv X pins σ' H6 s6 := J3.call' (ch := []) os6 un hok6 bare6 fun b z => absurd z (by simp)
      obtain ⟨ga, na6⟩ := st6 a oe he3 na fa
      obtain ⟨gT, nT6⟩ := st6 T oT hT nT fT
      have far : ∀ b o, sI.heap.get? b = some o → b ≠ a ∧ b ≠ T := fun b o e => by
        by_cases hb : b ∈ frs X.stack
        · rw [hs] at hb
          exact ⟨fun z => fa (by rw [← z]; exact hb), fun z => fT (by rw [← z]; exact hb)⟩
        · have q := nb b o e hb
          exact ⟨fun z => by
            rw [z, k2] at q
            exact (nomatch q), fun z => by
            rw [z, hnT] at q
            cases q⟩
      have far0 : ∀ b o, X.s_0.heap.get? b = some o → b ≠ a ∧ b ≠ T := fun b o e => by
        obtain ⟨o', q⟩ := J.base.there b o e (by rw [hex]; simp)
        exact far b o' q
      have farP : ∀ p ∈ X.pn ++ pins, p.1 ≠ a ∧ p.1 ≠ T := fun p hp => far p.1 p.2 (J.pin p hp).1
      obtain ⟨G, g1, g2⟩ := restrict s6.heap fun b => !(decide (b = a) || decide (b = T))
      have gIn : ∀ b o, G.get? b = some o → s6.heap.get? b = some o ∧ b ≠ a ∧ b ≠ T := fun b o e => by
        cases q : (!(decide (b = a) || decide (b = T))) with
        | false =>
          rw [g2 b q] at e
          cases e
        | true =>
          rw [g1 b q] at e
          simp only [Bool.not_eq_true', Bool.or_eq_false_iff, decide_eq_false_iff_not] at q
          exact ⟨e, q.1, q.2⟩
      have gOf : ∀ b o, b ≠ a → b ≠ T → s6.heap.get? b = some o → G.get? b = some o := fun b o h1 h2 e => by
        rw [g1 b (by simp [h1, h2])]
        exact e
      have I6 : Inv X pins σ' H6 { s6 with heap := G } := J6.less (fun b o e => (gIn b o e).1) gOf ⟨oe, vs, ga, hd⟩ ⟨oT, ts, gT, hdT⟩ na6 nT6 far0 farP
      have B6in : ∀ b o, (PySem.W.hideAll G (frs X.stack)).get? b = some o → s6.heap.get? b = some o := fun b o e => (gIn b o (PySem.W.of_hideAll _ e)).1
      have Bno : ∀ b, (b = a ∨ b = T) → (PySem.W.hideAll G (frs X.stack)).get? b = none := fun b hb => by
        cases q : (PySem.W.hideAll G (frs X.stack)).get? b with
        | none => rfl
        | some o =>
          obtain ⟨_, n1, n2⟩ := gIn b o (PySem.W.of_hideAll _ q)
          rcases hb with z | z
          · exact absurd z n1
          · exact absurd z n2
      have fl6 : HandSPX.FlyingZ (PySem.W.hideAll G (frs X.stack)) (X.env :: X.outer) a (Zc cls d) s6.heap := by
        refine ⟨B6in, Bno a (.inl rfl), ?_, oe, vs, T, oT, ts, ga, hz, hd, hv1, Bno T (.inr rfl), hTe, gT, hdT, ht3⟩
        have ff := funFrames_none (B := PySem.W.hideAll G (frs X.stack)) J6.stack fun b hb => PySem.W.hideAll_none _ hb
        rw [← hs]
        exact ff
      refine htail _ _ ?_
      unfold PySem.passOn
      refine wpAny_bind (wpAny_field ga hd hv1 ?_)
      rw [if_neg (show ¬ ((Value.ref T == Value.none) = true) from by simp)]
      have goOn : wpAny (model X.prog X.w) X.A (setFlight (.ref a) X.env.frame) (fun _ s7 => wpAny (model X.prog X.w) X.A (throw (.ref a) : Sem Flow) (SP X pins D) X.xe s7) X.xe s6 := by
        rw [hf]
        refine HandSPX.setFlight_upZ fl6 fun h7 hh7 up7 => wpAny_throw (tk _ _ ?_)
        refine ⟨a, PySem.W.hideAll G (frs X.stack), { s6 with heap := G }, pins, σ', H6, cls, d, rfl, I6, fun b o e hb => PySem.W.hideAll_get _ e hb, ?_, .inr (.inr (by rw [← hs] at hh7; exact hh7)), na6, rfl, J6.bare, q6⟩
        exact Heap.UpToSlots.trans (Heap.UpToSlots.of_keeps fun b o e => (gIn b o e).1) up7
      first
        | exact wpAny_bind (wpAny_pure (wpAny_bind goOn))
        | exact wpAny_bind goOn
theorem ps_withX (hs : X.stack = X.env :: X.outer) (hf : X.env.frame = some X.env.locals) (hex : X.ex = []) (tk : Takes X Wout) (hN : X.N.Nodup) (hi : X.N[i]? = some y) (hyl : X.env.scope.names.lookup y = some .local)
    (T : WithC X.K C fe fx) (Fe : FnR X.prog X.w X.K X.mg X.base CXN ke fe spE) (hre : Room ke X.A) (Fx : FnA X.prog X.w X.K X.mg X.base CXN kx fx spX) (hrx : RoomH kx X.A) (hctx : PE X ctx te)
    (hb : ∀ (W : WX) (pn : List (Addr × Obj)) (xe : Value → Shared → Prop), Takes (X.tr pn xe) W → PassesOwn (model X.prog X.w) X.A X.env xe → PSs (X.tr pn xe) body (tb W)) :
    PS X (.With [⟨ctx, some (.Name y py)⟩] body pos) (tWith C spE spX i Wout te tb) := by
  refine ⟨fun pins s σ H D I h => ?_⟩
  have ok := I.ok
  have hfr : X.A.frames = some (X.env :: X.outer) := by rw [ok.frames, hs]
  refine PySem.W.kw_execN (thn (hctx.run pins s σ H _ I h) fun v0 s1 ⟨x0, H1, I1, r1, a, dx, fs, ex, ea, q1⟩ => ?_)
  subst ex
  obtain rfl : v0 = Value.ref a := r1
  obtain ⟨mA, O, _, _, _, _⟩ := ins_get I1.hok ea
  obtain ⟨od, J, _⟩ := O.look
  unfold PySem.W.KwIn
  obtain ⟨cd, hcd, ae⟩ := PySem.W.kw_along T.he
  obtain ⟨cd', hcd', ax⟩ := PySem.W.kw_along T.hx
  cases hcd.symm.trans hcd'
  have KX := I1.kIn
  obtain ⟨hh, g, d, tt, os⟩ := s1
  have L1 : PySem.W.Looks (model X.prog X.w) hh (specialOnItsLine (.ref a) "__enter__") (some (.ref fe), cd.mro) := PySem.W.kw_special KX J hcd ae
  have L2 : PySem.W.Looks (model X.prog X.w) hh (specialOnItsLine (.ref a) "__exit__") (some (.ref fx), cd.mro) := PySem.W.kw_special KX J hcd ax
  have L3 : PySem.W.Looks (model X.prog X.w) hh (bindSpecial (.ref fe) (.ref a)) (.ref fe, [.ref a]) := PySem.W.bind_fn KX _ (beq_iff_eq.mp T.hfe)
  have L4 : PySem.W.Looks (model X.prog X.w) hh (bindSpecial (.ref fx) (.ref a)) (.ref fx, [.ref a]) := PySem.W.bind_fn KX _ (beq_iff_eq.mp T.hfx)
  have L5 : PySem.W.Looks (model X.prog X.w) hh (aMethodOfAnotherBuiltinTypeStops (.ref fe) cd.mro) () := PySem.W.Looks.of_pure rfl
  have L6 : PySem.W.Looks (model X.prog X.w) hh (aMethodOfAnotherBuiltinTypeStops (.ref fx) cd.mro) () := PySem.W.Looks.of_pure rfl
  unfold withItem
  refine wpAny_bind (wpAny_pure ?_)
  refine wpAny_bind (wpAny_standAt ?_)
  simp only [Bool.false_eq_true, if_false]
  open PySem.W in kw_lk
  have hent : wpAny (model X.prog X.w) X.A (call (.ref fe) [.ref a]) (fun v s' => EP X pins σ (fun v H2 => tb (wWith a spX Wout) (dWith a spX D) (σ.set i (some v)) H2) v s') X.xe ⟨hh, g, d, tt, os⟩ := by
    refine wpAny_call (codeAny_mono (Fe X.A X.stack ⟨hh, g, d, tt, os⟩ H1 [.ref a] [.ref a] _ (fun _ _ _ => False) hre I1.env0 (.cons rfl .nil) q1) fun r s' hq => ?_)
    cases r with
    | error e => exact False.elim hq
    | ok fl =>
      cases fl with
      | ret u => exact I1.after hq
      | next => exact False.elim hq
      | brk => exact False.elim hq
      | cont => exact False.elim hq
  refine wpAny_mono hent (fun v s₂ h₂ => ?_) fun _ _ z => z
  obtain ⟨v2, H2, I2, r2, q2⟩ := h₂
  refine wpAny_bind (wpAny_pure (wpAny_bind (wpAny_attempt (PySem.W.kw_held ?_))))
  refine k57_att (rest := _) ?_
  show wpAny _ _ (assign (.Name y py) X.env v >>= fun _ => execs body X.env) _ _ _
  -- __exit__ behind the block
  have exitN : ∀ {f : Flow} {σ4 : List (Option V)} {H4 : Hp} {s4 : Shared} {Qh : Hp → Prop} {G : Flow → Shared → Prop} {keep : List Value}, Inv X pins σ4 H4 s4 → spX [.ref a, .non, .non, .non] H4 (fun _ H' => Qh H') (fun _ _ _ => False) → (∀ H5 s5, Inv X pins σ4 H5 s5 → Qh H5 → G f s5) →
      wpAny (model X.prog X.w) X.A (standAt ctx.pos >>= fun _ => holding keep (call (.ref fx) ([.ref a] ++ [.none, .none, .none])) >>= fun _ => pure f) G X.xe s4 := fun {f σ4 H4 s4 Qh G keep} I4 q4 hG => by
    refine wpAny_bind (wpAny_standAt (wpAny_bind (wpAny_holding (wpAny_call (codeAny_mono (Fx X.A X.stack s4 H4 [.ref a, .none, .none, .none] [.ref a, .non, .non, .non] _ (fun _ _ _ => False) hrx I4.env0 (.cons rfl (.cons rfl (.cons rfl (.cons rfl .nil)))) q4) fun r s' hq => ?_)))))
    cases r with
    | error e => exact False.elim hq
    | ok fl =>
      cases fl with
      | ret u =>
        obtain ⟨_, H5, I5, _, q5⟩ := I4.after hq
        exact wpAny_pure (hG H5 _ I5 q5)
      | next => exact False.elim hq
      | brk => exact False.elim hq
      | cont => exact False.elim hq
  refine wpAny_bind (wpAny_assign_Name (store_ok I2 hN hi (.inl hyl) r2 (fun s3 I3 => ?_) (.inr hyl)))
  refine wpAny_mono ((hb (wWith a spX Wout) (X.pn ++ pins) _ (fun u s' xx => ?_) PassesOwn.looking).run [] s3 _ H2 (dWith a spX D) (I3.toTry _) q2) (fun f s4 hsp => ?_) (fun x s1 hx => hx)
  · obtain ⟨a1, B, sI, pins', σ', H', cls, d1, rfl, J', nb, up, sky, na, os1, ag, cv, rcv, hw⟩ := xx
    have J : Inv X pins σ' H' sI := J'.ofTry ok
    have sky' : Sky B (X.env :: X.outer) a1 (Zc cls d1) X.env.locals s'.heap := by rw [← hs]; exact sky
    -- behind the first note
    have fin := fun h1 hh1 up1 => @k57_with_exc X fx kx spX Wout pins σ' H' sI s' a1 a cls d1 B D ctx.pos hs hf hex ok tk Fx hrx J nb up na os1 ag ⟨cv, rcv, hw⟩ h1 hh1 up1
    show wpAny (model X.prog X.w) X.A (noteFrame (.ref a1) X.env) _ _ _
    rcases sky' with ⟨hB, hn, hl, oe, vs, he0, hz, hd, hv1⟩ | fl | hh
    · exact HandSPX.look_newZ Zc.steady hfr hl hf he0 hB hn hd hv1 hz fun h1 hh1 up1 => fin h1 hh1 up1 (fun Q s hp => by first | exact wpAny_bind (wpAny_pure (wpAny_bind (wpAny_pure hp))) | exact wpAny_bind (wpAny_pure hp))
    · exact HandSPX.looks_onZ Zc.steady hfr hf fl fun h1 hh1 up1 => fin h1 hh1 up1 (fun Q s hp => by first | exact wpAny_bind (wpAny_pure (wpAny_bind (wpAny_pure hp))) | exact wpAny_bind (wpAny_pure hp))
    · exact HandSPX.againZ hf hh.2.2.2 (fin s'.heap hh (Heap.UpToSlots.refl _) (fun Q s hp => by first | exact wpAny_bind (wpAny_pure (wpAny_bind (wpAny_pure hp))) | exact wpAny_bind (wpAny_pure hp)))
  · cases f with
    | next =>
      obtain ⟨σ4, H4, I4, q4⟩ := hsp
      exact exitN (I4.ofTry ok) q4 fun H5 s5 I5 q5 => ⟨_, H5, I5, q5⟩
    | brk =>
      obtain ⟨σ4, H4, I4, q4⟩ := hsp
      exact exitN (I4.ofTry ok) q4 fun H5 s5 I5 q5 => ⟨_, H5, I5, q5⟩
    | cont =>
      obtain ⟨σ4, H4, I4, q4⟩ := hsp
      exact exitN (I4.ofTry ok) q4 fun H5 s5 I5 q5 => ⟨_, H5, I5, q5⟩
    | ret u =>
      obtain ⟨v4, σ4, H4, I4, r4, q4⟩ := hsp
      exact exitN (I4.ofTry ok) q4 fun H5 s5 I5 q5 => ⟨v4, _, H5, I5, r4, q5⟩
end
end L2
/-! Own rules, part f: a for loop with yields within a generator def. -/
namespace L2
open PySem PySem.Spec PyProof.Rows GenW
def tGFor (wi : TI) (g : TG) (tb : TGn) : TGn := fun D ys σ H => wi σ H fun J H1 => ∃ W : Nat → Nat → List V → St → Hp → Prop, (∃ m, W 0 m ys σ H1) ∧ ∀ i m ys σ H, W i m ys σ H →
  (J.stop i H ∧ D.nx ys σ H) ∨ (J.go i H ∧ ∃ N : List V → St → Hp → Prop, (∀ ys' σ' H', N ys' σ' H' → ∃ m', m' < m ∧ W (i + 1) m' ys' σ' H') ∧
    ∀ x H', J.yld i H x H' → g x σ H' fun σ2 H2 => tb { D with nx := N, ct := N, bk := D.nx } ys σ2 H2)
section
variable {X : Cx}
theorem k57_runOwn {M : Model} {A : Around} {R : GenEnd} {Y : Protocol} {n : Nat} {s₀ s : Shared} {c c' : Code} {fs : List Frame} {K : Flow → Sem PySem.Fin} {J : Value → Sem PySem.Fin} {gd : Bool → Bool} {lv : List Value → List Value} {env : Env}
    (h : ∀ p, Seg M A R Y n s₀ c' (M.den c') (.ret (fun r => ((match r with | .ok f => (.pure f : Sem Flow) | .error e => .raise e).onRaise (cameBack env)).wrap K J gd lv) none (gd false) (lv []) c p [] :: fs) s) :
    Seg M A R Y n s₀ c ((runOwn c' env).wrap K J gd lv) fs s := seg_call h
theorem gs_for {tg iter : Expr} {body : List Stmt} {pos : Pos} {wi : TI} {gt : TG} {tb : TGn} (hp : PassesOwn (model X.prog X.w) X.A X.env X.xe) (hc : X.calm = true) (hi : PI X tg iter wi) (hg : PG X tg gt) (hb : GSs X body tb)
    (hs : ∀ x, foldedSetIterable iter X.env x = pure x := by intro _; rfl) : GS X (.For tg iter body [] pos) (tGFor wi gt tb) := by
  refine ⟨fun A S ip R n ys s₀ c fs K J gd lv s σ H D g hn k hI ht => ?_⟩
  rw [exec_For]
  refine seg_bind_wrap (wpAny_standAt ?_)
  refine seg_bind_wrap ?_
  rw [g.over]
  obtain ⟨acc, cc, r, I⟩ := hI
  refine wpAny_mono (hi.run _ s σ H _ I ht) (fun v s1 h1 => ?_) fun x s' hx => k.exc n s₀ x s' hx
  refine seg_bind_wrap (wpAny_of_eq (hs v) ?_)
  refine seg_bind_wrap (wpAny_standAt ?_)
  refine seg_bind_wrap (wpAny_holding ?_)
  rw [g.over]
  refine wpAny_mono h1 (fun itv s2 h2 => ?_) fun x s' hx => k.exc n s₀ x s' hx
  obtain ⟨it, fp, tn, Jt, H2, e, I2, T, st2, f2, W, ⟨m0, w0⟩, turn⟩ := h2
  subst e
  have bS : ∀ b ∈ fp, b ≠ S := fun b hb z => (f2 b hb).2.2.2.2.2 (S, lstObj acc cc) (List.mem_append_right _ List.mem_cons_self) z.symm
  have stat : ∀ {H' : Hp} {acc' : Array Value} {cc' : Nat}, (∀ b ∈ fp, H' b = none) → ∀ b ∈ fp, FpOk X ((S, lstObj acc' cc') :: ip) H' b := fun {H' acc' cc'} hn b hb => by
    obtain ⟨f0, f1, f2', f3, f4, f5⟩ := f2 b hb
    refine ⟨hn b hb, f1, f2', f3, f4, fun p hp => ?_⟩
    rcases List.mem_append.mp hp with hp | hp
    · exact f5 p (List.mem_append_left _ hp)
    · rcases List.mem_cons.mp hp with hp | hp
      · rw [hp]; exact Ne.symm (bS b hb)
      · exact f5 p (List.mem_append_right _ (List.mem_cons_of_mem _ hp))
  refine k57_runOwn fun p => ?_
  have gl := fun (kk : Result → Sem PySem.Fin) => gc_loop (k := kk) (c' := .forLoop tg (.ref it) body [] X.env) (l := lv []) (kp := []) (p := p) g rfl rfl
  have loop : ∀ (m i n : Nat) (ys : List V) (s₀ s : Shared) (σ : L2.St) (H : Hp), n + ys.length = sizeLine → W i m ys σ H → GI X S ip ys σ H s → tn i s.heap → (∀ b ∈ fp, H b = none) →
      Seg (model X.prog X.w) A R (GY X S) n s₀ (.forLoop tg (.ref it) body [] X.env) ((model X.prog X.w).den (.forLoop tg (.ref it) body [] X.env))
        (.ret (fun r => ((match r with | .ok f => (.pure f : Sem Flow) | .error e => .raise e).onRaise (cameBack X.env)).wrap K J gd lv) none (gd false) (lv []) c p [] :: fs) s := by
    intro m
    induction m using Nat.strongRecOn with
    | ind m ih =>
      intro i n ys s₀ s σ H hn w hI hst hfn
      have ee : ∀ (n : Nat) (s₀ : Shared) (x : Value) (s' : Shared), X.xe x s' → Seg (model X.prog X.w) A R (GY X S) n s₀ (.forLoop tg (.ref it) body [] X.env)
          ((do noteFrame x X.env; theTreesLotGoes x : Sem Unit).bind fun _ => (.raise x : Sem PySem.Fin))
          (.ret (fun r => ((match r with | .ok f => (.pure f : Sem Flow) | .error e => .raise e).onRaise (cameBack X.env)).wrap K J gd lv) none (gd false) (lv []) c p [] :: fs) s' := fun n s₀ x s' hx => by
        rw [Sem.bind_eq_wrap]
        refine seg_wrap ?_
        rw [(gl _).over]
        refine wpAny_bind (wpAny_mono (hp x s' hx) (fun _ s'' hcb => wpAny_theTreesLotGoes ?_) fun y s'' hcb => ?_)
        · exact seg_leaf (.error x) (seg_cameBack g k hcb)
        · exact seg_leaf (.error y) (seg_cameBack g k hcb)
      show Seg _ A R _ n s₀ _ ((forTurn tg (.ref it) body [] X.env).onRaise (fun x => do noteFrame x X.env; theTreesLotGoes x)) _ s
      unfold forTurn
      rw [Sem.onRaise_eq_wrap]
      refine seg_bind_wrap (wpAny_standAt ?_)
      refine seg_bind_wrap (wpAny_onRaise ?_)
      rw [(gl _).over]
      obtain ⟨acc, cc, r, I⟩ := hI
      rcases turn i m ys σ H w with ⟨stop, qn⟩ | ⟨go, N, hN, step⟩
      · refine wpAny_mono (T.done X rfl rfl rfl hc i _ s σ H X.xe I (stat hfn) hst stop) (fun rr s4 ⟨hr, I4⟩ => ?_) fun x s' hx => wpAny_standAt (ee n s₀ x s' hx)
        subst hr
        refine seg_again rfl ?_
        show Seg _ A R _ n s₀ _ (.pure (.done .next)) _ s4
        exact seg_leaf (.ok .next) (k.ok n ys s₀ s4 .next hn ⟨σ, H, ⟨acc, cc, r, I4⟩, qn⟩)
      · refine wpAny_mono (T.item X rfl rfl rfl hc i _ s σ H X.xe I (stat hfn) hst go) (fun rr s4 ⟨u, hr, h4⟩ => ?_) fun x s' hx => wpAny_standAt (ee n s₀ x s' hx)
        subst hr
        refine seg_bind_wrap ?_
        rw [(gl _).over]
        refine wpAny_mono h4 (fun _ s5 ⟨x, H5, I5, r5, y5, st5, fr5⟩ => ?_) fun x s' hx => ee n s₀ x s' hx
        have I5' := I5.pinned (stat fr5) (T.obj _ _ st5)
        refine seg_bind_wrap ?_
        rw [(gl _).over]
        refine wpAny_mono (hg.run _ s5 σ H5 x u _ I5' r5 (step x H5 y5)) (fun _ s6 ⟨σ6, H6, I6, q6⟩ => ?_) fun x s' hx => ee n s₀ x s' hx
        rw [Sem.bind_eq_wrap', Sem.wrap_wrap]
        have ipS : ∀ q ∈ ip ++ pinsAt fp s5.heap, q.1 ≠ S := fun q hq => by
          rcases List.mem_append.mp hq with hq | hq
          · exact g.ip q hq
          · exact bS q.1 (of_pinsAt hq).1
        have gl2 := gl (fun r => ((match r with | .ok f => (.pure f : Sem Flow) | .error e => .raise e).onRaise (cameBack X.env)).wrap K J gd lv)
        have again : ∀ {ys7 : List V} {σ7 : L2.St} {H7 : Hp} {s7 : Shared}, GI X S (ip ++ pinsAt fp s5.heap) ys7 σ7 H7 s7 → GI X S ip ys7 σ7 H7 s7 ∧ tn (i + 1) s7.heap ∧ ∀ b ∈ fp, H7 b = none := fun {ys7 σ7 H7 s7} h7 => by
          obtain ⟨acc7, cc7, r7, I7⟩ := h7
          refine ⟨⟨acc7, cc7, r7, I7.pins_of fun q hq => ?_⟩, T.keep _ _ _ st5 fun b hb o e => ?_, fun b hb => ?_⟩
          · refine I7.pin q (List.mem_append_right _ ?_)
            rcases List.mem_cons.mp hq with hq | hq
            · rw [hq]; exact List.mem_cons_self
            · exact List.mem_cons_of_mem _ (List.mem_append_left _ hq)
          · exact (I7.pin (b, o) (List.mem_append_right _ (List.mem_cons_of_mem _ (List.mem_append_right _ (mem_pinsAt hb e))))).1
          · obtain ⟨o, e, d⟩ := T.obj _ _ st5 b hb
            exact (I7.pin (b, o) (List.mem_append_right _ (List.mem_cons_of_mem _ (List.mem_append_right _ (mem_pinsAt hb e))))).2.1
        refine hb.run A S (ip ++ pinsAt fp s5.heap) R n ys s₀ _ _ _ _ _ _ s6 σ6 H6 { D with nx := N, ct := N, bk := D.nx } ⟨gl2.pn, ipS, gl2.apart, gl2.over, gl2.split, gl2.guard, rfl⟩ hn ⟨fun n' ys' s₀' s3 f hn' hs3 => ?_, fun n' s₀' x s3 hx => ee n' s₀' x s3 hx⟩ ⟨acc, cc, r, I6⟩ q6
        cases f with
        | next =>
          obtain ⟨σ3, H3, I3, n3⟩ := hs3
          obtain ⟨m', hm, w3⟩ := hN ys' σ3 H3 n3
          obtain ⟨a1, a2, a3⟩ := again I3
          exact seg_again rfl (ih m' hm (i + 1) n' ys' s₀' s3 σ3 H3 hn' w3 a1 a2 a3)
        | cont =>
          obtain ⟨σ3, H3, I3, n3⟩ := hs3
          obtain ⟨m', hm, w3⟩ := hN ys' σ3 H3 n3
          obtain ⟨a1, a2, a3⟩ := again I3
          exact seg_again rfl (ih m' hm (i + 1) n' ys' s₀' s3 σ3 H3 hn' w3 a1 a2 a3)
        | brk =>
          obtain ⟨σ3, H3, I3, n3⟩ := hs3
          exact seg_leaf (.ok .next) (k.ok n' ys' s₀' s3 .next hn' ⟨σ3, H3, (again I3).1, n3⟩)
        | ret v =>
          obtain ⟨v3, σ3, H3, I3, r3, n3⟩ := hs3
          exact seg_leaf (.ok (.ret v)) (k.ok n' ys' s₀' s3 (.ret v) hn' ⟨v3, σ3, H3, (again I3).1, r3, n3⟩)
  exact loop m0 0 n ys s₀ s2 σ H2 hn w0 ⟨acc, cc, r, I2⟩ st2 fun b hb => (f2 b hb).1
end
end L2
/-! Own rules, part g: small ones. -/
namespace PySem
open PySem.W PySem.Calls PyProof.Rows PySem.Spec
section
variable {prog : Program} {w : World} {A : Around} {E : Value → Shared → Prop} {s : Shared}
/-- a, .., *b = a tuple: what is unpacked -/
theorem k57_star {l : Addr} {items : Array Value} {n i : Nat} {Q : List Value → Shared → Prop} (hl : IsTup s.heap l items) (hh : A.handled = none) (hi : i < n) (hn : n ≤ items.size + 1) (hz : items.size ≤ 16384)
    (h : ∀ (h' : Heap) (tk : Nat), (∀ b o, s.heap.get? b = some o → h'.get? b = some o) →
      Q (items.toList.take i ++ [.ref h'.objs.size] ++ (items.toList.drop i).drop (items.size + 1 - n)) { s with heap := h'.push { cls := .type "list", data := .seq ((items.toList.drop i).take (items.size + 1 - n)).toArray }, toks := tk }) : wpAny (model prog w) A (unpackItems (.ref l) n (some i)) Q E s := by
  have hlt : l ≠ s.heap.objs.size := by obtain ⟨o, ho, _⟩ := hl; exact Nat.ne_of_lt (Heap.lt_size ho)
  have hll : l < s.heap.objs.size := by obtain ⟨o, ho, _⟩ := hl; exact Heap.lt_size ho
  unfold unpackItems
  refine wpAny_bind ?_
  unfold notIterableAtAll
  refine wpAny_bind (wpAny_specialOf hl.typeIs slot_tuple_iter.lookup ?_)
  refine wpAny_pure ?_
  simp only [Bool.false_eq_true, if_false]
  refine wpAny_bind (wpAny_holding (iter_tuple hl ?_))
  refine wpAny_bind (wpAny_holding (draw_tuple hlt i 0 _ _ ⟨_, Heap.get?_push_size _ rfl, rfl, rfl⟩ (hl.push _) (by omega) fun h₁ hit₁ hs₁ => ?_))
  have hl₁ : IsTup h₁ l items := (hl.push _).extBut hs₁.extBut hlt
  rw [Nat.zero_add] at hit₁
  have hit₁' := hit₁
  obtain ⟨oi, hoi, _⟩ := hit₁'
  have hl₁' := hl₁
  obtain ⟨ol, hol, _⟩ := hl₁'
  rw [List.drop_zero]
  have hfl : (items.toList.take i).length = i := by rw [List.length_take, Array.length_toList]; omega
  rw [if_neg (show ¬ ((items.toList.take i).length < i) by rw [hfl]; omega)]
  refine wpAny_bind (wpAny_holding (kun_collect (s := { s with heap := h₁ }) (T := "tuple_iterator") (.inr (.inr (.inr rfl))) (Walks.tuple (A := A.in1) hh s.heap.objs.size l hlt items) (fun j u st => st.1.typeIs) (k := i) (by omega) ⟨hit₁, hl₁⟩ (Heap.lt_size hoi) (Heap.lt_size hol) (fun h₂ tk hk => ?_) (by rw [sizeLine_eq]; omega)))
  have hrl : (items.toList.drop i).length = items.size - i := by rw [List.length_drop, Array.length_toList]
  have hmid : (items.toList.drop i).length - (n - 1 - i) = items.size + 1 - n := by rw [hrl]; omega
  show wpAny _ _ (if (items.toList.drop i).length < n - 1 - i then _ else _) _ _ _
  rw [if_neg (by rw [hrl]; omega)]
  show wpAny _ _ (newList ((items.toList.drop i).take ((items.toList.drop i).length - (n - 1 - i))) >>= fun d => pure (items.toList.take i ++ [d] ++ (items.toList.drop i).drop ((items.toList.drop i).length - (n - 1 - i)))) _ _ _
  rw [hmid]
  have he : ∀ b o, s.heap.get? b = some o → h₂.get? b = some o := fun b o e => hk b o (Nat.ne_of_lt (Heap.lt_size e)) ((hs₁.extBut b o (Nat.ne_of_lt (Heap.lt_size e)) (Heap.get?_push_of_some _ e)))
  refine wpAny_bind (wpAny_newList (wpAny_pure ?_) (by rw [List.length_take, hrl, sizeLine_eq]; omega))
  exact h h₂ tk he
/-- tuple(a dict) -/
theorem k57_code_tuple {T : String} {r d : Addr} {n : Nat} {P : Nat → Value → Prop} {OK : Heap → Prop} {Q₁ : Value → Shared → Prop} (K : KdlSrc prog w T r d n P OK) (hT : s.TypeIs (.ref r) "dict") (hh : A.handled = none) (hok : OK s.heap) (hn : n ≤ sizeLine)
    (h : ∀ (h' : Heap) (tk : Nat) (acc : Array Value), (∀ b o, s.heap.get? b = some o → h'.get? b = some o) → ItemsOf P acc n → Q₁ (.ref h'.objs.size) { s with heap := h'.push { cls := .type "tuple", data := .seq acc }, toks := tk }) :
    codeAny (model prog w) A (.call (.builtin "tuple.__new__") ⟨[.type "tuple", .ref r], []⟩) (wants Q₁ E) s := by
  refine codeAny_of_tree ?_
  show wpAny _ A.in1 (do checkBuiltinCall "tuple.__new__" ⟨[.type "tuple", .ref r], []⟩; again (.builtin "tuple.__new__" ⟨[.type "tuple", .ref r], []⟩)) _ _ s
  refine wpAny_bind (wpAny_of_eq (PySem.F.newCall_tuple_1 _) (wpAny_pure ⟨plainId_quiet PySem.F.plain_tuple_new _, codeAny_builtin PySem.F.entry_tuple_new ?_⟩))
  rw [Around.under_plainId PySem.F.plain_tuple_new _]
  have hsub := sub_tuple_self
  have hinit := init_tuple_lookup
  have hmh := madeHere_tuple
  have hh1 : A.in1.handled = none := hh
  wp_walk using wpAny_typeOf hT, kdu_collect (A := A.in1) K hh1 hok hn
  intro h' tk acc hk hacc
  show wpAny _ _ (Builtin.Tuple.tupleExact acc.toList.toArray >>= fun v => ret v) _ _ _
  unfold Builtin.Tuple.tupleExact
  refine wpAny_bind (wpAny_newObj_type ?_ (by show acc.toList.toArray.size ≤ sizeLine; simp only [Array.toArray_toList]; rw [hacc.1]; exact hn))
  refine wpAny_pure ?_
  have e : acc.toList.toArray = acc := by simp
  rw [e]
  exact h h' tk acc hk hacc
theorem k57_call_tuple {T : String} {r d : Addr} {n : Nat} {P : Nat → Value → Prop} {OK : Heap → Prop} {Q : Value → Shared → Prop} (K : KdlSrc prog w T r d n P OK) (hT : s.TypeIs (.ref r) "dict") (hh : A.handled = none) (hok : OK s.heap) (hn : n ≤ sizeLine)
    (h : ∀ (h' : Heap) (tk : Nat) (acc : Array Value), (∀ b o, s.heap.get? b = some o → h'.get? b = some o) → ItemsOf P acc n → Q (.ref h'.objs.size) { s with heap := h'.push { cls := .type "tuple", data := .seq acc }, toks := tk }) :
    wpAny (model prog w) A (call (.type "tuple") [.ref r]) Q E s := by
  refine callType_codes (Q₁ := fun obj s₁ => s₁.TypeIs obj "tuple" ∧ Q obj s₁) PySem.F.called_tuple (PySem.F.typeCall_tuple_1 _) PySem.F.entry_object_init
    (k57_code_tuple (A := A.in1) K hT hh hok hn fun h' tk acc hk hacc => ⟨⟨_, Heap.get?_push_size _ rfl, rfl⟩, h h' tk acc hk hacc⟩) fun obj s₁ h₁ => ?_
  exact ⟨h₁.1, PySem.F.args_object_init_2 obj _, object_init_meets PySem.F.called_tuple.init.lookup PySem.F.called_tuple.made (by decide) prog w A.in1 _ s₁ ⟨h₁.1, rfl, h₁.2⟩⟩
end
end PySem

namespace L2
open PySem PySem.Spec PyProof.Rows
section
variable {X : Cx}
/-- a, *b = a tuple of one item or more -/
def gStar (K : PySem.W.Frag) (t1 t2 : TG) : TG := fun v σ H Q => ∃ a x xs, v = .ref a ∧ SqT K H a (x :: xs) ∧ xs.length ≤ 16000 ∧ ∀ p, H p = none → t1 x σ (upd H p (.lst xs)) fun σ1 H1 => t2 (.ref p) σ1 H1 Q
theorem pg_star {e1 e2 : Expr} {k : Nat} {p pos : Pos} {t1 t2 : TG} (hc : X.calm = true) (h1 : PG X e1 t1) (h2 : PG X e2 t2) (ha : assignEach [e1, .Starred e2 p] X.env = [(false, assign e1 X.env), (true, assign e2 X.env)] := by rfl) :
    PG X (.Tuple [e1, .Starred e2 p] k pos) (gStar X.K t1 t2) := by
  refine ⟨fun pins s σ H v u Q I r hw => ?_⟩
  obtain ⟨a, x, xs, e, hq, hl, hw⟩ := hw
  subst e
  obtain rfl : u = Value.ref a := r
  obtain ⟨its, rv, ht, hz⟩ := I.tuple hq
  cases rv with
  | @cons _ u0 _ us rx rv =>
    rw [PyProof.Rows.assign_Tuple]
    refine wpAny_bind (wpAny_standAt ?_)
    unfold unpack
    rw [ha]
    have hlen := rv.length
    show wpAny _ _ (holding [Value.ref a] (unpackItems (.ref a) 2 (some 1)) >>= fun z => assignInOrder [assign e1 X.env, assign e2 X.env] z) _ _ _
    refine wpAny_bind (wpAny_holding (k57_star ht (I.ok.hd hc) (by omega) (by simp) (by simp; omega) fun h' tk hk => ?_))
    have e1' : ((u0 :: us).toArray.toList.drop 1).take ((u0 :: us).toArray.size + 1 - 2) = us := by simp
    have e2' : ((u0 :: us).toArray.toList.drop 1).drop ((u0 :: us).toArray.size + 1 - 2) = [] := by simp
    have e3' : (u0 :: us).toArray.toList.take 1 = [u0] := by simp
    rw [e1', e2', e3']
    have I1 : Inv X pins σ H { s with heap := h', toks := tk } := I.kept (t' := tk) hk
    have hn : H h'.objs.size = none := I1.hok.fresh (Nat.le_refl _)
    have I2 : Inv X pins σ (upd H h'.objs.size (.lst xs)) { s with heap := h'.push { cls := .type "list", data := .seq us.toArray }, toks := tk } :=
      I1.laid (t' := tk) (fun b o e => Heap.get?_push_of_some _ e) (Nat.le_refl _) (show ObjOk X.prog X.w _ _ _ (.lst xs) from ⟨by rw [sizeLine_eq]; omega, us, 0, rv, Heap.get?_push_size _ rfl⟩)
    show wpAny _ _ (assignInOrder [assign e1 X.env, assign e2 X.env] [u0, Value.ref h'.objs.size]) _ _ _
    refine assignInOrder_cons (thn (h1.run pins _ σ _ _ _ _ I2 rx (hw _ hn)) fun _ s1 ⟨σ1, H1, I3, q1⟩ => ?_)
    exact assignInOrder_cons (thn (h2.run pins s1 σ1 H1 (V.ref h'.objs.size) _ _ I3 rfl q1) fun _ s2 ⟨σ2, H2, I4, q2⟩ => assignInOrder_nil ⟨σ2, H2, I4, q2⟩)

/-! ### max -/
theorem dpAll_ints {K : PySem.W.Frag} {H : Hp} : ∀ ns : List Int, DpAll K H (ns.map V.int) (ns.map PyData.int)
  | [] => .nil
  | n :: ns => .cons (.int n) (dpAll_ints ns)
theorem depth_ints : ∀ ns : List Int, PyData.depthAll (ns.map PyData.int) = 0
  | [] => rfl
  | n :: ns => by
    rw [List.map_cons]
    show max (PyData.depth (.int n)) (PyData.depthAll (ns.map PyData.int)) = 0
    rw [depth_ints ns]
    rfl
theorem alike_ints (ns : List Int) : PySem.W.AlikeAll (ns.map PyData.int) := by
  constructor
  · intro x hx y hy
    obtain ⟨a, _, rfl⟩ := List.mem_map.mp hx
    obtain ⟨b, _, rfl⟩ := List.mem_map.mp hy
    rfl
  · intro x hx
    obtain ⟨a, _, rfl⟩ := List.mem_map.mp hx
    exact fun z => by cases z
theorem reads_int {h : Heap} {v : Value} {n : Int} {as : List Addr} (r : Reads h v (.int n) as) : ∃ t, v = .int n t := by
  cases r
  exact ⟨_, rfl⟩
/-- max(xs, default=None), a list of ints -/
def rMaxN (K : PySem.W.Frag) : List V → List V → Hp → VK → Prop := fun vs zs H Q => ∃ (a : Addr) (ns : List Int), vs = [V.ref a] ∧ zs = [V.non] ∧ SqL K H a (ns.map V.int) ∧ Q (match ns with | [] => .non | n :: r => .int (r.foldl max n)) H
theorem cr_maxN (hc : X.calm = true) (hu : X.A.units + 64 < cLine) : CallRK X (.builtin "max") ["default"] (rMaxN X.K) := by
  intro pins s σ H xs zs us ws Q I r rz h
  obtain ⟨a, ns, rfl, rfl, hq, q⟩ := h
  rw [Vals.ref1 r]
  obtain ⟨d, rfl, rd⟩ := vals1 rz
  obtain rfl : d = Value.none := rd
  obtain ⟨its, rv, pl, hz⟩ := I.list hq
  obtain ⟨as, hr⟩ := Dp.readsAll I _ _ _ (dpAll_ints (K := X.K) (H := H) ns) rv
  refine PySem.W.max_list_default (I.ok.hd hc) pl.isList (by simpa using hr) (alike_ints ns) (by rw [depth_ints]; omega) (fun e h' tk hk => ?_) fun y ys i v h' tk bs e hi hv hk => ?_
  · cases ns with
    | nil => exact ⟨.non, H, I.kept hk, rfl, q⟩
    | cons n r => cases e
  · cases ns with
    | nil => cases e
    | cons n r =>
      rw [List.map_cons] at e
      injection e with e1 e2
      subst e1 e2
      rw [PySem.W.maxD_ints] at hv
      obtain ⟨t, rfl⟩ := reads_int hv
      exact ⟨.int (r.foldl max n), H, I.kept hk, ⟨t, rfl⟩, q⟩
/-- max(t), a tuple of ints -/
def rMaxT (K : PySem.W.Frag) : List V → Hp → VK → Prop := fun vs H Q => ∃ (a : Addr) (n : Int) (ns : List Int), vs = [V.ref a] ∧ SqT K H a ((n :: ns).map V.int) ∧ Q (.int (ns.foldl max n)) H
theorem cr_maxT (hc : X.calm = true) (hu : X.A.units + 64 < cLine) : CallR X (.builtin "max") (rMaxT X.K) := by
  intro pins s σ H xs us Q I r h
  obtain ⟨a, n, ns, rfl, hq, q⟩ := h
  rw [Vals.ref1 r]
  obtain ⟨its, rv, pl, hz⟩ := I.tuple hq
  obtain ⟨as, hr⟩ := Dp.readsAll I _ _ _ (dpAll_ints (K := X.K) (H := H) (n :: ns)) rv
  refine PySem.W.max_tuple_data (x := .int n) (xs := ns.map .int) (I.ok.hd hc) (show s.heap.IsTuple a its.toArray from pl) (by simpa using hr) (alike_ints (n :: ns)) (by rw [show PyData.int n :: ns.map .int = (n :: ns).map .int from rfl, depth_ints]; omega) fun i v h' tk bs hi hv hk => ?_
  rw [PySem.W.maxD_ints] at hv
  obtain ⟨t, rfl⟩ := reads_int hv
  exact ⟨.int (ns.foldl max n), H, I.kept hk, ⟨t, rfl⟩, q⟩

/-! ### dicts -/
/-- d != {} -/
def rNeD0 : R2 := fun x y H Q => ∃ (a b : Addr) (ks : List (Key × V)), x = .ref a ∧ y = .ref b ∧ H a = some (.dK ks) ∧ H b = some (.dK []) ∧ Q (.bl (!ks.isEmpty)) H
theorem op_ne_d0 (hu : X.A.units < cLine) : OpR X (compareOp .NotEq) rNeD0 := by
  intro pins s σ H x y v u Q I rx ry h
  obtain ⟨a, b, ks, rfl, rfl, ea, eb, q⟩ := h
  obtain rfl : v = Value.ref a := rx
  obtain rfl : u = Value.ref b := ry
  obtain ⟨_, ya, va, ra, da⟩ := (show ObjOk X.prog X.w H s.heap a (.dK ks) from I.hok a _ ea)
  obtain ⟨_, yb, vb, rb, db⟩ := (show ObjOk X.prog X.w H s.heap b (.dK []) from I.hok b _ eb)
  have e0 : vb = [] := by cases rb; rfl
  subst e0
  refine PySem.W.keq_ne (knd := mixKind X.prog X.w) (r := true) ya yb da db hu (fun hl => ?_) (fin_bl I q ?_)
  · have : va = [] := List.eq_nil_of_length_eq_zero hl
    subst this
    exact .nil
  · rw [Bool.and_true, ← isEmpty_kv ra]
    cases va <;> rfl
/-- tuple(d) -/
def rTupD : List V → Hp → VK → Prop := fun xs H Q => ∃ (a : Addr) (kvs : List (Key × V)), xs = [V.ref a] ∧ H a = some (.dK kvs) ∧ ∀ p, H p = none → Q (.ref p) (upd H p (.tup (kvs.map fun (kv : Key × V) => kV kv.1)))
theorem call_tupleD (hc : X.calm = true) : CallR X (.type "tuple") rTupD := by
  intro pins s σ H xs us Q I r h
  obtain ⟨a, kvs, rfl, hd, q⟩ := h
  rw [Vals.ref1 r]
  obtain ⟨z, lo, vs, rel, dd⟩ := (show ObjOk X.prog X.w H s.heap a (.dK kvs) from I.hok a _ hd)
  obtain ⟨ep, hat⟩ := dd.dictAt
  have ek : (kvs.map fun (kv : Key × V) => kV kv.1) = vs.map fun p => kV p.1 := by
    have e := congrArg (List.map kV) rel.keys
    rw [List.map_map, List.map_map] at e
    exact e
  refine PySem.k57_call_tuple (PySem.W.kdl_dict (knd := mixKind X.prog X.w) (kvs := vs) (ep := ep) lo) dd.typeIs (I.ok.hd hc) hat (by rw [← rel.length]; exact z) fun h' tk acc hk hacc => ?_
  have hv : Vals (vs.map fun p => kV p.1) acc.toList := keys_at (by rw [Array.length_toList]; exact hacc.1) fun j v e => hacc.2 j v (by rw [← Array.getElem?_toList]; exact e)
  have I1 : Inv X pins σ H { s with heap := h', toks := tk } := I.kept (t' := tk) hk
  refine ⟨.ref h'.objs.size, upd H h'.objs.size (.tup (kvs.map fun (kv : Key × V) => kV kv.1)), I1.laid (t' := tk) (fun b o e => Heap.get?_push_of_some _ e) (Nat.le_refl _)
    (show ObjOk X.prog X.w _ _ _ (.tup (kvs.map fun (kv : Key × V) => kV kv.1)) from ⟨by rw [List.length_map]; exact z, acc.toList, by rw [ek]; exact hv, ?_⟩), rfl, q _ (I1.hok.fresh (Nat.le_refl _))⟩
  rw [Array.toArray_toList]
  exact IsTup.new _ _

/-! ### C.__init__(self, ..), C an own class over ValueError without its own -/
theorem pe_oinitC {x : Str} {C : Addr} {mc : Value} {e : Expr} {es : List Expr} {ta : TA} {p1 p2 pos : Pos} {pl : Sem Bool} (hg : Gl X x) (hm : X.mg x = some (.ref C)) (r : ClX.CRead X.K C mc)
    (vV : PySem.W.findCls X.K (.ref C) mc "__init__" = some (.val (.builtin "ValueError.__init__"))) (ha : PA X (e :: es) ta) (hdb : (x == ("__debug__" : Str)) = false := by decide)
    (hc : eval (.Call (.Attribute (.Name x p1) "__init__" p2) (e :: es) [] pos) X.env = (do
      let ov ← eval (.Name x p1) X.env
      standAt p2.atName
      let (f, first) ← holding [ov] (getMethod ov "__init__" pl)
      callWith pos f first (backTo pos (starEach (e :: es) X.env)) (backToKw pos (keywordEach [] X.env))) := by rfl)
    (he : starEach (e :: es) X.env = (false, eval e X.env) :: starEach es X.env := by rfl) (hpl : (backTo pos (starEach es X.env)).any (·.1) = false := by rfl) :
    PE X (.Call (.Attribute (.Name x p1) "__init__" p2) (e :: es) [] pos) (tVeI X.K ta) := by
  refine ⟨fun pins s σ H Q I h => ?_⟩
  refine PySem.W.methodCall_KW (ld_glob I hg hm ?_ hdb) hc
  refine PySem.W.method_cls I.kIn r.ga (PySem.W.cls_value I.kIn r.rd vV (by decide +kernel) ?_)
  show wpAny _ _ (callWith pos (Value.builtin "ValueError.__init__") [] (backTo pos (starEach (e :: es) X.env)) []) _ _ _
  refine PyProof.Rows.callWith_method1 (thn (ha.run pos pins _ σ H _ (I.tok _) h) fun us s1 ⟨vs, H1, I1, r1, a, C', ws, ev, hl, T, ea, q⟩ => ?_) he hpl
  subst ev
  cases r1 with
  | @cons _ u0 _ ur ra rw' =>
    obtain rfl : u0 = Value.ref a := ra
    have hlen : ur.length ≤ sizeLine := by
      rw [← Paired.length rw', sizeLine_eq]
      omega
    exact oinit_ok T I1 ea hlen fun s' J => ⟨.non, H1, J, rfl, q⟩
end
end L2
/-! Own rules, part h: set(a list of ints), with its table. -/
namespace PySem
namespace K57S
open PySem PySem.Spec PyProof.Rows L2
theorem k57_setR_congr {w : World} {h : Heap} {a : Addr} {S S' : Int → Bool} {n n' : Nat} (R : SetR w h a S n) (e : ∀ k, S k = S' k) (en : n = n') : SetR w h a S' n' := by
  have : S = S' := funext e
  subst this; subst en; exact R
section
variable {P prog : Program} {w : World} {A : Around} {E : Value → Shared → Prop} {s : Shared}
theorem k57_set_led (a : Value) {Q₁ : Value → Shared → Prop}
    (h : Q₁ (.ref s.heap.objs.size) { s with heap := s.heap.push { cls := .type "set", dict := none, data := .set #[] 0 (.fresh 0 0 (!w.params.followText "set-order")) } }) :
    codeAny (model P w) A (.call (.builtin "set.__new__") ⟨[.type "set", a], []⟩) (wants Q₁ E) s := by
  refine codeAny_of_tree ?_
  show wpAny _ A.in1 (do checkBuiltinCall "set.__new__" ⟨[.type "set", a], []⟩; again (.builtin "set.__new__" ⟨[.type "set", a], []⟩)) _ _ s
  refine wpAny_bind (wpAny_of_eq (F.newCall_set_1 a) (wpAny_pure ⟨plainId_quiet F.plain_set_new _, codeAny_builtin F.entry_set_new ?_⟩))
  rw [Around.under_plainId F.plain_set_new _]
  unfold Builtin.«set.__new__» Builtin.Frozenset.newClass
  have hsub := sub_set_self
  obtain ⟨hp, g, d, tk, os⟩ := s
  dsimp only
  wp_walk
  refine wpAny_askSetting (wpAny_pure ?_)
  dsimp only
  simp only [newObj]
  refine wpAny_bind (wpAny_alloc (wpAny_pure ?_))
  exact wpAny_pure h

end
section
variable {prog : Program} {w : World} {A : Around} {R : Result → Shared → Prop} {I : Addr} {fp wr : List Addr} {G : Array GenState → Array GenState → Prop} {n : Nat} {P : Nat → Value → Prop} {St : Nat → Shared → Prop}
theorem k57_set_loop (W : WalksS prog w A.in1 I fp wr G n P St) (S : Addr) (hSf : S ∉ fp)
    (val : Nat → Int) (hval : ∀ i v, P i v → ∃ t, v = .int (val i) t) (hb : n + 1 < scanBound) :
    ∀ (k i : Nat) (s : Shared), n - i = k → i ≤ n → St i s →
      SetR w s.heap S (fun k' => (firstMet val i).any (· == k')) (firstMet val i).length →
      (∀ s', Moved (S :: wr) G s s' → SetR w s'.heap S (fun k' => (firstMet val n).any (· == k')) (firstMet val n).length → R (.ok (.ret .none)) s') →
      codeAny (model prog w) A (.builtin "set.update.loop" ⟨[.ref S, .ref I], []⟩) R s := by
  have hSw : S ∉ wr := fun h => hSf (W.sub _ h)
  have hsub : ∀ b ∈ wr, b ∈ S :: wr := fun b hb => List.mem_cons_of_mem _ hb
  intro k
  induction k with
  | zero =>
    intro i s hk hi hst hS hR
    have hin : i = n := by omega
    subst hin
    refine codeAny_builtin F.entry_set_update_loop ?_
    rw [Around.under_plainId F.plain_set_update_loop _]
    show wpAny _ A.in1 (pyNext (.ref I) >>= _) _ _ s
    refine wpAny_bind (W.done s _ _ hst fun s' hm => ?_)
    show wpAny _ A.in1 (ret Value.none) _ _ s'
    exact wpAny_pure (hR s' (hm.mono hsub) (by
      obtain ⟨o, es, ep, t, ho, rest⟩ := hS
      exact ⟨o, es, ep, t, hm.heap S _ hSw ho, rest⟩))
  | succ k ih =>
    intro i s hk hi hst hS hR
    have hlt : i < n := by omega
    refine codeAny_builtin F.entry_set_update_loop ?_
    rw [Around.under_plainId F.plain_set_update_loop _]
    show wpAny _ A.in1 (pyNext (.ref I) >>= _) _ _ s
    refine wpAny_bind (W.item i s _ _ hlt hst fun v s' hP hst' hm => ?_)
    obtain ⟨t, rfl⟩ := hval i v hP
    have hS' : SetR w s'.heap S (fun k' => (firstMet val i).any (· == k')) (firstMet val i).length := by
      obtain ⟨o, es, ep, tb, ho, rest⟩ := hS
      exact ⟨o, es, ep, tb, hm.heap S _ hSw ho, rest⟩
    show wpAny _ A.in1 (holding [Value.int (val i) t] (setAdd S (.int (val i) t)) >>= _) _ _ s'
    refine wpAny_bind (wpAny_holding ?_)
    unfold setAdd
    refine wpAny_holding ?_
    refine wpAny_bind ((intKind prog w).pyHash (k := val i) (intKind_is _ _ _ _) ?_)
    have hroom : (firstMet val i).length + 1 < scanBound := by have := firstMet_length_le val i; omega
    refine setR_add_hashed (P := prog) (s := { s' with toks := s'.toks + 1 }) hS' hroom fun h' hsb hS2 => ?_

    have hSi : SetR w h' S (fun k' => (firstMet val (i + 1)).any (· == k')) (firstMet val (i + 1)).length :=
      k57_setR_congr hS2 (fun k' => by rw [firstMet_succ, step_any]) (by rw [firstMet_succ, step_length])
    refine wpAny_pure ⟨plainId_quiet F.plain_set_update_loop _, ih (i + 1) _ (by omega) hlt (W.frame _ s' _ _ hst' (Nat.le_succ _) fun b hb o e => ?_) hSi fun s'' hm'' hS'' => ?_⟩
    · rw [hsb.2 b (fun h : b = S => hSf (by rw [← h]; exact hb))]; exact e
    · refine hR s'' (Moved.trans W.gtrans ((hm.mono hsub).then_heap (Nat.le_succ _) fun b o hb e => ?_) hm'') hS''
      rw [hsb.2 b (fun h : b = S => hb (by rw [h]; exact List.mem_cons_self))]; exact e
end
section
variable {prog : Program} {w : World} {A : Around} {E : Value → Shared → Prop} {s : Shared}
theorem k57_set_list {l : Addr} {items : Array Value} {ns : List Int} {Q : Value → Shared → Prop}
    (hh : A.handled = none) (hl : s.heap.IsList l items) (hi : PyProof.Rows.IntsAre items.toList ns) (hb : items.size + 1 < scanBound)
    (h : ∀ (h' : Heap) (tk : Nat), SetR w h' s.heap.objs.size (fun k' => (PyProof.Rows.firstMet (fun i => ns.getD i 0) items.size).any (· == k')) (PyProof.Rows.firstMet (fun i => ns.getD i 0) items.size).length →
      (∀ b o, b < s.heap.objs.size → s.heap.get? b = some o → h'.get? b = some o) → Q (.ref s.heap.objs.size) { s with heap := h', toks := tk }) :
    wpAny (model prog w) A (call (.type "set") [.ref l]) Q E s := by
  obtain ⟨c, tl, hmro⟩ := F.called_set.mro
  have hmade := F.called_set.made
  have hsub := F.called_set.sub
  refine wpAny_call (codeAny_of_tree ?_)
  show wpAny _ _ (callAny (.type "set") _) _ _ _
  refine wpAny_pure ⟨Code.quiet_builtin _ (by decide +kernel), codeAny_builtin F.entry_type_call ?_⟩
  rw [Around.under_plain (weight_type_call_type "set" [.ref l] []) rfl]
  have h1 := F.called_set.notType
  have h2 := F.called_set.canCreate
  have hct := F.typeCall_set_1 (.ref l)
  repeat (any_goals (first | assumption | wp_step))

  refine codeAny_mono (k57_set_led (.ref l) (E := E) (Q₁ := fun obj s₁ => obj = .ref s.heap.objs.size ∧ s₁ = { s with heap := s.heap.push { cls := .type "set", dict := none, data := .set #[] 0 (.fresh 0 0 (!w.params.followText "set-order")) } }) ⟨rfl, rfl⟩) fun r s₁ hr => ?_
  cases r with
  | error e => exact hr
  | ok fl =>
    cases fl with
    | ret obj =>
      obtain ⟨rfl, rfl⟩ := hr
      have hS : (s.heap.push { cls := .type "set", dict := none, data := .set #[] 0 (.fresh 0 0 (!w.params.followText "set-order")) }).get? s.heap.objs.size = some { cls := .type "set", dict := none, data := .set #[] 0 (.fresh 0 0 (!w.params.followText "set-order")) } := Heap.get?_push_size _ rfl
      have hT : Shared.TypeIs { s with heap := s.heap.push { cls := .type "set", dict := none, data := .set #[] 0 (.fresh 0 0 (!w.params.followText "set-order")) } } (.ref s.heap.objs.size) "set" := ⟨_, hS, rfl⟩
      have hli := F.called_set.init.lookup
      have hbi := F.called_set.init.bind (.ref s.heap.objs.size)
      repeat (any_goals (first | assumption | wp_step))

      refine codeAny_mono (codeAny_call_builtin (R := wants (fun r s₂ => r = .none ∧ ∃ h' tk, s₂ = { s with heap := h', toks := tk } ∧
          SetR w h' s.heap.objs.size (fun k' => (PyProof.Rows.firstMet (fun i => ns.getD i 0) items.size).any (· == k')) (PyProof.Rows.firstMet (fun i => ns.getD i 0) items.size).length ∧
          (∀ b o, b < s.heap.objs.size → s.heap.get? b = some o → h'.get? b = some o)) E) F.called_set.init.plain F.entry_set_init (check_set_init_1 hT ?_)) fun r₂ s₂ hr₂ => ?_
      · obtain ⟨ol, hol, hcl, nl, hdl⟩ := hl
        obtain ⟨ocls, odict, odata, oslots⟩ := ol
        simp only at hcl hdl
        subst hcl; subst hdl
        have hol' : (s.heap.push { cls := .type "set", dict := none, data := .set #[] 0 (.fresh 0 0 (!w.params.followText "set-order")) }).get? l = some { cls := .type "list", dict := odict, data := .seq items nl, slots := oslots } := Heap.get?_push_of_some _ hol
        have hsls := F.sub_list_set
        have hslf := F.sub_list_frozenset
        have hne : (Value.type "list" == Value.type "dict") = false := by decide
        have hl1 : (s.heap.push { cls := .type "set", dict := none, data := .set #[] 0 (.fresh 0 0 (!w.params.followText "set-order")) }).IsList l items := ⟨_, hol', rfl, nl, rfl⟩
        unfold Builtin.«set.__init__» noKeywords Builtin.Frozenset.updateFrom
        generalize hPI : pyIter = PI
        wp_walk
        subst hPI

        refine wpAny_pyIter_list hl1 ?_
        refine wpAny_bind (wpAny_runValue ?_)
        have hlS : l < s.heap.objs.size := Heap.lt_size hol
        have hh3 : A.in1.in1.in1.handled = none := by simp [hh]
        have hneI : l ≠ (s.heap.push { cls := .type "set", dict := none, data := .set #[] 0 (.fresh 0 0 (!w.params.followText "set-order")) }).objs.size := by
          rw [Heap.size_push]; exact Nat.ne_of_lt (Nat.lt_succ_of_lt hlS)
        have hSf : s.heap.objs.size ∉ [(s.heap.push { cls := .type "set", dict := none, data := .set #[] 0 (.fresh 0 0 (!w.params.followText "set-order")) }).objs.size, l] := by
          rw [Heap.size_push]; simp only [List.mem_cons, List.mem_singleton, List.not_mem_nil, or_false, not_or]
          exact ⟨Nat.ne_of_lt (Nat.lt_succ_self _), Nat.ne_of_gt hlS⟩
        have hval : ∀ (i : Nat) (v : Value), items[i]? = some v → ∃ t, v = .int ((fun i => ns.getD i 0) i) t := fun i v hv =>
          PyProof.Rows.IntsAre.int_at hi i v (by rw [Array.getElem?_toList]; exact hv)
        refine k57_set_loop ((Walks.list hh3 _ l hneI items).toS) s.heap.objs.size
          hSf (fun i => ns.getD i 0) hval hb (items.size - 0) 0 _ (by omega) (Nat.zero_le _)
          ⟨⟨_, Heap.get?_push_size _ rfl, rfl, rfl⟩, (hl1.push _)⟩ ?hS0 ?hR
        case hS0 =>
          have hget : ((s.heap.push { cls := .type "set", dict := none, data := .set #[] 0 (.fresh 0 0 (!w.params.followText "set-order")) }).push { cls := .type "list_iterator", data := .fields #[.ref l, .int 0 0] }).get? s.heap.objs.size
              = some { cls := .type "set", dict := none, data := .set #[] 0 (.fresh 0 0 (!w.params.followText "set-order")) } := Heap.get?_push_of_some _ hS
          exact k57_setR_congr ((setR_fresh w).at fun o e => Heap.get?_push_of_some _ e) (fun _ => rfl) rfl
        case hR =>
          intro s' hm hS'
          obtain ⟨h', g', d', tk', os'⟩ := s'
          have eg : g' = s.gens := hm.gens
          have ed : d' = s.drawn := hm.drawn
          have eo : os' = s.os := hm.os
          subst eg; subst ed; subst eo
          show wpAny _ _ _ _ _ _
          refine wpAny_pure ?_
          show wpAny _ _ (ret Value.none) _ _ _
          refine wpAny_pure ⟨rfl, h', tk', rfl, hS', fun b o hb e => ?_⟩
          have hb1 : b ≠ s.heap.objs.size := Nat.ne_of_lt hb
          have hb2 : b ≠ (s.heap.push { cls := .type "set", dict := none, data := .set #[] 0 (.fresh 0 0 (!w.params.followText "set-order")) }).objs.size := by
            rw [Heap.size_push]; exact Nat.ne_of_lt (Nat.lt_succ_of_lt hb)
          exact hm.heap b o (by simp only [List.mem_cons, List.mem_singleton, List.not_mem_nil, or_false, not_or]; exact ⟨hb1, hb2⟩) (Heap.get?_push_of_some _ (Heap.get?_push_of_some _ e))

      · cases r₂ with
        | error e => exact hr₂
        | ok fl₂ =>
          cases fl₂ with
          | ret r =>
            obtain ⟨rfl, h', tk, rfl, hS', hk'⟩ := hr₂
            repeat (any_goals (first | assumption | wp_step))
            exact h _ _ hS' hk'
          | _ => exact hr₂.elim
    | _ => exact hr.elim
end
end K57S
end PySem
namespace L2
open PySem PySem.Spec PyProof.Rows
/-- set(xs), xs a list of ints -/
def rSetOfL (K : PySem.W.Frag) (w : World) : List V → Hp → VK → Prop := fun vs H Q => ∃ (a : Addr) (ns : List Int), vs = [V.ref a] ∧ SqL K H a (ns.map V.int) ∧ ns.length + 1 < scanBound ∧
  ∀ (S : Int → Bool) (n : Nat) (p : Addr), (∀ k, S k = ns.any (· == k)) → n ≤ ns.length → H p = none → Q (.ref p) (upd H p (SetO w p S n))
theorem call_setOfL {X : Cx} (hc : X.calm = true) : CallR X (.type "set") (rSetOfL X.K X.w) := by
  intro pins s σ H xs us Q I r h
  obtain ⟨a, ns, rfl, hq, hb, q⟩ := h
  rw [Vals.ref1 r]
  obtain ⟨its, rv, pl, hz⟩ := I.list hq
  have hi := rv.ints
  have hl : its.toArray.size = ns.length := by
    have e := rv.length
    rw [List.length_map] at e
    rw [List.size_toArray]
    exact e.symm
  refine PySem.K57S.k57_set_list (I.ok.hd hc) pl.isList (by simpa using hi) (by rw [hl]; exact hb) fun h' tk R k => ?_
  rw [hl] at R
  have J : Inv X pins σ (upd H s.heap.objs.size (SetO X.w s.heap.objs.size _ _)) { s with heap := h', toks := tk } := I.laid (t' := tk) (fun b o e => k b o (Heap.lt_size e) e) (Nat.le_refl _) (setO_new R)
  refine ⟨.ref s.heap.objs.size, _, J, rfl, q _ _ _ (fun k => ?_) (firstMet_length_le _ _) (I.hok.fresh (Nat.le_refl _))⟩
  rw [firstMet_any]
  congr 1
  apply List.ext_getElem?
  intro i
  rw [List.getElem?_map]
  by_cases hi : i < ns.length
  · rw [List.getElem?_range hi]
    simp [List.getD, hi]
  · rw [List.getElem?_eq_none (by simpa using hi), List.getElem?_eq_none (by simpa using hi)]
    rfl
end L2
/-! Own rules, part i: len(x) by an own __len__; d.get(k, e) of a written dict; a local name that holds a class, called. -/
namespace PySem
open PySem.W PySem.Calls PyProof.Rows PySem.Spec
theorem k57_len_own {prog : Program} {w : World} {A : Around} {E : Value → Shared → Prop} {s : Shared} {K : Frag} {x C f : Addr} {ox : Obj} {od : Option Obj} {Q : Value → Shared → Prop} (X : K.In s.heap) (I : InstAt s.heap x ox C od)
    (hs : findIn K (.ref C) "__len__" = some (some (.ref f))) (hf : isFn K (.ref f) = true)
    (h : wpAny (model prog w) A.in1 (call (.ref f) [.ref x]) (fun r s₁ => ∃ (n : Nat) (u : Tok), r = Value.int (n : Int) u ∧ (n : Int) < 2 ^ 63 ∧ Q (.int (n : Int) s₁.toks) { s₁ with toks := s₁.toks + 1 }) E s) : wpAny (model prog w) A (call (.builtin "len") [.ref x]) Q E s := by
  refine Calls.call_function_entry kind_len plain_len entry_len (args_len1 _) ?_
  unfold Builtin.«len»
  refine wpAny_bind (m := oneArg "len" _) (wpAny_pure ?_)
  refine wpAny_bind (m := callSpecial? (.ref x) (Str.ofString "__len__")) (special_fn X I hs (beq_iff_eq.mp hf) (wpAny_mono h (fun r s' hr => ?_) fun _ _ y => y))
  obtain ⟨n, u, rfl, hn, hq⟩ := hr
  refine wpAny_bind (wpAny_holding (wpAny_pure ?_))
  refine wpAny_bind (wpAny_letGo ?_)
  show wpAny _ _ (if (n : Int) < 0 then _ else _) _ _ _
  rw [if_neg (by omega)]
  show wpAny _ _ (if (n : Int) ≥ 2 ^ 63 then _ else _) _ _ _
  rw [if_neg (by omega)]
  exact wpAny_bind (wpAny_mkInt (wpAny_pure ⟨_, rfl, hq⟩))
end PySem
namespace L2
open PySem PySem.Spec PyProof.Rows
section
variable {X : Cx}
/-- len(x), x an instance with slots whose class has a def for it -/
def rLenSl (C : Addr) (sp : Sp) : List V → Hp → VK → Prop := fun xs H Q => ∃ a dx vs, xs = [V.ref a] ∧ SlX.Slt H a C dx vs ∧ sp [.ref a] H (fun z H' => ∃ n : Nat, z = .int (n : Int) ∧ (n : Int) < 2 ^ 63 ∧ Q (.int (n : Int)) H') (fun _ _ _ => False)
theorem call_lenSl {C g : Addr} {n : Nat} {sp : Sp} (hs : PySem.W.findIn X.K (.ref C) "__len__" = some (some (.ref g))) (hf : PySem.W.isFn X.K (.ref g) = true) (F : FnR X.prog X.w X.K X.mg X.base CXN n g sp) (hr : Room (n + 1) X.A) : CallR X (.builtin "len") (rLenSl C sp) := by
  intro pins s σ H xs us Q I r h
  obtain ⟨a, dx, vs, rfl, hsl, q⟩ := h
  obtain ⟨u, rfl, ru⟩ := r.one
  cases (show u = Value.ref a from ru)
  obtain ⟨sl, od, _, J, _⟩ := SlX.slt_inst I hsl
  have call1 : wpAny (model X.prog X.w) X.A.in1 (call (.ref g) [.ref a]) (fun v s' => EP X pins σ (fun z H' => ∃ n : Nat, z = .int (n : Int) ∧ (n : Int) < 2 ^ 63 ∧ Q (.int (n : Int)) H') v s') X.xe s := by
    refine wpAny_call (codeAny_mono (F X.A.in1 X.stack s H [.ref a] [.ref a] _ (fun _ _ _ => False) hr.in1 I.env0.in1 (.cons rfl .nil) q) fun r s' hq => ?_)
    cases r with
    | error e => exact False.elim hq
    | ok fl =>
      cases fl with
      | ret u => exact I.after hq
      | next => exact False.elim hq
      | brk => exact False.elim hq
      | cont => exact False.elim hq
  refine PySem.k57_len_own I.kIn J hs hf (wpAny_mono call1 (fun w s' z => ?_) fun _ _ x => x)
  obtain ⟨z', H', I', rz, n, ei, hn, qz⟩ := z
  subst ei
  obtain ⟨t, e⟩ := (show ∃ t, w = Value.int (n : Int) t from rz)
  cases e
  exact ⟨n, t, rfl, hn, .int (n : Int), H', I'.tok _, ⟨_, rfl⟩, qz⟩

/-- d.get(k, e), d a written dict with text keys -/
def tKGet (K : PySem.W.Frag) (d : Addr) (ty tx : TE) : TE := fun σ H Q => ty σ H fun y H2 => tx σ H2 fun z H3 => ∃ (k : Str), y = .str k ∧
  ((∃ u v, PySem.W.nsIn K d k = some (some u) ∧ RelV v u ∧ Q v H3) ∨ (PySem.W.nsIn K d k = some none ∧ Q z H3))
theorem pe_kget {d : Addr} {es : Array DictEntry} {n : Nat} {o e f : Expr} {ty tx : TE} {apos cpos : Pos} (D : KDict X.K X.w d es n) (ho : PE X o (tC (.ref d))) (he : PE X e ty) (hf : PE X f tx) (m : M2 X o "get" apos e f cpos) :
    PE X (.Call (.Attribute o "get" apos) [e, f] [] cpos) (tKGet X.K d ty tx) := by
  refine ⟨fun pins s σ H Q I h => ?_⟩
  refine wpAny_Call_method m.base m.few m.line PySem.F.plainAttrs_dict PySem.F.slot_dict_get PySem.F.type_dict_get (thn (ho.run pins s σ H (fun x H1 => x = .ref d ∧ H1 = H) I ⟨rfl, rfl⟩) fun u s1 ⟨x, H1, I1, rx, ex, eH⟩ => ?_)
  subst ex eH
  obtain rfl : u = Value.ref d := rx
  have mo := fun (s : Shared) (hk : X.K.In s.heap) => PySem.W.mapOf_K (prog := X.prog) (w := X.w) hk D.at_ D.lit
  refine ⟨(mo s1 I1.kIn).typeIs, fun b q => ?_, ?_⟩
  · cases q
    exact ⟨_, I1.kIn _ _ D.at_, rfl⟩
  rw [m.trees]
  refine Calls.callWith_builtin rfl (Calls.evalArgs_plain (Calls.spliced_cons (thn (he.run pins s1 σ _ _ I1 h) fun iv s2 ⟨y, H2, I2, ry, q2⟩ =>
    Calls.spliced_cons (thn (hf.run pins s2 σ H2 _ I2 q2) fun fv s3 ⟨z, H3, I3, rz, k, ey, q3⟩ => Calls.spliced_nil ?_))))
  subst ey
  obtain ⟨t, rfl⟩ := ry
  have M3 := mo s3 I3.kIn
  refine call_meetsIn PySem.F.slot_dict_get M3.typeIs PySem.F.entry_dict_get (PySem.F.args_dict_get_3 _ _ _) (meets_dict_get_default (PySem.strKind X.prog X.w) d (k := k) (PySem.strKind_is X.prog X.w k t) D.low fv) ⟨_, M3, ?_⟩
  rcases q3 with ⟨u, v, e1, r1, q⟩ | ⟨e1, q⟩
  · rw [PySem.W.find_K D.at_ e1]
    exact ⟨v, H3, I3.tok _, r1, q⟩
  · rw [PySem.W.find_K D.at_ e1]
    exact ⟨z, H3, I3.tok _, rz, q⟩

/-- x(e, ..), x a local name that holds the class at C -/
def tMakeL (i : Nat) (C : Addr) (sp : Sp) (E : XK) (t : TA) : TE := fun σ H Q => σ[i]? = some (some (.ref C)) ∧ t σ H fun vs H1 => ∀ x dx, H1 x = none → H1 dx = none → dx ≠ x →
  sp (.ref x :: vs) (upd (upd H1 dx (.own x)) x (.ins C dx [])) (fun v H2 => v = .non ∧ Q (.ref x) H2) E
theorem pe_makeL {CX : CXT} {k i : Nat} {f C : Addr} {fd : FuncData} {ps : List Str} {sp : Sp} {E : XK} {x : Str} {p pos : Pos} {e : Expr} {es : List Expr} {t : TA} (M : Mk X.K C f) (F : FnOk X.prog X.w X.K X.mg X.base CX k f fd ps sp) (hr : Room (k + 1) X.A) (hN : X.N[i]? = some x) (hv : Vis X.env.scope x)
    (hb : Binds X.K fd ps []) (hx : Passes CX X E) (ha : PA X (e :: es) t) (hdb : (x == ("__debug__" : Str)) = false := by decide) (hcd : (x == ("__classdict__" : Str)) = false := by decide)
    (he : starEach (e :: es) X.env = (false, eval e X.env) :: starEach es X.env := by rfl) (hpl : (backTo pos (starEach es X.env)).any (·.1) = false := by rfl) : PE X (.Call (.Name x p) (e :: es) [] pos) (tMakeL i C sp E t) := by
  refine ⟨fun pins s σ H Q I h => ?_⟩
  obtain ⟨hs, ht⟩ := h
  refine wpAny_Call_Name_kw (thn ((pe_var (pos := p) hN hv hdb hcd).run pins s σ H (fun v H1 => v = .ref C ∧ H1 = H) I ⟨.ref C, hs, rfl, rfl⟩) fun u s1 ⟨v, H1, I1, r1, q1⟩ => ?_)
  obtain ⟨rfl, rfl⟩ := q1
  cases r1
  refine PySem.W.callWith_K (h₀ := X.base) I.ok.mod.kin M.kp (thn (ha.run pos pins s1 σ _ _ I1 ht) fun us s2 ⟨vs, H2, I2, r, q⟩ => ⟨I2.kIn, ?_⟩) he hpl
  refine run_make (dvs := []) (ds := []) M F hr hb .nil hx I2 r fun x dx h1 h2 h3 => ?_
  rw [List.append_nil]
  exact q x dx h1 h2 h3
end
end L2
/-! The mirror in plain Lean: plates, depths, steps, what a recipe makes of them. -/
namespace M57
/-- a plate -/
structure Pl where
  w : Int
  h : Int
  most : Int
  fall : Option Int
def Pl.n (p : Pl) : Nat := (p.w * p.h).toNat
structure Pl.Ok (p : Pl) : Prop where
  w1 : 1 ≤ p.w
  w4 : p.w ≤ 4
  h1 : 1 ≤ p.h
  h4 : p.h ≤ 4
  c9 : p.w * p.h ≤ 9
  m1 : 1 ≤ p.most
  m9 : p.most ≤ 9
  f1 : ∀ f, p.fall = some f → 1 ≤ f ∧ f ≤ 9
theorem Pl.Ok.n9 {p : Pl} (k : p.Ok) : p.n ≤ 9 := by have := k.c9; unfold Pl.n; omega
theorem Pl.Ok.n1 {p : Pl} (k : p.Ok) : 1 ≤ p.n := by
  have h1 := k.w1
  have h2 := k.h1
  have : 1 ≤ p.w * p.h := by
    have := Int.mul_le_mul h1 h2 (by omega) (by omega)
    omega
  unfold Pl.n
  omega
theorem Pl.Ok.nI {p : Pl} (k : p.Ok) : (p.n : Int) = p.w * p.h := by
  have h1 := k.w1
  have h2 := k.h1
  have : 1 ≤ p.w * p.h := by
    have := Int.mul_le_mul h1 h2 (by omega) (by omega)
    omega
  unfold Pl.n
  omega
inductive Stp where
  | bath (t : Int) | burnish (c : Int) | cover (cs : List Int) | scrape (c : Int) | wash
  deriving DecidableEq
/-- the neighbours, in pairs -/
def colOf (p : Pl) (c : Int) : Int := c - c / p.w * p.w
def leftOf (p : Pl) (c : Int) : Option Int := if 0 < colOf p c then some (c - 1) else none
def rightOf (p : Pl) (c : Int) : Option Int := if colOf p c < p.w - 1 then some (c + 1) else none
def aboveOf (p : Pl) (c : Int) : Option Int := if p.w ≤ c then some (c - p.w) else none
def belowOf (p : Pl) (c : Int) : Option Int := if c + p.w < (p.n : Int) then some (c + p.w) else none
def at0 (ds : List Int) (c : Int) : Int := ds.getD c.toNat 0
/-- the lower of the two -/
def mn (i j : Int) : Int := if j < i then j else i
def pairD (p : Pl) (ds : List Int) (c f : Int) : Option Int → Option Int → List Int
  | some a, some b => if at0 ds c + f ≤ mn (at0 ds a) (at0 ds b) then [mn (at0 ds a) (at0 ds b)] else []
  | _, _ => []
def maxN : List Int → Option Int
  | [] => none
  | n :: r => some (r.foldl max n)
def fallen (p : Pl) (ds : List Int) (f c : Int) : Option Int := maxN (pairD p ds c f (leftOf p c) (rightOf p c) ++ pairD p ds c f (aboveOf p c) (belowOf p c))
def rowsTo (p : Pl) (ds : List Int) (f : Int) (k : Nat) : List (Int × Option Int) := (List.range k).map fun (i : Nat) => ((i : Int), fallen p ds f (i : Int))
def pick (l : List (Int × Option Int)) : List (Int × Int) := l.filterMap fun q => q.2.map fun d => (q.1, d)
def falls (p : Pl) (ds : List Int) : List (Int × Int) := match p.fall with
  | none => []
  | some f => pick (rowsTo p ds f p.n)
def lk (f : List (Int × Int)) (c : Int) : Option Int := (f.find? fun q => q.1 == c).map (·.2)
def settle1 (f : List (Int × Int)) (ds : List Int) : List Int := ds.mapIdx fun i d => (lk f i).getD d
def cov1 (f : List (Int × Int)) (cs : List Int) : List Int := cs.filter fun c => (lk f c).isNone
def settleF (p : Pl) : Nat → List Int → List Int → List Int × List Int
  | 0, ds, cs => (ds, cs)
  | k + 1, ds, cs => if (falls p ds).isEmpty then (ds, cs) else settleF p k (settle1 (falls p ds) ds) (cov1 (falls p ds) cs)
def settle (p : Pl) (ds cs : List Int) : List Int × List Int := settleF p 90 ds cs
def bathe (ds cs : List Int) (t : Int) : List Int := ds.mapIdx fun i d => if (i : Int) ∈ cs then d else d + t
/-- sorted, without doubles -/
def insU (x : Int) : List Int → List Int
  | [] => [x]
  | y :: r => if x < y then x :: y :: r else if x = y then y :: r else y :: insU x r
def sortU : List Int → List Int
  | [] => []
  | x :: r => insU x (sortU r)
def varnish (cs : List Int) : Stp → List Int
  | .cover es => sortU (cs ++ es)
  | .scrape c => cs.filter fun x => x != c
  | .wash => []
  | _ => cs
def burn (ds : List Int) (c : Int) : List Int := ds.mapIdx fun i d => if (i : Int) = c then max 0 (d - 1) else d
def mxD (ds : List Int) : Int := (maxN ds).getD 0
def afterStep (p : Pl) (ds cs : List Int) : Stp → Option (List Int × List Int)
  | .bath t => if mxD (bathe ds cs t) ≤ p.most then some (settle p (bathe ds cs t) cs) else none
  | .burnish c => some (burn ds c, varnish cs (.burnish c))
  | s => some (ds, varnish cs s)
/-- the run; the step at which it is spoilt -/
def runFrom (p : Pl) : List Stp → Nat → List Int → List Int → Except Nat (List Int × List Int)
  | [], _, ds, cs => .ok (ds, cs)
  | s :: r, i, ds, cs => match afterStep p ds cs s with
    | none => .error i
    | some q => runFrom p r (i + 1) q.1 q.2
def courseFrom (p : Pl) : List Stp → List Int → List Int → List (List Int)
  | [], _, _ => []
  | s :: r, ds, cs => match afterStep p ds cs s with
    | none => []
    | some q => q.1 :: courseFrom p r q.1 q.2
/-- valid -/
def OkD (p : Pl) (ds : List Int) : Prop := ds.length = p.n ∧ ∀ d ∈ ds, 0 ≤ d ∧ d ≤ p.most
def OkC (p : Pl) (cs : List Int) : Prop := cs.Pairwise (· < ·) ∧ ∀ c ∈ cs, 0 ≤ c ∧ c < (p.n : Int)
def OkS (p : Pl) : Stp → Prop
  | .bath t => 1 ≤ t ∧ t ≤ 9
  | .burnish c => 0 ≤ c ∧ c < (p.n : Int)
  | .scrape c => 0 ≤ c ∧ c < (p.n : Int)
  | .cover cs => cs ≠ [] ∧ OkC p cs
  | .wash => True

/-! ### sorting -/
theorem mem_insU (x y : Int) : ∀ l : List Int, y ∈ insU x l ↔ y = x ∨ y ∈ l
  | [] => by simp [insU]
  | z :: r => by
    unfold insU
    split
    · simp
    · split
      · rename_i h
        subst h
        simp
      · rw [List.mem_cons, mem_insU x y r, List.mem_cons]
        constructor
        · rintro (h | h | h)
          · exact .inr (.inl h)
          · exact .inl h
          · exact .inr (.inr h)
        · rintro (h | h | h)
          · exact .inr (.inl h)
          · exact .inl h
          · exact .inr (.inr h)
theorem pw_insU (x : Int) : ∀ l : List Int, l.Pairwise (· < ·) → (insU x l).Pairwise (· < ·)
  | [], _ => by simp [insU]
  | z :: r, h => by
    obtain ⟨h1, h2⟩ := List.pairwise_cons.mp h
    unfold insU
    split
    · rename_i hx
      refine List.pairwise_cons.mpr ⟨fun y hy => ?_, h⟩
      rcases List.mem_cons.mp hy with e | hy
      · omega
      · have := h1 y hy
        omega
    · split
      · exact h
      · rename_i h3 h4
        refine List.pairwise_cons.mpr ⟨fun y hy => ?_, pw_insU x r h2⟩
        rcases (mem_insU x y r).mp hy with e | hy
        · omega
        · exact h1 y hy
theorem mem_sortU (y : Int) : ∀ l : List Int, y ∈ sortU l ↔ y ∈ l
  | [] => by simp [sortU]
  | x :: r => by
    show y ∈ insU x (sortU r) ↔ _
    rw [mem_insU, mem_sortU y r, List.mem_cons]
theorem pw_sortU : ∀ l : List Int, (sortU l).Pairwise (· < ·)
  | [] => .nil
  | x :: r => pw_insU x _ (pw_sortU r)
/-- strictly rising lists of the same members are the same -/
theorem eq_of_mem : ∀ {a b : List Int}, a.Pairwise (· < ·) → b.Pairwise (· < ·) → (∀ k, k ∈ a ↔ k ∈ b) → a = b
  | [], [], _, _, _ => rfl
  | [], y :: _, _, _, h => absurd ((h y).mpr List.mem_cons_self) (by simp)
  | x :: _, [], _, _, h => absurd ((h x).mp List.mem_cons_self) (by simp)
  | x :: a, y :: b, ha, hb, h => by
    obtain ⟨a1, a2⟩ := List.pairwise_cons.mp ha
    obtain ⟨b1, b2⟩ := List.pairwise_cons.mp hb
    have e : x = y := by
      rcases List.mem_cons.mp ((h x).mp List.mem_cons_self) with e | hx
      · exact e
      · rcases List.mem_cons.mp ((h y).mpr List.mem_cons_self) with e | hy
        · exact e.symm
        · have q1 := b1 x hx
          have q2 := a1 y hy
          omega
    subst e
    congr 1
    refine eq_of_mem a2 b2 fun k => ⟨fun hk => ?_, fun hk => ?_⟩
    · rcases List.mem_cons.mp ((h k).mp (List.mem_cons_of_mem _ hk)) with e | q
      · have := a1 k hk
        omega
      · exact q
    · rcases List.mem_cons.mp ((h k).mpr (List.mem_cons_of_mem _ hk)) with e | q
      · have := b1 k hk
        omega
      · exact q
theorem len_rising : ∀ {l : List Int} {lo hi : Int}, l.Pairwise (· < ·) → (∀ c ∈ l, lo ≤ c ∧ c < hi) → (l.length : Int) ≤ max 0 (hi - lo)
  | [], _, _, _, _ => by simp; omega
  | x :: r, lo, hi, h, hm => by
    obtain ⟨h1, h2⟩ := List.pairwise_cons.mp h
    have hx := hm x List.mem_cons_self
    have := len_rising (lo := x + 1) (hi := hi) h2 fun c hc => ⟨by have := h1 c hc; omega, (hm c (List.mem_cons_of_mem _ hc)).2⟩
    rw [List.length_cons]
    omega
theorem OkC.len {p : Pl} {cs : List Int} (h : OkC p cs) (k : p.Ok) : cs.length ≤ 9 := by
  have := len_rising h.1 (lo := 0) (hi := p.n) h.2
  have := k.n9
  omega
theorem OkC.nil {p : Pl} : OkC p [] := ⟨.nil, fun _ h => by simp at h⟩
theorem OkC.filter {p : Pl} {cs : List Int} (h : OkC p cs) (f : Int → Bool) : OkC p (cs.filter f) := ⟨h.1.filter f, fun c hc => h.2 c (List.mem_filter.mp hc).1⟩
theorem OkC.varnish {p : Pl} {cs : List Int} (h : OkC p cs) {s : Stp} (hs : OkS p s) : OkC p (varnish cs s) := by
  cases s with
  | cover es =>
    refine ⟨pw_sortU _, fun c hc => ?_⟩
    rcases List.mem_append.mp ((mem_sortU c _).mp hc) with q | q
    · exact h.2 c q
    · exact hs.2.2 c q
  | scrape c => exact h.filter _
  | wash => exact OkC.nil
  | bath t => exact h
  | burnish c => exact h

/-! ### depths -/
theorem foldl_max_ge : ∀ (l : List Int) (n : Int), n ≤ l.foldl max n ∧ ∀ d ∈ l, d ≤ l.foldl max n
  | [], n => ⟨Int.le_refl _, fun _ h => by simp at h⟩
  | x :: r, n => by
    obtain ⟨h1, h2⟩ := foldl_max_ge r (max n x)
    rw [List.foldl_cons]
    refine ⟨by omega, fun d hd => ?_⟩
    rcases List.mem_cons.mp hd with e | hd
    · omega
    · exact h2 d hd
theorem foldl_max_mem : ∀ (l : List Int) (n : Int), l.foldl max n = n ∨ l.foldl max n ∈ l
  | [], _ => .inl rfl
  | x :: r, n => by
    rw [List.foldl_cons]
    rcases foldl_max_mem r (max n x) with e | e
    · rw [e]
      rcases Int.le_total n x with h | h
      · exact .inr (by rw [Int.max_eq_right h]; exact List.mem_cons_self)
      · exact .inl (Int.max_eq_left h)
    · exact .inr (List.mem_cons_of_mem _ e)
theorem maxN_mem {l : List Int} {m : Int} (h : maxN l = some m) : m ∈ l := by
  cases l with
  | nil => cases h
  | cons n r =>
    have e : r.foldl max n = m := Option.some.inj h
    rcases foldl_max_mem r n with q | q
    · rw [← e, q]; exact List.mem_cons_self
    · rw [← e]; exact List.mem_cons_of_mem _ q
theorem mxD_ge {ds : List Int} {d : Int} (h : d ∈ ds) : d ≤ mxD ds := by
  cases ds with
  | nil => simp at h
  | cons n r =>
    obtain ⟨h1, h2⟩ := foldl_max_ge r n
    show d ≤ r.foldl max n
    rcases List.mem_cons.mp h with e | h
    · omega
    · exact h2 d h
theorem at0_mem {ds : List Int} {c : Int} (h0 : 0 ≤ c) (h : c < ds.length) : at0 ds c ∈ ds := by
  unfold at0
  have hl : c.toNat < ds.length := by omega
  rw [List.getD_eq_getElem?_getD, List.getElem?_eq_getElem hl]
  exact List.getElem_mem hl
/-- a neighbour is a cell -/
theorem col_bounds {p : Pl} (k : p.Ok) {c : Int} (h0 : 0 ≤ c) : 0 ≤ colOf p c ∧ colOf p c < p.w ∧ colOf p c ≤ c := by
  have hw := k.w1
  have e : c - c / p.w * p.w = c % p.w := by
    have := Int.emod_add_mul_ediv c p.w
    have h2 : c / p.w * p.w = p.w * (c / p.w) := Int.mul_comm _ _
    omega
  unfold colOf
  rw [e]
  have h1 := Int.emod_nonneg c (show p.w ≠ 0 by omega)
  have h2 := Int.emod_lt_of_pos c (show 0 < p.w by omega)
  have h3 : 0 ≤ c / p.w := Int.ediv_nonneg h0 (by omega)
  have h4 : 0 ≤ c / p.w * p.w := Int.mul_nonneg h3 (by omega)
  exact ⟨h1, h2, by omega⟩
theorem left_ok {p : Pl} (k : p.Ok) {c a : Int} (h0 : 0 ≤ c) (hn : c < (p.n : Int)) (e : leftOf p c = some a) : 0 ≤ a ∧ a < (p.n : Int) := by
  unfold leftOf at e
  split at e
  · cases e
    obtain ⟨_, _, h⟩ := col_bounds k h0
    omega
  · cases e
theorem right_ok {p : Pl} (k : p.Ok) {c a : Int} (h0 : 0 ≤ c) (hn : c < (p.n : Int)) (e : rightOf p c = some a) : 0 ≤ a ∧ a < (p.n : Int) := by
  unfold rightOf at e
  split at e
  · rename_i hc
    cases e
    refine ⟨by omega, ?_⟩
    -- c = row * w + col, col ≤ w - 2, row < h
    have hw := k.w1
    have hh := k.h1
    have nI := k.nI
    have e1 : c = c / p.w * p.w + colOf p c := by unfold colOf; omega
    have hr : c / p.w < p.h := by
      refine Int.ediv_lt_of_lt_mul (by omega) ?_
      rw [Int.mul_comm, ← nI]
      exact hn
    have h5 : c / p.w + 1 ≤ p.h := by omega
    have h6 : (c / p.w + 1) * p.w ≤ p.h * p.w := Int.mul_le_mul_of_nonneg_right h5 (by omega)
    have h7 : (c / p.w + 1) * p.w = c / p.w * p.w + p.w := by rw [Int.add_mul, Int.one_mul]
    have h8 : p.h * p.w = p.w * p.h := Int.mul_comm _ _
    omega
  · cases e
theorem above_ok {p : Pl} (k : p.Ok) {c a : Int} (h0 : 0 ≤ c) (hn : c < (p.n : Int)) (e : aboveOf p c = some a) : 0 ≤ a ∧ a < (p.n : Int) := by
  unfold aboveOf at e
  have := k.w1
  split at e
  · cases e; omega
  · cases e
theorem below_ok {p : Pl} (k : p.Ok) {c a : Int} (h0 : 0 ≤ c) (hn : c < (p.n : Int)) (e : belowOf p c = some a) : 0 ≤ a ∧ a < (p.n : Int) := by
  unfold belowOf at e
  have := k.w1
  split at e
  · cases e; omega
  · cases e
theorem pairD_mem {p : Pl} {ds : List Int} {c f : Int} {x y : Option Int} {d : Int} (hl : ds.length = p.n) (hx : ∀ a, x = some a → 0 ≤ a ∧ a < (p.n : Int)) (hy : ∀ a, y = some a → 0 ≤ a ∧ a < (p.n : Int)) (h : d ∈ pairD p ds c f x y) : d ∈ ds ∧ at0 ds c + f ≤ d := by
  cases x with
  | none => simp [pairD] at h
  | some a =>
    cases y with
    | none => simp [pairD] at h
    | some b =>
      have h : d ∈ (if at0 ds c + f ≤ mn (at0 ds a) (at0 ds b) then [mn (at0 ds a) (at0 ds b)] else []) := h
      split at h
      · rename_i hf
        have e : d = mn (at0 ds a) (at0 ds b) := by simpa using h
        obtain ⟨a0, a1⟩ := hx a rfl
        obtain ⟨b0, b1⟩ := hy b rfl
        refine ⟨?_, by rw [e]; exact hf⟩
        rw [e]
        unfold mn
        split
        · exact at0_mem b0 (by rw [hl]; exact b1)
        · exact at0_mem a0 (by rw [hl]; exact a1)
      · simp at h
theorem fallen_mem {p : Pl} (k : p.Ok) {ds : List Int} (hl : ds.length = p.n) {f c d : Int} (h0 : 0 ≤ c) (hn : c < (p.n : Int)) (h : fallen p ds f c = some d) : d ∈ ds ∧ at0 ds c + f ≤ d := by
  have q := maxN_mem h
  rcases List.mem_append.mp q with q | q
  · exact pairD_mem hl (fun a e => left_ok k h0 hn e) (fun a e => right_ok k h0 hn e) q
  · exact pairD_mem hl (fun a e => above_ok k h0 hn e) (fun a e => below_ok k h0 hn e) q
theorem falls_mem {p : Pl} (k : p.Ok) {ds : List Int} (hl : ds.length = p.n) {c d : Int} (h : (c, d) ∈ falls p ds) : 0 ≤ c ∧ c < (p.n : Int) ∧ d ∈ ds ∧ at0 ds c + 1 ≤ d := by
  unfold falls at h
  split at h
  · simp at h
  · rename_i f ef
    obtain ⟨q, hq, e⟩ := List.mem_filterMap.mp h
    obtain ⟨i, hi, rfl⟩ := List.mem_map.mp hq
    have hin := List.mem_range.mp hi
    cases hf : fallen p ds f i with
    | none => simp [hf] at e
    | some x =>
      simp only [hf, Option.map_some, Option.some.injEq, Prod.mk.injEq] at e
      obtain ⟨e1, e2⟩ := e
      subst e1 e2
      obtain ⟨m, g⟩ := fallen_mem k hl (by omega) (by omega) hf
      have := (k.f1 f ef).1
      exact ⟨by omega, by omega, m, by omega⟩
theorem lk_mem {f : List (Int × Int)} {c d : Int} (h : lk f c = some d) : (c, d) ∈ f := by
  unfold lk at h
  cases e : f.find? fun q => q.1 == c with
  | none => rw [e] at h; cases h
  | some q =>
    rw [e] at h
    have h2 : q.2 = d := Option.some.inj h
    have h3 := List.find?_some e
    have h4 : q.1 = c := by simpa using h3
    have := List.mem_of_find?_eq_some e
    obtain ⟨x, y⟩ := q
    simp only at h2 h4
    subst h2 h4
    exact this
theorem settle1_len (f : List (Int × Int)) (ds : List Int) : (settle1 f ds).length = ds.length := by simp [settle1]
theorem OkD.settle1 {p : Pl} (k : p.Ok) {ds : List Int} (h : OkD p ds) : OkD p (settle1 (falls p ds) ds) := by
  refine ⟨by rw [settle1_len]; exact h.1, fun d hd => ?_⟩
  unfold M57.settle1 at hd
  obtain ⟨i, hi, e⟩ := List.mem_mapIdx.mp hd
  cases hk : lk (falls p ds) i with
  | none =>
    rw [hk] at e
    have e' : ds[i] = d := e
    rw [← e']
    exact h.2 _ (List.getElem_mem hi)
  | some x =>
    rw [hk] at e
    have e' : x = d := e
    rw [← e']
    exact h.2 _ (falls_mem k h.1 (lk_mem hk)).2.2.1
/-- what is left to rise -/
def gap (m : Int) (ds : List Int) : Nat := (ds.map fun d => (m - d).toNat).sum
theorem gap_le {m : Int} (hm : 0 ≤ m) : ∀ {ds : List Int}, (∀ d ∈ ds, 0 ≤ d ∧ d ≤ m) → gap m ds ≤ ds.length * m.toNat
  | [], _ => by simp [gap]
  | x :: r, h => by
    have ih := gap_le hm (ds := r) fun d hd => h d (List.mem_cons_of_mem _ hd)
    have hx := h x List.mem_cons_self
    unfold gap at ih ⊢
    rw [List.map_cons, List.sum_cons, List.length_cons, Nat.add_mul, Nat.one_mul]
    omega
theorem sum_le : ∀ {a b : List Nat}, a.length = b.length → (∀ i (h : i < a.length) (h' : i < b.length), a[i] ≤ b[i]) → a.sum ≤ b.sum
  | [], [], _, _ => Nat.le_refl _
  | [], _ :: _, h, _ => by simp at h
  | _ :: _, [], h, _ => by simp at h
  | x :: a, y :: b, hl, h => by
    have q1 : x ≤ y := h 0 (by simp) (by simp)
    have q2 := sum_le (a := a) (b := b) (by simpa using hl) fun i h1 h2 => h (i + 1) (by simp; exact h1) (by simp; exact h2)
    rw [List.sum_cons, List.sum_cons]
    omega
theorem sum_lt : ∀ {a b : List Nat}, a.length = b.length → (∀ i (h : i < a.length) (h' : i < b.length), a[i] ≤ b[i]) → (∃ i, ∃ (h : i < a.length) (h' : i < b.length), a[i] < b[i]) → a.sum < b.sum
  | [], [], _, _, ⟨_, h, _⟩ => absurd h (by simp)
  | x :: a, y :: b, hl, hle, ⟨i, h1, h2, h3⟩ => by
    have hl' : a.length = b.length := by simpa using hl
    have h0 : x ≤ y := hle 0 (by simp) (by simp)
    have hr : ∀ i (h : i < a.length) (h' : i < b.length), a[i] ≤ b[i] := fun i h h' => hle (i + 1) (by simp; exact h) (by simp; exact h')
    rw [List.sum_cons, List.sum_cons]
    cases i with
    | zero =>
      have h3' : x < y := h3
      have : a.sum ≤ b.sum := sum_le hl' hr
      omega
    | succ i =>
      have q := sum_lt hl' hr ⟨i, by simpa using h1, by simpa using h2, by simpa using h3⟩
      omega
theorem lk_some {f : List (Int × Int)} {c d : Int} (h : (c, d) ∈ f) : ∃ x, lk f c = some x := by
  unfold lk
  cases e : f.find? fun q => q.1 == c with
  | some q => exact ⟨q.2, rfl⟩
  | none =>
    have := List.find?_eq_none.mp e _ h
    simp at this
theorem gap_settle1 {p : Pl} (k : p.Ok) {ds : List Int} (h : OkD p ds) (hf : falls p ds ≠ []) : gap p.most (settle1 (falls p ds) ds) < gap p.most ds := by
  have hl := settle1_len (falls p ds) ds
  refine sum_lt (by simp [hl]) (fun i h1 h2 => ?_) ?_
  · have hi : i < ds.length := by simpa using h2
    rw [List.getElem_map, List.getElem_map]
    have e : (settle1 (falls p ds) ds)[i]'(by rw [hl]; exact hi) = (lk (falls p ds) i).getD ds[i] := by simp [settle1]
    rw [e]
    cases hk : lk (falls p ds) i with
    | none => exact Nat.le_refl _
    | some x =>
      obtain ⟨_, _, _, g⟩ := falls_mem k h.1 (lk_mem hk)
      have e2 : at0 ds i = ds[i] := by
        unfold at0
        rw [Int.toNat_natCast, List.getD_eq_getElem?_getD, List.getElem?_eq_getElem hi]
        rfl
      rw [e2] at g
      show (p.most - x).toNat ≤ _
      omega
  · obtain ⟨q, hq⟩ := List.exists_mem_of_ne_nil _ hf
    obtain ⟨c, d⟩ := q
    obtain ⟨c0, cn, dm, _⟩ := falls_mem k h.1 hq
    have hi : c.toNat < ds.length := by rw [h.1]; omega
    have ec : ((c.toNat : Nat) : Int) = c := by omega
    refine ⟨c.toNat, by simp [hl]; exact hi, by simpa using hi, ?_⟩
    rw [List.getElem_map, List.getElem_map]
    have e : (settle1 (falls p ds) ds)[c.toNat]'(by rw [hl]; exact hi) = (lk (falls p ds) ((c.toNat : Nat) : Int)).getD ds[c.toNat] := by simp [settle1]
    rw [e, ec]
    obtain ⟨x, hx⟩ := lk_some hq
    rw [hx]
    obtain ⟨_, _, xm, g⟩ := falls_mem k h.1 (lk_mem hx)
    have e2 : at0 ds c = ds[c.toNat] := by
      unfold at0
      rw [List.getD_eq_getElem?_getD, List.getElem?_eq_getElem hi]
      rfl
    rw [e2] at g
    have := (h.2 x xm).2
    show (p.most - x).toNat < _
    omega
theorem OkC.cov1 {p : Pl} {cs : List Int} (h : OkC p cs) (f : List (Int × Int)) : OkC p (cov1 f cs) := h.filter _
/-- with fuel enough the settled have no falls -/
theorem settleF_ok {p : Pl} (k : p.Ok) : ∀ (n : Nat) (ds cs : List Int), OkD p ds → OkC p cs → gap p.most ds ≤ n → OkD p (settleF p n ds cs).1 ∧ OkC p (settleF p n ds cs).2 ∧ falls p (settleF p n ds cs).1 = []
  | 0, ds, cs, hd, hc, hg => by
    refine ⟨hd, hc, ?_⟩
    show falls p ds = []
    refine Classical.byContradiction fun hf => ?_
    have := gap_settle1 k hd hf
    omega
  | n + 1, ds, cs, hd, hc, hg => by
    unfold settleF
    split
    · rename_i he
      exact ⟨hd, hc, List.isEmpty_iff.mp he⟩
    · rename_i he
      have hf : falls p ds ≠ [] := fun e => he (by rw [e]; rfl)
      have := gap_settle1 k hd hf
      exact settleF_ok k n _ _ (hd.settle1 k) (hc.cov1 _) (by omega)
theorem gap90 {p : Pl} (k : p.Ok) {ds : List Int} (h : OkD p ds) : gap p.most ds ≤ 90 := by
  have h1 := gap_le (m := p.most) (by have := k.m1; omega) h.2
  have h2 := k.n9
  have h3 := k.m9
  have h4 : p.most.toNat ≤ 9 := by omega
  have h5 : ds.length * p.most.toNat ≤ 9 * 9 := Nat.mul_le_mul (by rw [h.1]; exact h2) h4
  omega
theorem settle_ok {p : Pl} (k : p.Ok) {ds cs : List Int} (hd : OkD p ds) (hc : OkC p cs) : OkD p (settle p ds cs).1 ∧ OkC p (settle p ds cs).2 ∧ falls p (settle p ds cs).1 = [] :=
  settleF_ok k 90 ds cs hd hc (gap90 k hd)
theorem bathe_ok {p : Pl} {ds cs : List Int} {t : Int} (hd : OkD p ds) (ht : 0 ≤ t) (hm : mxD (bathe ds cs t) ≤ p.most) : OkD p (bathe ds cs t) := by
  refine ⟨by simp [bathe]; exact hd.1, fun d h => ⟨?_, Int.le_trans (mxD_ge h) hm⟩⟩
  unfold bathe at h
  obtain ⟨i, hi, e⟩ := List.mem_mapIdx.mp h
  have := (hd.2 _ (List.getElem_mem hi)).1
  split at e <;> omega
theorem burn_ok {p : Pl} {ds : List Int} {c : Int} (hd : OkD p ds) : OkD p (burn ds c) := by
  refine ⟨by simp [burn]; exact hd.1, fun d h => ?_⟩
  unfold burn at h
  obtain ⟨i, hi, e⟩ := List.mem_mapIdx.mp h
  have := hd.2 _ (List.getElem_mem hi)
  split at e <;> omega
theorem afterStep_ok {p : Pl} (k : p.Ok) {ds cs : List Int} {s : Stp} (hd : OkD p ds) (hc : OkC p cs) (hs : OkS p s) {q : List Int × List Int} (h : afterStep p ds cs s = some q) : OkD p q.1 ∧ OkC p q.2 := by
  cases s with
  | bath t =>
    have h : (if mxD (bathe ds cs t) ≤ p.most then some (settle p (bathe ds cs t) cs) else none) = some q := h
    split at h
    · rename_i hm
      cases h
      have := settle_ok k (bathe_ok hd (by have := hs.1; omega) hm) hc
      exact ⟨this.1, this.2.1⟩
    · cases h
  | burnish c => cases h; exact ⟨burn_ok hd, hc.varnish hs⟩
  | cover es => cases h; exact ⟨hd, hc.varnish hs⟩
  | scrape c => cases h; exact ⟨hd, hc.varnish hs⟩
  | wash => cases h; exact ⟨hd, hc.varnish hs⟩
theorem bath_nofalls {p : Pl} (k : p.Ok) {ds cs : List Int} {t : Int} (hd : OkD p ds) (hc : OkC p cs) (hs : OkS p (.bath t)) {q : List Int × List Int} (h : afterStep p ds cs (.bath t) = some q) : falls p q.1 = [] := by
  have h : (if mxD (bathe ds cs t) ≤ p.most then some (settle p (bathe ds cs t) cs) else none) = some q := h
  split at h
  · rename_i hm
    cases h
    exact (settle_ok k (bathe_ok hd (by have := hs.1; omega) hm) hc).2.2
  · cases h
/-- the while loop's way: a turn more changes nothing of the end -/
theorem settleF_step {p : Pl} {ds cs : List Int} {n : Nat} (h : falls p ds ≠ []) : settleF p (n + 1) ds cs = settleF p n (settle1 (falls p ds) ds) (cov1 (falls p ds) cs) := by
  have e : (falls p ds).isEmpty = false := by cases he : falls p ds with
    | nil => exact absurd he h
    | cons => rfl
  conv => lhs; unfold settleF
  rw [e]
  rfl
theorem settleF_done {p : Pl} {ds cs : List Int} (n : Nat) (h : falls p ds = []) : settleF p n ds cs = (ds, cs) := by
  cases n with
  | zero => rfl
  | succ n => unfold settleF; rw [h]; rfl
end M57
/-! What the top has written, by name; words for short. -/
namespace M57
open PySem PySem.Spec PyProof.Rows L2
/-- the i-th statement of the program -/
def topS (i : Nat) : Stmt := PySem.Challenge.pw_bittenplates_k57_whole_works_and_recipes.main.body.getD i (.Pass ⟨0, 0, 0, 0⟩)
/-- a def of the module -/
structure Df (K : PySem.W.Frag) (mg : Str → Option Value) (x : Str) (st : Stmt) (ps : List Str) where
  f : Addr
  fd : FuncData
  fn : Fun K x x st f fd
  gl : mg x = some (.ref f)
  b : Binds K fd ps []
/-- a def of a class -/
structure Mt (K : PySem.W.Frag) (C : Addr) (x qual : Str) (st : Stmt) (ps : List Str) where
  f : Addr
  fd : FuncData
  fn : Fun K x qual st f fd
  me : Meth K C x f
  b : Binds K fd ps []
/-- a getter of a class -/
structure Pr (K : PySem.W.Frag) (C : Addr) (x qual : Str) (st : Stmt) where
  p : Addr
  f : Addr
  fd : FuncData
  fn : Fun K x qual st f fd
  pr : PropOf K C x p f
  b : Binds K fd ["self"] []
/-- a class that is made by its own __init__ -/
structure Mc (K : PySem.W.Frag) (mg : Str → Option Value) (C : Addr) (x qual : Str) (st : Stmt) (ps : List Str) where
  f : Addr
  fd : FuncData
  fn : Fun K "__init__" qual st f fd
  mk_ : Mk K C f
  gl : mg x = some (.ref C)
  b : Binds K fd ps []
/-- the same, with defaults -/
structure McD (K : PySem.W.Frag) (mg : Str → Option Value) (C : Addr) (x qual : Str) (st : Stmt) (dvs : List V) (ps : List Str) where
  f : Addr
  fd : FuncData
  fn : FunD K "__init__" qual (defArgs st) (defBody st) (defScope st) dvs [] f fd
  mk_ : Mk K C f
  gl : mg x = some (.ref C)
  b : Binds K fd ps []
/-- a global that holds a plain value -/
def Gv (mg : Str → Option Value) (x : Str) (v : V) : Prop := ∃ u, mg x = some u ∧ RelV v u

/-- what is known of the program's text and its top -/
structure Txt (K : PySem.W.Frag) (w : World) (mg : Str → Option Value) where
  isi : mg "isinstance" = none
  int_ : mg "int" = none
  bool_ : mg "bool" = none
  tuple_ : mg "tuple" = none
  str_ : mg "str" = none
  len : mg "len" = none
  all_ : mg "all" = none
  range_ : mg "range" = none
  zip_ : mg "zip" = none
  enum : mg "enumerate" = none
  min_ : mg "min" = none
  max_ : mg "max" = none
  list_ : mg "list" = none
  sorted_ : mg "sorted" = none
  set_ : mg "set" = none
  side : Gv mg "MAX_SIDE" (.int 4)
  cells : Gv mg "MAX_CELLS" (.int 9)
  depth : Gv mg "MAX_DEPTH" (.int 9)
  steps : Gv mg "MAX_STEPS" (.int 40)
  bath_ : Gv mg "BATH" (.str "bath")
  burn_ : Gv mg "BURNISH" (.str "burnish")
  cover_ : Gv mg "COVER" (.str "cover")
  scrape_ : Gv mg "SCRAPE" (.str "scrape")
  wash_ : Gv mg "WASH" (.str "wash")
  sizes : Addr
  sizesG : mg "SIZES" = some (.ref sizes)
  sizesE : Array DictEntry
  sizesN : Nat
  sizesD : KDict K w sizes sizesE sizesN
  sizesOf : ∀ q ∈ [(("bath" : Str), (2 : Int)), ("burnish", 2), ("cover", 2), ("scrape", 2), ("wash", 1), ("pull", 1)], ∃ u, PySem.W.nsIn K sizes q.1 = some (some u) ∧ RelV (.int q.2) u
  -- the plate's class
  cP : Addr
  scP : SlX.SCls K cP
  pParts : Addr
  pSpots : Addr
  slParts : SlX.Slot1 K cP "parts" pParts 0
  slSpots : SlX.Slot1 K cP "spots" pSpots 1
  mP : McD K mg cP "Plate" "Plate.__init__" (inClass (topS 22) 1) [.non] ["self", "width", "height", "most", "fall"]
  pWidth : Pr K cP "width" "Plate.width" (inClass (topS 22) 2)
  pHeight : Pr K cP "height" "Plate.height" (inClass (topS 22) 3)
  pMost : Pr K cP "most" "Plate.most" (inClass (topS 22) 4)
  pFall : Pr K cP "fall" "Plate.fall" (inClass (topS 22) 5)
  lenP : Mt K cP "__len__" "Plate.__len__" (inClass (topS 22) 6) ["self"]
  -- the state's class
  cS : Addr
  scS : SlX.SCls K cS
  pFacts : Addr
  pPast : Addr
  pShelf : Addr
  pUndone : Addr
  slFacts : SlX.Slot1 K cS "facts" pFacts 0
  slPast : SlX.Slot1 K cS "past" pPast 1
  slShelf : SlX.Slot1 K cS "shelf" pShelf 2
  slUndone : SlX.Slot1 K cS "undone" pUndone 3
  mS : Mc K mg cS "State" "State.__init__" (inClass (topS 47) 1) ["self", "facts", "shelf", "past", "undone"]
  sCopied : Mt K cS "copied" "State.copied" (inClass (topS 47) 2) ["self"]
  sGoOn : Mt K cS "go_on" "State.go_on" (inClass (topS 47) 3) ["self", "operation", "facts", "shelf"]
  sGoBack : Mt K cS "go_back" "State.go_back" (inClass (topS 47) 4) ["self"]
  -- the work's class
  cW : Addr
  clW : Cls K cW
  nBase : NoAttr K cW "base"
  nHeld : NoAttr K cW "held"
  mW : Mc K mg cW "Work" "Work.__init__" (inClass (topS 48) 0) ["self", "plate", "depths"]
  rdW : ClX.CRead K cW (.type "type")
  wReplayP : Addr
  wReplayF : Addr
  wReplayD : FuncData
  wReplay : Fun K "replay" "Work.replay" (inClass (topS 48) 1) wReplayF wReplayD
  wReplayB : Binds K wReplayD ["cls", "plate", "depths", "operations"] []
  wReplayC : ClX.CMet K cW (.type "type") "replay" wReplayP wReplayF
  wDepths : Pr K cW "depths_now" "Work.depths_now" (inClass (topS 48) 2)
  wCovered : Pr K cW "covered_now" "Work.covered_now" (inClass (topS 48) 3)
  wPulls : Pr K cW "pulls_made" "Work.pulls_made" (inClass (topS 48) 4)
  wTime : Pr K cW "bath_time" "Work.bath_time" (inClass (topS 48) 5)
  wHistory : Pr K cW "history" "Work.history" (inClass (topS 48) 7)
  wEnter : Mt K cW "enter" "Work.enter" (inClass (topS 48) 8) ["self", "operation", "step", "more"]
  wCover : Mt K cW "cover" "Work.cover" (inClass (topS 48) 9) ["self", "cells"]
  wScrape : Mt K cW "scrape" "Work.scrape" (inClass (topS 48) 10) ["self", "cell"]
  wWash : Mt K cW "wash" "Work.wash" (inClass (topS 48) 11) ["self"]
  wBath : Mt K cW "bath" "Work.bath" (inClass (topS 48) 12) ["self", "time"]
  wBurnish : Mt K cW "burnish" "Work.burnish" (inClass (topS 48) 13) ["self", "cell"]
  wPull : Mt K cW "pull" "Work.pull" (inClass (topS 48) 14) ["self"]
  wUndo : Mt K cW "undo" "Work.undo" (inClass (topS 48) 17) ["self"]
  wExecute : Mt K cW "execute" "Work.execute" (inClass (topS 48) 19) ["self", "operation"]
  wApply : Mt K cW "apply_all" "Work.apply_all" (inClass (topS 48) 20) ["self", "operations"]
  -- the trial's class
  cT : Addr
  clT : Cls K cT
  nTested : NoAttr K cT "tested_work"
  nOrigin : NoAttr K cT "origin"
  nFresh : NoAttr K cT "fresh"
  nChosen : NoAttr K cT "chosen"
  mT : Mc K mg cT "Trial" "Trial.__init__" (inClass (topS 49) 0) ["self", "work"]
  tHold : Mt K cT "hold" "Trial.hold" (inClass (topS 49) 1) ["self"]
  tEnter : Mt K cT "__enter__" "Trial.__enter__" (inClass (topS 49) 2) ["self"]
  tExit : Mt K cT "__exit__" "Trial.__exit__" (inClass (topS 49) 3) ["self", "kind", "error", "trace"]
  -- the errors
  cE : Addr
  gE : mg "EtchError" = some (.ref cE)
  rdE : ClX.CRead K cE (.type "type")
  iE : PySem.W.findCls K (.ref cE) (.type "type") "__init__" = some (.val (.builtin "ValueError.__init__"))
  cX : Addr
  gX : mg "Spoilt" = some (.ref cX)
  oeX : OexC K cX
  xfX : XfC K cX
  noX : PySem.W.findIn K (.ref cX) "index" = some none
  fX : Addr
  fdX : FuncData
  fnX : Fun K "__init__" "Spoilt.__init__" (inClass (topS 6) 0) fX fdX
  bX : Binds K fdX ["self", "index"] []
  iX : PySem.W.findIn K (.ref cX) "__init__" = some (some (.ref fX))
  tX : PySem.W.typeIn K (.ref fX) = some (.type "function")
  exX : PySem.W.exmOne K (.ref cX) (.ref cX) = some true
  -- the defs
  isNumber : Df K mg "is_number" (topS 21) ["value", "smallest", "largest"]
  pairsOf : Df K mg "pairs_of" (topS 23) ["plate", "cell"]
  areDepths : Df K mg "are_depths" (topS 24) ["plate", "value"]
  checkDepths : Df K mg "check_depths" (topS 25) ["plate", "value"]
  areCells : Df K mg "are_cells" (topS 26) ["plate", "value"]
  isStep : Df K mg "is_step" (topS 27) ["plate", "value"]
  wrongStep : Df K mg "wrong_step" (topS 28) ["plate", "recipe"]
  checkRecipe : Df K mg "check_recipe" (topS 29) ["plate", "recipe"]
  fallenDepth : Df K mg "fallen_depth" (topS 31) ["plate", "depths", "cell"]
  fallsD : Df K mg "falls" (topS 32) ["plate", "depths"]
  ridges : Df K mg "ridges" (topS 33) ["plate", "depths"]
  settled : Df K mg "settled" (topS 34) ["plate", "depths", "covered"]
  bathed : Df K mg "bathed" (topS 35) ["depths", "covered", "time"]
  varnished : Df K mg "varnished" (topS 36) ["covered", "step"]
  afterS : Df K mg "after_step" (topS 37) ["plate", "depths", "covered", "step"]
  run : Df K mg "run" (topS 38) ["plate", "depths", "recipe"]
  bitten : Df K mg "bitten" (topS 39) ["plate", "depths", "recipe"]
  course : Df K mg "course" (topS 40) ["plate", "depths", "recipe"]
  isOp : Df K mg "is_operation" (topS 45) ["value"]
  lTaken : Df K mg "_law_taken" (topS 51) ["_law_row", "_law_many"]
  lPlate : Df K mg "_law_plate" (topS 52) ["_law_row", "_law_is_still"]
  lDepths : Df K mg "_law_depths" (topS 53) ["_law_row", "_law_plate_here"]
  lRecipe : Df K mg "_law_recipe" (topS 54) ["_law_row", "_law_plate_here"]
  lRun : Df K mg "_law_run" (topS 55) ["_law_plate_here", "_law_depths_here", "_law_recipe_here"]

theorem funD_of {K : PySem.W.Frag} {x qual : Str} {st : Stmt} {f : Addr} {fd : FuncData} (F : Fun K x qual st f fd) : FunD K x qual (defArgs st) (defBody st) (defScope st) [] [] f fd := by
  obtain ⟨oc, od, kV, doc, pm, an, cdv, ct, osl, e, l, c⟩ := F.ex
  exact ⟨⟨oc, od, .none, kV, doc, pm, an, cdv, ct, osl, e, l, c, .inl ⟨rfl, rfl⟩, .inl rfl⟩, F.kp⟩
section
variable {X : Cx}
theorem sv (i : Nat) {x : Str} {e : Expr} {te : TE} {p' pos : Pos} (hN : X.N.Nodup) (he : PE X e te) (hi : X.N[i]? = some x := by rfl) (hx : Loc X.env.scope x := by first | exact .inl rfl | exact .inr rfl) (hs : swapsWith e (some (.Name x p')) pos.line X.env = pure false := by rfl)
    (hf : X.fn x = true ∨ X.env.scope.names.lookup x = some .local := by first | exact .inl rfl | exact .inr rfl) : PS X (.Assign [.Name x p'] e pos) (tAsg te (gName i)) := ps_set hN hi hx he hs hf
theorem gn (i : Nat) {x : Str} {p : Pos} (hN : X.N.Nodup) (hi : X.N[i]? = some x := by rfl) (hx : Loc X.env.scope x := by first | exact .inl rfl | exact .inr rfl) (hf : X.fn x = true ∨ X.env.scope.names.lookup x = some .local := by first | exact .inl rfl | exact .inr rfl) :
    PG X (.Name x p) (gName i) := pg_name (i := i) hN hi hx hf
theorem pe_gv {x : Str} {v : V} {p : Pos} (h : Gv X.mg x v) (hg : Gl X x := by rfl) (hd : (x == ("__debug__" : Str)) = false := by decide) : PE X (.Name x p) (tC v) := by
  obtain ⟨u, e, r⟩ := h
  exact pe_glob hg e r hd
/-- a call of a def of the module that lets nothing out -/
theorem dcall {k : Nat} {x : Str} {st : Stmt} {ps : List Str} {sp : Sp} {p pos : Pos} {e : Expr} {es : List Expr} {t : TA} (d : Df X.K X.mg x st ps) (F : FnOk X.prog X.w X.K X.mg X.base CX0 k d.f d.fd ps sp) (hr : Room k X.A) (ha : PA X (e :: es) t)
    (hg : Gl X x := by rfl) (hdb : (x == ("__debug__" : Str)) = false := by decide) (he : starEach (e :: es) X.env = (false, eval e X.env) :: starEach es X.env := by rfl) (hpl : (backTo pos (starEach es X.env)).any (·.1) = false := by rfl) :
    PE X (.Call (.Name x p) (e :: es) [] pos) (tCall sp [] E0 t) := pe_call F hr hg d.gl d.fn.kp d.b .nil pass0 ha hdb he hpl
/-- one of a class -/
theorem mcall {k : Nat} {C : Addr} {x qual : Str} {st : Stmt} {ps : List Str} {sp : Sp} (d : Mt X.K C x qual st ps) (F : FnOk X.prog X.w X.K X.mg X.base CX0 k d.f d.fd ps sp) : FnR X.prog X.w X.K X.mg X.base CX0 k d.f (fun vs H Q E => sp (vs ++ []) H Q E) := F.raw d.b .nil
/-- a getter of a slotted class -/
theorem pcall {k : Nat} {C : Addr} {x qual : Str} {st : Stmt} {sp : Sp} {e : Expr} {pos : Pos} {ta : TE} (he : PE X e ta) (c : SlX.SCls X.K C) (d : Pr X.K C x qual st) (F : FnR X.prog X.w X.K X.mg X.base CXN k d.f sp) (hr : Room (k + 1) X.A)
    (hb : attributeBase e x X.env (eval e X.env) = eval e X.env := by rfl) : PE X (.Attribute e x pos) (SlX.tPropSl C sp (fun _ _ _ => False) ta) :=
  SlX.pe_propSl he c d.pr.at_ d.pr.get d.pr.tak d.pr.rec_ F hr (fun _ _ _ _ h => h) hb
end
end M57
/-! Defs, part a: the plate's getters, numbers. -/
namespace M57
open PySem PySem.Spec PyProof.Rows L2
def optV : Option Int → V
  | none => .non
  | some i => .int i
def intsV (ns : List Int) : List V := ns.map V.int
/-- a plate in the heap -/
structure PlateAt (C : Addr) (H : Hp) (a : Addr) (p : Pl) : Prop where
  ex : ∃ dx pt st, H a = some (SlX.SlO a C dx [some (.ref pt), some (.ref st)]) ∧ H dx = some (.xd []) ∧ H pt = some (.tup [.int p.w, .int p.h, .int p.most, optV p.fall]) ∧ H st = some (.tup ((List.range p.n).map fun (i : Nat) => V.int (i : Int)))
def spPl (C : Addr) (g : Pl → V) : Sp := fun vs H Q _ => ∃ a p, vs = [.ref a] ∧ PlateAt C H a p ∧ p.Ok ∧ Q (g p) H
section
variable {P : Program} {w : World} {K : PySem.W.Frag} {mg : Str → Option Value} {base : Heap}
theorem scG1 : FnScope ["self"] ["self"] (defScope (inClass (topS 22) 2)) := ⟨rfl, rfl, rfl, by decide +kernel, rfl, by decide +kernel, by decide +kernel⟩
theorem scG2 : FnScope ["self"] ["self"] (defScope (inClass (topS 22) 3)) := ⟨rfl, rfl, rfl, by decide +kernel, rfl, by decide +kernel, by decide +kernel⟩
theorem scG3 : FnScope ["self"] ["self"] (defScope (inClass (topS 22) 4)) := ⟨rfl, rfl, rfl, by decide +kernel, rfl, by decide +kernel, by decide +kernel⟩
theorem scG4 : FnScope ["self"] ["self"] (defScope (inClass (topS 22) 5)) := ⟨rfl, rfl, rfl, by decide +kernel, rfl, by decide +kernel, by decide +kernel⟩
theorem spPl_len {C : Addr} {g : Pl → V} (vs : List V) (H : Hp) (Q : VK) (E : XK) (h : spPl C g vs H Q E) : vs.length = (["self"] : List Str).length := by
  obtain ⟨a, p, rfl, _⟩ := h
  rfl
theorem ok_width (T : Txt K w mg) : FnA P w K mg base CXN 1 T.pWidth.f (spPl T.cP fun p => .int p.w) := by
  refine FunD.okA (funD_of T.pWidth.fn) scG1 T.pWidth.b spPl_len fun cdv A outer s H vs Q E hr h => ?_
  obtain ⟨a, pl, rfl, ⟨dx, pt, st, h1, h2, h3, h4⟩, k, q⟩ := h
  refine ⟨_, pss_one (ps_ret (pe_ix ix_tup (SlX.pe_sl (pv 0)) pe_int (fun _ _ => rfl))), ?_⟩
  exact ⟨_, rfl, a, T.cP, dx, _, _, 0, _, rfl, .inr ⟨h1, h2⟩, T.scP, T.slParts, rfl, pt, _, _, _, rfl, rfl, SqT.of h3, (atI_nat rfl : atI _ ((0 : Nat) : Int) = some _), q⟩
theorem ok_height (T : Txt K w mg) : FnA P w K mg base CXN 1 T.pHeight.f (spPl T.cP fun p => .int p.h) := by
  refine FunD.okA (funD_of T.pHeight.fn) scG2 T.pHeight.b spPl_len fun cdv A outer s H vs Q E hr h => ?_
  obtain ⟨a, pl, rfl, ⟨dx, pt, st, h1, h2, h3, h4⟩, k, q⟩ := h
  refine ⟨_, pss_one (ps_ret (pe_ix ix_tup (SlX.pe_sl (pv 0)) pe_int (fun _ _ => rfl))), ?_⟩
  exact ⟨_, rfl, a, T.cP, dx, _, _, 0, _, rfl, .inr ⟨h1, h2⟩, T.scP, T.slParts, rfl, pt, _, _, _, rfl, rfl, SqT.of h3, (atI_nat rfl : atI _ ((1 : Nat) : Int) = some _), q⟩
theorem ok_most (T : Txt K w mg) : FnA P w K mg base CXN 1 T.pMost.f (spPl T.cP fun p => .int p.most) := by
  refine FunD.okA (funD_of T.pMost.fn) scG3 T.pMost.b spPl_len fun cdv A outer s H vs Q E hr h => ?_
  obtain ⟨a, pl, rfl, ⟨dx, pt, st, h1, h2, h3, h4⟩, k, q⟩ := h
  refine ⟨_, pss_one (ps_ret (pe_ix ix_tup (SlX.pe_sl (pv 0)) pe_int (fun _ _ => rfl))), ?_⟩
  exact ⟨_, rfl, a, T.cP, dx, _, _, 0, _, rfl, .inr ⟨h1, h2⟩, T.scP, T.slParts, rfl, pt, _, _, _, rfl, rfl, SqT.of h3, (atI_nat rfl : atI _ ((2 : Nat) : Int) = some _), q⟩
theorem ok_fall (T : Txt K w mg) : FnA P w K mg base CXN 1 T.pFall.f (spPl T.cP fun p => optV p.fall) := by
  refine FunD.okA (funD_of T.pFall.fn) scG4 T.pFall.b spPl_len fun cdv A outer s H vs Q E hr h => ?_
  obtain ⟨a, pl, rfl, ⟨dx, pt, st, h1, h2, h3, h4⟩, k, q⟩ := h
  refine ⟨_, pss_one (ps_ret (pe_ix ix_tup (SlX.pe_sl (pv 0)) pe_int (fun _ _ => rfl))), ?_⟩
  exact ⟨_, rfl, a, T.cP, dx, _, _, 0, _, rfl, .inr ⟨h1, h2⟩, T.scP, T.slParts, rfl, pt, _, _, _, rfl, rfl, SqT.of h3, (atI_nat rfl : atI _ ((3 : Nat) : Int) = some _), q⟩
theorem scG5 : FnScope ["self"] ["self"] (defScope (inClass (topS 22) 6)) := ⟨rfl, rfl, rfl, by decide +kernel, rfl, by decide +kernel, by decide +kernel⟩
theorem ok_len (T : Txt K w mg) : FnA P w K mg base CXN 1 T.lenP.f (spPl T.cP fun p => .int (p.n : Int)) := by
  refine FunD.okA (funD_of T.lenP.fn) scG5 T.lenP.b spPl_len fun cdv A outer s H vs Q E hr h => ?_
  obtain ⟨a, pl, rfl, ⟨dx, pt, st, h1, h2, h3, h4⟩, k, q⟩ := h
  refine ⟨_, pss_one (ps_ret (pe_callB call_len_seq (by rfl) T.len PySem.boot_len (pa_cons (SlX.pe_sl (pv 0)) pa_nil))), ?_⟩
  refine ⟨_, rfl, a, T.cP, dx, _, _, 1, _, rfl, .inr ⟨h1, h2⟩, T.scP, T.slSpots, rfl, st, _, rfl, .inr (SqT.of h4), ?_⟩
  rw [List.length_map, List.length_range]
  exact q
/-- is_number of three ints -/
def spNum : Sp := fun vs H Q _ => ∃ i lo hi : Int, vs = [.int i, .int lo, .int hi] ∧ Q (.bl (decide (lo ≤ i ∧ i ≤ hi))) H
theorem scNum : FnScope ["value", "smallest", "largest"] ["value", "smallest", "largest"] (defScope (topS 21)) := ⟨rfl, rfl, rfl, by decide +kernel, rfl, by decide +kernel, by decide +kernel⟩
theorem ok_num (T : Txt K w mg) : FnOk P w K mg base CX0 1 T.isNumber.f T.isNumber.fd ["value", "smallest", "largest"] spNum := by
  refine T.isNumber.fn.ok scNum (fun vs H Q E h => ?_) fun cdv A outer s H vs Q E hr h => ?_
  · obtain ⟨i, lo, hi, rfl, _⟩ := h
    rfl
  obtain ⟨i, lo, hi, rfl, q⟩ := h
  refine ⟨_, pss_one (ps_ret (pe_and (pe_callB call_isi (by rfl) T.isi (by decide +kernel) (pa_cons (pv 0) (pa_cons (pe_bltn (by rfl) T.int_ (by decide +kernel) (v := .ty "int") rfl) pa_nil)))
    (pe_and (pe_not (pe_callB call_isi (by rfl) T.isi (by decide +kernel) (pa_cons (pv 0) (pa_cons (pe_bltn (by rfl) T.bool_ (by decide +kernel) (v := .ty "bool") rfl) pa_nil))))
    (pe_one (pe_chain op_le op_le (pv 1) (pv 0) (pv 2)))))), ?_⟩
  refine ⟨_, rfl, _, _, _, _, true, rfl, .ty _, .base (.int i), kit_ty (by decide +kernel), true, rfl, ?_⟩
  refine ⟨_, rfl, _, _, _, _, false, rfl, .ty _, .base (.int i), kit_ty (by decide +kernel), false, rfl, true, rfl, ?_⟩
  refine ⟨_, rfl, _, rfl, _, _, rfl, rfl, decide (lo ≤ i), rfl, ?_⟩
  by_cases c : lo ≤ i
  · rw [decide_eq_true c]
    refine ⟨_, rfl, _, _, rfl, rfl, ?_⟩
    have e : (decide (lo ≤ i ∧ i ≤ hi)) = decide (i ≤ hi) := by simp [c]
    rw [e] at q
    exact q
  · rw [decide_eq_false c]
    have e : (decide (lo ≤ i ∧ i ≤ hi)) = false := by simp [c]
    rw [e] at q
    exact q
end
end M57
/-! Defs, part b: a plate is made; the pairs of a cell; depths. -/
namespace M57
open PySem PySem.Spec PyProof.Rows L2
theorem same_add {H H1 : Hp} {l : Addr} {o : HO} (s : Same H H1) (n : H l = none) : Same H (upd H1 l o) := fun b u e => by
  have hb : b ≠ l := fun z => by
    rw [z, n] at e
    cases e
  rw [upd_ne hb]
  exact s b u e
theorem same_new {H H1 : Hp} {l : Addr} {o : HO} (s : Same H H1) (n : H1 l = none) : Same H (upd H1 l o) := same_add s (s.free n)
theorem upd_get {H : Hp} {l b : Addr} {o u : HO} (e : H b = some u) (n : H l = none) : upd H l o b = some u := by
  have hb : b ≠ l := fun z => by
    rw [z, n] at e
    cases e
  rw [upd_ne hb]
  exact e
theorem PlateAt.same {C : Addr} {H H' : Hp} {a : Addr} {p : Pl} (h : PlateAt C H a p) (s : Same H H') : PlateAt C H' a p := by
  obtain ⟨dx, pt, st, h1, h2, h3, h4⟩ := h
  exact ⟨dx, pt, st, s _ _ h1, s _ _ h2, s _ _ h3, s _ _ h4⟩
/-- a tuple of ints -/
abbrev TupI (H : Hp) (d : Addr) (ns : List Int) : Prop := H d = some (.tup (intsV ns))
theorem nameF {c : Bool} {A B : Prop} (hc : c = false) (h : B) : if c = true then A else B := by
  subst hc
  exact iteF h
theorem nameT {c : Bool} {A B : Prop} (hc : c = true) (h : A) : if c = true then A else B := by
  subst hc
  exact iteT h
section
variable {P : Program} {w : World} {K : PySem.W.Frag} {mg : Str → Option Value} {base : Heap}
/-! ### Plate(..) -/
def spPlInit (C : Addr) : Sp := fun vs H Q _ => ∃ x dx p, vs = [.ref x, .int p.w, .int p.h, .int p.most, optV p.fall] ∧ H x = some (.ins C dx []) ∧ H dx = some (.own x) ∧ p.Ok ∧
  ∀ H', PlateAt C H' x p → (∀ b o, H b = some o → b ≠ x → b ≠ dx → H' b = some o) → Q .non H'
theorem scPl : FnScope ["self", "width", "height", "most", "fall"] ["self", "width", "height", "most", "fall"] (defScope (inClass (topS 22) 1)) := ⟨rfl, rfl, rfl, by decide +kernel, rfl, by decide +kernel, by decide +kernel⟩
theorem ok_plInit (T : Txt K w mg) : FnOk P w K mg base CX0 2 T.mP.f T.mP.fd ["self", "width", "height", "most", "fall"] (spPlInit T.cP) := by
  refine FunD.ok T.mP.fn scPl (fun vs H Q E h => ?_) fun cdv A outer s H vs Q E hr h => ?_
  · obtain ⟨x, dx, p, rfl, _⟩ := h
    rfl
  obtain ⟨x, dx, p, rfl, hx, hdx, k, q⟩ := h
  have isn := @ok_num P w K mg base T
  refine ⟨_, PSs.nox (pss_cons (ps_if (pt_not (pt_val (dcall T.isNumber isn hr (pa_cons (pv 1) (pa_cons pe_int (pa_cons (pe_gv T.side) pa_nil)))))) (pss_one ps_never) pss_nil)
    (pss_cons (ps_if (PW.pt (pw_or (pt_not (pt_val (dcall T.isNumber isn hr (pa_cons (pv 2) (pa_cons pe_int (pa_cons (pe_gv T.side) pa_nil)))))) (pw_or1 (pt_cmpR op_gt (pe_op op_mul (pv 1) (pv 2)) (pe_gv T.cells) (nomark _))))) (pss_one ps_never) pss_nil)
    (pss_cons (ps_if (pt_not (pt_val (dcall T.isNumber isn hr (pa_cons (pv 3) (pa_cons pe_int (pa_cons (pe_gv T.depth) pa_nil)))))) (pss_one ps_never) pss_nil)
    (pss_cons (ps_if (PW.pt (pw_and (pt_cmpR op_notN (pv 4) pe_non (nomark _)) (pw_and1 (pt_not (pt_val (dcall T.isNumber isn hr (pa_cons (pv 4) (pa_cons pe_int (pa_cons (pe_gv T.depth) pa_nil))))))))) (pss_one ps_never) pss_nil)
    (pss_cons (SlX.ps_sl (pv 0) (pe_tup (pa_cons (pv 1) (pa_cons (pv 2) (pa_cons (pv 3) (pa_cons (pv 4) pa_nil))))))
    (pss_one (SlX.ps_sl (pv 0) (pe_tupRg rfl (by rfl) T.tuple_ (prg_1 (by rfl) T.range_ (pe_op op_mul (pv 1) (pv 2))))))))))), ?_⟩
  have a1 := k.w1
  have a2 := k.w4
  have a3 := k.h1
  have a4 := k.h4
  have a5 := k.m1
  have a6 := k.m9
  have a7 := k.c9
  have a8 : 1 ≤ p.w * p.h := by
    have := k.n1
    have := k.nI
    omega
  refine ⟨_, rfl, p.w, 1, 4, rfl, _, rfl, ?_⟩
  rw [decide_eq_true (show 1 ≤ p.w ∧ p.w ≤ 4 from ⟨a1, a2⟩)]
  refine iteF ?_
  refine ⟨_, rfl, p.h, 1, 4, rfl, _, rfl, ?_⟩
  rw [decide_eq_true (show 1 ≤ p.h ∧ p.h ≤ 4 from ⟨a3, a4⟩)]
  refine iteF ?_
  refine ⟨_, rfl, _, rfl, _, _, rfl, rfl, .inl ⟨by omega, by omega⟩, _, _, rfl, rfl, _, rfl, ?_⟩
  refine nameF (decide_eq_false (by omega)) ?_
  refine ⟨_, rfl, p.most, 1, 9, rfl, _, rfl, ?_⟩
  rw [decide_eq_true (show 1 ≤ p.most ∧ p.most ≤ 9 from ⟨a5, a6⟩)]
  refine iteF ?_
  refine ⟨_, rfl, rfl, _, rfl, ?_⟩
  have hne : dx ≠ x := fun z => by
    rw [z, hx] at hdx
    cases hdx
  have rest : tSeq (SlX.sSl K (tVar 0) (tTup (tCons (tVar 1) (tCons (tVar 2) (tCons (tVar 3) (tCons (tVar 4) tNil))))) "parts") (SlX.sSl K (tVar 0) (tTupRg (tRg1 (tOp (rI CMul fun i j => V.int (i * j)) (tVar 1) (tVar 2)))) "spots")
      { nx := fun _ H' => Q .non H', rt := Q } (L2.start ["self", "width", "height", "most", "fall"] [.ref x, .int p.w, .int p.h, .int p.most, optV p.fall]) H := by
    refine ⟨_, rfl, _, rfl, _, rfl, _, rfl, by show 4 ≤ sizeLine; decide, fun t nt => ?_⟩
    have tx : t ≠ x := fun z => by
      rw [z, hx] at nt
      cases nt
    have td : t ≠ dx := fun z => by
      rw [z, hdx] at nt
      cases nt
    refine ⟨_, rfl, x, T.cP, dx, _, [], 0, rfl, .inl ⟨upd_get hx nt, rfl⟩, T.scP, T.slParts, ?_⟩
    refine ⟨_, rfl, _, rfl, _, _, rfl, rfl, .inl ⟨by omega, by omega⟩, _, rfl, ⟨by omega, by omega, by omega, by omega, by omega⟩, fun r nr => ?_⟩
    have rx : r ≠ x := fun z => by
      rw [z] at nr
      exact absurd (upd_same.symm.trans nr) (by intro q; cases q)
    have rd : r ≠ dx := fun z => by
      rw [z, show SlX.slH _ x _ dx _ dx = some (.xd []) from by unfold SlX.slH; rw [upd_ne hne, upd_same]] at nr
      cases nr
    have rt : r ≠ t := fun z => by
      rw [z, SlX.slH_ne tx td, upd_same] at nr
      cases nr
    refine ⟨_, rfl, x, T.cP, dx, _, _, 1, rfl, .inr ⟨by rw [upd_ne (Ne.symm rx)]; exact upd_same, by rw [upd_ne (Ne.symm rd)]; unfold SlX.slH; rw [upd_ne hne, upd_same]⟩, T.scP, T.slSpots, ?_⟩
    refine q _ ⟨dx, t, r, upd_same, by unfold SlX.slH; rw [upd_ne hne, upd_same], ?_, ?_⟩ fun b o e h1 h2 => ?_
    · rw [SlX.slH_ne tx td, upd_ne (Ne.symm rt), SlX.slH_ne tx td, upd_same]
    · rw [SlX.slH_ne rx rd, upd_same]
      unfold rgV Pl.n
      rw [Int.sub_zero]
      exact congrArg (fun l => some (HO.tup l)) (List.map_congr_left fun i _ => by rw [Int.zero_add])
    · rw [SlX.slH_ne h1 h2]
      have br : b ≠ r := fun z => by
        rw [← z, SlX.slH_ne h1 h2] at nr
        by_cases bt : b = t
        · rw [bt, nt] at e
          cases e
        · rw [upd_ne bt, e] at nr
          cases nr
      rw [upd_ne br, SlX.slH_ne h1 h2]
      exact upd_get e nt
  cases e : p.fall with
  | none =>
    rw [e] at rest
    exact rest
  | some f =>
    rw [e] at rest
    obtain ⟨f1, f2⟩ := k.f1 f e
    refine iteT ?_
    refine ⟨_, rfl, f, 1, 9, rfl, _, rfl, ?_⟩
    rw [decide_eq_true (show 1 ≤ f ∧ f ≤ 9 from ⟨f1, f2⟩)]
    exact iteF rest
end
end M57
/-! Defs, part c: the pairs of a cell; depths; cells. -/
namespace M57
open PySem PySem.Spec PyProof.Rows L2
theorem tPl {C : Addr} {H : Hp} {a : Addr} {p : Pl} {g : Pl → V} {σ : L2.St} {i : Nat} {Q : VK} {E : XK} (hi : σ[i]? = some (some (.ref a))) (h : PlateAt C H a p) (k : p.Ok) (q : Q (g p) H) : SlX.tPropSl C (spPl C g) E (tVar i) σ H Q := by
  obtain ⟨dx, pt, st, h1, h2, h3, h4⟩ := id h
  exact ⟨_, hi, a, dx, _, rfl, .inr ⟨h1, h2⟩, a, p, rfl, h, k, q⟩
theorem tIfOpt {tt : TT} {ta tb : TE} {b : Prop} [Decidable b] {x : Int} {σ : L2.St} {H : Hp} {Q : VK} (ht : ∀ R : Bool → Hp → Prop, R (decide b) H → tt σ H R) (ha : ∀ R : VK, R (.int x) H → ta σ H R) (hb : ∀ R : VK, R .non H → tb σ H R)
    (h : Q (optV (if b then some x else none)) H) : tIf tt ta tb σ H Q := by
  refine ht _ ?_
  by_cases c : b
  · rw [if_pos c] at h
    rw [decide_eq_true c]
    exact iteT (ha _ h)
  · rw [if_neg c] at h
    rw [decide_eq_false c]
    exact iteF (hb _ h)
def tIfO (tt : TT) (ta tb : TE) : TE := fun σ H Q => ∃ (b : Prop) (_ : Decidable b) (x : Int), (∀ R : Bool → Hp → Prop, R (decide b) H → tt σ H R) ∧ (∀ R : VK, R (.int x) H → ta σ H R) ∧ (∀ R : VK, R .non H → tb σ H R) ∧ Q (optV (if b then some x else none)) H
theorem pe_ifO {X : Cx} {c a b : Expr} {pos : Pos} {tt : TT} {ta tb : TE} (hc : PT X c tt) (ha : PE X a ta) (hb : PE X b tb) : PE X (.IfExp c a b pos) (tIfO tt ta tb) :=
  ⟨fun pins s σ H Q I ⟨_, _, _, h1, h2, h3, h⟩ => (pe_ifExp hc ha hb).run pins s σ H Q I (tIfOpt h1 h2 h3 h)⟩
abbrev spLenP (C : Addr) : Sp := spPl C fun p => .int (p.n : Int)
theorem tLenP {C : Addr} {H : Hp} {a : Addr} {p : Pl} {σ : L2.St} {i : Nat} {Q : VK} (hi : σ[i]? = some (some (.ref a))) (h : PlateAt C H a p) (k : p.Ok) (q : Q (.int (p.n : Int)) H) : tCB (rLenSl C (spLenP C)) (tCons (tVar i) tNil) σ H Q := by
  obtain ⟨dx, pt, st, h1, h2, h3, h4⟩ := id h
  have n9 := k.n9
  exact ⟨_, hi, a, dx, _, rfl, .inr ⟨h1, h2⟩, a, p, rfl, h, k, p.n, rfl, by omega, q⟩
section
variable {X : Cx}
theorem pe_lenP {C : Addr} {qn : Str} {st : Stmt} {ps : List Str} {e : Expr} {ta : TE} {q pos : Pos} (hl : X.mg "len" = none) (d : Mt X.K C "__len__" qn st ps) (F : FnA X.prog X.w X.K X.mg X.base CXN 1 d.f (spLenP C)) (hr : Room 2 X.A) (he : PE X e ta) (hg : Gl X "len" := by rfl)
    (h1 : starEach [e] X.env = (false, eval e X.env) :: starEach [] X.env := by rfl) (hpl : (backTo pos (starEach [] X.env)).any (·.1) = false := by rfl) : PE X (.Call (.Name "len" q) [e] [] pos) (tCB (rLenSl C (spLenP C)) (tCons ta tNil)) :=
  pe_callB (call_lenSl d.me.at_ d.me.fn F.toR hr) hg hl PySem.boot_len (pa_cons he pa_nil h1) (by decide) (by decide) h1 hpl
/-- isinstance(x, C), C a built-in class -/
theorem pe_isi {x : Str} {n : String} {e : Expr} {ta : TE} {q q2 pos : Pos} (hm : X.mg "isinstance" = none) (hn : X.mg x = none) (he : PE X e ta) (hv : bootBuiltins x = some (.type n)) (hx : x ≠ "__name__" := by decide) (hd : (x == ("__debug__" : Str)) = false := by decide) (hg : Gl X "isinstance" := by rfl) (hg2 : Gl X x := by rfl)
    (h1 : starEach [e, .Name x q2] X.env = (false, eval e X.env) :: starEach [.Name x q2] X.env := by rfl) (hpl : (backTo pos (starEach [.Name x q2] X.env)).any (·.1) = false := by rfl) (h2 : starEach [.Name x q2] X.env = (false, eval (.Name x q2) X.env) :: starEach [] X.env := by rfl) :
    PE X (.Call (.Name "isinstance" q) [e, .Name x q2] [] pos) (tCB (rIsi X.K) (tCons ta (tCons (tC (.ty n)) tNil))) :=
  pe_callB call_isi hg hm (by decide +kernel) (pa_cons he (pa_cons (pe_bltn hg2 hn hv (v := .ty n) rfl hx hd) pa_nil h2) h1) (by decide) (by decide) h1 hpl
end
section
variable {P : Program} {w : World} {K : PySem.W.Frag} {mg : Str → Option Value} {base : Heap}
def spPairs (C : Addr) : Sp := fun vs H Q _ => ∃ a c p, vs = [.ref a, .int c] ∧ PlateAt C H a p ∧ p.Ok ∧ 0 ≤ c ∧ c < (p.n : Int) ∧
  ∀ H' t u v, Same H H' → H' t = some (.tup [.ref u, .ref v]) → H' u = some (.tup [optV (leftOf p c), optV (rightOf p c)]) → H' v = some (.tup [optV (aboveOf p c), optV (belowOf p c)]) → Q (.ref t) H'
theorem scPairs : FnScope ["plate", "cell", "width", "column", "left", "right", "above", "below"] ["plate", "cell"] (defScope (topS 23)) := ⟨rfl, rfl, rfl, by decide +kernel, rfl, by decide +kernel, by decide +kernel⟩
theorem ok_pairs (T : Txt K w mg) : FnOk P w K mg base CX0 3 T.pairsOf.f T.pairsOf.fd ["plate", "cell"] (spPairs T.cP) := by
  refine T.pairsOf.fn.ok scPairs (fun vs H Q E h => ?_) fun cdv A outer s H vs Q E hr h => ?_
  · obtain ⟨a, c, p, rfl, _⟩ := h
    rfl
  obtain ⟨a, c, p, rfl, hp, k, h0, hn, q⟩ := h
  refine ⟨_, pss_cons (sv 2 scPairs.nd (pcall (pv 0) T.scP T.pWidth (ok_width T).toR hr))
    (pss_cons (sv 3 scPairs.nd (pe_op op_sub (pv 1) (pe_op op_mul (pe_op op_fdiv (pv 1) (pv 2)) (pv 2))))
    (pss_cons (sv 4 scPairs.nd (pe_ifO (pt_cmpR op_gt (pv 3) pe_int (nomark _)) (pe_op op_sub (pv 1) pe_int) pe_non))
    (pss_cons (sv 5 scPairs.nd (pe_ifO (pt_cmpR op_lt (pv 3) (pe_op op_sub (pv 2) pe_int) (nomark _)) (pe_op op_add (pv 1) pe_int) pe_non))
    (pss_cons (sv 6 scPairs.nd (pe_ifO (pt_cmpR op_ge (pv 1) (pv 2) (nomark _)) (pe_op op_sub (pv 1) (pv 2)) pe_non))
    (pss_cons (sv 7 scPairs.nd (pe_ifO (pt_cmpR op_lt (pe_op op_add (pv 1) (pv 2)) (pe_lenP T.len T.lenP (ok_len T) hr (pv 0)) (nomark _)) (pe_op op_add (pv 1) (pv 2)) pe_non))
    (pss_one (ps_ret (pe_tup (pa_cons (pe_tup (pa_cons (pv 4) (pa_cons (pv 5) pa_nil))) (pa_cons (pe_tup (pa_cons (pv 6) (pa_cons (pv 7) pa_nil))) pa_nil)))))))))), ?_⟩
  have w1 := k.w1
  have w4 := k.w4
  refine tPl rfl hp k ?_
  have cb := col_bounds k h0
  have n9 := k.n9
  refine ⟨_, rfl, _, rfl, _, rfl, _, _, rfl, rfl, ⟨by omega, by omega⟩, _, rfl, _, _, rfl, rfl, .inr ⟨by omega, by omega⟩, _, _, rfl, rfl, ?_⟩
  refine ⟨0 < colOf p c, inferInstance, c - 1, fun R r => ⟨_, rfl, _, _, rfl, rfl, _, rfl, r⟩, fun R r => ⟨_, rfl, _, _, rfl, rfl, r⟩, fun R r => r, ?_⟩
  refine ⟨colOf p c < p.w - 1, inferInstance, c + 1, fun R r => ⟨_, rfl, _, rfl, _, _, rfl, rfl, _, _, rfl, rfl, _, rfl, r⟩, fun R r => ⟨_, rfl, _, _, rfl, rfl, r⟩, fun R r => r, ?_⟩
  refine ⟨p.w ≤ c, inferInstance, c - p.w, fun R r => ⟨_, rfl, _, rfl, _, _, rfl, rfl, _, rfl, r⟩, fun R r => ⟨_, rfl, _, rfl, _, _, rfl, rfl, r⟩, fun R r => r, ?_⟩
  refine ⟨c + p.w < (p.n : Int), inferInstance, c + p.w, fun R r => ⟨_, rfl, _, rfl, _, _, rfl, rfl, tLenP rfl hp k ⟨_, _, rfl, rfl, _, rfl, r⟩⟩, fun R r => ⟨_, rfl, _, rfl, _, _, rfl, rfl, r⟩, fun R r => r, ?_⟩
  refine ⟨_, rfl, _, rfl, by show 2 ≤ sizeLine; decide, fun u nu => ?_⟩
  refine ⟨_, rfl, _, rfl, by show 2 ≤ sizeLine; decide, fun v nv => ?_⟩
  refine ⟨by show 2 ≤ sizeLine; decide, fun t nt => ?_⟩
  have s1 := same_new (o := .tup [optV (leftOf p c), optV (rightOf p c)]) (Same.refl H) nu
  have s2 := same_new (o := .tup [optV (aboveOf p c), optV (belowOf p c)]) s1 nv
  exact q _ t u v (same_new s2 nt) upd_same (upd_get (upd_get upd_same nv) nt) (upd_get upd_same nt)
end
end M57
/-! Data that can be compared; lists that are made; steps and plates in the heap. -/
namespace M57
open PySem PySem.Spec PyProof.Rows L2
structure Nice (d : PyData) (k : Nat) : Prop where
  lay : d.canLay0 = true
  dep : d.depth ≤ k
structure NiceL (ds : List PyData) (k : Nat) : Prop where
  lay : PyData.canLayAll0 ds = true
  dep : PyData.depthAll ds ≤ k
theorem NiceL.nil {k : Nat} : NiceL [] k := ⟨rfl, by simp [PyData.depthAll]⟩
theorem NiceL.cons {d : PyData} {ds : List PyData} {k : Nat} (h : Nice d k) (t : NiceL ds k) : NiceL (d :: ds) k :=
  ⟨by simp [PyData.canLayAll0, h.lay, t.lay], by have := h.dep; have := t.dep; simp only [PyData.depthAll]; omega⟩
theorem NiceL.all {k : Nat} : ∀ {ds : List PyData}, (∀ d ∈ ds, Nice d k) → NiceL ds k
  | [], _ => .nil
  | d :: ds, h => .cons (h d (List.mem_cons_self ..)) (.all fun x hx => h x (List.mem_cons_of_mem _ hx))
theorem Nice.int {i : Int} {k : Nat} : Nice (.int i) k := ⟨rfl, by simp [PyData.depth]⟩
theorem Nice.non {k : Nat} : Nice .none k := ⟨rfl, by simp [PyData.depth]⟩
theorem Nice.bl {b : Bool} {k : Nat} : Nice (.bool b) k := ⟨rfl, by simp [PyData.depth]⟩
theorem Nice.str {x : Str} {k : Nat} (h : (PyData.str x).canLay0 = true) : Nice (.str x) k := ⟨h, by simp [PyData.depth]⟩
theorem Nice.tup {ds : List PyData} {k : Nat} (h : NiceL ds k) : Nice (.tuple ds) (k + 1) := ⟨by simp [PyData.canLay0, h.lay], by have := h.dep; simp only [PyData.depth]; omega⟩
theorem Nice.lst {ds : List PyData} {k : Nat} (h : NiceL ds k) : Nice (.list ds) (k + 1) := ⟨by simp [PyData.canLay0, h.lay], by have := h.dep; simp only [PyData.depth]; omega⟩
theorem Nice.mono {d : PyData} {j k : Nat} (h : Nice d j) (e : j ≤ k) : Nice d k := ⟨h.lay, Nat.le_trans h.dep e⟩
theorem Nice.sh {d : PyData} {k : Nat} (h : Nice d k) (e : k ≤ 64 := by decide) : SeqAt.shaped d = true := by
  unfold SeqAt.shaped
  rw [h.lay, Bool.true_and]
  exact decide_eq_true (Nat.le_trans h.dep e)
theorem Nice.self {d : PyData} {k : Nat} (h : Nice d k) : PyData.eqv d d = true := SeqAt.eqv_refl d h.lay
theorem niceInts (ns : List Int) (k : Nat) : NiceL (ns.map PyData.int) k := .all fun d hd => by
  obtain ⟨i, _, rfl⟩ := List.mem_map.mp hd
  exact .int
theorem dpInts {K : PySem.W.Frag} {H : Hp} {d : Addr} {ns : List Int} (h : TupI H d ns) : Dp K H (.ref d) (.tuple (ns.map PyData.int)) := .tup (SqT.of h) (dpAll_ints ns)
theorem niceTup (ns : List Int) : Nice (.tuple (ns.map PyData.int)) 1 := .tup (niceInts ns 0)
theorem eqv_ints : ∀ {a b : List Int}, PyData.eqvAll (a.map PyData.int) (b.map PyData.int) = decide (a = b)
  | [], [] => rfl
  | [], _ :: _ => rfl
  | _ :: _, [] => rfl
  | x :: a, y :: b => by
    have ih := @eqv_ints a b
    simp only [List.map_cons, PyData.eqvAll, PyData.eqv, ih]
    by_cases h : x = y
    · by_cases h2 : a = b <;> simp [h, h2]
    · simp [h]
/-! ### lists that are made -/
/-- D holds the first part, all elder things stand -/
def AccP (H1 : Hp) (D : Addr) (out : Nat → List V) (i : Nat) (H : Hp) : Prop := Same H1 H ∧ H D = some (.lst (out i))
theorem AccP.start {H1 : Hp} {D : Addr} {out : Nat → List V} (n : H1 D = none) (e : out 0 = []) : AccP H1 D out 0 (upd H1 D (.lst [])) := ⟨same_add (Same.refl H1) n, by rw [upd_same, e]⟩
theorem AccP.step {H1 H H4 : Hp} {D : Addr} {out : Nat → List V} {i : Nat} {y : V} (n : H1 D = none) (h : AccP H1 D out i H) (s : Same H H4) (l : (out i).length < sizeLine) (e : out (i + 1) = out i ++ [y]) :
    ∃ acc, H4 D = some (.lst acc) ∧ acc.length < sizeLine ∧ AccP H1 D out (i + 1) (upd H4 D (.lst (acc ++ [y]))) :=
  ⟨out i, s _ _ h.2, l, same_add (h.1.trans s) n, by rw [upd_same, e]⟩
theorem intsV_get {ns : List Int} {i : Nat} {x : V} (h : (intsV ns)[i]? = some x) : ∃ d, ns[i]? = some d ∧ x = .int d := by
  unfold intsV at h
  rw [List.getElem?_map] at h
  cases e : ns[i]? with
  | none =>
    rw [e] at h
    cases h
  | some z =>
    rw [e] at h
    exact ⟨z, rfl, (Option.some.inj h).symm⟩
theorem intsV_len (ns : List Int) : (intsV ns).length = ns.length := List.length_map ..
theorem lcYes {A B : Hp → Prop} {σ : L2.St} {H : Hp} (h : A H) : tYes σ H (fun b H3 => if b = true then A H3 else B H3) := by
  show if true = true then A H else B H
  rw [if_pos rfl]
  exact h
/-- all true -/
def trues (i : Nat) : List V := List.replicate i (.bl true)
theorem trues_succ (i : Nat) : trues (i + 1) = trues i ++ [.bl true] := List.replicate_succ'
theorem trues_len (i : Nat) : (trues i).length = i := List.length_replicate
theorem trues_map (i : Nat) : trues i = (List.replicate i true).map V.bl := by unfold trues; rw [List.map_replicate]
theorem trues_all (i : Nat) : (List.replicate i true).all id = true := by
  rw [List.all_eq_true]
  intro x hx
  exact (List.mem_replicate.mp hx).2
theorem small16 {n : Nat} (h : n ≤ 1000) : n < sizeLine := small1000 h
/-! ### steps -/
def Stp.word : Stp → Str
  | .bath _ => "bath"
  | .burnish _ => "burnish"
  | .cover _ => "cover"
  | .scrape _ => "scrape"
  | .wash => "wash"
/-- what stands behind the word -/
def ArgAt (H : Hp) (r : List V) : Stp → Prop
  | .bath t => r = [.int t]
  | .burnish c => r = [.int c]
  | .scrape c => r = [.int c]
  | .cover cs => ∃ d, r = [.ref d] ∧ TupI H d cs
  | .wash => r = []
def StepAt (H : Hp) (a : Addr) (s : Stp) : Prop := ∃ r, H a = some (.tup (.str s.word :: r)) ∧ ArgAt H r s
theorem ArgAt.same {H H' : Hp} (e : Same H H') : ∀ {s : Stp} {r : List V}, ArgAt H r s → ArgAt H' r s
  | .bath _, _, h => h
  | .burnish _, _, h => h
  | .scrape _, _, h => h
  | .wash, _, h => h
  | .cover _, _, ⟨d, h1, h2⟩ => ⟨d, h1, e _ _ h2⟩
theorem StepAt.same {H H' : Hp} {a : Addr} {s : Stp} (h : StepAt H a s) (e : Same H H') : StepAt H' a s := by
  obtain ⟨r, h1, h2⟩ := h
  exact ⟨r, e _ _ h1, h2.same e⟩
def Stp.data : Stp → List PyData
  | .bath t => [.int t]
  | .burnish c => [.int c]
  | .scrape c => [.int c]
  | .cover cs => [.tuple (cs.map PyData.int)]
  | .wash => []
theorem StepAt.dp {K : PySem.W.Frag} {H : Hp} {a : Addr} {s : Stp} (h : StepAt H a s) : Dp K H (.ref a) (.tuple (.str s.word :: s.data)) := by
  obtain ⟨r, h1, h2⟩ := h
  refine .tup (SqT.of h1) (.cons (.str _) ?_)
  cases s with
  | bath t => cases h2; exact .cons (.int _) .nil
  | burnish t => cases h2; exact .cons (.int _) .nil
  | scrape t => cases h2; exact .cons (.int _) .nil
  | wash => cases h2; exact .nil
  | cover cs =>
    obtain ⟨d, rfl, h⟩ := h2
    exact .cons (dpInts h) .nil
theorem niceStp (s : Stp) : Nice (.tuple (.str s.word :: s.data)) 2 := by
  refine .tup (.cons (.str ?_) ?_)
  · cases s with
    | bath t => exact (by decide +kernel : (PyData.str "bath").canLay0 = true)
    | burnish t => exact (by decide +kernel : (PyData.str "burnish").canLay0 = true)
    | scrape t => exact (by decide +kernel : (PyData.str "scrape").canLay0 = true)
    | wash => exact (by decide +kernel : (PyData.str "wash").canLay0 = true)
    | cover cs => exact (by decide +kernel : (PyData.str "cover").canLay0 = true)
  · cases s with
    | bath t => exact .cons .int .nil
    | burnish t => exact .cons .int .nil
    | scrape t => exact .cons .int .nil
    | wash => exact .nil
    | cover cs => exact .cons (niceTup cs) .nil
theorem StepAt.ex {K : PySem.W.Frag} {H : Hp} {a : Addr} {s : Stp} (h : StepAt H a s) : ∃ r, SqT K H a (.str s.word :: r) ∧ H a = some (.tup (.str s.word :: r)) ∧ r.length ≤ 1 ∧ ArgAt H r s := by
  obtain ⟨r, h1, h2⟩ := h
  refine ⟨r, SqT.of h1, h1, ?_, h2⟩
  cases s with
  | bath t => cases h2; exact Nat.le_refl _
  | burnish t => cases h2; exact Nat.le_refl _
  | scrape t => cases h2; exact Nat.le_refl _
  | wash => cases h2; exact Nat.zero_le _
  | cover cs =>
    obtain ⟨d, rfl, h⟩ := h2
    exact Nat.le_refl _
end M57
/-! Defs, part d: are_depths, check_depths, are_cells. -/
namespace M57
open PySem PySem.Spec PyProof.Rows L2
section
variable {P : Program} {w : World} {K : PySem.W.Frag} {mg : Str → Option Value} {base : Heap}
def spAreD (C : Addr) : Sp := fun vs H Q _ => ∃ a d p ds, vs = [.ref a, .ref d] ∧ PlateAt C H a p ∧ p.Ok ∧ TupI H d ds ∧ OkD p ds ∧ ∀ H', Same H H' → Q (.bl true) H'
theorem scAreD : FnScope ["plate", "value", "depth"] ["plate", "value"] (defScope (topS 24)) := ⟨rfl, rfl, rfl, by decide +kernel, rfl, by decide +kernel, by decide +kernel⟩
theorem ok_areD (T : Txt K w mg) : FnOk P w K mg base CX0 3 T.areDepths.f T.areDepths.fd ["plate", "value"] (spAreD T.cP) := by
  refine T.areDepths.fn.ok scAreD (fun vs H Q E h => ?_) fun cdv A outer s H vs Q E hr h => ?_
  · obtain ⟨a, d, p, ds, rfl, _⟩ := h
    rfl
  obtain ⟨a, d, p, ds, rfl, hp, k, hd, ok, q⟩ := h
  refine ⟨_, pss_cons (ps_if (PW.pt (pw_or (pt_not (pt_val (pe_isi (n := "tuple") T.isi T.tuple_ (pv 1) (by decide +kernel)))) (pw_or1 (pt_cmpR op_ne (pe_callB call_len_seq (by rfl) T.len PySem.boot_len (pa_cons (pv 1) pa_nil)) (pe_lenP T.len T.lenP (ok_len T) hr (pv 0)) (nomark _))))) (pss_one ps_never) pss_nil)
    (pss_one (ps_ret (pe_callB (cr_all rfl) (by rfl) T.all_ (by decide +kernel) (pa_cons
      (pe_lc (own := [("depth", 2)]) (g := gName 2) (tt := tYes) rfl scAreD.nd (pi_tup (pv 1)) (blkOk_by (N := ["plate", "value", "depth"]) (sc := defScope (topS 24)) (by decide +kernel)) (fun _ _ _ _ _ => gn 2 scAreD.nd) (fun _ _ _ _ _ => pts_nil)
        (fun _ _ _ _ _ => dcall T.isNumber (ok_num T) (hr.mono (by decide)) (pa_cons (pv 2) (pa_cons pe_int (pa_cons (pcall (pv 0) T.scP T.pMost (ok_most T).toR hr) pa_nil))))) pa_nil)))), ?_⟩
  refine ⟨_, rfl, _, _, _, _, true, rfl, .ty _, .base (.tup hd), kit_ty (by decide +kernel), true, rfl, ?_⟩
  refine iteF ?_
  refine ⟨_, rfl, d, _, rfl, .inr (SqT.of hd), tLenP rfl hp k ⟨rfl, _, rfl, ?_⟩⟩
  rw [intsV_len, ok.1]
  refine iteNS rfl ?_
  refine ⟨_, rfl, d, rfl, ⟨_, SqT.of hd⟩, fun D nD => lc_tup (xs := intsV ds) (AccP H D trues) (.start nD rfl) (fun i H2 _ p2 => SqT.of (p2.1 _ _ hd)) ?_ ?_⟩
  · intro i x H2 hx p2
    obtain ⟨z, hz, rfl⟩ := intsV_get hx
    have hb := ok.2 z (List.mem_of_getElem? hz)
    have hi : i < 9 + 1 := by
      have := (List.getElem?_eq_some_iff.mp hz).1
      have := ok.1
      have := k.n9
      omega
    refine ⟨rfl, ?_⟩
    refine lcYes ?_
    refine ⟨_, rfl, tPl rfl (hp.same p2.1) k ⟨z, 0, p.most, rfl, ?_⟩⟩
    rw [decide_eq_true (show 0 ≤ z ∧ z ≤ p.most from hb)]
    exact p2.step nD (Same.refl _) (by rw [trues_len]; exact small16 (by omega)) (trues_succ i)
  · intro H2 p2
    refine ⟨D, List.replicate (intsV ds).length true, rfl, .inl (.inl (p2.2.trans (by rw [trues_map]))), ?_⟩
    rw [trues_all]
    exact q _ p2.1
end
end M57
/-! Defs, part e: check_depths, are_cells. -/
namespace M57
open PySem PySem.Spec PyProof.Rows L2 RZ
theorem walk_zipT {K : PySem.W.Frag} {a b : Addr} {xs ys : List V} {n : Nat} (hn : n = min xs.length ys.length) : Walk (ItzT K a b) n (fun H => SqT K H a xs ∧ SqT K H b ys) (YPair (fun i => xs[i]?) (fun i => ys[i]?)) := by
  subst hn
  refine ⟨fun i _ hi q => ?_, fun _ q => ⟨xs, ys, q.1, q.2, by omega⟩, fun i H v H' _ q y => ?_⟩
  · have h1 : i < xs.length := by omega
    have h2 : i < ys.length := by omega
    exact ⟨xs, ys, xs[i], ys[i], q.1, q.2, by simp [h1], by simp [h2]⟩
  · obtain ⟨T, x, z, h1, h2, h3, h4, h5⟩ := y
    exact ⟨T, x, z, h1, h2, h3, h4 xs q.1, h5 ys q.2⟩
section
variable {P : Program} {w : World} {K : PySem.W.Frag} {mg : Str → Option Value} {base : Heap}
def spChkD (C : Addr) : Sp := fun vs H Q _ => ∃ a d p ds, vs = [.ref a, .ref d] ∧ PlateAt C H a p ∧ p.Ok ∧ TupI H d ds ∧ OkD p ds ∧ ∀ H', Same H H' → Q .non H'
theorem scChkD : FnScope ["plate", "value"] ["plate", "value"] (defScope (topS 25)) := ⟨rfl, rfl, rfl, by decide +kernel, rfl, by decide +kernel, by decide +kernel⟩
theorem ok_chkD (T : Txt K w mg) : FnOk P w K mg base CX0 4 T.checkDepths.f T.checkDepths.fd ["plate", "value"] (spChkD T.cP) := by
  refine T.checkDepths.fn.ok scChkD (fun vs H Q E h => ?_) fun cdv A outer s H vs Q E hr h => ?_
  · obtain ⟨a, d, p, ds, rfl, _⟩ := h
    rfl
  obtain ⟨a, d, p, ds, rfl, hp, k, hd, ok, q⟩ := h
  refine ⟨_, pss_one (ps_if (pt_not (pt_val (dcall T.areDepths (ok_areD T) hr (pa_cons (pv 0) (pa_cons (pv 1) pa_nil))))) (pss_one ps_never) pss_nil), ?_⟩
  refine ⟨_, rfl, _, rfl, a, d, p, ds, rfl, hp, k, hd, ok, fun H' s1 => ⟨true, rfl, ?_⟩⟩
  exact iteF (q H' s1)
def spAreC (C : Addr) : Sp := fun vs H Q _ => ∃ a d p cs, vs = [.ref a, .ref d] ∧ PlateAt C H a p ∧ p.Ok ∧ TupI H d cs ∧ OkC p cs ∧ cs ≠ [] ∧ ∀ H', Same H H' → Q (.bl true) H'
theorem scAreC : FnScope ["plate", "value", "cell", "one", "other"] ["plate", "value"] (defScope (topS 26)) := ⟨rfl, rfl, rfl, by decide +kernel, rfl, by decide +kernel, by decide +kernel⟩
theorem ok_areC (T : Txt K w mg) : FnOk P w K mg base CX0 3 T.areCells.f T.areCells.fd ["plate", "value"] (spAreC T.cP) := by
  refine T.areCells.fn.ok scAreC (fun vs H Q E h => ?_) fun cdv A outer s H vs Q E hr h => ?_
  · obtain ⟨a, d, p, ds, rfl, _⟩ := h
    rfl
  obtain ⟨a, d, p, cs, rfl, hp, k, hd, ok, ne, q⟩ := h
  have l9 := ok.len k
  refine ⟨_, pss_cons (ps_if (PW.pt (pw_or (pt_not (pt_val (pe_isi (n := "tuple") T.isi T.tuple_ (pv 1) (by decide +kernel)))) (pw_or1 (pt_not (pt_val (pe_callB (cr_all rfl) (by rfl) T.all_ (by decide +kernel) (pa_cons
      (pe_lc (own := [("cell", 2)]) (g := gName 2) (tt := tYes) rfl scAreC.nd (pi_tup (pv 1)) (blkOk_by (N := ["plate", "value", "cell", "one", "other"]) (sc := defScope (topS 26)) (by decide +kernel)) (fun _ _ _ _ _ => gn 2 scAreC.nd) (fun _ _ _ _ _ => pts_nil)
        (fun _ _ _ _ _ => dcall T.isNumber (ok_num T) (hr.mono (by decide)) (pa_cons (pv 2) (pa_cons pe_int (pa_cons (pe_op op_sub (pe_lenP T.len T.lenP (ok_len T) hr (pv 0)) pe_int) pa_nil))))) pa_nil))))))) (pss_one ps_never) pss_nil)
    (pss_one (ps_ret (pe_callB (cr_all rfl) (by rfl) T.all_ (by decide +kernel) (pa_cons
      (pe_lc (own := [("one", 3), ("other", 4)]) (g := gTup K 2 (gCons (gName 3) (gCons (gName 4) gNil))) (tt := tYes) rfl scAreC.nd (pi_zipA (by rfl) T.zip_ (pa_cons (pv 1) (pa_cons (pe_slice sl_tup (pv 1) (po_some pe_int) po_none) pa_nil))) (blkOk_by (N := ["plate", "value", "cell", "one", "other"]) (sc := defScope (topS 26)) (by decide +kernel))
        (fun _ _ _ _ _ => pg_tup rfl (pgs_cons (gn 3 scAreC.nd) (pgs_cons (gn 4 scAreC.nd) pgs_nil))) (fun _ _ _ _ _ => pts_nil)
        (fun _ _ _ _ _ => pe_cmpR op_lt (pv 3) (pv 4) (nomark _))) pa_nil)))), ?_⟩
  refine ⟨_, rfl, _, _, _, _, true, rfl, .ty _, .base (.tup hd), kit_ty (by decide +kernel), true, rfl, ?_⟩
  refine iteF ?_
  refine ⟨_, rfl, d, rfl, ⟨_, SqT.of hd⟩, fun D nD => lc_tup (xs := intsV cs) (AccP H D trues) (.start nD rfl) (fun i H2 _ p2 => SqT.of (p2.1 _ _ hd)) ?_ ?_⟩
  · intro i x H2 hx p2
    obtain ⟨z, hz, rfl⟩ := intsV_get hx
    have hb := ok.2 z (List.mem_of_getElem? hz)
    have hi : i < 9 + 1 := by
      have := (List.getElem?_eq_some_iff.mp hz).1
      omega
    refine ⟨rfl, ?_⟩
    refine lcYes ?_
    refine ⟨_, rfl, tLenP rfl (hp.same p2.1) k ⟨_, _, rfl, rfl, z, 0, (p.n : Int) - 1, rfl, ?_⟩⟩
    rw [decide_eq_true (show 0 ≤ z ∧ z ≤ (p.n : Int) - 1 from ⟨hb.1, by omega⟩)]
    exact p2.step nD (Same.refl _) (by rw [trues_len]; exact small16 (by omega)) (trues_succ i)
  intro H2 p2
  refine ⟨D, List.replicate (intsV cs).length true, rfl, .inl (.inl (p2.2.trans (by rw [trues_map]))), true, ?_, ?_⟩
  · rw [trues_all]
  refine iteF ?_
  have s1 : Same H H2 := p2.1
  have hd2 := s1 _ _ hd
  cases cs with
  | nil => exact absurd rfl ne
  | cons c0 cr =>
  have ec : cutV (intsV (c0 :: cr)) (some 1) none = intsV cr := by
    simp [cutV, HT.sIx, intsV]
    exact List.take_of_length_le (by simp)
  refine ⟨_, rfl, _, rfl, 1, rfl, d, _, rfl, SqT.of hd2, ?_, fun e ne2 => ?_⟩
  · simp [HT.sIx, intsV]
  rw [ec]
  refine ⟨d, e, intsV (c0 :: cr), intsV cr, rfl, .inr ⟨SqT.of (upd_get hd2 ne2), SqT.of upd_same, fun D2 nD2 => ?_⟩⟩
  have s2 := same_new (o := .tup (intsV cr)) s1 ne2
  refine lc_it (walk_zipT (xs := intsV (c0 :: cr)) (ys := intsV cr) (n := cr.length) (by simp [intsV])) (AccP (upd H2 e (.tup (intsV cr))) D2 trues) (.start nD2 rfl) (fun i H3 _ p3 => ⟨SqT.of (p3.1 _ _ (upd_get hd2 ne2)), SqT.of (p3.1 _ _ upd_same)⟩) ?_ ?_
  · intro i x H3 H4 hi p3 hy
    obtain ⟨Tt, x1, x2, rfl, nT, rfl, e1, e2⟩ := hy
    obtain ⟨z1, h1, rfl⟩ := intsV_get e1
    obtain ⟨z2, h2, rfl⟩ := intsV_get e2
    have lt : z1 < z2 := by
      have h2' : (c0 :: cr)[i + 1]? = some z2 := by simpa using h2
      obtain ⟨b1, e1'⟩ := List.getElem?_eq_some_iff.mp h1
      obtain ⟨b2, e2'⟩ := List.getElem?_eq_some_iff.mp h2'
      rw [← e1', ← e2']
      exact List.pairwise_iff_getElem.mp ok.1 i (i + 1) b1 b2 (Nat.lt_succ_self i)
    refine ⟨Tt, _, rfl, SqT.of upd_same, rfl, _, _, rfl, _, _, rfl, rfl, rfl, ?_⟩
    refine lcYes ?_
    refine ⟨_, rfl, _, rfl, _, _, rfl, rfl, ?_⟩
    have hl : (c0 :: cr).length ≤ 9 := l9
    rw [List.length_cons] at hl
    exact p3.step (y := .bl (decide (z1 < z2))) nD2 (same_new (Same.refl _) nT) (by rw [trues_len]; exact small16 (by omega)) (by rw [trues_succ, decide_eq_true lt])
  · intro H3 p3
    refine ⟨D2, List.replicate cr.length true, rfl, .inl (.inl (p3.2.trans (by rw [trues_map]))), ?_⟩
    rw [trues_all]
    exact q _ (s2.trans p3.1)
end
end M57
/-! Defs, part f: is_step. -/
namespace M57
open PySem PySem.Spec PyProof.Rows L2 RZ
theorem wne {a b : Str} (h : a ≠ b) : decide (V.str a = V.str b) = false := decide_eq_false fun z => h (V.str.inj z)
theorem weq {a : Str} : decide (V.str a = V.str a) = true := decide_eq_true rfl
theorem atI0 {x : V} {xs : List V} : atI (x :: xs) 0 = some x := (atI_nat rfl : atI (x :: xs) ((0 : Nat) : Int) = some x)
section
variable {P : Program} {w : World} {K : PySem.W.Frag} {mg : Str → Option Value} {base : Heap}
def spIsS (C : Addr) : Sp := fun vs H Q _ => ∃ a v p s, vs = [.ref a, .ref v] ∧ PlateAt C H a p ∧ p.Ok ∧ StepAt H v s ∧ OkS p s ∧ ∀ H', Same H H' → Q (.bl true) H'
theorem scIsS : FnScope ["plate", "value", "word", "rest"] ["plate", "value"] (defScope (topS 27)) := ⟨rfl, rfl, rfl, by decide +kernel, rfl, by decide +kernel, by decide +kernel⟩
theorem ok_isS (T : Txt K w mg) : FnOk P w K mg base CX0 4 T.isStep.f T.isStep.fd ["plate", "value"] (spIsS T.cP) := by
  refine T.isStep.fn.ok scIsS (fun vs H Q E h => ?_) fun cdv A outer s H vs Q E hr h => ?_
  · obtain ⟨a, d, p, ds, rfl, _⟩ := h
    rfl
  obtain ⟨a, v, p, st, rfl, hp, k, hv, ok, q⟩ := h
  have hu := hr.units
  refine ⟨_, pss_cons (ps_if (PW.pt (pw_or (pt_not (pt_val (pe_isi (n := "tuple") T.isi T.tuple_ (pv 1) (by decide +kernel)))) (pw_or1 (pt_cmpR (op_eqD hu) (pv 1) (pe_tup pa_nil) (nomark _))))) (pss_one ps_never) pss_nil)
    (pss_cons (ps_asg (pv 1) (pg_star rfl (gn 2 scIsS.nd) (gn 3 scIsS.nd)))
    (pss_cons (ps_if (pt_cmpR op_eq (pv 2) (pe_gv T.wash_) (nomark _)) (pss_one (ps_ret (pe_cmpR (op_eqD hu) (pv 3) (pe_lst pa_nil) (nomark _)))) pss_nil)
    (pss_cons (ps_if (pt_cmpR op_ne (pe_callB call_len_seq (by rfl) T.len PySem.boot_len (pa_cons (pv 3) pa_nil)) pe_int (nomark _)) (pss_one ps_never) pss_nil)
    (pss_cons (ps_if (pt_cmpR op_eq (pv 2) (pe_gv T.cover_) (nomark _)) (pss_one (ps_ret (pe_and (dcall T.areCells (ok_areC T) hr (pa_cons (pv 0) (pa_cons (pe_ix ix_list (pv 3) pe_int (fun _ _ => rfl)) pa_nil)))
        (pe_one (pe_cmpR (op_neD hu) (pe_ix ix_list (pv 3) pe_int (fun _ _ => rfl)) (pe_tup pa_nil) (nomark _)))))) pss_nil)
    (pss_cons (ps_if (pt_cmpR op_eq (pv 2) (pe_gv T.bath_) (nomark _)) (pss_one (ps_ret (dcall T.isNumber (ok_num T) (hr.mono (by decide)) (pa_cons (pe_ix ix_list (pv 3) pe_int (fun _ _ => rfl)) (pa_cons pe_int (pa_cons (pe_gv T.depth) pa_nil)))))) pss_nil)
    (pss_one (ps_ret (pe_and (pe_cmpR op_in_seq (pv 2) (pe_tup (pa_cons (pe_gv T.scrape_) (pa_cons (pe_gv T.burn_) pa_nil))) (by rfl))
        (pe_one (dcall T.isNumber (ok_num T) (hr.mono (by decide)) (pa_cons (pe_ix ix_list (pv 3) pe_int (fun _ _ => rfl)) (pa_cons pe_int (pa_cons (pe_op op_sub (pe_lenP T.len T.lenP (ok_len T) (hr.mono (by decide)) (pv 0)) pe_int) pa_nil))))))))))))), ?_⟩
  obtain ⟨r, hv1, hv2, hrl, ha⟩ := hv.ex (K := K)
  refine ⟨_, rfl, _, _, _, _, true, rfl, .ty _, .base (.tup hv2), kit_ty (by decide +kernel), true, rfl, ?_⟩
  refine iteF ?_
  refine ⟨_, rfl, Nat.zero_le _, fun e ne => ?_⟩
  have s1 := same_new (o := .tup []) (Same.refl H) ne
  refine ⟨_, _, (hv.same s1).dp, .tup (SqT.of upd_same) .nil, (niceStp st).sh, rfl, false, rfl, ?_⟩
  refine iteF ?_
  refine ⟨_, rfl, v, _, r, rfl, SqT.of (s1 _ _ hv2), by omega, fun l nl => ?_⟩
  have s2 := same_new (o := .lst r) s1 nl
  have hl : upd (upd H e (.tup [])) l (.lst r) l = some (.lst r) := upd_same
  have hp2 := hp.same s2
  have ha2 := ha.same s2
  generalize upd (upd H e (.tup [])) l (.lst r) = H2 at s2 hl hp2 ha2 ⊢
  cases st with
  | wash =>
    cases ha
    refine ⟨_, rfl, rfl, _, rfl, nameT weq ?_⟩
    refine ⟨_, rfl, Nat.zero_le _, fun e2 ne2 => ?_⟩
    exact ⟨_, _, .lst (.inl (.inl (upd_get hl ne2))) .nil, .lst (.inl (.inl upd_same)) .nil, rfl, rfl, q _ (same_new s2 ne2)⟩
  | cover cs =>
    obtain ⟨d, rfl, hd⟩ := ha2
    refine ⟨_, rfl, rfl, _, rfl, nameF (wne (a := "cover") (by decide)) ?_⟩
    refine ⟨_, rfl, l, _, rfl, .inl (.inl (.inl hl)), rfl, _, rfl, iteNS rfl ?_⟩
    refine ⟨_, rfl, rfl, _, rfl, nameT weq ?_⟩
    refine ⟨_, rfl, _, rfl, l, _, _, _, rfl, rfl, .inl (.inl hl), atI0, a, d, p, cs, rfl, hp2, k, hd, ok.2, ok.1, fun H3 s3 => ⟨true, rfl, iteT ?_⟩⟩
    refine ⟨_, rfl, l, _, _, _, rfl, rfl, .inl (.inl (s3 _ _ hl)), atI0, Nat.zero_le _, fun e2 ne2 => ?_⟩
    refine ⟨_, _, dpInts (upd_get (s3 _ _ hd) ne2), .tup (SqT.of upd_same) .nil, (niceTup cs).sh, rfl, ?_⟩
    have ee : PyData.eqv (.tuple (cs.map PyData.int)) (.tuple []) = false := by
      have := ok.1
      cases cs with
      | nil => exact absurd rfl this
      | cons c r => rfl
    rw [ee]
    exact q _ (same_new (s2.trans s3) ne2)
  | bath t =>
    cases ha
    refine ⟨_, rfl, rfl, _, rfl, nameF (wne (a := "bath") (by decide)) ?_⟩
    refine ⟨_, rfl, l, _, rfl, .inl (.inl (.inl hl)), rfl, _, rfl, iteNS rfl ?_⟩
    refine ⟨_, rfl, rfl, _, rfl, nameF (wne (a := "bath") (by decide)) ?_⟩
    refine ⟨_, rfl, rfl, _, rfl, nameT weq ?_⟩
    refine ⟨_, rfl, l, _, _, _, rfl, rfl, .inl (.inl hl), atI0, t, 1, 9, rfl, ?_⟩
    rw [decide_eq_true (show 1 ≤ t ∧ t ≤ 9 from ok)]
    exact q _ s2
  | scrape t =>
    cases ha
    refine ⟨_, rfl, rfl, _, rfl, nameF (wne (a := "scrape") (by decide)) ?_⟩
    refine ⟨_, rfl, l, _, rfl, .inl (.inl (.inl hl)), rfl, _, rfl, iteNS rfl ?_⟩
    refine ⟨_, rfl, rfl, _, rfl, nameF (wne (a := "scrape") (by decide)) ?_⟩
    refine ⟨_, rfl, rfl, _, rfl, nameF (wne (a := "scrape") (by decide)) ?_⟩
    refine ⟨_, rfl, by show 2 ≤ sizeLine; decide, fun e2 ne2 => ?_⟩
    refine ⟨e2, _, rfl, .inr (SqT.of upd_same), rfl, rfl, true, rfl, iteT ?_⟩
    refine ⟨_, rfl, l, _, _, _, rfl, rfl, .inl (.inl (upd_get hl ne2)), atI0, ?_⟩
    refine tLenP rfl (hp2.same (same_new (Same.refl _) ne2)) k ⟨_, _, rfl, rfl, t, 0, (p.n : Int) - 1, rfl, ?_⟩
    have ok2 : 0 ≤ t ∧ t < (p.n : Int) := ok
    rw [decide_eq_true (show 0 ≤ t ∧ t ≤ (p.n : Int) - 1 from ⟨ok2.1, by omega⟩)]
    exact q _ (same_new s2 ne2)
  | burnish t =>
    cases ha
    refine ⟨_, rfl, rfl, _, rfl, nameF (wne (a := "burnish") (by decide)) ?_⟩
    refine ⟨_, rfl, l, _, rfl, .inl (.inl (.inl hl)), rfl, _, rfl, iteNS rfl ?_⟩
    refine ⟨_, rfl, rfl, _, rfl, nameF (wne (a := "burnish") (by decide)) ?_⟩
    refine ⟨_, rfl, rfl, _, rfl, nameF (wne (a := "burnish") (by decide)) ?_⟩
    refine ⟨_, rfl, by show 2 ≤ sizeLine; decide, fun e2 ne2 => ?_⟩
    refine ⟨e2, _, rfl, .inr (SqT.of upd_same), rfl, rfl, true, rfl, iteT ?_⟩
    refine ⟨_, rfl, l, _, _, _, rfl, rfl, .inl (.inl (upd_get hl ne2)), atI0, ?_⟩
    refine tLenP rfl (hp2.same (same_new (Same.refl _) ne2)) k ⟨_, _, rfl, rfl, t, 0, (p.n : Int) - 1, rfl, ?_⟩
    have ok2 : 0 ≤ t ∧ t < (p.n : Int) := ok
    rw [decide_eq_true (show 0 ≤ t ∧ t ≤ (p.n : Int) - 1 from ⟨ok2.1, by omega⟩)]
    exact q _ (same_new s2 ne2)
end
end M57
/-! Defs, part g: wrong_step, check_recipe. -/
namespace M57
open PySem PySem.Spec PyProof.Rows L2 RZ
theorem walk_eT {K : PySem.W.Frag} {a : Addr} {xs : List V} : Walk (IteT K a) xs.length (fun H => SqT K H a xs) (YPair (fun i => some (.int (i : Nat))) (fun i => xs[i]?)) := by
  refine ⟨fun i _ hi q => ⟨xs, xs[i], q, by simp [hi]⟩, fun _ q => ⟨xs, q, rfl⟩, fun i H v H' _ q y => ?_⟩
  obtain ⟨T, x, h1, h2, h3, h4⟩ := y
  exact ⟨T, .int (i : Nat), x, h1, h2, h3, rfl, h4 xs q⟩
/-- a recipe's steps -/
structure StepsAt (H : Hp) (as : List Addr) (ss : List Stp) : Prop where
  len : as.length = ss.length
  at_ : ∀ (i : Nat) (a : Addr), as[i]? = some a → ∃ s, ss[i]? = some s ∧ StepAt H a s
theorem StepsAt.same {H H' : Hp} {as : List Addr} {ss : List Stp} (h : StepsAt H as ss) (e : Same H H') : StepsAt H' as ss :=
  ⟨h.len, fun i a q => let ⟨s, h1, h2⟩ := h.at_ i a q; ⟨s, h1, h2.same e⟩⟩
theorem refs_get {as : List Addr} {i : Nat} {x : V} (h : (as.map V.ref)[i]? = some x) : ∃ a, as[i]? = some a ∧ x = .ref a := by
  rw [List.getElem?_map] at h
  cases e : as[i]? with
  | none =>
    rw [e] at h
    cases h
  | some z =>
    rw [e] at h
    exact ⟨z, rfl, (Option.some.inj h).symm⟩
/-- a recipe: a tuple of steps, all of them good, few -/
structure RecAt (H : Hp) (r : Addr) (p : Pl) (ss : List Stp) : Prop where
  ex : ∃ as : List Addr, H r = some (.tup (as.map V.ref)) ∧ StepsAt H as ss
  ok : ∀ s ∈ ss, OkS p s
  few : ss.length ≤ 6
theorem RecAt.same {H H' : Hp} {r : Addr} {p : Pl} {ss : List Stp} (h : RecAt H r p ss) (e : Same H H') : RecAt H' r p ss :=
  ⟨let ⟨as, h1, h2⟩ := h.ex; ⟨as, e _ _ h1, h2.same e⟩, h.ok, h.few⟩
section
variable {P : Program} {w : World} {K : PySem.W.Frag} {mg : Str → Option Value} {base : Heap}
def spWrong (C : Addr) : Sp := fun vs H Q _ => ∃ a r p ss, vs = [.ref a, .ref r] ∧ PlateAt C H a p ∧ p.Ok ∧ RecAt H r p ss ∧ ∀ H', Same H H' → Q .non H'
theorem scWrong : FnScope ["plate", "recipe", "index", "step"] ["plate", "recipe"] (defScope (topS 28)) := ⟨rfl, rfl, rfl, by decide +kernel, rfl, by decide +kernel, by decide +kernel⟩
theorem ok_wrong (T : Txt K w mg) : FnOk P w K mg base CX0 5 T.wrongStep.f T.wrongStep.fd ["plate", "recipe"] (spWrong T.cP) := by
  refine T.wrongStep.fn.ok scWrong (fun vs H Q E h => ?_) fun cdv A outer s H vs Q E hr h => ?_
  · obtain ⟨a, d, p, ds, rfl, _⟩ := h
    rfl
  obtain ⟨a, r, p, ss, rfl, hp, k, hre, q⟩ := h
  refine ⟨_, pss_cons (ps_for PassesOwn.never rfl (pi_enumT (by rfl) T.enum (pa_cons (pv 1) pa_nil)) (pg_tup rfl (pgs_cons (gn 2 scWrong.nd) (pgs_cons (gn 3 scWrong.nd) pgs_nil)))
      (pss_one (ps_if (PW.pt (pw_or (pt_cmpR op_eq (pv 2) (pe_gv T.steps) (nomark _)) (pw_or1 (pt_not (pt_val (dcall T.isStep (ok_isS T) hr (pa_cons (pv 0) (pa_cons (pv 3) pa_nil)))))))) (pss_one ps_never) pss_nil)))
    (pss_one (ps_ret pe_non)), ?_⟩
  obtain ⟨as, hr1, hs1⟩ := hre.ex
  have few := hre.few
  refine ⟨_, rfl, r, _, rfl, SqT.of hr1, for_it (walk_eT (xs := as.map V.ref)) (fun i σ H' => (∃ u v, σ = [some (.ref a), some (.ref r), u, v]) ∧ Same H H') ⟨⟨none, none, rfl⟩, Same.refl H⟩ (fun i σ H' _ p2 => SqT.of (p2.2 _ _ hr1)) ?_ ?_⟩
  · rintro i x σ H1 H2 hi ⟨⟨u, v, rfl⟩, s1⟩ ⟨Tt, x1, x2, rfl, nT, rfl, e1, e2⟩
    cases e1
    obtain ⟨b, hb, rfl⟩ := refs_get e2
    obtain ⟨st, hst, hat⟩ := hs1.at_ i b hb
    have hi2 : i < ss.length := (List.getElem?_eq_some_iff.mp hst).1
    have s2 := same_new (o := .tup [.int (i : Nat), .ref b]) s1 nT
    refine ⟨Tt, _, rfl, SqT.of upd_same, rfl, _, _, rfl, _, _, rfl, rfl, ?_⟩
    refine ⟨_, rfl, rfl, _, rfl, ?_⟩
    refine nameF (decide_eq_false fun z => ?_) ?_
    · have := V.int.inj z
      omega
    refine ⟨_, rfl, _, rfl, a, b, p, st, rfl, hp.same s2, k, hat.same s2, hre.ok st (List.mem_of_getElem? hst), fun H3 s3 => ⟨true, rfl, iteF ?_⟩⟩
    exact ⟨⟨_, _, rfl⟩, s2.trans s3⟩
  · rintro σ H1 ⟨_, s1⟩
    exact q _ s1
def spChkR (C : Addr) : Sp := fun vs H Q _ => ∃ a r p ss, vs = [.ref a, .ref r] ∧ PlateAt C H a p ∧ p.Ok ∧ RecAt H r p ss ∧ ∀ H', Same H H' → Q .non H'
theorem scChkR : FnScope ["plate", "recipe", "index"] ["plate", "recipe"] (defScope (topS 29)) := ⟨rfl, rfl, rfl, by decide +kernel, rfl, by decide +kernel, by decide +kernel⟩
theorem ok_chkR (T : Txt K w mg) : FnOk P w K mg base CX0 6 T.checkRecipe.f T.checkRecipe.fd ["plate", "recipe"] (spChkR T.cP) := by
  refine T.checkRecipe.fn.ok scChkR (fun vs H Q E h => ?_) fun cdv A outer s H vs Q E hr h => ?_
  · obtain ⟨a, d, p, ds, rfl, _⟩ := h
    rfl
  obtain ⟨a, r, p, ss, rfl, hp, k, hre, q⟩ := h
  refine ⟨_, pss_cons (sv 2 scChkR.nd (dcall T.wrongStep (ok_wrong T) hr (pa_cons (pv 0) (pa_cons (pv 1) pa_nil))))
    (pss_one (ps_if (pt_cmpR op_notN (pv 2) pe_non (nomark _)) (pss_one ps_never) pss_nil)), ?_⟩
  refine ⟨_, rfl, _, rfl, a, r, p, ss, rfl, hp, k, hre, fun H1 s1 => ?_⟩
  refine ⟨_, rfl, rfl, _, rfl, iteF ?_⟩
  exact q _ s1
end
end M57
/-! Defs, part h: fallen_depth. -/
namespace M57
open PySem PySem.Spec PyProof.Rows L2 RZ
/-- all but the things at ps stand -/
def Kp (ps : List Addr) (H H' : Hp) : Prop := ∀ b o, b ∉ ps → H b = some o → H' b = some o
theorem Kp.refl (ps : List Addr) (H : Hp) : Kp ps H H := fun _ _ _ h => h
theorem Kp.trans {ps : List Addr} {H H1 H2 : Hp} (a : Kp ps H H1) (b : Kp ps H1 H2) : Kp ps H H2 := fun c o n h => b c o n (a c o n h)
theorem Kp.of {ps : List Addr} {H H' : Hp} (s : Same H H') : Kp ps H H' := fun b o _ h => s b o h
theorem Kp.put {ps : List Addr} {H H' : Hp} {l : Addr} {o : HO} (k : Kp ps H H') (h : l ∈ ps) : Kp ps H (upd H' l o) := fun b u n e => by
  rw [upd_ne (fun z : b = l => n (by rw [z]; exact h))]
  exact k b u n e
theorem Kp.new {ps : List Addr} {H H' : Hp} {l : Addr} {o : HO} (k : Kp ps H H') (n : H' l = none) : Kp ps H (upd H' l o) := fun b u m e => upd_get (k b u m e) n
/-- what is new stays out of sight of the elder -/
theorem Kp.same {ps : List Addr} {H0 H H' : Hp} (s : Same H0 H) (k : Kp ps H H') (n : ∀ l ∈ ps, H0 l = none) : Same H0 H' := fun b o e => k b o (fun z => by
  rw [n b z] at e
  cases e) (s b o e)
theorem Kp.mono {ps qs : List Addr} {H H' : Hp} (k : Kp ps H H') (h : ∀ a ∈ ps, a ∈ qs) : Kp qs H H' := fun b o n e => k b o (fun z => n (h b z)) e
theorem atI_ints {ds : List Int} {c : Int} (h0 : 0 ≤ c) (h : c < (ds.length : Int)) : atI (intsV ds) c = some (.int (at0 ds c)) := by
  have e : c = ((c.toNat : Nat) : Int) := by omega
  have hl : c.toNat < ds.length := by omega
  rw [e]
  refine atI_nat ?_
  unfold intsV at0
  rw [List.getElem?_map, List.getD_eq_getElem?_getD, List.getElem?_eq_getElem hl]
  have e2 : (((c.toNat : Nat) : Int)).toNat = c.toNat := by omega
  rw [e2, List.getElem?_eq_getElem hl]
  rfl
section
variable {P : Program} {w : World} {K : PySem.W.Frag} {mg : Str → Option Value} {base : Heap}
def spFallen (C : Addr) : Sp := fun vs H Q _ => ∃ a d c p ds f, vs = [.ref a, .ref d, .int c] ∧ PlateAt C H a p ∧ p.Ok ∧ p.fall = some f ∧ TupI H d ds ∧ ds.length = p.n ∧ 0 ≤ c ∧ c < (p.n : Int) ∧ ∀ H', Same H H' → Q (optV (fallen p ds f c)) H'
theorem scFallen : FnScope ["plate", "depths", "cell", "found", "one", "other", "depth"] ["plate", "depths", "cell"] (defScope (topS 31)) := ⟨rfl, rfl, rfl, by decide +kernel, rfl, by decide +kernel, by decide +kernel⟩
theorem ok_fallen (T : Txt K w mg) : FnOk P w K mg base CX0 4 T.fallenDepth.f T.fallenDepth.fd ["plate", "depths", "cell"] (spFallen T.cP) := by
  refine T.fallenDepth.fn.ok scFallen (fun vs H Q E h => ?_) fun cdv A outer s H vs Q E hr h => ?_
  · obtain ⟨a, d, c, p, ds, f, rfl, _⟩ := h
    rfl
  obtain ⟨a, d, c, p, ds, f, rfl, hp, k, hf, hd, hl, h0, hn, q⟩ := h
  have hu := hr.units
  refine ⟨_, pss_cons (sv 3 scFallen.nd (pe_lst pa_nil))
    (pss_cons (ps_for PassesOwn.never rfl (pi_tup (dcall T.pairsOf (ok_pairs T) hr (pa_cons (pv 0) (pa_cons (pv 2) pa_nil)))) (pg_tup rfl (pgs_cons (gn 4 scFallen.nd) (pgs_cons (gn 5 scFallen.nd) pgs_nil)))
      (pss_one (ps_if (PW.pt (pw_and (pt_cmpR op_notN (pv 4) pe_non (nomark _)) (pw_and1 (pt_cmpR op_notN (pv 5) pe_non (nomark _)))))
        (pss_cons (sv 6 scFallen.nd (pe_callB (call_min2 rfl) (by rfl) T.min_ (by decide +kernel) (pa_cons (pe_ix ix_tup (pv 1) (pv 4) (fun _ _ => rfl)) (pa_cons (pe_ix ix_tup (pv 1) (pv 5) (fun _ _ => rfl)) pa_nil))))
        (pss_one (ps_if (pt_cmpR op_ge (pv 6) (pe_op op_add (pe_ix ix_tup (pv 1) (pv 2) (fun _ _ => rfl)) (pcall (pv 0) T.scP T.pFall (ok_fall T).toR (hr.mono (by decide)))) (nomark _))
          (pss_one (ps_expr (pe_bm PySem.F.plainAttrs_list PySem.F.slot_list_append PySem.F.type_list_append mt_append (pv 3) (pa_cons (pv 6) pa_nil)))) pss_nil))) pss_nil)))
    (pss_one (ps_ret (pe_callBK (cr_maxN rfl hu) (by rfl) T.max_ (by decide +kernel) (pa_cons (pv 3) pa_nil) (pk_cons pe_non pk_nil))))), ?_⟩
  refine ⟨Nat.zero_le _, fun F nF => ?_⟩
  have hp1 := hp.same (same_new (o := .lst []) (Same.refl H) nF)
  refine ⟨_, rfl, _, rfl, a, c, p, rfl, hp1, k, h0, hn, fun H1 t u v s1 ht hu1 hv1 => ?_⟩
  have s0 : Same H H1 := (same_new (Same.refl H) nF).trans s1
  have hF1 : H1 F = some (.lst []) := s1 _ _ upd_same
  let acc : Nat → List Int := fun i => match i with
    | 0 => []
    | 1 => pairD p ds c f (leftOf p c) (rightOf p c)
    | _ => pairD p ds c f (leftOf p c) (rightOf p c) ++ pairD p ds c f (aboveOf p c) (belowOf p c)
  have items : ∀ (i : Nat) (x : V), ([V.ref u, V.ref v])[i]? = some x → ∃ (t : Addr) (x1 y1 : Option Int), x = .ref t ∧ H1 t = some (.tup [optV x1, optV y1]) ∧ t ≠ F ∧ (∀ a, x1 = some a → 0 ≤ a ∧ a < (p.n : Int)) ∧ (∀ a, y1 = some a → 0 ≤ a ∧ a < (p.n : Int)) ∧
      acc (i + 1) = acc i ++ pairD p ds c f x1 y1 ∧ i < 2 := by
    intro i x hx
    have nF2 : ∀ {b : Addr} {xs : List V}, H1 b = some (.tup xs) → b ≠ F := fun e z => by
      rw [z, hF1] at e
      cases e
    match i, hx with
    | 0, hx => exact ⟨u, _, _, (Option.some.inj hx).symm, hu1, nF2 hu1, fun a => left_ok k h0 hn, fun a => right_ok k h0 hn, rfl, by decide⟩
    | 1, hx => exact ⟨v, _, _, (Option.some.inj hx).symm, hv1, nF2 hv1, fun a => above_ok k h0 hn, fun a => below_ok k h0 hn, rfl, by decide⟩
    | _ + 2, hx => simp at hx
  have accl : ∀ i, (acc i).length ≤ 2 := by
    have p1 : ∀ x y, (pairD p ds c f x y).length ≤ 1 := by
      intro x y
      unfold pairD
      split
      · split <;> simp
      · simp
    intro i
    match i with
    | 0 => exact Nat.zero_le _
    | 1 => exact Nat.le_trans (p1 _ _) (by decide)
    | _ + 2 =>
      show (pairD p ds c f (leftOf p c) (rightOf p c) ++ pairD p ds c f (aboveOf p c) (belowOf p c)).length ≤ 2
      rw [List.length_append]
      have := p1 (leftOf p c) (rightOf p c)
      have := p1 (aboveOf p c) (belowOf p c)
      omega
  have dF : d ≠ F := fun z => by
    have hd' : H d = some (.tup (intsV ds)) := hd
    rw [z, nF] at hd'
    cases hd'
  have same : ∀ {H2 : Hp}, Kp [F] H1 H2 → Same H H2 := fun kp => Kp.same s0 kp fun l hl => by
    rw [List.mem_singleton.mp hl]
    exact nF
  have tF : t ≠ F := fun z => by
    rw [z, hF1] at ht
    cases ht
  refine ⟨t, rfl, ⟨_, SqT.of ht⟩, for_tup (K := K) (a := t) (xs := [V.ref u, V.ref v]) (fun i σ H2 => (∃ x y z, σ = [some (.ref a), some (.ref d), some (.int c), some (.ref F), x, y, z]) ∧ Kp [F] H1 H2 ∧ H2 F = some (.lst (intsV (acc i))))
    ⟨⟨none, none, none, rfl⟩, Kp.refl _ _, hF1⟩ (fun i σ H2 _ p2 => SqT.of (p2.2.1 _ _ (by simpa using tF) ht)) ?_ ?_⟩
  · rintro i x σ H2 hx ⟨⟨x0, y0, z0, rfl⟩, kp, hF2⟩
    obtain ⟨tt, x1, y1, rfl, htt, ttF, b1, b2, ea, i2⟩ := items i x hx
    have htt2 := kp _ _ (by simpa using ttF) htt
    have hd2 := kp _ _ (by simpa using dF) (s0 _ _ hd)
    have hp2 := hp.same (same kp)
    refine ⟨tt, _, rfl, SqT.of htt2, rfl, _, _, rfl, _, _, rfl, rfl, ?_⟩
    have skip : pairD p ds c f x1 y1 = [] → H2 F = some (.lst (intsV (acc (i + 1)))) := fun e => by
      rw [ea, e, List.append_nil]
      exact hF2
    cases x1 with
    | none =>
      refine ⟨_, rfl, rfl, _, rfl, iteF ?_⟩
      exact ⟨⟨_, _, _, rfl⟩, kp, skip rfl⟩
    | some x1 =>
      refine ⟨_, rfl, rfl, _, rfl, iteT ?_⟩
      cases y1 with
      | none =>
        refine ⟨_, rfl, rfl, _, rfl, iteF ?_⟩
        exact ⟨⟨_, _, _, rfl⟩, kp, skip rfl⟩
      | some y1 =>
        refine ⟨_, rfl, rfl, _, rfl, iteT ?_⟩
        obtain ⟨b10, b11⟩ := b1 _ rfl
        obtain ⟨b20, b21⟩ := b2 _ rfl
        refine ⟨_, rfl, _, rfl, d, _, _, _, rfl, rfl, SqT.of hd2, atI_ints b10 (by omega), _, rfl, _, rfl, d, _, _, _, rfl, rfl, SqT.of hd2, atI_ints b20 (by omega), _, _, rfl, ?_⟩
        refine ⟨_, rfl, _, rfl, _, rfl, d, _, _, _, rfl, rfl, SqT.of hd2, atI_ints h0 (by omega), ?_⟩
        refine tPl rfl hp2 k ?_
        rw [hf]
        refine ⟨_, _, rfl, rfl, _, _, rfl, rfl, _, rfl, ?_⟩
        refine ite2 (fun z => ?_) (fun z => ?_)
        · have z : at0 ds c + f ≤ mn (at0 ds x1) (at0 ds y1) := of_decide_eq_true z
          have e1 : pairD p ds c f (some x1) (some y1) = [mn (at0 ds x1) (at0 ds y1)] := if_pos z
          refine ⟨_, rfl, .inl ⟨rfl, _, .inl (.inl hF2)⟩, _, rfl, F, _, _, rfl, rfl, hF2, ?_, ?_⟩
          · rw [intsV_len]
            exact small16 (Nat.le_trans (accl i) (by decide))
          · refine ⟨⟨_, _, _, rfl⟩, kp.put (by simp), ?_⟩
            rw [upd_same, ea, e1]
            simp [intsV, mn]
        · have z : ¬ at0 ds c + f ≤ mn (at0 ds x1) (at0 ds y1) := of_decide_eq_false (Bool.eq_false_iff.mpr z)
          exact ⟨⟨_, _, _, rfl⟩, kp, skip (if_neg z)⟩
  · rintro σ H2 ⟨⟨x0, y0, z0, rfl⟩, kp, hF2⟩
    refine ⟨_, rfl, F, _, rfl, rfl, .inl (.inl hF2), ?_⟩
    have := q _ (same kp)
    show Q _ H2
    unfold fallen at this
    show Q (match acc 2 with | [] => .non | n :: r => .int (r.foldl max n)) H2
    have e : (match acc 2 with | [] => V.non | n :: r => .int (r.foldl max n)) = optV (maxN (acc 2)) := by
      cases acc 2 <;> rfl
    rw [e]
    exact this
end
end M57
/-! Defs, part i: falls. -/
namespace M57
open PySem PySem.Spec PyProof.Rows L2 RZ
theorem dc_it {J : It} {n : Nat} {G : Hp → Prop} {Y : Nat → Hp → V → Hp → Prop} (w : Walk J n G Y) {g : TG} {tt : TT} {tk tv : TE} {vs : List Nat} {σ : L2.St} {H1 : Hp} {D : Addr} {Qd : Hp → Prop} (Pv : Nat → Hp → Prop) (h0 : Pv 0 (upd H1 D (.dK []))) (hG : ∀ i H, i ≤ n → Pv i H → G H)
    (hs : ∀ i x H H', i < n → Pv i H → Y i H x H' → g x (wipe σ vs) H' fun σ2 H2 => wipe σ2 vs = wipe σ vs ∧ tt σ2 H2 fun b H3 =>
      if b = true then tk σ2 H3 fun y H4 => tv σ2 H4 fun z H5 => ∃ kvs k, y = kV k ∧ H5 D = some (.dK kvs) ∧ kvs.length < sizeLine ∧ Pv (i + 1) (upd H5 D (.dK (putK kvs k z))) else Pv (i + 1) H3) (hd : ∀ H, Pv n H → Qd H) :
    ∃ W : Nat → Nat → Hp → Prop, (∃ m, W 0 m (upd H1 D (.dK []))) ∧ ∀ i m H, W i m H →
      (J.stop i H ∧ Qd H) ∨ (J.go i H ∧ ∃ Nx : Hp → Prop, (∀ H', Nx H' → ∃ m', m' < m ∧ W (i + 1) m' H') ∧ ∀ x H', J.yld i H x H' → g x (wipe σ vs) H' fun σ2 H2 => wipe σ2 vs = wipe σ vs ∧ tt σ2 H2 fun b H3 =>
        if b = true then tk σ2 H3 fun y H4 => tv σ2 H4 fun z H5 => ∃ kvs k, y = kV k ∧ H5 D = some (.dK kvs) ∧ kvs.length < sizeLine ∧ Nx (upd H5 D (.dK (putK kvs k z))) else Nx H3) := by
  refine ⟨fun i m H => m = n - i ∧ i ≤ n ∧ Pv i H, ⟨n, by simp, Nat.zero_le _, h0⟩, ?_⟩
  rintro i m H ⟨rfl, hi, p⟩
  have q := hG i H hi p
  by_cases hlt : i < n
  · exact .inr ⟨w.goes i H hlt q, Pv (i + 1), fun H' p' => ⟨n - (i + 1), by omega, rfl, hlt, p'⟩, fun x H' y => hs i x H H' hlt p (w.yields i H x H' hlt q y)⟩
  · have e : i = n := by omega
    subst e
    exact .inl ⟨w.stops H q, hd H p⟩
/-- the falls, as a dict's entries -/
def fallsK (l : List (Int × Int)) : List (Key × V) := l.map fun q => (Sum.inl q.1, V.int q.2)
theorem rowsTo_succ (p : Pl) (ds : List Int) (f : Int) (i : Nat) : rowsTo p ds f (i + 1) = rowsTo p ds f i ++ [((i : Int), fallen p ds f (i : Int))] := by
  unfold rowsTo
  rw [List.range_succ, List.map_append]
  rfl
theorem pick_app (a b : List (Int × Option Int)) : pick (a ++ b) = pick a ++ pick b := List.filterMap_append
theorem pick_lt {p : Pl} {ds : List Int} {f : Int} {i : Nat} {q : Int × Int} (h : q ∈ pick (rowsTo p ds f i)) : q.1 < (i : Int) := by
  unfold pick rowsTo at h
  obtain ⟨⟨c, o⟩, h1, h2⟩ := List.mem_filterMap.mp h
  obtain ⟨j, hj, e⟩ := List.mem_map.mp h1
  cases e
  cases ef : fallen p ds f (j : Int) with
  | none =>
    rw [ef] at h2
    cases h2
  | some d =>
    rw [ef] at h2
    cases h2
    have := List.mem_range.mp hj
    show (j : Int) < i
    omega
theorem pick_len {p : Pl} {ds : List Int} {f : Int} {i : Nat} : (pick (rowsTo p ds f i)).length ≤ i := by
  refine Nat.le_trans (List.length_filterMap_le _ _) ?_
  unfold rowsTo
  simp
theorem put_new {l : List (Int × Int)} {c d : Int} (h : ∀ q ∈ l, q.1 < c) : putK (fallsK l) (Sum.inl c : Key) (.int d) = fallsK (l ++ [(c, d)]) := by
  unfold putK
  rw [if_neg]
  · simp [fallsK]
  · intro z
    obtain ⟨q, hq, e⟩ := List.any_eq_true.mp z
    obtain ⟨r, hr, rfl⟩ := List.mem_map.mp hq
    have e := of_decide_eq_true e
    have := h r hr
    have := Sum.inl.inj e
    omega
section
variable {P : Program} {w : World} {K : PySem.W.Frag} {mg : Str → Option Value} {base : Heap}
def spFalls (C : Addr) : Sp := fun vs H Q _ => ∃ a d p ds, vs = [.ref a, .ref d] ∧ PlateAt C H a p ∧ p.Ok ∧ TupI H d ds ∧ ds.length = p.n ∧ ∀ H' e, Same H H' → H' e = some (.dK (fallsK (falls p ds))) → Q (.ref e) H'
theorem scFalls : FnScope ["plate", "depths", "rows", "cell", "depth"] ["plate", "depths"] (defScope (topS 32)) := ⟨rfl, rfl, rfl, by decide +kernel, rfl, by decide +kernel, by decide +kernel⟩
theorem ok_falls (T : Txt K w mg) : FnOk P w K mg base CX0 5 T.fallsD.f T.fallsD.fd ["plate", "depths"] (spFalls T.cP) := by
  refine T.fallsD.fn.ok scFalls (fun vs H Q E h => ?_) fun cdv A outer s H vs Q E hr h => ?_
  · obtain ⟨a, d, p, ds, rfl, _⟩ := h
    rfl
  obtain ⟨a, d, p, ds, rfl, hp, k, hd, hl, q⟩ := h
  have n9 := k.n9
  refine ⟨_, pss_cons (ps_if (pt_cmpR op_isN (pcall (pv 0) T.scP T.pFall (ok_fall T).toR (hr.mono (by decide))) pe_non (nomark _)) (pss_one (ps_ret pe_dnewK)) pss_nil)
    (pss_cons (ps_setLc (i := 2) (own := [("cell", 3)]) (g := gName 3) (tt := tYes) rfl scFalls.nd rfl rfl (sw_true rfl rfl rfl (by decide +kernel)) (pi_range1 (by rfl) T.range_ (pa_cons (pe_lenP T.len T.lenP (ok_len T) (hr.mono (by decide)) (pv 0)) pa_nil))
      (blkOk_by (N := ["plate", "depths", "rows", "cell", "depth"]) (sc := defScope (topS 32)) (by decide +kernel)) (fun _ _ _ _ _ => gn 3 scFalls.nd) (fun _ _ _ _ _ => pts_nil)
      (fun _ _ _ _ _ => pe_tup (pa_cons (pv 3) (pa_cons (dcall T.fallenDepth (ok_fallen T) hr (pa_cons (pv 0) (pa_cons (pv 1) (pa_cons (pv 3) pa_nil)))) pa_nil))))
    (pss_one (ps_ret (pe_dc (own := [("cell", 3), ("depth", 4)]) (g := gTup K 2 (gCons (gName 3) (gCons (gName 4) gNil))) rfl scFalls.nd (pi_list (pv 2)) (blkOk_by (N := ["plate", "depths", "rows", "cell", "depth"]) (sc := defScope (topS 32)) (by decide +kernel))
      (fun _ _ _ _ _ => pg_tup rfl (pgs_cons (gn 3 scFalls.nd) (pgs_cons (gn 4 scFalls.nd) pgs_nil))) (fun _ _ _ _ _ => pts_one (pt_cmpR op_notN (pv 4) pe_non (nomark _))) (fun _ _ _ _ _ => pv 3) (fun _ _ _ _ _ => pv 4))))), ?_⟩
  refine tPl rfl hp k ?_
  cases hf : p.fall with
  | none =>
    refine ⟨rfl, _, rfl, iteT ?_⟩
    intro e ne
    refine q _ e (same_new (Same.refl H) ne) ?_
    rw [upd_same]
    unfold falls
    rw [hf]
    rfl
  | some f =>
    refine ⟨rfl, _, rfl, iteF ?_⟩
    refine tLenP rfl hp k ⟨_, rfl, by omega, by omega, fun R nR => ?_⟩
    refine lc_range (lo := 0) (n := (p.n : Int).toNat) (fun i H2 => Same H H2 ∧ ∃ ts : List Addr, ts.length = i ∧ H2 R = some (.lst (ts.map V.ref)) ∧ ∀ (j : Nat) (t : Addr), ts[j]? = some t → H2 t = some (.tup [.int (j : Int), optV (fallen p ds f (j : Int))])) ⟨same_add (Same.refl H) nR, [], rfl, upd_same, fun j t z => by simp at z⟩ ?_ ?_
    · rintro i H2 hi ⟨s2, ts, el, hR, hts⟩
      rw [Int.zero_add]
      refine ⟨rfl, ?_⟩
      refine lcYes ?_
      refine ⟨_, rfl, _, rfl, _, rfl, _, rfl, a, d, (i : Int), p, ds, f, rfl, hp.same s2, k, hf, s2 _ _ hd, hl, by omega, by omega, fun H3 s3 => ⟨by show 2 ≤ sizeLine; decide, fun t nt => ?_⟩⟩
      have s4 := same_new (o := .tup [.int (i : Int), optV (fallen p ds f (i : Int))]) s3 nt
      refine ⟨ts.map V.ref, s4 _ _ hR, by rw [List.length_map]; exact small16 (by omega), same_add (s2.trans s4) nR, ts ++ [t], by simp [el], by rw [upd_same, List.map_append]; rfl, fun j u hj => ?_⟩
      have uR : ∀ {b : Addr} {xs : List V}, upd H3 t (.tup [.int (i : Int), optV (fallen p ds f (i : Int))]) b = some (.tup xs) → b ≠ R := fun e z => by
        rw [z, s4 _ _ hR] at e
        cases e
      by_cases hj2 : j < ts.length
      · rw [List.getElem?_append_left hj2] at hj
        have e1 := s4 _ _ (hts j u hj)
        rw [upd_ne (uR e1)]
        exact e1
      · rw [List.getElem?_append_right (by omega)] at hj
        have j0 : j - ts.length = 0 := by
          have := (List.getElem?_eq_some_iff.mp hj).1
          simp at this
          omega
        have ej : j = i := by omega
        rw [j0] at hj
        cases hj
        rw [upd_ne (uR upd_same), upd_same, ej]
    · rintro H2 ⟨s2, ts, el, hR, hts⟩
      have el2 : ts.length = p.n := by omega
      refine ⟨_, rfl, R, rfl, ⟨_, .inl (.inl hR)⟩, fun D nD => dc_it (walk_list (xs := ts.map V.ref)) (fun i H3 => Same H2 H3 ∧ H3 D = some (.dK (fallsK (pick (rowsTo p ds f i))))) ⟨same_add (Same.refl _) nD, upd_same⟩ (fun i H3 _ p3 => .inl (.inl (p3.1 _ _ hR))) ?_ ?_⟩
      · rintro i x H3 H4 hi ⟨s3, hD⟩ ⟨rfl, hx⟩
        obtain ⟨t, ht, rfl⟩ := refs_get hx
        have ht2 := s3 _ _ (hts i t ht)
        rw [List.length_map] at hi
        refine ⟨t, _, rfl, SqT.of ht2, rfl, _, _, rfl, _, _, rfl, rfl, rfl, ?_⟩
        refine ⟨_, rfl, rfl, _, rfl, ?_⟩
        have e1 := rowsTo_succ p ds f i
        cases ef : fallen p ds f (i : Int) with
        | none =>
          refine iteF ⟨s3, ?_⟩
          rw [hD, e1, pick_app, ef]
          show _ = some (HO.dK (fallsK (pick (rowsTo p ds f i) ++ [])))
          rw [List.append_nil]
        | some dd =>
          refine iteT ?_
          refine ⟨_, rfl, _, rfl, _, Sum.inl (i : Int), rfl, hD, ?_, same_add s3 nD, ?_⟩
          · have : (fallsK (pick (rowsTo p ds f i))).length ≤ i := by
              unfold fallsK
              rw [List.length_map]
              exact pick_len
            exact small16 (by omega)
          · rw [upd_same, e1, pick_app, ef]
            show some (HO.dK (putK (fallsK (pick (rowsTo p ds f i))) (Sum.inl (i : Int) : Key) (.int dd))) = _
            rw [put_new fun q hq => pick_lt hq]
            rfl
      · rintro H3 ⟨s3, hD⟩
        refine q _ D (s2.trans s3) ?_
        rw [hD]
        unfold falls
        rw [hf, List.length_map, el2]
end
end M57
/-! Defs, part j: ridges, settled. -/
namespace M57
open PySem PySem.Spec PyProof.Rows L2 RZ
theorem val_falls (l : List (Int × Int)) (c : Int) : valV (fallsK l) (Sum.inl c : Key) = (lk l c).map V.int := by
  unfold valV lk fallsK
  rw [List.find?_map, Option.map_map, Option.map_map]
  have e : ((fun kv : Key × V => decide (kv.1 = Sum.inl c)) ∘ fun q : Int × Int => ((Sum.inl q.1 : Key), V.int q.2)) = fun q => q.1 == c := by
    funext q
    show decide ((Sum.inl q.1 : Key) = Sum.inl c) = (q.1 == c)
    by_cases h : q.1 = c
    · rw [h]; simp
    · have : ¬ (Sum.inl q.1 : Key) = Sum.inl c := fun z => h (Sum.inl.inj z)
      rw [decide_eq_false this]
      simp [h]
  rw [e]
  rfl
theorem takeStep {α : Type} : ∀ {l : List α} {i : Nat} {x : α}, l[i]? = some x → l.take (i + 1) = l.take i ++ [x]
  | [], i, x, h => by simp at h
  | a :: l, 0, x, h => by
    have e : a = x := Option.some.inj h
    subst e
    rfl
  | a :: l, i + 1, x, h => by
    have ih := takeStep (l := l) (i := i) (x := x) h
    show a :: l.take (i + 1) = a :: l.take i ++ [x]
    rw [ih]
    rfl
theorem AccP.skip {H1 H H4 : Hp} {D : Addr} {out : Nat → List V} {i : Nat} (h : AccP H1 D out i H) (s : Same H H4) (e : out (i + 1) = out i) : AccP H1 D out (i + 1) H4 := ⟨h.1.trans s, by rw [e]; exact s _ _ h.2⟩
theorem settle1_get {f : List (Int × Int)} {ds : List Int} {i : Nat} {d : Int} (h : ds[i]? = some d) : (settle1 f ds)[i]? = some ((lk f (i : Int)).getD d) := by
  simp [settle1, h]
section
variable {P : Program} {w : World} {K : PySem.W.Frag} {mg : Str → Option Value} {base : Heap}
def spRidges (C : Addr) : Sp := fun vs H Q _ => ∃ a d p ds, vs = [.ref a, .ref d] ∧ PlateAt C H a p ∧ p.Ok ∧ TupI H d ds ∧ OkD p ds ∧ ∀ H' t, Same H H' → H' t = some (.tup ((falls p ds).map fun q => V.int q.1)) → Q (.ref t) H'
theorem scRidges : FnScope ["plate", "depths"] ["plate", "depths"] (defScope (topS 33)) := ⟨rfl, rfl, rfl, by decide +kernel, rfl, by decide +kernel, by decide +kernel⟩
theorem ok_ridges (T : Txt K w mg) : FnOk P w K mg base CX0 6 T.ridges.f T.ridges.fd ["plate", "depths"] (spRidges T.cP) := by
  refine T.ridges.fn.ok scRidges (fun vs H Q E h => ?_) fun cdv A outer s H vs Q E hr h => ?_
  · obtain ⟨a, d, p, ds, rfl, _⟩ := h
    rfl
  obtain ⟨a, d, p, ds, rfl, hp, k, hd, ok, q⟩ := h
  refine ⟨_, pss_cons (ps_expr (dcall T.checkDepths (ok_chkD T) (hr.mono (by decide)) (pa_cons (pv 0) (pa_cons (pv 1) pa_nil))))
    (pss_one (ps_ret (pe_callTy (call_tupleD rfl) (by rfl) T.tuple_ (by decide +kernel) (pa_cons (dcall T.fallsD (ok_falls T) hr (pa_cons (pv 0) (pa_cons (pv 1) pa_nil))) pa_nil)))), ?_⟩
  refine ⟨_, rfl, _, rfl, a, d, p, ds, rfl, hp, k, hd, ok, fun H1 s1 => ?_⟩
  refine ⟨_, rfl, _, rfl, a, d, p, ds, rfl, hp.same s1, k, s1 _ _ hd, ok.1, fun H2 e s2 he => ?_⟩
  refine ⟨e, _, rfl, he, fun t nt => q _ t (same_new (s1.trans s2) nt) ?_⟩
  rw [upd_same]
  simp [fallsK, kV]
def spSettled (C : Addr) : Sp := fun vs H Q _ => ∃ a d c p ds cs, vs = [.ref a, .ref d, .ref c] ∧ PlateAt C H a p ∧ p.Ok ∧ TupI H d ds ∧ OkD p ds ∧ TupI H c cs ∧ OkC p cs ∧
  ∀ H' t d' c', Same H H' → H' t = some (.tup [.ref d', .ref c']) → TupI H' d' (settle p ds cs).1 → TupI H' c' (settle p ds cs).2 → Q (.ref t) H'
theorem scSettled : FnScope ["plate", "depths", "covered", "found", "cell", "depth"] ["plate", "depths", "covered"] (defScope (topS 34)) := ⟨rfl, rfl, rfl, by decide +kernel, rfl, by decide +kernel, by decide +kernel⟩
theorem ok_settled (T : Txt K w mg) : FnOk P w K mg base CX0 6 T.settled.f T.settled.fd ["plate", "depths", "covered"] (spSettled T.cP) := by
  refine T.settled.fn.ok scSettled (fun vs H Q E h => ?_) fun cdv A outer s H vs Q E hr h => ?_
  · obtain ⟨a, d, c, p, ds, cs, rfl, _⟩ := h
    rfl
  obtain ⟨a, d, c, p, ds, cs, rfl, hp, k, hd, okd, hc, okc, q⟩ := h
  have hu := hu_of hr
  refine ⟨_, pss_cons (sv 3 scSettled.nd (dcall T.fallsD (ok_falls T) hr (pa_cons (pv 0) (pa_cons (pv 1) pa_nil))))
    (pss_cons (ps_while PassesOwn.never (pt_cmpR (op_ne_d0 hr.units0) (pv 3) pe_dnewK (nomark _))
      (pss_cons (sv 1 scSettled.nd (pe_callTy call_tuple_of (by rfl) T.tuple_ (by decide +kernel) (pa_cons
        (pe_lc (own := [("cell", 4), ("depth", 5)]) (g := gTup K 2 (gCons (gName 4) (gCons (gName 5) gNil))) (tt := tYes) rfl scSettled.nd (pi_enumT (by rfl) T.enum (pa_cons (pv 1) pa_nil)) (blkOk_by (N := ["plate", "depths", "covered", "found", "cell", "depth"]) (sc := defScope (topS 34)) (by decide +kernel))
          (fun _ _ _ _ _ => pg_tup rfl (pgs_cons (gn 4 scSettled.nd) (pgs_cons (gn 5 scSettled.nd) pgs_nil))) (fun _ _ _ _ _ => pts_nil)
          (fun _ _ _ _ _ => pe_dget2 hu (pv 3) (pv 4) (pv 5) ⟨rfl, rfl, rfl, rfl⟩)) pa_nil)))
      (pss_cons (sv 2 scSettled.nd (pe_callTy call_tuple_of (by rfl) T.tuple_ (by decide +kernel) (pa_cons
        (pe_lc (own := [("cell", 4)]) (g := gName 4) rfl scSettled.nd (pi_tup (pv 2)) (blkOk_by (N := ["plate", "depths", "covered", "found", "cell", "depth"]) (sc := defScope (topS 34)) (by decide +kernel))
          (fun _ _ _ _ _ => gn 4 scSettled.nd) (fun _ _ _ _ _ => pts_one (pt_cmp (pc_dnotin hu (pv 4) (pv 3)))) (fun _ _ _ _ _ => pv 4)) pa_nil)))
      (pss_one (sv 3 scSettled.nd (dcall T.fallsD (ok_falls T) hr (pa_cons (pv 0) (pa_cons (pv 1) pa_nil))))))))
    (pss_one (ps_ret (pe_tup (pa_cons (pv 1) (pa_cons (pv 2) pa_nil)))))), ?_⟩
  refine ⟨_, rfl, _, rfl, a, d, p, ds, rfl, hp, k, hd, okd.1, fun H1 e s1 he => ?_⟩
  refine ⟨fun m σ H2 => ∃ ds2 cs2 d2 c2 e2 x y, σ = [some (.ref a), some (.ref d2), some (.ref c2), some (.ref e2), x, y] ∧ Same H H2 ∧ TupI H2 d2 ds2 ∧ TupI H2 c2 cs2 ∧ H2 e2 = some (.dK (fallsK (falls p ds2))) ∧ OkD p ds2 ∧ OkC p cs2 ∧
    gap p.most ds2 ≤ m ∧ settle p ds cs = settleF p m ds2 cs2, ⟨90, ds, cs, d, c, e, none, none, rfl, s1, s1 _ _ hd, s1 _ _ hc, he, okd, okc, gap90 k okd, rfl⟩, ?_⟩
  rintro m σ H2 ⟨ds2, cs2, d2, c2, e2, x, y, rfl, s2, hd2, hc2, he2, okd2, okc2, hg, hs⟩
  refine ⟨_, rfl, fun z nz => ⟨e2, z, _, rfl, rfl, upd_get he2 nz, upd_same, _, rfl, ?_⟩⟩
  have s3 := same_new (o := .dK []) s2 nz
  have hd3 := upd_get (o := .dK []) hd2 nz
  have hc3 := upd_get (o := .dK []) hc2 nz
  have he3 := upd_get (o := .dK []) he2 nz
  generalize upd H2 z (.dK []) = H3 at s3 hd3 hc3 he3 ⊢
  by_cases hf : falls p ds2 = []
  · rw [hf]
    refine iteF ?_
    rw [settleF_done m hf] at hs
    refine ⟨_, rfl, _, rfl, by show 2 ≤ sizeLine; decide, fun t nt => ?_⟩
    refine q _ t d2 c2 (same_new s3 nt) upd_same ?_ ?_
    · rw [hs]
      exact upd_get hd3 nt
    · rw [hs]
      exact upd_get hc3 nt
  · have hne : (!(fallsK (falls p ds2)).isEmpty) = true := by
      cases hq : falls p ds2 with
      | nil => exact absurd hq hf
      | cons => rfl
    rw [hne]
    have hlt := gap_settle1 k okd2 hf
    obtain ⟨m', rfl⟩ : ∃ m', m = m' + 1 := ⟨m - 1, by omega⟩
    rw [settleF_step hf] at hs
    refine iteT ⟨fun σ' H' => ∃ ds2 cs2 d2 c2 e2 x y, σ' = [some (.ref a), some (.ref d2), some (.ref c2), some (.ref e2), x, y] ∧ Same H H' ∧ TupI H' d2 ds2 ∧ TupI H' c2 cs2 ∧ H' e2 = some (.dK (fallsK (falls p ds2))) ∧ OkD p ds2 ∧ OkC p cs2 ∧
      gap p.most ds2 ≤ m' ∧ settle p ds cs = settleF p m' ds2 cs2, fun σ' H' h => ⟨m', Nat.lt_succ_self _, h⟩, ?_⟩
    refine ⟨_, rfl, d2, _, rfl, SqT.of hd3, fun D nD => lc_it (walk_eT (xs := intsV ds2)) (AccP H3 D fun i => (intsV (settle1 (falls p ds2) ds2)).take i) (.start nD rfl) (fun i H4 _ p4 => SqT.of (p4.1 _ _ hd3)) ?_ ?_⟩
    · rintro i v H4 H5 hi p4 ⟨Tt, x1, x2, rfl, nT, rfl, e1, e2x⟩
      cases e1
      obtain ⟨dd, hdd, rfl⟩ := intsV_get e2x
      rw [intsV_len] at hi
      have n9 := k.n9
      have hl := okd2.1
      have s5 := same_new (o := .tup [.int (i : Nat), .int dd]) (Same.refl H4) nT
      refine ⟨Tt, _, rfl, SqT.of upd_same, rfl, _, _, rfl, _, _, rfl, rfl, rfl, ?_⟩
      refine lcYes ?_
      refine ⟨_, rfl, e2, rfl, .inl ⟨_, .inl (s5 _ _ (p4.1 _ _ he3))⟩, _, rfl, _, rfl, _, DGet.k (k := Sum.inl (i : Int)) (s5 _ _ (p4.1 _ _ he3)), ?_⟩
      rw [val_falls]
      refine p4.step nD s5 ?_ (takeStep ?_)
      · have : ((intsV (settle1 (falls p ds2) ds2)).take i).length ≤ i := by
          rw [List.length_take]
          omega
        exact small16 (by omega)
      · unfold intsV
        rw [List.getElem?_map, settle1_get hdd]
        show some (V.int _) = some _
        cases lk (falls p ds2) (i : Int) <;> rfl
    · intro H4 p4
      have e5 : (intsV (settle1 (falls p ds2) ds2)).take (intsV ds2).length = intsV (settle1 (falls p ds2) ds2) := List.take_of_length_le (by rw [intsV_len, intsV_len, settle1_len]; exact Nat.le_refl _)
      have pD : H4 D = some (.lst (intsV (settle1 (falls p ds2) ds2))) := p4.2.trans (congrArg (fun l => some (HO.lst l)) e5)
      refine ⟨D, _, rfl, .inl ⟨.inl (.inl pD), fun d5 nd5 => ?_⟩⟩
      have s5 := same_new (o := .tup (intsV (settle1 (falls p ds2) ds2))) (p4.1) nd5
      have hd5 : TupI (upd H4 d5 (.tup (intsV (settle1 (falls p ds2) ds2)))) d5 (settle1 (falls p ds2) ds2) := upd_same
      generalize upd H4 d5 (.tup (intsV (settle1 (falls p ds2) ds2))) = H5 at s5 hd5 ⊢
      have hc5 := s5 _ _ hc3
      have l9 := okc2.len k
      refine ⟨_, rfl, c2, rfl, ⟨_, SqT.of hc5⟩, fun D2 nD2 => lc_tup (xs := intsV cs2) (AccP H5 D2 fun i => intsV ((cs2.take i).filter fun c => (lk (falls p ds2) c).isNone)) (.start nD2 rfl) (fun i H6 _ p6 => SqT.of (p6.1 _ _ hc5)) ?_ ?_⟩
      · rintro i v H6 hx p6
        obtain ⟨cc, hcc, rfl⟩ := intsV_get hx
        refine ⟨rfl, ?_⟩
        refine ⟨_, rfl, _, rfl, e2, _, rfl, DGet.k (k := Sum.inl cc) (p6.1 _ _ (s5 _ _ he3)), _, rfl, ?_⟩
        rw [val_falls]
        cases hlk : lk (falls p ds2) cc with
        | none =>
          refine iteT ?_
          refine ⟨_, rfl, ?_⟩
          refine p6.step nD2 (Same.refl _) ?_ ?_
          · rw [intsV_len]
            refine small16 (Nat.le_trans (List.length_filter_le _ _) ?_)
            rw [List.length_take]
            omega
          · rw [takeStep hcc, List.filter_append]
            simp [intsV, hlk]
        | some dd =>
          refine iteF (p6.skip (Same.refl _) ?_)
          rw [takeStep hcc, List.filter_append]
          simp [intsV, hlk]
      · intro H6 p6
        have e7 : cs2.take (intsV cs2).length = cs2 := List.take_of_length_le (by rw [intsV_len]; exact Nat.le_refl _)
        have pD : H6 D2 = some (.lst (intsV (cs2.filter fun c => (lk (falls p ds2) c).isNone))) := p6.2.trans (congrArg (fun l => some (HO.lst (intsV (l.filter fun c => (lk (falls p ds2) c).isNone)))) e7)
        refine ⟨D2, _, rfl, .inl ⟨.inl (.inl pD), fun c7 nc7 => ?_⟩⟩
        have s7 := same_new (o := .tup (intsV (cs2.filter fun c => (lk (falls p ds2) c).isNone))) p6.1 nc7
        have hc7 : TupI (upd H6 c7 (.tup (intsV (cs2.filter fun c => (lk (falls p ds2) c).isNone)))) c7 (cov1 (falls p ds2) cs2) := upd_same
        generalize upd H6 c7 (.tup (intsV (cs2.filter fun c => (lk (falls p ds2) c).isNone))) = H7 at s7 hc7 ⊢
        have okd7 := okd2.settle1 k
        have s37 := (s3.trans s5).trans s7
        refine ⟨_, rfl, _, rfl, a, d5, p, _, rfl, hp.same s37, k, s7 _ _ hd5, okd7.1, fun H8 e8 s8 he8 => ?_⟩
        exact ⟨_, _, d5, c7, e8, _, _, rfl, s37.trans s8, s8 _ _ (s7 _ _ hd5), s8 _ _ hc7, he8, okd7, okc2.cov1 _, by omega, hs⟩
end
end M57
/-! Defs, part k: bathed, varnished. -/
namespace M57
open PySem PySem.Spec PyProof.Rows L2 RZ
theorem inV_ints (c : Int) : ∀ cs : List Int, inV (.int c) (intsV cs) = decide (c ∈ cs)
  | [] => rfl
  | x :: r => by
    have ih := inV_ints c r
    unfold inV intsV at ih ⊢
    rw [List.map_cons, List.any_cons, ih]
    show (decide (x = c) || decide (c ∈ r)) = decide (c ∈ x :: r)
    by_cases h : x = c
    · simp [h]
    · have : ¬ c = x := fun z => h z.symm
      simp [h, this]
theorem flat_ints (cs : List Int) : (intsV cs).all flatV = true := by
  unfold intsV
  rw [List.all_map]
  exact List.all_eq_true.mpr fun _ _ => rfl
theorem bathe_get {ds cs : List Int} {t : Int} {i : Nat} {d : Int} (h : ds[i]? = some d) : (bathe ds cs t)[i]? = some (if (i : Int) ∈ cs then d else d + t) := by
  simp [bathe, h]
theorem bathe_len (ds cs : List Int) (t : Int) : (bathe ds cs t).length = ds.length := by simp [bathe]
section
variable {P : Program} {w : World} {K : PySem.W.Frag} {mg : Str → Option Value} {base : Heap}
def spBathed : Sp := fun vs H Q _ => ∃ d c t ds cs, vs = [.ref d, .ref c, .int t] ∧ TupI H d ds ∧ ds.length ≤ 9 ∧ TupI H c cs ∧ ∀ H' r, Same H H' → TupI H' r (bathe ds cs t) → Q (.ref r) H'
theorem scBathed : FnScope ["depths", "covered", "time", "cell", "depth"] ["depths", "covered", "time"] (defScope (topS 35)) := ⟨rfl, rfl, rfl, by decide +kernel, rfl, by decide +kernel, by decide +kernel⟩
theorem ok_bathed (T : Txt K w mg) : FnOk P w K mg base CX0 1 T.bathed.f T.bathed.fd ["depths", "covered", "time"] spBathed := by
  refine T.bathed.fn.ok scBathed (fun vs H Q E h => ?_) fun cdv A outer s H vs Q E hr h => ?_
  · obtain ⟨d, c, t, ds, cs, rfl, _⟩ := h
    rfl
  obtain ⟨d, c, t, ds, cs, rfl, hd, l9, hc, q⟩ := h
  refine ⟨_, pss_one (ps_ret (pe_callTy call_tuple_of (by rfl) T.tuple_ (by decide +kernel) (pa_cons
        (pe_lc (own := [("cell", 3), ("depth", 4)]) (g := gTup K 2 (gCons (gName 3) (gCons (gName 4) gNil))) (tt := tYes) (te := tIf (tTest (tOp (rIn K false) (tVar 3) (tVar 1))) (tVar 4) (tOp (rI0 fun i j => .int (i + j)) (tVar 4) (tVar 2))) rfl scBathed.nd
          (pi_enumT (by rfl) T.enum (pa_cons (pv 0) pa_nil)) (blkOk_by (N := ["depths", "covered", "time", "cell", "depth"]) (sc := defScope (topS 35)) (by decide +kernel))
          (fun _ _ _ _ _ => pg_tup rfl (pgs_cons (gn 3 scBathed.nd) (pgs_cons (gn 4 scBathed.nd) pgs_nil))) (fun _ _ _ _ _ => pts_nil)
          (fun _ _ _ _ _ => pe_ifExp (pt_cmpR op_in_seq (pv 3) (pv 1) (by rfl)) (pv 4) (pe_op op_add (pv 4) (pv 2)))) pa_nil))), ?_⟩
  refine ⟨_, rfl, d, _, rfl, SqT.of hd, fun D nD => lc_it (walk_eT (xs := intsV ds)) (AccP H D fun i => (intsV (bathe ds cs t)).take i) (.start nD rfl) (fun i H4 _ p4 => SqT.of (p4.1 _ _ hd)) ?_ ?_⟩
  · rintro i v H4 H5 hi p4 ⟨Tt, x1, x2, rfl, nT, rfl, e1, e2x⟩
    cases e1
    obtain ⟨dd, hdd, rfl⟩ := intsV_get e2x
    rw [intsV_len] at hi
    have s5 := same_new (o := .tup [.int (i : Nat), .int dd]) (Same.refl H4) nT
    refine ⟨Tt, _, rfl, SqT.of upd_same, rfl, _, _, rfl, _, _, rfl, rfl, rfl, ?_⟩
    refine lcYes ?_
    refine ⟨_, rfl, _, rfl, c, _, rfl, .inr (SqT.of (s5 _ _ (p4.1 _ _ hc))), rfl, flat_ints cs, _, rfl, ?_⟩
    rw [if_neg (show ¬ (false = true) from Bool.false_ne_true), inV_ints]
    have hl : ((intsV (bathe ds cs t)).take i).length < sizeLine := by
      have : ((intsV (bathe ds cs t)).take i).length ≤ i := by
        rw [List.length_take]
        omega
      exact small16 (by omega)
    have hb := bathe_get (cs := cs) (t := t) hdd
    refine ite2 (fun z => ?_) (fun z => ?_)
    · rw [if_pos (of_decide_eq_true z)] at hb
      refine ⟨_, rfl, p4.step nD s5 hl (takeStep ?_)⟩
      unfold intsV
      rw [List.getElem?_map, hb]
      rfl
    · rw [if_neg (of_decide_eq_false (Bool.eq_false_iff.mpr z))] at hb
      refine ⟨_, rfl, _, rfl, _, _, rfl, rfl, p4.step nD s5 hl (takeStep ?_)⟩
      unfold intsV
      rw [List.getElem?_map, hb]
      rfl
  · intro H4 p4
    have e5 : (intsV (bathe ds cs t)).take (intsV ds).length = intsV (bathe ds cs t) := List.take_of_length_le (by rw [intsV_len, intsV_len, bathe_len]; exact Nat.le_refl _)
    have pD : H4 D = some (.lst (intsV (bathe ds cs t))) := p4.2.trans (congrArg (fun l => some (HO.lst l)) e5)
    refine ⟨D, _, rfl, .inl ⟨.inl (.inl pD), fun r nr => ?_⟩⟩
    exact q _ r (same_new p4.1 nr) upd_same
/-! ### varnished -/
def spVarn : Sp := fun vs H Q _ => ∃ c v cs st p, vs = [.ref c, .ref v] ∧ TupI H c cs ∧ p.Ok ∧ OkC p cs ∧ StepAt H v st ∧ OkS p st ∧ ∀ H' r, Same H H' → TupI H' r (varnish cs st) → Q (.ref r) H'
theorem scVarn : FnScope ["covered", "step", "word", "cell"] ["covered", "step"] (defScope (topS 36)) := ⟨rfl, rfl, rfl, by decide +kernel, rfl, by decide +kernel, by decide +kernel⟩
theorem ok_varn (T : Txt K w mg) : FnOk P w K mg base CX0 1 T.varnished.f T.varnished.fd ["covered", "step"] spVarn := by
  refine T.varnished.fn.ok scVarn (fun vs H Q E h => ?_) fun cdv A outer s H vs Q E hr h => ?_
  · obtain ⟨c, v, cs, st, p, rfl, _⟩ := h
    rfl
  obtain ⟨c, v, cs, st, p, rfl, hc, k, okc, hv, oks, q⟩ := h
  have hu := hr.units
  refine ⟨_, pss_cons (sv 2 scVarn.nd (pe_ix ix_tup (pv 1) pe_int (fun _ _ => rfl)))
    (pss_cons (ps_if (pt_cmpR op_eq (pv 2) (pe_gv T.cover_) (nomark _)) (pss_one (ps_ret (pe_callTy call_tuple_of (by rfl) T.tuple_ (by decide +kernel) (pa_cons (pe_callB (cr_sortedSet rfl) (by rfl) T.sorted_ (by decide +kernel) (pa_cons
        (pe_callTy (call_setOfL rfl) (by rfl) T.set_ (by decide +kernel) (pa_cons (pe_lst (StX.pa_star (pv 0) (StX.pa_star (pe_ix ix_tup (pv 1) pe_int (fun _ _ => rfl)) pa_nil))) pa_nil)) pa_nil)) pa_nil)))) pss_nil)
    (pss_cons (ps_if (pt_cmpR op_eq (pv 2) (pe_gv T.scrape_) (nomark _)) (pss_one (ps_ret (pe_callTy call_tuple_of (by rfl) T.tuple_ (by decide +kernel) (pa_cons
        (pe_lc (own := [("cell", 3)]) (g := gName 3) (tt := tTest (tOp rNe (tVar 3) (tOp (rIxT K) (tVar 1) (tC (.int 1))))) rfl scVarn.nd (pi_tup (pv 0)) (blkOk_by (N := ["covered", "step", "word", "cell"]) (sc := defScope (topS 36)) (by decide +kernel))
          (fun _ _ _ _ _ => gn 3 scVarn.nd) (fun _ _ _ _ _ => pts_one (pt_cmpR op_ne (pv 3) (pe_ix ix_tup (pv 1) pe_int (fun _ _ => rfl)) (nomark _))) (fun _ _ _ _ _ => pv 3)) pa_nil)))) pss_nil)
    (pss_one (ps_ret (pe_ifExp (pt_cmpR op_eq (pv 2) (pe_gv T.wash_) (nomark _)) (pe_tup pa_nil) (pv 0)))))), ?_⟩
  obtain ⟨r, hv1, hv2, hrl, ha⟩ := hv.ex (K := K)
  have l9 := okc.len k
  refine ⟨_, rfl, v, _, _, _, rfl, rfl, hv1, atI0, ?_⟩
  cases st with
  | wash =>
    refine ⟨_, rfl, rfl, _, rfl, nameF (wne (a := "wash") (by decide)) ?_⟩
    refine ⟨_, rfl, rfl, _, rfl, nameF (wne (a := "wash") (by decide)) ?_⟩
    refine ⟨_, rfl, rfl, _, rfl, nameT weq ?_⟩
    exact ⟨Nat.zero_le _, fun t nt => q _ t (same_new (Same.refl H) nt) upd_same⟩
  | bath t =>
    refine ⟨_, rfl, rfl, _, rfl, nameF (wne (a := "bath") (by decide)) ?_⟩
    refine ⟨_, rfl, rfl, _, rfl, nameF (wne (a := "bath") (by decide)) ?_⟩
    refine ⟨_, rfl, rfl, _, rfl, nameF (wne (a := "bath") (by decide)) ?_⟩
    exact ⟨_, rfl, q _ c (Same.refl H) hc⟩
  | burnish t =>
    refine ⟨_, rfl, rfl, _, rfl, nameF (wne (a := "burnish") (by decide)) ?_⟩
    refine ⟨_, rfl, rfl, _, rfl, nameF (wne (a := "burnish") (by decide)) ?_⟩
    refine ⟨_, rfl, rfl, _, rfl, nameF (wne (a := "burnish") (by decide)) ?_⟩
    exact ⟨_, rfl, q _ c (Same.refl H) hc⟩
  | scrape t =>
    cases ha
    refine ⟨_, rfl, rfl, _, rfl, nameF (wne (a := "scrape") (by decide)) ?_⟩
    refine ⟨_, rfl, rfl, _, rfl, nameT weq ?_⟩
    refine ⟨_, rfl, c, rfl, ⟨_, SqT.of hc⟩, fun D2 nD2 => lc_tup (xs := intsV cs) (AccP H D2 fun i => intsV ((cs.take i).filter fun x => x != t)) (.start nD2 rfl) (fun i H6 _ p6 => SqT.of (p6.1 _ _ hc)) ?_ ?_⟩
    · rintro i x H6 hx p6
      obtain ⟨cc, hcc, rfl⟩ := intsV_get hx
      refine ⟨rfl, ?_⟩
      refine ⟨_, rfl, _, rfl, v, _, _, _, rfl, rfl, SqT.of (p6.1 _ _ hv2), (atI_nat rfl : atI _ ((1 : Nat) : Int) = some _), rfl, _, rfl, ?_⟩
      by_cases hcx : cc = t
      · subst hcx
        refine nameF (by simp) ?_
        refine p6.skip (Same.refl _) ?_
        rw [takeStep hcc, List.filter_append]
        simp [intsV]
      · refine nameT (by simp [hcx]) ?_
        refine ⟨_, rfl, p6.step nD2 (Same.refl _) ?_ ?_⟩
        · rw [intsV_len]
          refine small16 (Nat.le_trans (List.length_filter_le _ _) ?_)
          rw [List.length_take]
          omega
        · rw [takeStep hcc, List.filter_append]
          simp [intsV, hcx]
    · intro H6 p6
      have e7 : cs.take (intsV cs).length = cs := List.take_of_length_le (by rw [intsV_len]; exact Nat.le_refl _)
      have pD : H6 D2 = some (.lst (intsV (cs.filter fun x => x != t))) := p6.2.trans (congrArg (fun l => some (HO.lst (intsV (l.filter fun x => x != t)))) e7)
      exact ⟨D2, _, rfl, .inl ⟨.inl (.inl pD), fun c7 nc7 => q _ c7 (same_new p6.1 nc7) upd_same⟩⟩
  | cover es =>
    obtain ⟨e, rfl, he⟩ := ha
    have l9e := OkC.len oks.2 k
    refine ⟨_, rfl, rfl, _, rfl, nameT weq ?_⟩
    refine ⟨_, rfl, c, _, rfl, .inl (SqT.of hc), _, rfl, v, _, _, _, rfl, rfl, hv1, (atI_nat rfl : atI _ ((1 : Nat) : Int) = some _), e, _, rfl, .inl (SqT.of he), ?_, fun L nL => ?_⟩
    · show (intsV cs ++ (intsV es ++ [])).length ≤ sizeLine
      rw [List.append_nil, List.length_append, intsV_len, intsV_len]
      exact Nat.le_of_lt (small16 (by omega))
    · have eL : intsV cs ++ (intsV es ++ []) = (cs ++ es).map V.int := by simp [intsV]
      rw [eL]
      refine ⟨L, cs ++ es, rfl, .inl (.inl upd_same), ?_, fun S n p2 hS hn np => ?_⟩
      · rw [List.length_append]
        exact Nat.lt_of_le_of_lt (by omega : cs.length + es.length + 1 ≤ 19) (by decide)
      · rw [List.length_append] at hn
        refine ⟨p2, S, n, rfl, upd_same, by omega, fun ns p3 hs hm hl np3 => ?_⟩
        refine ⟨p3, _, rfl, .inl ⟨.inl (.inl upd_same), fun r nr => ?_⟩⟩
        have s1 := same_new (o := .lst ((cs ++ es).map V.int)) (Same.refl H) nL
        have s2 := same_new (o := SetO w p2 S n) s1 np
        have s3 := same_new (o := .lst (ns.map V.int)) s2 np3
        refine q _ r (same_new s3 nr) ?_
        have en : ns = sortU (cs ++ es) := eq_of_mem hs (pw_sortU _) fun k => by
          rw [hm, hS, mem_sortU, List.any_eq_true]
          constructor
          · rintro ⟨x, hx, e⟩
            rw [← eq_of_beq e]
            exact hx
          · intro h
            exact ⟨k, h, beq_self_eq_true k⟩
        exact upd_same.trans (by rw [en]; rfl)
end
end M57
/-! Defs, part l: after_step. -/
namespace M57
open PySem PySem.Spec PyProof.Rows L2 RZ
theorem burn_get {ds : List Int} {c : Int} {i : Nat} {d : Int} (h : ds[i]? = some d) : (burn ds c)[i]? = some (if (i : Int) = c then max 0 (d - 1) else d) := by
  simp [burn, h]
theorem burn_len (ds : List Int) (c : Int) : (burn ds c).length = ds.length := by simp [burn]
/-- what after_step hands back: nothing, or a pair -/
def LaterAt (H : Hp) (v : V) : Option (List Int × List Int) → Prop
  | none => v = .non
  | some q => ∃ t d c, v = .ref t ∧ H t = some (.tup [.ref d, .ref c]) ∧ TupI H d q.1 ∧ TupI H c q.2
section
variable {P : Program} {w : World} {K : PySem.W.Frag} {mg : Str → Option Value} {base : Heap}
def spAfter (C : Addr) : Sp := fun vs H Q _ => ∃ a d c v p ds cs st, vs = [.ref a, .ref d, .ref c, .ref v] ∧ PlateAt C H a p ∧ p.Ok ∧ TupI H d ds ∧ OkD p ds ∧ TupI H c cs ∧ OkC p cs ∧ StepAt H v st ∧ OkS p st ∧
  ∀ H' r, Same H H' → LaterAt H' r (afterStep p ds cs st) → Q r H'
theorem scAfter : FnScope ["plate", "depths", "covered", "step", "cell", "depth"] ["plate", "depths", "covered", "step"] (defScope (topS 37)) := ⟨rfl, rfl, rfl, by decide +kernel, rfl, by decide +kernel, by decide +kernel⟩
theorem ok_after (T : Txt K w mg) : FnOk P w K mg base CX0 7 T.afterS.f T.afterS.fd ["plate", "depths", "covered", "step"] (spAfter T.cP) := by
  refine T.afterS.fn.ok scAfter (fun vs H Q E h => ?_) fun cdv A outer s H vs Q E hr h => ?_
  · obtain ⟨a, d, c, v, p, ds, cs, st, rfl, _⟩ := h
    rfl
  obtain ⟨a, d, c, v, p, ds, cs, st, rfl, hp, k, hd, okd, hc, okc, hv, oks, q⟩ := h
  have hu := hr.units
  refine ⟨_, pss_cons (ps_if (pt_cmpR op_eq (pe_ix ix_tup (pv 3) pe_int (fun _ _ => rfl)) (pe_gv T.bath_) (nomark _))
      (pss_cons (sv 1 scAfter.nd (dcall T.bathed (ok_bathed T) (hr.mono (by decide)) (pa_cons (pv 1) (pa_cons (pv 2) (pa_cons (pe_ix ix_tup (pv 3) pe_int (fun _ _ => rfl)) pa_nil)))))
      (pss_one (ps_ret (pe_ifExp (pt_cmpR op_le (pe_callB (cr_maxT rfl hu) (by rfl) T.max_ (by decide +kernel) (pa_cons (pv 1) pa_nil)) (pcall (pv 0) T.scP T.pMost (ok_most T).toR (hr.mono (by decide))) (nomark _))
        (dcall T.settled (ok_settled T) hr (pa_cons (pv 0) (pa_cons (pv 1) (pa_cons (pv 2) pa_nil)))) pe_non)))) pss_nil)
    (pss_cons (ps_if (pt_cmpR op_eq (pe_ix ix_tup (pv 3) pe_int (fun _ _ => rfl)) (pe_gv T.burn_) (nomark _))
      (pss_one (sv 1 scAfter.nd (pe_callTy call_tuple_of (by rfl) T.tuple_ (by decide +kernel) (pa_cons
        (pe_lc (own := [("cell", 4), ("depth", 5)]) (g := gTup K 2 (gCons (gName 4) (gCons (gName 5) gNil))) (tt := tYes)
          (te := tIf (tTest (tOp rEq (tVar 4) (tOp (rIxT K) (tVar 3) (tC (.int 1))))) (tCB (fun xs H Q => ∃ i j, xs = [.int i, .int j] ∧ Q (.int (if j > i then j else i)) H) (tCons (tC (.int 0)) (tCons (tOp (rI0 fun i j => .int (i - j)) (tVar 5) (tC (.int 1))) tNil))) (tVar 5)) rfl scAfter.nd
          (pi_enumT (by rfl) T.enum (pa_cons (pv 1) pa_nil)) (blkOk_by (N := ["plate", "depths", "covered", "step", "cell", "depth"]) (sc := defScope (topS 37)) (by decide +kernel))
          (fun _ _ _ _ _ => pg_tup rfl (pgs_cons (gn 4 scAfter.nd) (pgs_cons (gn 5 scAfter.nd) pgs_nil))) (fun _ _ _ _ _ => pts_nil)
          (fun _ _ _ _ _ => pe_ifExp (pt_cmpR op_eq (pv 4) (pe_ix ix_tup (pv 3) pe_int (fun _ _ => rfl)) (nomark _)) (pe_callB (call_max2 rfl) (by rfl) T.max_ (by decide +kernel) (pa_cons pe_int (pa_cons (pe_op op_sub (pv 5) pe_int) pa_nil))) (pv 5))) pa_nil)))) pss_nil)
    (pss_one (ps_ret (pe_tup (pa_cons (pv 1) (pa_cons (dcall T.varnished (ok_varn T) (hr.mono (by decide)) (pa_cons (pv 2) (pa_cons (pv 3) pa_nil))) pa_nil)))))), ?_⟩
  obtain ⟨r, hv1, hv2, hrl, ha⟩ := hv.ex (K := K)
  have n9 := k.n9
  have n1 := k.n1
  have hl := okd.1
  -- the last line
  have last : ∀ (H1 : Hp) (d1 : Addr) (ds1 : List Int), Same H H1 → TupI H1 d1 ds1 → afterStep p ds cs st = some (ds1, varnish cs st) →
      tRet (tTup (tCons (tVar 1) (tCons (tCall spVarn [] E0 (tCons (tVar 2) (tCons (tVar 3) tNil))) tNil))) { nx := fun _ H' => Q .non H', rt := Q } [some (.ref a), some (.ref d1), some (.ref c), some (.ref v), none, none] H1 := by
    intro H1 d1 ds1 s1 hd1 ea
    refine ⟨_, rfl, _, rfl, _, rfl, c, v, cs, st, p, rfl, s1 _ _ hc, k, okc, hv.same s1, oks, fun H2 r2 s2 hr2 => ?_⟩
    refine ⟨by show 2 ≤ sizeLine; decide, fun t nt => ?_⟩
    refine q _ _ (same_new (s1.trans s2) nt) ?_
    rw [ea]
    exact ⟨t, d1, r2, rfl, upd_same, upd_get (s2 _ _ hd1) nt, upd_get hr2 nt⟩
  refine ⟨_, rfl, v, _, _, _, rfl, rfl, hv1, atI0, rfl, _, rfl, ?_⟩
  cases st with
  | bath t =>
    cases ha
    refine nameT weq ?_
    refine ⟨_, rfl, _, rfl, _, rfl, v, _, _, _, rfl, rfl, hv1, (atI_nat rfl : atI _ ((1 : Nat) : Int) = some _), d, c, t, ds, cs, rfl, hd, by omega, hc, fun H1 b s1 hb => ?_⟩
    have hbl : (bathe ds cs t).length = p.n := by rw [bathe_len]; exact hl
    cases eb : bathe ds cs t with
    | nil =>
      rw [eb] at hbl
      simp at hbl
      omega
    | cons b0 br =>
      have hb2 : SqT K H1 b ((b0 :: br).map V.int) := SqT.of (eb ▸ hb)
      refine ⟨_, rfl, b, b0, br, rfl, hb2, tPl rfl (hp.same s1) k ⟨_, _, rfl, rfl, _, rfl, ?_⟩⟩
      have em : mxD (bathe ds cs t) = br.foldl max b0 := by rw [eb]; rfl
      refine ite2 (fun z => ?_) (fun z => ?_)
      · have z : mxD (bathe ds cs t) ≤ p.most := by rw [em]; exact of_decide_eq_true z
        refine ⟨_, rfl, _, rfl, _, rfl, a, b, c, p, _, cs, rfl, hp.same s1, k, hb, bathe_ok okd (by have := oks.1; omega) z, s1 _ _ hc, okc, fun H2 t2 d2 c2 s2 h1 h2 h3 => ?_⟩
        refine q _ _ (s1.trans s2) ?_
        have e : afterStep p ds cs (.bath t) = some (settle p (bathe ds cs t) cs) := if_pos z
        rw [e]
        exact ⟨t2, d2, c2, rfl, h1, h2, h3⟩
      · have z : ¬ mxD (bathe ds cs t) ≤ p.most := by rw [em]; exact of_decide_eq_false (Bool.eq_false_iff.mpr z)
        refine q _ _ s1 ?_
        have e : afterStep p ds cs (.bath t) = none := if_neg z
        rw [e]
        rfl
  | wash =>
    refine nameF (wne (a := "wash") (by decide)) ?_
    refine ⟨_, rfl, v, _, _, _, rfl, rfl, hv1, atI0, rfl, _, rfl, ?_⟩
    refine nameF (wne (a := "wash") (by decide)) ?_
    exact last H d ds (Same.refl H) hd rfl
  | cover es =>
    refine nameF (wne (a := "cover") (by decide)) ?_
    refine ⟨_, rfl, v, _, _, _, rfl, rfl, hv1, atI0, rfl, _, rfl, ?_⟩
    refine nameF (wne (a := "cover") (by decide)) ?_
    exact last H d ds (Same.refl H) hd rfl
  | scrape t =>
    refine nameF (wne (a := "scrape") (by decide)) ?_
    refine ⟨_, rfl, v, _, _, _, rfl, rfl, hv1, atI0, rfl, _, rfl, ?_⟩
    refine nameF (wne (a := "scrape") (by decide)) ?_
    exact last H d ds (Same.refl H) hd rfl
  | burnish t =>
    cases ha
    refine nameF (wne (a := "burnish") (by decide)) ?_
    refine ⟨_, rfl, v, _, _, _, rfl, rfl, hv1, atI0, rfl, _, rfl, ?_⟩
    refine nameT weq ?_
    refine ⟨_, rfl, d, _, rfl, SqT.of hd, fun D nD => lc_it (walk_eT (xs := intsV ds)) (AccP H D fun i => (intsV (burn ds t)).take i) (.start nD rfl) (fun i H4 _ p4 => SqT.of (p4.1 _ _ hd)) ?_ ?_⟩
    · rintro i y H4 H5 hi p4 ⟨Tt, x1, x2, rfl, nT, rfl, e1, e2x⟩
      cases e1
      obtain ⟨dd, hdd, rfl⟩ := intsV_get e2x
      rw [intsV_len] at hi
      have s5 := same_new (o := .tup [.int (i : Nat), .int dd]) (Same.refl H4) nT
      refine ⟨Tt, _, rfl, SqT.of upd_same, rfl, _, _, rfl, _, _, rfl, rfl, rfl, ?_⟩
      refine lcYes ?_
      refine ⟨_, rfl, _, rfl, v, _, _, _, rfl, rfl, SqT.of (s5 _ _ (p4.1 _ _ hv2)), (atI_nat rfl : atI _ ((1 : Nat) : Int) = some _), rfl, _, rfl, ?_⟩
      have hl : ((intsV (burn ds t)).take i).length < sizeLine := by
        have : ((intsV (burn ds t)).take i).length ≤ i := by
          rw [List.length_take]
          omega
        exact small16 (by omega)
      have hb := burn_get (c := t) hdd
      refine ite2 (fun z => ?_) (fun z => ?_)
      · have z : (i : Int) = t := V.int.inj (of_decide_eq_true z)
        rw [if_pos z] at hb
        refine ⟨_, rfl, _, _, rfl, rfl, _, _, rfl, p4.step nD s5 hl (takeStep ?_)⟩
        unfold intsV
        rw [List.getElem?_map, hb]
        show some (V.int (max 0 (dd - 1))) = some (V.int (if dd - 1 > 0 then dd - 1 else 0))
        congr 2
        split <;> omega
      · have z : ¬ (i : Int) = t := fun y => of_decide_eq_false (Bool.eq_false_iff.mpr z) (by rw [y])
        rw [if_neg z] at hb
        refine ⟨_, rfl, p4.step nD s5 hl (takeStep ?_)⟩
        unfold intsV
        rw [List.getElem?_map, hb]
        rfl
    · intro H4 p4
      have e5 : (intsV (burn ds t)).take (intsV ds).length = intsV (burn ds t) := List.take_of_length_le (by rw [intsV_len, intsV_len, burn_len]; exact Nat.le_refl _)
      have pD : H4 D = some (.lst (intsV (burn ds t))) := p4.2.trans (congrArg (fun l => some (HO.lst l)) e5)
      refine ⟨D, _, rfl, .inl ⟨.inl (.inl pD), fun r nr => ?_⟩⟩
      exact last _ r (burn ds t) (same_new p4.1 nr) upd_same rfl
end
end M57
/-! Defs, part m: the error Spoilt; run, bitten. -/
namespace M57
open PySem PySem.Spec PyProof.Rows L2 RZ
section
variable {P : Program} {w : World} {K : PySem.W.Frag} {mg : Str → Option Value} {base : Heap}
def spSpoil (C : Addr) : Sp := fun vs H Q _ => ∃ x, ∃ i : Nat, vs = [.ref x, .int (i : Int)] ∧ i < 6 ∧ H x = some (exo x C none) ∧ ∀ d, H d = none → d ≠ x → Q .non (upd (upd H d (exd d [("index", .int (i : Int))])) x (exo x C (some d)))
theorem scSpoil : FnScope ["self", "index"] ["self", "index"] (defScope (inClass (topS 6) 0)) := ⟨rfl, rfl, rfl, by decide +kernel, rfl, by decide +kernel, by decide +kernel⟩
theorem ok_spoil (T : Txt K w mg) : FnOk P w K mg base CX0 1 T.fX T.fdX ["self", "index"] (spSpoil T.cX) := by
  refine T.fnX.ok scSpoil (fun vs H Q E h => ?_) fun cdv A outer s H vs Q E hr h => ?_
  · obtain ⟨x, i, rfl, _⟩ := h
    rfl
  obtain ⟨x, i, rfl, hi, hx, q⟩ := h
  refine ⟨_, pss_cons (ps_expr (pe_oinitC (by rfl) T.gE T.rdE T.iE (pa_cons (pv 0) (pa_cons (pe_joined (.cons pe_str (.cons (pe_fmt (pv 1)) .nil))) pa_nil))))
    (pss_one (ps_ost (pv 0) (pv 1))), ?_⟩
  refine ⟨_, rfl, _, rfl, ?_, ?_⟩
  · show (Str.empty ++ ("invalid: " : Str)).length ≤ sizeLine
    decide +kernel
  refine ⟨_, rfl, .inr ⟨_, rfl, ?_, _, rfl, ?_, ?_⟩⟩
  · have : ∀ j : Fin 6, ((j.1 : Nat) : Int).natAbs.log2 < 1920 := by decide
    exact this ⟨i, hi⟩
  · have : ∀ j : Fin 6, ((Str.empty ++ ("invalid: " : Str)) ++ (toString ((j.1 : Nat) : Int) : String)).length ≤ sizeLine := by decide +kernel
    exact this ⟨i, hi⟩
  · refine ⟨x, T.cX, _, rfl, by show 1 ≤ 1000; decide, T.oeX, hx, ?_⟩
    exact ⟨_, rfl, _, rfl, x, T.cX, rfl, T.oeX, T.noX, .inl ⟨hx, fun d nd ne => q d nd ne⟩⟩
/-- the error leaves -/
def SpoilE (C : Addr) (E : XK) (H : Hp) (i : Nat) : Prop := ∀ H' d, Same H H' → H d = none → H' d = some (.xd [("index", .int (i : Int))]) → E (.ref C) (some d) H'
theorem SpoilE.same {C : Addr} {E : XK} {H H1 : Hp} {i : Nat} (h : SpoilE C E H i) (s : Same H H1) : SpoilE C E H1 i := fun H' d s' n e => h H' d (s.trans s') (s.free n) e
/-- raise Spoilt(index): what its making asks -/
theorem spoil_made {C : Addr} {ta : TA} {σ : L2.St} {H : Hp} {i : Nat} {W : XK} (ha : ∀ R : List V → Hp → Prop, R [.int (i : Int)] H → ta σ H R) (hi : i < 6) (h : SpoilE C W H i) : tMkO C (spSpoil C) [] ta σ H W := by
  refine ha _ ⟨by show 1 ≤ 1000; decide, fun a na => ⟨a, i, rfl, hi, upd_same, fun d nd ne => ⟨rfl, d, [("index", .int (i : Int))], upd_same, ?_, ?_, ?_⟩⟩⟩
  · rw [upd_ne ne, upd_same]
  · rw [upd_ne ne] at nd
    exact nd
  · rw [upd_ne ne] at nd
    refine h _ d (fun b o e => ?_) nd upd_same
    have hb : b ≠ d := fun z => by
      rw [z, nd] at e
      cases e
    have hba : b ≠ a := fun z => by
      rw [z, na] at e
      cases e
    rw [upd_ne hb, del_ne hba, upd_ne hba, upd_ne hb, upd_ne hba]
    exact e
/-- what run tells -/
def RunPost (C : Addr) (Q : VK) (E : XK) (H : Hp) : Except Nat (List Int × List Int) → Prop
  | .ok q => ∀ H' t d c, Same H H' → H' t = some (.tup [.ref d, .ref c]) → TupI H' d q.1 → TupI H' c q.2 → Q (.ref t) H'
  | .error i => SpoilE C E H i
def spRun (CP CX : Addr) : Sp := fun vs H Q E => ∃ a d r p ds ss, vs = [.ref a, .ref d, .ref r] ∧ PlateAt CP H a p ∧ p.Ok ∧ TupI H d ds ∧ OkD p ds ∧ RecAt H r p ss ∧ RunPost CX Q E H (runFrom p ss 0 ds [])
theorem RunPost.same {C : Addr} {Q : VK} {E : XK} {H H1 : Hp} {x : Except Nat (List Int × List Int)} (h : RunPost C Q E H x) (s : Same H H1) : RunPost C Q E H1 x := by
  cases x with
  | ok q => exact fun H' t d c s' => h H' t d c (s.trans s')
  | error i => exact SpoilE.same h s
theorem scRun : FnScope ["plate", "depths", "recipe", "covered", "index", "step", "later"] ["plate", "depths", "recipe"] (defScope (topS 38)) := ⟨rfl, rfl, rfl, by decide +kernel, rfl, by decide +kernel, by decide +kernel⟩
theorem ok_run (T : Txt K w mg) : FnOk P w K mg base (L2.CX P w) 8 T.run.f T.run.fd ["plate", "depths", "recipe"] (spRun T.cP T.cX) := by
  refine T.run.fn.okX scRun (fun vs H Q E h => ?_) fun cdv A outer s H vs Q E hr h => ?_
  · obtain ⟨a, d, r, p, ds, ss, rfl, _⟩ := h
    rfl
  obtain ⟨a, d, r, p, ds, ss, rfl, hp, k, hd, okd, hre, q⟩ := h
  refine ⟨_, pss_cons (sv 3 scRun.nd (pe_tup pa_nil))
    (pss_cons (ps_for (passes_of rfl) rfl (pi_enumT (by rfl) T.enum (pa_cons (pv 2) pa_nil)) (pg_tup rfl (pgs_cons (gn 4 scRun.nd) (pgs_cons (gn 5 scRun.nd) pgs_nil)))
      (pss_cons (sv 6 scRun.nd (dcall T.afterS (ok_after T) hr (pa_cons (pv 0) (pa_cons (pv 1) (pa_cons (pv 3) (pa_cons (pv 5) pa_nil))))))
      (pss_cons (ps_if (pt_cmpR op_isN (pv 6) pe_non (nomark _)) (pss_one (ps_raise rfl (takes_of rfl rfl rfl rfl) (pmk_oex T.oeX T.iX T.tX (ok_spoil T) (hr.mono (by decide)) T.bX .nil pass0 (by rfl) T.gX (pa_cons (pv 4) pa_nil)))) pss_nil)
      (pss_one (ps_asg (pv 6) (pg_tup rfl (pgs_cons (gn 1 scRun.nd) (pgs_cons (gn 3 scRun.nd) pgs_nil))))))))
    (pss_one (ps_ret (pe_tup (pa_cons (pv 1) (pa_cons (pv 3) pa_nil)))))), ?_⟩
  obtain ⟨as, hr1, hs1⟩ := hre.ex
  have few := hre.few
  refine ⟨Nat.zero_le _, fun c nc => ?_⟩
  have s0 := same_new (o := .tup []) (Same.refl H) nc
  refine ⟨_, rfl, r, _, rfl, SqT.of (s0 _ _ hr1), for_it (walk_eT (xs := as.map V.ref)) (fun i σ H' => ∃ d2 c2 ds2 cs2 u v x, σ = [some (.ref a), some (.ref d2), some (.ref r), some (.ref c2), u, v, x] ∧ Same H H' ∧ TupI H' d2 ds2 ∧ OkD p ds2 ∧ TupI H' c2 cs2 ∧ OkC p cs2 ∧
      runFrom p ss 0 ds [] = runFrom p (ss.drop i) i ds2 cs2)
    ⟨d, c, ds, [], none, none, none, rfl, s0, s0 _ _ hd, okd, upd_same, .nil, rfl⟩ (fun i σ H' _ p2 => ?_) ?_ ?_⟩
  · obtain ⟨_, _, _, _, _, _, _, _, s2, _⟩ := p2
    exact SqT.of (s2 _ _ hr1)
  · rintro i x σ H1 H2 hi ⟨d2, c2, ds2, cs2, u, v, x0, rfl, s1, hd2, okd2, hc2, okc2, er⟩ ⟨Tt, x1, x2, rfl, nT, rfl, e1, e2⟩
    cases e1
    obtain ⟨b, hb, rfl⟩ := refs_get e2
    obtain ⟨st, hst, hat⟩ := hs1.at_ i b hb
    have hi2 : i < ss.length := (List.getElem?_eq_some_iff.mp hst).1
    have s2 := same_new (o := .tup [.int (i : Nat), .ref b]) s1 nT
    have s12 := same_new (o := .tup [.int (i : Nat), .ref b]) (Same.refl H1) nT
    have oks := hre.ok st (List.mem_of_getElem? hst)
    refine ⟨Tt, _, rfl, SqT.of upd_same, rfl, _, _, rfl, _, _, rfl, rfl, ?_⟩
    refine ⟨_, rfl, _, rfl, _, rfl, _, rfl, a, d2, c2, b, p, ds2, cs2, st, rfl, hp.same s2, k, s12 _ _ hd2, okd2, s12 _ _ hc2, okc2, hat.same s2, oks, fun H3 z s3 hz => ?_⟩
    have ed : ss.drop i = st :: ss.drop (i + 1) := by
      have e3 : ss[i] = st := (List.getElem?_eq_some_iff.mp hst).2
      rw [List.drop_eq_getElem_cons hi2, e3]
    rw [ed] at er
    cases ea : afterStep p ds2 cs2 st with
    | none =>
      rw [ea] at hz
      cases hz
      refine ⟨_, rfl, rfl, _, rfl, iteT ?_⟩
      have er2 : runFrom p ss 0 ds [] = .error i := by
        rw [er]
        unfold runFrom
        rw [ea]
      rw [er2] at q
      refine spoil_made (i := i) ?_ (by omega) (SpoilE.same q (s2.trans s3))
      exact fun R hR => ⟨_, rfl, hR⟩
    | some z2 =>
      rw [ea] at hz
      obtain ⟨t3, d3, c3, rfl, ht3, hd3, hc3⟩ := hz
      refine ⟨_, rfl, rfl, _, rfl, iteF ?_⟩
      have ok2 := afterStep_ok k okd2 okc2 oks ea
      refine ⟨_, rfl, t3, _, rfl, SqT.of ht3, rfl, _, _, rfl, _, _, rfl, rfl, ?_⟩
      refine ⟨d3, c3, z2.1, z2.2, _, _, _, rfl, s2.trans s3, hd3, ok2.1, hc3, ok2.2, ?_⟩
      rw [er]
      conv => lhs; unfold runFrom
      rw [ea]
  · rintro σ H1 ⟨d2, c2, ds2, cs2, u, v, x0, rfl, s1, hd2, okd2, hc2, okc2, er⟩
    have el : ss.drop (as.map V.ref).length = [] := by
      rw [List.length_map, hs1.len, List.drop_length]
    rw [el] at er
    rw [show runFrom p [] (as.map V.ref).length ds2 cs2 = .ok (ds2, cs2) from rfl] at er
    rw [er] at q
    refine ⟨_, rfl, _, rfl, by show 2 ≤ sizeLine; decide, fun t nt => ?_⟩
    exact q _ t d2 c2 (same_new s1 nt) upd_same (upd_get hd2 nt) (upd_get hc2 nt)
theorem scBitten : FnScope ["plate", "depths", "recipe"] ["plate", "depths", "recipe"] (defScope (topS 39)) := ⟨rfl, rfl, rfl, by decide +kernel, rfl, by decide +kernel, by decide +kernel⟩
theorem ok_bitten (T : Txt K w mg) : FnOk P w K mg base (L2.CX P w) 9 T.bitten.f T.bitten.fd ["plate", "depths", "recipe"] (spRun T.cP T.cX) := by
  refine T.bitten.fn.okX scBitten (fun vs H Q E h => ?_) fun cdv A outer s H vs Q E hr h => ?_
  · obtain ⟨a, d, r, p, ds, ss, rfl, _⟩ := h
    rfl
  obtain ⟨a, d, r, p, ds, ss, rfl, hp, k, hd, okd, hre, q⟩ := h
  refine ⟨_, pss_cons (ps_expr (dcall T.checkDepths (ok_chkD T) (hr.mono (by decide)) (pa_cons (pv 0) (pa_cons (pv 1) pa_nil))))
    (pss_cons (ps_expr (dcall T.checkRecipe (ok_chkR T) (hr.mono (by decide)) (pa_cons (pv 0) (pa_cons (pv 2) pa_nil))))
    (pss_one (ps_ret (pe_call (ok_run T) hr (by rfl) T.run.gl T.run.fn.kp T.run.b .nil (passes_call (takes_of rfl rfl rfl rfl) (fun _ _ _ _ h => h)) (pa_cons (pv 0) (pa_cons (pv 1) (pa_cons (pv 2) pa_nil))))))), ?_⟩
  refine ⟨_, rfl, _, rfl, a, d, p, ds, rfl, hp, k, hd, okd, fun H1 s1 => ?_⟩
  refine ⟨_, rfl, _, rfl, a, r, p, ss, rfl, hp.same s1, k, hre.same s1, fun H2 s2 => ?_⟩
  have s12 := s1.trans s2
  exact ⟨_, rfl, _, rfl, _, rfl, a, d, r, p, ds, ss, rfl, hp.same s12, k, s12 _ _ hd, okd, hre.same s12, q.same s12⟩
end
end M57
/-! Defs, part n: course. -/
namespace M57
open PySem PySem.Spec PyProof.Rows L2 RZ
theorem gfor_it {J : It} {n : Nat} {G : Hp → Prop} {Y : Nat → Hp → V → Hp → Prop} (w : Walk J n G Y) {g : TG} {tb : TGn} {D : GEnds} {ys : List V} {σ : L2.St} {H : Hp} (Pv : Nat → List V → L2.St → Hp → Prop) (h0 : Pv 0 ys σ H) (hG : ∀ i ys σ H, i ≤ n → Pv i ys σ H → G H)
    (hs : ∀ i x ys σ H H', i < n → Pv i ys σ H → Y i H x H' → g x σ H' fun σ2 H2 => tb { D with nx := Pv (i + 1), ct := Pv (i + 1), bk := D.nx } ys σ2 H2) (hd : ∀ ys σ H, Pv n ys σ H → D.nx ys σ H) :
    ∃ W : Nat → Nat → List V → L2.St → Hp → Prop, (∃ m, W 0 m ys σ H) ∧ ∀ i m ys σ H, W i m ys σ H →
      (J.stop i H ∧ D.nx ys σ H) ∨ (J.go i H ∧ ∃ N : List V → L2.St → Hp → Prop, (∀ ys' σ' H', N ys' σ' H' → ∃ m', m' < m ∧ W (i + 1) m' ys' σ' H') ∧ ∀ x H', J.yld i H x H' → g x σ H' fun σ2 H2 => tb { D with nx := N, ct := N, bk := D.nx } ys σ2 H2) := by
  refine ⟨fun i m ys σ H => m = n - i ∧ i ≤ n ∧ Pv i ys σ H, ⟨n, by simp, Nat.zero_le _, h0⟩, ?_⟩
  rintro i m ys σ H ⟨rfl, hi, p⟩
  have q := hG i ys σ H hi p
  by_cases hlt : i < n
  · exact .inr ⟨w.goes i H hlt q, Pv (i + 1), fun ys' σ' H' p' => ⟨n - (i + 1), by omega, rfl, hlt, p'⟩, fun x H' y => hs i x ys σ H H' hlt p (w.yields i H x H' hlt q y)⟩
  · have e : i = n := by omega
    subst e
    exact .inl ⟨w.stops H q, hd ys σ H p⟩
/-- tuples of ints, one behind the other -/
structure TupsAt (H : Hp) (bs : List Addr) (ls : List (List Int)) : Prop where
  len : bs.length = ls.length
  at_ : ∀ (i : Nat) (b : Addr), bs[i]? = some b → ∃ l, ls[i]? = some l ∧ TupI H b l
theorem TupsAt.same {H H' : Hp} {bs : List Addr} {ls : List (List Int)} (h : TupsAt H bs ls) (e : Same H H') : TupsAt H' bs ls :=
  ⟨h.len, fun i b q => let ⟨l, h1, h2⟩ := h.at_ i b q; ⟨l, h1, e _ _ h2⟩⟩
theorem TupsAt.nil {H : Hp} : TupsAt H [] [] := ⟨rfl, fun i b q => by simp at q⟩
theorem TupsAt.add {H : Hp} {bs : List Addr} {ls : List (List Int)} {b : Addr} {l : List Int} (h : TupsAt H bs ls) (e : TupI H b l) : TupsAt H (bs ++ [b]) (ls ++ [l]) := by
  refine ⟨by simp [h.len], fun i c q => ?_⟩
  by_cases hi : i < bs.length
  · rw [List.getElem?_append_left hi] at q
    rw [List.getElem?_append_left (by rw [← h.len]; exact hi)]
    exact h.at_ i c q
  · have hl := h.len
    rw [List.getElem?_append_right (by omega)] at q
    have hi2 : i - bs.length = 0 := by
      have := (List.getElem?_eq_some_iff.mp q).1
      simp at this
      omega
    rw [List.getElem?_append_right (by omega), show i - ls.length = 0 by omega]
    rw [hi2] at q
    cases q
    exact ⟨l, rfl, e⟩
section
variable {P : Program} {w : World} {K : PySem.W.Frag} {mg : Str → Option Value} {base : Heap}
def spCourse (CP : Addr) : SpG := fun vs H Q _ => ∃ a d r p ds ss q, vs = [.ref a, .ref d, .ref r] ∧ PlateAt CP H a p ∧ p.Ok ∧ TupI H d ds ∧ OkD p ds ∧ RecAt H r p ss ∧ runFrom p ss 0 ds [] = .ok q ∧
  ∀ H' bs, Same H H' → TupsAt H' bs (courseFrom p ss ds []) → Q (bs.map V.ref) H'
theorem scCourse : GScope ["plate", "depths", "recipe", "covered", "index", "step", "later"] ["plate", "depths", "recipe"] (defScope (topS 40)) := ⟨rfl, rfl, rfl, by decide +kernel, rfl, by decide +kernel, by decide +kernel⟩
theorem ok_course (T : Txt K w mg) : GFn P w K mg base 9 T.course.f T.course.fd ["plate", "depths", "recipe"] (spCourse T.cP) := by
  obtain ⟨oc, od, kV, doc, pm, an, cdv, ct, osl, efd, lk, hcd⟩ := T.course.fn.ex
  rw [efd] at lk ⊢
  refine gfn_of lk hcd scCourse (fun vs H Q E h => ?_) fun A outer s H vs Q E pn hr h => ?_
  · obtain ⟨a, d, r, p, ds, ss, q, rfl, _⟩ := h
    rfl
  obtain ⟨a, d, r, p, ds, ss, q0, rfl, hp, k, hd, okd, hre, er0, q⟩ := h
  refine ⟨_, gss_cons (gs_ps (ps_expr (dcall T.checkDepths (ok_chkD T) (hr.mono (by decide)) (pa_cons (pv 0) (pa_cons (pv 1) pa_nil)))))
    (gss_cons (gs_ps (ps_expr (dcall T.checkRecipe (ok_chkR T) (hr.mono (by decide)) (pa_cons (pv 0) (pa_cons (pv 2) pa_nil)))))
    (gss_cons (gs_ps (sv 3 scCourse.nd (pe_tup pa_nil)))
    (gss_cons (gs_for owns_gcx rfl (pi_enumT (by rfl) T.enum (pa_cons (pv 2) pa_nil)) (pg_tup rfl (pgs_cons (gn 4 scCourse.nd) (pgs_cons (gn 5 scCourse.nd) pgs_nil)))
      (gss_cons (gs_ps (sv 6 scCourse.nd (dcall T.afterS (ok_after T) (hr.mono (by decide)) (pa_cons (pv 0) (pa_cons (pv 1) (pa_cons (pv 3) (pa_cons (pv 5) pa_nil)))))))
      (gss_cons (gs_ps (ps_if (pt_cmpR op_isN (pv 6) pe_non (nomark _)) (pss_one ps_never) pss_nil))
      (gss_cons (gs_ps (ps_asg (pv 6) (pg_tup rfl (pgs_cons (gn 1 scCourse.nd) (pgs_cons (gn 3 scCourse.nd) pgs_nil)))))
      (gss_cons (gs_yield (pv 1)) gss_nil))))) gss_nil))), ?_⟩
  obtain ⟨as, hr1, hs1⟩ := hre.ex
  have few := hre.few
  refine ⟨_, rfl, _, rfl, a, d, p, ds, rfl, hp, k, hd, okd, fun Ha sa => ?_⟩
  refine ⟨_, rfl, _, rfl, a, r, p, ss, rfl, hp.same sa, k, hre.same sa, fun Hb sb => ?_⟩
  have sab := sa.trans sb
  refine ⟨Nat.zero_le _, fun c nc => ?_⟩
  have s0 := same_new (o := .tup []) sab nc
  refine ⟨_, rfl, r, _, rfl, SqT.of (s0 _ _ hr1), gfor_it (walk_eT (xs := as.map V.ref)) (fun i ys σ H' => ∃ d2 c2 ds2 cs2 u v x bs sn, σ = [some (.ref a), some (.ref d2), some (.ref r), some (.ref c2), u, v, x] ∧ Same H H' ∧ TupI H' d2 ds2 ∧ OkD p ds2 ∧ TupI H' c2 cs2 ∧ OkC p cs2 ∧
      runFrom p (ss.drop i) i ds2 cs2 = .ok q0 ∧ ys = bs.map V.ref ∧ bs.length = i ∧ TupsAt H' bs sn ∧ courseFrom p ss ds [] = sn ++ courseFrom p (ss.drop i) ds2 cs2)
    ⟨d, c, ds, [], none, none, none, [], [], rfl, s0, s0 _ _ hd, okd, upd_same, .nil, er0, rfl, rfl, .nil, rfl⟩ (fun i ys σ H' _ p2 => ?_) ?_ ?_⟩
  · obtain ⟨_, _, _, _, _, _, _, _, _, _, s2, _⟩ := p2
    exact SqT.of (s2 _ _ hr1)
  · rintro i x ys σ H1 H2 hi ⟨d2, c2, ds2, cs2, u, v, x0, bs, sn, rfl, s1, hd2, okd2, hc2, okc2, er, rfl, el, hbs, ec⟩ ⟨Tt, x1, x2, rfl, nT, rfl, e1, e2⟩
    cases e1
    obtain ⟨b, hb, rfl⟩ := refs_get e2
    obtain ⟨st, hst, hat⟩ := hs1.at_ i b hb
    have hi2 : i < ss.length := (List.getElem?_eq_some_iff.mp hst).1
    have s2 := same_new (o := .tup [.int (i : Nat), .ref b]) s1 nT
    have s12 := same_new (o := .tup [.int (i : Nat), .ref b]) (Same.refl H1) nT
    have oks := hre.ok st (List.mem_of_getElem? hst)
    refine ⟨Tt, _, rfl, SqT.of upd_same, rfl, _, _, rfl, _, _, rfl, rfl, ?_⟩
    refine ⟨_, rfl, _, rfl, _, rfl, _, rfl, a, d2, c2, b, p, ds2, cs2, st, rfl, hp.same s2, k, s12 _ _ hd2, okd2, s12 _ _ hc2, okc2, hat.same s2, oks, fun H3 z s3 hz => ?_⟩
    have ed : ss.drop i = st :: ss.drop (i + 1) := by
      have e3 : ss[i] = st := (List.getElem?_eq_some_iff.mp hst).2
      rw [List.drop_eq_getElem_cons hi2, e3]
    rw [ed] at er ec
    cases ea : afterStep p ds2 cs2 st with
    | none =>
      exfalso
      unfold runFrom at er
      rw [ea] at er
      cases er
    | some z2 =>
      rw [ea] at hz
      obtain ⟨t3, d3, c3, rfl, ht3, hd3, hc3⟩ := hz
      refine ⟨_, rfl, rfl, _, rfl, iteF ?_⟩
      have ok2 := afterStep_ok k okd2 okc2 oks ea
      refine ⟨_, rfl, t3, _, rfl, SqT.of ht3, rfl, _, _, rfl, _, _, rfl, rfl, ?_⟩
      refine ⟨?_, _, rfl, ?_⟩
      · rw [List.length_map]
        exact small16 (by omega)
      refine ⟨d3, c3, z2.1, z2.2, _, _, _, bs ++ [d3], sn ++ [z2.1], rfl, s2.trans s3, hd3, ok2.1, hc3, ok2.2, ?_, by rw [List.map_append]; rfl, by simp [el], (hbs.same (s12.trans s3)).add hd3, ?_⟩
      · unfold runFrom at er
        rw [ea] at er
        exact er
      · rw [ec, List.append_assoc]
        conv => lhs; unfold courseFrom
        rw [ea]
        rfl
  · rintro ys σ H1 ⟨d2, c2, ds2, cs2, u, v, x0, bs, sn, rfl, s1, hd2, okd2, hc2, okc2, er, rfl, el, hbs, ec⟩
    have el : ss.drop (as.map V.ref).length = [] := by
      rw [List.length_map, hs1.len, List.drop_length]
    rw [el] at ec
    rw [show courseFrom p [] ds2 cs2 = [] from rfl, List.append_nil] at ec
    refine q _ bs s1 ?_
    rw [ec]
    exact hbs
end
end M57
/-! What works are in the heap; frames; a tuple against the empty one. -/
namespace L2
open PySem PySem.Spec PyProof.Rows
/-- t == (), whatever t holds -/
def rEqT0 (K : PySem.W.Frag) : R2 := fun x y H Q => ∃ a b xs, x = .ref a ∧ y = .ref b ∧ SqT K H a xs ∧ SqT K H b [] ∧ Q (.bl xs.isEmpty) H
theorem op_eq_t0 {X : Cx} (hu : X.A.units < cLine) : OpR X (compareOp .Eq) (rEqT0 X.K) := by
  intro pins s σ H x y v u Q I rx ry h
  obtain ⟨a, b, xs, rfl, rfl, ha, hb, q⟩ := h
  obtain rfl : v = Value.ref a := rx
  obtain rfl : u = Value.ref b := ry
  obtain ⟨i1, r1, p1, _⟩ := I.tuple ha
  obtain ⟨i2, r2, p2, _⟩ := I.tuple hb
  have e0 : i2 = [] := by cases r2; rfl
  subst e0
  refine SeqAt.eq_tupleAt (e := fun _ => true) p1 p2 hu (fun j _ h2 => absurd h2 (Nat.not_lt_zero j)) ?_
  refine ⟨.bl xs.isEmpty, H, I, ?_, q⟩
  have hl := r1.length
  cases r1 with
  | nil => rfl
  | cons r t => rfl
end L2
namespace M57
open PySem PySem.Spec PyProof.Rows L2 RZ
/-- the tuples stand -/
def ST (H H' : Hp) : Prop := ∀ b xs, H b = some (.tup xs) → H' b = some (.tup xs)
theorem ST.of {H H' : Hp} (s : Same H H') : ST H H' := fun b xs e => s b _ e
theorem ST.trans {H H1 H2 : Hp} (a : ST H H1) (b : ST H1 H2) : ST H H2 := fun c xs e => b c xs (a c xs e)
theorem TupsAt.st {H H' : Hp} {bs : List Addr} {ls : List (List Int)} (h : TupsAt H bs ls) (e : ST H H') : TupsAt H' bs ls :=
  ⟨h.len, fun i b q => let ⟨l, h1, h2⟩ := h.at_ i b q; ⟨l, h1, e _ _ h2⟩⟩
theorem StepAt.st {H H' : Hp} {a : Addr} {s : Stp} (h : StepAt H a s) (e : ST H H') : StepAt H' a s := by
  obtain ⟨r, h1, h2⟩ := h
  refine ⟨r, e _ _ h1, ?_⟩
  cases s with
  | cover cs => exact let ⟨d, h3, h4⟩ := h2; ⟨d, h3, e _ _ h4⟩
  | bath t => exact h2
  | burnish t => exact h2
  | scrape t => exact h2
  | wash => exact h2
theorem RecAt.st {H H' : Hp} {r : Addr} {p : Pl} {ss : List Stp} (h : RecAt H r p ss) (e : ST H H') : RecAt H' r p ss :=
  ⟨let ⟨as, h1, h2⟩ := h.ex; ⟨as, e _ _ h1, h2.len, fun i a q => let ⟨s, h3, h4⟩ := h2.at_ i a q; ⟨s, h3, h4.st e⟩⟩, h.ok, h.few⟩
/-- the facts of a work -/
structure Fx where
  ds : List Int
  cs : List Int
  pulls : List (List Int)
  time : Int
structure FxAt (H : Hp) (f : Addr) (F : Fx) : Prop where
  ex : ∃ d c pl, ∃ bs : List Addr, H f = some (.tup [.ref d, .ref c, .ref pl, .int F.time]) ∧ TupI H d F.ds ∧ TupI H c F.cs ∧ H pl = some (.tup (bs.map V.ref)) ∧ TupsAt H bs F.pulls
theorem FxAt.st {H H' : Hp} {f : Addr} {F : Fx} (h : FxAt H f F) (e : ST H H') : FxAt H' f F :=
  let ⟨d, c, pl, bs, h1, h2, h3, h4, h5⟩ := h.ex; ⟨d, c, pl, bs, e _ _ h1, e _ _ h2, e _ _ h3, e _ _ h4, h5.st e⟩
structure EntAt (H : Hp) (e : Addr) (F : Fx) : Prop where
  ex : ∃ op f sh, H e = some (.tup [op, .ref f, sh]) ∧ FxAt H f F
theorem EntAt.st {H H' : Hp} {f : Addr} {F : Fx} (h : EntAt H f F) (e : ST H H') : EntAt H' f F :=
  let ⟨op, f, sh, h1, h2⟩ := h.ex; ⟨op, f, sh, e _ _ h1, h2.st e⟩
structure PastAt (H : Hp) (pa : Addr) (ps : List Fx) : Prop where
  ex : ∃ es : List Addr, H pa = some (.tup (es.map V.ref)) ∧ es.length = ps.length ∧ ∀ (i : Nat) (e : Addr), es[i]? = some e → ∃ F, ps[i]? = some F ∧ EntAt H e F
theorem PastAt.st {H H' : Hp} {pa : Addr} {ps : List Fx} (h : PastAt H pa ps) (e : ST H H') : PastAt H' pa ps :=
  let ⟨es, h1, h2, h3⟩ := h.ex; ⟨es, e _ _ h1, h2, fun i x q => let ⟨F, h4, h5⟩ := h3 i x q; ⟨F, h4, h5.st e⟩⟩
/-- a state's object -/
structure StO (C : Addr) (H : Hp) (st dx : Addr) (vs : List (Option V)) : Prop where
  o : H st = some (SlX.SlO st C dx vs)
  d : H dx = some (.xd [])
theorem StO.ne {C : Addr} {H : Hp} {st dx : Addr} {vs : List (Option V)} (h : StO C H st dx vs) : dx ≠ st := fun z => by
  have h1 := h.o
  have h2 := h.d
  rw [z, h1] at h2
  exact SlX.slO_not (Option.some.inj h2)
theorem StO.slt {C : Addr} {H : Hp} {st dx : Addr} {vs : List (Option V)} (h : StO C H st dx vs) : SlX.Slt H st C dx vs := .inr ⟨h.o, h.d⟩
theorem StO.put {C : Addr} {H : Hp} {st dx : Addr} {vs ws : List (Option V)} (h : StO C H st dx vs) : StO C (SlX.slH H st C dx ws) st dx ws :=
  ⟨upd_same, by unfold SlX.slH; rw [upd_ne h.ne, upd_same]⟩
theorem StO.kp {C : Addr} {H : Hp} {st dx : Addr} {vs ws : List (Option V)} (h : StO C H st dx vs) : Kp [st] H (SlX.slH H st C dx ws) := fun b o n e => by
  have hb : b ≠ st := fun z => n (by rw [z]; exact List.mem_singleton_self _)
  unfold SlX.slH
  rw [upd_ne hb]
  by_cases hd : b = dx
  · rw [hd, upd_same, ← h.d, ← hd]
    exact e
  · rw [upd_ne hd]
    exact e
theorem StO.tup {C : Addr} {H : Hp} {st dx b : Addr} {vs : List (Option V)} {xs : List V} (h : StO C H st dx vs) (e : H b = some (.tup xs)) : b ≠ st := fun z => by
  rw [z, h.o] at e
  have := Option.some.inj e
  exact absurd this (fun z => by
    have z' : HO.ext _ = HO.tup xs := z
    cases z')
theorem StO.st {C : Addr} {H H' : Hp} {st dx : Addr} {vs : List (Option V)} (h : StO C H st dx vs) (k : Kp [st] H H') : ST H H' := fun b xs e => k b _ (by simpa using h.tup e) e
theorem StO.same {C : Addr} {H H' : Hp} {st dx : Addr} {vs : List (Option V)} (h : StO C H st dx vs) (s : Same H H') : StO C H' st dx vs := ⟨s _ _ h.o, s _ _ h.d⟩
/-- a state -/
structure StAt (C : Addr) (H : Hp) (st : Addr) (F : Fx) (ps : List Fx) (m : Nat) : Prop where
  ex : ∃ dx f pa sh un us, StO C H st dx [some (.ref f), some (.ref pa), some sh, some (.ref un)] ∧ FxAt H f F ∧ PastAt H pa ps ∧ H un = some (.tup us) ∧ us.length = m
theorem StAt.same {C : Addr} {H H' : Hp} {st : Addr} {F : Fx} {ps : List Fx} {m : Nat} (h : StAt C H st F ps m) (s : Same H H') : StAt C H' st F ps m :=
  let ⟨dx, f, pa, sh, un, us, h1, h2, h3, h4, h5⟩ := h.ex; ⟨dx, f, pa, sh, un, us, h1.same s, h2.st (.of s), h3.st (.of s), s _ _ h4, h5⟩
theorem StAt.stt {C : Addr} {H H' : Hp} {st : Addr} {F : Fx} {ps : List Fx} {m : Nat} (h : StAt C H st F ps m) (k : Kp [st] H H') : ST H H' :=
  let ⟨_, _, _, _, _, _, h1, _⟩ := h.ex; h1.st k
/-- another state, another frame -/
theorem StAt.kp {C : Addr} {H H' : Hp} {st : Addr} {qs : List Addr} {F : Fx} {ps : List Fx} {m : Nat} (h : StAt C H st F ps m) (t : ST H H') (k : Kp qs H H') (n : st ∉ qs) (x : ∀ b ∈ qs, H b ≠ some (.xd [])) : StAt C H' st F ps m :=
  let ⟨dx, f, pa, sh, un, us, h1, h2, h3, h4, h5⟩ := h.ex; ⟨dx, f, pa, sh, un, us, ⟨k _ _ n h1.o, k _ _ (fun z => x _ z h1.d) h1.d⟩, h2.st t, h3.st t, t _ _ h4, h5⟩
theorem PlateAt.kp {C : Addr} {H H' : Hp} {a : Addr} {qs : List Addr} {p : Pl} (h : PlateAt C H a p) (t : ST H H') (k : Kp qs H H') (n : a ∉ qs) (x : ∀ b ∈ qs, H b ≠ some (.xd [])) : PlateAt C H' a p :=
  let ⟨dx, pt, st, h1, h2, h3, h4⟩ := h.ex; ⟨dx, pt, st, k _ _ n h1, k _ _ (fun z => x _ z h2) h2, t _ _ h3, t _ _ h4⟩
theorem StAt.xd {C : Addr} {H : Hp} {st : Addr} {F : Fx} {ps : List Fx} {m : Nat} (h : StAt C H st F ps m) : ∀ b ∈ [st], H b ≠ some (.xd []) := fun b hb e => by
  obtain ⟨_, _, _, _, _, _, h1, _⟩ := h.ex
  rw [List.mem_singleton.mp hb, h1.o] at e
  exact SlX.slO_not (Option.some.inj e)
theorem EntAt.snoc {H : Hp} {pa : Addr} {es : List Addr} {ps : List Fx} {e : Addr} {F : Fx} (hl : es.length = ps.length) (h : ∀ (i : Nat) (e : Addr), es[i]? = some e → ∃ F, ps[i]? = some F ∧ EntAt H e F) (he : EntAt H e F) (hp : H pa = some (.tup ((es ++ [e]).map V.ref))) : PastAt H pa (ps ++ [F]) := by
  refine ⟨es ++ [e], hp, by simp [hl], fun i x q => ?_⟩
  by_cases hi : i < es.length
  · rw [List.getElem?_append_left hi] at q
    rw [List.getElem?_append_left (by rw [← hl]; exact hi)]
    exact h i x q
  · rw [List.getElem?_append_right (by omega)] at q
    have hi2 : i - es.length = 0 := by
      have := (List.getElem?_eq_some_iff.mp q).1
      simp at this
      omega
    rw [List.getElem?_append_right (by omega), show i - ps.length = 0 by omega]
    rw [hi2] at q
    cases q
    exact ⟨F, rfl, he⟩
end M57
/-! Defs: the state's. -/
namespace M57
open PySem PySem.Spec PyProof.Rows L2 RZ
section
variable {P : Program} {w : World} {K : PySem.W.Frag} {mg : Str → Option Value} {base : Heap}
def spStInit (C : Addr) : Sp := fun vs H Q _ => ∃ x dx f sh pa un, vs = [.ref x, f, sh, pa, un] ∧ H x = some (.ins C dx []) ∧ H dx = some (.own x) ∧
  ∀ H', StO C H' x dx [some f, some pa, some sh, some un] → (∀ b o, H b = some o → b ≠ x → b ≠ dx → H' b = some o) → Q .non H'
theorem scStInit : FnScope ["self", "facts", "shelf", "past", "undone"] ["self", "facts", "shelf", "past", "undone"] (defScope (inClass (topS 47) 1)) := ⟨rfl, rfl, rfl, by decide +kernel, rfl, by decide +kernel, by decide +kernel⟩
theorem ok_stInit (T : Txt K w mg) : FnOk P w K mg base CX0 1 T.mS.f T.mS.fd ["self", "facts", "shelf", "past", "undone"] (spStInit T.cS) := by
  refine T.mS.fn.ok scStInit (fun vs H Q E h => ?_) fun cdv A outer s H vs Q E hr h => ?_
  · obtain ⟨x, dx, f, sh, pa, un, rfl, _⟩ := h
    rfl
  obtain ⟨x, dx, f, sh, pa, un, rfl, hx, hdx, q⟩ := h
  refine ⟨_, pss_cons (SlX.ps_sl (pv 0) (pv 1)) (pss_cons (SlX.ps_sl (pv 0) (pv 2)) (pss_cons (SlX.ps_sl (pv 0) (pv 3)) (pss_one (SlX.ps_sl (pv 0) (pv 4))))), ?_⟩
  have hne : dx ≠ x := fun z => by
    rw [z, hx] at hdx
    cases hdx
  refine ⟨_, rfl, _, rfl, x, T.cS, dx, _, [], 0, rfl, .inl ⟨hx, rfl⟩, T.scS, T.slFacts, ?_⟩
  refine ⟨_, rfl, _, rfl, x, T.cS, dx, _, _, 2, rfl, SlX.slH_slt hne, T.scS, T.slShelf, ?_⟩
  rw [SlX.slH_twice hne]
  refine ⟨_, rfl, _, rfl, x, T.cS, dx, _, _, 1, rfl, SlX.slH_slt hne, T.scS, T.slPast, ?_⟩
  rw [SlX.slH_twice hne]
  refine ⟨_, rfl, _, rfl, x, T.cS, dx, _, _, 3, rfl, SlX.slH_slt hne, T.scS, T.slUndone, ?_⟩
  rw [SlX.slH_twice hne]
  refine q _ ⟨upd_same, by unfold SlX.slH; rw [upd_ne hne, upd_same]⟩ fun b o e h1 h2 => ?_
  rw [SlX.slH_ne h1 h2]
  exact e
/-- State(..): a new one -/
theorem st_made {C : Addr} {H1 : Hp} {f sh pa un : V} {Q : VK} (h : ∀ x dx H2, H1 x = none → Same H1 H2 → StO C H2 x dx [some f, some pa, some sh, some un] → Q (.ref x) H2) :
    ∀ x dx, H1 x = none → H1 dx = none → dx ≠ x → spStInit C (.ref x :: ([f, sh, pa, un] ++ [])) (upd (upd H1 dx (.own x)) x (.ins C dx [])) (fun v H2 => v = .non ∧ Q (.ref x) H2) E0 := by
  intro x dx nx ndx ne
  refine ⟨x, dx, f, sh, pa, un, rfl, upd_same, by rw [upd_ne ne, upd_same], fun H2 hs hk => ⟨rfl, h x dx H2 nx (fun b o e => ?_) hs⟩⟩
  have hbx : b ≠ x := fun z => by
    rw [z, nx] at e
    cases e
  have hbd : b ≠ dx := fun z => by
    rw [z, ndx] at e
    cases e
  exact hk b o (by rw [upd_ne hbx, upd_ne hbd]; exact e) hbx hbd
/-! ### copied -/
def spCopied (C : Addr) : Sp := fun vs H Q _ => ∃ st F ps m, vs = [.ref st] ∧ StAt C H st F ps m ∧ ∀ x H', H x = none → Same H H' → StAt C H' x F ps m → Q (.ref x) H'
theorem scCopied : FnScope ["self"] ["self"] (defScope (inClass (topS 47) 2)) := ⟨rfl, rfl, rfl, by decide +kernel, rfl, by decide +kernel, by decide +kernel⟩
theorem ok_copied (T : Txt K w mg) : FnOk P w K mg base CX0 3 T.sCopied.f T.sCopied.fd ["self"] (spCopied T.cS) := by
  refine T.sCopied.fn.ok scCopied (fun vs H Q E h => ?_) fun cdv A outer s H vs Q E hr h => ?_
  · obtain ⟨st, F, ps, m, rfl, _⟩ := h
    rfl
  obtain ⟨st, F, ps, m, rfl, ⟨dx, f, pa, sh, un, us, h1, h2, h3, h4, h5⟩, q⟩ := h
  refine ⟨_, pss_one (ps_ret (pe_make T.mS.mk_ (ok_stInit T) hr (by rfl) T.mS.gl T.mS.b .nil pass0 (pa_cons (SlX.pe_sl (pv 0)) (pa_cons (SlX.pe_sl (pv 0)) (pa_cons (SlX.pe_sl (pv 0)) (pa_cons (SlX.pe_sl (pv 0)) pa_nil)))))), ?_⟩
  refine ⟨_, rfl, st, T.cS, dx, _, _, 0, _, rfl, h1.slt, T.scS, T.slFacts, rfl, _, rfl, st, T.cS, dx, _, _, 2, _, rfl, h1.slt, T.scS, T.slShelf, rfl, _, rfl, st, T.cS, dx, _, _, 1, _, rfl, h1.slt, T.scS, T.slPast, rfl, _, rfl, st, T.cS, dx, _, _, 3, _, rfl, h1.slt, T.scS, T.slUndone, rfl, ?_⟩
  exact st_made fun x dx2 H2 nx s2 hs => q x H2 nx s2 ⟨dx2, f, pa, sh, un, us, hs, h2.st (.of s2), h3.st (.of s2), s2 _ _ h4, h5⟩
/-! ### go_on -/
def spGoOn (C : Addr) : Sp := fun vs H Q _ => ∃ st op f2 sh2 F ps m F2, vs = [.ref st, op, .ref f2, sh2] ∧ StAt C H st F ps m ∧ ps.length ≤ 100 ∧ FxAt H f2 F2 ∧ ∀ H', Kp [st] H H' → StAt C H' st F2 (ps ++ [F]) 0 → Q .non H'
theorem scGoOn : FnScope ["self", "operation", "facts", "shelf"] ["self", "operation", "facts", "shelf"] (defScope (inClass (topS 47) 3)) := ⟨rfl, rfl, rfl, by decide +kernel, rfl, by decide +kernel, by decide +kernel⟩
theorem ok_goOn (T : Txt K w mg) : FnOk P w K mg base CX0 1 T.sGoOn.f T.sGoOn.fd ["self", "operation", "facts", "shelf"] (spGoOn T.cS) := by
  refine T.sGoOn.fn.ok scGoOn (fun vs H Q E h => ?_) fun cdv A outer s H vs Q E hr h => ?_
  · obtain ⟨st, op, f2, sh2, F, ps, m, F2, rfl, _⟩ := h
    rfl
  obtain ⟨st, op, f2, sh2, F, ps, m, F2, rfl, ⟨dx, f, pa, sh, un, us, h1, h2, h3, h4, h5⟩, hl, hf2, q⟩ := h
  refine ⟨_, pss_cons (SlX.ps_sl (pv 0) (pe_tup (StX.pa_star (SlX.pe_sl (pv 0)) (pa_cons (pe_tup (pa_cons (pv 1) (pa_cons (SlX.pe_sl (pv 0)) (pa_cons (SlX.pe_sl (pv 0)) pa_nil)))) pa_nil))))
    (pss_cons (SlX.ps_sl (pv 0) (pe_tup pa_nil)) (pss_cons (SlX.ps_sl (pv 0) (pv 2)) (pss_one (SlX.ps_sl (pv 0) (pv 3))))), ?_⟩
  obtain ⟨es, e1, e2, e3⟩ := h3.ex
  refine ⟨_, rfl, st, T.cS, dx, _, _, 1, _, rfl, h1.slt, T.scS, T.slPast, rfl, pa, _, rfl, .inl (SqT.of e1), _, rfl, _, rfl, st, T.cS, dx, _, _, 0, _, rfl, h1.slt, T.scS, T.slFacts, rfl, _, rfl, st, T.cS, dx, _, _, 2, _, rfl, h1.slt, T.scS, T.slShelf, rfl, by show 3 ≤ sizeLine; decide, fun e ne => ?_⟩
  refine ⟨?_, fun p2 np2 => ?_⟩
  · rw [List.length_append, List.length_map]
    exact Nat.le_of_lt (small16 (by simp; omega))
  have sa := same_new (same_new (o := .tup [op, .ref f, sh]) (Same.refl H) ne) (o := .tup (es.map V.ref ++ [.ref e])) np2
  have hp2 : upd (upd H e (.tup [op, .ref f, sh])) p2 (.tup (es.map V.ref ++ [.ref e])) p2 = some (.tup (es.map V.ref ++ [.ref e])) := upd_same
  have he2 : upd (upd H e (.tup [op, .ref f, sh])) p2 (.tup (es.map V.ref ++ [.ref e])) e = some (.tup [op, .ref f, sh]) := upd_get upd_same np2
  generalize upd (upd H e (.tup [op, .ref f, sh])) p2 (.tup (es.map V.ref ++ [.ref e])) = Ha at sa hp2 he2 ⊢
  have h1a := h1.same sa
  refine ⟨_, rfl, st, T.cS, dx, _, _, 1, rfl, h1a.slt, T.scS, T.slPast, ?_⟩
  have h1b : StO T.cS (SlX.slH Ha st T.cS dx _) st dx (SlX.putS 1 (.ref p2) [some (.ref f), some (.ref pa), some sh, some (.ref un)]) := h1a.put
  have kb : Kp [st] Ha (SlX.slH Ha st T.cS dx (SlX.putS 1 (.ref p2) [some (.ref f), some (.ref pa), some sh, some (.ref un)])) := h1a.kp
  generalize SlX.slH Ha st T.cS dx (SlX.putS 1 (.ref p2) [some (.ref f), some (.ref pa), some sh, some (.ref un)]) = Hb at h1b kb ⊢
  refine ⟨Nat.zero_le _, fun u2 nu2 => ?_⟩
  have sc := same_new (o := .tup []) (Same.refl Hb) nu2
  have hu2 : upd Hb u2 (.tup []) u2 = some (.tup []) := upd_same
  generalize upd Hb u2 (.tup []) = Hc at sc hu2 ⊢
  have h1c := h1b.same sc
  refine ⟨_, rfl, st, T.cS, dx, _, _, 3, rfl, h1c.slt, T.scS, T.slUndone, ?_⟩
  refine ⟨_, rfl, _, rfl, st, T.cS, dx, _, _, 0, rfl, SlX.slH_slt h1.ne, T.scS, T.slFacts, ?_⟩
  rw [SlX.slH_twice h1.ne]
  refine ⟨_, rfl, _, rfl, st, T.cS, dx, _, _, 2, rfl, SlX.slH_slt h1.ne, T.scS, T.slShelf, ?_⟩
  rw [SlX.slH_twice h1.ne]
  have kd := (((Kp.of sa).trans kb).trans (Kp.of sc)).trans (h1c.kp (ws := SlX.putS 2 sh2 (SlX.putS 0 (.ref f2) (SlX.putS 3 (.ref u2) (SlX.putS 1 (.ref p2) [some (.ref f), some (.ref pa), some sh, some (.ref un)])))))
  have std := h1.st kd
  have stad := h1a.st ((kb.trans (Kp.of sc)).trans (h1c.kp (ws := SlX.putS 2 sh2 (SlX.putS 0 (.ref f2) (SlX.putS 3 (.ref u2) (SlX.putS 1 (.ref p2) [some (.ref f), some (.ref pa), some sh, some (.ref un)])))))) 
  refine q _ kd ⟨dx, f2, p2, sh2, u2, [], h1c.put, hf2.st std, ?_, h1c.st h1c.kp _ _ hu2, rfl⟩
  refine EntAt.snoc e2 (fun i x hx => ?_) ⟨op, f, sh, stad _ _ he2, h2.st std⟩ ?_
  · obtain ⟨F', a1, a2⟩ := e3 i x hx
    exact ⟨F', a1, a2.st std⟩
  · rw [List.map_append]
    exact stad _ _ hp2
end
end M57
/-! Defs: go_back. -/
namespace M57
open PySem PySem.Spec PyProof.Rows L2 RZ
theorem cut_last {xs : List V} {x : V} : cutV (xs ++ [x]) none (some (-1)) = xs := by
  have e : ((-1 : Int) + (↑xs.length + 1)).toNat = xs.length := by omega
  simp [cutV, HT.sIx, e]
section
variable {P : Program} {w : World} {K : PySem.W.Frag} {mg : Str → Option Value} {base : Heap}
def spGoBack (C : Addr) : Sp := fun vs H Q _ => ∃ st F G ps m, vs = [.ref st] ∧ StAt C H st F (ps ++ [G]) m ∧ ps.length ≤ 100 ∧ m ≤ 100 ∧ ∀ H', Kp [st] H H' → StAt C H' st G ps (m + 1) → Q .non H'
theorem scGoBack : FnScope ["self", "operation", "facts", "shelf"] ["self"] (defScope (inClass (topS 47) 4)) := ⟨rfl, rfl, rfl, by decide +kernel, rfl, by decide +kernel, by decide +kernel⟩
theorem ok_goBack (T : Txt K w mg) : FnOk P w K mg base CX0 1 T.sGoBack.f T.sGoBack.fd ["self"] (spGoBack T.cS) := by
  refine T.sGoBack.fn.ok scGoBack (fun vs H Q E h => ?_) fun cdv A outer s H vs Q E hr h => ?_
  · obtain ⟨st, F, G, ps, m, rfl, _⟩ := h
    rfl
  obtain ⟨st, F, G, ps, m, rfl, ⟨dx, f, pa, sh, un, us, h1, h2, h3, h4, h5⟩, hl, hm, q⟩ := h
  refine ⟨_, pss_cons (ps_asg (pe_ix ix_tup (SlX.pe_sl (pv 0)) (pe_un un_neg pe_int) (fun _ _ => rfl)) (pg_tup rfl (pgs_cons (gn 1 scGoBack.nd) (pgs_cons (gn 2 scGoBack.nd) (pgs_cons (gn 3 scGoBack.nd) pgs_nil)))))
    (pss_cons (SlX.ps_sl (pv 0) (pe_tup (StX.pa_star (SlX.pe_sl (pv 0)) (pa_cons (pe_tup (pa_cons (pv 1) (pa_cons (SlX.pe_sl (pv 0)) (pa_cons (SlX.pe_sl (pv 0)) pa_nil)))) pa_nil))))
    (pss_cons (SlX.ps_sl (pv 0) (pe_slice sl_tup (SlX.pe_sl (pv 0)) po_none (po_some (pe_un un_neg pe_int))))
    (pss_cons (SlX.ps_sl (pv 0) (pv 2)) (pss_one (SlX.ps_sl (pv 0) (pv 3)))))), ?_⟩
  obtain ⟨es, e1, e2, e3⟩ := h3.ex
  rcases List.eq_nil_or_concat es with rfl | ⟨es0, e0, rfl⟩
  · simp at e2
  simp only [List.concat_eq_append] at e1 e2 e3
  rw [List.length_append, List.length_append] at e2
  have e2' : es0.length = ps.length := by simpa using e2
  obtain ⟨G', g1, ⟨op, fg, shg, g2, g3⟩⟩ := e3 es0.length e0 (by rw [List.getElem?_append_right (Nat.le_refl _), Nat.sub_self]; rfl)
  have eG : G' = G := by
    rw [e2', List.getElem?_append_right (Nat.le_refl _), Nat.sub_self] at g1
    exact (Option.some.inj g1).symm
  subst eG
  rw [List.map_append] at e1
  have eat : atI (es0.map V.ref ++ [e0].map V.ref) (-1) = some (.ref e0) := atI_last _ _
  refine ⟨_, rfl, st, T.cS, dx, _, _, 1, _, rfl, h1.slt, T.scS, T.slPast, rfl, _, rfl, pa, _, _, _, rfl, rfl, SqT.of e1, eat, e0, _, rfl, SqT.of g2, rfl, _, _, rfl, _, _, rfl, _, _, rfl, rfl, ?_⟩
  refine ⟨_, rfl, st, T.cS, dx, _, _, 3, _, rfl, h1.slt, T.scS, T.slUndone, rfl, un, _, rfl, .inl (SqT.of h4), _, rfl, _, rfl, st, T.cS, dx, _, _, 0, _, rfl, h1.slt, T.scS, T.slFacts, rfl, _, rfl, st, T.cS, dx, _, _, 2, _, rfl, h1.slt, T.scS, T.slShelf, rfl, by show 3 ≤ sizeLine; decide, fun e ne => ?_⟩
  refine ⟨?_, fun u2 nu2 => ?_⟩
  · rw [List.length_append, h5]
    exact Nat.le_of_lt (small16 (by simp; omega))
  have sa := same_new (same_new (o := .tup [op, .ref f, sh]) (Same.refl H) ne) (o := .tup (us ++ [.ref e])) nu2
  have hu2 : upd (upd H e (.tup [op, .ref f, sh])) u2 (.tup (us ++ [.ref e])) u2 = some (.tup (us ++ [.ref e])) := upd_same
  generalize upd (upd H e (.tup [op, .ref f, sh])) u2 (.tup (us ++ [.ref e])) = Ha at sa hu2 ⊢
  have h1a := h1.same sa
  refine ⟨_, rfl, st, T.cS, dx, _, _, 3, rfl, h1a.slt, T.scS, T.slUndone, ?_⟩
  have h1b : StO T.cS (SlX.slH Ha st T.cS dx _) st dx (SlX.putS 3 (.ref u2) [some (.ref f), some (.ref pa), some sh, some (.ref un)]) := h1a.put
  have kb : Kp [st] Ha (SlX.slH Ha st T.cS dx (SlX.putS 3 (.ref u2) [some (.ref f), some (.ref pa), some sh, some (.ref un)])) := h1a.kp
  generalize SlX.slH Ha st T.cS dx (SlX.putS 3 (.ref u2) [some (.ref f), some (.ref pa), some sh, some (.ref un)]) = Hb at h1b kb ⊢
  have e1b := h1a.st kb _ _ (sa _ _ e1)
  refine ⟨_, rfl, st, T.cS, dx, _, _, 1, _, rfl, h1b.slt, T.scS, T.slPast, rfl, _, rfl, -1, rfl, pa, _, rfl, SqT.of e1b, ?_, fun p2 np2 => ?_⟩
  · have e : ((-1 : Int) + (↑es0.length + 1)).toNat = es0.length := by omega
    simp [HT.sIx, e]
  rw [show cutV (es0.map V.ref ++ [e0].map V.ref) none (some (-1)) = es0.map V.ref from cut_last]
  have sc := same_new (o := .tup (es0.map V.ref)) (Same.refl Hb) np2
  have hp2 : upd Hb p2 (.tup (es0.map V.ref)) p2 = some (.tup (es0.map V.ref)) := upd_same
  generalize upd Hb p2 (.tup (es0.map V.ref)) = Hc at sc hp2 ⊢
  have h1c := h1b.same sc
  refine ⟨_, rfl, st, T.cS, dx, _, _, 1, rfl, h1c.slt, T.scS, T.slPast, ?_⟩
  refine ⟨_, rfl, _, rfl, st, T.cS, dx, _, _, 0, rfl, SlX.slH_slt h1.ne, T.scS, T.slFacts, ?_⟩
  rw [SlX.slH_twice h1.ne]
  refine ⟨_, rfl, _, rfl, st, T.cS, dx, _, _, 2, rfl, SlX.slH_slt h1.ne, T.scS, T.slShelf, ?_⟩
  rw [SlX.slH_twice h1.ne]
  have kd := (((Kp.of sa).trans kb).trans (Kp.of sc)).trans (h1c.kp (ws := SlX.putS 2 shg (SlX.putS 0 (.ref fg) (SlX.putS 1 (.ref p2) (SlX.putS 3 (.ref u2) [some (.ref f), some (.ref pa), some sh, some (.ref un)])))))
  have std := h1.st kd
  have stad := h1a.st ((kb.trans (Kp.of sc)).trans (h1c.kp (ws := SlX.putS 2 shg (SlX.putS 0 (.ref fg) (SlX.putS 1 (.ref p2) (SlX.putS 3 (.ref u2) [some (.ref f), some (.ref pa), some sh, some (.ref un)]))))))
  refine q _ kd ⟨dx, fg, p2, shg, u2, us ++ [.ref e], h1c.put, g3.st std, ⟨es0, h1c.st h1c.kp _ _ hp2, e2', fun i x hx => ?_⟩, stad _ _ hu2, by simp [h5]⟩
  have hi : i < es0.length := (List.getElem?_eq_some_iff.mp hx).1
  obtain ⟨F', a1, a2⟩ := e3 i x (by rw [List.getElem?_append_left hi]; exact hx)
  rw [List.getElem?_append_left (by omega)] at a1
  exact ⟨F', a1, a2.st std⟩
end
end M57
/-! Defs: a work is made; its getters. -/
namespace M57
open PySem PySem.Spec PyProof.Rows L2 RZ
def wkF (a st : Addr) : List (Str × V) := [("base", .ref a), ("held", .ref st)]
theorem wkF_base (a st : Addr) : (wkF a st).lookup ("base" : Str) = some (.ref a) := by
  have e : (("base" : Str) == ("base" : Str)) = true := beq_self_eq_true _
  simp only [wkF, List.lookup, e]
theorem wkF_held (a st : Addr) : (wkF a st).lookup ("held" : Str) = some (.ref st) := by
  have e1 : (("held" : Str) == ("base" : Str)) = false := by decide +kernel
  have e : (("held" : Str) == ("held" : Str)) = true := beq_self_eq_true _
  simp only [wkF, List.lookup, e1, e]
theorem wkF_no {a st : Addr} {x : Str} (h1 : (x == ("base" : Str)) = false) (h2 : (x == ("held" : Str)) = false) : (wkF a st).lookup x = none := by
  simp only [wkF, List.lookup, h1, h2]
theorem wkF_put (a st st2 : Addr) : putF "held" (.ref st2) (wkF a st) = wkF a st2 := by
  have e1 : ¬ ("base" : Str) = "held" := by decide +kernel
  have e2 : (("held" : Str)) = "held" := rfl
  simp [wkF, putF, e1]
theorem wkF_new (a st : Addr) : putF "held" (.ref st) (putF "base" (.ref a) []) = wkF a st := by
  have e1 : ¬ ("base" : Str) = "held" := by decide +kernel
  simp [wkF, putF, e1]
theorem made_same {H1 H2 : Hp} {x dx : Addr} {o o' : HO} (nx : H1 x = none) (ndx : H1 dx = none) (h : ∀ b u, upd (upd H1 dx o) x o' b = some u → b ≠ x → b ≠ dx → H2 b = some u) : Same H1 H2 := fun b u e => by
  have hbx : b ≠ x := fun z => by
    rw [z, nx] at e
    cases e
  have hbd : b ≠ dx := fun z => by
    rw [z, ndx] at e
    cases e
  exact h b u (by rw [upd_ne hbx, upd_ne hbd]; exact e) hbx hbd
/-- a work -/
structure WkAt (CW CS : Addr) (H : Hp) (wk a st : Addr) (F : Fx) (ps : List Fx) (m : Nat) : Prop where
  w : ∃ dx, H wk = some (.ins CW dx (wkF a st))
  s : StAt CS H st F ps m
theorem WkAt.same {CW CS : Addr} {H H' : Hp} {wk a st : Addr} {F : Fx} {ps : List Fx} {m : Nat} (h : WkAt CW CS H wk a st F ps m) (s : Same H H') : WkAt CW CS H' wk a st F ps m :=
  ⟨let ⟨dx, e⟩ := h.w; ⟨dx, s _ _ e⟩, h.s.same s⟩
theorem WkAt.ne {CW CS : Addr} {H : Hp} {wk a st : Addr} {F : Fx} {ps : List Fx} {m : Nat} (h : WkAt CW CS H wk a st F ps m) : wk ≠ st := fun z => by
  obtain ⟨dx, e⟩ := h.w
  obtain ⟨_, _, _, _, _, _, h1, _⟩ := h.s.ex
  rw [z, h1.o] at e
  have z' : HO.ext _ = HO.ins CW dx (wkF a st) := Option.some.inj e
  cases z'
section
variable {P : Program} {w : World} {K : PySem.W.Frag} {mg : Str → Option Value} {base : Heap}
def spWkInit (CP CW CS : Addr) : Sp := fun vs H Q _ => ∃ x dx a d p ds, vs = [.ref x, .ref a, .ref d] ∧ H x = some (.ins CW dx []) ∧ PlateAt CP H a p ∧ p.Ok ∧ TupI H d ds ∧ OkD p ds ∧
  ∀ H' st, Kp [x] H H' → H st = none → WkAt CW CS H' x a st ⟨ds, [], [], 0⟩ [] 0 → Q .non H'
theorem scWkInit : FnScope ["self", "plate", "depths"] ["self", "plate", "depths"] (defScope (inClass (topS 48) 0)) := ⟨rfl, rfl, rfl, by decide +kernel, rfl, by decide +kernel, by decide +kernel⟩
theorem ok_wkInit (T : Txt K w mg) : FnOk P w K mg base CX0 5 T.mW.f T.mW.fd ["self", "plate", "depths"] (spWkInit T.cP T.cW T.cS) := by
  refine T.mW.fn.ok scWkInit (fun vs H Q E h => ?_) fun cdv A outer s H vs Q E hr h => ?_
  · obtain ⟨x, dx, a, d, p, ds, rfl, _⟩ := h
    rfl
  obtain ⟨x, dx, a, d, p, ds, rfl, hx, hp, k, hd, okd, q⟩ := h
  refine ⟨_, pss_cons (ps_expr (dcall T.checkDepths (ok_chkD T) hr (pa_cons (pv 1) (pa_cons (pv 2) pa_nil))))
    (pss_cons (ps_fld (pv 0) (pv 1) rfl)
    (pss_one (ps_fld (pv 0) (pe_make T.mS.mk_ (ok_stInit T) (hr.mono (by decide)) (by rfl) T.mS.gl T.mS.b .nil pass0 (pa_cons (pe_tup (pa_cons (pv 2) (pa_cons (pe_tup pa_nil) (pa_cons (pe_tup pa_nil) (pa_cons pe_int pa_nil))))) (pa_cons pe_dnewK (pa_cons (pe_tup pa_nil) (pa_cons (pe_tup pa_nil) pa_nil))))) rfl))), ?_⟩
  refine ⟨_, rfl, _, rfl, a, d, p, ds, rfl, hp, k, hd, okd, fun H1 s1 => ?_⟩
  refine ⟨_, rfl, _, rfl, x, T.cW, dx, _, rfl, s1 _ _ hx, T.clW, T.nBase, (by show 0 < 1000; decide), ?_⟩
  have k2 : Kp [x] H (upd H1 x (.ins T.cW dx (putF "base" (.ref a) []))) := (Kp.of s1).put (List.mem_singleton_self _)
  have hx2 : upd H1 x (.ins T.cW dx (putF "base" (.ref a) [])) x = some (.ins T.cW dx (putF "base" (.ref a) [])) := upd_same
  generalize upd H1 x (.ins T.cW dx (putF "base" (.ref a) [])) = H2 at k2 hx2 ⊢
  have tne : ∀ {b : Addr} {xs : List V}, H b = some (.tup xs) → b ∉ [x] := fun e z => by
    rw [List.mem_singleton.mp z, hx] at e
    cases e
  refine ⟨_, rfl, Nat.zero_le _, fun c n_c => ?_⟩
  have s_c := same_new (o := .tup []) (Same.refl H2) n_c
  have h_c := upd_same (H := H2) (a := c) (o := .tup [])
  generalize upd H2 c (.tup []) = H3 at s_c h_c ⊢
  refine ⟨Nat.zero_le _, fun pl n_pl => ?_⟩
  have s_pl := same_new (o := .tup []) (Same.refl H3) n_pl
  have h_pl := upd_same (H := H3) (a := pl) (o := .tup [])
  generalize upd H3 pl (.tup []) = H4 at s_pl h_pl ⊢
  refine ⟨by show 4 ≤ sizeLine; decide, fun f n_f => ?_⟩
  have s_f := same_new (o := .tup [.ref d, .ref c, .ref pl, .int 0]) (Same.refl H4) n_f
  have h_f := upd_same (H := H4) (a := f) (o := .tup [.ref d, .ref c, .ref pl, .int 0])
  generalize upd H4 f (.tup [.ref d, .ref c, .ref pl, .int 0]) = H5 at s_f h_f ⊢
  intro sh n_sh
  have s_sh := same_new (o := .dK []) (Same.refl H5) n_sh
  have h_sh := upd_same (H := H5) (a := sh) (o := .dK [])
  generalize upd H5 sh (.dK []) = H6 at s_sh h_sh ⊢
  refine ⟨Nat.zero_le _, fun pa n_pa => ?_⟩
  have s_pa := same_new (o := .tup []) (Same.refl H6) n_pa
  have h_pa := upd_same (H := H6) (a := pa) (o := .tup [])
  generalize upd H6 pa (.tup []) = H7 at s_pa h_pa ⊢
  refine ⟨Nat.zero_le _, fun un n_un => ?_⟩
  have s_un := same_new (o := .tup []) (Same.refl H7) n_un
  have h_un := upd_same (H := H7) (a := un) (o := .tup [])
  generalize upd H7 un (.tup []) = H8 at s_un h_un ⊢
  have s5 := s_f.trans (s_sh.trans (s_pa.trans s_un))
  have s28 := s_c.trans (s_pl.trans s5)
  have hx8 := s28 _ _ hx2
  intro x2 dx2 n_x2 n_dx2 ne2
  refine ⟨x2, dx2, .ref f, .ref sh, .ref pa, .ref un, rfl, upd_same, by rw [upd_ne ne2, upd_same], fun H9 hs hk => ⟨rfl, ?_⟩⟩
  have s9 : Same H8 H9 := made_same n_x2 n_dx2 hk
  have nst := n_x2
  generalize x2 = st at hs nst ⊢
  generalize dx2 = dxs at hs
  have hx9 := s9 _ _ hx8
  refine ⟨_, rfl, x, T.cW, dx, _, rfl, hx9, T.clW, T.nHeld, (by show 1 < 1000; decide), ?_⟩
  rw [wkF_new]
  have k9 : Kp [x] H H9 := k2.trans (Kp.of (s28.trans s9))
  have tt : ∀ {b : Addr} {xs : List V}, H9 b = some (.tup xs) → upd H9 x (.ins T.cW dx (wkF a st)) b = some (.tup xs) := fun {b xs} e => by
    have hb : b ≠ x := fun z => by
      rw [z, hx9] at e
      cases e
    rw [upd_ne hb]
    exact e
  have hxs : st ≠ x := fun z => by
    have := hs.o
    rw [z, hx9] at this
    have z' : HO.ins T.cW dx _ = HO.ext _ := Option.some.inj this
    cases z'
  have hdx : dxs ≠ x := fun z => by
    have := hs.d
    rw [z, hx9] at this
    cases this
  refine q _ st (k9.put (List.mem_singleton_self _)) ?_ ⟨⟨dx, upd_same⟩, dxs, f, pa, .ref sh, un, [], ⟨by rw [upd_ne hxs]; exact hs.o, by rw [upd_ne hdx]; exact hs.d⟩, ⟨d, c, pl, [], ?_, ?_, ?_, ?_, .nil⟩, ⟨[], ?_, rfl, fun i e z => by simp at z⟩, ?_, rfl⟩
  · cases e : H st with
    | none => rfl
    | some o =>
      have := s28 _ _ (k2 st o (by simpa using hxs) e)
      rw [nst] at this
      cases this
  · exact tt (s9 _ _ ((s_sh.trans (s_pa.trans s_un)) _ _ h_f))
  · exact tt (k9 _ _ (tne hd) hd)
  · exact tt (s9 _ _ ((s_pl.trans s5) _ _ h_c))
  · exact tt (s9 _ _ (s5 _ _ h_pl))
  · exact tt (s9 _ _ (s_un _ _ h_pa))
  · exact tt (s9 _ _ h_un)
/-! ### the getters -/
def spWkG (CW CS : Addr) (g : Fx → Addr → Hp → Prop) : Sp := fun vs H Q _ => ∃ wk a st F ps m, vs = [.ref wk] ∧ WkAt CW CS H wk a st F ps m ∧ ∀ d, g F d H → Q (.ref d) H
theorem scWkD : FnScope ["self"] ["self"] (defScope (inClass (topS 48) 2)) := ⟨rfl, rfl, rfl, by decide +kernel, rfl, by decide +kernel, by decide +kernel⟩
theorem scWkC : FnScope ["self"] ["self"] (defScope (inClass (topS 48) 3)) := ⟨rfl, rfl, rfl, by decide +kernel, rfl, by decide +kernel, by decide +kernel⟩
theorem ok_wkD (T : Txt K w mg) : FnA P w K mg base CXN 1 T.wDepths.f (spWkG T.cW T.cS fun F d H => TupI H d F.ds) := by
  refine FunD.okA (funD_of T.wDepths.fn) scWkD T.wDepths.b (fun vs H Q E h => ?_) fun cdv A outer s H vs Q E hr h => ?_
  · obtain ⟨_, _, _, _, _, _, rfl, _⟩ := h
    rfl
  obtain ⟨wk, a, st, F, ps, m, rfl, ⟨⟨dx, hw⟩, ⟨dxs, f, pa, sh, un, us, h1, ⟨d, c, pl, bs, f1, f2, f3, f4, f5⟩, h3, h4, h5⟩⟩, q⟩ := h
  refine ⟨_, pss_one (ps_ret (pe_ix ix_tup (SlX.pe_sl (pe_fld (pv 0) rfl)) pe_int (fun _ _ => rfl))), ?_⟩
  exact ⟨_, rfl, wk, T.cW, dx, _, _, rfl, hw, T.clW, T.nHeld, wkF_held a st, st, T.cS, dxs, _, _, 0, _, rfl, h1.slt, T.scS, T.slFacts, rfl, f, _, _, _, rfl, rfl, SqT.of f1, atI0, q d f2⟩
theorem ok_wkC (T : Txt K w mg) : FnA P w K mg base CXN 1 T.wCovered.f (spWkG T.cW T.cS fun F d H => TupI H d F.cs) := by
  refine FunD.okA (funD_of T.wCovered.fn) scWkC T.wCovered.b (fun vs H Q E h => ?_) fun cdv A outer s H vs Q E hr h => ?_
  · obtain ⟨_, _, _, _, _, _, rfl, _⟩ := h
    rfl
  obtain ⟨wk, a, st, F, ps, m, rfl, ⟨⟨dx, hw⟩, ⟨dxs, f, pa, sh, un, us, h1, ⟨d, c, pl, bs, f1, f2, f3, f4, f5⟩, h3, h4, h5⟩⟩, q⟩ := h
  refine ⟨_, pss_one (ps_ret (pe_ix ix_tup (SlX.pe_sl (pe_fld (pv 0) rfl)) pe_int (fun _ _ => rfl))), ?_⟩
  exact ⟨_, rfl, wk, T.cW, dx, _, _, rfl, hw, T.clW, T.nHeld, wkF_held a st, st, T.cS, dxs, _, _, 0, _, rfl, h1.slt, T.scS, T.slFacts, rfl, f, _, _, _, rfl, rfl, SqT.of f1, (atI_nat rfl : atI _ ((1 : Nat) : Int) = some _), q c f3⟩
def spWkT (CW CS : Addr) : Sp := fun vs H Q _ => ∃ wk a st F ps m, vs = [.ref wk] ∧ WkAt CW CS H wk a st F ps m ∧ Q (.int F.time) H
theorem scWkT : FnScope ["self"] ["self"] (defScope (inClass (topS 48) 5)) := ⟨rfl, rfl, rfl, by decide +kernel, rfl, by decide +kernel, by decide +kernel⟩
theorem ok_wkT (T : Txt K w mg) : FnA P w K mg base CXN 1 T.wTime.f (spWkT T.cW T.cS) := by
  refine FunD.okA (funD_of T.wTime.fn) scWkT T.wTime.b (fun vs H Q E h => ?_) fun cdv A outer s H vs Q E hr h => ?_
  · obtain ⟨_, _, _, _, _, _, rfl, _⟩ := h
    rfl
  obtain ⟨wk, a, st, F, ps, m, rfl, ⟨⟨dx, hw⟩, ⟨dxs, f, pa, sh, un, us, h1, ⟨d, c, pl, bs, f1, f2, f3, f4, f5⟩, h3, h4, h5⟩⟩, q⟩ := h
  refine ⟨_, pss_one (ps_ret (pe_ix ix_tup (SlX.pe_sl (pe_fld (pv 0) rfl)) pe_int (fun _ _ => rfl))), ?_⟩
  exact ⟨_, rfl, wk, T.cW, dx, _, _, rfl, hw, T.clW, T.nHeld, wkF_held a st, st, T.cS, dxs, _, _, 0, _, rfl, h1.slt, T.scS, T.slFacts, rfl, f, _, _, _, rfl, rfl, SqT.of f1, (atI_nat rfl : atI _ ((3 : Nat) : Int) = some _), q⟩
def spWkP (CW CS : Addr) : Sp := fun vs H Q _ => ∃ wk a st F ps m, vs = [.ref wk] ∧ WkAt CW CS H wk a st F ps m ∧ ∀ H' l bs, Same H H' → H' l = some (.lst (bs.map V.ref)) → TupsAt H' bs F.pulls → Q (.ref l) H'
theorem scWkP : FnScope ["self"] ["self"] (defScope (inClass (topS 48) 4)) := ⟨rfl, rfl, rfl, by decide +kernel, rfl, by decide +kernel, by decide +kernel⟩
theorem ok_wkP (T : Txt K w mg) : FnA P w K mg base CXN 1 T.wPulls.f (spWkP T.cW T.cS) := by
  refine FunD.okA (funD_of T.wPulls.fn) scWkP T.wPulls.b (fun vs H Q E h => ?_) fun cdv A outer s H vs Q E hr h => ?_
  · obtain ⟨_, _, _, _, _, _, rfl, _⟩ := h
    rfl
  obtain ⟨wk, a, st, F, ps, m, rfl, ⟨⟨dx, hw⟩, ⟨dxs, f, pa, sh, un, us, h1, ⟨d, c, pl, bs, f1, f2, f3, f4, f5⟩, h3, h4, h5⟩⟩, q⟩ := h
  refine ⟨_, pss_one (ps_ret (pe_callTy call_list_of (by rfl) T.list_ (by decide +kernel) (pa_cons (pe_ix ix_tup (SlX.pe_sl (pe_fld (pv 0) rfl)) pe_int (fun _ _ => rfl)) pa_nil))), ?_⟩
  refine ⟨_, rfl, wk, T.cW, dx, _, _, rfl, hw, T.clW, T.nHeld, wkF_held a st, st, T.cS, dxs, _, _, 0, _, rfl, h1.slt, T.scS, T.slFacts, rfl, f, _, _, _, rfl, rfl, SqT.of f1, (atI_nat rfl : atI _ ((2 : Nat) : Int) = some _), pl, _, rfl, .inr (SqT.of f4), fun l nl => ?_⟩
  have s1 := same_new (o := .lst (bs.map V.ref)) (Same.refl H) nl
  exact q _ l bs s1 upd_same (f5.same s1)
end
end M57
/-! Defs: history, enter. -/
namespace M57
open PySem PySem.Spec PyProof.Rows L2 RZ
section
variable {P : Program} {w : World} {K : PySem.W.Frag} {mg : Str → Option Value} {base : Heap}
def spWkH (CW CS : Addr) : Sp := fun vs H Q _ => ∃ wk a st F ps m, vs = [.ref wk] ∧ WkAt CW CS H wk a st F ps m ∧ ps.length ≤ 100 ∧ ∀ H' l xs, Same H H' → H' l = some (.lst xs) → xs.length = ps.length → Q (.ref l) H'
theorem scWkH : FnScope ["self", "operation", "facts", "shelf"] ["self"] (defScope (inClass (topS 48) 7)) := ⟨rfl, rfl, rfl, by decide +kernel, rfl, by decide +kernel, by decide +kernel⟩
theorem ok_wkH (T : Txt K w mg) : FnOk P w K mg base CX0 1 T.wHistory.f T.wHistory.fd ["self"] (spWkH T.cW T.cS) := by
  refine T.wHistory.fn.ok scWkH (fun vs H Q E h => ?_) fun cdv A outer s H vs Q E hr h => ?_
  · obtain ⟨_, _, _, _, _, _, rfl, _⟩ := h
    rfl
  obtain ⟨wk, a, st, F, ps, m, rfl, ⟨⟨dx, hw⟩, ⟨dxs, f, pa, sh, un, us, h1, h2, ⟨es, e1, e2, e3⟩, h4, h5⟩⟩, hl, q⟩ := h
  refine ⟨_, pss_one (ps_ret (pe_lc (own := [("operation", 1), ("facts", 2), ("shelf", 3)]) (g := gTup K 3 (gCons (gName 1) (gCons (gName 2) (gCons (gName 3) gNil)))) (tt := tYes) rfl scWkH.nd (pi_tup (SlX.pe_sl (pe_fld (pv 0) rfl)))
    (blkOk_by (N := ["self", "operation", "facts", "shelf"]) (sc := defScope (inClass (topS 48) 7)) (by decide +kernel)) (fun _ _ _ _ _ => pg_tup rfl (pgs_cons (gn 1 scWkH.nd) (pgs_cons (gn 2 scWkH.nd) (pgs_cons (gn 3 scWkH.nd) pgs_nil)))) (fun _ _ _ _ _ => pts_nil) (fun _ _ _ _ _ => pv 1))), ?_⟩
  refine ⟨_, rfl, wk, T.cW, dx, _, _, rfl, hw, T.clW, T.nHeld, wkF_held a st, st, T.cS, dxs, _, _, 1, _, rfl, h1.slt, T.scS, T.slPast, rfl, pa, rfl, ⟨_, SqT.of e1⟩, fun D nD => lc_tup (xs := es.map V.ref) (fun i H2 => Same H H2 ∧ ∃ xs, H2 D = some (.lst xs) ∧ xs.length = i) ⟨same_add (Same.refl H) nD, [], upd_same, rfl⟩ (fun i H2 _ p2 => SqT.of (p2.1 _ _ e1)) ?_ ?_⟩
  · rintro i x H2 hx ⟨s2, xs, hD, hxl⟩
    obtain ⟨e, he, rfl⟩ := refs_get hx
    obtain ⟨G, g1, ⟨op, fg, shg, g2, g3⟩⟩ := e3 i e he
    have hi : i < es.length := (List.getElem?_eq_some_iff.mp he).1
    refine ⟨e, _, rfl, SqT.of (s2 _ _ g2), rfl, _, _, rfl, _, _, rfl, _, _, rfl, rfl, rfl, ?_⟩
    refine lcYes ?_
    exact ⟨_, rfl, xs, hD, by rw [hxl]; exact small16 (by omega), same_add s2 nD, _, upd_same, by simp [hxl]⟩
  · rintro H2 ⟨s2, xs, hD, hxl⟩
    exact q _ D xs s2 hD (by rw [hxl, List.length_map, e2])
/-! ### enter -/
def tmOf : Stp → Int
  | .bath t => t
  | _ => 0
/-- what must hold ahead of an operation -/
structure OpPre (CP CW CS : Addr) (H : Hp) (wk a st : Addr) (F : Fx) (ps : List Fx) (m : Nat) (p : Pl) (s : Stp) : Prop where
  wk : WkAt CW CS H wk a st F ps m
  pl : PlateAt CP H a p
  ok : p.Ok
  ne : a ≠ st
  d : OkD p F.ds
  c : OkC p F.cs
  s : OkS p s
  few : ps.length ≤ 100
theorem OpPre.same {CP CW CS : Addr} {H H' : Hp} {wk a st : Addr} {F : Fx} {ps : List Fx} {m : Nat} {p : Pl} {s : Stp} (h : OpPre CP CW CS H wk a st F ps m p s) (e : Same H H') : OpPre CP CW CS H' wk a st F ps m p s :=
  ⟨h.wk.same e, h.pl.same e, h.ok, h.ne, h.d, h.c, h.s, h.few⟩
/-- what holds behind it -/
def OpPost (CW CS CX : Addr) (H : Hp) (wk a st : Addr) (F : Fx) (ps : List Fx) (E : XK) (N : (List Int × List Int) → Hp → Prop) (tm : Int) : Option (List Int × List Int) → Prop
  | none => SpoilE CX E H 0
  | some z => ∀ H', Kp [st] H H' → WkAt CW CS H' wk a st ⟨z.1, z.2, F.pulls, F.time + tm⟩ (ps ++ [F]) 0 → N z H'
theorem OpPost.same {CW CS CX : Addr} {H H1 : Hp} {wk a st : Addr} {F : Fx} {ps : List Fx} {E : XK} {N : (List Int × List Int) → Hp → Prop} {tm : Int} {x : Option (List Int × List Int)} (h : OpPost CW CS CX H wk a st F ps E N tm x) (s : Same H H1) : OpPost CW CS CX H1 wk a st F ps E N tm x := by
  cases x with
  | none => exact SpoilE.same h s
  | some z => exact fun H' k => h H' ((Kp.of s).trans k)
def spEnter (CP CW CS CX : Addr) : Sp := fun vs H Q E => ∃ wk op v tm a st F ps m p s, vs = [.ref wk, op, .ref v, .int tm] ∧ OpPre CP CW CS H wk a st F ps m p s ∧ StepAt H v s ∧ OpPost CW CS CX H wk a st F ps E (fun _ H' => Q .non H') tm (afterStep p F.ds F.cs s)
theorem scEnter : FnScope ["self", "operation", "step", "more", "depths", "covered", "pulls", "time", "later"] ["self", "operation", "step", "more"] (defScope (inClass (topS 48) 8)) := ⟨rfl, rfl, rfl, by decide +kernel, rfl, by decide +kernel, by decide +kernel⟩
theorem ok_enter (T : Txt K w mg) : FnOk P w K mg base (L2.CX P w) 8 T.wEnter.f T.wEnter.fd ["self", "operation", "step", "more"] (spEnter T.cP T.cW T.cS T.cX) := by
  refine T.wEnter.fn.okX scEnter (fun vs H Q E h => ?_) fun cdv A outer s H vs Q E hr h => ?_
  · obtain ⟨_, _, _, _, _, _, _, _, _, _, _, rfl, _⟩ := h
    rfl
  obtain ⟨wk, op, v, tm, a, st, F, ps, m, p, stp, rfl, ⟨hwk, hp, k, hne, okd, okc, oks, few⟩, hv, q⟩ := h
  obtain ⟨⟨dx, hw⟩, hst⟩ := id hwk
  obtain ⟨dxs, f, pa, sh, un, us, h1, ⟨d, c, pl, bs, f1, f2, f3, f4, f5⟩, h3, h4, h5⟩ := id hst
  have fgo := (ok_goOn (P := P) (base := base) T).raw T.sGoOn.b (dvs := []) .nil
  refine ⟨_, pss_cons (ps_if (pt_not (pt_val (dcall T.isStep (ok_isS T) (hr.mono (by decide)) (pa_cons (pe_fld (pv 0) rfl) (pa_cons (pv 2) pa_nil))))) (pss_one ps_never) pss_nil)
    (pss_cons (ps_asg (SlX.pe_sl (pe_fld (pv 0) rfl)) (pg_tup rfl (pgs_cons (gn 4 scEnter.nd) (pgs_cons (gn 5 scEnter.nd) (pgs_cons (gn 6 scEnter.nd) (pgs_cons (gn 7 scEnter.nd) pgs_nil))))))
    (pss_cons (sv 8 scEnter.nd (dcall T.afterS (ok_after T) hr (pa_cons (pe_fld (pv 0) rfl) (pa_cons (pv 4) (pa_cons (pv 5) (pa_cons (pv 2) pa_nil))))))
    (pss_cons (ps_if (pt_cmpR op_isN (pv 8) pe_non (nomark _)) (pss_one (ps_raise rfl (takes_of rfl rfl rfl rfl) (pmk_oex T.oeX T.iX T.tX (ok_spoil T) (hr.mono (by decide)) T.bX .nil pass0 (by rfl) T.gX (pa_cons pe_int pa_nil)))) pss_nil)
    (pss_one (ps_expr (SlX.pe_methSl (pe_fld (pv 0) rfl) T.scS T.sGoOn.me fgo (hr.mono (by decide)) pass0 (pa_cons (pv 1) (pa_cons (pe_tup (pa_cons (pe_ix ix_tup (pv 8) pe_int (fun _ _ => rfl)) (pa_cons (pe_ix ix_tup (pv 8) pe_int (fun _ _ => rfl)) (pa_cons (pv 6) (pa_cons (pe_op op_add (pv 7) (pv 3)) pa_nil))))) (pa_cons (SlX.pe_sl (pe_fld (pv 0) rfl)) pa_nil))))))))), ?_⟩
  refine ⟨_, rfl, wk, T.cW, dx, _, _, rfl, hw, T.clW, T.nBase, wkF_base a st, _, rfl, a, v, p, stp, rfl, hp, k, hv, oks, fun H1 s1 => ⟨true, rfl, iteF ?_⟩⟩
  have hw1 := s1 _ _ hw
  have h11 := h1.same s1
  refine ⟨_, rfl, wk, T.cW, dx, _, _, rfl, hw1, T.clW, T.nHeld, wkF_held a st, st, T.cS, dxs, _, _, 0, _, rfl, h11.slt, T.scS, T.slFacts, rfl, f, _, rfl, SqT.of (s1 _ _ f1), rfl, _, _, rfl, _, _, rfl, _, _, rfl, _, _, rfl, rfl, ?_⟩
  refine ⟨_, rfl, wk, T.cW, dx, _, _, rfl, hw1, T.clW, T.nBase, wkF_base a st, _, rfl, _, rfl, _, rfl, a, d, c, v, p, F.ds, F.cs, stp, rfl, hp.same s1, k, s1 _ _ f2, okd, s1 _ _ f3, okc, hv.same s1, oks, fun H2 z s2 hz => ?_⟩
  have s12 := s1.trans s2
  have q2 := q.same s12
  cases ea : afterStep p F.ds F.cs stp with
  | none =>
    rw [ea] at hz q2
    cases hz
    refine ⟨_, rfl, rfl, _, rfl, iteT ?_⟩
    exact spoil_made (i := 0) (fun R hR => hR) (by decide) q2
  | some z2 =>
    rw [ea] at hz q2
    obtain ⟨t3, d3, c3, rfl, ht3, hd3, hc3⟩ := hz
    refine ⟨_, rfl, rfl, _, rfl, iteF ?_⟩
    have h12 := h1.same s12
    refine ⟨_, rfl, wk, T.cW, dx, _, _, rfl, s12 _ _ hw, T.clW, T.nHeld, wkF_held a st, st, dxs, _, rfl, h12.slt, _, rfl, _, rfl, t3, _, _, _, rfl, rfl, SqT.of ht3, atI0, _, rfl, t3, _, _, _, rfl, rfl, SqT.of ht3, (atI_nat rfl : atI _ ((1 : Nat) : Int) = some _), _, rfl, _, rfl, _, rfl, _, _, rfl, rfl, by show 4 ≤ sizeLine; decide, fun f2n nf2 => ?_⟩
    have s3 := same_new (o := .tup [.ref d3, .ref c3, .ref pl, .int (F.time + tm)]) (Same.refl H2) nf2
    have hf2 : upd H2 f2n (.tup [.ref d3, .ref c3, .ref pl, .int (F.time + tm)]) f2n = some (.tup [.ref d3, .ref c3, .ref pl, .int (F.time + tm)]) := upd_same
    generalize upd H2 f2n (.tup [.ref d3, .ref c3, .ref pl, .int (F.time + tm)]) = H3 at s3 hf2 ⊢
    have s13 := s12.trans s3
    refine ⟨_, rfl, wk, T.cW, dx, _, _, rfl, s13 _ _ hw, T.clW, T.nHeld, wkF_held a st, st, T.cS, dxs, _, _, 2, _, rfl, (h1.same s13).slt, T.scS, T.slShelf, rfl, ?_⟩
    refine ⟨st, op, f2n, sh, F, ps, m, ⟨z2.1, z2.2, F.pulls, F.time + tm⟩, rfl, hst.same s13, few, ⟨d3, c3, pl, bs, hf2, s3 _ _ hd3, s3 _ _ hc3, s13 _ _ f4, f5.same s13⟩, fun H4 k4 hs4 => ?_⟩
    refine q2 H4 ((Kp.of s3).trans k4) ⟨⟨dx, k4 _ _ (fun z => hwk.ne (List.mem_singleton.mp z)) (s13 _ _ hw)⟩, hs4⟩
end
end M57
/-! Defs: cover, scrape, wash, bath, burnish. -/
namespace M57
open PySem PySem.Spec PyProof.Rows L2 RZ
/-- what an operation hands back -/
def ResOk (F : Fx) (z : List Int × List Int) : Stp → V → Prop
  | .bath _, r => ∃ b, r = .bl b
  | .burnish c, r => r = .int (at0 F.ds c)
  | _, r => r = .int (z.2.length : Int)
def spOp (CP CW CS CX : Addr) (G : Stp → Prop) : Sp := fun vs H Q E => ∃ wk a st F ps m p s r, vs = .ref wk :: r ∧ G s ∧ ArgAt H r s ∧ OpPre CP CW CS H wk a st F ps m p s ∧
  OpPost CW CS CX H wk a st F ps E (fun z H' => ∀ v H2, Same H' H2 → ResOk F z s v → Q v H2) (tmOf s) (afterStep p F.ds F.cs s)
section
variable {P : Program} {w : World} {K : PySem.W.Frag} {mg : Str → Option Value} {base : Heap}
theorem scCover : FnScope ["self", "cells"] ["self", "cells"] (defScope (inClass (topS 48) 9)) := ⟨rfl, rfl, rfl, by decide +kernel, rfl, by decide +kernel, by decide +kernel⟩
theorem ok_cover (T : Txt K w mg) : FnOk P w K mg base (L2.CX P w) 9 T.wCover.f T.wCover.fd ["self", "cells"] (spOp T.cP T.cW T.cS T.cX fun s => ∃ cs, s = .cover cs) := by
  refine T.wCover.fn.okX scCover (fun vs H Q E h => ?_) fun cdv A outer s H vs Q E hr h => ?_
  · obtain ⟨_, _, _, _, _, _, _, _, r, rfl, ⟨cs, rfl⟩, ⟨d, rfl, _⟩, _⟩ := h
    rfl
  obtain ⟨wk, a, st, F, ps, m, p, _, r, rfl, ⟨cs, rfl⟩, ⟨d, rfl, hd⟩, pre, q⟩ := h
  obtain ⟨dx, hw⟩ := pre.wk.w
  refine ⟨_, pss_cons (ps_expr (pe_meth (pv 0) T.clW T.wEnter.me (ok_enter T) hr T.wEnter.b .nil (passes_call (takes_of rfl rfl rfl rfl) (fun _ _ _ _ h => h)) (pa_cons (pe_tup (pa_cons pe_str (pa_cons (pv 1) pa_nil))) (pa_cons (pe_tup (pa_cons (pe_gv T.cover_) (pa_cons (pv 1) pa_nil))) (pa_cons pe_int pa_nil)))))
    (pss_one (ps_ret (pe_callB call_len_seq (by rfl) T.len PySem.boot_len (pa_cons (pe_propA (pv 0) T.clW T.wCovered.pr (ok_wkC T) ((L2H.roomH_of hr).mono (by decide))) pa_nil)))), ?_⟩
  refine ⟨_, rfl, wk, dx, _, rfl, hw, wkF_no (by decide +kernel) (by decide +kernel), _, rfl, by show 2 ≤ sizeLine; decide, fun o no => ?_⟩
  have s1 := same_new (o := .tup [.str "cover", .ref d]) (Same.refl H) no
  generalize upd H o (.tup [.str "cover", .ref d]) = H1 at s1 ⊢
  refine ⟨_, rfl, by show 2 ≤ sizeLine; decide, fun v nv => ?_⟩
  have s2 := same_new (o := .tup [.str "cover", .ref d]) s1 nv
  have hv : upd H1 v (.tup [.str "cover", .ref d]) v = some (.tup [.str "cover", .ref d]) := upd_same
  generalize upd H1 v (.tup [.str "cover", .ref d]) = H2 at s2 hv ⊢
  refine ⟨wk, .ref o, v, 0, a, st, F, ps, m, p, .cover cs, rfl, pre.same s2, ⟨_, hv, d, rfl, s2 _ _ hd⟩, ?_⟩
  have q2 := q.same s2
  cases ea : afterStep p F.ds F.cs (.cover cs) with
  | none =>
    rw [ea] at q2
    exact q2
  | some z =>
    rw [ea] at q2
    intro H3 k3 hw3
    obtain ⟨dx3, hx3⟩ := hw3.w
    refine ⟨_, rfl, wk, dx3, _, rfl, hx3, wk, a, st, _, _, 0, rfl, hw3, fun c hc => ?_⟩
    refine ⟨c, _, rfl, .inr (SqT.of hc), ?_⟩
    rw [intsV_len]
    exact q2 H3 k3 hw3 _ H3 (Same.refl _) rfl
theorem scScrape : FnScope ["self", "cell"] ["self", "cell"] (defScope (inClass (topS 48) 10)) := ⟨rfl, rfl, rfl, by decide +kernel, rfl, by decide +kernel, by decide +kernel⟩
theorem ok_scrape (T : Txt K w mg) : FnOk P w K mg base (L2.CX P w) 9 T.wScrape.f T.wScrape.fd ["self", "cell"] (spOp T.cP T.cW T.cS T.cX fun s => ∃ c, s = .scrape c) := by
  refine T.wScrape.fn.okX scScrape (fun vs H Q E h => ?_) fun cdv A outer s H vs Q E hr h => ?_
  · obtain ⟨_, _, _, _, _, _, _, _, r, rfl, ⟨cs, rfl⟩, hr, _⟩ := h
    cases hr
    rfl
  obtain ⟨wk, a, st, F, ps, m, p, _, r, rfl, ⟨cs, rfl⟩, hr0, pre, q⟩ := h
  cases hr0
  obtain ⟨dx, hw⟩ := pre.wk.w
  refine ⟨_, pss_cons (ps_expr (pe_meth (pv 0) T.clW T.wEnter.me (ok_enter T) hr T.wEnter.b .nil (passes_call (takes_of rfl rfl rfl rfl) (fun _ _ _ _ h => h)) (pa_cons (pe_tup (pa_cons pe_str (pa_cons (pv 1) pa_nil))) (pa_cons (pe_tup (pa_cons (pe_gv T.scrape_) (pa_cons (pv 1) pa_nil))) (pa_cons pe_int pa_nil)))))
    (pss_one (ps_ret (pe_callB call_len_seq (by rfl) T.len PySem.boot_len (pa_cons (pe_propA (pv 0) T.clW T.wCovered.pr (ok_wkC T) ((L2H.roomH_of hr).mono (by decide))) pa_nil)))), ?_⟩
  refine ⟨_, rfl, wk, dx, _, rfl, hw, wkF_no (by decide +kernel) (by decide +kernel), _, rfl, by show 2 ≤ sizeLine; decide, fun o no => ?_⟩
  have s1 := same_new (o := .tup [.str "scrape", .int cs]) (Same.refl H) no
  generalize upd H o (.tup [.str "scrape", .int cs]) = H1 at s1 ⊢
  refine ⟨_, rfl, by show 2 ≤ sizeLine; decide, fun v nv => ?_⟩
  have s2 := same_new (o := .tup [.str "scrape", .int cs]) s1 nv
  have hv : upd H1 v (.tup [.str "scrape", .int cs]) v = some (.tup [.str "scrape", .int cs]) := upd_same
  generalize upd H1 v (.tup [.str "scrape", .int cs]) = H2 at s2 hv ⊢
  refine ⟨wk, .ref o, v, 0, a, st, F, ps, m, p, .scrape cs, rfl, pre.same s2, ⟨_, hv, rfl⟩, ?_⟩
  have q2 := q.same s2
  cases ea : afterStep p F.ds F.cs (.scrape cs) with
  | none =>
    rw [ea] at q2
    exact q2
  | some z =>
    rw [ea] at q2
    intro H3 k3 hw3
    obtain ⟨dx3, hx3⟩ := hw3.w
    refine ⟨_, rfl, wk, dx3, _, rfl, hx3, wk, a, st, _, _, 0, rfl, hw3, fun c hc => ?_⟩
    refine ⟨c, _, rfl, .inr (SqT.of hc), ?_⟩
    rw [intsV_len]
    exact q2 H3 k3 hw3 _ H3 (Same.refl _) rfl
theorem scWash : FnScope ["self"] ["self"] (defScope (inClass (topS 48) 11)) := ⟨rfl, rfl, rfl, by decide +kernel, rfl, by decide +kernel, by decide +kernel⟩
theorem ok_wash (T : Txt K w mg) : FnOk P w K mg base (L2.CX P w) 9 T.wWash.f T.wWash.fd ["self"] (spOp T.cP T.cW T.cS T.cX fun s => s = .wash) := by
  refine T.wWash.fn.okX scWash (fun vs H Q E h => ?_) fun cdv A outer s H vs Q E hr h => ?_
  · obtain ⟨_, _, _, _, _, _, _, _, r, rfl, rfl, hr, _⟩ := h
    cases hr
    rfl
  obtain ⟨wk, a, st, F, ps, m, p, _, r, rfl, rfl, hr0, pre, q⟩ := h
  cases hr0
  obtain ⟨dx, hw⟩ := pre.wk.w
  refine ⟨_, pss_cons (ps_expr (pe_meth (pv 0) T.clW T.wEnter.me (ok_enter T) hr T.wEnter.b .nil (passes_call (takes_of rfl rfl rfl rfl) (fun _ _ _ _ h => h)) (pa_cons (pe_tup (pa_cons pe_str pa_nil)) (pa_cons (pe_tup (pa_cons (pe_gv T.wash_) pa_nil)) (pa_cons pe_int pa_nil)))))
    (pss_one (ps_ret (pe_callB call_len_seq (by rfl) T.len PySem.boot_len (pa_cons (pe_propA (pv 0) T.clW T.wCovered.pr (ok_wkC T) ((L2H.roomH_of hr).mono (by decide))) pa_nil)))), ?_⟩
  refine ⟨_, rfl, wk, dx, _, rfl, hw, wkF_no (by decide +kernel) (by decide +kernel), by show 1 ≤ sizeLine; decide, fun o no => ?_⟩
  have s1 := same_new (o := .tup [.str "wash"]) (Same.refl H) no
  generalize upd H o (.tup [.str "wash"]) = H1 at s1 ⊢
  refine ⟨by show 1 ≤ sizeLine; decide, fun v nv => ?_⟩
  have s2 := same_new (o := .tup [.str "wash"]) s1 nv
  have hv : upd H1 v (.tup [.str "wash"]) v = some (.tup [.str "wash"]) := upd_same
  generalize upd H1 v (.tup [.str "wash"]) = H2 at s2 hv ⊢
  refine ⟨wk, .ref o, v, 0, a, st, F, ps, m, p, .wash, rfl, pre.same s2, ⟨_, hv, rfl⟩, ?_⟩
  have q2 := q.same s2
  cases ea : afterStep p F.ds F.cs .wash with
  | none =>
    rw [ea] at q2
    exact q2
  | some z =>
    rw [ea] at q2
    intro H3 k3 hw3
    obtain ⟨dx3, hx3⟩ := hw3.w
    refine ⟨_, rfl, wk, dx3, _, rfl, hx3, wk, a, st, _, _, 0, rfl, hw3, fun c hc => ?_⟩
    refine ⟨c, _, rfl, .inr (SqT.of hc), ?_⟩
    rw [intsV_len]
    exact q2 H3 k3 hw3 _ H3 (Same.refl _) rfl
theorem scBurn : FnScope ["self", "cell", "before"] ["self", "cell"] (defScope (inClass (topS 48) 13)) := ⟨rfl, rfl, rfl, by decide +kernel, rfl, by decide +kernel, by decide +kernel⟩
theorem ok_burn (T : Txt K w mg) : FnOk P w K mg base (L2.CX P w) 9 T.wBurnish.f T.wBurnish.fd ["self", "cell"] (spOp T.cP T.cW T.cS T.cX fun s => ∃ c, s = .burnish c) := by
  refine T.wBurnish.fn.okX scBurn (fun vs H Q E h => ?_) fun cdv A outer s H vs Q E hr h => ?_
  · obtain ⟨_, _, _, _, _, _, _, _, r, rfl, ⟨cs, rfl⟩, hr, _⟩ := h
    cases hr
    rfl
  obtain ⟨wk, a, st, F, ps, m, p, _, r, rfl, ⟨cs, rfl⟩, hr0, pre, q⟩ := h
  cases hr0
  obtain ⟨dx, hw⟩ := pre.wk.w
  refine ⟨_, pss_cons (sv 2 scBurn.nd (pe_propA (pv 0) T.clW T.wDepths.pr (ok_wkD T) ((L2H.roomH_of hr).mono (by decide))))
    (pss_cons (ps_expr (pe_meth (pv 0) T.clW T.wEnter.me (ok_enter T) hr T.wEnter.b .nil (passes_call (takes_of rfl rfl rfl rfl) (fun _ _ _ _ h => h)) (pa_cons (pe_tup (pa_cons pe_str (pa_cons (pv 1) pa_nil))) (pa_cons (pe_tup (pa_cons (pe_gv T.burn_) (pa_cons (pv 1) pa_nil))) (pa_cons pe_int pa_nil)))))
    (pss_one (ps_ret (pe_ix ix_tup (pv 2) (pv 1) (fun _ _ => rfl))))), ?_⟩
  refine ⟨_, rfl, wk, dx, _, rfl, hw, wk, a, st, F, ps, m, rfl, pre.wk, fun d hd => ?_⟩
  refine ⟨_, rfl, wk, dx, _, rfl, hw, wkF_no (by decide +kernel) (by decide +kernel), _, rfl, by show 2 ≤ sizeLine; decide, fun o no => ?_⟩
  have s1 := same_new (o := .tup [.str "burnish", .int cs]) (Same.refl H) no
  generalize upd H o (.tup [.str "burnish", .int cs]) = H1 at s1 ⊢
  refine ⟨_, rfl, by show 2 ≤ sizeLine; decide, fun v nv => ?_⟩
  have s2 := same_new (o := .tup [.str "burnish", .int cs]) s1 nv
  have hv : upd H1 v (.tup [.str "burnish", .int cs]) v = some (.tup [.str "burnish", .int cs]) := upd_same
  generalize upd H1 v (.tup [.str "burnish", .int cs]) = H2 at s2 hv ⊢
  refine ⟨wk, .ref o, v, 0, a, st, F, ps, m, p, .burnish cs, rfl, pre.same s2, ⟨_, hv, rfl⟩, ?_⟩
  have q2 := q.same s2
  cases ea : afterStep p F.ds F.cs (.burnish cs) with
  | none =>
    rw [ea] at q2
    exact q2
  | some z =>
    rw [ea] at q2
    intro H3 k3 hw3
    have hd3 := (pre.wk.s.same s2).stt k3 _ _ (s2 _ _ hd)
    have hl := pre.d.1
    have hs : 0 ≤ cs ∧ cs < (p.n : Int) := pre.s
    refine ⟨_, rfl, _, rfl, d, _, _, _, rfl, rfl, SqT.of hd3, atI_ints hs.1 (by omega), ?_⟩
    exact q2 H3 k3 hw3 _ H3 (Same.refl _) rfl
theorem scBath : FnScope ["self", "time", "depths", "covered"] ["self", "time"] (defScope (inClass (topS 48) 12)) := ⟨rfl, rfl, rfl, by decide +kernel, rfl, by decide +kernel, by decide +kernel⟩
theorem ok_bath (T : Txt K w mg) : FnOk P w K mg base (L2.CX P w) 9 T.wBath.f T.wBath.fd ["self", "time"] (spOp T.cP T.cW T.cS T.cX fun s => ∃ c, s = .bath c) := by
  refine T.wBath.fn.okX scBath (fun vs H Q E h => ?_) fun cdv A outer s H vs Q E hr h => ?_
  · obtain ⟨_, _, _, _, _, _, _, _, r, rfl, ⟨cs, rfl⟩, hr, _⟩ := h
    cases hr
    rfl
  obtain ⟨wk, a, st, F, ps, m, p, _, r, rfl, ⟨cs, rfl⟩, hr0, pre, q⟩ := h
  cases hr0
  have hu := hr.units
  obtain ⟨dx, hw⟩ := pre.wk.w
  obtain ⟨dxs, f, pa, sh, un, us, h1, ⟨d, c, pl, bs, f1, f2, f3, f4, f5⟩, h3, h4, h5⟩ := id pre.wk.s
  refine ⟨_, pss_cons (ps_asg (pe_slice sl_tup (SlX.pe_sl (pe_fld (pv 0) rfl)) po_none (po_some pe_int)) (pg_tup rfl (pgs_cons (gn 2 scBath.nd) (pgs_cons (gn 3 scBath.nd) pgs_nil))))
    (pss_cons (ps_expr (pe_meth (pv 0) T.clW T.wEnter.me (ok_enter T) hr T.wEnter.b .nil (passes_call (takes_of rfl rfl rfl rfl) (fun _ _ _ _ h => h)) (pa_cons (pe_tup (pa_cons pe_str (pa_cons (pv 1) pa_nil))) (pa_cons (pe_tup (pa_cons (pe_gv T.bath_) (pa_cons (pv 1) pa_nil))) (pa_cons (pv 1) pa_nil)))))
    (pss_one (ps_ret (pe_cmpR (op_neD hu) (pe_propA (pv 0) T.clW T.wDepths.pr (ok_wkD T) ((L2H.roomH_of hr).mono (by decide))) (dcall T.bathed (ok_bathed T) (hr.mono (by decide)) (pa_cons (pv 2) (pa_cons (pv 3) (pa_cons (pv 1) pa_nil)))) (nomark _))))), ?_⟩
  refine ⟨_, rfl, wk, T.cW, dx, _, _, rfl, hw, T.clW, T.nHeld, wkF_held a st, st, T.cS, dxs, _, _, 0, _, rfl, h1.slt, T.scS, T.slFacts, rfl, 2, rfl, f, _, rfl, SqT.of f1, by show ¬ (0 = 0 ∧ 2 = 4); decide, fun g ng => ?_⟩
  have s0 := same_new (o := .tup (cutV [.ref d, .ref c, .ref pl, .int F.time] none (some 2))) (Same.refl H) ng
  have hg : upd H g (.tup (cutV [.ref d, .ref c, .ref pl, .int F.time] none (some 2))) g = some (.tup [.ref d, .ref c]) := upd_same
  generalize upd H g (.tup (cutV [.ref d, .ref c, .ref pl, .int F.time] none (some 2))) = H0 at s0 hg ⊢
  refine ⟨g, _, rfl, SqT.of hg, rfl, _, _, rfl, _, _, rfl, rfl, ?_⟩
  refine ⟨_, rfl, wk, dx, _, rfl, s0 _ _ hw, wkF_no (by decide +kernel) (by decide +kernel), _, rfl, by show 2 ≤ sizeLine; decide, fun o no => ?_⟩
  have s1 := same_new (o := .tup [.str "bath", .int cs]) s0 no
  generalize upd H0 o (.tup [.str "bath", .int cs]) = H1 at s1 ⊢
  refine ⟨_, rfl, by show 2 ≤ sizeLine; decide, fun v nv => ?_⟩
  have s2 := same_new (o := .tup [.str "bath", .int cs]) s1 nv
  have hv : upd H1 v (.tup [.str "bath", .int cs]) v = some (.tup [.str "bath", .int cs]) := upd_same
  generalize upd H1 v (.tup [.str "bath", .int cs]) = H2 at s2 hv ⊢
  refine ⟨_, rfl, wk, .ref o, v, cs, a, st, F, ps, m, p, .bath cs, rfl, pre.same s2, ⟨_, hv, rfl⟩, ?_⟩
  have q2 := q.same s2
  cases ea : afterStep p F.ds F.cs (.bath cs) with
  | none =>
    rw [ea] at q2
    exact q2
  | some z =>
    rw [ea] at q2
    intro H3 k3 hw3
    have stt := (pre.wk.s.same s2).stt k3
    have hd3 := stt _ _ (s2 _ _ f2)
    have hc3 := stt _ _ (s2 _ _ f3)
    have hl := pre.d.1
    have n9 := pre.ok.n9
    obtain ⟨dx3, hx3⟩ := hw3.w
    refine ⟨_, rfl, wk, dx3, _, rfl, hx3, wk, a, st, _, _, 0, rfl, hw3, fun e he => ?_⟩
    refine ⟨_, rfl, _, rfl, _, rfl, d, c, cs, F.ds, F.cs, rfl, hd3, by omega, hc3, fun H4 b s4 hb => ?_⟩
    refine ⟨_, _, dpInts (s4 _ _ he), dpInts hb, (niceTup _).sh, (niceTup _).sh, ?_⟩
    exact q2 H3 k3 hw3 _ H4 s4 ⟨_, rfl⟩
end
end M57
/-! Defs: pull, undo, is_operation, execute. -/
namespace M57
open PySem PySem.Spec PyProof.Rows L2 RZ
section
variable {P : Program} {w : World} {K : PySem.W.Frag} {mg : Str → Option Value} {base : Heap}
def spPull (CW CS : Addr) : Sp := fun vs H Q _ => ∃ wk a st F ps m, vs = [.ref wk] ∧ WkAt CW CS H wk a st F ps m ∧ ps.length ≤ 100 ∧ F.pulls.length ≤ 100 ∧
  ∀ H' d, Kp [st] H H' → WkAt CW CS H' wk a st ⟨F.ds, F.cs, F.pulls ++ [F.ds], F.time⟩ (ps ++ [F]) 0 → TupI H' d F.ds → Q (.ref d) H'
theorem scPull : FnScope ["self", "depths", "covered", "pulls", "time"] ["self"] (defScope (inClass (topS 48) 14)) := ⟨rfl, rfl, rfl, by decide +kernel, rfl, by decide +kernel, by decide +kernel⟩
theorem ok_pull (T : Txt K w mg) : FnOk P w K mg base CX0 2 T.wPull.f T.wPull.fd ["self"] (spPull T.cW T.cS) := by
  refine T.wPull.fn.ok scPull (fun vs H Q E h => ?_) fun cdv A outer s H vs Q E hr h => ?_
  · obtain ⟨_, _, _, _, _, _, rfl, _⟩ := h
    rfl
  obtain ⟨wk, a, st, F, ps, m, rfl, hwk, few, fewp, q⟩ := h
  obtain ⟨⟨dx, hw⟩, hst⟩ := id hwk
  obtain ⟨dxs, f, pa, sh, un, us, h1, ⟨d, c, pl, bs, f1, f2, f3, f4, f5⟩, h3, h4, h5⟩ := id hst
  have fgo := (ok_goOn (P := P) (base := base) T).raw T.sGoOn.b (dvs := []) .nil
  refine ⟨_, pss_cons (ps_asg (SlX.pe_sl (pe_fld (pv 0) rfl)) (pg_tup rfl (pgs_cons (gn 1 scPull.nd) (pgs_cons (gn 2 scPull.nd) (pgs_cons (gn 3 scPull.nd) (pgs_cons (gn 4 scPull.nd) pgs_nil))))))
    (pss_cons (ps_expr (SlX.pe_methSl (pe_fld (pv 0) rfl) T.scS T.sGoOn.me fgo hr pass0 (pa_cons (pe_tup (pa_cons pe_str pa_nil)) (pa_cons (pe_tup (pa_cons (pv 1) (pa_cons (pv 2) (pa_cons (pe_tup (StX.pa_star (pv 3) (pa_cons (pv 1) pa_nil))) (pa_cons (pv 4) pa_nil))))) (pa_cons (SlX.pe_sl (pe_fld (pv 0) rfl)) pa_nil)))))
    (pss_one (ps_ret (pv 1)))), ?_⟩
  refine ⟨_, rfl, wk, T.cW, dx, _, _, rfl, hw, T.clW, T.nHeld, wkF_held a st, st, T.cS, dxs, _, _, 0, _, rfl, h1.slt, T.scS, T.slFacts, rfl, f, _, rfl, SqT.of f1, rfl, _, _, rfl, _, _, rfl, _, _, rfl, _, _, rfl, rfl, ?_⟩
  refine ⟨_, rfl, wk, T.cW, dx, _, _, rfl, hw, T.clW, T.nHeld, wkF_held a st, st, dxs, _, rfl, h1.slt, by show 1 ≤ sizeLine; decide, fun o no => ?_⟩
  have s1 := same_new (o := .tup [.str "pull"]) (Same.refl H) no
  generalize upd H o (.tup [.str "pull"]) = H1 at s1 ⊢
  have f5l := f5.len
  refine ⟨_, rfl, _, rfl, _, rfl, pl, _, rfl, .inl (SqT.of (s1 _ _ f4)), _, rfl, ?_, fun p2 np2 => ?_⟩
  · rw [List.length_append, List.length_map]
    exact Nat.le_of_lt (small16 (by simp; omega))
  have s2 := same_new (o := .tup (bs.map V.ref ++ [.ref d])) s1 np2
  have hp2 : upd H1 p2 (.tup (bs.map V.ref ++ [.ref d])) p2 = some (.tup (bs.map V.ref ++ [.ref d])) := upd_same
  generalize upd H1 p2 (.tup (bs.map V.ref ++ [.ref d])) = H2 at s2 hp2 ⊢
  refine ⟨_, rfl, by show 4 ≤ sizeLine; decide, fun f2n nf2 => ?_⟩
  have s23 := same_new (o := .tup [.ref d, .ref c, .ref p2, .int F.time]) (Same.refl H2) nf2
  have hf2 : upd H2 f2n (.tup [.ref d, .ref c, .ref p2, .int F.time]) f2n = some (.tup [.ref d, .ref c, .ref p2, .int F.time]) := upd_same
  generalize upd H2 f2n (.tup [.ref d, .ref c, .ref p2, .int F.time]) = H3 at s23 hf2 ⊢
  have s3 := s2.trans s23
  refine ⟨_, rfl, wk, T.cW, dx, _, _, rfl, s3 _ _ hw, T.clW, T.nHeld, wkF_held a st, st, T.cS, dxs, _, _, 2, _, rfl, (h1.same s3).slt, T.scS, T.slShelf, rfl, ?_⟩
  refine ⟨st, .ref o, f2n, sh, F, ps, m, ⟨F.ds, F.cs, F.pulls ++ [F.ds], F.time⟩, rfl, hst.same s3, few, ⟨d, c, p2, bs ++ [d], hf2, s3 _ _ f2, s3 _ _ f3, ?_, (f5.same s3).add (s3 _ _ f2)⟩, fun H4 k4 hs4 => ?_⟩
  · rw [List.map_append]
    exact s23 _ _ hp2
  · refine ⟨_, rfl, ?_⟩
    exact q H4 d ((Kp.of s3).trans k4) ⟨⟨dx, k4 _ _ (fun z => hwk.ne (List.mem_singleton.mp z)) (s3 _ _ hw)⟩, hs4⟩ ((hst.same s3).stt k4 _ _ (s3 _ _ f2))
def spUndo (CW CS : Addr) : Sp := fun vs H Q _ => ∃ wk a st F ps m, vs = [.ref wk] ∧ WkAt CW CS H wk a st F ps m ∧ ps.length ≤ 100 ∧ m ≤ 100 ∧
  (ps = [] → ∀ H', Same H H' → Q (.bl false) H') ∧ (∀ ps' G, ps = ps' ++ [G] → ∀ H', Kp [st] H H' → WkAt CW CS H' wk a st G ps' (m + 1) → Q (.bl true) H')
theorem scUndo : FnScope ["self"] ["self"] (defScope (inClass (topS 48) 17)) := ⟨rfl, rfl, rfl, by decide +kernel, rfl, by decide +kernel, by decide +kernel⟩
theorem ok_undo (T : Txt K w mg) : FnOk P w K mg base CX0 2 T.wUndo.f T.wUndo.fd ["self"] (spUndo T.cW T.cS) := by
  refine T.wUndo.fn.ok scUndo (fun vs H Q E h => ?_) fun cdv A outer s H vs Q E hr h => ?_
  · obtain ⟨_, _, _, _, _, _, rfl, _⟩ := h
    rfl
  obtain ⟨wk, a, st, F, ps, m, rfl, hwk, few, fewm, q1, q2⟩ := h
  obtain ⟨⟨dx, hw⟩, hst⟩ := id hwk
  obtain ⟨dxs, f, pa, sh, un, us, h1, h2, ⟨es, e1, e2, e3⟩, h4, h5⟩ := id hst
  have fgo := (ok_goBack (P := P) (base := base) T).raw T.sGoBack.b (dvs := []) .nil
  refine ⟨_, pss_cons (ps_if (pt_cmpR (op_eq_t0 hr.units0) (SlX.pe_sl (pe_fld (pv 0) rfl)) (pe_tup pa_nil) (nomark _)) (pss_one (ps_ret pe_bl)) pss_nil)
    (pss_cons (ps_expr (SlX.pe_methSl0 (pe_fld (pv 0) rfl) T.scS T.sGoBack.me fgo hr pass0))
    (pss_one (ps_ret pe_bl))), ?_⟩
  refine ⟨_, rfl, wk, T.cW, dx, _, _, rfl, hw, T.clW, T.nHeld, wkF_held a st, st, T.cS, dxs, _, _, 1, _, rfl, h1.slt, T.scS, T.slPast, rfl, Nat.zero_le _, fun o no => ?_⟩
  have s1 := same_new (o := .tup []) (Same.refl H) no
  refine ⟨pa, o, _, rfl, rfl, SqT.of (s1 _ _ e1), SqT.of upd_same, _, rfl, ?_⟩
  generalize upd H o (.tup []) = H1 at s1 ⊢
  rcases List.eq_nil_or_concat ps with rfl | ⟨ps', G, rfl⟩
  · have : es = [] := List.eq_nil_of_length_eq_zero e2
    subst this
    exact iteT (q1 rfl H1 s1)
  · simp only [List.concat_eq_append] at few q2 hst hwk
    have hne : (es.map V.ref).isEmpty = false := by
      cases es with
      | nil => simp at e2
      | cons => rfl
    rw [hne]
    refine iteF ?_
    refine ⟨_, rfl, wk, T.cW, dx, _, _, rfl, s1 _ _ hw, T.clW, T.nHeld, wkF_held a st, st, dxs, _, rfl, (h1.same s1).slt, ?_⟩
    refine ⟨st, F, G, ps', m, rfl, hst.same s1, by simp at few; omega, fewm, fun H2 k2 hs2 => ?_⟩
    exact q2 ps' G rfl H2 ((Kp.of s1).trans k2) ⟨⟨dx, k2 _ _ (fun z => hwk.ne (List.mem_singleton.mp z)) (s1 _ _ hw)⟩, hs2⟩
/-! ### is_operation -/
/-- an operation: a step, or a pull -/
def OpAt (H : Hp) (o : Addr) : Option Stp → Prop
  | some s => StepAt H o s
  | none => H o = some (.tup [.str "pull"])
theorem OpAt.same {H H' : Hp} {o : Addr} {x : Option Stp} (h : OpAt H o x) (s : Same H H') : OpAt H' o x := by
  cases x with
  | none => exact s _ _ h
  | some st => exact StepAt.same h s
theorem OpAt.st {H H' : Hp} {o : Addr} {x : Option Stp} (h : OpAt H o x) (s : ST H H') : OpAt H' o x := by
  cases x with
  | none => exact s _ _ h
  | some st => exact StepAt.st h s
theorem OpAt.ex {H : Hp} {o : Addr} {x : Option Stp} (h : OpAt H o x) : ∃ (wd : Str) (r : List V) (n : Int), H o = some (.tup (.str wd :: r)) ∧ ((r.length : Int) + 1 = n) ∧ (wd, n) ∈ [(("bath" : Str), (2 : Int)), ("burnish", 2), ("cover", 2), ("scrape", 2), ("wash", 1), ("pull", 1)] := by
  cases x with
  | none => exact ⟨_, _, 1, h, rfl, by simp⟩
  | some st =>
    obtain ⟨r, h1, h2⟩ := (show StepAt H o st from h)
    cases st with
    | bath t => cases h2; exact ⟨_, _, 2, h1, rfl, by simp [Stp.word]⟩
    | burnish t => cases h2; exact ⟨_, _, 2, h1, rfl, by simp [Stp.word]⟩
    | scrape t => cases h2; exact ⟨_, _, 2, h1, rfl, by simp [Stp.word]⟩
    | wash => cases h2; exact ⟨_, _, 1, h1, rfl, by simp [Stp.word]⟩
    | cover cs =>
      obtain ⟨d, rfl, h3⟩ := h2
      exact ⟨_, _, 2, h1, rfl, by simp [Stp.word]⟩
def spIsOp : Sp := fun vs H Q _ => ∃ o x, vs = [.ref o] ∧ OpAt H o x ∧ ∀ H', Same H H' → Q (.bl true) H'
theorem scIsOp : FnScope ["value"] ["value"] (defScope (topS 45)) := ⟨rfl, rfl, rfl, by decide +kernel, rfl, by decide +kernel, by decide +kernel⟩
theorem ok_isOp (T : Txt K w mg) : FnOk P w K mg base CX0 1 T.isOp.f T.isOp.fd ["value"] spIsOp := by
  refine T.isOp.fn.ok scIsOp (fun vs H Q E h => ?_) fun cdv A outer s H vs Q E hr h => ?_
  · obtain ⟨_, _, rfl, _⟩ := h
    rfl
  obtain ⟨o, x, rfl, ho, q⟩ := h
  refine ⟨_, pss_cons (ps_if (PW.pt (pw_or (pt_not (pt_val (pe_isi (n := "tuple") T.isi T.tuple_ (pv 0) (by decide +kernel)))) (pw_or (pt_cmpR (op_eq_t0 hr.units0) (pv 0) (pe_tup pa_nil) (nomark _))
      (pw_or1 (pt_not (pt_val (pe_isi (n := "str") T.isi T.str_ (pe_ix ix_tup (pv 0) pe_int (fun _ _ => rfl)) (by decide +kernel)))))))) (pss_one ps_never) pss_nil)
    (pss_one (ps_ret (pe_cmpR op_eq (pe_kget T.sizesD (pe_glob rfl T.sizesG rfl) (pe_ix ix_tup (pv 0) pe_int (fun _ _ => rfl)) pe_int ⟨rfl, rfl, rfl, rfl⟩) (pe_callB call_len_seq (by rfl) T.len PySem.boot_len (pa_cons (pv 0) pa_nil)) (nomark _)))), ?_⟩
  obtain ⟨wd, r, n, h1, hn, hm⟩ := ho.ex
  refine ⟨_, rfl, _, _, _, _, true, rfl, .ty _, .base (.tup h1), kit_ty (by decide +kernel), true, rfl, ?_⟩
  refine iteF ?_
  refine ⟨_, rfl, Nat.zero_le _, fun e ne => ?_⟩
  have s1 := same_new (o := .tup []) (Same.refl H) ne
  refine ⟨o, e, _, rfl, rfl, SqT.of (s1 _ _ h1), SqT.of upd_same, _, rfl, ?_⟩
  generalize upd H e (.tup []) = H1 at s1 ⊢
  refine iteF ?_
  have h11 := s1 _ _ h1
  refine ⟨_, rfl, o, _, _, _, rfl, rfl, SqT.of h11, atI0, _, _, _, _, true, rfl, .ty _, .base (.str wd), kit_ty (by decide +kernel), true, rfl, ?_⟩
  refine iteF ?_
  obtain ⟨u, hu1, hu2⟩ := T.sizesOf (wd, n) hm
  refine ⟨_, rfl, o, _, _, _, rfl, rfl, SqT.of h11, atI0, wd, rfl, .inl ⟨u, .int n, hu1, hu2, ?_⟩⟩
  refine ⟨_, rfl, o, _, rfl, .inr (SqT.of h11), rfl, ?_⟩
  have e2 : decide (V.int n = V.int ((((V.str wd :: r).length : Nat)) : Int)) = true := decide_eq_true (by rw [List.length_cons, ← hn]; rfl)
  rw [e2]
  exact q _ s1
end
end M57
/-! Defs: execute; the trial's. -/
namespace M57
open PySem PySem.Spec PyProof.Rows L2 RZ
section
variable {P : Program} {w : World} {K : PySem.W.Frag} {mg : Str → Option Value} {base : Heap}
theorem cut_first {x : V} {xs : List V} : cutV (x :: xs) (some 1) none = xs := by
  simp [cutV, HT.sIx]
def spExec (CP CW CS CX : Addr) : Sp := fun vs H Q E => ∃ wk o a st F ps m, vs = [.ref wk, .ref o] ∧
  ((∃ p s, StepAt H o s ∧ OpPre CP CW CS H wk a st F ps m p s ∧ OpPost CW CS CX H wk a st F ps E (fun z H' => ∀ v H2, Same H' H2 → ResOk F z s v → Q v H2) (tmOf s) (afterStep p F.ds F.cs s)) ∨
   (H o = some (.tup [.str "pull"]) ∧ WkAt CW CS H wk a st F ps m ∧ ps.length ≤ 100 ∧ F.pulls.length ≤ 100 ∧
    ∀ H' d, Kp [st] H H' → WkAt CW CS H' wk a st ⟨F.ds, F.cs, F.pulls ++ [F.ds], F.time⟩ (ps ++ [F]) 0 → TupI H' d F.ds → Q (.ref d) H'))
theorem scExec : FnScope ["self", "operation", "word", "rest"] ["self", "operation"] (defScope (inClass (topS 48) 19)) := ⟨rfl, rfl, rfl, by decide +kernel, rfl, by decide +kernel, by decide +kernel⟩
theorem ok_exec (T : Txt K w mg) : FnOk P w K mg base (L2.CX P w) 10 T.wExecute.f T.wExecute.fd ["self", "operation"] (spExec T.cP T.cW T.cS T.cX) := by
  refine T.wExecute.fn.okX scExec (fun vs H Q E h => ?_) fun cdv A outer s H vs Q E hr h => ?_
  · obtain ⟨_, _, _, _, _, _, _, rfl, _⟩ := h
    rfl
  obtain ⟨wk, o, a, st, F, ps, m, rfl, h⟩ := h
  refine ⟨_, pss_cons (ps_par (i := 2) (j := 3) (by rfl) scExec.nd rfl rfl (by decide) rfl rfl (pa_cons (pe_ix ix_tup (pv 1) pe_int (fun _ _ => rfl)) (pa_cons (pe_slice sl_tup (pv 1) (po_some pe_int) po_none) pa_nil)) (by rfl))
    (pss_cons (ps_if (pt_cmpR op_eq (pv 2) pe_str (nomark _)) (pss_one (ps_ret (pe_meth (pv 0) T.clW T.wCover.me (ok_cover T) hr T.wCover.b .nil (passes_call (takes_of rfl rfl rfl rfl) (fun _ _ _ _ h => h)) (pa_cons (pe_ix ix_tup (pv 3) pe_int (fun _ _ => rfl)) pa_nil)))) pss_nil)
    (pss_cons (ps_if (pt_cmpR op_eq (pv 2) pe_str (nomark _)) (pss_one (ps_ret (pe_meth (pv 0) T.clW T.wScrape.me (ok_scrape T) hr T.wScrape.b .nil (passes_call (takes_of rfl rfl rfl rfl) (fun _ _ _ _ h => h)) (pa_cons (pe_ix ix_tup (pv 3) pe_int (fun _ _ => rfl)) pa_nil)))) pss_nil)
    (pss_cons (ps_if (pt_cmpR op_eq (pv 2) pe_str (nomark _)) (pss_one (ps_ret (pe_meth0 (pv 0) T.clW T.wWash.me (ok_wash T) hr T.wWash.b .nil (passes_call (takes_of rfl rfl rfl rfl) (fun _ _ _ _ h => h))))) pss_nil)
    (pss_cons (ps_if (pt_cmpR op_eq (pv 2) pe_str (nomark _)) (pss_one (ps_ret (pe_meth (pv 0) T.clW T.wBath.me (ok_bath T) hr T.wBath.b .nil (passes_call (takes_of rfl rfl rfl rfl) (fun _ _ _ _ h => h)) (pa_cons (pe_ix ix_tup (pv 3) pe_int (fun _ _ => rfl)) pa_nil)))) pss_nil)
    (pss_cons (ps_if (pt_cmpR op_eq (pv 2) pe_str (nomark _)) (pss_one (ps_ret (pe_meth (pv 0) T.clW T.wBurnish.me (ok_burn T) hr T.wBurnish.b .nil (passes_call (takes_of rfl rfl rfl rfl) (fun _ _ _ _ h => h)) (pa_cons (pe_ix ix_tup (pv 3) pe_int (fun _ _ => rfl)) pa_nil)))) pss_nil)
    (pss_cons (ps_if (pt_cmpR op_eq (pv 2) pe_str (nomark _)) (pss_one (ps_ret (pe_meth0 (pv 0) T.clW T.wPull.me (ok_pull T) (hr.mono (by decide)) T.wPull.b .nil pass0))) pss_nil)
    (pss_cons ps_never (pss_cons ps_never (pss_one ps_never))))))))), ?_⟩
  rcases h with ⟨p, stp, ⟨r, h1, h2⟩, pre, q⟩ | ⟨h1, hwk, few, fewp, q⟩
  · refine ⟨_, rfl, o, _, _, _, rfl, rfl, SqT.of h1, atI0, _, rfl, 1, rfl, o, _, rfl, SqT.of h1, by simp [HT.sIx], fun t nt => ⟨_, _, rfl, ?_⟩⟩
    rw [cut_first]
    have s1 := same_new (o := .tup r) (Same.refl H) nt
    have ht : upd H t (.tup r) t = some (.tup r) := upd_same
    generalize upd H t (.tup r) = H1 at s1 ht ⊢
    have pre1 := pre.same s1
    have q1 := q.same s1
    have ha1 := h2.same s1
    obtain ⟨dx, hw⟩ := pre1.wk.w
    cases stp with
    | cover cs =>
      obtain ⟨d, rfl, hd⟩ := id ha1
      refine ⟨_, rfl, rfl, _, rfl, nameT weq ?_⟩
      exact ⟨_, rfl, wk, dx, _, rfl, hw, wkF_no (by decide +kernel) (by decide +kernel), _, rfl, t, _, _, _, rfl, rfl, SqT.of ht, atI0, wk, a, st, F, ps, m, p, _, _, rfl, ⟨cs, rfl⟩, ha1, pre1, q1⟩
    | scrape c =>
      cases id ha1
      refine ⟨_, rfl, rfl, _, rfl, nameF (wne (a := "scrape") (by decide)) ?_⟩
      refine ⟨_, rfl, rfl, _, rfl, nameT weq ?_⟩
      exact ⟨_, rfl, wk, dx, _, rfl, hw, wkF_no (by decide +kernel) (by decide +kernel), _, rfl, t, _, _, _, rfl, rfl, SqT.of ht, atI0, wk, a, st, F, ps, m, p, .scrape c, _, rfl, ⟨c, rfl⟩, rfl, pre1, q1⟩
    | wash =>
      cases id ha1
      refine ⟨_, rfl, rfl, _, rfl, nameF (wne (a := "wash") (by decide)) ?_⟩
      refine ⟨_, rfl, rfl, _, rfl, nameF (wne (a := "wash") (by decide)) ?_⟩
      refine ⟨_, rfl, rfl, _, rfl, nameT weq ?_⟩
      exact ⟨_, rfl, wk, dx, _, rfl, hw, wkF_no (by decide +kernel) (by decide +kernel), wk, a, st, F, ps, m, p, .wash, _, rfl, rfl, rfl, pre1, q1⟩
    | bath c =>
      cases id ha1
      refine ⟨_, rfl, rfl, _, rfl, nameF (wne (a := "bath") (by decide)) ?_⟩
      refine ⟨_, rfl, rfl, _, rfl, nameF (wne (a := "bath") (by decide)) ?_⟩
      refine ⟨_, rfl, rfl, _, rfl, nameF (wne (a := "bath") (by decide)) ?_⟩
      refine ⟨_, rfl, rfl, _, rfl, nameT weq ?_⟩
      exact ⟨_, rfl, wk, dx, _, rfl, hw, wkF_no (by decide +kernel) (by decide +kernel), _, rfl, t, _, _, _, rfl, rfl, SqT.of ht, atI0, wk, a, st, F, ps, m, p, .bath c, _, rfl, ⟨c, rfl⟩, rfl, pre1, q1⟩
    | burnish c =>
      cases id ha1
      refine ⟨_, rfl, rfl, _, rfl, nameF (wne (a := "burnish") (by decide)) ?_⟩
      refine ⟨_, rfl, rfl, _, rfl, nameF (wne (a := "burnish") (by decide)) ?_⟩
      refine ⟨_, rfl, rfl, _, rfl, nameF (wne (a := "burnish") (by decide)) ?_⟩
      refine ⟨_, rfl, rfl, _, rfl, nameF (wne (a := "burnish") (by decide)) ?_⟩
      refine ⟨_, rfl, rfl, _, rfl, nameT weq ?_⟩
      exact ⟨_, rfl, wk, dx, _, rfl, hw, wkF_no (by decide +kernel) (by decide +kernel), _, rfl, t, _, _, _, rfl, rfl, SqT.of ht, atI0, wk, a, st, F, ps, m, p, .burnish c, _, rfl, ⟨c, rfl⟩, rfl, pre1, q1⟩
  · refine ⟨_, rfl, o, _, _, _, rfl, rfl, SqT.of h1, atI0, _, rfl, 1, rfl, o, _, rfl, SqT.of h1, by simp [HT.sIx], fun t nt => ⟨_, _, rfl, ?_⟩⟩
    rw [cut_first]
    have s1 := same_new (o := .tup []) (Same.refl H) nt
    generalize upd H t (.tup []) = H1 at s1 ⊢
    obtain ⟨dx, hw⟩ := (hwk.same s1).w
    refine ⟨_, rfl, rfl, _, rfl, nameF (wne (a := "pull") (by decide)) ?_⟩
    refine ⟨_, rfl, rfl, _, rfl, nameF (wne (a := "pull") (by decide)) ?_⟩
    refine ⟨_, rfl, rfl, _, rfl, nameF (wne (a := "pull") (by decide)) ?_⟩
    refine ⟨_, rfl, rfl, _, rfl, nameF (wne (a := "pull") (by decide)) ?_⟩
    refine ⟨_, rfl, rfl, _, rfl, nameF (wne (a := "pull") (by decide)) ?_⟩
    refine ⟨_, rfl, rfl, _, rfl, nameT weq ?_⟩
    exact ⟨_, rfl, wk, dx, _, rfl, hw, wkF_no (by decide +kernel) (by decide +kernel), wk, a, st, F, ps, m, rfl, hwk.same s1, few, fewp, fun H' d k h h' => q H' d ((Kp.of s1).trans k) h h'⟩
end
end M57
/-! Defs: the trial's. -/
namespace M57
open PySem PySem.Spec PyProof.Rows L2 RZ
def trF (wk o f c : Addr) : List (Str × V) := [("tested_work", .ref wk), ("origin", .ref o), ("fresh", .ref f), ("chosen", .ref c)]
theorem n1 : (("origin" : Str) == ("tested_work" : Str)) = false := by decide +kernel
theorem n2 : (("fresh" : Str) == ("tested_work" : Str)) = false := by decide +kernel
theorem n3 : (("fresh" : Str) == ("origin" : Str)) = false := by decide +kernel
theorem n4 : (("chosen" : Str) == ("tested_work" : Str)) = false := by decide +kernel
theorem n5 : (("chosen" : Str) == ("origin" : Str)) = false := by decide +kernel
theorem n6 : (("chosen" : Str) == ("fresh" : Str)) = false := by decide +kernel
theorem trF_work (wk o f c : Addr) : (trF wk o f c).lookup ("tested_work" : Str) = some (.ref wk) := by
  have e : (("tested_work" : Str) == ("tested_work" : Str)) = true := beq_self_eq_true _
  simp only [trF, List.lookup, e]
theorem trF_origin (wk o f c : Addr) : (trF wk o f c).lookup ("origin" : Str) = some (.ref o) := by
  have e : (("origin" : Str) == ("origin" : Str)) = true := beq_self_eq_true _
  simp only [trF, List.lookup, n1, e]
theorem trF_fresh (wk o f c : Addr) : (trF wk o f c).lookup ("fresh" : Str) = some (.ref f) := by
  have e : (("fresh" : Str) == ("fresh" : Str)) = true := beq_self_eq_true _
  simp only [trF, List.lookup, n2, n3, e]
theorem trF_chosen (wk o f c : Addr) : (trF wk o f c).lookup ("chosen" : Str) = some (.ref c) := by
  have e : (("chosen" : Str) == ("chosen" : Str)) = true := beq_self_eq_true _
  simp only [trF, List.lookup, n4, n5, n6, e]
theorem trF_hold (wk o f c : Addr) : (trF wk o f c).lookup ("hold" : Str) = none := by
  have e1 : (("hold" : Str) == ("tested_work" : Str)) = false := by decide +kernel
  have e2 : (("hold" : Str) == ("origin" : Str)) = false := by decide +kernel
  have e3 : (("hold" : Str) == ("fresh" : Str)) = false := by decide +kernel
  have e4 : (("hold" : Str) == ("chosen" : Str)) = false := by decide +kernel
  simp only [trF, List.lookup, e1, e2, e3, e4]
theorem ne_of_beq {a b : Str} (h : (a == b) = false) : ¬ b = a := fun z => by
  rw [z, beq_self_eq_true] at h
  cases h
theorem trF_new (wk o f c : Addr) : putF "chosen" (.ref c) (putF "fresh" (.ref f) (putF "origin" (.ref o) (putF "tested_work" (.ref wk) []))) = trF wk o f c := by
  simp [trF, putF, ne_of_beq n1, ne_of_beq n2, ne_of_beq n3, ne_of_beq n4, ne_of_beq n5, ne_of_beq n6]
theorem trF_pO (wk o f c o2 : Addr) : putF "origin" (.ref o2) (trF wk o f c) = trF wk o2 f c := by
  simp [trF, putF, ne_of_beq n1]
theorem trF_pF (wk o f c f2 : Addr) : putF "fresh" (.ref f2) (trF wk o f c) = trF wk o f2 c := by
  simp [trF, putF, ne_of_beq n2, ne_of_beq n3]
theorem trF_pC (wk o f c c2 : Addr) : putF "chosen" (.ref c2) (trF wk o f c) = trF wk o f c2 := by
  simp [trF, putF, ne_of_beq n4, ne_of_beq n5, ne_of_beq n6]
section
variable {P : Program} {w : World} {K : PySem.W.Frag} {mg : Str → Option Value} {base : Heap}
def spTrInit (CT CW CS : Addr) : Sp := fun vs H Q _ => ∃ x dx wk a st F ps m, vs = [.ref x, .ref wk] ∧ H x = some (.ins CT dx []) ∧ WkAt CW CS H wk a st F ps m ∧ wk ≠ x ∧ ∀ H', Kp [x] H H' → (∃ dx, H' x = some (.ins CT dx (trF wk st st st))) → Q .non H'
theorem scTrInit : FnScope ["self", "work"] ["self", "work"] (defScope (inClass (topS 49) 0)) := ⟨rfl, rfl, rfl, by decide +kernel, rfl, by decide +kernel, by decide +kernel⟩
theorem ok_trInit (T : Txt K w mg) : FnOk P w K mg base CX0 1 T.mT.f T.mT.fd ["self", "work"] (spTrInit T.cT T.cW T.cS) := by
  refine T.mT.fn.ok scTrInit (fun vs H Q E h => ?_) fun cdv A outer s H vs Q E hr h => ?_
  · obtain ⟨_, _, _, _, _, _, _, _, rfl, _⟩ := h
    rfl
  obtain ⟨x, dx, wk, a, st, F, ps, m, rfl, hx, hwk, hne, q⟩ := h
  obtain ⟨dxw, hw⟩ := hwk.w
  refine ⟨_, pss_cons (ps_fld (pv 0) (pv 1) rfl) (pss_cons (ps_fld (pv 0) (pe_fld (pv 1) rfl) rfl) (pss_cons (ps_fld (pv 0) (pe_fld (pv 1) rfl) rfl) (pss_one (ps_fld (pv 0) (pe_fld (pv 1) rfl) rfl)))), ?_⟩
  refine ⟨_, rfl, _, rfl, x, T.cT, dx, _, rfl, hx, T.clT, T.nTested, (by show 0 < 1000; decide), ?_⟩
  refine ⟨_, rfl, wk, T.cW, dxw, _, _, rfl, by rw [upd_ne hne]; exact hw, T.clW, T.nHeld, wkF_held a st, _, rfl, x, T.cT, dx, _, rfl, upd_same, T.clT, T.nOrigin, (by show 1 < 1000; decide), ?_⟩
  refine ⟨_, rfl, wk, T.cW, dxw, _, _, rfl, by rw [upd_ne hne, upd_ne hne]; exact hw, T.clW, T.nHeld, wkF_held a st, _, rfl, x, T.cT, dx, _, rfl, upd_same, T.clT, T.nFresh, (by show 2 < 1000; decide), ?_⟩
  refine ⟨_, rfl, wk, T.cW, dxw, _, _, rfl, by rw [upd_ne hne, upd_ne hne, upd_ne hne]; exact hw, T.clW, T.nHeld, wkF_held a st, _, rfl, x, T.cT, dx, _, rfl, upd_same, T.clT, T.nChosen, (by show 3 < 1000; decide), ?_⟩
  rw [trF_new]
  exact q _ ((((Kp.refl [x] H).put (List.mem_singleton_self _)).put (List.mem_singleton_self _)).put (List.mem_singleton_self _) |>.put (List.mem_singleton_self _)) ⟨dx, upd_same⟩
def spHold (CT : Addr) : Sp := fun vs H Q _ => ∃ x dx wk o f c, vs = [.ref x] ∧ H x = some (.ins CT dx (trF wk o f c)) ∧ ∀ H', Kp [x] H H' → H' x = some (.ins CT dx (trF wk o f f)) → Q .non H'
theorem scHold : FnScope ["self"] ["self"] (defScope (inClass (topS 49) 1)) := ⟨rfl, rfl, rfl, by decide +kernel, rfl, by decide +kernel, by decide +kernel⟩
theorem ok_hold (T : Txt K w mg) : FnOk P w K mg base CX0 1 T.tHold.f T.tHold.fd ["self"] (spHold T.cT) := by
  refine T.tHold.fn.ok scHold (fun vs H Q E h => ?_) fun cdv A outer s H vs Q E hr h => ?_
  · obtain ⟨_, _, _, _, _, _, rfl, _⟩ := h
    rfl
  obtain ⟨x, dx, wk, o, f, c, rfl, hx, q⟩ := h
  refine ⟨_, pss_one (ps_fld (pv 0) (pe_fld (pv 0) rfl) rfl), ?_⟩
  refine ⟨_, rfl, x, T.cT, dx, _, _, rfl, hx, T.clT, T.nFresh, trF_fresh _ _ _ _, _, rfl, x, T.cT, dx, _, rfl, hx, T.clT, T.nChosen, (by show 4 < 1000; decide), ?_⟩
  rw [trF_pC]
  exact q _ ((Kp.refl _ _).put (List.mem_singleton_self _)) upd_same
theorem WkAt.kp {CW CS : Addr} {H H' : Hp} {wk a st : Addr} {qs : List Addr} {F : Fx} {ps : List Fx} {m : Nat} (h : WkAt CW CS H wk a st F ps m) (t : ST H H') (k : Kp qs H H') (n : wk ∉ qs) (n2 : st ∉ qs) (x : ∀ b ∈ qs, H b ≠ some (.xd [])) : WkAt CW CS H' wk a st F ps m :=
  ⟨let ⟨dx, e⟩ := h.w; ⟨dx, k _ _ n e⟩, h.s.kp t k n2 x⟩
/-- what stands although instances of plain classes are stored into -/
theorem ins_st {qs : List Addr} {H H' : Hp} (h : ∀ b ∈ qs, ∃ C dx fs, H b = some (.ins C dx fs)) (k : Kp qs H H') : ST H H' := fun b xs e => k b _ (fun z => by
  obtain ⟨C, dx, fs, e2⟩ := h b z
  rw [e] at e2
  cases e2) e
theorem ins_xd {qs : List Addr} {H : Hp} (h : ∀ b ∈ qs, ∃ C dx fs, H b = some (.ins C dx fs)) : ∀ b ∈ qs, H b ≠ some (.xd []) := fun b hb e => by
  obtain ⟨C, dx, fs, e2⟩ := h b hb
  rw [e] at e2
  cases e2
theorem StAt.notIns {C : Addr} {H : Hp} {st : Addr} {F : Fx} {ps : List Fx} {m : Nat} (h : StAt C H st F ps m) {b C' dx : Addr} {fs : List (Str × V)} (e : H b = some (.ins C' dx fs)) : st ≠ b := fun z => by
  obtain ⟨_, _, _, _, _, _, h1, _⟩ := h.ex
  have := h1.o
  rw [z, e] at this
  have z' : HO.ins C' dx fs = HO.ext _ := Option.some.inj this
  cases z'
def spTrEnter (CT CW CS : Addr) : Sp := fun vs H Q _ => ∃ x dx wk a st o f0 c0 F ps m, vs = [.ref x] ∧ H x = some (.ins CT dx (trF wk o f0 c0)) ∧ x ≠ wk ∧ WkAt CW CS H wk a st F ps m ∧
  ∀ H' f c, H f = none → H c = none → f ≠ c → Kp [x, wk] H H' → H' x = some (.ins CT dx (trF wk st f c)) → WkAt CW CS H' wk a f F ps m → StAt CS H' c F ps m → StAt CS H' st F ps m → Q (.ref x) H'
theorem scTrEnter : FnScope ["self"] ["self"] (defScope (inClass (topS 49) 2)) := ⟨rfl, rfl, rfl, by decide +kernel, rfl, by decide +kernel, by decide +kernel⟩
theorem ok_trEnter (T : Txt K w mg) : FnOk P w K mg base CX0 4 T.tEnter.f T.tEnter.fd ["self"] (spTrEnter T.cT T.cW T.cS) := by
  refine T.tEnter.fn.ok scTrEnter (fun vs H Q E h => ?_) fun cdv A outer s H vs Q E hr h => ?_
  · obtain ⟨_, _, _, _, _, _, _, _, _, _, _, rfl, _⟩ := h
    rfl
  obtain ⟨x, dx, wk, a, st, o, f0, c0, F, ps, m, rfl, hx, hne, hwk, q⟩ := h
  obtain ⟨dxw, hw⟩ := hwk.w
  have fcp := (ok_copied (P := P) (base := base) T).raw T.sCopied.b (dvs := []) .nil
  refine ⟨_, pss_cons (ps_fld (pv 0) (pe_fld (pe_fld (pv 0) rfl) rfl) rfl)
    (pss_cons (ps_fld (pv 0) (SlX.pe_methSl0 (pe_fld (pv 0) rfl) T.scS T.sCopied.me fcp hr pass0) rfl)
    (pss_cons (ps_fld (pv 0) (SlX.pe_methSl0 (pe_fld (pv 0) rfl) T.scS T.sCopied.me fcp hr pass0) rfl)
    (pss_cons (ps_fld (pe_fld (pv 0) rfl) (pe_fld (pv 0) rfl) rfl) (pss_one (ps_ret (pv 0)))))), ?_⟩
  refine ⟨_, rfl, x, T.cT, dx, _, _, rfl, hx, T.clT, T.nTested, trF_work _ _ _ _, wk, T.cW, dxw, _, _, rfl, hw, T.clW, T.nHeld, wkF_held a st, _, rfl, x, T.cT, dx, _, rfl, hx, T.clT, T.nOrigin, (by show 4 < 1000; decide), ?_⟩
  rw [trF_pO]
  have xin : x ∈ [x, wk] := List.mem_cons_self
  have k1 : Kp [x, wk] H (upd H x (.ins T.cT dx (trF wk st f0 c0))) := (Kp.refl _ _).put xin
  have hx1 : upd H x (.ins T.cT dx (trF wk st f0 c0)) x = some (.ins T.cT dx (trF wk st f0 c0)) := upd_same
  have hw1 : upd H x (.ins T.cT dx (trF wk st f0 c0)) wk = some (.ins T.cW dxw (wkF a st)) := by rw [upd_ne hne.symm]; exact hw
  generalize upd H x (.ins T.cT dx (trF wk st f0 c0)) = H1 at k1 hx1 hw1 ⊢
  have mem1 : ∀ b ∈ [x, wk], ∃ C dx fs, H b = some (.ins C dx fs) := fun b hb => by
    rcases List.mem_cons.mp hb with z | z
    · rw [z]
      exact ⟨_, _, _, hx⟩
    · rw [List.mem_singleton.mp z]
      exact ⟨_, _, _, hw⟩
  have stx : st ∉ [x, wk] := fun z => by
    obtain ⟨C, d, fs, e⟩ := mem1 st z
    exact hwk.s.notIns e rfl
  have hst1 : StAt T.cS H1 st F ps m := hwk.s.kp (ins_st mem1 k1) k1 stx (ins_xd mem1)
  obtain ⟨d1, _, _, _, _, _, o1, _⟩ := id hst1
  refine ⟨_, rfl, x, T.cT, dx, _, _, rfl, hx1, T.clT, T.nOrigin, trF_origin _ _ _ _, st, d1, _, rfl, o1.slt, st, F, ps, m, rfl, hst1, fun c H2 nc s2 hc2 => ?_⟩
  have hx2 := s2 _ _ hx1
  have hw2 := s2 _ _ hw1
  have hst2 := hst1.same s2
  have ncx : c ≠ x := hc2.notIns hx2
  have ncw : c ≠ wk := hc2.notIns hw2
  refine ⟨_, rfl, x, T.cT, dx, _, rfl, hx2, T.clT, T.nChosen, (by show 4 < 1000; decide), ?_⟩
  rw [trF_pC]
  have k3 : Kp [x, wk] H2 (upd H2 x (.ins T.cT dx (trF wk st f0 c))) := (Kp.refl _ _).put xin
  have hx3 : upd H2 x (.ins T.cT dx (trF wk st f0 c)) x = some (.ins T.cT dx (trF wk st f0 c)) := upd_same
  have hw3 : upd H2 x (.ins T.cT dx (trF wk st f0 c)) wk = some (.ins T.cW dxw (wkF a st)) := by rw [upd_ne hne.symm]; exact hw2
  generalize upd H2 x (.ins T.cT dx (trF wk st f0 c)) = H3 at k3 hx3 hw3 ⊢
  have mem2 : ∀ b ∈ [x, wk], ∃ C dx fs, H2 b = some (.ins C dx fs) := fun b hb => by
    rcases List.mem_cons.mp hb with z | z
    · rw [z]
      exact ⟨_, _, _, hx2⟩
    · rw [List.mem_singleton.mp z]
      exact ⟨_, _, _, hw2⟩
  have cin : c ∉ [x, wk] := by simp [ncx, ncw]
  have hst3 : StAt T.cS H3 st F ps m := hst2.kp (ins_st mem2 k3) k3 stx (ins_xd mem2)
  have hc3 : StAt T.cS H3 c F ps m := hc2.kp (ins_st mem2 k3) k3 cin (ins_xd mem2)
  obtain ⟨d3, _, _, _, _, _, o3, _⟩ := id hst3
  refine ⟨_, rfl, x, T.cT, dx, _, _, rfl, hx3, T.clT, T.nOrigin, trF_origin _ _ _ _, st, d3, _, rfl, o3.slt, st, F, ps, m, rfl, hst3, fun f H4 nf s4 hf4 => ?_⟩
  have hx4 := s4 _ _ hx3
  have hw4 := s4 _ _ hw3
  have hst4 := hst3.same s4
  have hc4 := hc3.same s4
  have nfx : f ≠ x := hf4.notIns hx4
  have nfw : f ≠ wk := hf4.notIns hw4
  have nfc : f ≠ c := fun z => by
    obtain ⟨_, _, _, _, _, _, oc, _⟩ := id hc3
    rw [z, oc.o] at nf
    cases nf
  refine ⟨_, rfl, x, T.cT, dx, _, rfl, hx4, T.clT, T.nFresh, (by show 4 < 1000; decide), ?_⟩
  rw [trF_pF]
  have hx5 : upd H4 x (.ins T.cT dx (trF wk st f c)) x = some (.ins T.cT dx (trF wk st f c)) := upd_same
  have hw5 : upd H4 x (.ins T.cT dx (trF wk st f c)) wk = some (.ins T.cW dxw (wkF a st)) := by rw [upd_ne hne.symm]; exact hw4
  refine ⟨_, rfl, x, T.cT, dx, _, _, rfl, hx5, T.clT, T.nFresh, trF_fresh _ _ _ _, _, rfl, x, T.cT, dx, _, _, rfl, hx5, T.clT, T.nTested, trF_work _ _ _ _, wk, T.cW, dxw, _, rfl, hw5, T.clW, T.nHeld, (by show 2 < 1000; decide), ?_⟩
  rw [wkF_put]
  have win : wk ∈ [x, wk] := by simp
  have k6 : Kp [x, wk] H4 (upd (upd H4 x (.ins T.cT dx (trF wk st f c))) wk (.ins T.cW dxw (wkF a f))) := ((Kp.refl _ _).put xin).put win
  have mem4 : ∀ b ∈ [x, wk], ∃ C dx fs, H4 b = some (.ins C dx fs) := fun b hb => by
    rcases List.mem_cons.mp hb with z | z
    · rw [z]
      exact ⟨_, _, _, hx4⟩
    · rw [List.mem_singleton.mp z]
      exact ⟨_, _, _, hw4⟩
  have fin : f ∉ [x, wk] := by simp [nfx, nfw]
  have none_of : ∀ {b : Addr} {Hc : Hp}, (∀ o, H b = some o → ∃ o', Hc b = some o') → Hc b = none → H b = none := fun {b Hc} h e => by
    cases q : H b with
    | none => rfl
    | some o =>
      obtain ⟨o', e'⟩ := h o q
      rw [e] at e'
      cases e'
  refine ⟨_, rfl, ?_⟩
  refine q _ f c (none_of (fun o e => ⟨o, k3 _ _ fin (s2 _ _ (k1 _ _ fin e))⟩) nf) (none_of (fun o e => ⟨o, k1 _ _ cin e⟩) nc) nfc (((k1.trans (Kp.of s2)).trans k3).trans ((Kp.of s4).trans k6)) ?_ ⟨⟨dxw, upd_same⟩, ?_⟩ ?_ ?_
  · rw [upd_ne hne]
    exact upd_same
  · exact hf4.kp (ins_st mem4 k6) k6 fin (ins_xd mem4)
  · exact hc4.kp (ins_st mem4 k6) k6 cin (ins_xd mem4)
  · exact hst4.kp (ins_st mem4 k6) k6 stx (ins_xd mem4)
end
end M57
/-! Defs: the trial's way out. -/
namespace M57
open PySem PySem.Spec PyProof.Rows L2 RZ
section
variable {P : Program} {w : World} {K : PySem.W.Frag} {mg : Str → Option Value} {base : Heap}
def spTrExit (CT CW CS : Addr) : Sp := fun vs H Q _ => ∃ x k e t dx wk a st f c G qs n, vs = [.ref x, k, e, t] ∧ H x = some (.ins CT dx (trF wk st f c)) ∧ (∃ dxw, H wk = some (.ins CW dxw (wkF a f))) ∧ c ≠ st ∧ StAt CS H c G qs n ∧ (∃ dxs vs, StO CS H st dxs vs ∧ vs.length = 4) ∧
  ∀ H', Kp [st, wk] H H' → WkAt CW CS H' wk a st G qs n → Q .non H'
theorem scTrExit : FnScope ["self", "kind", "error", "trace"] ["self", "kind", "error", "trace"] (defScope (inClass (topS 49) 3)) := ⟨rfl, rfl, rfl, by decide +kernel, rfl, by decide +kernel, by decide +kernel⟩
theorem ok_trExit (T : Txt K w mg) : FnA P w K mg base CXN 1 T.tExit.f (spTrExit T.cT T.cW T.cS) := by
  refine FunD.okA (funD_of T.tExit.fn) scTrExit T.tExit.b (fun vs H Q E h => ?_) fun cdv A outer s H vs Q E hr h => ?_
  · obtain ⟨_, _, _, _, _, _, _, _, _, _, _, _, _, rfl, _⟩ := h
    rfl
  obtain ⟨x, kk, ee, tt, dx, wk, a, st, f, c, G, qs, n, rfl, hx, ⟨dxw, hw⟩, hne, hc, ⟨dxs, vs, hst, hvl⟩, q⟩ := h
  refine ⟨_, pss_cons (SlX.ps_sl (pe_fld (pv 0) rfl) (SlX.pe_sl (pe_fld (pv 0) rfl))) (pss_cons (SlX.ps_sl (pe_fld (pv 0) rfl) (SlX.pe_sl (pe_fld (pv 0) rfl)))
    (pss_cons (SlX.ps_sl (pe_fld (pv 0) rfl) (SlX.pe_sl (pe_fld (pv 0) rfl))) (pss_cons (SlX.ps_sl (pe_fld (pv 0) rfl) (SlX.pe_sl (pe_fld (pv 0) rfl)))
    (pss_one (ps_fld (pe_fld (pv 0) rfl) (pe_fld (pv 0) rfl) rfl))))), ?_⟩
  obtain ⟨dxc, f1, pa1, sh1, un1, us, hco, h2, h3, h4, h5⟩ := id hc
  match vs, hvl with
  | [v0, v1, v2, v3], _ =>
  -- what stands through the four stores
  have xst : x ≠ st := fun z => by
    have := hst.o
    rw [← z, hx] at this
    have z' : HO.ins T.cT dx _ = HO.ext _ := Option.some.inj this
    cases z'
  have wst : wk ≠ st := fun z => by
    have := hst.o
    rw [← z, hw] at this
    have z' : HO.ins T.cW dxw _ = HO.ext _ := Option.some.inj this
    cases z'
  have dcst : dxc ≠ st := fun z => by
    have := hst.o
    rw [← z, hco.d] at this
    exact SlX.slO_not (Option.some.inj this).symm
  have keepX : ∀ {H' : Hp}, Kp [st] H H' → H' x = some (.ins T.cT dx (trF wk st f c)) := fun k => k _ _ (by simpa using xst) hx
  have keepW : ∀ {H' : Hp}, Kp [st] H H' → H' wk = some (.ins T.cW dxw (wkF a f)) := fun k => k _ _ (by simpa using wst) hw
  have keepC : ∀ {H' : Hp}, Kp [st] H H' → StO T.cS H' c dxc [some (.ref f1), some (.ref pa1), some sh1, some (.ref un1)] := fun k => ⟨k _ _ (by simpa using hne) hco.o, k _ _ (by simpa using dcst) hco.d⟩
  have k0 : Kp [st] H H := Kp.refl _ _
  refine ⟨_, rfl, x, T.cT, dx, _, _, rfl, hx, T.clT, T.nChosen, trF_chosen _ _ _ _, c, T.cS, dxc, _, _, 0, _, rfl, hco.slt, T.scS, T.slFacts, rfl, _, rfl, x, T.cT, dx, _, _, rfl, hx, T.clT, T.nOrigin, trF_origin _ _ _ _, st, T.cS, dxs, _, _, 0, rfl, hst.slt, T.scS, T.slFacts, ?_⟩
  have k1 : Kp [st] H (SlX.slH H st T.cS dxs (SlX.putS 0 (.ref f1) [v0, v1, v2, v3])) := hst.kp
  have o1 : StO T.cS (SlX.slH H st T.cS dxs (SlX.putS 0 (.ref f1) [v0, v1, v2, v3])) st dxs (SlX.putS 0 (.ref f1) [v0, v1, v2, v3]) := hst.put
  generalize SlX.slH H st T.cS dxs (SlX.putS 0 (.ref f1) [v0, v1, v2, v3]) = H1 at k1 o1 ⊢
  refine ⟨_, rfl, x, T.cT, dx, _, _, rfl, keepX k1, T.clT, T.nChosen, trF_chosen _ _ _ _, c, T.cS, dxc, _, _, 2, _, rfl, (keepC k1).slt, T.scS, T.slShelf, rfl, _, rfl, x, T.cT, dx, _, _, rfl, keepX k1, T.clT, T.nOrigin, trF_origin _ _ _ _, st, T.cS, dxs, _, _, 2, rfl, o1.slt, T.scS, T.slShelf, ?_⟩
  have k2 : Kp [st] H (SlX.slH H1 st T.cS dxs (SlX.putS 2 sh1 (SlX.putS 0 (.ref f1) [v0, v1, v2, v3]))) := k1.trans o1.kp
  have o2 : StO T.cS (SlX.slH H1 st T.cS dxs (SlX.putS 2 sh1 (SlX.putS 0 (.ref f1) [v0, v1, v2, v3]))) st dxs (SlX.putS 2 sh1 (SlX.putS 0 (.ref f1) [v0, v1, v2, v3])) := o1.put
  generalize SlX.slH H1 st T.cS dxs (SlX.putS 2 sh1 (SlX.putS 0 (.ref f1) [v0, v1, v2, v3])) = H2 at k2 o2 ⊢
  refine ⟨_, rfl, x, T.cT, dx, _, _, rfl, keepX k2, T.clT, T.nChosen, trF_chosen _ _ _ _, c, T.cS, dxc, _, _, 1, _, rfl, (keepC k2).slt, T.scS, T.slPast, rfl, _, rfl, x, T.cT, dx, _, _, rfl, keepX k2, T.clT, T.nOrigin, trF_origin _ _ _ _, st, T.cS, dxs, _, _, 1, rfl, o2.slt, T.scS, T.slPast, ?_⟩
  have k3 : Kp [st] H (SlX.slH H2 st T.cS dxs (SlX.putS 1 (.ref pa1) (SlX.putS 2 sh1 (SlX.putS 0 (.ref f1) [v0, v1, v2, v3])))) := k2.trans o2.kp
  have o3 : StO T.cS (SlX.slH H2 st T.cS dxs (SlX.putS 1 (.ref pa1) (SlX.putS 2 sh1 (SlX.putS 0 (.ref f1) [v0, v1, v2, v3])))) st dxs (SlX.putS 1 (.ref pa1) (SlX.putS 2 sh1 (SlX.putS 0 (.ref f1) [v0, v1, v2, v3]))) := o2.put
  generalize SlX.slH H2 st T.cS dxs (SlX.putS 1 (.ref pa1) (SlX.putS 2 sh1 (SlX.putS 0 (.ref f1) [v0, v1, v2, v3]))) = H3 at k3 o3 ⊢
  refine ⟨_, rfl, x, T.cT, dx, _, _, rfl, keepX k3, T.clT, T.nChosen, trF_chosen _ _ _ _, c, T.cS, dxc, _, _, 3, _, rfl, (keepC k3).slt, T.scS, T.slUndone, rfl, _, rfl, x, T.cT, dx, _, _, rfl, keepX k3, T.clT, T.nOrigin, trF_origin _ _ _ _, st, T.cS, dxs, _, _, 3, rfl, o3.slt, T.scS, T.slUndone, ?_⟩
  have k4 : Kp [st] H (SlX.slH H3 st T.cS dxs (SlX.putS 3 (.ref un1) (SlX.putS 1 (.ref pa1) (SlX.putS 2 sh1 (SlX.putS 0 (.ref f1) [v0, v1, v2, v3]))))) := k3.trans o3.kp
  have o4 : StO T.cS (SlX.slH H3 st T.cS dxs (SlX.putS 3 (.ref un1) (SlX.putS 1 (.ref pa1) (SlX.putS 2 sh1 (SlX.putS 0 (.ref f1) [v0, v1, v2, v3]))))) st dxs [some (.ref f1), some (.ref pa1), some sh1, some (.ref un1)] := o3.put
  generalize SlX.slH H3 st T.cS dxs (SlX.putS 3 (.ref un1) (SlX.putS 1 (.ref pa1) (SlX.putS 2 sh1 (SlX.putS 0 (.ref f1) [v0, v1, v2, v3])))) = H4 at k4 o4 ⊢
  refine ⟨_, rfl, x, T.cT, dx, _, _, rfl, keepX k4, T.clT, T.nOrigin, trF_origin _ _ _ _, _, rfl, x, T.cT, dx, _, _, rfl, keepX k4, T.clT, T.nTested, trF_work _ _ _ _, wk, T.cW, dxw, _, rfl, keepW k4, T.clW, T.nHeld, (by show 2 < 1000; decide), ?_⟩
  rw [wkF_put]
  have k5 : Kp [st, wk] H (upd H4 wk (.ins T.cW dxw (wkF a st))) := (k4.mono (by simp)).put (by simp)
  have t4 := hst.st k4
  have wne : ∀ {b : Addr} {o : HO}, H4 b = some o → (∀ C d fs, o ≠ .ins C d fs) → upd H4 wk (.ins T.cW dxw (wkF a st)) b = some o := fun {b o} e h => by
    have hb : b ≠ wk := fun z => by
      rw [z, keepW k4] at e
      exact h _ _ _ (Option.some.inj e).symm
    rw [upd_ne hb]
    exact e
  have t5 : ST H (upd H4 wk (.ins T.cW dxw (wkF a st))) := fun b xs e => wne (t4 b xs e) fun _ _ _ z => by cases z
  refine q _ k5 ⟨⟨dxw, upd_same⟩, dxs, f1, pa1, sh1, un1, us, ⟨wne o4.o fun _ _ _ z => ?_, wne o4.d fun _ _ _ z => by cases z⟩, h2.st t5, h3.st t5, t5 _ _ h4, h5⟩
  have z' : HO.ext _ = HO.ins _ _ _ := z
  cases z'
end
end M57
/-! Defs: apply_all. -/
namespace M57
open PySem PySem.Spec PyProof.Rows L2 RZ
def opStep (p : Pl) (F : Fx) : Option Stp → Option Fx
  | none => some ⟨F.ds, F.cs, F.pulls ++ [F.ds], F.time⟩
  | some s => (afterStep p F.ds F.cs s).map fun z => ⟨z.1, z.2, F.pulls, F.time + tmOf s⟩
def opRun (p : Pl) : List (Option Stp) → Fx → List Fx → Option (Fx × List Fx)
  | [], F, ps => some (F, ps)
  | o :: r, F, ps => match opStep p F o with
    | none => none
    | some G => opRun p r G (ps ++ [F])
theorem opRun_app {p : Pl} : ∀ {a b : List (Option Stp)} {F : Fx} {ps : List Fx} {G : Fx} {qs : List Fx}, opRun p a F ps = some (G, qs) → opRun p (a ++ b) F ps = opRun p b G qs
  | [], b, F, ps, G, qs, h => by
    cases h
    rfl
  | o :: a, b, F, ps, G, qs, h => by
    show (match opStep p F o with | none => none | some G => opRun p (a ++ b) G (ps ++ [F])) = _
    have h' : (match opStep p F o with | none => none | some G => opRun p a G (ps ++ [F])) = some (G, qs) := h
    cases e : opStep p F o with
    | none =>
      rw [e] at h'
      cases h'
    | some X =>
      rw [e] at h'
      exact opRun_app h'
theorem opRun_one {p : Pl} {F G : Fx} {ps : List Fx} {o : Option Stp} (h : opStep p F o = some G) : opRun p [o] F ps = some (G, ps ++ [F]) := by
  show (match opStep p F o with | none => none | some G => opRun p [] G (ps ++ [F])) = _
  rw [h]
  rfl
theorem opRun_bad {p : Pl} {F : Fx} {ps : List Fx} {o : Option Stp} {r : List (Option Stp)} (h : opStep p F o = none) : opRun p (o :: r) F ps = none := by
  show (match opStep p F o with | none => none | some G => opRun p r G (ps ++ [F])) = _
  rw [h]
/-- what the operation hands back -/
def ResO (H : Hp) (F G : Fx) : Option Stp → V → Prop
  | none, v => ∃ d, v = .ref d ∧ TupI H d F.ds
  | some s, v => ResOk F (G.ds, G.cs) s v
theorem ResO.st {H H' : Hp} {F G : Fx} {o : Option Stp} {v : V} (h : ResO H F G o v) (s : ST H H') : ResO H' F G o v := by
  cases o with
  | none =>
    obtain ⟨d, e, h1⟩ := h
    exact ⟨d, e, s _ _ h1⟩
  | some st => exact h
def ResAll (H : Hp) (p : Pl) (ops : List (Option Stp)) (F : Fx) (ps : List Fx) (xs : List V) : Prop :=
  ∀ (j : Nat) (v : V), xs[j]? = some v → ∃ Fj pj G o, opRun p (ops.take j) F ps = some (Fj, pj) ∧ ops[j]? = some o ∧ opStep p Fj o = some G ∧ ResO H Fj G o v
theorem ResAll.st {H H' : Hp} {p : Pl} {ops : List (Option Stp)} {F : Fx} {ps : List Fx} {xs : List V} (h : ResAll H p ops F ps xs) (s : ST H H') : ResAll H' p ops F ps xs :=
  fun j v e => let ⟨Fj, pj, G, o, h1, h2, h3, h4⟩ := h j v e; ⟨Fj, pj, G, o, h1, h2, h3, h4.st s⟩
theorem ResAll.add {H : Hp} {p : Pl} {ops : List (Option Stp)} {F Fi G : Fx} {ps pi : List Fx} {xs : List V} {v : V} {o : Option Stp} (h : ResAll H p ops F ps xs) (e : opRun p (ops.take xs.length) F ps = some (Fi, pi)) (eo : ops[xs.length]? = some o) (eg : opStep p Fi o = some G) (r : ResO H Fi G o v) : ResAll H p ops F ps (xs ++ [v]) := by
  intro j y hy
  by_cases hj : j < xs.length
  · rw [List.getElem?_append_left hj] at hy
    exact h j y hy
  · rw [List.getElem?_append_right (by omega)] at hy
    have hj2 : j - xs.length = 0 := by
      have := (List.getElem?_eq_some_iff.mp hy).1
      simp at this
      omega
    have ej : j = xs.length := by omega
    rw [hj2] at hy
    cases hy
    rw [ej]
    exact ⟨Fi, pi, G, o, e, eo, eg, r⟩
structure OpsAt (H : Hp) (os : List Addr) (ops : List (Option Stp)) : Prop where
  len : os.length = ops.length
  at_ : ∀ (i : Nat) (o : Addr), os[i]? = some o → ∃ x, ops[i]? = some x ∧ OpAt H o x
/-- ahead of apply_all -/
structure ApPre (CP CW CS : Addr) (H : Hp) (wk a st l : Addr) (os : List Addr) (ops : List (Option Stp)) (F : Fx) (ps : List Fx) (m : Nat) (p : Pl) : Prop where
  l : H l = some (.lst (os.map V.ref))
  os : OpsAt H os ops
  wk : WkAt CW CS H wk a st F ps m
  pl : PlateAt CP H a p
  ok : p.Ok
  d : OkD p F.ds
  c : OkC p F.cs
  s : ∀ s, some s ∈ ops → OkS p s
  few : ps.length + ops.length ≤ 100
  fewp : F.pulls.length + ops.length ≤ 100
/-- behind it -/
def ApPost (CW CS CX : Addr) (H : Hp) (wk a st : Addr) (ops : List (Option Stp)) (F : Fx) (ps : List Fx) (m : Nat) (p : Pl) (Q : VK) (E : XK) : Option (Fx × List Fx) → Prop
  | none => ∀ H' d, Kp [st, wk] H H' → H d = none → H' d = some (.xd [("index", .int ((0 : Nat) : Int))]) → WkAt CW CS H' wk a st F ps m → E (.ref CX) (some d) H'
  | some g => ∀ H' r xs m', Kp [st, wk] H H' → H' r = some (.lst xs) → H r = none → xs.length = ops.length → m' ≤ m → WkAt CW CS H' wk a st g.1 g.2 m' → ResAll H' p ops F ps xs → Q (.ref r) H'
theorem Kp.add {ps : List Addr} {H H' : Hp} {l : Addr} {o : HO} (k : Kp ps H H') (n : H l = none) : Kp ps H (upd H' l o) := fun b u m e => by
  have hb : b ≠ l := fun z => by
    rw [z, n] at e
    cases e
  rw [upd_ne hb]
  exact k b u m e
section
variable {P : Program} {w : World} {K : PySem.W.Frag} {mg : Str → Option Value} {base : Heap}
def spApply (CP CW CS CX : Addr) : Sp := fun vs H Q E => ∃ wk a st l os ops F ps m p, vs = [.ref wk, .ref l] ∧ ApPre CP CW CS H wk a st l os ops F ps m p ∧ ApPost CW CS CX H wk a st ops F ps m p Q E (opRun p ops F ps)
theorem scApply : FnScope ["self", "operations", "index", "operation", "trial", "found"] ["self", "operations"] (defScope (inClass (topS 48) 20)) := ⟨rfl, rfl, rfl, by decide +kernel, rfl, by decide +kernel, by decide +kernel⟩
theorem ok_apply (T : Txt K w mg) : FnOk P w K mg base (L2.CX P w) 11 T.wApply.f T.wApply.fd ["self", "operations"] (spApply T.cP T.cW T.cS T.cX) := by
  refine T.wApply.fn.okX scApply (fun vs H Q E h => ?_) fun cdv A outer s H vs Q E hr h => ?_
  · obtain ⟨_, _, _, _, _, _, _, _, _, _, rfl, _⟩ := h
    rfl
  obtain ⟨wk, a, st, l, os, ops, F, ps, m, p, rfl, ⟨hl, hos, hwk, hp, k, okd, okc, oks, few, fewp⟩, q⟩ := h
  have fEnter := (ok_trEnter (P := P) (base := base) T).raw T.tEnter.b (dvs := []) .nil
  have fExit := ok_trExit (P := P) (base := base) T
  refine ⟨_, pss_cons (ps_for (passes_of rfl) rfl (pi_enum (by rfl) T.enum (pa_cons (pv 1) pa_nil)) (pg_tup rfl (pgs_cons (gn 2 scApply.nd) (pgs_cons (gn 3 scApply.nd) pgs_nil)))
      (pss_one (ps_if (pt_not (pt_val (dcall T.isOp (ok_isOp T) (hr.mono (by decide)) (pa_cons (pv 3) pa_nil)))) (pss_one ps_never) pss_nil)))
    (pss_cons (ps_withX (i := 4) (tb := fun W => tSeq (tAsg (tLc (iList K (tVar 1)) (gName 3) tYes (tMeth T.cW "execute" (spExec T.cP T.cW T.cS T.cX) [] (fun cls d H => ∀ σ, W cls d σ H) (tVar 0) (tCons (tVar 3) tNil)) [3]) (gName 5)) (tDrop (tMeth T.cT "hold" (spHold T.cT) [] E0 (tVar 4) tNil))) rfl rfl rfl (takes_of rfl rfl rfl rfl) scApply.nd rfl rfl ⟨T.tEnter.me.at_, T.tEnter.me.fn, T.tExit.me.at_, T.tExit.me.fn⟩ fEnter (hr.mono (by decide)) fExit ((L2H.roomH_of hr).mono (by decide))
      (pe_make T.mT.mk_ (ok_trInit T) (hr.mono (by decide)) (by rfl) T.mT.gl T.mT.b .nil pass0 (pa_cons (pv 0) pa_nil))
      (fun W pn xe tk _ => pss_cons (ps_setLcX (i := 5) (own := [("operation", 3)]) (g := gName 3) (tt := tYes) rfl rfl rfl tk scApply.nd rfl rfl (sw_true rfl rfl rfl (by decide +kernel)) (pi_list (pv 1)) (blkOk_by (N := ["self", "operations", "index", "operation", "trial", "found"]) (sc := defScope (inClass (topS 48) 20)) (by decide +kernel))
          (fun _ _ _ _ _ _ => gn 3 scApply.nd) (fun _ _ _ _ _ _ => pts_nil) (fun _ _ _ _ _ _ pp => pe_meth (pv 0) T.clW T.wExecute.me (ok_exec T) hr T.wExecute.b .nil pp (pa_cons (pv 3) pa_nil)))
        (pss_one (ps_expr (pe_meth0 (pv 4) T.clT T.tHold.me (ok_hold T) (hr.mono (by decide)) T.tHold.b .nil pass0)))))
    (pss_one (ps_ret (pv 5)))), ?_⟩
  refine ⟨_, rfl, l, _, rfl, .inl (.inl hl), for_it (walk_enum (xs := os.map V.ref)) (fun i σ H' => (∃ u v, σ = [some (.ref wk), some (.ref l), u, v, none, none]) ∧ Same H H') ⟨⟨none, none, rfl⟩, Same.refl H⟩ (fun i σ H' _ p2 => .inl (.inl (p2.2 _ _ hl))) ?_ ?_⟩
  · rintro i x σ H1 H2 hi ⟨⟨u, v, rfl⟩, s1⟩ ⟨Tt, x1, x2, rfl, nT, rfl, e1, e2⟩
    cases e1
    obtain ⟨b, hb, rfl⟩ := refs_get e2
    obtain ⟨y, hy, hat⟩ := hos.at_ i b hb
    have s2 := same_new (o := .tup [.int (i : Nat), .ref b]) s1 nT
    refine ⟨Tt, _, rfl, SqT.of upd_same, rfl, _, _, rfl, _, _, rfl, rfl, ?_⟩
    refine ⟨_, rfl, b, y, rfl, hat.same s2, fun H3 s3 => ⟨true, rfl, iteF ?_⟩⟩
    exact ⟨⟨_, _, rfl⟩, s2.trans s3⟩
  rintro σ H1 ⟨⟨u0, v0, rfl⟩, s1⟩
  -- the trial is made
  refine ⟨_, rfl, fun x dx nx ndx nex => ?_⟩
  have sx : Same H1 (upd (upd H1 dx (.own x)) x (.ins T.cT dx [])) := same_add (same_add (Same.refl _) ndx) nx
  have wx : wk ≠ x := fun z => by
    obtain ⟨dxw, e⟩ := (hwk.same s1).w
    rw [z, nx] at e
    cases e
  refine ⟨x, dx, wk, a, st, F, ps, m, rfl, upd_same, (hwk.same s1).same sx, wx, fun H2 k2 ⟨dx2, hx2⟩ => ⟨rfl, ?_⟩⟩
  have s12 : Same H1 H2 := Kp.same sx k2 fun b hb => by
    rw [List.mem_singleton.mp hb]
    exact nx
  have s02 := s1.trans s12
  have hwk2 := hwk.same s02
  refine ⟨x, dx2, _, rfl, hx2, x, dx2, wk, a, st, st, st, st, F, ps, m, rfl, hx2, wx.symm, hwk2, fun H3 f c nf nc nfc k3 hx3 hwk3 hc3 hst3 => ?_⟩
  obtain ⟨dxs, _, _, _, _, _, ost2, _⟩ := id hwk2.s
  have cst : c ≠ st := fun z => by
    rw [z, ost2.o] at nc
    cases nc
  have fst : f ≠ st := fun z => by
    rw [z, ost2.o] at nf
    cases nf
  obtain ⟨dxw, hw2⟩ := hwk2.w
  have st23 : ST H2 H3 := fun b xs e => k3 b _ (fun z => by
    rcases List.mem_cons.mp z with z | z
    · rw [z, hx2] at e
      cases e
    · rw [List.mem_singleton.mp z, hw2] at e
      cases e) e
  have af : a ≠ f := fun z => by
    obtain ⟨_, _, _, h1, _⟩ := (hp.same s02).ex
    rw [z, nf] at h1
    cases h1
  -- from H, behind any frame around f: what stands
  have hp3 : PlateAt T.cP H3 a p := (hp.same s02).kp st23 k3 (fun z => by
    obtain ⟨_, _, _, h1, _⟩ := (hp.same s02).ex
    rcases List.mem_cons.mp z with z | z
    · rw [z, hx2] at h1
      have z' : HO.ins T.cT dx2 _ = HO.ext _ := Option.some.inj h1
      cases z'
    · rw [List.mem_singleton.mp z, hw2] at h1
      have z' : HO.ins T.cW dxw _ = HO.ext _ := Option.some.inj h1
      cases z') (fun b hb e => by
    rcases List.mem_cons.mp hb with z | z
    · rw [z, hx2] at e
      cases e
    · rw [List.mem_singleton.mp z, hw2] at e
      cases e)
  have hl3 : H3 l = some (.lst (os.map V.ref)) := k3 l _ (fun z => by
    have e := s02 _ _ hl
    rcases List.mem_cons.mp z with z | z
    · rw [z, hx2] at e
      cases e
    · rw [List.mem_singleton.mp z, hw2] at e
      cases e) (s02 _ _ hl)
  obtain ⟨dxf, _, _, _, _, _, of3, _⟩ := id hwk3.s
  have lf : l ≠ f := fun z => by
    have := of3.o
    rw [← z, hl3] at this
    have z' : HO.lst _ = HO.ext _ := Option.some.inj this
    cases z'
  have xf : x ≠ f := fun z => by
    have := of3.o
    rw [← z, hx3] at this
    have z' : HO.ins T.cT dx2 _ = HO.ext _ := Option.some.inj this
    cases z'
  have wf : wk ≠ f := hwk3.ne
  have k03 : ∀ {b : Addr} {o : HO} {H' : Hp}, Kp [f] H3 H' → b ∉ [st, wk] → H b = some o → H' b = some o := fun {b o H'} kf hb e => by
    have e2 := s02 _ _ e
    refine kf b o (fun z => ?_) (k3 b o (fun z => ?_) e2)
    · rw [List.mem_singleton.mp z, nf] at e2
      cases e2
    · rcases List.mem_cons.mp z with z | z
      · have e1 := s1 _ _ e
        rw [z, nx] at e1
        cases e1
      · exact hb (by rw [List.mem_singleton.mp z]; simp)
  have keepC : ∀ {H' : Hp}, Kp [f] H3 H' → StAt T.cS H' c F ps m := fun kf => hc3.kp (hwk3.s.stt kf) kf (by simpa using nfc.symm) hwk3.s.xd
  have keepS : ∀ {H' : Hp}, Kp [f] H3 H' → StAt T.cS H' st F ps m := fun kf => hst3.kp (hwk3.s.stt kf) kf (by simpa using fst.symm) hwk3.s.xd
  have keepX : ∀ {H' : Hp}, Kp [f] H3 H' → H' x = some (.ins T.cT dx2 (trF wk st f c)) := fun kf => kf _ _ (by simpa using xf) hx3
  refine ⟨_, rfl, l, rfl, ⟨_, .inl (.inl hl3)⟩, fun D nD => lc_list (xs := os.map V.ref) (fun i Hc => Kp [f] H3 Hc ∧ ∃ xs Fi pi mi, Hc D = some (.lst xs) ∧ xs.length = i ∧ opRun p (ops.take i) F ps = some (Fi, pi) ∧ WkAt T.cW T.cS Hc wk a f Fi pi mi ∧ mi ≤ m ∧ OkD p Fi.ds ∧ OkC p Fi.cs ∧
    pi.length = ps.length + i ∧ Fi.pulls.length ≤ F.pulls.length + i ∧ ResAll Hc p ops F ps xs)
    ⟨(Kp.refl _ _).add nD, [], F, ps, m, upd_same, rfl, rfl, hwk3.same (same_add (Same.refl _) nD), Nat.le_refl _, okd, okc, rfl, Nat.le_refl _, fun j v e => by simp at e⟩ (fun i Hc _ pc => .inl (.inl (pc.1 _ _ (by simpa using lf) hl3))) ?_ ?_⟩
  · rintro i y Hc hy ⟨kc, xs, Fi, pi, mi, hD, hxl, er, hwkc, hmi, okdi, okci, hpl, hpul, hres⟩
    obtain ⟨o, ho, rfl⟩ := refs_get hy
    obtain ⟨z, hz, hat⟩ := hos.at_ i o ho
    have hi : i < ops.length := (List.getElem?_eq_some_iff.mp hz).1
    have etake : ops.take (i + 1) = ops.take i ++ [z] := takeStep hz
    have hatc : OpAt Hc o z := by
      have t3 := hwk3.s.stt kc
      exact ((hat.same s02).st st23).st t3
    have hpc : PlateAt T.cP Hc a p := hp3.kp (hwk3.s.stt kc) kc (by simpa using af) hwk3.s.xd
    obtain ⟨dxc, hwc⟩ := hwkc.w
    refine ⟨rfl, ?_⟩
    refine lcYes ?_
    refine ⟨_, rfl, wk, dxc, _, rfl, hwc, wkF_no (by decide +kernel) (by decide +kernel), _, rfl, wk, o, a, f, Fi, pi, mi, rfl, ?_⟩
    -- the list takes one more
    have more : ∀ (G : Fx) (v : V) (H' H4 : Hp), opStep p Fi z = some G → Kp [f] Hc H' → Same H' H4 → WkAt T.cW T.cS H' wk a f G (pi ++ [Fi]) 0 → OkD p G.ds → OkC p G.cs → G.pulls.length ≤ Fi.pulls.length + 1 → ResO H4 Fi G z v →
        ∃ acc, H4 D = some (.lst acc) ∧ acc.length < sizeLine ∧ (Kp [f] H3 (upd H4 D (.lst (acc ++ [v]))) ∧ ∃ xs Fi pi mi, upd H4 D (.lst (acc ++ [v])) D = some (.lst xs) ∧ xs.length = i + 1 ∧ opRun p (ops.take (i + 1)) F ps = some (Fi, pi) ∧ WkAt T.cW T.cS (upd H4 D (.lst (acc ++ [v]))) wk a f Fi pi mi ∧ mi ≤ m ∧ OkD p Fi.ds ∧ OkC p Fi.cs ∧
          pi.length = ps.length + (i + 1) ∧ Fi.pulls.length ≤ F.pulls.length + (i + 1) ∧ ResAll (upd H4 D (.lst (acc ++ [v]))) p ops F ps xs) := by
      intro G v H' H4 eg k' s4 hwk' okg okcg hpg hr4
      have Df : D ≠ f := fun q => by
        rw [q, of3.o] at nD
        cases nD
      have hD4 : H4 D = some (.lst xs) := s4 _ _ (k' _ _ (by simpa using Df) hD)
      have k34 : Kp [f] H3 H4 := (kc.trans k').trans (Kp.of s4)
      -- nothing but the list is touched by the store
      have kD : Kp [D] H4 (upd H4 D (.lst (xs ++ [v]))) := (Kp.refl _ _).put (List.mem_singleton_self _)
      have tD : ST H4 (upd H4 D (.lst (xs ++ [v]))) := fun b ys e => by
        have hb : b ≠ D := fun q => by
          rw [q, hD4] at e
          cases e
        rw [upd_ne hb]
        exact e
      have hwk4 := hwk'.same s4
      have hwkD : WkAt T.cW T.cS (upd H4 D (.lst (xs ++ [v]))) wk a f G (pi ++ [Fi]) 0 := hwk4.kp tD kD (fun q => by
        obtain ⟨_, e⟩ := hwk4.w
        rw [List.mem_singleton.mp q, hD4] at e
        cases e) (by simpa using Df.symm) (fun b hb e => by
        rw [List.mem_singleton.mp hb, hD4] at e
        cases e)
      have t34 : ST Hc H4 := (hwkc.s.stt k').trans (ST.of s4)
      refine ⟨xs, hD4, by rw [hxl]; exact small16 (by omega), k34.add nD, xs ++ [v], G, pi ++ [Fi], 0, upd_same, by simp [hxl], ?_, hwkD, Nat.zero_le _, okg, okcg, by simp [hpl]; omega, by omega, ?_⟩
      · rw [etake, opRun_app er]
        exact opRun_one eg
      · have hr5 := (hres.st t34).st tD
        exact hr5.add (by rw [hxl]; exact er) (by rw [hxl]; exact hz) eg (hr4.st tD)
    cases z with
    | none =>
      refine .inr ⟨hatc, hwkc, by omega, by omega, fun H' d k' hwk' hd' => ?_⟩
      exact more ⟨Fi.ds, Fi.cs, Fi.pulls ++ [Fi.ds], Fi.time⟩ (.ref d) H' H' rfl k' (Same.refl _) hwk' okdi okci (by simp) ⟨d, rfl, hd'⟩
    | some stp =>
      have okst : OkS p stp := oks stp (List.mem_of_getElem? hz)
      refine .inl ⟨p, stp, hatc, ⟨hwkc, hpc, k, af, okdi, okci, okst, by omega⟩, ?_⟩
      cases ea : afterStep p Fi.ds Fi.cs stp with
      | none =>
        have eg : opStep p Fi (some stp) = none := by
          show (afterStep p Fi.ds Fi.cs stp).map _ = none
          rw [ea]
          rfl
        have ebad : opRun p ops F ps = none := by
          have e3 : ops = ops.take i ++ (some stp :: ops.drop (i + 1)) := by
            have e4 : ops[i] = some stp := (List.getElem?_eq_some_iff.mp hz).2
            rw [← e4, ← List.drop_eq_getElem_cons hi, List.take_append_drop]
          rw [e3, opRun_app er]
          exact opRun_bad eg
        rw [ebad] at q
        intro H' d s' nd hd σ
        have kf : Kp [f] H3 H' := kc.trans (Kp.of s')
        have hw' : H' wk = some (.ins T.cW dxc (wkF a f)) := s' _ _ hwc
        obtain ⟨dxs', _, _, _, _, _, ost', _⟩ := id (keepS kf)
        refine ⟨.ref T.cX, rfl, fun ev tv => ⟨x, .ref T.cX, ev, tv, dx2, wk, a, st, f, c, F, ps, m, rfl, keepX kf, ⟨dxc, hw'⟩, cst, keepC kf, ⟨dxs', _, ost', rfl⟩, fun H'' k'' hwk'' => ⟨rfl, ?_⟩⟩⟩
        refine q H'' d (fun b o hb e => k'' b o hb (k03 kf hb e)) ?_ ?_ hwk''
        · cases eh : H d with
          | none => rfl
          | some o =>
            by_cases hb : d ∈ [st, wk]
            · rcases List.mem_cons.mp hb with z | z
              · obtain ⟨_, _, _, _, _, _, ostc, _⟩ := id (keepS kc)
                rw [z, ostc.o] at nd
                cases nd
              · rw [List.mem_singleton.mp z, hwc] at nd
                cases nd
            · rw [k03 kc hb eh] at nd
              cases nd
        · refine k'' d _ (fun z => ?_) hd
          rcases List.mem_cons.mp z with z | z
          · have := ost'.o
            rw [← z, hd] at this
            have z' : HO.xd _ = HO.ext _ := Option.some.inj this
            cases z'
          · rw [List.mem_singleton.mp z, hw'] at hd
            cases hd
      | some z2 =>
        have eg : opStep p Fi (some stp) = some ⟨z2.1, z2.2, Fi.pulls, Fi.time + tmOf stp⟩ := by
          show (afterStep p Fi.ds Fi.cs stp).map _ = _
          rw [ea]
          rfl
        have ok2 := afterStep_ok k okdi okci okst ea
        intro H' k' hwk' v H4 s4 hr4
        exact more _ v H' H4 eg k' s4 hwk' ok2.1 ok2.2 (Nat.le_succ _) hr4
  · rintro Hc ⟨kc, xs, Fi, pi, mi, hD, hxl, er, hwkc, hmi, okdi, okci, hpl, hpul, hres⟩
    rw [List.length_map] at hxl er
    rw [hos.len, List.take_length] at er
    rw [er] at q
    have hxc := keepX kc
    refine ⟨_, rfl, x, dx2, _, rfl, hxc, trF_hold _ _ _ _, x, dx2, wk, st, f, c, rfl, hxc, fun H5 k5 hx5 => ?_⟩
    have mem5 : ∀ b ∈ [x], ∃ C d fs, Hc b = some (.ins C d fs) := fun b hb => by
      rw [List.mem_singleton.mp hb]
      exact ⟨_, _, _, hxc⟩
    have t5 := ins_st mem5 k5
    have x5 := ins_xd mem5
    have fx : f ≠ x := xf.symm
    have hwk5 : WkAt T.cW T.cS H5 wk a f Fi pi mi := hwkc.kp t5 k5 (by simpa using wx) (by simpa using fx) x5
    have stx : st ≠ x := (keepS kc).notIns hxc
    have hst5 : StAt T.cS H5 st F ps m := (keepS kc).kp t5 k5 (by simpa using stx) x5
    have Dx : D ≠ x := fun z => by
      rw [z, hxc] at hD
      cases hD
    have hD5 := k5 _ _ (by simpa using Dx) hD
    obtain ⟨dxs', _, _, _, _, _, ost', _⟩ := id hst5
    refine ⟨x, .non, .non, .non, dx2, wk, a, st, f, f, Fi, pi, mi, rfl, hx5, hwk5.w, fst, hwk5.s, ⟨dxs', _, ost', rfl⟩, fun H6 k6 hwk6 => ?_⟩
    obtain ⟨dxw5, hw5⟩ := hwk5.w
    have mem6 : ST H5 H6 := fun b ys e => k6 b _ (fun z => by
      rcases List.mem_cons.mp z with z | z
      · exact ost'.tup e z
      · rw [List.mem_singleton.mp z, hw5] at e
        cases e) e
    have hD6 : H6 D = some (.lst xs) := k6 _ _ (fun z => by
      rcases List.mem_cons.mp z with z | z
      · have := ost'.o
        rw [← z, hD5] at this
        have z' : HO.lst _ = HO.ext _ := Option.some.inj this
        cases z'
      · rw [List.mem_singleton.mp z, hw5] at hD5
        cases hD5) hD5
    refine ⟨_, rfl, ?_⟩
    refine q H6 D xs mi (fun b o hb e => k6 b o hb (k5 b o (fun z => ?_) (k03 kc hb e))) hD6 ?_ (by rw [hxl, hos.len]) hmi hwk6 ((hres.st t5).st mem6)
    · have e1 := s1 _ _ e
      rw [List.mem_singleton.mp z, nx] at e1
      cases e1
    · cases eh : H D with
      | none => rfl
      | some o =>
        exfalso
        by_cases hb : D ∈ [st, wk]
        · rcases List.mem_cons.mp hb with z | z
          · obtain ⟨_, _, _, _, _, _, o3, _⟩ := id hst3
            rw [z, o3.o] at nD
            cases nD
          · obtain ⟨_, e3⟩ := hwk3.w
            rw [List.mem_singleton.mp z, e3] at nD
            cases nD
        · rw [k03 (Kp.refl _ _) hb eh] at nD
          cases nD
end
end M57
/-! The law's helpers, part a: the next draw. -/
namespace M57
open PySem PySem.Spec PyProof.Rows L2 RZ
/-- the script stands: in the heap, apart from the row, or in the written part -/
def ScrOk (K : PySem.W.Frag) (H : Hp) (sa r : Addr) (ns : List Int) : Prop := (sa ≠ r ∧ Rd H sa (.lst (ns.map V.int))) ∨
  ∃ (o : Obj) (its : Array Value) (n : Nat), K.lookup sa = some o ∧ o.cls = .type "list" ∧ o.dict = none ∧ o.data = .seq its n ∧ its.size ≤ sizeLine ∧ Vals (ns.map V.int) its.toList
theorem ScrOk.sq {K : PySem.W.Frag} {H : Hp} {sa r : Addr} {ns : List Int} (h : ScrOk K H sa r ns) : SqL K H sa (ns.map V.int) := by
  rcases h with h | h
  · exact .inl h.2
  · exact .inr h
theorem ScrOk.kp1 {K : PySem.W.Frag} {H H' : Hp} {sa r : Addr} {ns : List Int} (h : ScrOk K H sa r ns) (k : Kp [r] H H') : ScrOk K H' sa r ns := by
  rcases h with ⟨n, h | ⟨u, h⟩⟩ | h
  · exact .inl ⟨n, .inl (k _ _ (by simpa using n) h)⟩
  · exact .inl ⟨n, .inr ⟨u, k _ _ (by simpa using n) h⟩⟩
  · exact .inr h
/-- what is drawn from -/
def RowAt (K : PySem.W.Frag) (H : Hp) (r sa : Addr) : Prop := ∃ (ns : List Int) (i m x : Int), H r = some (.lst [.ref sa, .int i, .int m, .int x]) ∧ 0 ≤ i ∧ ScrOk K H sa r ns
/-- a frame around things that are no lists -/
theorem RowAt.kp {K : PySem.W.Frag} {H H' : Hp} {r sa : Addr} {qs : List Addr} (h : RowAt K H r sa) (k : Kp qs H H') (n : ∀ b ∈ qs, ∃ o, H b = some o ∧ (∀ xs, o ≠ .lst xs) ∧ ∀ u xs, o ≠ .frz u (.lst xs)) : RowAt K H' r sa := by
  obtain ⟨ns, i, m, x, h1, h2, h3⟩ := h
  refine ⟨ns, i, m, x, k _ _ (fun z => ?_) h1, h2, ?_⟩
  · obtain ⟨o, e, g, _⟩ := n _ z
    rw [h1] at e
    exact g _ (Option.some.inj e).symm
  · rcases h3 with ⟨ne, h | ⟨u, h⟩⟩ | h
    · refine .inl ⟨ne, .inl (k _ _ (fun z => ?_) h)⟩
      obtain ⟨o, e, g, _⟩ := n _ z
      rw [h] at e
      exact g _ (Option.some.inj e).symm
    · refine .inl ⟨ne, .inr ⟨u, k _ _ (fun z => ?_) h⟩⟩
      obtain ⟨o, e, _, g⟩ := n _ z
      rw [h] at e
      exact g _ _ (Option.some.inj e).symm
    · exact .inr h
theorem RowAt.same {K : PySem.W.Frag} {H H' : Hp} {r sa : Addr} (h : RowAt K H r sa) (s : Same H H') : RowAt K H' r sa := by
  obtain ⟨ns, i, m, x, h1, h2, h3⟩ := h
  exact ⟨ns, i, m, x, s _ _ h1, h2, h3.kp1 (Kp.of s)⟩
/-- a new thing that is stored into -/
theorem RowAt.put {K : PySem.W.Frag} {H0 H : Hp} {r sa D : Addr} {o : HO} (h0 : RowAt K H0 r sa) (n : H0 D = none) (h : RowAt K H r sa) : RowAt K (upd H D o) r sa := by
  obtain ⟨ns0, i0, m0, x0, g1, g2, g3⟩ := h0
  obtain ⟨ns, i, m, x, h1, h2, h3⟩ := h
  have rD : r ≠ D := fun z => by
    rw [z, n] at g1
    cases g1
  rcases g3 with ⟨ne, g3⟩ | g3
  · have sD : sa ≠ D := fun z => by
      rcases g3 with g | ⟨u, g⟩
      · rw [z, n] at g
        cases g
      · rw [z, n] at g
        cases g
    refine ⟨ns, i, m, x, by rw [upd_ne rD]; exact h1, h2, ?_⟩
    rcases h3 with ⟨ne2, h | ⟨u, h⟩⟩ | h
    · exact .inl ⟨ne2, .inl (by rw [upd_ne sD]; exact h)⟩
    · exact .inl ⟨ne2, .inr ⟨u, by rw [upd_ne sD]; exact h⟩⟩
    · exact .inr h
  · exact ⟨ns0, i, m, x, by rw [upd_ne rD]; exact h1, h2, .inr g3⟩
/-- the row is made -/
theorem RowAt.mk_ {K : PySem.W.Frag} {H : Hp} {r sa : Addr} {ns : List Int} (h : SqL K H sa (ns.map V.int)) (n : H r = none) : RowAt K (upd H r (.lst [.ref sa, .int 0, .int 0, .int 0])) r sa := by
  refine ⟨ns, 0, 0, 0, upd_same, Int.le_refl _, ?_⟩
  rcases h with h | h
  · have ne : sa ≠ r := fun z => by
      rcases h with h | ⟨u, h⟩
      · rw [z, n] at h
        cases h
      · rw [z, n] at h
        cases h
    rcases h with h | ⟨u, h⟩
    · exact .inl ⟨ne, .inl (by rw [upd_ne ne]; exact h)⟩
    · exact .inl ⟨ne, .inr ⟨u, by rw [upd_ne ne]; exact h⟩⟩
  · exact .inr h
section
variable {P : Program} {w : World} {K : PySem.W.Frag} {mg : Str → Option Value} {base : Heap}
def spTaken (K : PySem.W.Frag) : Sp := fun vs H Q _ => ∃ r n sa, vs = [.ref r, .int n] ∧ RowAt K H r sa ∧ 1 ≤ n ∧ n < 1000 ∧ ∀ H' t, Kp [r] H H' → RowAt K H' r sa → 0 ≤ t → t < n → Q (.int t) H'
theorem scTaken : FnScope ["_law_row", "_law_many", "_law_found", "_law_cell"] ["_law_row", "_law_many"] (defScope (topS 51)) := ⟨rfl, rfl, rfl, by decide +kernel, rfl, by decide +kernel, by decide +kernel⟩
theorem ok_taken (T : Txt K w mg) : FnOk P w K mg base CX0 1 T.lTaken.f T.lTaken.fd ["_law_row", "_law_many"] (spTaken K) := by
  refine T.lTaken.fn.ok scTaken (fun vs H Q E h => ?_) fun cdv A outer s H vs Q E hr h => ?_
  · obtain ⟨_, _, _, rfl, _⟩ := h
    rfl
  obtain ⟨r, n, sa, rfl, ⟨ns, i, m, x, h1, h2, h3⟩, hn1, hn2, q⟩ := h
  refine ⟨_, pss_cons (ps_if (pt_cmpR op_gt (pe_ix ix_list (pv 0) pe_int (fun _ _ => rfl)) pe_int (nomark _))
      (pss_cons (sv 2 scTaken.nd (pe_op op_mod (pe_callTy (call_int1) (by rfl) T.int_ (by decide +kernel) (pa_cons (pe_ix ix_list (pv 0) pe_int (fun _ _ => rfl)) pa_nil)) (pv 1)))
      (pss_cons (ps_asg (pe_op op_fdiv (pe_ix ix_list (pv 0) pe_int (fun _ _ => rfl)) (pv 1)) (pg_sub (pv 0) pe_int set_list))
      (pss_one (ps_ret (pv 2))))) pss_nil)
    (pss_cons (ps_asg (pe_op op_add (pe_ix ix_list (pv 0) pe_int (fun _ _ => rfl)) pe_int) (pg_sub (pv 0) pe_int set_list))
    (pss_cons (ps_if (pt_cmpR op_gt (pe_ix ix_list (pv 0) pe_int (fun _ _ => rfl)) (pe_callB call_len_seq (by rfl) T.len PySem.boot_len (pa_cons (pe_ix ix_list (pv 0) pe_int (fun _ _ => rfl)) pa_nil)) (nomark _))
      (pss_cons (ps_asg (pe_op op_mod (pe_callTy (call_int1) (by rfl) T.int_ (by decide +kernel) (pa_cons (pe_op op_add (pe_op op_mul (pe_ix ix_list (pv 0) pe_int (fun _ _ => rfl)) pe_int) pe_int) pa_nil)) pe_int) (pg_sub (pv 0) pe_int set_list))
      (pss_one (ps_ret (pe_op op_mod (pe_callTy (call_int1) (by rfl) T.int_ (by decide +kernel) (pa_cons (pe_op op_fdiv (pe_ix ix_list (pv 0) pe_int (fun _ _ => rfl)) pe_int) pa_nil)) (pv 1))))) pss_nil)
    (pss_cons (sv 3 scTaken.nd (pe_ix ix_list (pe_ix ix_list (pv 0) pe_int (fun _ _ => rfl)) (pe_op op_sub (pe_ix ix_list (pv 0) pe_int (fun _ _ => rfl)) pe_int) (fun _ _ => rfl)))
    (pss_cons (ps_asg (pe_op op_mod (pe_callTy (call_int1) (by rfl) T.int_ (by decide +kernel) (pa_cons (pe_op op_add (pe_op op_add (pe_op op_mul (pe_ix ix_list (pv 0) pe_int (fun _ _ => rfl)) pe_int) (pv 3)) pe_int) pa_nil)) pe_int) (pg_sub (pv 0) pe_int set_list))
    (pss_cons (ps_if (pt_cmpR op_ge (pv 3) (pe_op op_pow pe_int pe_int) (nomark _)) (pss_one (ps_asg (pe_op op_fdiv (pv 3) (pv 1)) (pg_sub (pv 0) pe_int set_list))) pss_nil)
    (pss_one (ps_ret (pe_op op_mod (pe_callTy (call_int1) (by rfl) T.int_ (by decide +kernel) (pa_cons (pv 3) pa_nil)) (pv 1))))))))), ?_⟩
  have a1 : ∀ (u v : V) (i m x : V), atI [u, i, m, x] 1 = some i := fun u v i m x => (atI_nat rfl : atI _ ((1 : Nat) : Int) = some _)
  have a2 : ∀ (u i m x : V), atI [u, i, m, x] 2 = some m := fun u i m x => (atI_nat rfl : atI _ ((2 : Nat) : Int) = some _)
  have a3 : ∀ (u i m x : V), atI [u, i, m, x] 3 = some x := fun u i m x => (atI_nat rfl : atI _ ((3 : Nat) : Int) = some _)
  have rin : r ∈ [r] := List.mem_singleton_self _
  refine ⟨_, rfl, r, _, _, _, rfl, rfl, .inl (.inl h1), a3 _ _ _ _, _, _, rfl, rfl, _, rfl, ?_⟩
  refine ite2 (fun z => ?_) (fun z => ?_)
  · refine ⟨_, rfl, r, _, _, _, rfl, rfl, .inl (.inl h1), a3 _ _ _ _, .inl ⟨_, rfl, ?_⟩⟩
    refine ⟨_, rfl, _, _, rfl, rfl, (by show (0 : Int) < n; omega), ?_⟩
    refine ⟨_, rfl, r, _, _, _, rfl, rfl, .inl (.inl h1), a3 _ _ _ _, _, rfl, _, _, rfl, rfl, ⟨by omega, by omega⟩, ?_⟩
    refine ⟨_, rfl, r, _, _, 3, rfl, rfl, h1, rfl, ?_⟩
    refine ⟨_, rfl, q _ _ ((Kp.refl _ _).put rin) ⟨ns, i, m, x / n, upd_same, h2, h3.kp1 ((Kp.refl _ _).put rin)⟩ (Int.emod_nonneg _ (by omega)) (Int.emod_lt_of_pos _ (by omega))⟩
  · refine ⟨_, rfl, r, _, _, _, rfl, rfl, .inl (.inl h1), a1 _ .non _ _ _, _, _, rfl, rfl, ?_⟩
    refine ⟨_, rfl, r, _, _, 1, rfl, rfl, h1, rfl, ?_⟩
    have k2 : Kp [r] H (upd H r (.lst [.ref sa, .int (i + 1), .int m, .int x])) := (Kp.refl _ _).put rin
    have h12 : upd H r (.lst [.ref sa, .int (i + 1), .int m, .int x]) r = some (.lst [.ref sa, .int (i + 1), .int m, .int x]) := upd_same
    show _
    generalize e2 : upd H r (.lst ([V.ref sa, .int i, .int m, .int x].set 1 (.int (i + 1)))) = H2 at ⊢
    have e2' : upd H r (.lst [.ref sa, .int (i + 1), .int m, .int x]) = H2 := e2
    rw [e2'] at k2 h12
    have hs2 := (h3.kp1 k2).sq
    refine ⟨_, rfl, r, _, _, _, rfl, rfl, .inl (.inl h12), a1 _ .non _ _ _, _, rfl, r, _, _, _, rfl, rfl, .inl (.inl h12), atI0, sa, _, rfl, .inl hs2, _, _, rfl, rfl, _, rfl, ?_⟩
    rw [List.length_map]
    refine ite2 (fun z2 => ?_) (fun z2 => ?_)
    · refine ⟨_, rfl, r, _, _, _, rfl, rfl, .inl (.inl h12), a2 _ _ _ _, _, _, rfl, rfl, .inr ⟨by omega, by omega⟩, _, _, rfl, rfl, .inl ⟨_, rfl, ?_⟩⟩
      refine ⟨_, _, rfl, rfl, (by show (0 : Int) < 2147483647; decide), ?_⟩
      refine ⟨_, rfl, r, _, _, 2, rfl, rfl, h12, rfl, ?_⟩
      refine ⟨_, rfl, r, _, _, _, rfl, rfl, .inl (.inl upd_same), a2 _ _ _ _, _, _, rfl, rfl, ⟨by decide, by decide⟩, .inl ⟨_, rfl, ?_⟩⟩
      refine ⟨_, rfl, _, _, rfl, rfl, (by show (0 : Int) < n; omega), ?_⟩
      have k3 : Kp [r] H (upd H2 r (.lst ([V.ref sa, .int (i + 1), .int m, .int x].set 2 (.int ((m * 48271 + 11) % 2147483647))))) := k2.put rin
      exact q _ _ k3 ⟨ns, i + 1, _, x, upd_same, by omega, h3.kp1 k3⟩ (Int.emod_nonneg _ (by omega)) (Int.emod_lt_of_pos _ (by omega))
    · have hi : i + 1 ≤ (ns.length : Int) := by
        have := of_decide_eq_false (Bool.eq_false_iff.mpr z2)
        omega
      have hat : atI (ns.map V.int) (i + 1 - 1) = some (.int (at0 ns i)) := by
        rw [show i + 1 - 1 = i by omega]
        exact atI_ints h2 (by omega)
      refine ⟨_, rfl, r, _, _, _, rfl, rfl, .inl (.inl h12), atI0, _, rfl, r, _, _, _, rfl, rfl, .inl (.inl h12), a1 _ .non _ _ _, _, _, rfl, rfl, sa, _, _, _, rfl, rfl, hs2, hat, ?_⟩
      refine ⟨_, rfl, r, _, _, _, rfl, rfl, .inl (.inl h12), a2 _ _ _ _, _, _, rfl, rfl, .inr ⟨by omega, by omega⟩, _, rfl, _, _, rfl, rfl, _, _, rfl, rfl, .inl ⟨_, rfl, ?_⟩⟩
      refine ⟨_, _, rfl, rfl, (by show (0 : Int) < 2147483647; decide), ?_⟩
      refine ⟨_, rfl, r, _, _, 2, rfl, rfl, h12, rfl, ?_⟩
      have k3 : Kp [r] H (upd H2 r (.lst ([V.ref sa, .int (i + 1), .int m, .int x].set 2 (.int ((m * 48271 + at0 ns i + 11) % 2147483647))))) := k2.put rin
      have h13 : upd H2 r (.lst ([V.ref sa, .int (i + 1), .int m, .int x].set 2 (.int ((m * 48271 + at0 ns i + 11) % 2147483647)))) r = some (.lst [.ref sa, .int (i + 1), .int ((m * 48271 + at0 ns i + 11) % 2147483647), .int x]) := upd_same
      generalize upd H2 r (.lst ([V.ref sa, .int (i + 1), .int m, .int x].set 2 (.int ((m * 48271 + at0 ns i + 11) % 2147483647)))) = H3 at k3 h13 ⊢
      have fin : ∀ (H4 : Hp) (y : Int), Kp [r] H H4 → H4 r = some (.lst [.ref sa, .int (i + 1), .int ((m * 48271 + at0 ns i + 11) % 2147483647), .int y]) → Q (.int (at0 ns i % n)) H4 := fun H4 y k4 h14 =>
        q _ _ k4 ⟨ns, i + 1, _, y, h14, by omega, h3.kp1 k4⟩ (Int.emod_nonneg _ (by omega)) (Int.emod_lt_of_pos _ (by omega))
      refine ⟨_, rfl, _, _, rfl, rfl, ⟨by decide, by decide, by decide⟩, _, _, rfl, rfl, _, rfl, ?_⟩
      refine ite2 (fun z3 => ?_) (fun z3 => ?_)
      · refine ⟨_, rfl, _, rfl, _, _, rfl, rfl, ⟨by omega, by omega⟩, ?_⟩
        refine ⟨_, rfl, r, _, _, 3, rfl, rfl, h13, rfl, ?_⟩
        refine ⟨_, rfl, .inl ⟨_, rfl, _, rfl, _, _, rfl, rfl, (by show (0 : Int) < n; omega), ?_⟩⟩
        exact fin _ (at0 ns i / n) (k3.put rin) upd_same
      · refine ⟨_, rfl, .inl ⟨_, rfl, _, rfl, _, _, rfl, rfl, (by show (0 : Int) < n; omega), ?_⟩⟩
        exact fin _ x k3 h13
end
end M57
/-! The law's helpers, part b: a plate, a run; replay. -/
namespace M57
open PySem PySem.Spec PyProof.Rows L2 RZ
theorem RowAt.lst {K : PySem.W.Frag} {H : Hp} {r sa : Addr} (h : RowAt K H r sa) : ∃ xs, H r = some (.lst xs) := by
  obtain ⟨ns, i, m, x, h1, _⟩ := h
  exact ⟨_, h1⟩
theorem RowAt.st {K : PySem.W.Frag} {H H' : Hp} {r sa : Addr} (h : RowAt K H r sa) (k : Kp [r] H H') : ST H H' := fun b xs e => k b _ (fun z => by
  obtain ⟨ys, e2⟩ := h.lst
  rw [List.mem_singleton.mp z, e2] at e
  cases e) e
theorem RowAt.pl {K : PySem.W.Frag} {H H' : Hp} {r sa C a : Addr} {p : Pl} (h : RowAt K H r sa) (k : Kp [r] H H') (hp : PlateAt C H a p) : PlateAt C H' a p := by
  obtain ⟨ys, e2⟩ := h.lst
  refine hp.kp (h.st k) k (fun z => ?_) (fun b hb e => ?_)
  · obtain ⟨_, _, _, h1, _⟩ := hp.ex
    rw [List.mem_singleton.mp z, e2] at h1
    have z' : HO.lst _ = HO.ext _ := Option.some.inj h1
    cases z'
  · rw [List.mem_singleton.mp hb, e2] at e
    cases e
section
variable {P : Program} {w : World} {K : PySem.W.Frag} {mg : Str → Option Value} {base : Heap}
def spLPlate (K : PySem.W.Frag) (CP : Addr) : Sp := fun vs H Q _ => ∃ r sa, vs = [.ref r, .bl false] ∧ RowAt K H r sa ∧ ∀ H' a p, Kp [r] H H' → RowAt K H' r sa → PlateAt CP H' a p → p.Ok → Q (.ref a) H'
theorem scLPlate : FnScope ["_law_row", "_law_is_still", "_law_fall", "_law_width", "_law_height"] ["_law_row", "_law_is_still"] (defScope (topS 52)) := ⟨rfl, rfl, rfl, by decide +kernel, rfl, by decide +kernel, by decide +kernel⟩
theorem ok_lPlate (T : Txt K w mg) : FnOk P w K mg base CX0 4 T.lPlate.f T.lPlate.fd ["_law_row", "_law_is_still"] (spLPlate K T.cP) := by
  refine T.lPlate.fn.ok scLPlate (fun vs H Q E h => ?_) fun cdv A outer s H vs Q E hr h => ?_
  · obtain ⟨_, _, rfl, _⟩ := h
    rfl
  obtain ⟨r, sa, rfl, hrow, q⟩ := h
  have tk := @ok_taken P w K mg base T
  have hr1 := hr.mono (by decide : 1 ≤ 3)
  refine ⟨_, pss_cons (sv 2 scLPlate.nd (pe_ix ix_list (pe_lst (pa_cons pe_non (pa_cons pe_non (pa_cons pe_int (pa_cons pe_int pa_nil))))) (dcall T.lTaken tk hr1 (pa_cons (pv 0) (pa_cons pe_int pa_nil))) (fun _ _ => rfl)))
    (pss_cons (sv 3 scLPlate.nd (pe_op op_add pe_int (dcall T.lTaken tk hr1 (pa_cons (pv 0) (pa_cons pe_int pa_nil)))))
    (pss_cons (sv 4 scLPlate.nd (pe_op op_add pe_int (dcall T.lTaken tk hr1 (pa_cons (pv 0) (pa_cons (pe_op op_add pe_int (pe_callTy (call_int1) (by rfl) T.int_ (by decide +kernel) (pa_cons (pe_cmpR op_eq (pv 3) pe_int (nomark _)) pa_nil))) pa_nil)))))
    (pss_one (ps_ret (pe_make T.mP.mk_ (ok_plInit T) hr (by rfl) T.mP.gl T.mP.b .nil pass0 (pa_cons (pv 3) (pa_cons (pv 4) (pa_cons (pe_op op_add pe_int (dcall T.lTaken tk hr1 (pa_cons (pv 0) (pa_cons pe_int pa_nil)))) (pa_cons (pe_ifExp (pt_val (pv 1)) pe_non (pv 2)) pa_nil))))))))), ?_⟩
  refine ⟨by show 4 ≤ sizeLine; decide, fun L nL => ?_⟩
  have s1 := same_new (o := .lst [.non, .non, .int 1, .int 2]) (Same.refl H) nL
  have hL : upd H L (.lst [.non, .non, .int 1, .int 2]) L = some (.lst [.non, .non, .int 1, .int 2]) := upd_same
  generalize upd H L (.lst [.non, .non, .int 1, .int 2]) = H1 at s1 hL ⊢
  have row1 := hrow.same s1
  have Lr : L ≠ r := fun z => by
    obtain ⟨xs, e⟩ := hrow.lst
    rw [← z, nL] at e
    cases e
  refine ⟨_, rfl, r, 4, sa, rfl, row1, by decide, by decide, fun H2 t k2 row2 t0 t4 => ?_⟩
  have hL2 := k2 _ _ (by simpa using Lr) hL
  obtain ⟨fl, efl, ffl⟩ : ∃ fl : Option Int, atI [V.non, .non, .int 1, .int 2] t = some (optV fl) ∧ ∀ f, fl = some f → 1 ≤ f ∧ f ≤ 9 := by
    have ht : t = 0 ∨ t = 1 ∨ t = 2 ∨ t = 3 := by omega
    rcases ht with rfl | rfl | rfl | rfl
    · exact ⟨none, (atI_nat rfl : atI _ ((0 : Nat) : Int) = some _), fun f e => by cases e⟩
    · exact ⟨none, (atI_nat rfl : atI _ ((1 : Nat) : Int) = some _), fun f e => by cases e⟩
    · exact ⟨some 1, (atI_nat rfl : atI _ ((2 : Nat) : Int) = some _), fun f e => by cases e; omega⟩
    · exact ⟨some 2, (atI_nat rfl : atI _ ((3 : Nat) : Int) = some _), fun f e => by cases e; omega⟩
  refine ⟨L, _, _, _, rfl, rfl, .inl (.inl hL2), efl, ?_⟩
  refine ⟨_, rfl, r, 3, sa, rfl, row2, by decide, by decide, fun H3 t2 k3 row3 b0 b1 => ?_⟩
  refine ⟨_, _, rfl, rfl, ?_⟩
  refine ⟨_, rfl, _, rfl, rfl, .inr ⟨_, rfl, ?_⟩⟩
  obtain ⟨c0, hc0, hc1⟩ : ∃ c0 : Int, (if decide (V.int (1 + t2) = V.int 3) = true then (1 : Int) else 0) = c0 ∧ ((c0 = 0) ∨ (c0 = 1 ∧ t2 = 2)) := by
    refine ⟨_, rfl, ?_⟩
    by_cases h : (1 + t2) = 3
    · exact .inr ⟨by rw [h]; rfl, by omega⟩
    · refine .inl ?_
      rw [if_neg]
      intro z
      exact h (V.int.inj (of_decide_eq_true z))
  rw [hc0]
  refine ⟨_, _, rfl, rfl, ?_⟩
  refine ⟨r, 2 + c0, sa, rfl, row3, by omega, by omega, fun H4 t3 k4 row4 d0 d1 => ?_⟩
  refine ⟨_, _, rfl, rfl, ?_⟩
  refine ⟨_, rfl, _, rfl, _, rfl, r, 5, sa, rfl, row4, by decide, by decide, fun H5 t4' k5 row5 e0 e1 => ?_⟩
  refine ⟨_, _, rfl, rfl, ?_⟩
  refine ⟨_, rfl, _, rfl, iteF ?_⟩
  refine ⟨_, rfl, fun x dx nx ndx nex => ?_⟩
  have pok : Pl.Ok ⟨1 + t2, 1 + t3, 2 + t4', fl⟩ := by
    refine ⟨by show 1 ≤ 1 + t2; omega, by show 1 + t2 ≤ 4; omega, by show 1 ≤ 1 + t3; omega, by show 1 + t3 ≤ 4; omega, ?_, by show 1 ≤ 2 + t4'; omega, by show 2 + t4' ≤ 9; omega, ffl⟩
    show (1 + t2) * (1 + t3) ≤ 9
    have h3 : 1 + t2 ≤ 3 := by omega
    have h4 : 1 + t3 ≤ 3 := by omega
    have := Int.mul_le_mul h3 h4 (by omega) (by omega)
    omega
  have kk : Kp [r] H H5 := (((Kp.of s1).trans k2).trans k3).trans (k4.trans k5)
  refine ⟨x, dx, ⟨1 + t2, 1 + t3, 2 + t4', fl⟩, rfl, upd_same, by rw [upd_ne nex, upd_same], pok, fun H6 hp6 hk => ⟨rfl, ?_⟩⟩
  have s6 : Same H5 H6 := made_same nx ndx hk
  exact q H6 x _ (kk.trans (Kp.of s6)) (row5.same s6) hp6 pok
/-! ### _law_run -/
def RunPost0 (Q : VK) (H : Hp) : Except Nat (List Int × List Int) → Prop
  | .ok q => ∀ H' t d c, Same H H' → H' t = some (.tup [.ref d, .ref c]) → TupI H' d q.1 → TupI H' c q.2 → Q (.ref t) H'
  | .error i => ∀ H', Same H H' → Q (.int (i : Int)) H'
def spLRun (CP : Addr) : Sp := fun vs H Q _ => ∃ a d r p ds ss, vs = [.ref a, .ref d, .ref r] ∧ PlateAt CP H a p ∧ p.Ok ∧ TupI H d ds ∧ OkD p ds ∧ RecAt H r p ss ∧ RunPost0 Q H (runFrom p ss 0 ds [])
theorem scLRun : FnScope ["_law_plate_here", "_law_depths_here", "_law_recipe_here", "e"] ["_law_plate_here", "_law_depths_here", "_law_recipe_here"] (defScope (topS 55)) := ⟨rfl, rfl, rfl, by decide +kernel, rfl, by decide +kernel, by decide +kernel⟩
theorem ok_lRun (T : Txt K w mg) : FnOk P w K mg base CX0 10 T.lRun.f T.lRun.fd ["_law_plate_here", "_law_depths_here", "_law_recipe_here"] (spLRun T.cP) := by
  refine T.lRun.fn.ok scLRun (fun vs H Q E h => ?_) fun cdv A outer s H vs Q E hr h => ?_
  · obtain ⟨_, _, _, _, _, _, rfl, _⟩ := h
    rfl
  obtain ⟨a, d, r, p, ds, ss, rfl, hp, k, hd, okd, hre, q⟩ := h
  refine ⟨_, pss_one (ps_try_as (i := 3) (tb := fun W => tRet (tCallS (spRun T.cP T.cX) (WE W) (tCons (tVar 0) (tCons (tVar 1) (tCons (tVar 2) tNil))))) (ts := fun a cls d => tRet (tXf a cls d T.cX "index" (tVar 3))) (Wout := fun _ _ _ _ => False) rfl rfl scLRun.nd rfl rfl ⟨rfl, by decide, .inl T.gX⟩ takes0
      (fun W pn xe tk _ => pss_one (ps_ret (pe_callS (ok_bitten T) hr rfl T.bitten.gl T.bitten.fn.kp T.bitten.b (fun σ => passAt tk σ) (pa_cons (pv 0) (pa_cons (pv 1) (pa_cons (pv 2) pa_nil))))))
      (fun a oe cls d pn hz hf => pss_one (ps_ret (pe_xf T.xfX T.noX hz hf (pv 3))))), ?_⟩
  refine ⟨_, rfl, _, rfl, _, rfl, a, d, r, p, ds, ss, rfl, hp, k, hd, okd, hre, ?_⟩
  cases er : runFrom p ss 0 ds [] with
  | ok z =>
    rw [er] at q
    exact q
  | error i =>
    rw [er] at q
    intro H' dd s' nd hdd
    refine ⟨true, T.exX, fun _ ea hea => ?_, fun z => nomatch z⟩
    refine ⟨_, rfl, rfl, rfl, dd, _, _, rfl, hdd, ?_, q H' s'⟩
    rfl
end
end M57
/-! replay; the law's helpers, part c: a recipe. -/
namespace M57
open PySem PySem.Spec PyProof.Rows L2 RZ
section
variable {P : Program} {w : World} {K : PySem.W.Frag} {mg : Str → Option Value} {base : Heap}
def spReplay (CP CW CS : Addr) : Sp := fun vs H Q _ => ∃ a d l p ds os ops g, vs = [.ref CW, .ref a, .ref d, .ref l] ∧ PlateAt CP H a p ∧ p.Ok ∧ TupI H d ds ∧ OkD p ds ∧ H l = some (.lst (os.map V.ref)) ∧ OpsAt H os ops ∧ (∀ s, some s ∈ ops → OkS p s) ∧ ops.length ≤ 20 ∧
  opRun p ops ⟨ds, [], [], 0⟩ [] = some g ∧ ∀ H' wk st, Same H H' → H wk = none → H st = none → WkAt CW CS H' wk a st g.1 g.2 0 → Q (.ref wk) H'
theorem scReplay : FnScope ["cls", "plate", "depths", "operations", "work"] ["cls", "plate", "depths", "operations"] (defScope (inClass (topS 48) 1)) := ⟨rfl, rfl, rfl, by decide +kernel, rfl, by decide +kernel, by decide +kernel⟩
theorem ok_replay (T : Txt K w mg) : FnOk P w K mg base (L2.CX P w) 12 T.wReplayF T.wReplayD ["cls", "plate", "depths", "operations"] (spReplay T.cP T.cW T.cS) := by
  refine T.wReplay.okX scReplay (fun vs H Q E h => ?_) fun cdv A outer s H vs Q E hr h => ?_
  · obtain ⟨_, _, _, _, _, _, _, _, rfl, _⟩ := h
    rfl
  obtain ⟨a, d, l, p, ds, os, ops, g, rfl, hp, k, hd, okd, hl, hos, oks, few, er, q⟩ := h
  refine ⟨_, pss_cons (sv 4 scReplay.nd (pe_makeL (i := 0) (CX := CX0) (E := E0) T.mW.mk_ (ok_wkInit T) (hr.mono (by decide)) rfl (.inl rfl) T.mW.b pass0 (pa_cons (pv 1) (pa_cons (pv 2) pa_nil))))
    (pss_cons (ps_expr (pe_meth (pv 4) T.clW T.wApply.me (ok_apply T) hr T.wApply.b .nil (passes_call (takes_of rfl rfl rfl rfl) (fun _ _ _ _ h => h)) (pa_cons (pv 3) pa_nil)))
    (pss_one (ps_ret (pv 4)))), ?_⟩
  refine ⟨rfl, _, rfl, _, rfl, fun x dx nx ndx nex => ?_⟩
  have s0 : Same H (upd (upd H dx (.own x)) x (.ins T.cW dx [])) := same_add (same_add (Same.refl _) ndx) nx
  refine ⟨x, dx, a, d, p, ds, rfl, upd_same, hp.same s0, k, s0 _ _ hd, okd, fun H1 st k1 nst hwk => ⟨rfl, ?_⟩⟩
  have s1 : Same H H1 := Kp.same s0 k1 fun b hb => by
    rw [List.mem_singleton.mp hb]
    exact nx
  have nst0 : H st = none := s0.free nst
  obtain ⟨dw, hw⟩ := hwk.w
  refine ⟨_, rfl, x, dw, _, rfl, hw, wkF_no (by decide +kernel) (by decide +kernel), _, rfl, x, a, st, l, os, ops, _, [], 0, p, rfl, ⟨s1 _ _ hl, ⟨hos.len, fun i o e => let ⟨y, e1, e2⟩ := hos.at_ i o e; ⟨y, e1, e2.same s1⟩⟩, hwk, hp.same s1, k, okd, .nil, oks, by show 0 + ops.length ≤ 100; omega, by show 0 + ops.length ≤ 100; omega⟩, ?_⟩
  rw [er]
  intro H2 r xs m' k2 hr2 nr hxl hm hwk2 hres
  refine ⟨_, rfl, ?_⟩
  have em : m' = 0 := by omega
  rw [em] at hwk2
  refine q H2 x st (Kp.same s1 k2 fun b hb => ?_) nx nst0 hwk2
  rcases List.mem_cons.mp hb with z | z
  · rw [z]
    exact nst0
  · rw [List.mem_singleton.mp z]
    exact nx
/-! ### _law_recipe -/
theorem StepsAt.st {H H' : Hp} {as : List Addr} {ss : List Stp} (h : StepsAt H as ss) (e : ST H H') : StepsAt H' as ss :=
  ⟨h.len, fun i a q => let ⟨s, h1, h2⟩ := h.at_ i a q; ⟨s, h1, h2.st e⟩⟩
theorem StepsAt.add {H : Hp} {as : List Addr} {ss : List Stp} {a : Addr} {s : Stp} (h : StepsAt H as ss) (e : StepAt H a s) : StepsAt H (as ++ [a]) (ss ++ [s]) := by
  refine ⟨by simp [h.len], fun i c q => ?_⟩
  have hl := h.len
  by_cases hi : i < as.length
  · rw [List.getElem?_append_left hi] at q
    rw [List.getElem?_append_left (by omega)]
    exact h.at_ i c q
  · rw [List.getElem?_append_right (by omega)] at q
    have hi2 : i - as.length = 0 := by
      have := (List.getElem?_eq_some_iff.mp q).1
      simp at this
      omega
    rw [List.getElem?_append_right (by omega), show i - ss.length = 0 by omega]
    rw [hi2] at q
    cases q
    exact ⟨s, rfl, e⟩
theorem else_rd {σ : L2.St} {H7 : Hp} {F : Addr} {pick cell : Int} {xs : List V} {p : Pl} {Dn : Ends} (h2 : σ[2]? = some (some (.ref F))) (h4 : σ[4]? = some (some (.int pick))) (h5 : σ[5]? = some (some (.int cell))) (hF : H7 F = some (.lst xs)) (hl : xs.length < sizeLine) (b2 : 2 ≤ pick) (b6 : pick < 6)
    (e0 : 0 ≤ cell) (e1 : cell < (p.n : Int)) (n1 : 1 ≤ p.n) (hD : ∀ (H8 : Hp) (v : Addr) (stp : Stp), Same H7 H8 → StepAt H8 v stp → OkS p stp → Dn.nx σ (upd H8 F (.lst (xs ++ [.ref v])))) :
    tDrop (tBM K "list" rAppend (tVar 2) (tCons (tOp (rIxL K) (tLst (tCons (tTup (tCons (tC (.str "wash")) tNil)) (tCons (tTup (tCons (tC (.str "scrape")) (tCons (tVar 5) tNil))) (tCons (tTup (tCons (tC (.str "burnish")) (tCons (tVar 5) tNil))) (tCons (tTup (tCons (tC (.str "cover")) (tCons (tTup (tCons (tVar 5) tNil)) tNil))) tNil))))) (tOp (rI0 fun i j => .int (i - j)) (tVar 4) (tC (.int 2)))) tNil)) Dn σ H7 := by
  refine ⟨_, h2, .inl ⟨rfl, _, .inl (.inl hF)⟩, by show 1 ≤ sizeLine; decide, fun t1 m1 => ?_⟩
  have s1 := same_new (o := .tup [.str "wash"]) (Same.refl H7) m1
  have g1 : upd H7 t1 (.tup [.str "wash"]) t1 = some (.tup [.str "wash"]) := upd_same
  generalize upd H7 t1 (.tup [.str "wash"]) = H1 at s1 g1 ⊢
  refine ⟨_, h5, by show 2 ≤ sizeLine; decide, fun t2 m2 => ?_⟩
  have s2 := same_new (o := .tup [.str "scrape", .int cell]) (Same.refl H1) m2
  have g2 : upd H1 t2 (.tup [.str "scrape", .int cell]) t2 = some (.tup [.str "scrape", .int cell]) := upd_same
  generalize upd H1 t2 (.tup [.str "scrape", .int cell]) = H2 at s2 g2 ⊢
  refine ⟨_, h5, by show 2 ≤ sizeLine; decide, fun t3 m3 => ?_⟩
  have s3 := same_new (o := .tup [.str "burnish", .int cell]) (Same.refl H2) m3
  have g3 : upd H2 t3 (.tup [.str "burnish", .int cell]) t3 = some (.tup [.str "burnish", .int cell]) := upd_same
  generalize upd H2 t3 (.tup [.str "burnish", .int cell]) = H3 at s3 g3 ⊢
  refine ⟨_, h5, by show 1 ≤ sizeLine; decide, fun t4 m4 => ?_⟩
  have s4 := same_new (o := .tup [.int cell]) (Same.refl H3) m4
  have g4 : TupI (upd H3 t4 (.tup [.int cell])) t4 [cell] := upd_same
  generalize upd H3 t4 (.tup [.int cell]) = H4 at s4 g4 ⊢
  refine ⟨by show 2 ≤ sizeLine; decide, fun t5 m5 => ?_⟩
  have s5 := same_new (o := .tup [.str "cover", .ref t4]) (Same.refl H4) m5
  have g5 : upd H4 t5 (.tup [.str "cover", .ref t4]) t5 = some (.tup [.str "cover", .ref t4]) := upd_same
  generalize upd H4 t5 (.tup [.str "cover", .ref t4]) = H5 at s5 g5 ⊢
  refine ⟨by show 4 ≤ sizeLine; decide, fun L mL => ?_⟩
  have s6 := same_new (o := .lst [.ref t1, .ref t2, .ref t3, .ref t5]) (Same.refl H5) mL
  have gL : upd H5 L (.lst [.ref t1, .ref t2, .ref t3, .ref t5]) L = some (.lst [.ref t1, .ref t2, .ref t3, .ref t5]) := upd_same
  generalize upd H5 L (.lst [.ref t1, .ref t2, .ref t3, .ref t5]) = H6 at s6 gL ⊢
  have all := ((s1.trans s2).trans (s3.trans s4)).trans (s5.trans s6)
  obtain ⟨v, stp, hv, hst, hok⟩ : ∃ v stp, atI [V.ref t1, .ref t2, .ref t3, .ref t5] (pick - 2) = some (.ref v) ∧ StepAt H6 v stp ∧ OkS p stp := by
    have hp : pick = 2 ∨ pick = 3 ∨ pick = 4 ∨ pick = 5 := by omega
    rcases hp with rfl | rfl | rfl | rfl
    · exact ⟨t1, .wash, (atI_nat rfl : atI _ ((0 : Nat) : Int) = some _), ⟨_, ((s2.trans (s3.trans s4)).trans (s5.trans s6)) _ _ g1, rfl⟩, True.intro⟩
    · exact ⟨t2, .scrape cell, (atI_nat rfl : atI _ ((1 : Nat) : Int) = some _), ⟨_, ((s3.trans s4).trans (s5.trans s6)) _ _ g2, rfl⟩, ⟨e0, e1⟩⟩
    · exact ⟨t3, .burnish cell, (atI_nat rfl : atI _ ((2 : Nat) : Int) = some _), ⟨_, (s4.trans (s5.trans s6)) _ _ g3, rfl⟩, ⟨e0, e1⟩⟩
    · exact ⟨t5, .cover [cell], (atI_nat rfl : atI _ ((3 : Nat) : Int) = some _), ⟨_, s6 _ _ g5, t4, rfl, (s5.trans s6) _ _ g4⟩, ⟨by simp, List.pairwise_singleton _ _, fun c hc => by rw [List.mem_singleton.mp hc]; exact ⟨e0, e1⟩⟩⟩
  refine ⟨_, h4, _, _, rfl, rfl, L, _, _, _, rfl, rfl, .inl (.inl gL), hv, ?_⟩
  exact ⟨F, xs, _, rfl, rfl, all _ _ hF, hl, hD H6 v stp all hst hok⟩
def spLRecipe (K : PySem.W.Frag) (CP : Addr) : Sp := fun vs H Q _ => ∃ r sa a p, vs = [.ref r, .ref a] ∧ RowAt K H r sa ∧ PlateAt CP H a p ∧ p.Ok ∧ ∀ H' t ss, Kp [r] H H' → RowAt K H' r sa → RecAt H' t p ss → Q (.ref t) H'
theorem scLRecipe : FnScope ["_law_row", "_law_plate_here", "_law_found", "_law_k", "_law_pick", "_law_cell", "_law_some", "_law_one"] ["_law_row", "_law_plate_here"] (defScope (topS 54)) := ⟨rfl, rfl, rfl, by decide +kernel, rfl, by decide +kernel, by decide +kernel⟩
theorem ok_lRecipe (T : Txt K w mg) : FnOk P w K mg base CX0 4 T.lRecipe.f T.lRecipe.fd ["_law_row", "_law_plate_here"] (spLRecipe K T.cP) := by
  refine T.lRecipe.fn.ok scLRecipe (fun vs H Q E h => ?_) fun cdv A outer s H vs Q E hr h => ?_
  · obtain ⟨_, _, _, _, rfl, _⟩ := h
    rfl
  obtain ⟨r, sa, a, p, rfl, hrow, hp, k, q⟩ := h
  have tk := @ok_taken P w K mg base T
  have hr1 := hr.mono (by decide : 1 ≤ 3)
  have hr2 := hr.mono (by decide : 2 ≤ 3)
  have hu := hr.units
  have nd := scLRecipe.nd
  refine ⟨_, pss_cons (sv 2 scLRecipe.nd (pe_lst pa_nil))
    (pss_cons (ps_for PassesOwn.never rfl (pi_range1 (by rfl) T.range_ (pa_cons (dcall T.lTaken tk hr1 (pa_cons (pv 0) (pa_cons pe_int pa_nil))) pa_nil)) (gn 3 scLRecipe.nd)
      (pss_cons (ps_par (i := 4) (j := 5) (by rfl) scLRecipe.nd rfl rfl (by decide) rfl rfl (pa_cons (dcall T.lTaken tk hr1 (pa_cons (pv 0) (pa_cons pe_int pa_nil))) (pa_cons (dcall T.lTaken tk hr1 (pa_cons (pv 0) (pa_cons (pe_lenP T.len T.lenP (ok_len T) hr2 (pv 1)) pa_nil))) pa_nil)) (by rfl))
      (pss_cons (sv 6 scLRecipe.nd (pe_callTy call_tuple_of (by rfl) T.tuple_ (by decide +kernel) (pa_cons
          (pe_lc (own := [("_law_one", 7)]) (g := gName 7) rfl scLRecipe.nd (pi_range1 (by rfl) T.range_ (pa_cons (pe_lenP T.len T.lenP (ok_len T) hr2 (pv 1)) pa_nil)) (blkOk_by (N := ["_law_row", "_law_plate_here", "_law_found", "_law_k", "_law_pick", "_law_cell", "_law_some", "_law_one"]) (sc := defScope (topS 54)) (by decide +kernel))
            (fun _ _ _ _ _ => gn 7 scLRecipe.nd) (fun _ _ _ _ _ => pts_one (pt_cmpR op_eq (dcall T.lTaken tk hr1 (pa_cons (pv 0) (pa_cons pe_int pa_nil))) pe_int (nomark _))) (fun _ _ _ _ _ => pv 7)) pa_nil)))
      (pss_one (ps_if (pt_cmpR op_lt (pv 4) pe_int (nomark _))
        (pss_one (ps_expr (pe_bm PySem.F.plainAttrs_list PySem.F.slot_list_append PySem.F.type_list_append mt_append (pv 2) (pa_cons (pe_tup (pa_cons pe_str (pa_cons (pe_op op_add pe_int (dcall T.lTaken tk hr1 (pa_cons (pv 0) (pa_cons pe_int pa_nil)))) pa_nil))) pa_nil))))
        (pss_one (ps_if (PW.pt (pw_and (pt_cmpR op_eq (pv 4) pe_int (nomark _)) (pw_and1 (pt_cmpR (op_neD hu) (pv 6) (pe_tup pa_nil) (nomark _)))))
          (pss_one (ps_expr (pe_bm PySem.F.plainAttrs_list PySem.F.slot_list_append PySem.F.type_list_append mt_append (pv 2) (pa_cons (pe_tup (pa_cons pe_str (pa_cons (pv 6) pa_nil))) pa_nil))))
          (pss_one (ps_expr (pe_bm PySem.F.plainAttrs_list PySem.F.slot_list_append PySem.F.type_list_append mt_append (pv 2) (pa_cons (pe_ix ix_list (pe_lst (pa_cons (pe_tup (pa_cons pe_str pa_nil)) (pa_cons (pe_tup (pa_cons pe_str (pa_cons (pv 5) pa_nil))) (pa_cons (pe_tup (pa_cons pe_str (pa_cons (pv 5) pa_nil))) (pa_cons (pe_tup (pa_cons pe_str (pa_cons (pe_tup (pa_cons (pv 5) pa_nil)) pa_nil))) pa_nil))))) (pe_op op_sub (pv 4) pe_int) (fun _ _ => rfl)) pa_nil)))))))))))
    (pss_one (ps_ret (pe_callTy call_tuple_of (by rfl) T.tuple_ (by decide +kernel) (pa_cons (pv 2) pa_nil))))), ?_⟩
  have n9 := k.n9
  have n1 := k.n1
  refine ⟨Nat.zero_le _, fun F nF => ?_⟩
  have sF := same_new (o := .lst []) (Same.refl H) nF
  have hF : upd H F (.lst []) F = some (.lst []) := upd_same
  have rowF := hrow.same sF
  generalize upd H F (.lst []) = H0 at sF hF rowF ⊢
  have Fr : F ≠ r := fun z => by
    obtain ⟨xs, e⟩ := hrow.lst
    rw [z, e] at nF
    cases nF
  refine ⟨_, rfl, r, 7, sa, rfl, rowF, by decide, by decide, fun H1 cnt k1 row1 c0 c7 => ⟨cnt, rfl, by omega, by omega, ?_⟩⟩
  refine for_range (lo := 0) (n := cnt.toNat) (fun i σ Hc => (∃ b c d e g, σ = [some (.ref r), some (.ref a), some (.ref F), b, c, d, e, g]) ∧ Kp [r] H Hc ∧ RowAt K Hc r sa ∧ ∃ as ss, Hc F = some (.lst (as.map V.ref)) ∧ StepsAt Hc as ss ∧ (∀ s ∈ ss, OkS p s) ∧ ss.length = i)
    ⟨⟨none, none, none, none, none, rfl⟩, (Kp.of sF).trans k1, row1, [], [], k1 _ _ (by simpa using Fr) hF, ⟨rfl, fun i a e => by simp at e⟩, fun s hs => by simp at hs, rfl⟩ ?_ ?_
  · rintro i σ Hc hi ⟨⟨b, c, d, e, g, rfl⟩, kc, rowc, as, ss, hFc, hss, okss, hsl⟩
    have hpc := hrow.pl kc hp
    refine ⟨_, rfl, r, 6, sa, rfl, rowc, by decide, by decide, fun H2 pick k2 row2 p0 p6 => ?_⟩
    have hp2 := rowc.pl k2 hpc
    refine ⟨_, rfl, tLenP rfl hp2 k ⟨r, (p.n : Int), sa, rfl, row2, by omega, by omega, fun H3 cell k3 row3 e0 e1 => ⟨_, _, rfl, ?_⟩⟩⟩
    have hp3 := row2.pl k3 hp2
    have k03 := kc.trans (k2.trans k3)
    have st03 : ST Hc H3 := rowc.st (k2.trans k3)
    have hF3 := (k2.trans k3) _ _ (by simpa using Fr) hFc
    have hss3 := hss.st st03
    have Dne : ∀ {H5 : Hp} {xs : List V}, H5 F = some (.lst xs) → ∀ {v : Addr} {ys : List V}, H5 v = some (.tup ys) → v ≠ F := by
      intro H5 xs e v ys e2 z
      rw [z, e] at e2
      cases e2
    -- behind the append
    have fin : ∀ {H5 : Hp} {v : Addr} {stp : Stp} {σ' : L2.St}, (∃ b c d e g, σ' = [some (.ref r), some (.ref a), some (.ref F), b, c, d, e, g]) → Kp [r] H H5 → RowAt K H5 r sa → H5 F = some (.lst (as.map V.ref)) → ST Hc H5 → StepAt H5 v stp → OkS p stp →
        (∃ b c d e g, σ' = [some (.ref r), some (.ref a), some (.ref F), b, c, d, e, g]) ∧ Kp [r] H (upd H5 F (.lst (as.map V.ref ++ [.ref v]))) ∧ RowAt K (upd H5 F (.lst (as.map V.ref ++ [.ref v]))) r sa ∧
          ∃ as2 ss2, upd H5 F (.lst (as.map V.ref ++ [.ref v])) F = some (.lst (as2.map V.ref)) ∧ StepsAt (upd H5 F (.lst (as.map V.ref ++ [.ref v]))) as2 ss2 ∧ (∀ s ∈ ss2, OkS p s) ∧ ss2.length = i + 1 := by
      intro H5 v stp σ' hσ k5 row5 hF5 t5 hv okv
      have t6 : ST H5 (upd H5 F (.lst (as.map V.ref ++ [.ref v]))) := fun b xs e => by
        rw [upd_ne (Dne hF5 e)]
        exact e
      refine ⟨hσ, k5.add nF, hrow.put nF row5, as ++ [v], ss ++ [stp], by rw [upd_same, List.map_append]; rfl, ((hss.st t5).st t6).add (hv.st t6), fun s hs => ?_, by simp [hsl]⟩
      rcases List.mem_append.mp hs with h | h
      · exact okss s h
      · rw [List.mem_singleton.mp h]
        exact okv
    have hasl : (as.map V.ref).length < sizeLine := by
      rw [List.length_map, hss.len, hsl]
      exact small16 (by omega)
    refine tLenP rfl hp3 k ⟨_, rfl, by omega, by omega, fun D nD => ?_⟩
    have Dr : D ≠ r := fun z => by
      obtain ⟨xs, e⟩ := row3.lst
      rw [z, e] at nD
      cases nD
    have DF : D ≠ F := fun z => by
      rw [z, hF3] at nD
      cases nD
    refine lc_range (lo := 0) (n := (p.n : Int).toNat) (fun j Hd => Kp [r] H3 Hd ∧ RowAt K Hd r sa ∧ ∃ cs, Hd D = some (.lst (intsV cs)) ∧ cs.Pairwise (· < ·) ∧ (∀ c ∈ cs, 0 ≤ c ∧ c < (j : Int)) ∧ cs.length ≤ j)
      ⟨(Kp.refl _ _).add nD, row3.put nD row3, [], upd_same, .nil, fun c hc => by simp at hc, Nat.le_refl _⟩ ?_ ?_
    · rintro j Hd hj ⟨kd, rowd, cs, hDd, pw, bd, ln⟩
      rw [Int.zero_add]
      refine ⟨rfl, ?_⟩
      refine ⟨_, rfl, r, 2, sa, rfl, rowd, by decide, by decide, fun H5 t k5 row5 t0 t2 => ⟨rfl, _, rfl, ?_⟩⟩
      have hD5 := k5 _ _ (by simpa using Dr) hDd
      refine ite2 (fun z => ?_) (fun z => ?_)
      · refine ⟨_, rfl, intsV cs, hD5, by rw [intsV_len]; exact small16 (by omega), (kd.trans k5).add nD, row3.put nD row5, cs ++ [(j : Int)], ?_, ?_, fun c hc => ?_, by simp; omega⟩
        · rw [upd_same]
          simp [intsV]
        · refine List.pairwise_append.mpr ⟨pw, List.pairwise_singleton _ _, fun c hc y hy => ?_⟩
          rw [List.mem_singleton.mp hy]
          exact (bd c hc).2
        · rcases List.mem_append.mp hc with h | h
          · have := bd c h
            exact ⟨this.1, by omega⟩
          · rw [List.mem_singleton.mp h]
            exact ⟨by omega, by omega⟩
      · exact ⟨kd.trans k5, row5, cs, hD5, pw, fun c hc => ⟨(bd c hc).1, by have := (bd c hc).2; omega⟩, by omega⟩
    · rintro Hd ⟨kd, rowd, cs, hDd, pw, bd, ln⟩
      have okcs : OkC p cs := ⟨pw, fun c hc => ⟨(bd c hc).1, by have := (bd c hc).2; omega⟩⟩
      refine ⟨D, _, rfl, .inl ⟨.inl (.inl hDd), fun sm nsm => ?_⟩⟩
      have s6 := same_new (o := .tup (intsV cs)) (Same.refl Hd) nsm
      have hsm : TupI (upd Hd sm (.tup (intsV cs))) sm cs := upd_same
      generalize upd Hd sm (.tup (intsV cs)) = H6 at s6 hsm ⊢
      have k06 : Kp [r] H H6 := (k03.trans kd).trans (Kp.of s6)
      have row6 := rowd.same s6
      have t06 : ST Hc H6 := st03.trans ((row3.st kd).trans (ST.of s6))
      have hF6 : H6 F = some (.lst (as.map V.ref)) := s6 _ _ (kd _ _ (by simpa using Fr) hF3)
      refine ⟨_, rfl, _, _, rfl, rfl, _, rfl, ?_⟩
      refine ite2 (fun z => ?_) (fun z => ?_)
      · refine ⟨_, rfl, .inl ⟨rfl, _, .inl (.inl hF6)⟩, _, rfl, r, 9, sa, rfl, row6, by decide, by decide, fun H7 t k7 row7 t0 t9 => ?_⟩
        refine ⟨_, _, rfl, rfl, by show 2 ≤ sizeLine; decide, fun v nv => ?_⟩
        have s8 := same_new (o := .tup [.str "bath", .int (1 + t)]) (Same.refl H7) nv
        have hv : upd H7 v (.tup [.str "bath", .int (1 + t)]) v = some (.tup [.str "bath", .int (1 + t)]) := upd_same
        generalize upd H7 v (.tup [.str "bath", .int (1 + t)]) = H8 at s8 hv ⊢
        have hF8 := s8 _ _ (k7 _ _ (by simpa using Fr) hF6)
        refine ⟨F, _, _, rfl, rfl, hF8, hasl, ?_⟩
        exact fin (stp := .bath (1 + t)) ⟨_, _, _, _, _, rfl⟩ ((k06.trans k7).trans (Kp.of s8)) (row7.same s8) hF8 (t06.trans ((row6.st k7).trans (ST.of s8))) ⟨_, hv, rfl⟩ ⟨by omega, by omega⟩
      · have hpk : 2 ≤ pick := by
          have := of_decide_eq_false (Bool.eq_false_iff.mpr z)
          omega
        refine ⟨_, rfl, rfl, _, rfl, ?_⟩
        refine ite2 (fun z2 => ?_) (fun z2 => ?_)
        · refine ⟨_, rfl, Nat.zero_le _, fun e ne => ?_⟩
          have s7 := same_new (o := .tup []) (Same.refl H6) ne
          have he : upd H6 e (.tup []) e = some (.tup []) := upd_same
          generalize upd H6 e (.tup []) = H7 at s7 he ⊢
          refine ⟨_, _, dpInts (s7 _ _ hsm), .tup (SqT.of he) .nil, (niceTup _).sh, rfl, _, rfl, ?_⟩
          refine ite2 (fun z3 => ?_) (fun z3 => ?_)
          · have hne : cs ≠ [] := fun y => by
              rw [y] at z3
              exact absurd z3 (by decide +kernel)
            have hF7 := s7 _ _ hF6
            refine ⟨_, rfl, .inl ⟨rfl, _, .inl (.inl hF7)⟩, _, rfl, by show 2 ≤ sizeLine; decide, fun v nv => ?_⟩
            have s8 := same_new (o := .tup [.str "cover", .ref sm]) (Same.refl H7) nv
            have hv : upd H7 v (.tup [.str "cover", .ref sm]) v = some (.tup [.str "cover", .ref sm]) := upd_same
            generalize upd H7 v (.tup [.str "cover", .ref sm]) = H8 at s8 hv ⊢
            have s78 := s7.trans s8
            refine ⟨F, _, _, rfl, rfl, s8 _ _ hF7, hasl, ?_⟩
            exact fin (stp := .cover cs) ⟨_, _, _, _, _, rfl⟩ (k06.trans (Kp.of s78)) (row6.same s78) (s8 _ _ hF7) (t06.trans (ST.of s78)) ⟨_, hv, sm, rfl, s78 _ _ hsm⟩ ⟨hne, okcs⟩
          · refine else_rd rfl rfl rfl (s7 _ _ hF6) hasl hpk p6 e0 e1 n1 fun H8 v stp s8 hv okv => ?_
            have s78 := s7.trans s8
            exact fin ⟨_, _, _, _, _, rfl⟩ (k06.trans (Kp.of s78)) (row6.same s78) (s78 _ _ hF6) (t06.trans (ST.of s78)) hv okv
        · refine else_rd rfl rfl rfl hF6 hasl hpk p6 e0 e1 n1 fun H8 v stp s8 hv okv => ?_
          exact fin ⟨_, _, _, _, _, rfl⟩ (k06.trans (Kp.of s8)) (row6.same s8) (s8 _ _ hF6) (t06.trans (ST.of s8)) hv okv
  · rintro σ Hc ⟨⟨b, c, d, e, g, rfl⟩, kc, rowc, as, ss, hFc, hss, okss, hsl⟩
    refine ⟨_, rfl, F, _, rfl, .inl ⟨.inl (.inl hFc), fun t nt => ?_⟩⟩
    have s9 := same_new (o := .tup (as.map V.ref)) (Same.refl Hc) nt
    exact q _ t ss (kc.trans (Kp.of s9)) (rowc.same s9) ⟨⟨as, upd_same, hss.same s9⟩, okss, by omega⟩
end
end M57
/-! The law's mathematics; a method's call within a try. -/
namespace M57
open PySem PySem.Spec PyProof.Rows L2 RZ
def sumT (ss : List Stp) : Int := (ss.map tmOf).sum
theorem opRun_two_none {p : Pl} {F : Fx} {ps : List Fx} {s : Stp} (h : afterStep p F.ds F.cs s = none) : opRun p [some s, none] F ps = none := opRun_bad (by
  show (afterStep p F.ds F.cs s).map _ = none
  rw [h]
  rfl)
theorem opRun_two {p : Pl} {F : Fx} {ps : List Fx} {s : Stp} {z : List Int × List Int} (h : afterStep p F.ds F.cs s = some z) :
    opRun p [some s, none] F ps = some (⟨z.1, z.2, F.pulls ++ [z.1], F.time + tmOf s⟩, (ps ++ [F]) ++ [⟨z.1, z.2, F.pulls, F.time + tmOf s⟩]) := by
  have e : opStep p F (some s) = some ⟨z.1, z.2, F.pulls, F.time + tmOf s⟩ := by
    show (afterStep p F.ds F.cs s).map _ = _
    rw [h]
    rfl
  have e1 := opRun_one (ps := ps) e
  have e2 := opRun_app (b := [none]) e1
  exact e2
theorem opRun_steps {p : Pl} : ∀ (ss : List Stp) (i : Nat) (ds cs : List Int) (pulls : List (List Int)) (time : Int) (ps : List Fx) (q : List Int × List Int), runFrom p ss i ds cs = .ok q →
    ∃ G tr, opRun p (ss.map some) ⟨ds, cs, pulls, time⟩ ps = some (G, ps ++ tr) ∧ G.ds = q.1 ∧ G.cs = q.2 ∧ G.time = time + sumT ss ∧ tr.length = ss.length ∧ (tr ++ [G])[0]? = some ⟨ds, cs, pulls, time⟩
  | [], i, ds, cs, pulls, time, ps, q, h => by
    cases h
    exact ⟨_, [], by rw [List.append_nil]; rfl, rfl, rfl, by simp [sumT], rfl, rfl⟩
  | s :: r, i, ds, cs, pulls, time, ps, q, h => by
    unfold runFrom at h
    cases e : afterStep p ds cs s with
    | none =>
      rw [e] at h
      cases h
    | some z =>
      rw [e] at h
      obtain ⟨G, tr, h1, h2, h3, h4, h5, h6⟩ := opRun_steps r (i + 1) z.1 z.2 pulls (time + tmOf s) (ps ++ [(⟨ds, cs, pulls, time⟩ : Fx)]) q h
      refine ⟨G, ⟨ds, cs, pulls, time⟩ :: tr, ?_, h2, h3, ?_, by simp [h5], rfl⟩
      · have eg : opStep p ⟨ds, cs, pulls, time⟩ (some s) = some ⟨z.1, z.2, pulls, time + tmOf s⟩ := by
          show (afterStep p ds cs s).map _ = _
          rw [e]
          rfl
        show (match opStep p ⟨ds, cs, pulls, time⟩ (some s) with | none => none | some G => opRun p (r.map some) G (ps ++ [(⟨ds, cs, pulls, time⟩ : Fx)])) = _
        rw [eg]
        show opRun p (r.map some) _ _ = _
        rw [h1, List.append_assoc]
        rfl
      · rw [h4]
        simp [sumT]
        omega
theorem sumT_take {ss : List Stp} {i : Nat} {s : Stp} (h : ss[i]? = some s) : sumT (ss.take (i + 1)) = sumT (ss.take i) + tmOf s := by
  unfold sumT
  rw [takeStep h]
  simp
/-! ### o.m(e, ..) within a try -/
def tMethS (C : Addr) (m : Str) (sp : Sp) (E : L2.St → XK) (ta : TE) (t : TA) : TE := fun σ H Q => ta σ H fun x H1 => ∃ a dx fs, x = .ref a ∧ H1 a = some (.ins C dx fs) ∧ fs.lookup m = none ∧ t σ H1 fun vs H2 => sp (x :: vs) H2 Q (E σ)
theorem pe_methS {X : Cx} {CX : CXT} {k : Nat} {f C : Addr} {fd : FuncData} {ps : List Str} {sp : Sp} {E : L2.St → XK} {m : Str} {pos apos : Pos} {e o : Expr} {es : List Expr} {ta : TE} {t : TA} {pl : Sem Bool} (he : PE X o ta) (c : Cls X.K C) (hm : Meth X.K C m f)
    (F : FnOk X.prog X.w X.K X.mg X.base CX k f fd ps sp) (hr : Room k X.A) (hb : Binds X.K fd ps []) (hx : ∀ σ, PassesAt CX X σ (E σ)) (ha : PA X (e :: es) t)
    (hst : starEach (e :: es) X.env = (false, eval e X.env) :: starEach es X.env := by rfl) (hpl : (backTo pos (starEach es X.env)).any (·.1) = false := by rfl)
    (ht : eval (.Call (.Attribute o m apos) (e :: es) [] pos) X.env = (do
      let ov ← eval o X.env
      standAt apos.atName
      let (f, first) ← holding [ov] (getMethod ov m pl)
      callWith pos f first (backTo pos (starEach (e :: es) X.env)) (backToKw pos (keywordEach [] X.env))) := by rfl) :
    PE X (.Call (.Attribute o m apos) (e :: es) [] pos) (tMethS C m sp E ta t) := by
  refine ⟨fun pins s σ H Q I h => ?_⟩
  refine PySem.W.methodCall_KW (pl := pl) (thn (he.run pins s σ H _ I h) fun u s1 ⟨x, H1, I1, rx, a, dx, fs, ex, ea, l, q⟩ => ?_) ht
  subst ex
  obtain rfl : u = Value.ref a := rx
  refine getmeth_ok I1 ea c hm l ?_
  refine PySem.W.callWith_K (first := [.ref a]) (h₀ := X.base) I.ok.mod.kin hm.kp (thn (ha.run pos pins s1 σ H1 _ I1 q) fun us s2 ⟨vs, H2, I2, r, q2⟩ => ⟨I2.kIn, ?_⟩) hst hpl
  exact run_fnS (us := .ref a :: us) (vs := .ref a :: vs) F hr hb (hx σ) I2 (.cons rfl r) q2
end M57
/-! The law: what its try statement asks. -/
namespace M57
open PySem PySem.Spec PyProof.Rows L2 RZ
section
variable {P : Program} {w : World} {K : PySem.W.Frag} {mg : Str → Option Value} {base : Heap}
abbrev rLenS (K : PySem.W.Frag) : List V → Hp → VK → Prop := fun xs H Q => ∃ p ys, xs = [V.ref p] ∧ (SqL K H p ys ∨ SqT K H p ys) ∧ Q (.int ys.length) H
abbrev tNow (T : Txt K w mg) : TE := tPropA T.cW (spWkG T.cW T.cS fun F d H => TupI H d F.ds) (tVar 6)
abbrev tCov (T : Txt K w mg) : TE := tPropA T.cW (spWkG T.cW T.cS fun F d H => TupI H d F.cs) (tVar 6)
abbrev tWord (K : PySem.W.Frag) : TE := tOp (rIxT K) (tVar 11) (tC (.int 0))
def tTryB (T : Txt K w mg) (W : WX) : TS :=
  tSeq (tAsg (tMethS T.cW "apply_all" (spApply T.cP T.cW T.cS T.cX) (WE W) (tVar 6) (tCons (tLst (tCons (tVar 11) (tCons (tTup (tCons (tC (.str "pull")) tNil)) tNil))) tNil)) (gName 13))
  (tSeq (tDrop (tBM K "list" rAppend (tVar 8) (tCons (tOp (rIxL K) (tVar 13) (tC (.int 1))) tNil)))
  (tSeq (tAsg (tOp (rI0 fun i j => .int (i + j)) (tVar 9) (tIf (tTest (tOp rEq (tWord K) (tC (.str "bath")))) (tOp (rIxT K) (tVar 11) (tC (.int 1))) (tC (.int 0)))) (gName 9))
  (tSeq (tIfS (tAnd (tTest (tOp rEq (tWord K) (tC (.str "burnish")))) (tTest (tOp rNe (tOp (rIxL K) (tVar 13) (tC (.int 0))) (tOp (rIxT K) (tOp (rIxT K) (tVar 12) (tC (.int 0))) (tOp (rIxT K) (tVar 11) (tC (.int 1))))))) tNever tNext)
  (tSeq (tIfS (tAnd (tTest (tOp (rIn K false) (tWord K) (tTup (tCons (tC (.str "cover")) (tCons (tC (.str "scrape")) (tCons (tC (.str "wash")) tNil)))))) (tTest (tOp rNe (tOp (rIxL K) (tVar 13) (tC (.int 0))) (tCB (rLenS K) (tCons (tCov T) tNil))))) tNever tNext)
  (tIfS (tAnd (tTest (tOp rEq (tWord K) (tC (.str "bath")))) (tTest (tOp (rNeD K) (tCall (spRidges T.cP) [] E0 (tCons (tVar 3) (tCons (tNow T) tNil))) (tTup tNil)))) tNever tNext)))))
def tTryE (T : Txt K w mg) : TS := tRet (tAndV (tOp rEq (tVar 7) (tVar 10)) (tOp (rEqD K) (tTup (tCons (tNow T) (tCons (tCov T) tNil))) (tVar 12)))
theorem tNow_rd {T : Txt K w mg} {σ : L2.St} {H : Hp} {Q : VK} {wk a st : Addr} {F : Fx} {ps : List Fx} {m : Nat} (hi : σ[6]? = some (some (.ref wk))) (h : WkAt T.cW T.cS H wk a st F ps m) (q : ∀ d, TupI H d F.ds → Q (.ref d) H) : tNow T σ H Q := by
  obtain ⟨dx, hw⟩ := h.w
  exact ⟨_, hi, wk, dx, _, rfl, hw, wk, a, st, F, ps, m, rfl, h, q⟩
theorem tCov_rd {T : Txt K w mg} {σ : L2.St} {H : Hp} {Q : VK} {wk a st : Addr} {F : Fx} {ps : List Fx} {m : Nat} (hi : σ[6]? = some (some (.ref wk))) (h : WkAt T.cW T.cS H wk a st F ps m) (q : ∀ d, TupI H d F.cs → Q (.ref d) H) : tCov T σ H Q := by
  obtain ⟨dx, hw⟩ := h.w
  exact ⟨_, hi, wk, dx, _, rfl, hw, wk, a, st, F, ps, m, rfl, h, q⟩
theorem nicePair (a b : List Int) : Nice (.tuple [.tuple (a.map PyData.int), .tuple (b.map PyData.int)]) 2 := .tup (.cons (niceTup a) (.cons (niceTup b) .nil))
theorem dpPair {H : Hp} {t d c : Addr} {ds cs : List Int} (h : H t = some (.tup [.ref d, .ref c])) (h1 : TupI H d ds) (h2 : TupI H c cs) : Dp K H (.ref t) (.tuple [.tuple (ds.map PyData.int), .tuple (cs.map PyData.int)]) :=
  .tup (SqT.of h) (.cons (dpInts h1) (.cons (dpInts h2) .nil))
/-- ahead of the try -/
structure TryPre (T : Txt K w mg) (H : Hp) (wk a st sp bf S bd bc : Addr) (bs : List Addr) (F : Fx) (ps : List Fx) (m : Nat) (p : Pl) (s : Stp) : Prop where
  wk : WkAt T.cW T.cS H wk a st F ps m
  pl : PlateAt T.cP H a p
  ok : p.Ok
  ne : a ≠ st
  okd : OkD p F.ds
  okc : OkC p F.cs
  stp : StepAt H sp s
  oks : OkS p s
  hbf : H bf = some (.tup [.ref bd, .ref bc])
  hbd : TupI H bd F.ds
  hbc : TupI H bc F.cs
  sn : H S = some (.lst (bs.map V.ref))
  tu : TupsAt H bs F.pulls
  few : ps.length ≤ 50
  fewp : F.pulls.length ≤ 50
theorem res_two {H : Hp} {p : Pl} {F : Fx} {ps : List Fx} {s : Stp} {z : List Int × List Int} {xs : List V} (h : ResAll H p [some s, none] F ps xs) (hl : xs.length = 2) (ea : afterStep p F.ds F.cs s = some z) :
    ∃ v0 d1, xs = [v0, .ref d1] ∧ ResOk F z s v0 ∧ TupI H d1 z.1 := by
  have e : opStep p F (some s) = some ⟨z.1, z.2, F.pulls, F.time + tmOf s⟩ := by
    show (afterStep p F.ds F.cs s).map _ = _
    rw [ea]
    rfl
  match xs, hl with
  | [v0, v1], _ =>
    obtain ⟨F0, p0, G0, o0, a1, a2, a3, a4⟩ := h 0 v0 rfl
    cases a1
    cases a2
    rw [e] at a3
    cases a3
    obtain ⟨F1, p1, G1, o1, b1, b2, b3, b4⟩ := h 1 v1 rfl
    have b1' : opRun p [some s] F ps = some (F1, p1) := b1
    rw [opRun_one e] at b1'
    cases b1'
    cases b2
    obtain ⟨d, rfl, hd⟩ := b4
    exact ⟨v0, d, rfl, a4, hd⟩
theorem rd_try (T : Txt K w mg) {H : Hp} {wk a st sp bf S bd bc r d0 rc : Addr} {bs : List Addr} {F : Fx} {ps : List Fx} {m i : Nat} {p : Pl} {s : Stp} {D : Ends} {sc tu u13 u14 u15 : Option V} {told : V} {time : Int} (pre : TryPre T H wk a st sp bf S bd bc bs F ps m p s)
    (bad : afterStep p F.ds F.cs s = none → told = .int (i : Int) ∧ ∀ H', D.rt (.bl true) H')
    (good : ∀ z, afterStep p F.ds F.cs s = some z → ∀ H' m' v d1, Kp [st, wk, S] H H' → m' ≤ m → WkAt T.cW T.cS H' wk a st ⟨z.1, z.2, F.pulls ++ [z.1], F.time + tmOf s⟩ ((ps ++ [F]) ++ [⟨z.1, z.2, F.pulls, F.time + tmOf s⟩]) m' → ST H H' →
      H' S = some (.lst ((bs ++ [d1]).map V.ref)) → TupsAt H' (bs ++ [d1]) (F.pulls ++ [z.1]) →
      D.nx [sc, some (.ref r), tu, some (.ref a), some (.ref d0), some (.ref rc), some (.ref wk), some told, some (.ref S), some (.int (time + tmOf s)), some (.int (i : Int)), some (.ref sp), some (.ref bf), some v, u14, u15] H') :
    tTryB T (wOnly K (.ref T.cX) (fun _ _ _ => tTryE T) (fun _ _ _ _ => False) D) D [sc, some (.ref r), tu, some (.ref a), some (.ref d0), some (.ref rc), some (.ref wk), some told, some (.ref S), some (.int time), some (.int (i : Int)), some (.ref sp), some (.ref bf), u13, u14, u15] H := by
  obtain ⟨hwk, hp, k, ane, okd, okc, hs, oks, hbf, hbd, hbc, hS, htu, few, fewp⟩ := pre
  obtain ⟨dx, hw⟩ := hwk.w
  refine ⟨_, rfl, wk, dx, _, rfl, hw, wkF_no (by decide +kernel) (by decide +kernel), _, rfl, by show 1 ≤ sizeLine; decide, fun pu npu => ?_⟩
  have s1 := same_new (o := .tup [.str "pull"]) (Same.refl H) npu
  have hpu : upd H pu (.tup [.str "pull"]) pu = some (.tup [.str "pull"]) := upd_same
  generalize upd H pu (.tup [.str "pull"]) = H1 at s1 hpu ⊢
  refine ⟨by show 2 ≤ sizeLine; decide, fun L nL => ?_⟩
  have s12 := same_new (o := .lst [.ref sp, .ref pu]) (Same.refl H1) nL
  have hL : upd H1 L (.lst [.ref sp, .ref pu]) L = some (.lst [.ref sp, .ref pu]) := upd_same
  generalize upd H1 L (.lst [.ref sp, .ref pu]) = H2 at s12 hL ⊢
  have s2 := s1.trans s12
  have hwk2 := hwk.same s2
  obtain ⟨dxs, _, _, _, _, _, ost, _⟩ := id hwk2.s
  have hw2 := s2 _ _ hw
  have kst : ∀ {H' : Hp}, Kp [st, wk] H2 H' → ST H2 H' := fun kk b xs e => kk b _ (fun z => by
    rcases List.mem_cons.mp z with z | z
    · exact ost.tup e z
    · rw [List.mem_singleton.mp z, hw2] at e
      cases e) e
  refine ⟨wk, a, st, L, [sp, pu], [some s, none], F, ps, m, p, rfl, ⟨hL, ⟨rfl, fun j o e => ?_⟩, hwk2, hp.same s2, k, okd, okc, fun s' hs' => ?_, by show ps.length + 2 ≤ 100; omega, by show F.pulls.length + 2 ≤ 100; omega⟩, ?_⟩
  · match j, e with
    | 0, e => cases e; exact ⟨_, rfl, hs.same s2⟩
    | 1, e => cases e; exact ⟨_, rfl, s12 _ _ hpu⟩
    | _ + 2, e => simp at e
  · simp at hs'
    rw [hs']
    exact oks
  cases ea : afterStep p F.ds F.cs s with
  | none =>
    obtain ⟨etold, hrt⟩ := bad ea
    subst etold
    rw [opRun_two_none ea]
    intro H3 dd k3 nd hdd hwk3
    have t3 := (ST.of s2).trans (kst k3)
    refine ⟨true, T.exX, fun _ ea2 hea => ?_, fun z => nomatch z⟩
    refine ⟨_, rfl, _, rfl, rfl, _, rfl, ?_⟩
    rw [decide_eq_true rfl]
    refine iteT ?_
    refine tNow_rd rfl hwk3 fun e1 h1 => tCov_rd rfl hwk3 fun e2 h2 => ⟨by show 2 ≤ sizeLine; decide, fun q nq => ?_⟩
    have s4 := same_new (o := .tup [.ref e1, .ref e2]) (Same.refl H3) nq
    refine ⟨_, rfl, _, _, dpPair upd_same (s4 _ _ h1) (s4 _ _ h2), dpPair (s4 _ _ (t3 _ _ hbf)) (s4 _ _ (t3 _ _ hbd)) (s4 _ _ (t3 _ _ hbc)), (nicePair _ _).sh, (nicePair _ _).sh, ?_⟩
    rw [(nicePair F.ds F.cs).self]
    exact hrt _
  | some z =>
    rw [opRun_two ea]
    intro H3 rr xs m' k3 hr nr hxl hm hwk3 hres
    obtain ⟨v0, d1, rfl, hv0, hd1⟩ := res_two hres hxl ea
    have t3 := (ST.of s2).trans (kst k3)
    obtain ⟨q1, q2⟩ := afterStep_ok k okd okc oks ea
    have Swk : S ≠ wk := fun q => by
      rw [q, hw] at hS
      cases hS
    have Sst : S ≠ st := fun q => by
      have := ost.o
      rw [← q, s2 _ _ hS] at this
      have z' : HO.lst _ = HO.ext _ := Option.some.inj this
      cases z'
    have hS3 : H3 S = some (.lst (bs.map V.ref)) := k3 _ _ (by simp [Swk, Sst]) (s2 _ _ hS)
    have bl := htu.len
    -- seen.append
    refine ⟨_, rfl, .inl ⟨rfl, _, .inl (.inl hS3)⟩, _, rfl, rr, _, _, _, rfl, rfl, .inl (.inl hr), (atI_nat rfl : atI _ ((1 : Nat) : Int) = some _), S, _, _, rfl, rfl, hS3, by rw [List.length_map]; exact small16 (by omega), ?_⟩
    have t4 : ST H3 (upd H3 S (.lst (bs.map V.ref ++ [.ref d1]))) := fun b ys e => by
      have hb : b ≠ S := fun q => by
        rw [q, hS3] at e
        cases e
      rw [upd_ne hb]
      exact e
    have k4 : Kp [S] H3 (upd H3 S (.lst (bs.map V.ref ++ [.ref d1]))) := (Kp.refl _ _).put (List.mem_singleton_self _)
    have hS4 : upd H3 S (.lst (bs.map V.ref ++ [.ref d1])) S = some (.lst ((bs ++ [d1]).map V.ref)) := by
      rw [upd_same, List.map_append]
      rfl
    have rS : rr ≠ S := fun q => by
      rw [q, s2 _ _ hS] at nr
      cases nr
    have hr4 : upd H3 S (.lst (bs.map V.ref ++ [.ref d1])) rr = some (.lst [v0, .ref d1]) := by
      rw [upd_ne rS]
      exact hr
    generalize upd H3 S (.lst (bs.map V.ref ++ [.ref d1])) = H4 at t4 k4 hS4 hr4 ⊢
    have nS : ∀ b ∈ [S], ∃ xs, H3 b = some (.lst xs) := fun b hb => by
      rw [List.mem_singleton.mp hb]
      exact ⟨_, hS3⟩
    have hwk4 := hwk3.kp t4 k4 (by simpa using Swk.symm) (by simpa using Sst.symm) (fun b hb e => by
      obtain ⟨ys, e2⟩ := nS b hb
      rw [e2] at e
      cases e)
    have t04 := t3.trans t4
    have hp2 := hp.same s2
    obtain ⟨dxw3, hw3⟩ := hwk3.w
    obtain ⟨_, _, _, _, _, _, ost3, _⟩ := id hwk3.s
    have k03 : Kp [st, wk, S] H H3 := (Kp.of s2).trans (k3.mono (by simp))
    have k04 : Kp [st, wk, S] H H4 := k03.trans (k4.mono (by simp))
    have hp4 : PlateAt T.cP H4 a p := hp.kp t04 k04 (fun q => by
      obtain ⟨_, _, _, h1, _⟩ := hp.ex
      rcases List.mem_cons.mp q with q | q
      · exact ane q
      rcases List.mem_cons.mp q with q | q
      · rw [q, hw] at h1
        have z' : HO.ins T.cW dx _ = HO.ext _ := Option.some.inj h1
        cases z'
      · rw [List.mem_singleton.mp q, hS] at h1
        have z' : HO.lst _ = HO.ext _ := Option.some.inj h1
        cases z') (fun b hb e => by
      rcases List.mem_cons.mp hb with q | q
      · exact hwk.s.xd b (by rw [q]; exact List.mem_singleton_self _) e
      rcases List.mem_cons.mp q with q | q
      · rw [q, hw] at e
        cases e
      · rw [List.mem_singleton.mp q, hS] at e
        cases e)
    have done : ∀ H5, Same H4 H5 → D.nx [sc, some (.ref r), tu, some (.ref a), some (.ref d0), some (.ref rc), some (.ref wk), some told, some (.ref S), some (.int (time + tmOf s)), some (.int (i : Int)), some (.ref sp), some (.ref bf), some (.ref rr), u14, u15] H5 := fun H5 s5 =>
      good z ea H5 m' (.ref rr) d1 (k04.trans (Kp.of s5)) hm (hwk4.same s5) (t04.trans (ST.of s5)) (s5 _ _ hS4) (((htu.st t04).add (t4 _ _ hd1)).same s5)
    obtain ⟨ag, hs1, hs2⟩ := hs.st t04
    have w0 : ∀ {x : V} {xs : List V}, atI (x :: xs) 0 = some x := atI0
    have w1 : ∀ {x y : V} {xs : List V}, atI (x :: y :: xs) 1 = some y := fun {x y xs} => (atI_nat rfl : atI (x :: y :: xs) ((1 : Nat) : Int) = some y)
    refine ⟨_, rfl, ?_⟩
    cases s with
    | bath t =>
      cases hs2
      have hq : SqT K H4 sp [.str "bath", .int t] := SqT.of hs1
      refine ⟨_, rfl, sp, _, _, _, rfl, rfl, hq, w0, rfl, _, rfl, ?_⟩
      refine nameT weq ?_
      refine ⟨_, rfl, sp, _, _, _, rfl, rfl, hq, w1, _, _, rfl, rfl, ?_⟩
      refine ⟨_, rfl, sp, _, _, _, rfl, rfl, hq, w0, rfl, _, rfl, nameF (wne (a := "bath") (by decide)) (iteF ?_)⟩
      refine ⟨_, rfl, sp, _, _, _, rfl, rfl, hq, w0, by show 3 ≤ sizeLine; decide, fun e ne => ?_⟩
      have s5 := same_new (o := .tup [.str "cover", .str "scrape", .str "wash"]) (Same.refl H4) ne
      have he : upd H4 e (.tup [.str "cover", .str "scrape", .str "wash"]) e = some (.tup [.str "cover", .str "scrape", .str "wash"]) := upd_same
      generalize upd H4 e (.tup [.str "cover", .str "scrape", .str "wash"]) = H5 at s5 he ⊢
      refine ⟨e, _, rfl, .inr (SqT.of he), rfl, rfl, false, rfl, iteF (iteF ?_)⟩
      refine ⟨_, rfl, sp, _, _, _, rfl, rfl, SqT.of (s5 _ _ hs1), w0, rfl, _, rfl, ?_⟩
      refine nameT weq ?_
      refine ⟨_, rfl, tNow_rd rfl (hwk4.same s5) fun d hd => ⟨a, d, p, z.1, rfl, hp4.same s5, k, hd, q1, fun H6 tt s6 htt => ⟨Nat.zero_le _, fun u nu => ?_⟩⟩⟩
      rw [bath_nofalls k okd okc oks ea] at htt
      have s7 := same_new (o := .tup []) (Same.refl H6) nu
      refine ⟨_, _, .tup (SqT.of (s7 _ _ htt)) .nil, .tup (SqT.of upd_same) .nil, rfl, rfl, false, rfl, iteF ?_⟩
      exact done _ ((s5.trans s6).trans s7)
    | burnish c =>
      cases hs2
      have hq : SqT K H4 sp [.str "burnish", .int c] := SqT.of hs1
      refine ⟨_, rfl, sp, _, _, _, rfl, rfl, hq, w0, rfl, _, rfl, ?_⟩
      refine nameF (wne (a := "burnish") (by decide)) ?_
      refine ⟨_, _, rfl, rfl, ?_⟩
      refine ⟨_, rfl, sp, _, _, _, rfl, rfl, hq, w0, rfl, _, rfl, nameT weq ?_⟩
      have e0 : v0 = .int (at0 F.ds c) := hv0
      subst e0
      have hb4 := t04 _ _ hbf
      have hd4 := t04 _ _ hbd
      have hc : 0 ≤ c ∧ c < (p.n : Int) := oks
      have hl := okd.1
      refine ⟨_, rfl, rr, _, _, _, rfl, rfl, .inl (.inl hr4), w0, _, rfl, bf, _, _, _, rfl, rfl, SqT.of hb4, w0, _, rfl, sp, _, _, _, rfl, rfl, hq, w1, bd, _, _, _, rfl, rfl, SqT.of hd4, atI_ints hc.1 (by omega), rfl, _, rfl, iteNS rfl ?_⟩
      refine ⟨_, rfl, sp, _, _, _, rfl, rfl, hq, w0, by show 3 ≤ sizeLine; decide, fun e ne => ?_⟩
      have s5 := same_new (o := .tup [.str "cover", .str "scrape", .str "wash"]) (Same.refl H4) ne
      have he : upd H4 e (.tup [.str "cover", .str "scrape", .str "wash"]) e = some (.tup [.str "cover", .str "scrape", .str "wash"]) := upd_same
      generalize upd H4 e (.tup [.str "cover", .str "scrape", .str "wash"]) = H5 at s5 he ⊢
      refine ⟨e, _, rfl, .inr (SqT.of he), rfl, rfl, false, rfl, iteF (iteF ?_)⟩
      refine ⟨_, rfl, sp, _, _, _, rfl, rfl, SqT.of (s5 _ _ hs1), w0, rfl, _, rfl, ?_⟩
      refine nameF (wne (a := "burnish") (by decide)) (iteF ?_)
      exact done _ s5
    | cover es =>
      obtain ⟨ed, rfl, he0⟩ := hs2
      have hq : SqT K H4 sp [.str "cover", .ref ed] := SqT.of hs1
      refine ⟨_, rfl, sp, _, _, _, rfl, rfl, hq, w0, rfl, _, rfl, ?_⟩
      refine nameF (wne (a := "cover") (by decide)) ?_
      refine ⟨_, _, rfl, rfl, ?_⟩
      refine ⟨_, rfl, sp, _, _, _, rfl, rfl, hq, w0, rfl, _, rfl, nameF (wne (a := "cover") (by decide)) (iteF ?_)⟩
      refine ⟨_, rfl, sp, _, _, _, rfl, rfl, hq, w0, by show 3 ≤ sizeLine; decide, fun e ne => ?_⟩
      have s5 := same_new (o := .tup [.str "cover", .str "scrape", .str "wash"]) (Same.refl H4) ne
      have he : upd H4 e (.tup [.str "cover", .str "scrape", .str "wash"]) e = some (.tup [.str "cover", .str "scrape", .str "wash"]) := upd_same
      generalize upd H4 e (.tup [.str "cover", .str "scrape", .str "wash"]) = H5 at s5 he ⊢
      have e0 : v0 = .int (z.2.length : Int) := hv0
      subst e0
      refine ⟨e, _, rfl, .inr (SqT.of he), rfl, rfl, true, rfl, iteT ?_⟩
      refine ⟨_, rfl, rr, _, _, _, rfl, rfl, .inl (.inl (s5 _ _ hr4)), w0, tCov_rd rfl (hwk4.same s5) fun cc hcc => ⟨cc, _, rfl, .inr (SqT.of hcc), rfl, _, rfl, ?_⟩⟩
      rw [intsV_len]
      refine iteNS rfl ?_
      refine ⟨_, rfl, sp, _, _, _, rfl, rfl, SqT.of (s5 _ _ hs1), w0, rfl, _, rfl, ?_⟩
      refine nameF (wne (a := "cover") (by decide)) (iteF ?_)
      exact done _ s5
    | scrape c =>
      cases hs2
      have hq : SqT K H4 sp [.str "scrape", .int c] := SqT.of hs1
      refine ⟨_, rfl, sp, _, _, _, rfl, rfl, hq, w0, rfl, _, rfl, ?_⟩
      refine nameF (wne (a := "scrape") (by decide)) ?_
      refine ⟨_, _, rfl, rfl, ?_⟩
      refine ⟨_, rfl, sp, _, _, _, rfl, rfl, hq, w0, rfl, _, rfl, nameF (wne (a := "scrape") (by decide)) (iteF ?_)⟩
      refine ⟨_, rfl, sp, _, _, _, rfl, rfl, hq, w0, by show 3 ≤ sizeLine; decide, fun e ne => ?_⟩
      have s5 := same_new (o := .tup [.str "cover", .str "scrape", .str "wash"]) (Same.refl H4) ne
      have he : upd H4 e (.tup [.str "cover", .str "scrape", .str "wash"]) e = some (.tup [.str "cover", .str "scrape", .str "wash"]) := upd_same
      generalize upd H4 e (.tup [.str "cover", .str "scrape", .str "wash"]) = H5 at s5 he ⊢
      have e0 : v0 = .int (z.2.length : Int) := hv0
      subst e0
      refine ⟨e, _, rfl, .inr (SqT.of he), rfl, rfl, true, rfl, iteT ?_⟩
      refine ⟨_, rfl, rr, _, _, _, rfl, rfl, .inl (.inl (s5 _ _ hr4)), w0, tCov_rd rfl (hwk4.same s5) fun cc hcc => ⟨cc, _, rfl, .inr (SqT.of hcc), rfl, _, rfl, ?_⟩⟩
      rw [intsV_len]
      refine iteNS rfl ?_
      refine ⟨_, rfl, sp, _, _, _, rfl, rfl, SqT.of (s5 _ _ hs1), w0, rfl, _, rfl, ?_⟩
      refine nameF (wne (a := "scrape") (by decide)) (iteF ?_)
      exact done _ s5
    | wash =>
      cases hs2
      have hq : SqT K H4 sp [.str "wash"] := SqT.of hs1
      refine ⟨_, rfl, sp, _, _, _, rfl, rfl, hq, w0, rfl, _, rfl, ?_⟩
      refine nameF (wne (a := "wash") (by decide)) ?_
      refine ⟨_, _, rfl, rfl, ?_⟩
      refine ⟨_, rfl, sp, _, _, _, rfl, rfl, hq, w0, rfl, _, rfl, nameF (wne (a := "wash") (by decide)) (iteF ?_)⟩
      refine ⟨_, rfl, sp, _, _, _, rfl, rfl, hq, w0, by show 3 ≤ sizeLine; decide, fun e ne => ?_⟩
      have s5 := same_new (o := .tup [.str "cover", .str "scrape", .str "wash"]) (Same.refl H4) ne
      have he : upd H4 e (.tup [.str "cover", .str "scrape", .str "wash"]) e = some (.tup [.str "cover", .str "scrape", .str "wash"]) := upd_same
      generalize upd H4 e (.tup [.str "cover", .str "scrape", .str "wash"]) = H5 at s5 he ⊢
      have e0 : v0 = .int (z.2.length : Int) := hv0
      subst e0
      refine ⟨e, _, rfl, .inr (SqT.of he), rfl, rfl, true, rfl, iteT ?_⟩
      refine ⟨_, rfl, rr, _, _, _, rfl, rfl, .inl (.inl (s5 _ _ hr4)), w0, tCov_rd rfl (hwk4.same s5) fun cc hcc => ⟨cc, _, rfl, .inr (SqT.of hcc), rfl, _, rfl, ?_⟩⟩
      rw [intsV_len]
      refine iteNS rfl ?_
      refine ⟨_, rfl, sp, _, _, _, rfl, rfl, SqT.of (s5 _ _ hs1), w0, rfl, _, rfl, ?_⟩
      refine nameF (wne (a := "wash") (by decide)) (iteF ?_)
      exact done _ s5
end
end M57
/-! Small things for the law. -/
namespace M57
open PySem PySem.Spec PyProof.Rows L2 RZ
section
variable {w : World} {K : PySem.W.Frag} {mg : Str → Option Value}
def tupD (l : List Int) : PyData := .tuple (l.map PyData.int)
theorem dpAll_of {K : PySem.W.Frag} {H : Hp} : ∀ {bs : List Addr} {ls : List (List Int)}, bs.length = ls.length → (∀ (i : Nat) (b : Addr), bs[i]? = some b → ∃ l, ls[i]? = some l ∧ TupI H b l) → DpAll K H (bs.map V.ref) (ls.map tupD)
  | [], [], _, _ => .nil
  | [], _ :: _, h, _ => by simp at h
  | _ :: _, [], h, _ => by simp at h
  | b :: bs, l :: ls, h, g => by
    obtain ⟨l', e, hb⟩ := g 0 b rfl
    cases e
    exact .cons (dpInts hb) (dpAll_of (by simpa using h) fun i c e => g (i + 1) c e)
theorem TupsAt.dp {H : Hp} {bs : List Addr} {ls : List (List Int)} (h : TupsAt H bs ls) : DpAll K H (bs.map V.ref) (ls.map tupD) := dpAll_of h.len h.at_
theorem niceTups (ls : List (List Int)) : Nice (.list (ls.map tupD)) 2 := .lst (.all fun d hd => by
  obtain ⟨l, _, rfl⟩ := List.mem_map.mp hd
  exact niceTup l)
/-- what _law_run told -/
def ToldAt (H : Hp) (v : V) : Except Nat (List Int × List Int) → Prop
  | .ok q => ∃ t d c, v = .ref t ∧ H t = some (.tup [.ref d, .ref c]) ∧ TupI H d q.1 ∧ TupI H c q.2
  | .error i => v = .int (i : Int)
theorem ToldAt.st {H H' : Hp} {v : V} {x : Except Nat (List Int × List Int)} (h : ToldAt H v x) (s : ST H H') : ToldAt H' v x := by
  cases x with
  | ok q =>
    obtain ⟨t, d, c, e, h1, h2, h3⟩ := h
    exact ⟨t, d, c, e, s _ _ h1, s _ _ h2, s _ _ h3⟩
  | error i => exact h
theorem runPost0_of {Q : VK} {H : Hp} {x : Except Nat (List Int × List Int)} (h : ∀ H' v, Same H H' → ToldAt H' v x → Q v H') : RunPost0 Q H x := by
  cases x with
  | ok q => exact fun H' t d c s h1 h2 h3 => h H' _ s ⟨t, d, c, rfl, h1, h2, h3⟩
  | error i => exact fun H' s => h H' _ s rfl
theorem nowJ {T : Txt K w mg} {σ : L2.St} {H : Hp} {Q : VK} {wk a st : Addr} {F : Fx} {ps : List Fx} {m j : Nat} (hi : σ[j]? = some (some (.ref wk))) (h : WkAt T.cW T.cS H wk a st F ps m) (q : ∀ d, TupI H d F.ds → Q (.ref d) H) : tPropA T.cW (spWkG T.cW T.cS fun F d H => TupI H d F.ds) (tVar j) σ H Q := by
  obtain ⟨dx, hw⟩ := h.w
  exact ⟨_, hi, wk, dx, _, rfl, hw, wk, a, st, F, ps, m, rfl, h, q⟩
theorem covJ {T : Txt K w mg} {σ : L2.St} {H : Hp} {Q : VK} {wk a st : Addr} {F : Fx} {ps : List Fx} {m j : Nat} (hi : σ[j]? = some (some (.ref wk))) (h : WkAt T.cW T.cS H wk a st F ps m) (q : ∀ d, TupI H d F.cs → Q (.ref d) H) : tPropA T.cW (spWkG T.cW T.cS fun F d H => TupI H d F.cs) (tVar j) σ H Q := by
  obtain ⟨dx, hw⟩ := h.w
  exact ⟨_, hi, wk, dx, _, rfl, hw, wk, a, st, F, ps, m, rfl, h, q⟩
theorem timJ {T : Txt K w mg} {σ : L2.St} {H : Hp} {Q : VK} {wk a st : Addr} {F : Fx} {ps : List Fx} {m j : Nat} (hi : σ[j]? = some (some (.ref wk))) (h : WkAt T.cW T.cS H wk a st F ps m) (q : Q (.int F.time) H) : tPropA T.cW (spWkT T.cW T.cS) (tVar j) σ H Q := by
  obtain ⟨dx, hw⟩ := h.w
  exact ⟨_, hi, wk, dx, _, rfl, hw, wk, a, st, F, ps, m, rfl, h, q⟩
theorem pulJ {T : Txt K w mg} {σ : L2.St} {H : Hp} {Q : VK} {wk a st : Addr} {F : Fx} {ps : List Fx} {m j : Nat} (hi : σ[j]? = some (some (.ref wk))) (h : WkAt T.cW T.cS H wk a st F ps m) (q : ∀ H' l bs, Same H H' → H' l = some (.lst (bs.map V.ref)) → TupsAt H' bs F.pulls → Q (.ref l) H') :
    tPropA T.cW (spWkP T.cW T.cS) (tVar j) σ H Q := by
  obtain ⟨dx, hw⟩ := h.w
  exact ⟨_, hi, wk, dx, _, rfl, hw, wk, a, st, F, ps, m, rfl, h, q⟩
theorem niceTri (a b : List Int) (t : Int) : Nice (.tuple [.tuple (a.map PyData.int), .tuple (b.map PyData.int), .int t]) 2 := .tup (.cons (niceTup a) (.cons (niceTup b) (.cons .int .nil)))
theorem dpTri {H : Hp} {q d c : Addr} {ds cs : List Int} {t : Int} (h : H q = some (.tup [.ref d, .ref c, .int t])) (h1 : TupI H d ds) (h2 : TupI H c cs) : Dp K H (.ref q) (.tuple [.tuple (ds.map PyData.int), .tuple (cs.map PyData.int), .int t]) :=
  .tup (SqT.of h) (.cons (dpInts h1) (.cons (dpInts h2) (.cons (.int t) .nil)))
theorem dpTrues {H : Hp} {l : Addr} {n : Nat} (h : H l = some (.lst (trues n))) : Dp K H (.ref l) (.list (List.replicate n (.bool true))) := by
  refine .lst (.inl (.inl h)) ?_
  unfold trues
  clear h
  induction n with
  | zero => exact .nil
  | succ n ih => exact .cons (.bl true) ih
theorem niceTrues (n : Nat) : Nice (.list (List.replicate n (.bool true))) 1 := .lst (.all fun d hd => by
  rw [(List.mem_replicate.mp hd).2]
  exact .bl)
theorem noNe {a : PyData} {k : Nat} (h : Nice a k) : V.bl (!PyData.eqv a a) = V.bl false := by rw [h.self]; rfl
end
end M57
/-! The law. -/
namespace M57
open PySem PySem.Spec PyProof.Rows L2 RZ
abbrev lawN : List Str := ["_law_script", "_law_row", "_law_turn", "_law_plate_here", "_law_depths_here", "_law_recipe_here", "_law_work", "_law_told", "_law_seen", "_law_time", "_law_index", "_law_step", "_law_before", "_law_result", "_law_again", "_law_cell"]
section
variable {P : Program} {w : World} {K : PySem.W.Frag} {mg : Str → Option Value} {base : Heap}
def spLaw (K : PySem.W.Frag) : Sp := fun vs H Q _ => ∃ (sa : Addr) (ns : List Int), vs = [.ref sa] ∧ SqL K H sa (ns.map V.int) ∧ ∀ H', Q (.bl true) H'
theorem scLaw : FnScope lawN ["_law_script"] (defScope (topS 56)) := ⟨rfl, rfl, rfl, by decide +kernel, rfl, by decide +kernel, by decide +kernel⟩
theorem ok_law (T : Txt K w mg) (L : Df K mg "law" (topS 56) ["_law_script"]) : FnOk P w K mg base CX0 13 L.f L.fd ["_law_script"] (spLaw K) := by
  refine L.fn.ok scLaw (fun vs H Q E h => ?_) fun cdv A outer s H vs Q E hr h => ?_
  · obtain ⟨_, _, rfl, _⟩ := h
    rfl
  obtain ⟨sa, ns, rfl, hsq, q⟩ := h
  have hu := hr.units
  have nd := scLaw.nd
  have tk := @ok_taken P w K mg base T
  have hr1 := hr.mono (by decide : 1 ≤ 12)
  have hr2 := hr.mono (by decide : 2 ≤ 12)
  have hr4 := hr.mono (by decide : 4 ≤ 12)
  have hr6 := hr.mono (by decide : 6 ≤ 12)
  have hr10 := hr.mono (by decide : 10 ≤ 12)
  have hrh := (L2H.roomH_of hr).mono (by decide : 2 ≤ 12)
  have fRe := (ok_replay (P := P) (base := base) T).raw T.wReplayB (dvs := []) .nil
  refine ⟨_, pss_cons (sv 1 nd (pe_lst (pa_cons (pv 0) (pa_cons pe_int (pa_cons pe_int (pa_cons pe_int pa_nil))))))
    (pss_cons (ps_for PassesOwn.never rfl (pi_range1 (by rfl) T.range_ (pa_cons pe_int pa_nil)) (gn 2 nd)
      (pss_cons (sv 3 nd (dcall T.lPlate (ok_lPlate T) hr4 (pa_cons (pv 1) (pa_cons pe_bl pa_nil))))
      (pss_cons (ps_par (i := 4) (j := 5) (by rfl) nd rfl rfl (by decide) rfl rfl (pa_cons (pe_callTy call_tuple_of (by rfl) T.tuple_ (by decide +kernel) (pa_cons
          (pe_lc (own := [("_law_cell", 15)]) (g := gName 15) (tt := tYes) rfl nd (pi_range1 (by rfl) T.range_ (pa_cons (pe_lenP T.len T.lenP (ok_len T) hr2 (pv 3)) pa_nil)) (blkOk_by (N := lawN) (sc := defScope (topS 56)) (by decide +kernel))
            (fun _ _ _ _ _ => gn 15 nd) (fun _ _ _ _ _ => pts_nil) (fun _ _ _ _ _ => dcall T.lTaken tk hr1 (pa_cons (pv 1) (pa_cons pe_int pa_nil)))) pa_nil)) (pa_cons (dcall T.lRecipe (ok_lRecipe T) hr4 (pa_cons (pv 1) (pa_cons (pv 3) pa_nil))) pa_nil)) (by rfl))
      (pss_cons (sv 5 nd (pe_callTy call_tuple_of (by rfl) T.tuple_ (by decide +kernel) (pa_cons
          (pe_lc (own := [("_law_step", 11)]) (g := gName 11) (tt := tYes) (te := tIf (tAnd (tTest (tOp rEq (tOp (rIxT K) (tVar 11) (tC (.int 0))) (tC (.str "bath")))) (tTest (tOp (rI0 fun i j => .bl (decide (j < i))) (tCall (spTaken K) [] E0 (tCons (tVar 1) (tCons (tC (.int 4)) tNil))) (tC (.int 0))))) (tTup (tCons (tC (.str "bath")) (tCons (tC (.int 1)) tNil))) (tVar 11))
            rfl nd (pi_tup (pv 5)) (blkOk_by (N := lawN) (sc := defScope (topS 56)) (by decide +kernel))
            (fun _ _ _ _ _ => gn 11 nd) (fun _ _ _ _ _ => pts_nil) (fun _ _ _ _ _ => pe_ifExp (PW.pt (pw_and (pt_cmpR op_eq (pe_ix ix_tup (pv 11) pe_int (fun _ _ => rfl)) pe_str (nomark _)) (pw_and1 (pt_cmpR op_gt (dcall T.lTaken tk hr1 (pa_cons (pv 1) (pa_cons pe_int pa_nil))) pe_int (nomark _))))) (pe_tup (pa_cons pe_str (pa_cons pe_int pa_nil))) (pv 11))) pa_nil)))
      (pss_cons (ps_asg (pe_tup (pa_cons (pe_make T.mW.mk_ (ok_wkInit T) hr6 (by rfl) T.mW.gl T.mW.b .nil pass0 (pa_cons (pv 3) (pa_cons (pv 4) pa_nil))) (pa_cons (dcall T.lRun (ok_lRun T) hr10 (pa_cons (pv 3) (pa_cons (pv 4) (pa_cons (pv 5) pa_nil)))) (pa_cons (pe_lst pa_nil) (pa_cons pe_int pa_nil)))))
          (pg_tup rfl (pgs_cons (gn 6 nd) (pgs_cons (gn 7 nd) (pgs_cons (gn 8 nd) (pgs_cons (gn 9 nd) pgs_nil))))))
      (pss_cons (ps_for PassesOwn.never rfl (pi_enumT (by rfl) T.enum (pa_cons (pv 5) pa_nil)) (pg_tup rfl (pgs_cons (gn 10 nd) (pgs_cons (gn 11 nd) pgs_nil)))
          (pss_cons (sv 12 nd (pe_tup (pa_cons (pe_propA (pv 6) T.clW T.wDepths.pr (ok_wkD T) hrh) (pa_cons (pe_propA (pv 6) T.clW T.wCovered.pr (ok_wkC T) hrh) pa_nil))))
          (pss_one (ps_try_only (tb := tTryB T) (ts := fun _ _ _ => tTryE T) (Wout := fun _ _ _ _ => False) rfl rfl ⟨rfl, by decide, .inl T.gX⟩ takes0
            (fun W pn xe tkk _ => pss_cons (sv 13 nd (pe_methS (pv 6) T.clW T.wApply.me (ok_apply T) (hr.mono (by decide)) T.wApply.b (fun σ => passAt tkk σ) (pa_cons (pe_lst (pa_cons (pv 11) (pa_cons (pe_tup (pa_cons pe_str pa_nil)) pa_nil))) pa_nil)))
              (pss_cons (ps_expr (pe_bm PySem.F.plainAttrs_list PySem.F.slot_list_append PySem.F.type_list_append mt_append (pv 8) (pa_cons (pe_ix ix_list (pv 13) pe_int (fun _ _ => rfl)) pa_nil)))
              (pss_cons (sv 9 nd (pe_op op_add (pv 9) (pe_ifExp (pt_cmpR op_eq (pe_ix ix_tup (pv 11) pe_int (fun _ _ => rfl)) pe_str (nomark _)) (pe_ix ix_tup (pv 11) pe_int (fun _ _ => rfl)) pe_int)))
              (pss_cons (ps_if (PW.pt (pw_and (pt_cmpR op_eq (pe_ix ix_tup (pv 11) pe_int (fun _ _ => rfl)) pe_str (nomark _)) (pw_and1 (pt_cmpR op_ne (pe_ix ix_list (pv 13) pe_int (fun _ _ => rfl)) (pe_ix ix_tup (pe_ix ix_tup (pv 12) pe_int (fun _ _ => rfl)) (pe_ix ix_tup (pv 11) pe_int (fun _ _ => rfl)) (fun _ _ => rfl)) (nomark _))))) (pss_one ps_never) pss_nil)
              (pss_cons (ps_if (PW.pt (pw_and (pt_cmpR op_in_seq (pe_ix ix_tup (pv 11) pe_int (fun _ _ => rfl)) (pe_tup (pa_cons pe_str (pa_cons pe_str (pa_cons pe_str pa_nil)))) (by rfl)) (pw_and1 (pt_cmpR op_ne (pe_ix ix_list (pv 13) pe_int (fun _ _ => rfl)) (pe_callB call_len_seq (by rfl) T.len PySem.boot_len (pa_cons (pe_propA (pv 6) T.clW T.wCovered.pr (ok_wkC T) hrh) pa_nil)) (nomark _))))) (pss_one ps_never) pss_nil)
              (pss_one (ps_if (PW.pt (pw_and (pt_cmpR op_eq (pe_ix ix_tup (pv 11) pe_int (fun _ _ => rfl)) pe_str (nomark _)) (pw_and1 (pt_cmpR (op_neD hu) (dcall T.ridges (ok_ridges T) hr6 (pa_cons (pv 3) (pa_cons (pe_propA (pv 6) T.clW T.wDepths.pr (ok_wkD T) hrh) pa_nil))) (pe_tup pa_nil) (nomark _))))) (pss_one ps_never) pss_nil)))))))
            (fun ea oe cls d pn hz hf => pss_one (ps_ret (pe_and (pe_cmpR op_eq (pv 7) (pv 10) (nomark _)) (pe_one (pe_cmpR (op_eqD hu) (pe_tup (pa_cons (pe_propA (pv 6) T.clW T.wDepths.pr (ok_wkD T) (RoomH.mark hrh (some (.ref ea)))) (pa_cons (pe_propA (pv 6) T.clW T.wCovered.pr (ok_wkC T) (RoomH.mark hrh (some (.ref ea)))) pa_nil))) (pv 12) (nomark _))))))))))
      (pss_cons (ps_if (PW.pt (pw_or (pt_cmpR (op_neD hu) (pv 7) (pe_tup (pa_cons (pe_propA (pv 6) T.clW T.wDepths.pr (ok_wkD T) hrh) (pa_cons (pe_propA (pv 6) T.clW T.wCovered.pr (ok_wkC T) hrh) pa_nil))) (nomark _))
          (pw_or1 (pt_cmpR (op_neD hu) (pe_listG (pgen_call (E := E0) (ok_course T) (hr.mono (by decide)) (by rfl) T.course.gl T.course.fn.kp T.course.b .nil (pa_cons (pv 3) (pa_cons (pv 4) (pa_cons (pv 5) pa_nil)))) passL (fun _ _ _ h => h.elim) hr (by rfl) T.list_ (by decide +kernel)) (pv 8) (nomark _))))) (pss_one ps_never) pss_nil)
      (pss_cons (ps_if (PW.pt (pw_or (pt_cmpR (op_neD hu) (pe_propA (pv 6) T.clW T.wPulls.pr (ok_wkP T) hrh) (pv 8) (nomark _)) (pw_or (pt_cmpR op_ne (pe_propA (pv 6) T.clW T.wTime.pr (ok_wkT T) hrh) (pv 9) (nomark _))
          (pw_or1 (pt_cmpR op_ne (pe_callB call_len_seq (by rfl) T.len PySem.boot_len (pa_cons (pe_prop (pv 6) T.clW T.wHistory.pr (ok_wkH T) hr2 T.wHistory.b .nil pass0 rfl) pa_nil)) (pe_op op_mul pe_int (pe_callB call_len_seq (by rfl) T.len PySem.boot_len (pa_cons (pv 5) pa_nil))) (nomark _)))))) (pss_one ps_never) pss_nil)
      (pss_cons (sv 14 nd (ClX.pe_cmeth (pe_glob (v := .ref T.cW) rfl T.mW.gl rfl) T.rdW T.wReplayC fRe hr passL (pa_cons (pv 3) (pa_cons (pv 4) (pa_cons (pe_callTy call_list_of (by rfl) T.list_ (by decide +kernel) (pa_cons (pv 5) pa_nil)) pa_nil)))))
      (pss_cons (ps_if (pt_cmpR (op_neD hu) (pe_tup (pa_cons (pe_propA (pv 14) T.clW T.wDepths.pr (ok_wkD T) hrh) (pa_cons (pe_propA (pv 14) T.clW T.wCovered.pr (ok_wkC T) hrh) (pa_cons (pe_propA (pv 14) T.clW T.wTime.pr (ok_wkT T) hrh) pa_nil)))) (pe_tup (pa_cons (pe_propA (pv 6) T.clW T.wDepths.pr (ok_wkD T) hrh) (pa_cons (pe_propA (pv 6) T.clW T.wCovered.pr (ok_wkC T) hrh) (pa_cons (pv 9) pa_nil)))) (nomark _)) (pss_one ps_never) pss_nil)
      (pss_cons (ps_if (PW.pt (pw_or (pt_cmpR (op_neD hu) (pe_lc (own := [("_law_step", 11)]) (g := gName 11) (tt := tYes) rfl nd (pi_tup (pv 5)) (blkOk_by (N := lawN) (sc := defScope (topS 56)) (by decide +kernel))
            (fun _ _ _ _ _ => gn 11 nd) (fun _ _ _ _ _ => pts_nil) (fun _ _ _ _ _ => pe_meth0 (pv 14) T.clW T.wUndo.me (ok_undo T) hr2 T.wUndo.b .nil pass0)) (pe_op op_rep (pe_lst (pa_cons pe_bl pa_nil)) (pe_callB call_len_seq (by rfl) T.len PySem.boot_len (pa_cons (pv 5) pa_nil))) (nomark _))
          (pw_or (pt_val (pe_meth0 (pv 14) T.clW T.wUndo.me (ok_undo T) hr2 T.wUndo.b .nil pass0)) (pw_or1 (pt_cmpR (op_neD hu) (pe_propA (pv 14) T.clW T.wDepths.pr (ok_wkD T) hrh) (pv 4) (nomark _)))))) (pss_one ps_never) pss_nil)
      (pss_one (ps_if (PW.pt (pw_or (pt_cmpR op_ne (pe_meth0 (pv 6) T.clW T.wWash.me (ok_wash T) (hr.mono (by decide)) T.wWash.b .nil passL) pe_int (nomark _)) (pw_or (pt_cmpR (op_neD hu) (pe_propA (pv 6) T.clW T.wCovered.pr (ok_wkC T) hrh) (pe_tup pa_nil) (nomark _))
          (pw_or1 (pt_cmpR (op_neD hu) (pe_meth0 (pv 6) T.clW T.wPull.me (ok_pull T) hr2 T.wPull.b .nil pass0) (pe_propA (pv 6) T.clW T.wDepths.pr (ok_wkD T) hrh) (nomark _)))))) (pss_one ps_never) pss_nil)))))))))))))
    (pss_one (ps_ret pe_bl))), ?_⟩
  refine ⟨_, rfl, by show 4 ≤ sizeLine; decide, fun r nr => ?_⟩
  have row0 := RowAt.mk_ hsq nr
  generalize upd H r (.lst [.ref sa, .int 0, .int 0, .int 0]) = Hr at row0 ⊢
  refine ⟨5, rfl, by decide, by decide, for_range (lo := 0) (n := (5 : Int).toNat) (fun i σ Hc => (∃ l, σ = some (.ref sa) :: some (.ref r) :: l ∧ l.length = 14) ∧ RowAt K Hc r sa) ⟨⟨_, rfl, rfl⟩, row0⟩ ?_ (fun σ Hc _ => q Hc)⟩
  rintro i σ Hc hi ⟨⟨l, rfl, hl⟩, row⟩
  match l, hl with
  | [u2, u3, u4, u5, u6, u7, u8, u9, u10, u11, u12, u13, u14, u15], _ =>
  -- the plate
  refine ⟨_, rfl, r, sa, rfl, row, fun H1 a p k1 row1 hp k => ?_⟩
  have n9 := k.n9
  have n1 := k.n1
  have m1 := k.m1
  -- the depths
  refine tLenP rfl hp k ⟨_, rfl, by omega, by omega, fun D nD => ?_⟩
  have Dr : D ≠ r := fun z => by
    obtain ⟨xs, e⟩ := row1.lst
    rw [z, e] at nD
    cases nD
  refine lc_range (lo := 0) (n := (p.n : Int).toNat) (fun j Hd => Kp [r] H1 Hd ∧ RowAt K Hd r sa ∧ ∃ ds, Hd D = some (.lst (intsV ds)) ∧ ds.length = j ∧ ∀ d ∈ ds, 0 ≤ d ∧ d ≤ 1)
    ⟨(Kp.refl _ _).add nD, row1.put nD row1, [], upd_same, rfl, fun d hd => by simp at hd⟩ ?_ ?_
  · rintro j Hd hj ⟨kd, rowd, ds, hDd, dl, db⟩
    refine ⟨rfl, ?_⟩
    refine lcYes ?_
    refine ⟨_, rfl, r, 2, sa, rfl, rowd, by decide, by decide, fun H5 t k5 row5 t0 t2 => ?_⟩
    refine ⟨intsV ds, k5 _ _ (by simpa using Dr) hDd, by rw [intsV_len]; exact small16 (by omega), (kd.trans k5).add nD, row1.put nD row5, ds ++ [t], by rw [upd_same]; simp [intsV], by simp [dl], fun d hd => ?_⟩
    rcases List.mem_append.mp hd with h | h
    · exact db d h
    · rw [List.mem_singleton.mp h]
      omega
  rintro H2 ⟨kd, row2, ds, hD2, dl, db⟩
  refine ⟨D, _, rfl, .inl ⟨.inl (.inl hD2), fun dd ndd => ?_⟩⟩
  have s3 := same_new (o := .tup (intsV ds)) (Same.refl H2) ndd
  have hdd : TupI (upd H2 dd (.tup (intsV ds))) dd ds := upd_same
  generalize upd H2 dd (.tup (intsV ds)) = H3 at s3 hdd ⊢
  have okd : OkD p ds := ⟨by omega, fun d hd => ⟨(db d hd).1, by have := (db d hd).2; omega⟩⟩
  have hp3 := (row1.pl kd hp).same s3
  have row3 := row2.same s3
  -- the recipe
  refine ⟨_, rfl, _, rfl, r, sa, a, p, rfl, row3, hp3, k, fun H4 rc0 ss0 k4 row4 hre0 => ⟨_, _, rfl, ?_⟩⟩
  have hp4 := row3.pl k4 hp3
  have hdd4 := row3.st k4 _ _ hdd
  obtain ⟨as0, hr0, hst0⟩ := hre0.ex
  have few0 := hre0.few
  refine ⟨_, rfl, rc0, rfl, ⟨_, SqT.of hr0⟩, fun D2 nD2 => ?_⟩
  have D2r : D2 ≠ r := fun z => by
    obtain ⟨xs, e⟩ := row4.lst
    rw [z, e] at nD2
    cases nD2
  refine lc_tup (xs := as0.map V.ref) (fun j Hd => Kp [r] H4 Hd ∧ RowAt K Hd r sa ∧ ST H4 Hd ∧ ∃ as ss, Hd D2 = some (.lst (as.map V.ref)) ∧ StepsAt Hd as ss ∧ (∀ s ∈ ss, OkS p s) ∧ ss.length = j)
    ⟨(Kp.refl _ _).add nD2, row4.put nD2 row4, ST.of (same_add (Same.refl _) nD2), [], [], upd_same, ⟨rfl, fun i a e => by simp at e⟩, fun s hs => by simp at hs, rfl⟩ (fun j Hd _ pd => SqT.of (pd.2.2.1 _ _ hr0)) ?_ ?_
  · rintro j x Hd hx ⟨kd, rowd, td, as, ss, hDd, hss, oks, sl⟩
    obtain ⟨b, hb, rfl⟩ := refs_get hx
    obtain ⟨st, hst, hat⟩ := hst0.at_ j b hb
    have hj : j < ss0.length := (List.getElem?_eq_some_iff.mp hst).1
    have okst := hre0.ok st (List.mem_of_getElem? hst)
    have fin : ∀ {H5 : Hp} {v : Addr} {stp : Stp}, Kp [r] Hd H5 → RowAt K H5 r sa → ST Hd H5 → StepAt H5 v stp → OkS p stp → ∃ acc, H5 D2 = some (.lst acc) ∧ acc.length < sizeLine ∧ (Kp [r] H4 (upd H5 D2 (.lst (acc ++ [.ref v]))) ∧ RowAt K (upd H5 D2 (.lst (acc ++ [.ref v]))) r sa ∧ ST H4 (upd H5 D2 (.lst (acc ++ [.ref v]))) ∧
        ∃ as ss, upd H5 D2 (.lst (acc ++ [.ref v])) D2 = some (.lst (as.map V.ref)) ∧ StepsAt (upd H5 D2 (.lst (acc ++ [.ref v]))) as ss ∧ (∀ s ∈ ss, OkS p s) ∧ ss.length = j + 1) := by
      intro H5 v stp k5 row5 t5 hv okv
      have hD5 := k5 _ _ (by simpa using D2r) hDd
      have t6 : ST H5 (upd H5 D2 (.lst (as.map V.ref ++ [.ref v]))) := fun b xs e => by
        have hb : b ≠ D2 := fun z => by
          rw [z, hD5] at e
          cases e
        rw [upd_ne hb]
        exact e
      have al := hss.len
      refine ⟨as.map V.ref, hD5, by rw [List.length_map]; exact small16 (by omega), (kd.trans k5).add nD2, row4.put nD2 row5, td.trans (t5.trans t6), as ++ [v], ss ++ [stp], by rw [upd_same, List.map_append]; rfl, ((hss.st t5).st t6).add (hv.st t6), fun s hs => ?_, by simp [sl]⟩
      rcases List.mem_append.mp hs with h | h
      · exact oks s h
      · rw [List.mem_singleton.mp h]
        exact okv
    have hatd := hat.st td
    obtain ⟨ag, g1, g2⟩ := id hatd
    refine ⟨rfl, ?_⟩
    refine lcYes ?_
    refine ⟨_, rfl, b, _, _, _, rfl, rfl, SqT.of g1, atI0, rfl, _, rfl, ?_⟩
    refine ite2 (fun z => ?_) (fun z => ?_)
    · refine ⟨_, rfl, r, 4, sa, rfl, rowd, by decide, by decide, fun H5 t k5 row5 t0 t4 => ⟨_, _, rfl, rfl, _, rfl, ?_⟩⟩
      have t5 := rowd.st k5
      refine ite2 (fun z2 => ?_) (fun z2 => ?_)
      · refine ⟨by show 2 ≤ sizeLine; decide, fun v nv => ?_⟩
        have s6 := same_new (o := .tup [.str "bath", .int 1]) (Same.refl H5) nv
        have hv : upd H5 v (.tup [.str "bath", .int 1]) v = some (.tup [.str "bath", .int 1]) := upd_same
        generalize upd H5 v (.tup [.str "bath", .int 1]) = H6 at s6 hv ⊢
        exact fin (stp := .bath 1) (k5.trans (Kp.of s6)) (row5.same s6) (t5.trans (ST.of s6)) ⟨_, hv, rfl⟩ ⟨by decide, by decide⟩
      · exact ⟨_, rfl, fin k5 row5 t5 (hatd.st t5) okst⟩
    · exact ⟨_, rfl, fin (Kp.refl _ _) rowd (fun _ _ e => e) hatd okst⟩
  rintro H5 ⟨kd5, row5, t45, as, ss, hD5, hss5, oks, sl⟩
  have al := hss5.len
  rw [List.length_map, hst0.len] at sl
  refine ⟨D2, _, rfl, .inl ⟨.inl (.inl hD5), fun rc nrc => ?_⟩⟩
  have s6 := same_new (o := .tup (as.map V.ref)) (Same.refl H5) nrc
  have hrc : upd H5 rc (.tup (as.map V.ref)) rc = some (.tup (as.map V.ref)) := upd_same
  generalize upd H5 rc (.tup (as.map V.ref)) = H6 at s6 hrc ⊢
  have hss6 := hss5.same s6
  have hre6 : RecAt H6 rc p ss := ⟨⟨as, hrc, hss6⟩, oks, by omega⟩
  have row6 := row5.same s6
  have hp6 := (row4.pl kd5 hp4).same s6
  have hdd6 : TupI H6 dd ds := s6 _ _ (t45 _ _ hdd4)
  have few6 := hre6.few
  -- the work
  refine ⟨_, rfl, _, rfl, fun x dx nx ndx nex => ?_⟩
  have s7 : Same H6 (upd (upd H6 dx (.own x)) x (.ins T.cW dx [])) := same_add (same_add (Same.refl _) ndx) nx
  refine ⟨x, dx, a, dd, p, ds, rfl, upd_same, hp6.same s7, k, s7 _ _ hdd6, okd, fun H7 st k7 nst hwk7 => ⟨rfl, ?_⟩⟩
  have s67 : Same H6 H7 := Kp.same s7 k7 fun b hb => by
    rw [List.mem_singleton.mp hb]
    exact nx
  have nst6 : H6 st = none := s7.free nst
  refine ⟨_, rfl, _, rfl, _, rfl, a, dd, rc, p, ds, ss, rfl, hp6.same s67, k, s67 _ _ hdd6, okd, hre6.same s67, runPost0_of fun H8 told s8 ht8 => ?_⟩
  have s68 := s67.trans s8
  refine ⟨Nat.zero_le _, fun S nS => ?_⟩
  have s9 := same_new (o := .lst []) (Same.refl H8) nS
  have hS9 : upd H8 S (.lst []) S = some (.lst ([].map V.ref)) := upd_same
  generalize upd H8 S (.lst []) = H9 at s9 hS9 ⊢
  have nS6 : H6 S = none := s68.free nS
  refine ⟨by show 4 ≤ sizeLine; decide, fun tp ntp => ?_⟩
  have s10 := same_new (o := .tup [.ref x, told, .ref S, .int 0]) (Same.refl H9) ntp
  have htp : upd H9 tp (.tup [.ref x, told, .ref S, .int 0]) tp = some (.tup [.ref x, told, .ref S, .int 0]) := upd_same
  generalize upd H9 tp (.tup [.ref x, told, .ref S, .int 0]) = H10 at s10 htp ⊢
  refine ⟨tp, _, rfl, SqT.of htp, rfl, _, _, rfl, _, _, rfl, _, _, rfl, _, _, rfl, rfl, ?_⟩
  have s610 := s68.trans (s9.trans s10)
  have new3 : ∀ b ∈ [st, x, S], H6 b = none := fun b hb => by
    rcases List.mem_cons.mp hb with z | z
    · rw [z]
      exact nst6
    rcases List.mem_cons.mp z with z | z
    · rw [z]
      exact nx
    · rw [List.mem_singleton.mp z]
      exact nS6
  have ast : a ≠ st := fun z => by
    obtain ⟨_, _, _, h1, _⟩ := hp6.ex
    rw [z, nst6] at h1
    cases h1
  -- the steps
  refine ⟨_, rfl, rc, _, rfl, SqT.of (s610 _ _ hrc), for_it (walk_eT (xs := as.map V.ref)) (fun j σ Hc => ∃ u10 u11 u12 u13 u14 u15, ∃ bs : List Addr, ∃ F ps m, σ = [some (.ref sa), some (.ref r), some (.int (0 + (i : Nat))), some (.ref a), some (.ref dd), some (.ref rc), some (.ref x), some told, some (.ref S), some (.int F.time), u10, u11, u12, u13, u14, u15] ∧
      Same H6 Hc ∧ ToldAt Hc told (runFrom p ss 0 ds []) ∧ Hc S = some (.lst (bs.map V.ref)) ∧ TupsAt Hc bs F.pulls ∧ WkAt T.cW T.cS Hc x a st F ps m ∧ OkD p F.ds ∧ OkC p F.cs ∧ ps.length = 2 * j ∧ F.pulls.length = j ∧ F.time = sumT (ss.take j) ∧ m = 0 ∧
      runFrom p ss 0 ds [] = runFrom p (ss.drop j) j F.ds F.cs ∧ courseFrom p ss ds [] = F.pulls ++ courseFrom p (ss.drop j) F.ds F.cs)
    ⟨u10, u11, u12, u13, u14, u15, [], ⟨ds, [], [], 0⟩, [], 0, rfl, s610, (ht8.st (ST.of (s9.trans s10))), s10 _ _ hS9, .nil, hwk7.same (s8.trans (s9.trans s10)), okd, .nil, rfl, rfl, rfl, rfl, rfl, rfl⟩ (fun j σ Hc _ pc => ?_) ?_ ?_⟩
  · obtain ⟨_, _, _, _, _, _, _, _, _, _, _, sc, _⟩ := pc
    exact SqT.of (sc _ _ hrc)
  · rintro j y σ Ha Hb hj ⟨u10, u11, u12, u13, u14, u15, bs, F, ps, m, rfl, sa6, hta, hSa, htu, hwk, okdF, okcF, pl, ppl, ft, em, er, ec⟩ ⟨Tt, x1, x2, rfl, nT, rfl, e1, e2⟩
    cases e1
    obtain ⟨b, hb, rfl⟩ := refs_get e2
    obtain ⟨stp, hstp, hat⟩ := hss6.at_ j b hb
    have hj2 : j < ss.length := (List.getElem?_eq_some_iff.mp hstp).1
    have okst := oks stp (List.mem_of_getElem? hstp)
    have sT := same_new (o := .tup [.int (j : Nat), .ref b]) (Same.refl Ha) nT
    have hTt : upd Ha Tt (.tup [.int (j : Nat), .ref b]) Tt = some (.tup [.int (j : Nat), .ref b]) := upd_same
    generalize upd Ha Tt (.tup [.int (j : Nat), .ref b]) = Hb at sT hTt ⊢
    refine ⟨Tt, _, rfl, SqT.of hTt, rfl, _, _, rfl, _, _, rfl, rfl, ?_⟩
    have hwkb := hwk.same sT
    refine nowJ rfl hwkb fun bd hbd => covJ rfl hwkb fun bc hbc => ⟨by show 2 ≤ sizeLine; decide, fun bf nbf => ?_⟩
    have sF := same_new (o := .tup [.ref bd, .ref bc]) (Same.refl Hb) nbf
    have hbf : upd Hb bf (.tup [.ref bd, .ref bc]) bf = some (.tup [.ref bd, .ref bc]) := upd_same
    generalize upd Hb bf (.tup [.ref bd, .ref bc]) = Hf at sF hbf ⊢
    have sTF := sT.trans sF
    have s6f := sa6.trans sTF
    have ed : ss.drop j = stp :: ss.drop (j + 1) := by
      have e3 : ss[j] = stp := (List.getElem?_eq_some_iff.mp hstp).2
      rw [List.drop_eq_getElem_cons hj2, e3]
    refine rd_try T ⟨hwk.same sTF, hp6.same s6f, k, ast, okdF, okcF, hat.same s6f, okst, hbf, sF _ _ hbd, sF _ _ hbc, sTF _ _ hSa, htu.same sTF, by omega, by omega⟩ (fun ea => ?_) (fun z ea H' m' v d1 k' hm hwk' t' hS' htu' => ?_)
    · have er2 : runFrom p ss 0 ds [] = .error j := by
        rw [er, ed]
        unfold runFrom
        rw [ea]
      rw [er2] at hta
      exact ⟨hta, q⟩
    · have ok2 := afterStep_ok k okdF okcF okst ea
      rw [ed] at er ec
      refine ⟨_, _, _, _, _, _, bs ++ [d1], ⟨z.1, z.2, F.pulls ++ [z.1], F.time + tmOf stp⟩, _, m', rfl, Kp.same s6f k' new3, (hta.st (ST.of sTF)).st t', hS', htu', hwk', ok2.1, ok2.2, by simp [pl]; omega, by simp [ppl], ?_, by omega, ?_, ?_⟩
      · show F.time + tmOf stp = _
        rw [ft, sumT_take hstp]
      · rw [er]
        conv => lhs; unfold runFrom
        rw [ea]
      · rw [ec]
        conv => lhs; unfold courseFrom
        rw [ea, List.append_assoc]
        rfl
  rintro σ Ha ⟨u10, u11, u12, u13, u14, u15, bs, F, ps, m, rfl, sa6, hta, hSa, htu, hwk, okdF, okcF, pl, ppl, ft, em, er, ec⟩
  have en : (as.map V.ref).length = ss.length := by rw [List.length_map, al]
  rw [en] at pl ppl ft er ec
  rw [List.drop_length] at er ec
  rw [List.take_length] at ft
  rw [show runFrom p [] ss.length F.ds F.cs = .ok (F.ds, F.cs) from rfl] at er
  rw [show courseFrom p [] F.ds F.cs = [] from rfl, List.append_nil] at ec
  rw [er] at hta
  obtain ⟨tt, td, tc, etold, ht1, ht2, ht3⟩ := hta
  subst etold
  subst em
  have few' : ps.length ≤ 12 := by omega
  -- what the recipe's run and course tell
  refine ⟨_, rfl, nowJ rfl hwk fun e1 h1 => covJ rfl hwk fun e2 h2 => ⟨by show 2 ≤ sizeLine; decide, fun q1 nq1 => ?_⟩⟩
  have sa1 := same_new (o := .tup [.ref e1, .ref e2]) (Same.refl Ha) nq1
  have hq1 : upd Ha q1 (.tup [.ref e1, .ref e2]) q1 = some (.tup [.ref e1, .ref e2]) := upd_same
  generalize upd Ha q1 (.tup [.ref e1, .ref e2]) = Hb at sa1 hq1 ⊢
  refine ⟨_, _, dpPair (sa1 _ _ ht1) (sa1 _ _ ht2) (sa1 _ _ ht3), dpPair hq1 (sa1 _ _ h1) (sa1 _ _ h2), (nicePair _ _).sh, (nicePair _ _).sh, false, noNe (nicePair _ _), iteF ?_⟩
  have s6b := sa6.trans sa1
  refine ⟨_, rfl, _, rfl, _, rfl, a, dd, rc, p, ds, ss, (F.ds, F.cs), rfl, hp6.same s6b, k, s6b _ _ hdd6, okd, hre6.same s6b, er, fun Hc0 bs2 sc htu2 => fun l nl => ?_⟩
  rw [ec] at htu2
  have sl2 := same_new (o := .lst (bs2.map V.ref)) (Same.refl Hc0) nl
  have hl2 : upd Hc0 l (.lst (bs2.map V.ref)) l = some (.lst (bs2.map V.ref)) := upd_same
  generalize upd Hc0 l (.lst (bs2.map V.ref)) = Hd at sl2 hl2 ⊢
  have sad := sa1.trans (sc.trans sl2)
  refine ⟨_, rfl, _, _, .lst (.inl (.inl hl2)) (htu2.same sl2).dp, .lst (.inl (.inl (sad _ _ hSa))) (htu.same sad).dp, (niceTups _).sh, (niceTups _).sh, false, noNe (niceTups _), iteF ?_⟩
  -- the work's own tale
  refine pulJ rfl (hwk.same sad) fun He l3 bs3 se hl3 htu3 => ?_
  have sae := sad.trans se
  refine ⟨_, rfl, _, _, .lst (.inl (.inl hl3)) htu3.dp, .lst (.inl (.inl (sae _ _ hSa))) (htu.same sae).dp, (niceTups _).sh, (niceTups _).sh, false, noNe (niceTups _), iteF ?_⟩
  refine timJ rfl (hwk.same sae) ⟨_, rfl, rfl, _, rfl, iteNS rfl ?_⟩
  obtain ⟨dw, hw⟩ := (hwk.same sae).w
  refine ⟨_, rfl, x, dw, _, rfl, hw, x, a, st, F, ps, 0, rfl, hwk.same sae, by omega, fun Hf l4 xs4 sf hl4 hxl4 => ⟨l4, _, rfl, .inl (.inl (.inl hl4)), ?_⟩⟩
  have saf := sae.trans sf
  have s6f := sa6.trans saf
  refine ⟨_, rfl, rc, _, rfl, .inr (SqT.of (s6f _ _ hrc)), _, _, rfl, rfl, .inl ⟨by decide, by decide⟩, rfl, _, rfl, iteNS (congrArg V.int ?_) ?_⟩
  · rw [hxl4, pl, en]
    omega
  -- replay
  refine ⟨rfl, _, rfl, _, rfl, _, rfl, rc, _, rfl, .inr (SqT.of (s6f _ _ hrc)), fun l5 nl5 => ?_⟩
  have sg5 := same_new (o := .lst (as.map V.ref)) (Same.refl Hf) nl5
  have hl5 : upd Hf l5 (.lst (as.map V.ref)) l5 = some (.lst (as.map V.ref)) := upd_same
  generalize upd Hf l5 (.lst (as.map V.ref)) = Hh at sg5 hl5 ⊢
  have sah := saf.trans sg5
  have s6h := sa6.trans sah
  obtain ⟨G, tr, g1, gd, gc, gt, gl, g0⟩ := opRun_steps ss 0 ds [] [] 0 [] (F.ds, F.cs) er
  have gt' : G.time = F.time := by
    rw [gt, ft]
    omega
  refine ⟨a, dd, l5, p, ds, as, ss.map some, (G, [] ++ tr), rfl, hp6.same s6h, k, s6h _ _ hdd6, okd, hl5, ⟨by simp [al], fun j o e => ?_⟩, fun s' hs' => ?_, by simp; omega, g1, fun Hi ag sg si nag nsg hwk2 => ?_⟩
  · obtain ⟨st', e1', e2'⟩ := hss6.at_ j o e
    exact ⟨some st', by rw [List.getElem?_map, e1']; rfl, e2'.same s6h⟩
  · obtain ⟨y, hy, e⟩ := List.mem_map.mp hs'
    cases e
    exact oks _ hy
  have hwk2 : WkAt T.cW T.cS Hi ag a sg G tr 0 := hwk2
  have sai := sah.trans si
  have hwk3 := hwk.same sai
  refine nowJ rfl hwk2 fun f1 j1 => covJ rfl hwk2 fun f2 j2 => timJ rfl hwk2 ⟨by show 3 ≤ sizeLine; decide, fun q2 nq2 => ?_⟩
  have sj := same_new (o := .tup [.ref f1, .ref f2, .int G.time]) (Same.refl Hi) nq2
  have hq2 : upd Hi q2 (.tup [.ref f1, .ref f2, .int G.time]) q2 = some (.tup [.ref f1, .ref f2, .int G.time]) := upd_same
  generalize upd Hi q2 (.tup [.ref f1, .ref f2, .int G.time]) = Hj at sj hq2 ⊢
  refine nowJ rfl (hwk3.same sj) fun f3 j3 => covJ rfl (hwk3.same sj) fun f4 j4 => ⟨_, rfl, by show 3 ≤ sizeLine; decide, fun q3 nq3 => ?_⟩
  have sk := same_new (o := .tup [.ref f3, .ref f4, .int F.time]) (Same.refl Hj) nq3
  have hq3 : upd Hj q3 (.tup [.ref f3, .ref f4, .int F.time]) q3 = some (.tup [.ref f3, .ref f4, .int F.time]) := upd_same
  generalize upd Hj q3 (.tup [.ref f3, .ref f4, .int F.time]) = Hk at sk hq3 ⊢
  rw [gt'] at hq2
  rw [gd] at j1
  rw [gc] at j2
  have sik := sj.trans sk
  refine ⟨_, _, dpTri (sk _ _ hq2) (sik _ _ j1) (sik _ _ j2), dpTri hq3 (sk _ _ j3) (sk _ _ j4), (niceTri _ _ _).sh, (niceTri _ _ _).sh, false, noNe (niceTri _ _ _), iteF ?_⟩
  -- back to the start
  have shk := si.trans sik
  have s6k := s6h.trans shk
  have hwkK := hwk2.same sik
  refine ⟨_, rfl, rc, rfl, ⟨_, SqT.of (s6k _ _ hrc)⟩, fun D3 nD3 => ?_⟩
  have D3h : Hh D3 = none := shk.free nD3
  refine lc_tup (xs := as.map V.ref) (fun j Hd => Same Hh Hd ∧ Hd D3 = some (.lst (trues j)) ∧ ∃ Fj, WkAt T.cW T.cS Hd ag a sg Fj (tr.take (ss.length - j)) j ∧ (tr ++ [G])[ss.length - j]? = some Fj)
    ⟨same_add shk D3h, upd_same, G, ?_, ?_⟩ (fun j Hd _ pd => SqT.of (pd.1 _ _ (s6h _ _ hrc))) ?_ ?_
  · rw [Nat.sub_zero, ← gl, List.take_length]
    exact hwkK.same (same_add (Same.refl _) nD3)
  · rw [Nat.sub_zero, ← gl, List.getElem?_append_right (Nat.le_refl _), Nat.sub_self]
    rfl
  · rintro j y Hd hy ⟨sd, hDd, Fj, hwj, hFj⟩
    have hjl : j < ss.length := by
      have := (List.getElem?_eq_some_iff.mp hy).1
      omega
    refine ⟨rfl, ?_⟩
    refine lcYes ?_
    obtain ⟨dwj, hwjj⟩ := hwj.w
    have elem : tr[ss.length - (j + 1)]? = some (tr[ss.length - (j + 1)]'(by omega)) := List.getElem?_eq_getElem (by omega)
    have etk : tr.take (ss.length - j) = tr.take (ss.length - (j + 1)) ++ [tr[ss.length - (j + 1)]'(by omega)] := by
      have e : ss.length - j = (ss.length - (j + 1)) + 1 := by omega
      rw [e]
      exact takeStep elem
    refine ⟨_, rfl, ag, dwj, _, rfl, hwjj, wkF_no (by decide +kernel) (by decide +kernel), ag, a, sg, Fj, _, j, rfl, hwj, by rw [List.length_take]; omega, by omega, fun e => ?_, fun ps' G' e H' k' hwk' => ?_⟩
    · rw [etk] at e
      exact absurd e (List.append_ne_nil_of_right_ne_nil _ (List.cons_ne_nil _ _))
    · rw [etk] at e
      obtain ⟨e3, e4⟩ := List.append_inj' e rfl
      cases e4
      have sH' : Same Hh H' := Kp.same sd k' fun b hb => by
        rw [List.mem_singleton.mp hb]
        exact nsg
      have Dsg : D3 ≠ sg := fun z => by
        obtain ⟨_, _, _, _, _, _, og, _⟩ := hwj.s.ex
        have h2 := og.o
        rw [← z, hDd] at h2
        have z' : HO.lst _ = HO.ext _ := Option.some.inj h2
        cases z'
      have hD' := k' _ _ (by simpa using Dsg) hDd
      refine ⟨trues j, hD', by rw [trues_len]; exact small16 (by omega), same_add sH' D3h, ?_, tr[ss.length - (j + 1)]'(by omega), ?_, ?_⟩
      · rw [upd_same, trues_succ]
      · rw [e3]
        have kD : Kp [D3] H' (upd H' D3 (.lst (trues j ++ [.bl true]))) := (Kp.refl _ _).put (List.mem_singleton_self _)
        refine hwk'.kp (fun b ys e => ?_) kD (fun z => ?_) (by simpa using Dsg.symm) (fun b hb e => ?_)
        · have hb : b ≠ D3 := fun z => by
            rw [z, hD'] at e
            cases e
          rw [upd_ne hb]
          exact e
        · obtain ⟨_, e⟩ := hwk'.w
          rw [List.mem_singleton.mp z, hD'] at e
          cases e
        · rw [List.mem_singleton.mp hb, hD'] at e
          cases e
      · rw [List.getElem?_append_left (by omega)]
        exact elem
  rintro Hl ⟨sl1, hD3, Fn, hwn, hFn⟩
  rw [en] at hD3 hwn hFn
  rw [Nat.sub_self] at hwn hFn
  rw [List.take_zero] at hwn
  rw [g0] at hFn
  cases hFn
  refine ⟨by show 1 ≤ sizeLine; decide, fun L1 nL1 => ?_⟩
  have sL1 := same_new (o := .lst [.bl true]) (Same.refl Hl) nL1
  have hL1 : upd Hl L1 (.lst [.bl true]) L1 = some (.lst [.bl true]) := upd_same
  generalize upd Hl L1 (.lst [.bl true]) = Hm at sL1 hL1 ⊢
  have s6m := s6h.trans (sl1.trans sL1)
  refine ⟨_, rfl, rc, _, rfl, .inr (SqT.of (s6m _ _ hrc)), L1, _, _, rfl, rfl, hL1, by omega, by omega, ?_, fun p2 np2 => ?_⟩
  · rw [en]
    show 1 * ((ss.length : Nat) : Int).toNat ≤ sizeLine
    exact Nat.le_of_lt (small16 (by omega))
  have efl : (List.replicate (((as.map V.ref).length : Nat) : Int).toNat [V.bl true]).flatten = trues ss.length := by
    rw [en, Int.toNat_natCast]
    unfold trues
    generalize ss.length = n
    induction n with
    | zero => rfl
    | succ n ih => rw [List.replicate_succ, List.flatten_cons, ih]; rfl
  rw [efl]
  have sp2 := same_new (o := .lst (trues ss.length)) (Same.refl Hm) np2
  have hp2 : upd Hm p2 (.lst (trues ss.length)) p2 = some (.lst (trues ss.length)) := upd_same
  generalize upd Hm p2 (.lst (trues ss.length)) = Hn at sp2 hp2 ⊢
  have sln := sL1.trans sp2
  refine ⟨_, _, dpTrues (sln _ _ hD3), dpTrues hp2, (niceTrues _).sh, (niceTrues _).sh, false, noNe (niceTrues _), iteF ?_⟩
  have hwnn := hwn.same sln
  obtain ⟨dwn, hwn2⟩ := hwnn.w
  refine ⟨_, rfl, ag, dwn, _, rfl, hwn2, wkF_no (by decide +kernel) (by decide +kernel), ag, a, sg, _, [], ss.length, rfl, hwnn, by decide, by omega, fun _ Ho so => ?_, fun ps' G' e => by simp at e⟩
  refine ⟨false, rfl, iteF ?_⟩
  have slo := sln.trans so
  have sho := sl1.trans slo
  have s6o := s6h.trans sho
  refine nowJ rfl (hwnn.same so) fun f5 j5 => ⟨_, rfl, _, _, dpInts j5, dpInts (s6o _ _ hdd6), (niceTup _).sh, (niceTup _).sh, false, noNe (niceTup ds), iteF ?_⟩
  -- a wash and a pull
  have hwko := hwk.same (sah.trans sho)
  obtain ⟨dwo, hwo⟩ := hwko.w
  refine ⟨_, rfl, x, dwo, _, rfl, hwo, wkF_no (by decide +kernel) (by decide +kernel), x, a, st, F, ps, 0, p, .wash, [], rfl, rfl, rfl, ⟨hwko, hp6.same s6o, k, ast, okdF, okcF, True.intro, by omega⟩, ?_⟩
  show OpPost T.cW T.cS T.cX Ho x a st F ps _ _ (tmOf .wash) (some (F.ds, []))
  intro Hp kp hwkp v Hq sq hv
  have hv : v = .int 0 := hv
  subst hv
  refine ⟨rfl, _, rfl, iteNS rfl ?_⟩
  have new1 : ∀ b ∈ [st], H6 b = none := fun b hb => by
    rw [List.mem_singleton.mp hb]
    exact nst6
  have s6q : Same H6 Hq := (Kp.same s6o kp new1).trans sq
  have hwkq := hwkp.same sq
  refine covJ rfl hwkq fun f6 j6 => ⟨Nat.zero_le _, fun u nu => ?_⟩
  have sr := same_new (o := .tup []) (Same.refl Hq) nu
  refine ⟨_, _, dpInts (sr _ _ j6), .tup (SqT.of upd_same) .nil, rfl, rfl, false, rfl, iteF ?_⟩
  generalize upd Hq u (.tup []) = Hs at sr ⊢
  have hwks := hwkq.same sr
  obtain ⟨dws, hws⟩ := hwks.w
  refine ⟨_, rfl, x, dws, _, rfl, hws, wkF_no (by decide +kernel) (by decide +kernel), x, a, st, _, _, 0, rfl, hwks, by simp; omega, by show F.pulls.length ≤ 100; omega, fun Ht d7 kt hwkt hd7 => ?_⟩
  refine nowJ rfl hwkt fun f8 j8 => ⟨_, _, dpInts hd7, dpInts j8, (niceTup _).sh, (niceTup _).sh, false, noNe (niceTup _), iteF ?_⟩
  exact ⟨⟨_, rfl, rfl⟩, row6.same (Kp.same (s6q.trans sr) kt new1)⟩
end
end M57
/-! The head: what the top leaves. Printed by kh.py. -/
namespace K57H
open PySem PySem.W PySem.Calls PyProof.Rows L2 M57 He
abbrev R : OpenRow := OpenLaw.row PySem.Challenge.rw_bittenplates_k57_whole_works_and_recipes
abbrev qv : Program := view R.prog [56]
def names1 : List PySem.Str := ["_wall", "EtchError", "InvalidPlate", "InvalidDepths", "InvalidRecipe", "Spoilt", "InvalidStep", "InvalidName", "UnknownKept", "InvalidOperation", "MAX_SIDE", "MAX_CELLS", "MAX_DEPTH", "MAX_STEPS", "BATH", "BURNISH", "COVER", "SCRAPE", "WASH", "is_number", "Plate", "pairs_of", "are_depths", "check_depths", "are_cells", "is_step"]
def names2 : List PySem.Str := ["wrong_step", "check_recipe", "fallen_depth", "falls", "ridges", "settled", "bathed", "varnished", "after_step", "run", "bitten", "course", "LETTERS", "MAX_LETTERS", "SIZES", "is_operation", "is_name", "State", "Work", "Trial", "_law_taken", "_law_plate", "_law_depths", "_law_recipe", "_law_run"]
def names : List PySem.Str := names1 ++ names2
/-! ### facts of one's own -/
def scB (x : PySem.Str) (K : Frag) : Bool := plainGet K (ga K x) Str.empty && (isClsIn K (ga K x) && (plainOver K (ga K x) && eqO (findIn K (.ref (ga K x)) "__setattr__") (some (some (.builtin "object.__setattr__")))))
theorem scB_ok {x : PySem.Str} {K : Frag} (h : scB x K = true) : SlX.SCls K (ga K x) := by
  obtain ⟨h1, h⟩ := ba h
  obtain ⟨h2, h⟩ := ba h
  obtain ⟨h3, h4⟩ := ba h
  exact ⟨h1, h2, h3, eqO_ok h4⟩
def slB (x f : PySem.Str) (i : Nat) (K : Frag) : Bool := eqO (findIn K (.ref (ga K x)) f) (some (some (.ref (ma K (ga K x) f)))) && (eqO (specialIn K (.ref (ma K (ga K x) f)) "__get__") (some (some (.builtin "member_descriptor.__get__"))) &&
  (decide (takesIn K (.ref (ma K (ga K x) f)) = some true) && (decide (typeIn K (.ref (ma K (ga K x) f)) = some (.type "member_descriptor")) && (decide (slotIn K (ma K (ga K x) f) (ga K x) = some i) && decide (i < 1000)))))
theorem slB_ok {x f : PySem.Str} {i : Nat} {K : Frag} (h : slB x f i K = true) : SlX.Slot1 K (ga K x) f (ma K (ga K x) f) i := by
  obtain ⟨h1, h⟩ := ba h
  obtain ⟨h2, h⟩ := ba h
  obtain ⟨h3, h⟩ := ba h
  obtain ⟨h4, h⟩ := ba h
  obtain ⟨h5, h6⟩ := ba h
  exact ⟨eqO_ok h1, eqO_ok h2, of_decide_eq_true h3, of_decide_eq_true h4, of_decide_eq_true h5, of_decide_eq_true h6⟩
def prB (x f : PySem.Str) (K : Frag) : Bool := eqO (findIn K (.ref (ga K x)) f) (some (some (.ref (ma K (ga K x) f)))) && (eqO (specialIn K (.ref (ma K (ga K x) f)) "__get__") (some (some (.builtin "property.__get__"))) &&
  (decide (takesIn K (.ref (ma K (ga K x) f)) = some true) && (match recIn K (ma K (ga K x) f) "property" with
    | some (.ref _ :: _) => true
    | _ => false)))
theorem prB_ok {x f : PySem.Str} {K : Frag} (h : prB x f K = true) : PropOf K (ga K x) f (ma K (ga K x) f) (He5.wf K (ga K x) "property" f) := by
  obtain ⟨h1, h⟩ := ba h
  obtain ⟨h2, h⟩ := ba h
  obtain ⟨h3, h4⟩ := ba h
  refine ⟨eqO_ok h1, eqO_ok h2, of_decide_eq_true h3, ?_⟩
  unfold He5.wf
  split at h4
  · rename_i f r e
    exact ⟨r, by rw [e]⟩
  · cases h4
def rdB (x : PySem.Str) (K : Frag) : Bool := readsIn K (ga K x) (.type "type")
theorem rdB_ok {x : PySem.Str} {K : Frag} (h : rdB x K = true) : ClX.CRead K (ga K x) (.type "type") := by
  have h : readsIn K (ga K x) (.type "type") = true := h
  refine ⟨h, ?_⟩
  unfold readsIn at h
  obtain ⟨h, _⟩ := ba h
  obtain ⟨h, _⟩ := ba h
  obtain ⟨h, h3⟩ := ba h
  obtain ⟨_, h2⟩ := ba h
  unfold specialIn
  rw [beq_iff_eq.mp h2, Option.bind_some]
  exact beq_iff_eq.mp h3
def cmB (K : Frag) : Bool := He5.wrapB K (ga K "Work") "classmethod" "classmethod.__get__" "replay" && fnIn K (He5.wf K (ga K "Work") "classmethod" "replay")
theorem cmB_ok {K : Frag} (h : cmB K = true) : ClX.CMet K (ga K "Work") (.type "type") "replay" (ma K (ga K "Work") "replay") (He5.wf K (ga K "Work") "classmethod" "replay") := by
  obtain ⟨h1, h2⟩ := ba h
  exact He5.cmet_of h1 h2
def ieB (K : Frag) : Bool := match findCls K (.ref (ga K "EtchError")) (.type "type") "__init__" with
  | some (.val (.builtin n)) => decide (n = "ValueError.__init__")
  | _ => false
theorem ieB_ok {K : Frag} (h : ieB K = true) : findCls K (.ref (ga K "EtchError")) (.type "type") "__init__" = some (.val (.builtin "ValueError.__init__")) := by
  unfold ieB at h
  split at h
  · rename_i n e
    rw [e, of_decide_eq_true h]
  · cases h
theorem mroB {l : List Value} {C : Addr} (h : (match l with
    | .ref c' :: bm => decide (c' = C) && PySem.HandSPX.refsVE bm
    | _ => false) = true) : ∃ bm, l = .ref C :: bm ∧ PySem.HandSPX.refsVE bm = true := by
  split at h
  · rename_i c' bm
    obtain ⟨h1, h2⟩ := ba h
    exact ⟨bm, by rw [of_decide_eq_true h1], h2⟩
  · cases h
theorem slotB {l : List (Option Value)} (h : (match l with
    | [_, _, _, _, some (.builtin n), _] => decide (n = "ValueError.__new__")
    | _ => false) = true) : ∃ k0 k1 k2 k3 k5, l = [k0, k1, k2, k3, some (.builtin "ValueError.__new__"), k5] := by
  split at h
  · rename_i k0 k1 k2 k3 n k5
    exact ⟨k0, k1, k2, k3, k5, by rw [of_decide_eq_true h]⟩
  · cases h
def oeB (x : PySem.Str) (K : Frag) : Bool := (match K.lookup (ga K x) with
  | some ⟨.type c, _, .cls cd, sl⟩ => decide (c = "type") && (cd.hasDict && (!cd.hasDel && ((match cd.mro with
    | .ref c' :: bm => decide (c' = ga K x) && PySem.HandSPX.refsVE bm
    | _ => false) && (match sl.toList with
    | [_, _, _, _, some (.builtin n), _] => decide (n = "ValueError.__new__")
    | _ => false))))
  | _ => false) && (eqO (findIn K (.ref (ga K x)) "__setattr__") (some (some (.builtin "object.__setattr__"))) && (decide (subIn K (.ref (ga K x)) (.type "BaseException") = some true) && (decide (typeIn K (.ref (ga K x)) = some (.type "type")) && keepIn K (.ref (ga K x)))))
theorem oeB_ok {x : PySem.Str} {K : Frag} (h : oeB x K = true) : OexC K (ga K x) := by
  obtain ⟨h1, h⟩ := ba h
  obtain ⟨h2, h⟩ := ba h
  obtain ⟨h3, h⟩ := ba h
  obtain ⟨h4, h5⟩ := ba h
  refine ⟨?_, eqO_ok h2, of_decide_eq_true h3, of_decide_eq_true h4, h5⟩
  split at h1
  · rename_i c dd cd sl e
    obtain ⟨nm, bs, mro, ns, qn, hd, sn, sub, ab, col, del⟩ := cd
    obtain ⟨g1, g⟩ := ba h1
    obtain ⟨g2, g⟩ := ba g
    obtain ⟨g3, g⟩ := ba g
    obtain ⟨g4, g5⟩ := ba g
    obtain ⟨bm, em, g7⟩ := mroB g4
    obtain ⟨k0, k1, k2, k3, k5, es⟩ := slotB g5
    have em : mro = .ref (ga K x) :: bm := em
    have esl : sl = #[k0, k1, k2, k3, some (.builtin "ValueError.__new__"), k5] := by
      obtain ⟨l⟩ := sl
      exact congrArg Array.mk es
    have e1 := of_decide_eq_true g1
    have e2 : del = false := by simpa using g3
    have e5 : hd = true := g2
    subst e1 e2 em esl e5
    exact ⟨nm, qn, ns, bs, bm, sn, sub, ab, col, dd, k0, k1, k2, k3, k5, e, g7⟩
  · cases h1
def xfK (x : PySem.Str) (K : Frag) : Bool := xfB K (ga K x)
def ixB (K : Frag) : Bool := eqO (findIn K (.ref (ga K "Spoilt")) "__init__") (some (some (.ref (ma K (ga K "Spoilt") "__init__")))) && decide (typeIn K (.ref (ma K (ga K "Spoilt") "__init__")) = some (.type "function"))
def szL : List (PySem.Str × He.Dv) := [("bath", .int 2), ("burnish", .int 2), ("cover", .int 2), ("scrape", .int 2), ("wash", .int 1), ("pull", .int 1)]
def szB (K : Frag) : Bool := valsB K (ga K "SIZES") szL
/-! ### the data -/
def dG (x : PySem.Str) (i : Nat) : He5.DefA := ⟨fun K => ga K x, x, x, defArgs (topS i), defBody (topS i), defScope (topS i), [], []⟩
def dM (C m q : PySem.Str) (i j : Nat) (dfl : List He.Dv) : He5.DefA := ⟨fun K => ma K (ga K C) m, m, q, defArgs (inClass (topS i) j), defBody (inClass (topS i) j), defScope (inClass (topS i) j), dfl, []⟩
def dW (T : String) (C m q : PySem.Str) (i j : Nat) : He5.DefA := ⟨fun K => He5.wf K (ga K C) T m, m, q, defArgs (inClass (topS i) j), defBody (inClass (topS i) j), defScope (inClass (topS i) j), [], []⟩
def fa : List Fa := [.free "isinstance", .free "int", .free "bool", .free "tuple", .free "str", .free "len", .free "all", .free "range", .free "zip", .free "enumerate", .free "min", .free "max", .free "list", .free "sorted", .free "set", .int "MAX_SIDE" 4, .int "MAX_CELLS" 9, .int "MAX_DEPTH" 9, .int "MAX_STEPS" 40, .str "BATH" "bath", .str "BURNISH" "burnish", .str "COVER" "cover", .str "SCRAPE" "scrape", .str "WASH" "wash", .glo "is_number", .glo "pairs_of", .glo "are_depths", .glo "check_depths", .glo "are_cells", .glo "is_step", .glo "wrong_step", .glo "check_recipe", .glo "fallen_depth", .glo "falls", .glo "ridges", .glo "settled", .glo "bathed", .glo "varnished", .glo "after_step", .glo "run", .glo "bitten", .glo "course", .glo "is_operation", .glo "_law_taken", .glo "_law_plate", .glo "_law_depths", .glo "_law_recipe", .glo "_law_run", .glo "law", .glo "SIZES", .glo "Plate", .glo "State", .glo "Work", .glo "Trial", .glo "EtchError", .glo "Spoilt", .cls "Work", .cls "Trial", .noat "Work" "base", .noat "Work" "held", .noat "Trial" "tested_work", .noat "Trial" "origin", .noat "Trial" "fresh", .noat "Trial" "chosen", .noat "Spoilt" "index", .mkr "Plate", .mkr "State", .mkr "Work", .mkr "Trial", .meth "Plate" "__len__", .meth "State" "copied", .meth "State" "go_on", .meth "State" "go_back", .meth "Work" "enter", .meth "Work" "cover", .meth "Work" "scrape", .meth "Work" "wash", .meth "Work" "bath", .meth "Work" "burnish", .meth "Work" "pull", .meth "Work" "undo", .meth "Work" "execute", .meth "Work" "apply_all", .meth "Trial" "hold", .meth "Trial" "__enter__", .meth "Trial" "__exit__", .exm "Spoilt" "Spoilt" true]
def fn : List He5.DefA := [dG "is_number" 21, dG "pairs_of" 23, dG "are_depths" 24, dG "check_depths" 25, dG "are_cells" 26, dG "is_step" 27, dG "wrong_step" 28, dG "check_recipe" 29, dG "fallen_depth" 31, dG "falls" 32, dG "ridges" 33, dG "settled" 34, dG "bathed" 35, dG "varnished" 36, dG "after_step" 37, dG "run" 38, dG "bitten" 39, dG "course" 40, dG "is_operation" 45, dG "_law_taken" 51, dG "_law_plate" 52, dG "_law_depths" 53, dG "_law_recipe" 54, dG "_law_run" 55, dG "law" 56, dM "Plate" "__init__" "Plate.__init__" 22 1 [.non], dM "State" "__init__" "State.__init__" 47 1 [], dM "Work" "__init__" "Work.__init__" 48 0 [], dM "Trial" "__init__" "Trial.__init__" 49 0 [], dM "Plate" "__len__" "Plate.__len__" 22 6 [], dM "State" "copied" "State.copied" 47 2 [], dM "State" "go_on" "State.go_on" 47 3 [], dM "State" "go_back" "State.go_back" 47 4 [], dM "Work" "enter" "Work.enter" 48 8 [], dM "Work" "cover" "Work.cover" 48 9 [], dM "Work" "scrape" "Work.scrape" 48 10 [], dM "Work" "wash" "Work.wash" 48 11 [], dM "Work" "bath" "Work.bath" 48 12 [], dM "Work" "burnish" "Work.burnish" 48 13 [], dM "Work" "pull" "Work.pull" 48 14 [], dM "Work" "undo" "Work.undo" 48 17 [], dM "Work" "execute" "Work.execute" 48 19 [], dM "Work" "apply_all" "Work.apply_all" 48 20 [], dM "Trial" "hold" "Trial.hold" 49 1 [], dM "Trial" "__enter__" "Trial.__enter__" 49 2 [], dM "Trial" "__exit__" "Trial.__exit__" 49 3 [], dW "property" "Plate" "width" "Plate.width" 22 2, dW "property" "Plate" "height" "Plate.height" 22 3, dW "property" "Plate" "most" "Plate.most" 22 4, dW "property" "Plate" "fall" "Plate.fall" 22 5, dW "property" "Work" "depths_now" "Work.depths_now" 48 2, dW "property" "Work" "covered_now" "Work.covered_now" 48 3, dW "property" "Work" "pulls_made" "Work.pulls_made" 48 4, dW "property" "Work" "bath_time" "Work.bath_time" 48 5, dW "property" "Work" "history" "Work.history" 48 7, dW "classmethod" "Work" "replay" "Work.replay" 48 1, dM "Spoilt" "__init__" "Spoilt.__init__" 6 0 []]
def xs : List (Frag → Bool) := [scB "Plate", scB "State", slB "Plate" "parts" 0, slB "Plate" "spots" 1, slB "State" "facts" 0, slB "State" "past" 1, slB "State" "shelf" 2, slB "State" "undone" 3, prB "Plate" "width", prB "Plate" "height", prB "Plate" "most", prB "Plate" "fall", prB "Work" "depths_now", prB "Work" "covered_now", prB "Work" "pulls_made", prB "Work" "bath_time", prB "Work" "history", rdB "Work", rdB "EtchError", cmB, ieB, oeB "Spoilt", xfK "Spoilt", ixB, szB]
def ts : List Tab := [(fun K => ga K "SIZES", ["cover", "scrape", "wash", "bath", "burnish", "pull", "keep_as", "fetch", "undo", "redo"])]
abbrev AlK : Type := He.AlD × (List (Option (List (Option (PySem.Str × Int)))) × Bool)
def obsK (K : Frag) : AlK := (He5.obsA fa fn K, (ts.map fun t => dicW K (t.1 K), xs.all fun x => x K))
def valK (w : World) : AlK := (He5.valA fn, (ts.map fun t => some (keysIn w.params t.2), true))
/-- what an object names, as far as it is asked -/
def refsK (o : Obj) : List Addr := match o.data with
  | .dict es _ => es.toList.flatMap fun e => refV e.val
  | .func fd => refV fd.code ++ refV fd.defaults
  | .cls cd => [cd.ns]
  | .fields vs => vs.toList.flatMap refV
  | _ => []
def nextK (g : Addr → Option Obj) (as : List Addr) : List Addr := as.flatMap fun a => match g a with
  | some o => refsK o
  | none => []
def asK (g : Addr → Option Obj) : List Addr :=
  match nextK g [mainGlobals] with
  | l1 => match nextK g l1 with
    | l2 => match nextK g l2 with
      | l3 => match nextK g l3 with
        | l4 => match nextK g l4 with
          | l5 => mainGlobals :: cStatics :: (l1 ++ (l2 ++ (l3 ++ (l4 ++ l5))))
def obG (g : Addr → Option Obj) : AlK := obsK (frG g (asK g))
def hk : Hook where
  α := AlK
  obs := fun s => obG s.heap.get?
  val := valK
  says := fun w h => ∃ K : Frag, K.In h ∧ obsK K = valK w
  of := fun _ _ e => ⟨_, frG_in, e⟩
  keeps := fun _ _ _ ⟨K, hK, c⟩ k => ⟨K, Frag.In.keeps hK k, c⟩
def ob (s : SharedT) : AlK := obG (HandSHeadRun.getT s)
theorem ob_eq (s : SharedT) : ob s = hk.obs s.abs := by
  have e : HandSHeadRun.getT s = s.abs.heap.get? := funext (HandSHeadRun.getT_eq s)
  show obG (HandSHeadRun.getT s) = obG s.abs.heap.get?
  rw [e]
end K57H
/-! The head's run. Printed by kh.py. -/
namespace K57H
open PySem PySem.W PySem.Calls PyProof.Rows
theorem run (w : World) : HandSHeadRun.RunEq R qv hk ob 20000 names w := byRow2 "special-get-raises" (fun w => by intro os; kernel_rfl) (fun w => by intro os; kernel_rfl) w
end K57H
/-! The facts, gathered. Printed by kh.py. -/
namespace K57H
open PySem PySem.W PySem.Calls PyProof.Rows L2 M57 He
section
variable {K : Frag} {w : World} {h : Heap} {mg : PySem.Str → Option Value}
theorem sA (c : obsK K = valK w) : He5.SaysA fa fn K := congrArg (fun z : AlK => z.1) c
theorem fact (c : obsK K = valK w) (i : Nat) {f : Fa} (e : fa[i]? = some f) : f.ok K = true := (sA c).fact i e
theorem extra (c : obsK K = valK w) (i : Nat) {x : Frag → Bool} (e : xs[i]? = some x) : x K = true := by
  have h := congrArg (fun z : AlK => z.2.2) c
  exact List.all_eq_true.mp (show (xs.all fun x => x K) = true from h) x (List.mem_of_getElem? e)
theorem tab (c : obsK K = valK w) : ∃ es n, KDict K w (ga K "SIZES") es n := by
  have h := congrArg (fun z : AlK => z.2.1) c
  exact dicW_ok (List.cons.inj (show dicW K (ga K "SIZES") :: [] = some (keysIn w.params _) :: [] from h)).1
/-- a def without defaults -/
theorem pick {d : He5.DefA} (c : obsK K = valK w) (i : Nat) (e : fn[i]? = some d) : ∃ fd, FunD K d.name d.qual d.params d.body d.scope (d.dvs K) (d.kws K) (d.at_ K) fd := (sA c).def_ i e
theorem mkDf (X : K.In h) (G : h.Ns mainGlobals mg) {x : PySem.Str} {st : Stmt} {ps : List PySem.Str} {fd : FuncData} (F : FunD K x x (defArgs st) (defBody st) (defScope st) [] [] (ga K x) fd) (g : (Fa.glo x).ok K = true)
    (b : ∀ (kV doc pm : Value) (an : Option Addr) (cdv ct : Value) (us : List Value), us.length = ps.length → bindArgs (fnOf x x (defArgs st) (defBody st) (defScope st) .none kV doc pm an cdv ct) ⟨us, []⟩ = pure (ps.zip us)) : Nonempty (Df K mg x st ps) :=
  ⟨⟨ga K x, fd, He5.fun_of F, glo_ok X G g, F.bindsN b⟩⟩
theorem mkMt {C m q : PySem.Str} {st : Stmt} {ps : List PySem.Str} {fd : FuncData} (F : FunD K m q (defArgs st) (defBody st) (defScope st) [] [] (ma K (ga K C) m) fd) (g : (Fa.meth C m).ok K = true)
    (b : ∀ (kV doc pm : Value) (an : Option Addr) (cdv ct : Value) (us : List Value), us.length = ps.length → bindArgs (fnOf m q (defArgs st) (defBody st) (defScope st) .none kV doc pm an cdv ct) ⟨us, []⟩ = pure (ps.zip us)) : Nonempty (Mt K (ga K C) m q st ps) :=
  ⟨⟨ma K (ga K C) m, fd, He5.fun_of F, meth_ok g, F.bindsN b⟩⟩
theorem mkPr {C m q : PySem.Str} {st : Stmt} {fd : FuncData} (F : FunD K m q (defArgs st) (defBody st) (defScope st) [] [] (He5.wf K (ga K C) "property" m) fd) (g : prB C m K = true)
    (b : ∀ (kV doc pm : Value) (an : Option Addr) (cdv ct : Value) (us : List Value), us.length = (["self"] : List PySem.Str).length → bindArgs (fnOf m q (defArgs st) (defBody st) (defScope st) .none kV doc pm an cdv ct) ⟨us, []⟩ = pure ((["self"] : List PySem.Str).zip us)) : Nonempty (Pr K (ga K C) m q st) :=
  ⟨⟨ma K (ga K C) m, He5.wf K (ga K C) "property" m, fd, He5.fun_of F, prB_ok g, F.bindsN b⟩⟩
theorem mkMc (X : K.In h) (G : h.Ns mainGlobals mg) {C q : PySem.Str} {st : Stmt} {ps : List PySem.Str} {fd : FuncData} (F : FunD K "__init__" q (defArgs st) (defBody st) (defScope st) [] [] (ma K (ga K C) "__init__") fd) (g : (Fa.glo C).ok K = true) (g2 : (Fa.mkr C).ok K = true)
    (b : ∀ (kV doc pm : Value) (an : Option Addr) (cdv ct : Value) (us : List Value), us.length = ps.length → bindArgs (fnOf "__init__" q (defArgs st) (defBody st) (defScope st) .none kV doc pm an cdv ct) ⟨us, []⟩ = pure (ps.zip us)) : Nonempty (Mc K mg (ga K C) C q st ps) :=
  ⟨⟨ma K (ga K C) "__init__", fd, He5.fun_of F, mkr_ok g2, glo_ok X G g, F.bindsN b⟩⟩
theorem gvInt (X : K.In h) (G : h.Ns mainGlobals mg) {x : PySem.Str} {i : Int} (c : (Fa.int x i).ok K = true) : Gv mg x (.int i) := by
  obtain ⟨t, e⟩ := int_ok X G c
  exact ⟨_, e, t, rfl⟩
theorem gvStr (X : K.In h) (G : h.Ns mainGlobals mg) {x z : PySem.Str} (c : (Fa.str x z).ok K = true) : Gv mg x (.str z) := by
  obtain ⟨t, e⟩ := str_ok X G c
  exact ⟨_, e, t, rfl⟩
theorem binds_plate {f : Addr} {fd : FuncData} (F : FunD K "__init__" "Plate.__init__" (defArgs (inClass (topS 22) 1)) (defBody (inClass (topS 22) 1)) (defScope (inClass (topS 22) 1)) [.non] [] f fd) : Binds K fd ["self", "width", "height", "most", "fall"] [] := by
  obtain ⟨ds, r, b⟩ := F.binds1 (ps := ["self", "width", "height", "most", "fall"]) 5 1 (by simp) rfl (fun T kV doc pm an cdv ct us its hu hi => match us, hu with | [_, _, _, _, _], _ => match its, hi with | [_], _ => ⟨_, rfl, rfl⟩)
  cases r
  exact b
theorem txt (X : K.In h) (G : h.Ns mainGlobals mg) (c : obsK K = valK w) : ∃ (_ : Txt K w mg), Nonempty (Df K mg "law" (topS 56) ["_law_script"]) := by
  obtain ⟨fd0, F0⟩ := pick c 0 rfl
  obtain ⟨d_isNumber⟩ := mkDf (x := "is_number") (st := topS 21) (ps := ["value", "smallest", "largest"]) X G F0 (fact c 24 rfl) (fun _ _ _ _ _ _ us hl => match us, hl with | [_, _, _], _ => rfl)
  obtain ⟨fd1, F1⟩ := pick c 1 rfl
  obtain ⟨d_pairsOf⟩ := mkDf (x := "pairs_of") (st := topS 23) (ps := ["plate", "cell"]) X G F1 (fact c 25 rfl) (fun _ _ _ _ _ _ us hl => match us, hl with | [_, _], _ => rfl)
  obtain ⟨fd2, F2⟩ := pick c 2 rfl
  obtain ⟨d_areDepths⟩ := mkDf (x := "are_depths") (st := topS 24) (ps := ["plate", "value"]) X G F2 (fact c 26 rfl) (fun _ _ _ _ _ _ us hl => match us, hl with | [_, _], _ => rfl)
  obtain ⟨fd3, F3⟩ := pick c 3 rfl
  obtain ⟨d_checkDepths⟩ := mkDf (x := "check_depths") (st := topS 25) (ps := ["plate", "value"]) X G F3 (fact c 27 rfl) (fun _ _ _ _ _ _ us hl => match us, hl with | [_, _], _ => rfl)
  obtain ⟨fd4, F4⟩ := pick c 4 rfl
  obtain ⟨d_areCells⟩ := mkDf (x := "are_cells") (st := topS 26) (ps := ["plate", "value"]) X G F4 (fact c 28 rfl) (fun _ _ _ _ _ _ us hl => match us, hl with | [_, _], _ => rfl)
  obtain ⟨fd5, F5⟩ := pick c 5 rfl
  obtain ⟨d_isStep⟩ := mkDf (x := "is_step") (st := topS 27) (ps := ["plate", "value"]) X G F5 (fact c 29 rfl) (fun _ _ _ _ _ _ us hl => match us, hl with | [_, _], _ => rfl)
  obtain ⟨fd6, F6⟩ := pick c 6 rfl
  obtain ⟨d_wrongStep⟩ := mkDf (x := "wrong_step") (st := topS 28) (ps := ["plate", "recipe"]) X G F6 (fact c 30 rfl) (fun _ _ _ _ _ _ us hl => match us, hl with | [_, _], _ => rfl)
  obtain ⟨fd7, F7⟩ := pick c 7 rfl
  obtain ⟨d_checkRecipe⟩ := mkDf (x := "check_recipe") (st := topS 29) (ps := ["plate", "recipe"]) X G F7 (fact c 31 rfl) (fun _ _ _ _ _ _ us hl => match us, hl with | [_, _], _ => rfl)
  obtain ⟨fd8, F8⟩ := pick c 8 rfl
  obtain ⟨d_fallenDepth⟩ := mkDf (x := "fallen_depth") (st := topS 31) (ps := ["plate", "depths", "cell"]) X G F8 (fact c 32 rfl) (fun _ _ _ _ _ _ us hl => match us, hl with | [_, _, _], _ => rfl)
  obtain ⟨fd9, F9⟩ := pick c 9 rfl
  obtain ⟨d_fallsD⟩ := mkDf (x := "falls") (st := topS 32) (ps := ["plate", "depths"]) X G F9 (fact c 33 rfl) (fun _ _ _ _ _ _ us hl => match us, hl with | [_, _], _ => rfl)
  obtain ⟨fd10, F10⟩ := pick c 10 rfl
  obtain ⟨d_ridges⟩ := mkDf (x := "ridges") (st := topS 33) (ps := ["plate", "depths"]) X G F10 (fact c 34 rfl) (fun _ _ _ _ _ _ us hl => match us, hl with | [_, _], _ => rfl)
  obtain ⟨fd11, F11⟩ := pick c 11 rfl
  obtain ⟨d_settled⟩ := mkDf (x := "settled") (st := topS 34) (ps := ["plate", "depths", "covered"]) X G F11 (fact c 35 rfl) (fun _ _ _ _ _ _ us hl => match us, hl with | [_, _, _], _ => rfl)
  obtain ⟨fd12, F12⟩ := pick c 12 rfl
  obtain ⟨d_bathed⟩ := mkDf (x := "bathed") (st := topS 35) (ps := ["depths", "covered", "time"]) X G F12 (fact c 36 rfl) (fun _ _ _ _ _ _ us hl => match us, hl with | [_, _, _], _ => rfl)
  obtain ⟨fd13, F13⟩ := pick c 13 rfl
  obtain ⟨d_varnished⟩ := mkDf (x := "varnished") (st := topS 36) (ps := ["covered", "step"]) X G F13 (fact c 37 rfl) (fun _ _ _ _ _ _ us hl => match us, hl with | [_, _], _ => rfl)
  obtain ⟨fd14, F14⟩ := pick c 14 rfl
  obtain ⟨d_afterS⟩ := mkDf (x := "after_step") (st := topS 37) (ps := ["plate", "depths", "covered", "step"]) X G F14 (fact c 38 rfl) (fun _ _ _ _ _ _ us hl => match us, hl with | [_, _, _, _], _ => rfl)
  obtain ⟨fd15, F15⟩ := pick c 15 rfl
  obtain ⟨d_run⟩ := mkDf (x := "run") (st := topS 38) (ps := ["plate", "depths", "recipe"]) X G F15 (fact c 39 rfl) (fun _ _ _ _ _ _ us hl => match us, hl with | [_, _, _], _ => rfl)
  obtain ⟨fd16, F16⟩ := pick c 16 rfl
  obtain ⟨d_bitten⟩ := mkDf (x := "bitten") (st := topS 39) (ps := ["plate", "depths", "recipe"]) X G F16 (fact c 40 rfl) (fun _ _ _ _ _ _ us hl => match us, hl with | [_, _, _], _ => rfl)
  obtain ⟨fd17, F17⟩ := pick c 17 rfl
  obtain ⟨d_course⟩ := mkDf (x := "course") (st := topS 40) (ps := ["plate", "depths", "recipe"]) X G F17 (fact c 41 rfl) (fun _ _ _ _ _ _ us hl => match us, hl with | [_, _, _], _ => rfl)
  obtain ⟨fd18, F18⟩ := pick c 18 rfl
  obtain ⟨d_isOp⟩ := mkDf (x := "is_operation") (st := topS 45) (ps := ["value"]) X G F18 (fact c 42 rfl) (fun _ _ _ _ _ _ us hl => match us, hl with | [_], _ => rfl)
  obtain ⟨fd19, F19⟩ := pick c 19 rfl
  obtain ⟨d_lTaken⟩ := mkDf (x := "_law_taken") (st := topS 51) (ps := ["_law_row", "_law_many"]) X G F19 (fact c 43 rfl) (fun _ _ _ _ _ _ us hl => match us, hl with | [_, _], _ => rfl)
  obtain ⟨fd20, F20⟩ := pick c 20 rfl
  obtain ⟨d_lPlate⟩ := mkDf (x := "_law_plate") (st := topS 52) (ps := ["_law_row", "_law_is_still"]) X G F20 (fact c 44 rfl) (fun _ _ _ _ _ _ us hl => match us, hl with | [_, _], _ => rfl)
  obtain ⟨fd21, F21⟩ := pick c 21 rfl
  obtain ⟨d_lDepths⟩ := mkDf (x := "_law_depths") (st := topS 53) (ps := ["_law_row", "_law_plate_here"]) X G F21 (fact c 45 rfl) (fun _ _ _ _ _ _ us hl => match us, hl with | [_, _], _ => rfl)
  obtain ⟨fd22, F22⟩ := pick c 22 rfl
  obtain ⟨d_lRecipe⟩ := mkDf (x := "_law_recipe") (st := topS 54) (ps := ["_law_row", "_law_plate_here"]) X G F22 (fact c 46 rfl) (fun _ _ _ _ _ _ us hl => match us, hl with | [_, _], _ => rfl)
  obtain ⟨fd23, F23⟩ := pick c 23 rfl
  obtain ⟨d_lRun⟩ := mkDf (x := "_law_run") (st := topS 55) (ps := ["_law_plate_here", "_law_depths_here", "_law_recipe_here"]) X G F23 (fact c 47 rfl) (fun _ _ _ _ _ _ us hl => match us, hl with | [_, _, _], _ => rfl)
  obtain ⟨fd24, F24⟩ := pick c 24 rfl
  obtain ⟨d_law⟩ := mkDf (x := "law") (st := topS 56) (ps := ["_law_script"]) X G F24 (fact c 48 rfl) (fun _ _ _ _ _ _ us hl => match us, hl with | [_], _ => rfl)
  obtain ⟨fd25, F25⟩ := pick c 25 rfl
  obtain ⟨fd26, F26⟩ := pick c 26 rfl
  obtain ⟨d_mS⟩ := mkMc (C := "State") (q := "State.__init__") (st := inClass (topS 47) 1) (ps := ["self", "facts", "shelf", "past", "undone"]) X G F26 (fact c 51 rfl) (fact c 66 rfl) (fun _ _ _ _ _ _ us hl => match us, hl with | [_, _, _, _, _], _ => rfl)
  obtain ⟨fd27, F27⟩ := pick c 27 rfl
  obtain ⟨d_mW⟩ := mkMc (C := "Work") (q := "Work.__init__") (st := inClass (topS 48) 0) (ps := ["self", "plate", "depths"]) X G F27 (fact c 52 rfl) (fact c 67 rfl) (fun _ _ _ _ _ _ us hl => match us, hl with | [_, _, _], _ => rfl)
  obtain ⟨fd28, F28⟩ := pick c 28 rfl
  obtain ⟨d_mT⟩ := mkMc (C := "Trial") (q := "Trial.__init__") (st := inClass (topS 49) 0) (ps := ["self", "work"]) X G F28 (fact c 53 rfl) (fact c 68 rfl) (fun _ _ _ _ _ _ us hl => match us, hl with | [_, _], _ => rfl)
  obtain ⟨fd29, F29⟩ := pick c 29 rfl
  obtain ⟨d_lenP⟩ := mkMt (C := "Plate") (m := "__len__") (q := "Plate.__len__") (st := inClass (topS 22) 6) (ps := ["self"]) F29 (fact c 69 rfl) (fun _ _ _ _ _ _ us hl => match us, hl with | [_], _ => rfl)
  obtain ⟨fd30, F30⟩ := pick c 30 rfl
  obtain ⟨d_sCopied⟩ := mkMt (C := "State") (m := "copied") (q := "State.copied") (st := inClass (topS 47) 2) (ps := ["self"]) F30 (fact c 70 rfl) (fun _ _ _ _ _ _ us hl => match us, hl with | [_], _ => rfl)
  obtain ⟨fd31, F31⟩ := pick c 31 rfl
  obtain ⟨d_sGoOn⟩ := mkMt (C := "State") (m := "go_on") (q := "State.go_on") (st := inClass (topS 47) 3) (ps := ["self", "operation", "facts", "shelf"]) F31 (fact c 71 rfl) (fun _ _ _ _ _ _ us hl => match us, hl with | [_, _, _, _], _ => rfl)
  obtain ⟨fd32, F32⟩ := pick c 32 rfl
  obtain ⟨d_sGoBack⟩ := mkMt (C := "State") (m := "go_back") (q := "State.go_back") (st := inClass (topS 47) 4) (ps := ["self"]) F32 (fact c 72 rfl) (fun _ _ _ _ _ _ us hl => match us, hl with | [_], _ => rfl)
  obtain ⟨fd33, F33⟩ := pick c 33 rfl
  obtain ⟨d_wEnter⟩ := mkMt (C := "Work") (m := "enter") (q := "Work.enter") (st := inClass (topS 48) 8) (ps := ["self", "operation", "step", "more"]) F33 (fact c 73 rfl) (fun _ _ _ _ _ _ us hl => match us, hl with | [_, _, _, _], _ => rfl)
  obtain ⟨fd34, F34⟩ := pick c 34 rfl
  obtain ⟨d_wCover⟩ := mkMt (C := "Work") (m := "cover") (q := "Work.cover") (st := inClass (topS 48) 9) (ps := ["self", "cells"]) F34 (fact c 74 rfl) (fun _ _ _ _ _ _ us hl => match us, hl with | [_, _], _ => rfl)
  obtain ⟨fd35, F35⟩ := pick c 35 rfl
  obtain ⟨d_wScrape⟩ := mkMt (C := "Work") (m := "scrape") (q := "Work.scrape") (st := inClass (topS 48) 10) (ps := ["self", "cell"]) F35 (fact c 75 rfl) (fun _ _ _ _ _ _ us hl => match us, hl with | [_, _], _ => rfl)
  obtain ⟨fd36, F36⟩ := pick c 36 rfl
  obtain ⟨d_wWash⟩ := mkMt (C := "Work") (m := "wash") (q := "Work.wash") (st := inClass (topS 48) 11) (ps := ["self"]) F36 (fact c 76 rfl) (fun _ _ _ _ _ _ us hl => match us, hl with | [_], _ => rfl)
  obtain ⟨fd37, F37⟩ := pick c 37 rfl
  obtain ⟨d_wBath⟩ := mkMt (C := "Work") (m := "bath") (q := "Work.bath") (st := inClass (topS 48) 12) (ps := ["self", "time"]) F37 (fact c 77 rfl) (fun _ _ _ _ _ _ us hl => match us, hl with | [_, _], _ => rfl)
  obtain ⟨fd38, F38⟩ := pick c 38 rfl
  obtain ⟨d_wBurnish⟩ := mkMt (C := "Work") (m := "burnish") (q := "Work.burnish") (st := inClass (topS 48) 13) (ps := ["self", "cell"]) F38 (fact c 78 rfl) (fun _ _ _ _ _ _ us hl => match us, hl with | [_, _], _ => rfl)
  obtain ⟨fd39, F39⟩ := pick c 39 rfl
  obtain ⟨d_wPull⟩ := mkMt (C := "Work") (m := "pull") (q := "Work.pull") (st := inClass (topS 48) 14) (ps := ["self"]) F39 (fact c 79 rfl) (fun _ _ _ _ _ _ us hl => match us, hl with | [_], _ => rfl)
  obtain ⟨fd40, F40⟩ := pick c 40 rfl
  obtain ⟨d_wUndo⟩ := mkMt (C := "Work") (m := "undo") (q := "Work.undo") (st := inClass (topS 48) 17) (ps := ["self"]) F40 (fact c 80 rfl) (fun _ _ _ _ _ _ us hl => match us, hl with | [_], _ => rfl)
  obtain ⟨fd41, F41⟩ := pick c 41 rfl
  obtain ⟨d_wExecute⟩ := mkMt (C := "Work") (m := "execute") (q := "Work.execute") (st := inClass (topS 48) 19) (ps := ["self", "operation"]) F41 (fact c 81 rfl) (fun _ _ _ _ _ _ us hl => match us, hl with | [_, _], _ => rfl)
  obtain ⟨fd42, F42⟩ := pick c 42 rfl
  obtain ⟨d_wApply⟩ := mkMt (C := "Work") (m := "apply_all") (q := "Work.apply_all") (st := inClass (topS 48) 20) (ps := ["self", "operations"]) F42 (fact c 82 rfl) (fun _ _ _ _ _ _ us hl => match us, hl with | [_, _], _ => rfl)
  obtain ⟨fd43, F43⟩ := pick c 43 rfl
  obtain ⟨d_tHold⟩ := mkMt (C := "Trial") (m := "hold") (q := "Trial.hold") (st := inClass (topS 49) 1) (ps := ["self"]) F43 (fact c 83 rfl) (fun _ _ _ _ _ _ us hl => match us, hl with | [_], _ => rfl)
  obtain ⟨fd44, F44⟩ := pick c 44 rfl
  obtain ⟨d_tEnter⟩ := mkMt (C := "Trial") (m := "__enter__") (q := "Trial.__enter__") (st := inClass (topS 49) 2) (ps := ["self"]) F44 (fact c 84 rfl) (fun _ _ _ _ _ _ us hl => match us, hl with | [_], _ => rfl)
  obtain ⟨fd45, F45⟩ := pick c 45 rfl
  obtain ⟨d_tExit⟩ := mkMt (C := "Trial") (m := "__exit__") (q := "Trial.__exit__") (st := inClass (topS 49) 3) (ps := ["self", "kind", "error", "trace"]) F45 (fact c 85 rfl) (fun _ _ _ _ _ _ us hl => match us, hl with | [_, _, _, _], _ => rfl)
  obtain ⟨fd46, F46⟩ := pick c 46 rfl
  obtain ⟨d_pWidth⟩ := mkPr (C := "Plate") (m := "width") (q := "Plate.width") (st := inClass (topS 22) 2) F46 (extra c 8 rfl) (fun _ _ _ _ _ _ us hl => match us, hl with | [_], _ => rfl)
  obtain ⟨fd47, F47⟩ := pick c 47 rfl
  obtain ⟨d_pHeight⟩ := mkPr (C := "Plate") (m := "height") (q := "Plate.height") (st := inClass (topS 22) 3) F47 (extra c 9 rfl) (fun _ _ _ _ _ _ us hl => match us, hl with | [_], _ => rfl)
  obtain ⟨fd48, F48⟩ := pick c 48 rfl
  obtain ⟨d_pMost⟩ := mkPr (C := "Plate") (m := "most") (q := "Plate.most") (st := inClass (topS 22) 4) F48 (extra c 10 rfl) (fun _ _ _ _ _ _ us hl => match us, hl with | [_], _ => rfl)
  obtain ⟨fd49, F49⟩ := pick c 49 rfl
  obtain ⟨d_pFall⟩ := mkPr (C := "Plate") (m := "fall") (q := "Plate.fall") (st := inClass (topS 22) 5) F49 (extra c 11 rfl) (fun _ _ _ _ _ _ us hl => match us, hl with | [_], _ => rfl)
  obtain ⟨fd50, F50⟩ := pick c 50 rfl
  obtain ⟨d_wDepths⟩ := mkPr (C := "Work") (m := "depths_now") (q := "Work.depths_now") (st := inClass (topS 48) 2) F50 (extra c 12 rfl) (fun _ _ _ _ _ _ us hl => match us, hl with | [_], _ => rfl)
  obtain ⟨fd51, F51⟩ := pick c 51 rfl
  obtain ⟨d_wCovered⟩ := mkPr (C := "Work") (m := "covered_now") (q := "Work.covered_now") (st := inClass (topS 48) 3) F51 (extra c 13 rfl) (fun _ _ _ _ _ _ us hl => match us, hl with | [_], _ => rfl)
  obtain ⟨fd52, F52⟩ := pick c 52 rfl
  obtain ⟨d_wPulls⟩ := mkPr (C := "Work") (m := "pulls_made") (q := "Work.pulls_made") (st := inClass (topS 48) 4) F52 (extra c 14 rfl) (fun _ _ _ _ _ _ us hl => match us, hl with | [_], _ => rfl)
  obtain ⟨fd53, F53⟩ := pick c 53 rfl
  obtain ⟨d_wTime⟩ := mkPr (C := "Work") (m := "bath_time") (q := "Work.bath_time") (st := inClass (topS 48) 5) F53 (extra c 15 rfl) (fun _ _ _ _ _ _ us hl => match us, hl with | [_], _ => rfl)
  obtain ⟨fd54, F54⟩ := pick c 54 rfl
  obtain ⟨d_wHistory⟩ := mkPr (C := "Work") (m := "history") (q := "Work.history") (st := inClass (topS 48) 7) F54 (extra c 16 rfl) (fun _ _ _ _ _ _ us hl => match us, hl with | [_], _ => rfl)
  obtain ⟨fdR, FR⟩ := pick c 55 rfl
  have FRb := FunD.bindsN (ps := ["cls", "plate", "depths", "operations"]) FR (fun _ _ _ _ _ _ us hl => match us, hl with | [_, _, _, _], _ => rfl)
  obtain ⟨fdX, FX⟩ := pick c 56 rfl
  have FXb := FunD.bindsN (ps := ["self", "index"]) FX (fun _ _ _ _ _ _ us hl => match us, hl with | [_, _], _ => rfl)
  obtain ⟨es, en, kd⟩ := tab c
  obtain ⟨ix1, ix2⟩ := ba (show ixB K = true from extra c 23 rfl)
  refine ⟨{
    isi := free_ok X G (fact c 0 rfl)
    int_ := free_ok X G (fact c 1 rfl)
    bool_ := free_ok X G (fact c 2 rfl)
    tuple_ := free_ok X G (fact c 3 rfl)
    str_ := free_ok X G (fact c 4 rfl)
    len := free_ok X G (fact c 5 rfl)
    all_ := free_ok X G (fact c 6 rfl)
    range_ := free_ok X G (fact c 7 rfl)
    zip_ := free_ok X G (fact c 8 rfl)
    enum := free_ok X G (fact c 9 rfl)
    min_ := free_ok X G (fact c 10 rfl)
    max_ := free_ok X G (fact c 11 rfl)
    list_ := free_ok X G (fact c 12 rfl)
    sorted_ := free_ok X G (fact c 13 rfl)
    set_ := free_ok X G (fact c 14 rfl)
    side := gvInt X G (fact c 15 rfl)
    cells := gvInt X G (fact c 16 rfl)
    depth := gvInt X G (fact c 17 rfl)
    steps := gvInt X G (fact c 18 rfl)
    bath_ := gvStr X G (fact c 19 rfl)
    burn_ := gvStr X G (fact c 20 rfl)
    cover_ := gvStr X G (fact c 21 rfl)
    scrape_ := gvStr X G (fact c 22 rfl)
    wash_ := gvStr X G (fact c 23 rfl)
    sizes := ga K "SIZES"
    sizesG := glo_ok X G (fact c 49 rfl)
    sizesE := es
    sizesN := en
    sizesD := kd
    sizesOf := fun q hq => by
      have hv := fun (y : PySem.Str × He.Dv) (hy : y ∈ szL) => valsB_ok (K := K) (a := ga K "SIZES") (kvs := szL) (extra c 24 rfl) hy
      simp only [List.mem_cons, List.not_mem_nil, or_false] at hq
      rcases hq with rfl | rfl | rfl | rfl | rfl | rfl
      · exact hv ("bath", .int 2) (by simp [szL])
      · exact hv ("burnish", .int 2) (by simp [szL])
      · exact hv ("cover", .int 2) (by simp [szL])
      · exact hv ("scrape", .int 2) (by simp [szL])
      · exact hv ("wash", .int 1) (by simp [szL])
      · exact hv ("pull", .int 1) (by simp [szL])
    cP := ga K "Plate"
    scP := scB_ok (extra c 0 rfl)
    pParts := ma K (ga K "Plate") "parts"
    pSpots := ma K (ga K "Plate") "spots"
    slParts := slB_ok (extra c 2 rfl)
    slSpots := slB_ok (extra c 3 rfl)
    mP := ⟨ma K (ga K "Plate") "__init__", fd25, F25, mkr_ok (fact c 65 rfl), glo_ok X G (fact c 50 rfl), binds_plate F25⟩
    pWidth := d_pWidth
    pHeight := d_pHeight
    pMost := d_pMost
    pFall := d_pFall
    lenP := d_lenP
    cS := ga K "State"
    scS := scB_ok (extra c 1 rfl)
    pFacts := ma K (ga K "State") "facts"
    slFacts := slB_ok (extra c 4 rfl)
    pPast := ma K (ga K "State") "past"
    slPast := slB_ok (extra c 5 rfl)
    pShelf := ma K (ga K "State") "shelf"
    slShelf := slB_ok (extra c 6 rfl)
    pUndone := ma K (ga K "State") "undone"
    slUndone := slB_ok (extra c 7 rfl)
    mS := d_mS
    sCopied := d_sCopied
    sGoOn := d_sGoOn
    sGoBack := d_sGoBack
    cW := ga K "Work"
    clW := cls_ok (fact c 56 rfl)
    nBase := noat_ok (fact c 58 rfl)
    nHeld := noat_ok (fact c 59 rfl)
    mW := d_mW
    rdW := rdB_ok (extra c 17 rfl)
    wReplayP := ma K (ga K "Work") "replay"
    wReplayF := He5.wf K (ga K "Work") "classmethod" "replay"
    wReplayD := fdR
    wReplay := He5.fun_of FR
    wReplayB := FRb
    wReplayC := cmB_ok (extra c 19 rfl)
    wDepths := d_wDepths
    wCovered := d_wCovered
    wPulls := d_wPulls
    wTime := d_wTime
    wHistory := d_wHistory
    wEnter := d_wEnter
    wCover := d_wCover
    wScrape := d_wScrape
    wWash := d_wWash
    wBath := d_wBath
    wBurnish := d_wBurnish
    wPull := d_wPull
    wUndo := d_wUndo
    wExecute := d_wExecute
    wApply := d_wApply
    cT := ga K "Trial"
    clT := cls_ok (fact c 57 rfl)
    nTested := noat_ok (fact c 60 rfl)
    nOrigin := noat_ok (fact c 61 rfl)
    nFresh := noat_ok (fact c 62 rfl)
    nChosen := noat_ok (fact c 63 rfl)
    mT := d_mT
    tHold := d_tHold
    tEnter := d_tEnter
    tExit := d_tExit
    cE := ga K "EtchError"
    gE := glo_ok X G (fact c 54 rfl)
    rdE := rdB_ok (extra c 18 rfl)
    iE := ieB_ok (extra c 20 rfl)
    cX := ga K "Spoilt"
    gX := glo_ok X G (fact c 55 rfl)
    oeX := oeB_ok (extra c 21 rfl)
    xfX := xfB_ok (extra c 22 rfl)
    noX := noat_ok (fact c 64 rfl)
    fX := ma K (ga K "Spoilt") "__init__"
    fdX := fdX
    fnX := He5.fun_of FX
    bX := FXb
    iX := eqO_ok ix1
    tX := of_decide_eq_true ix2
    exX := exm_ok (fact c 86 rfl)
    isNumber := d_isNumber
    pairsOf := d_pairsOf
    areDepths := d_areDepths
    checkDepths := d_checkDepths
    areCells := d_areCells
    isStep := d_isStep
    wrongStep := d_wrongStep
    checkRecipe := d_checkRecipe
    fallenDepth := d_fallenDepth
    fallsD := d_fallsD
    ridges := d_ridges
    settled := d_settled
    bathed := d_bathed
    varnished := d_varnished
    afterS := d_afterS
    run := d_run
    bitten := d_bitten
    course := d_course
    isOp := d_isOp
    lTaken := d_lTaken
    lPlate := d_lPlate
    lDepths := d_lDepths
    lRecipe := d_lRecipe
    lRun := d_lRun
  }, ⟨d_law⟩⟩
end
end K57H
/-! The end. Printed by kh.py. -/
open PySem PySem.W PySem.Calls PyProof.Rows
theorem PySem.Challenge.cw_bittenplates_k57_whole_works_and_recipes_holds : PySem.Challenge.rw_bittenplates_k57_whole_works_and_recipes.Holds := by
  w_on; o_law
  refine HandSHeadRun.head_any (r := OpenLaw.row PySem.Challenge.rw_bittenplates_k57_whole_works_and_recipes) (q := view (OpenLaw.row PySem.Challenge.rw_bittenplates_k57_whole_works_and_recipes).prog [56]) (H := K57H.hk) (ob := K57H.ob) (M := 20000) (loose := K57H.names) (d := HandSHeadRun.topDef (OpenLaw.row PySem.Challenge.rw_bittenplates_k57_whole_works_and_recipes).prog 56) (kwd := []) K57H.ob_eq
    (by kernel_rfl) (fun s => by kernel_rfl) K57H.run (by kernel_rfl) (by kernel_rfl) (by kernel_rfl) (by rfl) (by first | assumption | decide +kernel) (by decide +kernel) ⟨rfl, rfl, rfl, rfl, rfl, by decide +kernel⟩ ?hw ?hc
  case hw => w_witness2
  case hc =>
    refine L2.walk_ofE (l := PySem.Challenge.rw_bittenplates_k57_whole_works_and_recipes) (n := 63) (k := 13) (x := "_law_script") (CX := L2.CX0) rfl (by decide) (by kernel_rfl) ⟨rfl, by decide, by decide⟩ ?F (fun _ _ _ _ z => z)
    intro w mg fa h Y G hmg0
    obtain ⟨K, KX, c⟩ := Y
    have hmg : mg ("law" : PySem.Str) = some (.ref fa) := by
      have e : (HandSHeadRun.topDef (OpenLaw.row PySem.Challenge.rw_bittenplates_k57_whole_works_and_recipes).prog 56).name = ("law" : PySem.Str) := by kernel_rfl
      rw [← e]
      exact hmg0
    obtain ⟨T, ⟨L⟩⟩ := K57H.txt KX G c
    have ef : L.f = fa := by
      have := L.gl.symm.trans hmg
      exact Value.ref.inj (Option.some.inj this)
    subst ef
    exact ⟨K, L.fd, M57.spLaw K, KX, fun s v => L2.FunD.bindsA (ps := ["_law_script"]) (M57.funD_of L.fn) (fun _ _ _ _ _ _ us hl => match us, hl with | [_], _ => rfl) s [v] rfl, fun H a ns hl _ hS => ⟨a, ns, rfl, hS, fun _ => rfl⟩, fun base _ _ => M57.ok_law T L⟩
