import PyProof.Rows.All
import Wide.All
import OpenK.AllK
import Wide.FinOn
import HandS.ForMost
import HandS.Star
import HandS.Walk
import KE.GoesMore
import KE.KUnpack
import HandS.More
import HandS.GenOver
import HandS.GenList
import HandS.IsInst
import HandS.Wide
import HandS.TupAny
import HandS.Codes
import HandS.Property
import HandS.ClsMeth
import HandS.DictComp
import KE.KEqDict
import KE.KUnpackStar
import HandS.Base
import PyProof.EqAt
import PySem.Challenge.RW_mailforwards_k15_whole_letters_of_a_post
import PyProof.Rows.SortStr
import PyProof.Rows.StrMeet
import KE.KEqSeq
import HandS.Style
import HandS.Deep
import HandS.Conv
import HandS.Sort
import HandS.SortInts
set_option Elab.async false
set_option linter.all false
set_option maxRecDepth 100000
set_option maxHeartbeats 1000000
namespace MF
open PySem PySem.Spec PyProof.Rows L2

def gFld (K : PySem.W.Frag) (to : TE) (f : Str) : TG := fun v σ H Q => to σ H fun x H1 => ∃ a C dx fs, x = .ref a ∧ H1 a = some (.ins C dx fs) ∧ Cls K C ∧ NoAttr K C f ∧ fs.length < 1000 ∧ Q σ (upd H1 a (.ins C dx (putF f v fs)))
theorem pg_fld {X : Cx} {o : Expr} {f : Str} {pos : Pos} {to : TE} (ho : PE X o to) : PG X (.Attribute o f pos) (gFld X.K to f) := by
  refine ⟨fun pins s σ H v u Q I r h => ?_⟩
  show wpAny _ _ (do
    let ov ← holding [u] (eval o X.env)
    standAt pos.atName
    holding [u, ov] (setAttr ov f u)
    release [u, ov] []) _ _ _
  refine wpAny_bind (wpAny_holding (thn (ho.run pins s σ H _ I h) fun ov s1 ⟨x, H1, I1, r1, a, C, dx, fs, ex, ea, c, n, l, q⟩ => ?_))
  subst ex
  obtain rfl : ov = Value.ref a := r1
  refine wpAny_bind (wpAny_standAt (wpAny_bind (wpAny_holding (setattr_ok I1 ea c n l r fun s2 I2 => ?_))))
  exact wpAny_release ⟨σ, _, I2, q⟩

theorem notNI {Q : Value → Shared → Prop} {v : V} {u : Value} {s' : Shared} (r : RelV v u) (h : Q u s') : PySem.W.CmpBack Q u s' := by
  cases v with
  | non => cases (show u = Value.none from r); exact h
  | bl b => cases (show u = Value.bool b from r); exact h
  | int i => obtain ⟨t, rfl⟩ := (show ∃ t, u = Value.int i t from r); exact h
  | str x => obtain ⟨t, rfl⟩ := (show ∃ t, u = Value.str x t from r); exact h
  | byt b => obtain ⟨t, rfl⟩ := (show ∃ t, u = Value.bytes b t from r); exact h
  | flt b => obtain ⟨t, rfl⟩ := (show ∃ t, u = Value.float b t from r); exact h
  | ref a => cases (show u = Value.ref a from r); exact h
  | ty n => cases (show u = Value.type n from r); exact h
theorem op_own {X : Cx} {op : Operator} {C f : Addr} {fd : FuncData} {ps : List Str} {CX : CXT} {k : Nat} {sp : Sp} {E : XK} (hc : PySem.W.selfFirst X.K C = true) (hs : PySem.W.findIn X.K (.ref C) (PySem.dunder op.info.2) = some (some (.ref f))) (hf : PySem.W.isFn X.K (.ref f) = true)
    (F : FnOk X.prog X.w X.K X.mg X.base CX k f fd ps sp) (hr : Room k X.A) (hb : Binds X.K fd ps []) (hx : Passes CX X E) :
    OpR X (binaryOp op) (fun x y H Q => ∃ a b dx dy fs gs, x = .ref a ∧ y = .ref b ∧ H a = some (.ins C dx fs) ∧ H b = some (.ins C dy gs) ∧ sp [.ref a, .ref b] H Q E) := by
  rintro pins s σ H x y u v Q I rx ry ⟨a, b, dx, dy, fs, gs, rfl, rfl, ea, eb, h⟩
  obtain rfl : u = Value.ref a := rx
  obtain rfl : v = Value.ref b := ry
  obtain ⟨mA, O, _⟩ := ins_get I.hok ea
  obtain ⟨mB, O', _⟩ := ins_get I.hok eb
  obtain ⟨od, ia, _⟩ := O.look
  obtain ⟨od', ib, _⟩ := O'.look
  obtain ⟨m, fr⟩ := I.fr
  refine PySem.W.binop_K fr I.mod.kin ia ib.type hc hs hf ?_
  refine thn (run_fn (us := [.ref a, .ref b]) (vs := [.ref a, .ref b]) F hr hb (dvs := []) .nil hx I (.cons rfl (.cons rfl .nil)) (by simpa using h)) fun r s' hq => ?_
  obtain ⟨z, H', I', rz, q⟩ := hq
  exact notNI rz ⟨z, H', I', rz, q⟩

theorem meets_enum_newT (t : Addr) (items : Array Value) :
    Meets (Builtin.«enumerate.__new__» ⟨[.type "enumerate", .ref t], []⟩) (fun _ R s => s.heap.IsTuple t items ∧
      R (.ok (.ret (.ref (s.heap.push { cls := .type "tuple_iterator", data := .fields #[.ref t, .int 0 0] }).objs.size))) { s with heap := (s.heap.push { cls := .type "tuple_iterator", data := .fields #[.ref t, .int 0 0] }).push { cls := .type "enumerate", data := .fields #[.none, .bool false, .ref s.heap.objs.size, rawInt 0, .none, .none] } }) :=
  .of_wp fun prog w A R s h => by
    obtain ⟨hp, g, d, tk, os⟩ := s; obtain ⟨h1, h⟩ := h
    have hsub := sub_enumerate
    have q1 : ∀ {A' : Around} {E : Value → Shared → Prop} {Q : Value → Shared → Prop}, Q (.ref hp.objs.size) ⟨hp.push { cls := .type "tuple_iterator", data := .fields #[.ref t, .int 0 0] }, g, d, tk, os⟩ → wpAny (model prog w) A' (pyIter (.ref t)) Q E ⟨hp, g, d, tk, os⟩ :=
      fun q => (begins_tuple t items).iter prog w _ _ ⟨hp, g, d, tk, os⟩ _ h1 q
    wp_walk using q1
    refine wpAny_stack_any fun st => wpAny_pure ?_
    split
    · rename_i c _ _ _ _ _
      cases (c == Value.type "enumerate")
      · wp_walk using q1
        exact ⟨_, rfl, h⟩
      · wp_walk using q1
        exact ⟨_, rfl, h⟩
    · wp_walk using q1
      exact ⟨_, rfl, h⟩
theorem call_enum_tuple {prog : Program} {w : World} {A : Around} {E : Value → Shared → Prop} {s : Shared} {t : Addr} {items : Array Value} {Q : Value → Shared → Prop} (ht : s.heap.IsTuple t items)
    (h : ∀ h', IsEnum h' (s.heap.objs.size + 1) s.heap.objs.size 0 .none → h'.IsTupleIter s.heap.objs.size t 0 → h'.objs.size = s.heap.objs.size + 2 →
      (∀ b o, s.heap.get? b = some o → h'.get? b = some o) → Q (.ref (s.heap.objs.size + 1)) { s with heap := h' }) :
    wpAny (model prog w) A (call (.type "enumerate") [.ref t]) Q E s := by
  refine callType_new F.called_enumerate (by decide) (F.typeCall_enumerate_1 _) (F.newCall_enumerate_1 _) (fun obj => F.args_object_init_2 obj _) F.entry_enumerate_new
    (meets_enum_newT t items) ⟨ht, ?_⟩
  have hz : (s.heap.push { cls := .type "tuple_iterator", data := .fields #[.ref t, .int 0 0] }).objs.size = s.heap.objs.size + 1 := Heap.size_push ..
  show _ ∧ _
  rw [hz]
  have he : IsEnum ((s.heap.push { cls := .type "tuple_iterator", data := .fields #[.ref t, .int 0 0] }).push
      { cls := .type "enumerate", data := .fields #[.none, .bool false, .ref s.heap.objs.size, rawInt 0, .none, .none] }) (s.heap.objs.size + 1) s.heap.objs.size 0 .none := by
    have := Heap.get?_push_size (s.heap.push { cls := .type "tuple_iterator", data := .fields #[.ref t, .int 0 0] })
      (o := { cls := .type "enumerate", data := .fields #[.none, .bool false, .ref s.heap.objs.size, rawInt 0, .none, .none] }) rfl
    rw [hz] at this; exact this
  exact ⟨⟨_, he, rfl⟩, h _ he ⟨_, Heap.get?_push_of_some _ (Heap.get?_push_size _ rfl), rfl, rfl⟩ (by rw [Heap.size_push, hz]) fun b o x => Heap.get?_push_of_some _ (Heap.get?_push_of_some _ x)⟩

def ItE (K : PySem.W.Frag) (a : Addr) : It :=
  ⟨fun i H => ∃ (xs : List V) (x : V), SqT K H a xs ∧ xs[i]? = some x, fun i H v H' => ∃ T x, v = .ref T ∧ H T = none ∧ H' = upd H T (.tup [.int (i : Nat), x]) ∧ ∀ xs, SqT K H a xs → xs[i]? = some x, fun i H => ∃ xs : List V, SqT K H a xs ∧ xs.length = i⟩
theorem turn_enumT {P : Program} {w : World} {K : PySem.W.Frag} {elts : List Expr} {kk : Nat} {tpos : Pos} (a e it : Addr) :
    Turn P w K (.Tuple elts kk tpos) (ItE K a) [e, it] e (fun i h => (∃ old, IsEnum h e it ((i : Nat) : Int) old) ∧ h.IsTupleIter it a i ∧ e ≠ it) where
  mem := by simp
  obj := fun i h st b hb => by
    obtain ⟨⟨old, he⟩, ⟨o, ho, hc, hd⟩, _⟩ := st
    have e' : b = e ∨ b = it := by simpa using hb
    rcases e' with z | z
    · rw [z]; exact ⟨_, he, fun v q => nomatch q⟩
    · rw [z]; exact ⟨o, ho, fun v q => by rw [hd] at q; cases q⟩
  keep := fun i h h' st k => let ⟨⟨old, he⟩, hi, hne⟩ := st; ⟨⟨old, k e (by simp) _ he⟩, hi.at fun o q => k it (by simp) o q, hne⟩
  item := by
    intro X hP hw hK hc i pins s σ H E I hf st hg
    subst hP hw hK
    obtain ⟨⟨old, he⟩, hit, hne⟩ := st
    obtain ⟨xs, x, hq, hx⟩ := hg
    obtain ⟨its, rv, p, hz⟩ := I.tuple hq
    obtain ⟨u, hu, ru⟩ := rv.get hx
    have hel : e < s.heap.objs.size := Heap.lt_size he
    have hil : it < s.heap.objs.size := by obtain ⟨_, q, _⟩ := hit; exact Heap.lt_size q
    have pt : s.heap.IsTuple a its.toArray := p
    have hai : a ≠ it := fun z => by
      subst z
      obtain ⟨o1, e1, c1, _⟩ := pt
      obtain ⟨o2, e2, c2, _⟩ := hit
      rw [e1] at e2; cases e2
      rw [c1] at c2
      exact absurd (Value.type.inj c2) (by decide)
    have hae : a ≠ e := fun z => by
      subst z
      obtain ⟨o1, e1, c1, _⟩ := pt
      rw [he] at e1; cases e1
      exact absurd (Value.type.inj c1) (by decide)
    have hlt : i < its.toArray.size := by
      have := (List.getElem?_eq_some_iff.mp hu).1
      simpa using this
    refine wpAny_pyNext_enum_itemD (Draws.tuple (A := X.A.in1) (by simpa using I.ok.hd hc) it a hai its.toArray) he ⟨hit, pt⟩ hlt hne (by simp [hne, Ne.symm hae]) fun x' h' tk hx' ho st' hT hsz hk => ?_
    have eu : x' = u := by
      have q : its.toArray[i]? = some u := by simpa using hu
      rw [q] at hx'; cases hx'; rfl
    subst eu
    refine ⟨_, rfl, wpAny_letOwnedTupleGo_enum (s := { s with heap := h', toks := tk + 1 }) ho fun h'' he' sb => ?_⟩
    have hT2 : h''.get? s.heap.objs.size = some { cls := .type "tuple", data := .seq #[.int i tk, x'] } := (sb.2 _ (Nat.ne_of_gt hel)).trans hT
    have new : ObjOk X.prog X.w (upd H s.heap.objs.size (.tup [.int (i : Nat), x])) h'' s.heap.objs.size (.tup [.int (i : Nat), x]) :=
      ⟨by show 2 ≤ sizeLine; decide, [.int i tk, x'], .cons ⟨_, rfl⟩ (.cons ru .nil), ⟨_, hT2, rfl, _, rfl⟩⟩
    have I1 : Inv X pins σ (upd H s.heap.objs.size (.tup [.int (i : Nat), x])) { s with heap := h'', toks := tk + 1 } :=
      I.turnedNew (ch := [e, it]) (fun b ob hb q => (sb.2 b (fun z => hb (by simp [z]))).trans (hk b ob (fun z => hb (by simp [z])) (fun z => hb (by simp [z])) q)) hf (Nat.le_refl _) new
    refine ⟨.ref s.heap.objs.size, _, I1, rfl, ⟨_, x, rfl, I.hok.fresh (Nat.le_refl _), rfl, fun ys hy => by rw [I.tuple_inj hy hq]; exact hx⟩, ⟨⟨x', ?_⟩, st'.1.at fun o q => (sb.2 it (Ne.symm hne)).trans q, hne⟩, fun b hb => ?_⟩
    · have e1 : ((i + 1 : Nat) : Int) = (i : Int) + 1 := by omega
      rw [e1]; exact he'
    · have hb' : b < s.heap.objs.size := by
        have e' : b = e ∨ b = it := by simpa using hb
        rcases e' with z | z
        · rw [z]; exact hel
        · rw [z]; exact hil
      rw [upd_ne (Nat.ne_of_lt hb')]
      exact (hf b hb).1
  done := by
    intro X hP hw hK hc i pins s σ H E I hf st hg
    subst hP hw hK
    obtain ⟨⟨old, he⟩, hit, hne⟩ := st
    obtain ⟨xs, hq, hx⟩ := hg
    obtain ⟨its, rv, p, hz⟩ := I.tuple hq
    obtain ⟨f0, f1, f2, f3, f4, f5⟩ := hf it (by simp)
    have pt : s.heap.IsTuple a its.toArray := p
    have hai : a ≠ it := fun z => by
      subst z
      obtain ⟨o1, e1, c1, _⟩ := pt
      obtain ⟨o2, e2, c2, _⟩ := hit
      rw [e1] at e2; cases e2
      rw [c1] at c2
      exact absurd (Value.type.inj c2) (by decide)
    have hl := rv.length
    have en : its.toArray.size = i := by simp; omega
    exact wpAny_pyNext_enum_endD (Draws.tuple (A := X.A.in1) (by simpa using I.ok.hd hc) it a hai its.toArray) he (by rw [en]; exact ⟨hit, pt⟩) fun h' eb => ⟨rfl, I.turned (t' := s.toks) (fun b o hb q => eb b o hb q) f0 f1 f3 f4 f5⟩
  self := fun A i s Q E st h => let ⟨⟨_, he⟩, _⟩ := st; wpAny_pyIter_enum he h
def iEnumT (K : PySem.W.Frag) (ta : TA) : TI := fun σ H R => ta σ H fun vs H1 => ∃ a xs, vs = [.ref a] ∧ SqT K H1 a xs ∧ R (ItE K a) H1
theorem pi_enumT {X : Cx} {e : Expr} {ta : TA} {p pos tpos : Pos} {elts : List Expr} {kk : Nat} (hg : Gl X "enumerate") (hm : X.mg "enumerate" = none) (ha : PA X [e] ta) (hs : starEach [e] X.env = [(false, eval e X.env)] := by rfl) :
    PI X (.Tuple elts kk tpos) (.Call (.Name "enumerate" p) [e] [] pos) (iEnumT X.K ta) := by
  refine ⟨fun pins s σ H R I h => ?_⟩
  refine Call_ (ld_blt I hg hm boot_enumerate (PyProof.Rows.callWith_type1 (thn (ha.run pos pins s σ H _ I h) fun us s1 ⟨vs, H1, I1, r1, q1⟩ => ?_) hs rfl))
  obtain ⟨a, xs, ex, hq, q⟩ := q1
  subst ex
  cases r1 with
  | cons r rr =>
    cases rr
    cases r
    obtain ⟨its, rv, p', hz⟩ := I1.tuple hq
    refine call_enum_tuple (show s1.heap.IsTuple a its.toArray from p') fun h' he hit hsz hk => wpAny_pyIter_enum he ?_
    have I2 : Inv X pins σ H1 { s1 with heap := h' } := I1.kept (t' := s1.toks) hk
    refine ⟨s1.heap.objs.size + 1, [s1.heap.objs.size + 1, s1.heap.objs.size], _, _, H1, rfl, I2, turn_enumT a (s1.heap.objs.size + 1) s1.heap.objs.size, ⟨⟨.none, he⟩, hit, Nat.succ_ne_self _⟩, fun b hb => ?_, q⟩
    have e' : b = s1.heap.objs.size + 1 ∨ b = s1.heap.objs.size := by simpa using hb
    have hle : s1.heap.objs.size ≤ b := by
      rcases e' with z | z
      · rw [z]; exact Nat.le_add_right _ _
      · rw [z]; exact Nat.le_refl _
    exact I1.fpOk hle (I1.hok.fresh hle)
theorem walk_enumT {K : PySem.W.Frag} {a : Addr} {xs : List V} : Walk (ItE K a) xs.length (fun H => SqT K H a xs) (YPair (fun i => some (.int (i : Nat))) (fun i => xs[i]?)) :=
  ⟨fun i H hi hg => ⟨xs, xs[i], hg, by simp [hi]⟩, fun H hg => ⟨xs, hg, rfl⟩, fun i H v H' hi hg ⟨T, x, e1, e2, e3, e4⟩ => ⟨T, _, x, e1, e2, e3, rfl, e4 xs hg⟩⟩


def setAll : List Nat → List V → L2.St → L2.St
  | i :: is, v :: vs, σ => setAll is vs (σ.set i (some v))
  | _, _, σ => σ
inductive Caps (X : Cx) : List Pattern → List Nat → Prop
  | nil : Caps X [] []
  | cons {x : Str} {p : Pos} {ps : List Pattern} {i : Nat} {is : List Nat} (hi : X.N[i]? = some x) (hx : Loc X.env.scope x) (hf : X.fn x = true ∨ X.env.scope.names.lookup x = some .local) (r : Caps X ps is) : Caps X (.MatchAs none (some x) p :: ps) (i :: is)
def capNames : List Pattern → List Str
  | .MatchAs none (some x) _ :: ps => x :: capNames ps
  | _ => []
theorem Caps.len {X : Cx} : ∀ {ps : List Pattern} {is : List Nat}, Caps X ps is → ps.length = is.length
  | _, _, .nil => rfl
  | _, _, .cons _ _ _ r => by simp [r.len]
theorem Caps.each {X : Cx} {A : Around} {E : Value → Shared → Prop} {s : Shared} : ∀ {ps : List Pattern} {is : List Nat} {us : List Value} {Q : Option (List (Str × Value)) → Shared → Prop}, Caps X ps is → us.length = ps.length →
    Q (some ((capNames ps).zip us)) s → wpAny (model X.prog X.w) A (matchEach ps X.env us) Q E s
  | _, _, [], Q, .nil, _, h => wpAny_matchEach_nil h
  | _, _, u :: us, Q, .cons hi hx hf r, hl, h => by
    refine wpAny_matchEach_cons (wpAny_matchPattern_Capture ?_)
    show wpAny _ _ (matchEach _ X.env us) _ _ _
    exact Caps.each r (by simpa using hl) h
theorem Caps.store {X : Cx} {pins : List (Addr × Obj)} {H : Hp} (hN : X.N.Nodup) : ∀ {ps : List Pattern} {is : List Nat} {us : List Value} {vs : List V} {σ : L2.St} {s : Shared} {Q : Unit → Shared → Prop}, Caps X ps is → Vals vs us → us.length = ps.length → Inv X pins σ H s →
    (∀ s', Inv X pins (setAll is vs σ) H s' → Q () s') → wpAny (model X.prog X.w) X.A (assignInOrder (((capNames ps).zip us).map fun (n, _) => bindName X.env n) (((capNames ps).zip us).map (·.2))) Q X.xe s
  | _, _, _, _, σ, s, Q, .nil, .nil, _, I, h => assignInOrder_nil (h s I)
  | _, _, _, _, σ, s, Q, .cons hi hx hf r, .cons rv rr, hl, I, h => by
    refine assignInOrder_cons (wpAny_bindName (store_ok I hN hi hx rv (fun s' I' => ?_) hf))
    exact Caps.store hN r rr (by simpa using hl) I' h
theorem fitL {n : Nat} (h : n ≤ sizeLine) : (n : Int) < 2 ^ 63 := by
  have h2 : n < 2 ^ 63 := Nat.lt_of_le_of_lt h line63
  exact Int.ofNat_lt.mpr h2
def notSeq : V → Bool
  | .non => true
  | .bl _ => true
  | .int _ => true
  | .str _ => true
  | _ => false
def tMatch (K : PySem.W.Frag) (is : List Nat) (te : TE) (tg : TT) (tb tc : TS) : TS := fun D σ H => te σ H fun x H1 =>
  (∃ a vs, x = .ref a ∧ (SqT K H1 a vs ∨ SqL K H1 a vs) ∧ ((vs.length = is.length ∧ tg (setAll is vs σ) H1 fun b H2 => if b = true then tb D (setAll is vs σ) H2 else tc D (setAll is vs σ) H2) ∨ (vs.length ≠ is.length ∧ tc D σ H1))) ∨
  (notSeq x = true ∧ tc D σ H1)
theorem ps_match {X : Cx} {subject g : Expr} {ps : List Pattern} {is : List Nat} {body other : List Stmt} {p1 p2 pos : Pos} {te : TE} {tg : TT} {tb tc : TS} (hc : X.calm = true) (hN : X.N.Nodup) (he : PE X subject te) (hp : Caps X ps is) (hg : PT X g tg) (hb : PSs X body tb) (ho : PSs X other tc)
    (hstar : ps.findIdx? (·.isStar) = none := by rfl) (hwild : (ps.all fun p => p.isWildcard || (p.isStar && p.names.isEmpty)) = false := by rfl) :
    PS X (.Match subject [⟨.MatchSequence ps p1, some g, body⟩, ⟨.MatchAs none none p2, none, other⟩] pos) (tMatch X.K is te tg tb tc) := by
  refine ⟨fun pins s σ H D I h => ?_⟩
  refine wpAny_Match (thn (he.run pins s σ H _ I h) fun u s1 ⟨x, H1, I1, r1, q1⟩ => ?_)
  have last : ∀ {s2 : Shared} {σ2 : L2.St} {H2 : Hp}, Inv X pins σ2 H2 s2 → tc D σ2 H2 → wpAny (model X.prog X.w) X.A (matchCases [⟨.MatchAs none none p2, none, other⟩] X.env u false) (SP X pins D) X.xe s2 := fun {s2 σ2 H2} I2 q2 => by
    refine wpAny_matchCases_cons (wpAny_matchPattern_Capture ?_)
    show wpAny _ _ (assignInOrder [] []) _ _ _
    exact assignInOrder_nil (ho.run pins s2 σ2 H2 D I2 q2)
  refine wpAny_matchCases_cons ?_
  rcases q1 with ⟨a, vs, rfl, hq, q⟩ | ⟨hn, q⟩
  · obtain rfl : u = Value.ref a := r1
    rcases hq with hq | hq
    · obtain ⟨its, rv, p, hz⟩ := I1.tuple hq
      have hl := rv.length
      have fit : (its.toArray.size : Int) < 2 ^ 63 := fitL (by rw [List.size_toArray, ← hl]; exact hz)
      have en : its.toArray.size = vs.length := by rw [List.size_toArray, hl]
      rcases q with ⟨el, q⟩ | ⟨el, q⟩
      · have e0 : ps.length = its.toArray.size := by rw [en, el, hp.len]
        refine matchSeq_tuple_hit p fit e0.symm ?_ hstar hwild
        rw [e0]
        refine unpackItems_tuple (s := { s1 with toks := s1.toks + 1 + 1 }) (I.ok.hd hc) p fun h' hx' => ?_
        have I2 := (I1.tok (s1.toks + 1 + 1)).kept (h' := h') (t' := s1.toks + 1 + 1) fun b o e => hx' b o (Nat.ne_of_lt (Heap.lt_size e)) e
        refine Caps.each hp (by rw [Array.length_toList, e0]) ?_
        refine Caps.store (us := its.toArray.toList) (vs := vs) hN hp (by simpa using rv) (by rw [Array.length_toList, e0]) I2 fun s3 I3 => ?_
        refine thn (hg.run pins s3 _ H1 _ I3 q) fun b s4 ⟨H2, I4, q4⟩ => ?_
        cases b with
        | true => exact hb.run pins s4 _ H2 D I4 (by simpa using q4)
        | false => exact last I4 (by simpa using q4)
      · refine matchSeq_tuple_miss p fit (by rw [en, hp.len]; exact el) ?_ hstar hwild
        exact last (I1.tok _) q
    · obtain ⟨its, rv, p, hz⟩ := I1.list hq
      have hl := rv.length
      have fit : (its.toArray.size : Int) < 2 ^ 63 := fitL (by rw [List.size_toArray, ← hl]; exact hz)
      have en : its.toArray.size = vs.length := by rw [List.size_toArray, hl]
      rcases q with ⟨el, q⟩ | ⟨el, q⟩
      · have e0 : ps.length = its.toArray.size := by rw [en, el, hp.len]
        refine matchSeq_list_hit p.isList fit e0.symm ?_ hstar hwild
        rw [e0]
        refine PySem.W.kun_itemsOf (s := { s1 with toks := s1.toks + 1 + 1 }) (I.ok.hd hc) p.isList fun h' hx' => ?_
        have I2 := (I1.tok (s1.toks + 1 + 1)).kept (h' := h') (t' := s1.toks + 1 + 1) fun b o e => hx' b o (Nat.ne_of_lt (Heap.lt_size e)) e
        refine Caps.each hp (by rw [Array.length_toList, e0]) ?_
        refine Caps.store (us := its.toArray.toList) (vs := vs) hN hp (by simpa using rv) (by rw [Array.length_toList, e0]) I2 fun s3 I3 => ?_
        refine thn (hg.run pins s3 _ H1 _ I3 q) fun b s4 ⟨H2, I4, q4⟩ => ?_
        cases b with
        | true => exact hb.run pins s4 _ H2 D I4 (by simpa using q4)
        | false => exact last I4 (by simpa using q4)
      · refine matchSeq_list_miss p.isList fit (by rw [en, hp.len]; exact el) ?_ hstar hwild
        exact last (I1.tok _) q
  · have miss : ∀ {T : String}, s1.TypeIs u T → flagOfType true (.type T) = pure false → wpAny (model X.prog X.w) X.A (matchPattern (.MatchSequence ps p1) X.env u) (fun r s₁ => match r with
          | none => wpAny (model X.prog X.w) X.A (matchCases [⟨.MatchAs none none p2, none, other⟩] X.env u false) (SP X pins D) X.xe s₁
          | some bs => wpAny (model X.prog X.w) X.A (assignInOrder (bs.map fun (n, _) => bindName X.env n) (bs.map (·.2))) (fun _ s₂ => wpAny (model X.prog X.w) X.A (isTrue g X.env (eval g X.env))
                  (fun ok s₃ => if ok then wpAny (model X.prog X.w) X.A (execs body X.env) (SP X pins D) X.xe s₃ else wpAny (model X.prog X.w) X.A (matchCases [⟨.MatchAs none none p2, none, other⟩] X.env u false) (SP X pins D) X.xe s₃) X.xe s₂) X.xe s₁) X.xe s1 := fun {T} hT hfl => by
      refine wpAny_matchPattern_Sequence (wpAny_collectionFlag hT hfl ?_) hstar hwild
      rw [if_neg (by decide)]
      exact last I1 q
    cases x with
    | non => cases (show u = Value.none from r1); exact miss (T := "NoneType") (by trivial) flag_seq_None
    | bl b => cases (show u = Value.bool b from r1); exact miss (T := "bool") (by trivial) flag_seq_bool
    | int i => obtain ⟨t, rfl⟩ := (show ∃ t, u = Value.int i t from r1); exact miss (T := "int") (by trivial) flag_seq_int
    | str z => obtain ⟨t, rfl⟩ := (show ∃ t, u = Value.str z t from r1); exact miss (T := "str") (by trivial) flag_seq_str
    | byt b => cases hn
    | flt b => cases hn
    | ref a => cases hn
    | ty n => cases hn

end MF
set_option Elab.async false
set_option linter.all false
set_option maxRecDepth 100000
set_option maxHeartbeats 1000000
namespace MF
open PySem PySem.Spec PyProof.Rows L2 StX

structure GFn (P : Program) (w : World) (K : PySem.W.Frag) (mg : Str → Option Value) (base : Heap) (CX : CXT) (k : Nat) (x : Str) (sp : Sp) : Prop where
  ex : ∃ f, FnR P w K mg base CX k f sp ∧ mg x = some (.ref f) ∧ PySem.W.keepIn K (.ref f) = true
structure MFn (P : Program) (w : World) (K : PySem.W.Frag) (mg : Str → Option Value) (base : Heap) (CX : CXT) (k : Nat) (C : Addr) (m : Str) (sp : Sp) : Prop where
  ex : ∃ f, FnR P w K mg base CX k f sp ∧ Meth K C m f
structure IFn (P : Program) (w : World) (K : PySem.W.Frag) (mg : Str → Option Value) (base : Heap) (CX : CXT) (k : Nat) (C : Addr) (x : Str) (sp : Sp) : Prop where
  ex : ∃ f, FnR P w K mg base CX k f sp ∧ Mk K C f ∧ mg x = some (.ref C)
section
variable {P : Program} {w : World} {K : PySem.W.Frag} {mg : Str → Option Value} {base : Heap} {CX : CXT} {j k : Nat} {C : Addr} {x m : Str} {sp sp' : Sp}
theorem GFn.mono (G : GFn P w K mg base CX j x sp) (h : j ≤ k) : GFn P w K mg base CX k x sp := let ⟨f, a, b⟩ := G.ex; ⟨f, a.mono h, b⟩
theorem GFn.imp (G : GFn P w K mg base CX k x sp) (h : ∀ vs H Q E, sp' vs H Q E → sp vs H Q E) : GFn P w K mg base CX k x sp' := let ⟨f, a, b⟩ := G.ex; ⟨f, a.imp h, b⟩
theorem MFn.mono (G : MFn P w K mg base CX j C m sp) (h : j ≤ k) : MFn P w K mg base CX k C m sp := let ⟨f, a, b⟩ := G.ex; ⟨f, a.mono h, b⟩
theorem MFn.imp (G : MFn P w K mg base CX k C m sp) (h : ∀ vs H Q E, sp' vs H Q E → sp vs H Q E) : MFn P w K mg base CX k C m sp' := let ⟨f, a, b⟩ := G.ex; ⟨f, a.imp h, b⟩
end
structure GDef (K : PySem.W.Frag) (mg : Str → Option Value) (x : Str) (st : Stmt) (ps : List Str) : Prop where
  ex : ∃ f fd, Fun K x x st f fd ∧ mg x = some (.ref f) ∧ Binds K fd ps []
structure MDef (K : PySem.W.Frag) (C : Addr) (m qual : Str) (st : Stmt) (ps : List Str) : Prop where
  ex : ∃ f fd, Fun K m qual st f fd ∧ Meth K C m f ∧ Binds K fd ps []
structure IDef (K : PySem.W.Frag) (mg : Str → Option Value) (C : Addr) (x qual : Str) (st : Stmt) (ps : List Str) : Prop where
  ex : ∃ f fd, Fun K "__init__" qual st f fd ∧ Mk K C f ∧ mg x = some (.ref C) ∧ Binds K fd ps []
section
variable {P : Program} {w : World} {K : PySem.W.Frag} {mg : Str → Option Value} {base : Heap} {CX : CXT} {k : Nat} {C : Addr} {x m qual : Str} {st : Stmt} {ps : List Str} {sp : Sp}
theorem raw0 {f : Addr} {fd : FuncData} (F : FnOk P w K mg base CX k f fd ps sp) (hb : Binds K fd ps []) : FnR P w K mg base CX k f sp :=
  (F.raw hb (dvs := []) .nil).imp fun vs H Q E h => by rw [List.append_nil]; exact h
theorem GDef.fn (D : GDef K mg x st ps) (h : ∀ f fd, Fun K x x st f fd → FnOk P w K mg base CX k f fd ps sp) : GFn P w K mg base CX k x sp :=
  let ⟨f, fd, a, b, c⟩ := D.ex
  ⟨f, raw0 (h f fd a) c, b, a.kp⟩
theorem MDef.fn (D : MDef K C m qual st ps) (h : ∀ f fd, Fun K m qual st f fd → FnOk P w K mg base CX k f fd ps sp) : MFn P w K mg base CX k C m sp :=
  let ⟨f, fd, a, b, c⟩ := D.ex
  ⟨f, raw0 (h f fd a) c, b⟩
theorem IDef.fn (D : IDef K mg C x qual st ps) (h : ∀ f fd, Fun K "__init__" qual st f fd → FnOk P w K mg base CX k f fd ps sp) : IFn P w K mg base CX k C x sp :=
  let ⟨f, fd, a, b, c, d⟩ := D.ex
  ⟨f, raw0 (h f fd a) d, b, c⟩
end
section
variable {X : Cx} {CX : CXT} {k : Nat} {C : Addr} {x m : Str} {sp : Sp} {E : XK} {e o : Expr} {es : List Expr} {ta te : TE} {t : TA} {p pos apos sp_ : Pos}
def tG (sp : Sp) (E : XK) (t : TA) : TE := fun σ H Q => t σ H fun vs H1 => sp vs H1 Q E
theorem pe_gX (G : GFn X.prog X.w X.K X.mg X.base CX k x sp) (hr : Room k X.A) (hx : Passes CX X E) (ha : PA X (e :: es) t) (hg : Gl X x := by rfl) (hdb : (x == ("__debug__" : Str)) = false := by decide)
    (he : starEach (e :: es) X.env = (false, eval e X.env) :: starEach es X.env := by rfl) (hpl : (backTo pos (starEach es X.env)).any (·.1) = false := by rfl) :
    PE X (.Call (.Name x p) (e :: es) [] pos) (tG sp E t) := by
  obtain ⟨f, F, hm, hk⟩ := G.ex
  refine ⟨fun pins s σ H Q I h => ?_⟩
  refine wpAny_Call_Name_kw (ld_glob I hg hm ?_ hdb)
  refine PySem.W.callWith_K (h₀ := X.base) I.ok.mod.kin hk (thn (ha.run pos pins s σ H _ I h) fun us s1 ⟨vs, H1, I1, r, q⟩ => ⟨I1.kIn, ?_⟩) he hpl
  exact wpAny_call (run_fnR F hr hx I1 r q)
theorem pe_g (G : GFn X.prog X.w X.K X.mg X.base CX0 k x sp) (hr : Room k X.A) (ha : PA X (e :: es) t) (hg : Gl X x := by rfl) (hdb : (x == ("__debug__" : Str)) = false := by decide)
    (he : starEach (e :: es) X.env = (false, eval e X.env) :: starEach es X.env := by rfl) (hpl : (backTo pos (starEach es X.env)).any (·.1) = false := by rfl) :
    PE X (.Call (.Name x p) (e :: es) [] pos) (tG sp E0 t) := pe_gX G hr pass0 ha hg hdb he hpl
theorem pe_g0X (G : GFn X.prog X.w X.K X.mg X.base CX k x sp) (hr : Room k X.A) (hx : Passes CX X E) (hg : Gl X x := by rfl) (hdb : (x == ("__debug__" : Str)) = false := by decide) :
    PE X (.Call (.Name x p) [] [] pos) (tG sp E tNil) := by
  obtain ⟨f, F, hm, hk⟩ := G.ex
  refine ⟨fun pins s σ H Q I h => ?_⟩
  refine wpAny_Call_Name_kw (ld_glob I hg hm ?_ hdb)
  exact PySem.W.callWith_K0 I.kIn hk (wpAny_call (run_fnR (us := []) F hr hx I .nil h))
theorem pe_gS (G : GFn X.prog X.w X.K X.mg X.base CX k x sp) (hr : Room k X.A) (hx : Passes CX X E) (he : PE X e te) (hg : Gl X x := by rfl) (hdb : (x == ("__debug__" : Str)) = false := by decide)
    (hst : starEach [.Starred e sp_] X.env = [(true, eval e X.env)] := by rfl) :
    PE X (.Call (.Name x p) [.Starred e sp_] [] pos) (tG sp E (tStar X.K te tNil)) := by
  obtain ⟨f, F, hm, hk⟩ := G.ex
  refine ⟨fun pins s σ H Q I h => ?_⟩
  refine wpAny_Call_Name_kw (ld_glob I hg hm ?_ hdb)
  refine PySem.W.callWith_S (h₀ := X.base) I.ok.mod.kin hk (thn (he.run pins s σ H _ I h) fun v s1 ⟨y, H1, I1, ry, a, xs, ey, hxs, q⟩ => ?_) hst
  subst ey
  obtain rfl : v = Value.ref a := ry
  refine star_any I1 hxs fun us s2 I2 rv => ⟨I2.kIn, wpAny_call (run_fnR F hr hx I2 rv ?_)⟩
  have q' : sp (xs ++ []) H1 Q E := q
  rw [List.append_nil] at q'
  exact q'
theorem pe_mkX (G : IFn X.prog X.w X.K X.mg X.base CX k C x sp) (hr : Room (k + 1) X.A) (hx : Passes CX X E) (ha : PA X (e :: es) t) (hg : Gl X x := by rfl) (hdb : (x == ("__debug__" : Str)) = false := by decide)
    (he : starEach (e :: es) X.env = (false, eval e X.env) :: starEach es X.env := by rfl) (hpl : (backTo pos (starEach es X.env)).any (·.1) = false := by rfl) : PE X (.Call (.Name x p) (e :: es) [] pos) (tMakeR C sp E t) := by
  obtain ⟨f, F, M, hm⟩ := G.ex
  exact pe_makeR M F hr hg hm hx ha hdb he hpl
theorem pe_mk0X (G : IFn X.prog X.w X.K X.mg X.base CX k C x sp) (hr : Room (k + 1) X.A) (hx : Passes CX X E) (hg : Gl X x := by rfl) (hdb : (x == ("__debug__" : Str)) = false := by decide) : PE X (.Call (.Name x p) [] [] pos) (tMakeR C sp E tNil) := by
  obtain ⟨f, F, M, hm⟩ := G.ex
  refine ⟨fun pins s σ H Q I h => ?_⟩
  refine wpAny_Call_Name_kw (ld_glob I hg hm ?_ hdb)
  exact PySem.W.callWith_K0 I.kIn M.kp (run_makeR (us := []) M F hr hx I .nil h)
theorem pe_mkS (G : IFn X.prog X.w X.K X.mg X.base CX k C x sp) (hr : Room (k + 1) X.A) (hx : Passes CX X E) (he : PE X e te) (hg : Gl X x := by rfl) (hdb : (x == ("__debug__" : Str)) = false := by decide)
    (hst : starEach [.Starred e sp_] X.env = [(true, eval e X.env)] := by rfl) : PE X (.Call (.Name x p) [.Starred e sp_] [] pos) (tMakeR C sp E (tStar X.K te tNil)) := by
  obtain ⟨f, F, M, hm⟩ := G.ex
  refine ⟨fun pins s σ H Q I h => ?_⟩
  refine wpAny_Call_Name_kw (ld_glob I hg hm ?_ hdb)
  refine PySem.W.callWith_S (h₀ := X.base) I.ok.mod.kin M.kp (thn (he.run pins s σ H _ I h) fun v s1 ⟨y, H1, I1, ry, a, xs, ey, hxs, q⟩ => ?_) hst
  subst ey
  obtain rfl : v = Value.ref a := ry
  refine star_any I1 hxs fun us s2 I2 rv => ⟨I2.kIn, run_makeR M F hr hx I2 rv ?_⟩
  have q' : ∀ x dx, H1 x = none → H1 dx = none → dx ≠ x → sp (V.ref x :: (xs ++ [])) (upd (upd H1 dx (.own x)) x (.ins C dx [])) (fun v H2 => v = .non ∧ Q (.ref x) H2) E := q
  rw [List.append_nil] at q'
  exact q'
theorem pe_mkS2 (G : IFn X.prog X.w X.K X.mg X.base CX k C x sp) (hr : Room (k + 1) X.A) (hx : Passes CX X E) (ha : PA X (e :: es) t) (hg : Gl X x := by rfl) (hdb : (x == ("__debug__" : Str)) = false := by decide)
    (he : starEach (e :: es) X.env = (false, eval e X.env) :: starEach es X.env := by rfl) (hst : (backTo pos (starEach es X.env)).any (·.1) = true := by rfl) : PE X (.Call (.Name x p) (e :: es) [] pos) (tMakeR C sp E t) := by
  obtain ⟨f, F, M, hm⟩ := G.ex
  refine ⟨fun pins s σ H Q I h => ?_⟩
  refine wpAny_Call_Name_kw (ld_glob I hg hm ?_ hdb)
  refine PySem.W.callWith_S2 (h₀ := X.base) I.ok.mod.kin M.kp (thn (ha.run pos pins s σ H _ I h) fun us s1 ⟨vs, H1, I1, r, q⟩ => ⟨I1.kIn, ?_⟩) he hst
  exact run_makeR M F hr hx I1 r q
def tM (C : Addr) (m : Str) (sp : Sp) (E : XK) (ta : TE) (t : TA) : TE := fun σ H Q => ta σ H fun x H1 => ∃ a dx fs, x = .ref a ∧ H1 a = some (.ins C dx fs) ∧ fs.lookup m = none ∧ t σ H1 fun vs H2 => sp (x :: vs) H2 Q E
theorem pe_mX {pl : Sem Bool} (G : MFn X.prog X.w X.K X.mg X.base CX k C m sp) (c : Cls X.K C) (hr : Room k X.A) (hx : Passes CX X E) (he : PE X o ta) (ha : PA X (e :: es) t)
    (hst : starEach (e :: es) X.env = (false, eval e X.env) :: starEach es X.env := by rfl) (hpl : (backTo pos (starEach es X.env)).any (·.1) = false := by rfl)
    (ht : eval (.Call (.Attribute o m apos) (e :: es) [] pos) X.env = (do
      let ov ← eval o X.env
      standAt apos.atName
      let (f, first) ← holding [ov] (getMethod ov m pl)
      callWith pos f first (backTo pos (starEach (e :: es) X.env)) (backToKw pos (keywordEach [] X.env))) := by rfl) :
    PE X (.Call (.Attribute o m apos) (e :: es) [] pos) (tM C m sp E ta t) := by
  obtain ⟨f, F, hm⟩ := G.ex
  refine ⟨fun pins s σ H Q I h => ?_⟩
  refine PySem.W.methodCall_KW (pl := pl) (thn (he.run pins s σ H _ I h) fun u s1 ⟨x, H1, I1, rx, a, dx, fs, ex, ea, l, q⟩ => ?_) ht
  subst ex
  obtain rfl : u = Value.ref a := rx
  refine getmeth_ok I1 ea c hm l ?_
  refine PySem.W.callWith_K (first := [.ref a]) (h₀ := X.base) I.ok.mod.kin hm.kp (thn (ha.run pos pins s1 σ H1 _ I1 q) fun us s2 ⟨vs, H2, I2, r, q2⟩ => ⟨I2.kIn, ?_⟩) hst hpl
  exact wpAny_call (run_fnR (us := .ref a :: us) (vs := .ref a :: vs) F hr hx I2 (.cons rfl r) q2)
theorem pe_m {pl : Sem Bool} (G : MFn X.prog X.w X.K X.mg X.base CX0 k C m sp) (c : Cls X.K C) (hr : Room k X.A) (he : PE X o ta) (ha : PA X (e :: es) t)
    (hst : starEach (e :: es) X.env = (false, eval e X.env) :: starEach es X.env := by rfl) (hpl : (backTo pos (starEach es X.env)).any (·.1) = false := by rfl)
    (ht : eval (.Call (.Attribute o m apos) (e :: es) [] pos) X.env = (do
      let ov ← eval o X.env
      standAt apos.atName
      let (f, first) ← holding [ov] (getMethod ov m pl)
      callWith pos f first (backTo pos (starEach (e :: es) X.env)) (backToKw pos (keywordEach [] X.env))) := by rfl) :
    PE X (.Call (.Attribute o m apos) (e :: es) [] pos) (tM C m sp E0 ta t) := pe_mX G c hr pass0 he ha hst hpl ht
theorem pe_mX0 {pl : Sem Bool} (G : MFn X.prog X.w X.K X.mg X.base CX k C m sp) (c : Cls X.K C) (hr : Room k X.A) (hx : Passes CX X E) (he : PE X o ta)
    (ht : eval (.Call (.Attribute o m apos) [] [] pos) X.env = (do
      let ov ← eval o X.env
      standAt apos.atName
      let (f, first) ← holding [ov] (getMethod ov m pl)
      callWith pos f first (backTo pos (starEach [] X.env)) (backToKw pos (keywordEach [] X.env))) := by rfl) :
    PE X (.Call (.Attribute o m apos) [] [] pos) (tM C m sp E ta tNil) := by
  obtain ⟨f, F, hm⟩ := G.ex
  refine ⟨fun pins s σ H Q I h => ?_⟩
  refine PySem.W.methodCall_KW (pl := pl) (thn (he.run pins s σ H _ I h) fun u s1 ⟨x, H1, I1, rx, a, dx, fs, ex, ea, l, q⟩ => ?_) ht
  subst ex
  obtain rfl : u = Value.ref a := rx
  refine getmeth_ok I1 ea c hm l ?_
  exact PySem.W.callWith_K0 (first := [.ref a]) I1.kIn hm.kp (wpAny_call (run_fnR (us := [.ref a]) (vs := [.ref a]) F hr hx I1 (.cons rfl .nil) q))
theorem pe_m0 {pl : Sem Bool} (G : MFn X.prog X.w X.K X.mg X.base CX0 k C m sp) (c : Cls X.K C) (hr : Room k X.A) (he : PE X o ta)
    (ht : eval (.Call (.Attribute o m apos) [] [] pos) X.env = (do
      let ov ← eval o X.env
      standAt apos.atName
      let (f, first) ← holding [ov] (getMethod ov m pl)
      callWith pos f first (backTo pos (starEach [] X.env)) (backToKw pos (keywordEach [] X.env))) := by rfl) :
    PE X (.Call (.Attribute o m apos) [] [] pos) (tM C m sp E0 ta tNil) := pe_mX0 G c hr pass0 he ht
theorem pe_gint {n : Int} (h : ∃ t, X.mg x = some (.int n t)) (hg : Gl X x := by rfl) (hd : (x == ("__debug__" : Str)) = false := by decide) : PE X (.Name x pos) (tC (.int n)) := by
  obtain ⟨t, h⟩ := h
  exact pe_glob hg h ⟨_, rfl⟩ hd
theorem pe_gstr {z : Str} (h : ∃ t, X.mg x = some (.str z t)) (hg : Gl X x := by rfl) (hd : (x == ("__debug__" : Str)) = false := by decide) : PE X (.Name x pos) (tC (.str z)) := by
  obtain ⟨t, h⟩ := h
  exact pe_glob hg h ⟨_, rfl⟩ hd
end
theorem op_ownR {X : Cx} {op : Operator} {C f : Addr} {m : Str} {CX : CXT} {k : Nat} {sp : Sp} {E : XK} (hc : PySem.W.selfFirst X.K C = true) (M : Meth X.K C m f) (F : FnR X.prog X.w X.K X.mg X.base CX k f sp) (hr : Room k X.A) (hx : Passes CX X E) (hm : PySem.dunder op.info.2 = m := by rfl) :
    OpR X (binaryOp op) (fun x y H Q => ∃ a b dx dy fs gs, x = .ref a ∧ y = .ref b ∧ H a = some (.ins C dx fs) ∧ H b = some (.ins C dy gs) ∧ sp [.ref a, .ref b] H Q E) := by
  subst hm
  rintro pins s σ H x y u v Q I rx ry ⟨a, b, dx, dy, fs, gs, rfl, rfl, ea, eb, h⟩
  obtain rfl : u = Value.ref a := rx
  obtain rfl : v = Value.ref b := ry
  obtain ⟨mA, O, _⟩ := ins_get I.hok ea
  obtain ⟨mB, O', _⟩ := ins_get I.hok eb
  obtain ⟨od, ia, _⟩ := O.look
  obtain ⟨od', ib, _⟩ := O'.look
  obtain ⟨mm, fr⟩ := I.fr
  refine PySem.W.binop_K fr I.mod.kin ia ib.type hc M.at_ M.fn ?_
  refine thn (wpAny_call (run_fnR (us := [.ref a, .ref b]) (vs := [.ref a, .ref b]) F hr hx I (.cons rfl (.cons rfl .nil)) h)) fun r s' hq => ?_
  obtain ⟨z, H', I', rz, q⟩ := hq
  exact notNI rz ⟨z, H', I', rz, q⟩
structure SDef (K : PySem.W.Frag) (mg : Str → Option Value) (C : Addr) (x qual : Str) (st : Stmt) (p1 pv : Str) : Prop where
  ex : ∃ f fd, Fun K "__init__" qual st f fd ∧ Mk K C f ∧ mg x = some (.ref C) ∧ ∀ us rest : List Value, us.length = [p1].length → bindArgs fd ⟨us ++ rest, []⟩ = (newTuple rest >>= fun t => pure ([p1].zip us ++ [(pv, t)]))
theorem SDef.fn0 {P : Program} {w : World} {K : PySem.W.Frag} {mg : Str → Option Value} {base : Heap} {k : Nat} {C : Addr} {x qual p1 pv : Str} {st : Stmt} {N : List Str} {sp : Sp} (D : SDef K mg C x qual st p1 pv) (S : FnScope N [p1, pv] (defScope st))
    (hbody : ∀ (f : Addr) (cdv : Value) (A : Around) (outer : List Env) (s : Shared) (H : Hp) (vs : List V) (Q : VK) (E : XK), Room k (A.deeper (envOfC qual (defScope st) s.heap.objs.size f cdv)) → sp vs H Q E →
      ∃ t, PSs (cxOf CX0 P w K mg base N qual (defScope st) f cdv A outer s H E).nox (defBody st) t ∧ t { nx := fun _ H' => Q .non H', rt := Q } (start N vs) H) :
    IFn P w K mg base CX0 (k + 1) C x (fun vs H Q E => ∃ v rest, vs = v :: rest ∧ rest.length ≤ sizeLine ∧ ∀ p, H p = Option.none → sp [v, V.ref p] (upd H p (.tup rest)) Q E) := by
  obtain ⟨f, fd, F, M, hm, hb⟩ := D.ex
  obtain ⟨oc, od, kV, doc, pm, an, cdv, ct, osl, rfl, lk, hcd⟩ := F.ex
  refine ⟨f, (fn_star (ps := [p1]) (pv := pv) (sp := sp) lk hcd S cxUp_none hb fun A outer s H vs Q E hr hsp => ?_).imp fun vs H Q E h => ?_, M, hm⟩
  · obtain ⟨t, h, q⟩ := hbody f cdv A outer s H vs Q E hr hsp
    exact ⟨t, h.nox, q⟩
  · obtain ⟨v, rest, rfl, hl, q⟩ := h
    exact ⟨[v], rest, rfl, rfl, hl, q⟩
end MF
set_option Elab.async false
set_option linter.all false
set_option maxRecDepth 100000
set_option maxHeartbeats 1000000
namespace MF
open PySem PySem.Spec PyProof.Rows L2 StX
section
variable {X : Cx} {pins : List (Addr × Obj)} {σ : L2.St} {H : Hp} {s : Shared} {CX : CXT} {k : Nat} {C f : Addr} {sp : Sp} {E : XK}
theorem run_in1 {us : List Value} {vs : List V} {Q : VK} (F : FnR X.prog X.w X.K X.mg X.base CX k f sp) (hr : Room (k + 1) X.A) (hx : Passes CX X E) (I : Inv X pins σ H s) (r : Vals vs us) (h : sp vs H Q E) : wpAny (model X.prog X.w) X.A.in1 (call (.ref f) us) (EP X pins σ Q) X.xe s := by
  have e0 := I.env0
  refine wpAny_call (codeAny_mono (F X.A.in1 X.stack s H us vs Q E hr.in1 ⟨e0.frames, e0.mod, e0.bs, e0.bsz, e0.funs, e0.frf, e0.hok, e0.bare⟩ r h) fun r s' hq => ?_)
  cases r with
  | error e => exact hx pins σ H s e s' I hq
  | ok fl =>
    cases fl with
    | ret u => exact I.after hq
    | next => exact False.elim hq
    | brk => exact False.elim hq
    | cont => exact False.elim hq
def rLenO (C : Addr) (sp : Sp) (E : XK) : List V → Hp → VK → Prop := fun xs H Q => ∃ a dx fs, xs = [.ref a] ∧ H a = some (.ins C dx fs) ∧ sp [.ref a] H (fun v H' => ∃ n : Nat, v = .int (n : Int) ∧ (n : Int) < 2 ^ 63 ∧ Q (.int (n : Int)) H') E
theorem cr_lenO (M : Meth X.K C "__len__" f) (F : FnR X.prog X.w X.K X.mg X.base CX k f sp) (hr : Room (k + 1) X.A) (hx : Passes CX X E) : CallR X (.builtin "len") (rLenO C sp E) := by
  rintro pins s σ H xs us Q I r ⟨a, dx, fs, rfl, ea, h⟩
  rw [Vals.ref1 r]
  obtain ⟨mA, O, _⟩ := ins_get I.hok ea
  obtain ⟨od, ia, _⟩ := O.look
  obtain ⟨mm, fr⟩ := I.fr
  refine PySem.W.len_K fr I.mod.kin ia M.at_ M.fn ?_
  refine thn (run_in1 (us := [.ref a]) (vs := [.ref a]) F hr hx I (.cons rfl .nil) h) fun r s' hq => ?_
  obtain ⟨z, H', I', rz, n, rfl, hn, q⟩ := hq
  obtain ⟨t, rfl⟩ := rz
  exact ⟨⟨by omega, hn⟩, .int n, H', I'.tok _, ⟨_, rfl⟩, q⟩
def rIxO (C : Addr) (sp : Sp) (E : XK) : R2 := fun x y H Q => ∃ a dx fs, x = .ref a ∧ H a = some (.ins C dx fs) ∧ sp [.ref a, y] H Q E
theorem pe_ixO {a b : Expr} {ta tb : TE} {pos : Pos} (M : Meth X.K C "__getitem__" f) (F : FnR X.prog X.w X.K X.mg X.base CX k f sp) (hr : Room (k + 1) X.A) (hx : Passes CX X E) (hfi : PySem.W.fnIn X.K f = true) (ha : PE X a ta) (hb : PE X b tb)
    (hsl : ∀ o i, subscripted b true o i = runValue (.builtin "lifetime.subscript" ⟨[o, i], []⟩)) : PE X (.Subscript a b pos) (tOp (rIxO C sp E) ta tb) := by
  refine ⟨fun pins s σ H Q I h => ?_⟩
  refine Subscript_ (binT ha hb I h fun v u s2 x y H2 I2 rx ry q => ?_)
  obtain ⟨c, dx, fs, rfl, ec, q⟩ := q
  obtain rfl : v = Value.ref c := rx
  obtain ⟨mA, O, _⟩ := ins_get I2.hok ec
  obtain ⟨od, ia, _⟩ := O.look
  obtain ⟨mm, fr⟩ := I2.fr
  refine PySem.W.sub_K fr I2.mod.kin ia M.at_ hfi M.fn ?_ (hsl _ _)
  exact run_in1 (us := [.ref c, u]) (vs := [.ref c, y]) F hr hx I2 (.cons rfl (.cons ry .nil)) q
end
end MF
set_option Elab.async false
set_option linter.all false
set_option maxRecDepth 100000
set_option maxHeartbeats 1000000
namespace MF
open PySem PyProof.Rows
open Sem (wp)
def trapOf : GenState → GenState
  | .suspended _ l c p fs cl => .suspended (fun _ => .unsupported "") l c p fs cl
  | x => x
def isSusp : GenState → Bool
  | .suspended .. => true
  | _ => false
def noGen : GenState → Prop
  | .suspended _ _ _ _ fs _ => splitAtGen fs = none
  | _ => True
def endNoGen : End → Prop
  | .ret _ => True
  | .susp _ _ _ _ _ _ fs => splitAtGen fs = none
theorem endNoGen.gs {e : End} (h : endNoGen e) : noGen e.genState := by
  cases e with
  | ret r => exact trivial
  | susp v g l k c p fs => exact h
theorem trapOf_seen (x : GenState) : (trapOf x).seen = x.seen := by cases x <;> rfl
theorem trapOf_bare (x : GenState) : (trapOf x).bare = x.bare := by cases x <;> rfl
structure RelG (T : Nat → Option GenState) (G0 G1 : Array GenState) : Prop where
  size : G0.size = G1.size
  tr : ∀ i r, T i = some r → G1[i]? = some r ∧ G0[i]? = some (trapOf r) ∧ isSusp r = true
  eq : ∀ i, T i = none → G0[i]? = G1[i]?
  ng : ∀ i st, T i = none → G1[i]? = some st → noGen st
theorem RelG.set {T : Nat → Option GenState} {G0 G1 : Array GenState} (h : RelG T G0 G1) {g : Nat} (hg : T g = none) {x : GenState} (hx : noGen x) : RelG T (G0.setIfInBounds g x) (G1.setIfInBounds g x) := by
  refine ⟨by simp [h.size], fun i r hi => ?_, fun i hi => ?_, fun i st hi e => ?_⟩
  · have ne : g ≠ i := fun z => by rw [z, hi] at hg; cases hg
    rw [Array.getElem?_setIfInBounds_ne ne, Array.getElem?_setIfInBounds_ne ne]
    exact h.tr i r hi
  · by_cases c : g = i
    · subst c
      rw [Array.getElem?_setIfInBounds, Array.getElem?_setIfInBounds, h.size, if_pos rfl, if_pos rfl]
    · rw [Array.getElem?_setIfInBounds_ne c, Array.getElem?_setIfInBounds_ne c]
      exact h.eq i hi
  · by_cases c : g = i
    · subst c
      rw [Array.getElem?_setIfInBounds, if_pos rfl] at e
      split at e
      · cases e; exact hx
      · cases e
    · rw [Array.getElem?_setIfInBounds_ne c] at e
      exact h.ng i st hi e
theorem RelG.push {T : Nat → Option GenState} {G0 G1 : Array GenState} (h : RelG T G0 G1) {x : GenState} (hx : noGen x) : RelG T (G0.push x) (G1.push x) := by
  refine ⟨by simp [h.size], fun i r hi => ?_, fun i hi => ?_, fun i st hi e => ?_⟩
  · obtain ⟨a, b, c⟩ := h.tr i r hi
    obtain ⟨l1, e1⟩ := Array.getElem?_eq_some_iff.mp a
    obtain ⟨l0, e0⟩ := Array.getElem?_eq_some_iff.mp b
    refine ⟨?_, ?_, c⟩
    · rw [Array.getElem?_push, if_neg (by omega)]; exact a
    · rw [Array.getElem?_push, if_neg (by omega)]; exact b
  · rw [Array.getElem?_push, Array.getElem?_push, h.size, h.eq i hi]
  · rw [Array.getElem?_push] at e
    split at e
    · cases e; exact hx
    · exact h.ng i st hi e
theorem RelG.notT {T : Nat → Option GenState} {G0 G1 : Array GenState} (h : RelG T G0 G1) {g : Nat} {x : GenState} (e : G0[g]? = some x) (n : isSusp x = false) : T g = none := by
  cases q : T g with
  | none => rfl
  | some r =>
    obtain ⟨_, b, c⟩ := h.tr g r q
    rw [e] at b
    cases b
    cases r <;> simp_all [isSusp, trapOf]
theorem split_app {fs fs' : List Frame} (h : splitAtGen fs = none) (h' : splitAtGen fs' = none) : splitAtGen (fs ++ fs') = none := by
  induction fs with
  | nil => exact h'
  | cons f fs ih =>
    cases f with
    | gen => simp [splitAtGen] at h
    | ret =>
      have h2 : (splitAtGen fs).map _ = none := h
      show (splitAtGen (fs ++ fs')).map _ = none
      rw [ih (by simpa using h2)]
      rfl
theorem split_tail {k : Result → Sem PySem.Fin} {h : Option Value} {g : Bool} {l kp : List Value} {c : Code} {p : Pos} {fs : List Frame} (e : splitAtGen (.ret k h g l c p kp :: fs) = none) : splitAtGen fs = none := by
  have e2 : (splitAtGen fs).map _ = none := e
  simpa using e2
theorem no_unsup {M : Model} {Γ : Ctx} {p : Pos} {x : String} {fs : List Frame} {s s' : Shared} {e : End} (h : Runs M Γ p (.unsupported x) fs s e s') : False := by
  cases h with
  | segRet h1 _ => cases h1
  | segGen h1 _ => cases h1
  | segSuspOut _ h1 => cases h1
  | segSuspGen _ h1 _ _ => cases h1
abbrev wg (s : Shared) (G : Array GenState) : Shared := { s with gens := G }
theorem wg_setGen (s : Shared) (G : Array GenState) (g : Nat) (x : GenState) : (wg s G).setGen g x = wg s (G.setIfInBounds g x) := rfl
theorem swapped {M : Model} {T : Nat → Option GenState} {Γ : Ctx} {p : Pos} {t : Sem PySem.Fin} {fs : List Frame} {s s' : Shared} {e : End} (h : Runs M Γ p t fs s e s') :
    splitAtGen fs = none → ∀ G1, RelG T s.gens G1 → endNoGen e ∧ ∃ G1', RelG T s'.gens G1' ∧ Runs M Γ p t fs (wg s G1) e (wg s' G1') := by
  induction h with
  | done => intro _ G1 r; exact ⟨trivial, G1, r, .done⟩
  | raise => intro _ G1 r; exact ⟨trivial, G1, r, .raise⟩
  | again hq _ ih => intro f G1 r; obtain ⟨a, G, b, c⟩ := ih f G1 r; exact ⟨a, G, b, .again hq c⟩
  | rule _ ih => intro f G1 r; obtain ⟨a, G, b, c⟩ := ih f G1 r; exact ⟨a, G, b, .rule c⟩
  | «at» _ ih => intro f G1 r; obtain ⟨a, G, b, c⟩ := ih f G1 r; exact ⟨a, G, b, .at c⟩
  | load ho _ ih => intro f G1 r; obtain ⟨a, G, b, c⟩ := ih f G1 r; exact ⟨a, G, b, .load ho c⟩
  | update ho _ ih => intro f G1 r; obtain ⟨a, G, b, c⟩ := ih f G1 r; exact ⟨a, G, b, .update ho c⟩
  | loadIfAlive _ ih => intro f G1 r; obtain ⟨a, G, b, c⟩ := ih f G1 r; exact ⟨a, G, b, .loadIfAlive c⟩
  | point _ ih => intro f G1 r; obtain ⟨a, G, b, c⟩ := ih f G1 r; exact ⟨a, G, b, .point c⟩
  | alloc _ ih => intro f G1 r; obtain ⟨a, G, b, c⟩ := ih f G1 r; exact ⟨a, G, b, .alloc c⟩
  | fresh _ ih => intro f G1 r; obtain ⟨a, G, b, c⟩ := ih f G1 r; exact ⟨a, G, b, .fresh c⟩
  | ask _ ih => intro f G1 r; obtain ⟨a, G, b, c⟩ := ih f G1 r; exact ⟨a, G, b, .ask c⟩
  | choose hn _ ih => intro f G1 r; obtain ⟨a, G, b, c⟩ := ih f G1 r; exact ⟨a, G, b, .choose hn c⟩
  | os _ ih => intro f G1 r; obtain ⟨a, G, b, c⟩ := ih f G1 r; exact ⟨a, G, b, .os c⟩
  | handled _ ih => intro f G1 r; obtain ⟨a, G, b, c⟩ := ih f G1 r; exact ⟨a, G, b, .handled c⟩
  | genState hg _ ih =>
    intro f G1 r
    obtain ⟨a, G, b, c⟩ := ih f G1 r
    have key : ∀ {g : Nat} {st : GenState} {Gz : Array GenState}, RelG T Gz G1 → Gz[g]? = some st → ∃ st', G1[g]? = some st' ∧ st'.seen = st.seen := fun {g st Gz} r hg => by
      cases q : T g with
      | none => exact ⟨st, by rw [← r.eq g q]; exact hg, rfl⟩
      | some x =>
        obtain ⟨q1, q2, _⟩ := r.tr g x q
        rw [hg] at q2
        cases q2
        exact ⟨x, q1, (trapOf_seen x).symm⟩
    obtain ⟨st', k1, k2⟩ := key r hg
    rw [← k2] at c
    exact ⟨a, G, b, .genState (st := st') k1 c⟩
  | stack _ ih => intro f G1 r; obtain ⟨a, G, b, c⟩ := ih f G1 r; exact ⟨a, G, b, .stack c⟩
  | thread _ ih => intro f G1 r; obtain ⟨a, G, b, c⟩ := ih f G1 r; exact ⟨a, G, b, .thread c⟩
  | newGen _ ih =>
    intro f G1 r
    obtain ⟨a, G, b, c⟩ := ih f _ (r.push trivial)
    refine ⟨a, G, b, .newGen ?_⟩
    rw [r.size] at c
    exact c
  | call _ _ ih1 ih2 =>
    intro f G1 r
    obtain ⟨_, G, b, c⟩ := ih1 rfl G1 r
    obtain ⟨a, G', b', c'⟩ := ih2 rfl G b
    exact ⟨a, G', b', .call c c'⟩
  | callSusp _ ih =>
    intro f G1 r
    obtain ⟨a, G, b, c⟩ := ih rfl G1 r
    exact ⟨split_app a rfl, G, b, .callSusp c⟩
  | yield => intro f G1 r; exact ⟨rfl, G1, r, .yield⟩
  | resumeFresh hg _ hq _ ih1 ih2 =>
    intro f G1 r
    have q := r.notT hg rfl
    obtain ⟨a, G, b, c⟩ := ih1 rfl _ (r.set (x := .running) q trivial)
    obtain ⟨a', G', b', c'⟩ := ih2 rfl _ (b.set q a.gs)
    exact ⟨a', G', b', .resumeFresh (by show G1[_]? = _; rw [← r.eq _ q]; exact hg) c hq c'⟩
  | @resumeSuspended Γ p g r0 l k s k₀ l₀ c₀ p₀ fs cl e₁ s₁ e s' hg h1 hq h2 ih1 ih2 =>
    intro f G1 r
    cases q : T g with
    | none =>
      have e1 : G1[g]? = some (.suspended k₀ l₀ c₀ p₀ fs cl) := by rw [← r.eq _ q]; exact hg
      obtain ⟨a, G, b, c⟩ := ih1 (r.ng g _ q e1) _ (r.set (x := .running) q trivial)
      obtain ⟨a', G', b', c'⟩ := ih2 rfl _ (b.set q a.gs)
      exact ⟨a', G', b', .resumeSuspended e1 c hq c'⟩
    | some x =>
      obtain ⟨_, q2, q3⟩ := r.tr g x q
      rw [hg] at q2
      cases x with
      | suspended k1 l1 c1 p1 fs1 cl1 =>
        have q2' := Option.some.inj q2
        unfold trapOf at q2'
        cases q2'
        exact (no_unsup h1).elim
      | _ => cases q3
  | resumeJustStarted hg hv _ ih =>
    intro f G1 r
    have q := r.notT hg rfl
    obtain ⟨a, G, b, c⟩ := ih f G1 r
    exact ⟨a, G, b, .resumeJustStarted (by show G1[_]? = _; rw [← r.eq _ q]; exact hg) hv c⟩
  | resumeThrowFresh hg _ ih =>
    intro f G1 r
    have q := r.notT hg rfl
    obtain ⟨a, G, b, c⟩ := ih f _ (r.set (x := .finished) q trivial)
    exact ⟨a, G, b, .resumeThrowFresh (by show G1[_]? = _; rw [← r.eq _ q]; exact hg) c⟩
  | resumeRunning hg _ ih =>
    intro f G1 r
    have q := r.notT hg rfl
    obtain ⟨a, G, b, c⟩ := ih f G1 r
    exact ⟨a, G, b, .resumeRunning (by show G1[_]? = _; rw [← r.eq _ q]; exact hg) c⟩
  | resumeFinished hg _ ih =>
    intro f G1 r
    have q := r.notT hg rfl
    obtain ⟨a, G, b, c⟩ := ih f G1 r
    exact ⟨a, G, b, .resumeFinished (by show G1[_]? = _; rw [← r.eq _ q]; exact hg) c⟩
  | segRet _ _ ih1 ih2 =>
    intro f G1 r
    obtain ⟨_, G, b, c⟩ := ih1 rfl G1 r
    obtain ⟨a, G', b', c'⟩ := ih2 (split_tail f) G b
    exact ⟨a, G', b', .segRet c c'⟩
  | segGen _ _ _ _ => intro f; simp [splitAtGen] at f
  | segSuspOut hs _ ih =>
    intro f G1 r
    obtain ⟨a, G, b, c⟩ := ih rfl G1 r
    exact ⟨split_app a hs, G, b, .segSuspOut hs c⟩
  | segSuspGen hs _ _ _ _ _ => intro f; rw [f] at hs; cases hs
theorem wakes_swapped {M : Model} {T : Nat → Option GenState} {Γ : Ctx} {p : Pos} {g : Nat} {r0 : Resume} {s s' : Shared} {res : GenResult} (h : Wakes M Γ p g r0 s res s') (G1 : Array GenState) (r : RelG T s.gens G1) :
    ∃ G1', RelG T s'.gens G1' ∧ Wakes M Γ p g r0 (wg s G1) res (wg s' G1') := by
  unfold Wakes at h ⊢
  cases hg : s.gens[g]? with
  | none => rw [hg] at h; exact h.elim
  | some st =>
    rw [hg] at h
    cases st with
    | suspended k₀ l₀ c₀ p₀ fs cl =>
      obtain ⟨e₁, s₁, h1, hq, e1, e2⟩ := h
      cases q : T g with
      | none =>
        have e1' : (wg s G1).gens[g]? = some (.suspended k₀ l₀ c₀ p₀ fs cl) := by show G1[g]? = _; rw [← r.eq _ q]; exact hg
        obtain ⟨a, G, b, c⟩ := swapped h1 (r.ng g _ q e1') _ (r.set (x := .running) q trivial)
        rw [e1']
        refine ⟨G.setIfInBounds g e₁.genState, by rw [e2]; exact b.set q a.gs, e₁, wg s₁ G, c, hq, e1, by rw [e2]; rfl⟩
      | some x =>
        obtain ⟨_, q2, q3⟩ := r.tr g x q
        rw [hg] at q2
        cases x with
        | suspended k1 l1 c1 p1 fs1 cl1 =>
          have q2' := Option.some.inj q2
          unfold trapOf at q2'
          cases q2'
          exact (no_unsup h1).elim
        | _ => cases q3
    | fresh c =>
      have q := r.notT hg rfl
      have e1' : (wg s G1).gens[g]? = some (.fresh c) := by show G1[g]? = _; rw [← r.eq _ q]; exact hg
      rw [e1']
      cases r0 with
      | send v =>
        cases v with
        | none =>
          obtain ⟨e₁, s₁, h1, hq, e1, e2⟩ := h
          obtain ⟨a, G, b, c⟩ := swapped h1 rfl _ (r.set (x := .running) q trivial)
          exact ⟨G.setIfInBounds g e₁.genState, by rw [e2]; exact b.set q a.gs, e₁, wg s₁ G, c, hq, e1, by rw [e2]; rfl⟩
        | _ =>
          obtain ⟨h1, h2⟩ := h
          exact ⟨G1, by rw [h2]; exact r, h1, by rw [h2]⟩
      | throw x =>
        obtain ⟨h1, h2⟩ := h
        exact ⟨G1.setIfInBounds g .finished, by rw [h2]; exact r.set q trivial, h1, by rw [h2]; rfl⟩
    | running =>
      have q := r.notT hg rfl
      have e1' : (wg s G1).gens[g]? = some .running := by show G1[g]? = _; rw [← r.eq _ q]; exact hg
      rw [e1']
      exact ⟨G1, by rw [h.2]; exact r, h.1, by rw [h.2]⟩
    | finished =>
      have q := r.notT hg rfl
      have e1' : (wg s G1).gens[g]? = some .finished := by show G1[g]? = _; rw [← r.eq _ q]; exact hg
      rw [e1']
      exact ⟨G1, by rw [h.2]; exact r, h.1, by rw [h.2]⟩
theorem wp_swapped {α : Type} (M : Model) (T : Nat → Option GenState) (Γ : Ctx) (t : Sem α) : ∀ (Q : α → Pos → Shared → Prop) (E : Value → Pos → Shared → Prop) (p : Pos) (s : Shared) (G1 : Array GenState), RelG T s.gens G1 → wp M Γ t Q E p s →
    wp M Γ t (fun a p' s' => ∃ G0, RelG T G0 s'.gens ∧ Q a p' (wg s' G0)) (fun e p' s' => ∃ G0, RelG T G0 s'.gens ∧ E e p' (wg s' G0)) p (wg s G1) := by
  induction t with
  | pure a => intro Q E p s G1 r h; exact ⟨s.gens, r, h⟩
  | raise e => intro Q E p s G1 r h; exact ⟨s.gens, r, h⟩
  | unsupported _ => intro Q E p s _ _ h; exact h
  | finish _ => intro Q E p s _ _ h; exact h
  | rule _ k ih => intro Q E p s G1 r h; exact ih () Q E p s G1 r h
  | «at» p' k ih => intro Q E p s G1 r h; exact ih () Q E p' s G1 r h
  | load a _ k ih => intro Q E p s G1 r h; obtain ⟨o, ho, h⟩ := h; exact ⟨o, ho, ih o Q E p s G1 r h⟩
  | update a _ f k ih => intro Q E p s G1 r h; exact ⟨h.1, ih () Q E p { s with heap := s.heap.update a f } G1 r h.2⟩
  | loadIfAlive a k ih => intro Q E p s G1 r h; exact ih _ Q E p s G1 r h
  | point _ k ih => intro Q E p s G1 r h; exact ih () Q E p s G1 r h
  | register _ _ => intro Q E p s _ _ h; exact h
  | alloc o k ih => intro Q E p s G1 r h; exact ih _ Q E p { s with heap := s.heap.push o } G1 r h
  | fresh k ih => intro Q E p s G1 r h; exact ih _ Q E p { s with toks := s.toks + 1 } G1 r h
  | ask k ih => intro Q E p s G1 r h; exact ih _ Q E p s G1 r h
  | choose src m k ih => intro Q E p s G1 r h; exact ⟨h.1, ih _ Q E p { s with drawn := s.drawn.bump src } G1 r h.2⟩
  | os q _ k ih => intro Q E p s G1 r h; exact ih _ Q E p { s with os := (Os.step s.os q).1 } G1 r h
  | call c hd _ _ k ih =>
    intro Q E p s G1 r h
    obtain ⟨x, s', hr, h⟩ := h
    obtain ⟨_, G, b, c⟩ := swapped hr rfl G1 r
    exact ⟨x, wg s' G, c, ih x Q E p s' G b h⟩
  | handled own k ih => intro Q E p s G1 r h; exact ih _ Q E p s G1 r h
  | genState g k ih =>
    intro Q E p s G1 r h
    obtain ⟨st, hs, h⟩ := h
    cases q : T g with
    | none => exact ⟨st, by show G1[g]? = some st; rw [← r.eq g q]; exact hs, ih _ Q E p s G1 r h⟩
    | some x =>
      obtain ⟨q1, q2, _⟩ := r.tr g x q
      rw [hs] at q2
      cases q2
      rw [trapOf_seen] at h
      exact ⟨x, q1, ih _ Q E p s G1 r h⟩
  | newGen c k ih =>
    intro Q E p s G1 r h
    have := ih _ Q E p { s with gens := s.gens.push (.fresh c) } _ (r.push (x := .fresh c) trivial) h
    have e : (wg s G1).gens.size = s.gens.size := r.size.symm
    show wp M Γ (k (wg s G1).gens.size) _ _ p _
    rw [e]
    exact this
  | resume g r0 _ k ih =>
    intro Q E p s G1 r h
    obtain ⟨res, s', hw, h⟩ := h
    obtain ⟨G, b, c⟩ := wakes_swapped hw G1 r
    exact ⟨res, wg s' G, c, ih res Q E p s' G b h⟩
  | yield _ _ _ _ => intro Q E p s _ _ h; exact h
  | stack k ih => intro Q E p s G1 r h; exact ih _ Q E p s G1 r h
  | fork _ _ => intro Q E p s _ _ h; exact h
  | thread k ih => intro Q E p s G1 r h; exact ih _ Q E p s G1 r h
  | await _ _ _ _ _ => intro Q E p s _ _ h; exact h
theorem wpAny_swapped {α : Type} {M : Model} {A : Around} {T : Nat → Option GenState} {s : Shared} {t : Sem α} {Q : α → Shared → Prop} {E : Value → Shared → Prop} {G0 : Array GenState} (r : RelG T G0 s.gens) (h : wpAny M A t Q E (wg s G0)) :
    wpAny M A t (fun a s' => ∃ G, RelG T G s'.gens ∧ Q a (wg s' G)) (fun e s' => ∃ G, RelG T G s'.gens ∧ E e (wg s' G)) s :=
  fun Γ p hΓ => wp_swapped M T Γ t _ _ p (wg s G0) s.gens r (h Γ p hΓ)
def trapsT (G : Array GenState) (i : Nat) : Option GenState := match G[i]? with
  | some x => if isSusp x = true then some x else none
  | none => none
theorem relG_traps (G : Array GenState) : RelG (trapsT G) (G.map trapOf) G := by
  refine ⟨by simp, fun i r h => ?_, fun i h => ?_, fun i st h e => ?_⟩
  · unfold trapsT at h
    cases q : G[i]? with
    | none => rw [q] at h; cases h
    | some x =>
      rw [q] at h
      simp only at h
      split at h
      · rename_i hs
        cases h
        exact ⟨rfl, by rw [Array.getElem?_map, q]; rfl, hs⟩
      · cases h
  · rw [Array.getElem?_map]
    cases q : G[i]? with
    | none => rfl
    | some x =>
      unfold trapsT at h
      rw [q] at h
      cases x with
      | suspended => simp [isSusp] at h
      | _ => rfl
  · unfold trapsT at h
    rw [e] at h
    cases st with
    | suspended => simp [isSusp] at h
    | _ => exact trivial
theorem bare_traps {G : Array GenState} (h : AllBare G) : AllBare (G.map trapOf) := fun y hy => by
  obtain ⟨x, hx, e⟩ := Array.mem_map.mp hy
  rw [← e, trapOf_bare]
  exact h x hx
theorem RelG.bare {T : Nat → Option GenState} {G0 G1 : Array GenState} (r : RelG T G0 G1) (h : AllBare G0) : AllBare G1 := fun y hy => by
  obtain ⟨i, hi, e⟩ := Array.mem_iff_getElem.mp hy
  have e1 : G1[i]? = some y := by rw [← e]; exact Array.getElem?_eq_getElem hi
  cases q : T i with
  | none =>
    have e0 := r.eq i q
    rw [e1] at e0
    exact h y (Array.mem_of_getElem? e0)
  | some x =>
    obtain ⟨a, b, _⟩ := r.tr i x q
    rw [e1] at a
    cases a
    have := h _ (Array.mem_of_getElem? b)
    rw [trapOf_bare] at this
    exact this
end MF
set_option Elab.async false
set_option linter.all false
set_option maxRecDepth 100000
set_option maxHeartbeats 1000000
namespace MF
open PySem PyProof.Rows L2
section
variable {prog : Program} {w : World} {A : Around} {R : GenEnd} {Y : Protocol} {n : Nat} {s₀ : Shared} {c : Code} {fs : List Frame} {s : Shared} {env : Env}
  {K : Flow → Sem PySem.Fin} {H : Value → Sem PySem.Fin} {gd : Bool → Bool} {lv : List Value → List Value}
def noX : Value → Shared → Prop := fun _ _ => False
theorem seg_For {target iter : Expr} {body : List Stmt} {pos : Pos} (hs : ∀ x, foldedSetIterable iter env x = pure x)
    (h : wpAny (model prog w) (A.over c fs) (eval iter env) (fun x s₁ => wpAny (model prog w) (A.over c fs) (pyIter x) (fun it s₂ => ∀ p lv',
      Seg (model prog w) A R Y n s₀ (.forLoop target it body [] env) ((model prog w).den (.forLoop target it body [] env))
        (.ret (fun r => ((match r with | .ok f => (.pure f : Sem Flow) | .error e => .raise e).onRaise (cameBack env)).wrap K H gd lv) none (gd false) lv' c p [] :: fs) s₂) noX s₁) noX s) :
    Seg (model prog w) A R Y n s₀ c ((exec (.For target iter body [] pos) env).wrap K H gd lv) fs s := by
  rw [exec_For]
  show Seg _ A R Y n s₀ c (.at pos fun _ => ((eval iter env >>= fun v => foldedSetIterable iter env v >>= fun x => standAt iter.pos >>= fun _ => holding [x] (pyIter x) >>= fun it => runOwn (.forLoop target it body [] env) env)).wrap K H gd lv) fs s
  refine seg_at ?_
  rw [Sem.bind_eq_wrap', Sem.wrap_wrap]
  refine seg_wrap (wpAny_mono h (fun v s1 h1 => ?_) fun _ _ z => z.elim)
  rw [hs v]
  show Seg _ A R Y n s₀ c (.at iter.pos fun _ => ((holding [v] (pyIter v) >>= fun it => runOwn (.forLoop target it body [] env) env)).wrap K H gd lv) fs s1
  refine seg_at ?_
  rw [Sem.bind_eq_wrap', Sem.wrap_wrap]
  refine seg_wrap (wpAny_holding (wpAny_mono h1 (fun it s2 h2 => ?_) fun _ _ z => z.elim))
  exact seg_call fun p => h2 p _
theorem seg_forLoop {target : Expr} {it : Value} {body : List Stmt}
    (h : wpAny (model prog w) (A.over (.forLoop target it body [] env) fs) (pyNext it) (fun r s₁ => match r with
        | none => Seg (model prog w) A R Y n s₀ (.block [] env) (leafOf (.ok .next)) fs s₁
        | some v => wpAny (model prog w) (A.over (.forLoop target it body [] env) fs) (letOwnedTupleGo target it v) (fun _ s₂ => wpAny (model prog w) (A.over (.forLoop target it body [] env) fs) (assign target env v) (fun _ s₃ =>
            Seg (model prog w) A R Y n s₀ (.forLoop target it body [] env) ((execs body env).wrap (fun f => match f with
              | .next | .cont => .pure (.again (.forLoop target it body [] env))
              | .brk => .pure (.done .next)
              | .ret v => .pure (.done (.ret v))) (fun e => (do noteFrame e env; theTreesLotGoes e : Sem Unit).wrap (fun _ => .raise e) .raise id id) id id) fs s₃) noX s₂) noX s₁) noX s) :
    Seg (model prog w) A R Y n s₀ (.forLoop target it body [] env) ((model prog w).den (.forLoop target it body [] env)) fs s := by
  show Seg _ A R Y n s₀ _ ((forTurn target it body [] env).onRaise (fun x => do noteFrame x env; theTreesLotGoes x)) fs s
  unfold forTurn
  rw [Sem.onRaise_eq_wrap]
  show Seg _ A R Y n s₀ _ (.at target.pos fun _ => (((pyNext it).onRaise (fun _ => standAt { target.pos with line := 0 }) >>= _).wrap _ _ _ _)) fs s
  refine seg_at ?_
  rw [Sem.bind_eq_wrap', Sem.wrap_wrap]
  refine seg_wrap (wpAny_onRaise (wpAny_mono h (fun r s1 h1 => ?_) fun _ _ z => z.elim))
  cases r with
  | none =>
    refine seg_again rfl ?_
    exact h1
  | some v =>
    show Seg _ A R Y n s₀ _ ((letOwnedTupleGo target it v >>= fun _ => assign target env v >>= fun _ => execs body env >>= _).wrap _ _ _ _) fs s1
    rw [Sem.bind_eq_wrap', Sem.wrap_wrap]
    refine seg_wrap (wpAny_mono h1 (fun _ s2 h2 => ?_) fun _ _ z => z.elim)
    rw [Sem.bind_eq_wrap', Sem.wrap_wrap]
    refine seg_wrap (wpAny_mono h2 (fun _ s3 h3 => ?_) fun _ _ z => z.elim)
    rw [Sem.bind_eq_wrap', Sem.wrap_wrap]
    rw [Sem.wrap_congr (execs body env) _ _ (K' := fun f => match f with
          | .next | .cont => .pure (.again (.forLoop target it body [] env))
          | .brk => .pure (.done .next)
          | .ret v => .pure (.done (.ret v))) (H' := (fun e => (do noteFrame e env; theTreesLotGoes e : Sem Unit).wrap (fun _ => .raise e) .raise id id))
      (fun f => by cases f <;> rfl)
      (fun e => by first | exact Sem.bind_eq_wrap _ _ | (show (do noteFrame e env; theTreesLotGoes e : Sem Unit).bind (fun _ => .raise e) = _; rw [Sem.bind_eq_wrap]))]
    exact h3
end
end MF
set_option Elab.async false
set_option linter.all false
set_option maxRecDepth 100000
set_option maxHeartbeats 1000000
namespace MF
open PySem PySem.Spec PyProof.Rows L2 StX

theorem Same.tup {K : PySem.W.Frag} {H H' : Hp} {a : Addr} {xs : List V} (e : Same H H') (h : SqT K H a xs) : SqT K H' a xs := by
  rcases h with (h | ⟨o, h⟩) | h
  · exact .inl (.inl (e _ _ h))
  · exact .inl (.inr ⟨o, e _ _ h⟩)
  · exact .inr h
theorem Same.upd {H H' : Hp} {p : Addr} {o : HO} (e : Same H H') (h : H' p = none) : Same H (L2.upd H' p o) := fun b u q => by
  rw [upd_ne (ne_of_none (e b u q) h)]
  exact e b u q
theorem Same.new {H : Hp} {p : Addr} {o : HO} (h : H p = none) : Same H (L2.upd H p o) := Same.upd (Same.refl H) h
theorem tyT {K : PySem.W.Frag} {H : Hp} {a : Addr} {xs : List V} (h : SqT K H a xs) : TyX K H (.ref a) (.type "tuple") := by
  rcases h with (h | ⟨o, h⟩) | ⟨o, its, n, e, c, _⟩
  · exact .base (.tup h)
  · exact .fTuple h
  · exact .kTuple e c
theorem tyL {K : PySem.W.Frag} {H : Hp} {a : Addr} {xs : List V} (h : SqL K H a xs) : TyX K H (.ref a) (.type "list") := by
  rcases h with (h | ⟨o, h⟩) | ⟨o, its, n, e, c, _⟩
  · exact .base (.lst h)
  · exact .base (.frz h)
  · exact .kList e c
def tyN : V → String
  | .non => "NoneType"
  | .bl _ => "bool"
  | .int _ => "int"
  | .str _ => "str"
  | _ => ""
theorem ty_flat {K : PySem.W.Frag} {H : Hp} : ∀ {v : V}, notSeq v = true → TyX K H v (.type (tyN v))
  | .non, _ => .base .non
  | .bl b, _ => .base (.bl b)
  | .int i, _ => .base (.int i)
  | .str x, _ => .base (.str x)
theorem isi_flat {K : PySem.W.Frag} {v : V} {T : String} (h : notSeq v = true) (b : Bool) (hb : ∀ w, notSeq w = true → tyN w = tyN v → kitB (tyN w) T = some b) : PySem.W.kitOne K (.type (tyN v)) (.type T) = some b := kit_ty (hb v h rfl)

theorem kt_int_int {K : PySem.W.Frag} : PySem.W.kitOne K (.type "int") (.type "int") = some true := kit_ty (by decide +kernel)
theorem kt_int_bool {K : PySem.W.Frag} : PySem.W.kitOne K (.type "int") (.type "bool") = some false := kit_ty (by decide +kernel)
theorem kt_int_str {K : PySem.W.Frag} : PySem.W.kitOne K (.type "int") (.type "str") = some false := kit_ty (by decide +kernel)
theorem kt_int_tuple {K : PySem.W.Frag} : PySem.W.kitOne K (.type "int") (.type "tuple") = some false := kit_ty (by decide +kernel)
theorem kt_int_list {K : PySem.W.Frag} : PySem.W.kitOne K (.type "int") (.type "list") = some false := kit_ty (by decide +kernel)
theorem kt_bool_int {K : PySem.W.Frag} : PySem.W.kitOne K (.type "bool") (.type "int") = some true := kit_ty (by decide +kernel)
theorem kt_bool_bool {K : PySem.W.Frag} : PySem.W.kitOne K (.type "bool") (.type "bool") = some true := kit_ty (by decide +kernel)
theorem kt_bool_str {K : PySem.W.Frag} : PySem.W.kitOne K (.type "bool") (.type "str") = some false := kit_ty (by decide +kernel)
theorem kt_bool_tuple {K : PySem.W.Frag} : PySem.W.kitOne K (.type "bool") (.type "tuple") = some false := kit_ty (by decide +kernel)
theorem kt_bool_list {K : PySem.W.Frag} : PySem.W.kitOne K (.type "bool") (.type "list") = some false := kit_ty (by decide +kernel)
theorem kt_NoneType_int {K : PySem.W.Frag} : PySem.W.kitOne K (.type "NoneType") (.type "int") = some false := kit_ty (by decide +kernel)
theorem kt_NoneType_bool {K : PySem.W.Frag} : PySem.W.kitOne K (.type "NoneType") (.type "bool") = some false := kit_ty (by decide +kernel)
theorem kt_NoneType_str {K : PySem.W.Frag} : PySem.W.kitOne K (.type "NoneType") (.type "str") = some false := kit_ty (by decide +kernel)
theorem kt_NoneType_tuple {K : PySem.W.Frag} : PySem.W.kitOne K (.type "NoneType") (.type "tuple") = some false := kit_ty (by decide +kernel)
theorem kt_NoneType_list {K : PySem.W.Frag} : PySem.W.kitOne K (.type "NoneType") (.type "list") = some false := kit_ty (by decide +kernel)
theorem kt_str_int {K : PySem.W.Frag} : PySem.W.kitOne K (.type "str") (.type "int") = some false := kit_ty (by decide +kernel)
theorem kt_str_bool {K : PySem.W.Frag} : PySem.W.kitOne K (.type "str") (.type "bool") = some false := kit_ty (by decide +kernel)
theorem kt_str_str {K : PySem.W.Frag} : PySem.W.kitOne K (.type "str") (.type "str") = some true := kit_ty (by decide +kernel)
theorem kt_str_tuple {K : PySem.W.Frag} : PySem.W.kitOne K (.type "str") (.type "tuple") = some false := kit_ty (by decide +kernel)
theorem kt_str_list {K : PySem.W.Frag} : PySem.W.kitOne K (.type "str") (.type "list") = some false := kit_ty (by decide +kernel)
theorem kt_tuple_int {K : PySem.W.Frag} : PySem.W.kitOne K (.type "tuple") (.type "int") = some false := kit_ty (by decide +kernel)
theorem kt_tuple_bool {K : PySem.W.Frag} : PySem.W.kitOne K (.type "tuple") (.type "bool") = some false := kit_ty (by decide +kernel)
theorem kt_tuple_str {K : PySem.W.Frag} : PySem.W.kitOne K (.type "tuple") (.type "str") = some false := kit_ty (by decide +kernel)
theorem kt_tuple_tuple {K : PySem.W.Frag} : PySem.W.kitOne K (.type "tuple") (.type "tuple") = some true := kit_ty (by decide +kernel)
theorem kt_tuple_list {K : PySem.W.Frag} : PySem.W.kitOne K (.type "tuple") (.type "list") = some false := kit_ty (by decide +kernel)
theorem kt_list_int {K : PySem.W.Frag} : PySem.W.kitOne K (.type "list") (.type "int") = some false := kit_ty (by decide +kernel)
theorem kt_list_bool {K : PySem.W.Frag} : PySem.W.kitOne K (.type "list") (.type "bool") = some false := kit_ty (by decide +kernel)
theorem kt_list_str {K : PySem.W.Frag} : PySem.W.kitOne K (.type "list") (.type "str") = some false := kit_ty (by decide +kernel)
theorem kt_list_tuple {K : PySem.W.Frag} : PySem.W.kitOne K (.type "list") (.type "tuple") = some false := kit_ty (by decide +kernel)
theorem kt_list_list {K : PySem.W.Frag} : PySem.W.kitOne K (.type "list") (.type "list") = some true := kit_ty (by decide +kernel)
def isIntB : V → Int → Int → Bool
  | .int i, lo, hi => decide (lo ≤ i) && decide (i ≤ hi)
  | _, _, _ => false
def letters : Str := "abcdefghijklmnopqrstuvwxyz"
def isAddrB : V → Bool
  | .str z => decide (1 ≤ z.length) && decide (z.length ≤ 8) && z.cps.toList.all fun c => decide (c ∈ letters.cps.toList)
  | _ => false
structure Ordr where
  src : Str
  tgt : Str
  first : Int
  last : Int
  way : Int
  deriving DecidableEq
def Ordr.vals (o : Ordr) : List V := [.str o.src, .str o.tgt, .int o.first, .int o.last, .int o.way]
def OrdAt (K : PySem.W.Frag) (H : Hp) (a : Addr) (o : Ordr) : Prop := SqT K H a o.vals
theorem OrdAt.mono {K : PySem.W.Frag} {H H' : Hp} {a : Addr} {o : Ordr} (h : OrdAt K H a o) (e : Same H H') : OrdAt K H' a o := MF.Same.tup e h
def overB (o p : Ordr) : Bool := decide (o.src = p.src) && (decide (o.first ≤ p.last) && decide (p.first ≤ o.last))
def isOrdB : List V → Bool
  | [s, t, f, l, w] => (isAddrB s && isAddrB t && !decide (s = t)) && ((isIntB l 0 1000000000000000000 && (match l with | .int i => isIntB f 0 i | _ => false)) && isIntB w 1 30)
  | _ => false
structure Ordr.Ok (o : Ordr) : Prop where
  as : isAddrB (.str o.src) = true
  at_ : isAddrB (.str o.tgt) = true
  ne : o.src ≠ o.tgt
  f0 : 0 ≤ o.first
  fl : o.first ≤ o.last
  lm : o.last ≤ 1000000000000000000
  w1 : 1 ≤ o.way
  w30 : o.way ≤ 30
theorem Ordr.Ok.b {o : Ordr} (h : o.Ok) : isOrdB o.vals = true := by
  obtain ⟨a, b, c, d, e, f, g, k⟩ := h
  have c' : decide (V.str o.src = V.str o.tgt) = false := decide_eq_false fun q => c (V.str.inj q)
  unfold isOrdB Ordr.vals
  simp only [a, b, c', isIntB, Bool.and_true, Bool.true_and, Bool.not_false]
  simp [d, e, f, g, k]
  omega

theorem iteD {c A B : Prop} [Decidable c] (hc : c) (h : A) : if decide c = true then A else B := by
  rw [if_pos (decide_eq_true hc)]
  exact h
theorem iteDN {c A B : Prop} [Decidable c] (hc : ¬ c) (h : B) : if decide c = true then A else B := by
  rw [if_neg (by rw [decide_eq_false hc]; exact Bool.false_ne_true)]
  exact h
theorem iteND {c A B : Prop} [Decidable c] (hc : c) (h : B) : if (!decide c) = true then A else B := by
  rw [decide_eq_true hc]
  exact iteF h
theorem iteNDN {c A B : Prop} [Decidable c] (hc : ¬ c) (h : A) : if (!decide c) = true then A else B := by
  rw [decide_eq_false hc]
  exact iteT h
theorem yesT {σ : L2.St} {H : Hp} {Q : Bool → Hp → Prop} (h : Q true H) : tYes σ H Q := h
theorem Paired.get {α β : Type} {R : α → β → Prop} : ∀ {l : List α} {r : List β} {i : Nat} {a : α}, Paired R l r → l[i]? = some a → ∃ b, r[i]? = some b ∧ R a b
  | _, _, _, _, .nil, e => by simp at e
  | _, _, 0, _, .cons h _, e => by simp at e; subst e; exact ⟨_, rfl, h⟩
  | _, _, i + 1, _, .cons _ t, e => by
    obtain ⟨b, h1, h2⟩ := Paired.get (i := i) t (by simpa using e)
    exact ⟨b, by simpa using h1, h2⟩
theorem Paired.append {α β : Type} {R : α → β → Prop} : ∀ {l l' : List α} {r r' : List β}, Paired R l r → Paired R l' r' → Paired R (l ++ l') (r ++ r')
  | _, _, _, _, .nil, h => h
  | _, _, _, _, .cons a t, h => .cons a (Paired.append t h)
def OrdsAt (K : PySem.W.Frag) (H : Hp) (as : List Addr) (os : List Ordr) : Prop := Paired (OrdAt K H) as os
theorem OrdsAt.mono {K : PySem.W.Frag} {H H' : Hp} {as : List Addr} {os : List Ordr} (h : OrdsAt K H as os) (e : Same H H') : OrdsAt K H' as os := PySem.Paired.mono (fun _ _ q => OrdAt.mono q e) h
structure Good (os : List Ordr) : Prop where
  len : os.length ≤ 30
  ok : ∀ o ∈ os, o.Ok
  apart : os.Pairwise fun o p => overB o p = false
def BookAt (K : PySem.W.Frag) (C : Addr) (H : Hp) (p : Addr) (os : List Ordr) : Prop :=
  ∃ dx t as, H p = some (.ins C dx [("listed", .ref t)]) ∧ SqT K H t (as.map V.ref) ∧ OrdsAt K H as os
theorem BookAt.mono {K : PySem.W.Frag} {C : Addr} {H H' : Hp} {p : Addr} {os : List Ordr} (h : BookAt K C H p os) (e : Same H H') : BookAt K C H' p os := by
  obtain ⟨dx, t, as, h1, h2, h3⟩ := h
  exact ⟨dx, t, as, e _ _ h1, MF.Same.tup e h2, h3.mono e⟩
theorem cut_take (xs : List V) (i : Nat) (h : i ≤ xs.length) : cutV xs none (some (i : Int)) = xs.take i := by
  unfold cutV
  rw [HT.sIx_none, HT.sIx_nat, Nat.min_eq_left h]
  simp
theorem ix_listK {X : Cx} {K : PySem.W.Frag} (h : X.K = K := by rfl) : IxR X (rIxL K) := h ▸ ix_list
theorem ix_seqK {X : Cx} {K : PySem.W.Frag} (h : X.K = K := by rfl) : IxR X (rIx K) := h ▸ ix_seq
theorem ix_tupK {X : Cx} {K : PySem.W.Frag} (h : X.K = K := by rfl) : IxR X (rIxT K) := h ▸ ix_tup
theorem pe_fldK {X : Cx} {K : PySem.W.Frag} {e : Expr} {ta : TE} {f : Str} {pos : Pos} (he : PE X e ta) (hb : attributeBase e f X.env (eval e X.env) = eval e X.env) (h : X.K = K := by rfl) : PE X (.Attribute e f pos) (tFld K ta f) := h ▸ pe_fld he hb
def spIsInteger : Sp := fun vs H Q _ => ∃ v lo hi, vs = [v, .int lo, .int hi] ∧ notSeq v = true ∧ Q (.bl (isIntB v lo hi)) H
def shortV : V → Prop
  | .str z => z.length ≤ sizeLine
  | _ => True
def spIsAddress : Sp := fun vs H Q _ => ∃ v, vs = [v] ∧ notSeq v = true ∧ shortV v ∧ ∀ H', Same H H' → Q (.bl (isAddrB v)) H'
def spOverlap (K : PySem.W.Frag) : Sp := fun vs H Q _ => ∃ a b o p, vs = [.ref a, .ref b] ∧ OrdAt K H a o ∧ OrdAt K H b p ∧ Q (.bl (overB o p)) H
def spIsOrder (K : PySem.W.Frag) : Sp := fun vs H Q _ => ∃ v b, vs = [v] ∧ ((∃ a xs, v = .ref a ∧ SqT K H a xs ∧ (∀ x ∈ xs, notSeq x = true ∧ shortV x) ∧ b = isOrdB xs) ∨ (∃ a xs, v = .ref a ∧ SqL K H a xs ∧ b = false) ∨ (notSeq v = true ∧ b = false)) ∧ ∀ H', Same H H' → Q (.bl b) H'
end MF
set_option Elab.async false
set_option linter.all false
set_option maxRecDepth 100000
set_option maxHeartbeats 1000000
namespace MF
open PySem PySem.Spec PyProof.Rows L2 GenW
def trunc (h : Heap) (L : Nat) : Heap := { h with objs := h.objs.extract 0 L }
theorem trunc_get {h : Heap} {L b : Nat} (hb : b < L) : (trunc h L).get? b = h.get? b := by
  unfold trunc Heap.get?
  have : (h.objs.extract 0 L)[b]? = h.objs[b]? := by
    rw [Array.getElem?_extract]
    by_cases c : b < h.objs.size
    · rw [if_pos (by omega)]
      simp
    · rw [if_neg (by omega)]
      exact (Array.getElem?_eq_none (by omega)).symm
  simp only [this]
theorem trunc_size {h : Heap} {L : Nat} (hL : L ≤ h.objs.size) : (trunc h L).objs.size = L := by
  show (h.objs.extract 0 L).size = L
  rw [Array.size_extract]
  omega
theorem trunc_of {h : Heap} {L b : Addr} {o : Obj} (hL : L ≤ h.objs.size) (e : (trunc h L).get? b = some o) : b < L ∧ h.get? b = some o := by
  have hb : b < L := by
    have := Heap.lt_size e
    rw [trunc_size hL] at this
    exact this
  exact ⟨hb, by rw [← trunc_get hb]; exact e⟩
theorem trunc_funs {h base : Heap} {L : Addr} {l : List Env} (hl : h.FunFrames base l) (hb : ∀ b ∈ frs l, b < L) : (trunc h L).FunFrames base l := by
  induction l with
  | nil => trivial
  | cons env rest ih =>
    obtain ⟨hk, ⟨Lx, o, hf, hn, ho, hd⟩, hr⟩ := hl
    have m1 : Lx ∈ frs (env :: rest) := by
      unfold frs
      rw [List.filterMap_cons, hf]
      exact List.mem_cons_self
    have m2 : ∀ b ∈ frs rest, b < L := fun b hb' => hb b (by
      unfold frs at hb' ⊢
      rw [List.filterMap_cons, hf]
      exact List.mem_cons_of_mem _ hb')
    exact ⟨hk, ⟨Lx, o, hf, hn, by rw [trunc_get (hb Lx m1)]; exact ho, hd⟩, ih hr m2⟩
structure Gc where
  P : Program
  w : World
  K : PySem.W.Frag
  mg : Str → Option Value
  base : Heap
  N : List Str
  qual : Str
  scope : Scope
  f : Addr
  cdv : Value
  A : Around
  outer : List Env
  L : Addr
  a : Addr
  go : Obj
  out : List (List V)
  need : Hp → Prop
  RP : Nat → Shared → Hp → Prop
  kp : List Addr
abbrev Gc.env (Z : Gc) : Env := envOfC Z.qual Z.scope Z.L Z.f Z.cdv
def Gc.cx (Z : Gc) (sw : Shared) (Hw : Hp) : Cx where
  prog := Z.P
  w := Z.w
  K := Z.K
  mg := Z.mg
  base := Z.base
  A := Z.A.deeper Z.env
  N := Z.N
  s_0 := { sw with heap := trunc sw.heap Z.L }
  H_0 := Hw
  env := Z.env
  outer := Z.outer
  stack := Z.env :: Z.outer
  ex := []
  fn := fun _ => true
  calm := true
  pn := (Z.a, Z.go) :: pinsAt Z.kp sw.heap
  xe := noX
structure Gc.Ok (Z : Gc) : Prop where
  kind : Z.scope.kind = .function
  nocell : ∀ y ∈ Z.scope.names, y.2 ≠ .cell ∧ y.2 ≠ .free
  bsz : Z.base.objs.size ≤ Z.L
  frL : ∀ b ∈ frs Z.outer, b < Z.L
  hd : Z.A.handled = none
  la : Z.L < Z.a
  god : ∀ v, Z.go.data ≠ .cell v
  stable : ∀ H H', Same H H' → Z.need H → Z.need H'
structure Wk (Z : Gc) (gp : List (Addr × Obj)) (sw : Shared) (Hw : Hp) : Prop where
  env0 : Env0 Z.P Z.w Z.K Z.mg Z.base Z.A Z.outer sw Hw
  gp : ∀ p ∈ gp, sw.heap.get? p.1 = some p.2 ∧ Hw p.1 = none
  need : Z.need Hw
  kp : ∀ b ∈ Z.kp, (b ≠ Z.L ∧ b ≠ Z.a) ∧ b ∉ frs Z.outer ∧ Hw b = none ∧ ∃ o, sw.heap.get? b = some o ∧ ∀ v, o.data ≠ .cell v
theorem cells_none {n : Nat} : ∀ {names : List (Str × NameKind)} {acc : List (Str × Addr)}, (∀ y ∈ names, y.2 ≠ .cell) → cellsFrom n names acc = acc
  | [], acc, _ => rfl
  | (x, k) :: names, acc, h => by
    have h1 := h (x, k) (by simp)
    have h2 := cells_none (n := n) (names := names) (acc := acc) fun y hy => h y (List.mem_cons_of_mem _ hy)
    cases k with
    | cell => exact absurd rfl h1
    | _ => exact h2
theorem Gc.nocells {Z : Gc} (O : Z.Ok) : ∀ x, Z.env.cells.lookup x = none := fun x => by
  show (cellsFrom (Z.L + 1) Z.scope.names []).lookup x = none
  rw [cells_none fun y hy => (O.nocell y hy).1]
  rfl
theorem okEx {P : Program} {w : World} {H : Hp} {h : Heap} {a : Addr} {o : HO} (x : ObjOk P w H h a o) : ∃ u, h.get? a = some u := by
  cases o with
  | lst xs => obtain ⟨_, _, _, _, e⟩ := x; exact ⟨_, e⟩
  | tup xs => obtain ⟨_, _, _, ob, e, _⟩ := x; exact ⟨ob, e⟩
  | dK kvs => obtain ⟨_, _, _, _, ob, _, _, e, _⟩ := x; exact ⟨ob, e⟩
  | dT kvs => obtain ⟨_, _, _, _, ob, _, _, e, _⟩ := x; exact ⟨ob, e⟩
  | set S n => obtain ⟨ob, _, _, _, e, _⟩ := x; exact ⟨ob, e⟩
  | ins C dx fs => obtain ⟨_, _, _, e, _⟩ := x; exact ⟨_, e⟩
  | own y => obtain ⟨ob, e⟩ := x; exact ⟨ob, e⟩
  | xd fs => obtain ⟨_, ⟨ob, _, _, e, _⟩, _⟩ := x; exact ⟨ob, e⟩
  | rng lo hi => obtain ⟨_, _, _, e⟩ := x; exact ⟨_, e⟩
  | frz ob u => obtain ⟨e, _⟩ := x; exact ⟨_, e⟩
  | tbl ps => exact ⟨_, show h.get? a = some _ from x⟩
  | met f y => exact ⟨_, show h.get? a = some _ from x⟩
  | ext φ => obtain ⟨_, ⟨ob, e⟩, _⟩ := x; exact ⟨ob, e⟩
theorem Gc.cxOk {Z : Gc} (O : Z.Ok) {gp : List (Addr × Obj)} {sw : Shared} {Hw : Hp} (k : Wk Z gp sw Hw) (hL : Z.L ≤ sw.heap.objs.size) : (Z.cx sw Hw).Ok := by
  have nc := Gc.nocells O
  have nx : ∀ b, b ∉ (Z.cx sw Hw).ex := fun b hb => by cases (show b ∈ ([] : List Addr) from hb)
  refine ⟨k.env0.mod, O.kind, rfl, rfl, ?_, fun x y c e => ?_, fun x hx => ?_, fun x c _ e => ?_, fun _ => O.hd, Around.frames_deeper k.env0.frames, .inr ⟨rfl, rfl⟩, fun b hb => absurd hb (nx b), fun b o e => ?_, ?_, fun b _ _ => nx b, fun b hb => absurd hb (nx b), trunc_funs k.env0.funs O.frL, k.env0.frf⟩
  · exact Nat.le_of_eq (trunc_size hL)
  · rw [show (Z.cx sw Hw).env.cells.lookup x = none from nc x] at e; cases e
  · rcases hx with hx | hx
    · exact absurd rfl (O.nocell _ (PySem.mem_of_lookup (show Z.scope.names.lookup x = some .cell from hx))).1
    · exact absurd rfl (O.nocell _ (PySem.mem_of_lookup (show Z.scope.names.lookup x = some .free from hx))).2
  · rw [show (Z.cx sw Hw).env.cells.lookup x = none from nc x] at e; cases e
  · obtain ⟨h1, h2⟩ := k.env0.bs b o e
    exact ⟨by show (trunc sw.heap Z.L).get? b = some o; rw [trunc_get (Nat.lt_of_lt_of_le (Heap.lt_size e) O.bsz)]; exact h1, h2⟩
  · exact Nat.le_trans O.bsz (Nat.le_of_eq (trunc_size hL).symm)
theorem Gc.woken {Z : Gc} (O : Z.Ok) {ip gp : List (Addr × Obj)} {s0 sw s : Shared} {H0 H Hw : Hp} {σ : L2.St} (I : Inv (Z.cx s0 H0) ip σ H s) (k : Wk Z gp sw Hw) (hL : ∀ o, s.heap.get? Z.L = some o → (Z.L, o) ∈ gp) (ha : (Z.a, Z.go) ∈ gp) (hi : ∀ p ∈ ip, p ∈ gp) : Inv (Z.cx sw Hw) ip σ Hw sw := by
  have nc := Gc.nocells O
  obtain ⟨m, ⟨o, es, ep, ho, r⟩, hl⟩ := I.loc
  have ho' : s.heap.get? Z.L = some o := ho
  obtain ⟨eL, nL⟩ := k.gp _ (hL o ho')
  have hsz : Z.L ≤ sw.heap.objs.size := Nat.le_of_lt (Heap.lt_size eL)
  refine ⟨Gc.cxOk O k hsz, rfl, k.env0.bare, Un.kept fun b u e => (trunc_of hsz e).2, ⟨m, ⟨o, es, ep, eL, r⟩, fun i x v h1 h2 h3 => ?_⟩, fun x c e => ?_, nL, fun x c e => ?_, fun p hp => ?_, k.env0.hok, I.len⟩
  · obtain ⟨u, ru, l⟩ := hl i x v h1 h2 h3
    refine ⟨u, ru, ?_⟩
    rcases l with l | ⟨_, c, e, _⟩
    · exact .inl l
    · rw [show (Z.cx s0 H0).env.cells.lookup x = none from nc x] at e; cases e
  · rw [show (Z.cx sw Hw).env.cells.lookup x = none from nc x] at e; cases e
  · rw [show (Z.cx sw Hw).env.cells.lookup x = none from nc x] at e; cases e
  · have hp' : p ∈ ((Z.a, Z.go) :: pinsAt Z.kp sw.heap) ++ ip := hp
    have old : p = (Z.a, Z.go) ∨ p ∈ ip → sw.heap.get? p.1 = some p.2 ∧ Hw p.1 = none ∧ p.1 ≠ Z.L ∧ p.1 ∉ frs Z.outer ∧ ∀ v, p.2.data ≠ .cell v := fun hh => by
      have hpg : p ∈ gp := by
        rcases hh with z | z
        · rw [z]; exact ha
        · exact hi p z
      obtain ⟨e1, e2⟩ := k.gp p hpg
      have hpo : p ∈ ((Z.a, Z.go) :: pinsAt Z.kp s0.heap) ++ ip := by
        rcases hh with z | z
        · rw [z]; simp
        · exact List.mem_append_right _ z
      obtain ⟨_, _, i3, i4, i5⟩ := I.pin p hpo
      exact ⟨e1, e2, i3, i4, i5⟩
    rcases List.mem_append.mp hp' with z | z
    · rcases List.mem_cons.mp z with z | z
      · exact old (.inl z)
      · obtain ⟨q1, q2⟩ := of_pinsAt z
        obtain ⟨k1, k2, k3, o, k4, k5⟩ := k.kp _ q1
        rw [q2] at k4
        cases k4
        exact ⟨q2, k3, k1.1, k2, k5⟩
    · exact old (.inr z)
def Gc.ch (Z : Gc) (sw : Shared) (Hw : Hp) : List Addr := (List.range sw.heap.objs.size).filter fun b => (decide (Z.L ≤ b) && (Hw b).isNone) && !decide (b ∈ Z.kp)
theorem Gc.mem_ch {Z : Gc} {sw : Shared} {Hw : Hp} {b : Addr} : b ∈ Z.ch sw Hw ↔ b < sw.heap.objs.size ∧ Z.L ≤ b ∧ Hw b = none ∧ b ∉ Z.kp := by
  unfold Gc.ch
  rw [List.mem_filter, List.mem_range, Bool.and_eq_true, Bool.and_eq_true, decide_eq_true_eq, Option.isNone_iff_eq_none, Bool.not_eq_true', decide_eq_false_iff_not, and_assoc]
theorem Gc.un {Z : Gc} {ip : List (Addr × Obj)} {sw s : Shared} {Hw H : Hp} {σ : L2.St} (I : Inv (Z.cx sw Hw) ip σ H s) (sm : Same Hw H) (hL : Z.L ≤ sw.heap.objs.size) : Un (frs Z.outer) (Z.ch sw Hw) Hw H sw.heap s.heap := by
  have U : Un (frs Z.outer) [] Hw H (trunc sw.heap Z.L) s.heap := I.base
  have lo : ∀ b o, sw.heap.get? b = some o → Hw b = none → b ∉ Z.ch sw Hw → b < Z.L ∨ (s.heap.get? b = some o ∧ H b = none ∧ b ∉ frs Z.outer) := fun b o e n hc => by
    by_cases c : b < Z.L
    · exact .inl c
    · by_cases d : b ∈ Z.kp
      · obtain ⟨q1, q2, _, q4, _⟩ := I.pin (b, o) (List.mem_append_left _ (List.mem_cons_of_mem _ (mem_pinsAt d e)))
        exact .inr ⟨q1, q2, q4⟩
      · exact absurd (Gc.mem_ch.mpr ⟨Heap.lt_size e, Nat.le_of_not_lt c, n, d⟩) hc
  have tr : ∀ b o, sw.heap.get? b = some o → b < Z.L → (trunc sw.heap Z.L).get? b = some o := fun b o e hb => by rw [trunc_get hb]; exact e
  refine ⟨fun b o e n hf hc => ?_, fun b o e n hf hc => ?_, fun b o e n hc => ?_, fun b o e hc => ?_, U.tups, U.frzs, U.tbls⟩
  · rcases lo b o e n hc with z | z
    · exact U.keep b o (tr b o e z) n hf (by simp)
    · exact z.1
  · rcases lo b o e n hc with z | z
    · exact U.slot b o (tr b o e z) n hf (by simp)
    · exact absurd hf z.2.2
  · rcases lo b o e n hc with z | z
    · exact U.free b o (tr b o e z) n (by simp)
    · exact z.2.1
  · cases q : Hw b with
    | none =>
      rcases lo b o e q hc with z | z
      · exact U.there b o (tr b o e z) (by simp)
      · exact ⟨o, z.1⟩
    | some u => exact okEx (I.hok b u (sm b u q))
end MF
set_option Elab.async false
set_option linter.all false
set_option maxRecDepth 100000
set_option maxHeartbeats 1000000
namespace MF
open PySem PySem.Spec PyProof.Rows L2 GenW
def Gc.Y (Z : Gc) : Protocol := fun n s₀ v s kap => ∃ (i : Nat) (Hw H : Hp) (T : Addr) (vs : List V) (gp : List (Addr × Obj)), Z.RP i s₀ Hw ∧ n + i = Z.out.length ∧ Z.out[i]? = some vs ∧ v = .ref T ∧ Hw T = none ∧ H T = some (.tup vs) ∧ Same Hw H ∧
  s.os = s₀.os ∧ AllBare s.gens ∧ HOk Z.P Z.w H s.heap ∧ Un (frs Z.outer) (Z.ch s₀ Hw) Hw H s₀.heap s.heap ∧
  (∀ p ∈ gp, s.heap.get? p.1 = some p.2 ∧ H p.1 = none ∧ p.1 ∉ frs Z.outer ∧ (∀ v, p.2.data ≠ .cell v) ∧ p.1 ∉ Z.kp) ∧ (Z.a, Z.go) ∈ gp ∧
  ∀ (sw : Shared) (Hw' : Hp), Z.RP (i + 1) sw Hw' → Wk Z gp sw Hw' → kap (.send .none) sw
def Gc.F (Z : Gc) (s₀ s : Shared) : Prop := ∃ (Hw H : Hp), Z.RP Z.out.length s₀ Hw ∧ Same Hw H ∧ s.os = s₀.os ∧ AllBare s.gens ∧ HOk Z.P Z.w H s.heap ∧ Un (frs Z.outer) (Z.ch s₀ Hw) Hw H s₀.heap s.heap
def Gc.R (Z : Gc) : GenEnd := fun n s₀ r s => ((r = .ok (.ret .none) ∨ r = .ok .next) ∧ Z.F s₀ s) ∨ ∃ e, r = .error e ∧ noX e s
def Gc.Lk (Z : Gc) (s : Shared) : Prop := Z.L ≤ s.heap.objs.size ∧ ∀ b ∈ Z.kp, (b ≠ Z.L ∧ b ≠ Z.a) ∧ ∃ o, s.heap.get? b = some o
def Gc.SI (Z : Gc) (s₀ : Shared) (i : Nat) (ip : List (Addr × Obj)) (σ : L2.St) (H : Hp) (s : Shared) : Prop := ∃ Hw, Inv (Z.cx s₀ Hw) ip σ H s ∧ Z.RP i s₀ Hw ∧ Same Hw H ∧ Z.need H ∧ Z.Lk s₀
structure Gp (Z : Gc) (c : Code) (fs : List Frame) (gd : Bool → Bool) : Prop where
  over : Z.A.over c fs = Z.A.deeper Z.env
  split : splitAtGen fs = none
  guard : fs.any Frame.guarded = false
  gd : gd false = false
abbrev TGx := (Nat → L2.St → Hp → Prop) → Nat → L2.St → Hp → Prop
structure GJ (Z : Gc) (st : List Stmt) (t : TGx) : Prop where
  run : ∀ (c : Code) (fs : List Frame) (K : Flow → Sem PySem.Fin) (J : Value → Sem PySem.Fin) (gd : Bool → Bool) (lv : List Value → List Value) (ip : List (Addr × Obj)) (nx : Nat → L2.St → Hp → Prop), Gp Z c fs gd → (∀ p ∈ ip, Z.L ≤ p.1 ∧ p.1 ∉ Z.kp) →
    (∀ (i n : Nat) (s₀ s : Shared) (σ : L2.St) (H : Hp), n + i = Z.out.length + 1 → Z.SI s₀ i ip σ H s → nx i σ H → Seg (model Z.P Z.w) Z.A Z.R Z.Y n s₀ c (K .next) fs s) →
    ∀ (i n : Nat) (s₀ s : Shared) (σ : L2.St) (H : Hp), n + i = Z.out.length + 1 → Z.SI s₀ i ip σ H s → t nx i σ H → Seg (model Z.P Z.w) Z.A Z.R Z.Y n s₀ c ((execs st Z.env).wrap K J gd lv) fs s
variable {Z : Gc}
theorem gx_nil : GJ Z [] (fun nx i σ H => nx i σ H) := ⟨fun c fs K J gd lv ip nx _ _ hk i n s₀ s σ H hn si h => seg_execs_nil (hk i n s₀ s σ H hn si h)⟩
def tGP (O : Z.Ok) (tp : TS) (tr : TGx) : TGx := fun nx i σ H => tp { nx := fun σ' H' => Same H H' ∧ tr nx i σ' H', rt := fun _ _ => False } σ H
theorem gx_ps {O : Z.Ok} {st : Stmt} {rest : List Stmt} {tp : TS} {tr : TGx} (h : ∀ s₀ Hw, PS (Z.cx s₀ Hw) st tp) (r : GJ Z rest tr) : GJ Z (st :: rest) (tGP O tp tr) := by
  refine ⟨fun c fs K J gd lv ip nx gp hip hk i n s₀ s σ H hn si ht => ?_⟩
  obtain ⟨Hw, I, rp, sm, nd, hL⟩ := si
  refine seg_execs_cons (seg_wrap ?_)
  rw [gp.over]
  refine wpAny_mono ((h s₀ Hw).run ip s σ H _ I ht) (fun f s' hs => ?_) fun _ _ z => z.elim
  cases f with
  | next =>
    obtain ⟨σ', H', I', sm', q⟩ := hs
    exact r.run c fs K J gd lv ip nx gp hip hk i n s₀ s' σ' H' hn ⟨Hw, I', rp, sm.trans sm', O.stable _ _ sm' nd, hL⟩ q
  | brk => obtain ⟨_, _, _, q⟩ := hs; exact q.elim
  | cont => obtain ⟨_, _, _, q⟩ := hs; exact q.elim
  | ret u => obtain ⟨_, _, _, _, _, q⟩ := hs; exact q.elim
def tGF (Z : Gc) (wi : TI) (g : TG) (te : TE) (tr : TGx) : TGx := fun nx i σ H => wi σ H fun Jt H1 => Same H H1 ∧ ∃ (lo : Int) (m : Nat), Jt = Itr lo m ∧ i + m ≤ Z.out.length ∧ ∃ W : Nat → L2.St → Prop, W 0 σ ∧
  (∀ (j : Nat) σ H, j < m → W j σ → Z.need H → g (.int (lo + j)) σ H fun σ2 H2 => Same H H2 ∧ te σ2 H2 fun x H3 => Same H2 H3 ∧ ∃ (T : Addr) (vs : List V), x = .ref T ∧ Z.out[i + j]? = some vs ∧ H2 T = none ∧ H3 T = some (.tup vs) ∧ W (j + 1) σ2) ∧
  (∀ σ H, W m σ → Z.need H → tr nx (i + m) σ H)
theorem same_free {H H' : Hp} {a : Addr} (s : Same H H') (h : H' a = none) : H a = none := by
  cases q : H a with
  | none => rfl
  | some u => rw [s a u q] at h; cases h
theorem gx_for {O : Z.Ok} {tg iter e : Expr} {yp ep pos : Pos} {wi : TI} {g : TG} {te : TE} {rest : List Stmt} {tr : TGx} (hi : ∀ s₀ Hw, PI (Z.cx s₀ Hw) tg iter wi) (hg : ∀ s₀ Hw, PG (Z.cx s₀ Hw) tg g) (he : ∀ s₀ Hw, PE (Z.cx s₀ Hw) e te) (r : GJ Z rest tr)
    (hs : ∀ x, foldedSetIterable iter Z.env x = pure x) (hco : Z.env.scope.isCoroutine = false) (hint : interactive Z.env = false) :
    GJ Z (.For tg iter [.Expr (.Yield (some e) yp) ep] [] pos :: rest) (tGF Z wi g te tr) := by
  refine ⟨fun c fs K J gd lv ip nx gp hip hk i n s₀ s σ H hn si ht => ?_⟩
  obtain ⟨Hw, I, rp, sm, nd, hL⟩ := si
  refine seg_execs_cons (seg_For hs ?_)
  rw [gp.over]
  refine wpAny_mono ((hi s₀ Hw).run ip s σ H _ I ht) (fun v s1 h1 => wpAny_mono h1 (fun itv s2 h2 => ?_) fun _ _ z => z.elim) fun _ _ z => z.elim
  obtain ⟨it, fp, tn, Jt, H2, ei, I2, T, st2, f2, sm2, lo, m, eJ, him, W, w0, step, fin⟩ := h2
  subst ei
  subst eJ
  intro p lv'
  have stat : ∀ b ∈ fp, b ≠ Z.L ∧ b ∉ frs Z.outer ∧ Z.L ≤ b ∧ (∀ q ∈ [(Z.a, Z.go)] ++ ip, q.1 ≠ b) ∧ b ∉ Z.kp := fun b hb => by
    obtain ⟨_, h2, h3, h4, _, h6⟩ := f2 b hb
    refine ⟨h2, h3, ?_, fun q hq => ?_, fun hk => ?_⟩
    · rcases h4 with z | z
      · cases (show b ∈ ([] : List Addr) from z)
      · have z' : (trunc s₀.heap Z.L).objs.size ≤ b := z
        rw [trunc_size hL.1] at z'
        exact z'
    · rcases List.mem_append.mp hq with z | z
      · rw [List.mem_singleton.mp z]
        exact h6 (Z.a, Z.go) (List.mem_append_left _ List.mem_cons_self)
      · exact h6 q (List.mem_append_right _ z)
    · obtain ⟨_, o, eo⟩ := hL.2 b hk
      exact h6 (b, o) (List.mem_append_left _ (List.mem_cons_of_mem _ (mem_pinsAt hk eo))) rfl
  have fpk : ∀ {s0 : Shared} {H0 H' : Hp}, Z.L ≤ s0.heap.objs.size → (∀ b ∈ fp, H' b = none) → ∀ b ∈ fp, FpOk (Z.cx s0 H0) ip H' b := fun {s0 H0 H'} hl hn b hb => by
    obtain ⟨z1, z2, z3, z4, z5⟩ := stat b hb
    refine ⟨hn b hb, z1, z2, .inr ?_, fun x c e => ?_, fun q hq => ?_⟩
    · show (trunc s0.heap Z.L).objs.size ≤ b
      rw [trunc_size hl]
      exact z3
    · rw [show (Z.cx s0 H0).env.cells.lookup x = none from Gc.nocells O x] at e
      cases e
    · rcases List.mem_append.mp hq with z | z
      · rcases List.mem_cons.mp z with z | z
        · exact z4 q (by rw [z]; simp)
        · exact fun w => z5 (w ▸ (of_pinsAt z).1)
      · exact z4 q (List.mem_append_right _ z)
  have ov : ∀ (k : Result → Sem PySem.Fin) (l : List Value), Z.A.over (.forLoop tg (.ref it) [.Expr (.Yield (some e) yp) ep] [] Z.env) (.ret k none (gd false) l c p [] :: fs) = Z.A.deeper Z.env := fun k l => (over_loop rfl rfl).trans gp.over
  have loop : ∀ (d j n : Nat) (s₀ s : Shared) (σ : L2.St) (H : Hp), d + j = m → n + (i + j) = Z.out.length + 1 → Z.SI s₀ (i + j) ip σ H s → tn j s.heap → (∀ b ∈ fp, H b = none) → W j σ →
      Seg (model Z.P Z.w) Z.A Z.R Z.Y n s₀ (.forLoop tg (.ref it) [.Expr (.Yield (some e) yp) ep] [] Z.env) ((model Z.P Z.w).den (.forLoop tg (.ref it) [.Expr (.Yield (some e) yp) ep] [] Z.env))
        (.ret (fun r => ((match r with | .ok f => (.pure f : Sem Flow) | .error e => .raise e).onRaise (cameBack Z.env)).wrap (fun (f : Flow) => match f with | .next => (execs rest Z.env).wrap K J gd lv | f => K f) J gd lv) none (gd false) lv' c p [] :: fs) s := by
    intro d
    induction d with
    | zero =>
      intro j n s₀ s σ H hd hn si st fr wj
      obtain ⟨Hw, I, rp, sm, nd, hL⟩ := si
      have ej : j = m := by omega
      subst ej
      refine seg_forLoop ?_
      rw [ov]
      refine wpAny_mono (T.done (Z.cx s₀ Hw) rfl rfl rfl rfl j ip s σ H noX I (fpk hL.1 fr) st (Nat.le_refl _)) (fun r0 s1 hr => ?_) fun _ _ z => z.elim
      obtain ⟨e0, I1⟩ := hr
      subst e0
      refine seg_leaf (.ok .next) ?_
      exact r.run c fs K J gd lv ip nx gp hip hk (i + j) n s₀ s1 σ H hn ⟨Hw, I1, rp, sm, nd, hL⟩ (fin σ H wj nd)
    | succ d ih =>
      intro j n s₀ s σ H hd hn si st fr wj
      obtain ⟨Hw, I, rp, sm, nd, hL⟩ := si
      have hj : j < m := by omega
      obtain ⟨n, rfl⟩ : ∃ k, n = k + 1 := ⟨n - 1, by omega⟩
      refine seg_forLoop ?_
      rw [ov]
      refine wpAny_mono (T.item (Z.cx s₀ Hw) rfl rfl rfl rfl j ip s σ H noX I (fpk hL.1 fr) st hj) (fun r0 s1 hr => ?_) fun _ _ z => z.elim
      obtain ⟨u, e0, h4⟩ := hr
      subst e0
      refine wpAny_mono h4 (fun _ s5 ⟨x, H5, I5, r5, ⟨eH, ex⟩, st5, fr5⟩ => ?_) fun _ _ z => z.elim
      subst eH
      subst ex
      have I5' := I5.pinned (fpk hL.1 fr5) (T.obj _ _ st5)
      refine wpAny_mono ((hg s₀ Hw).run _ s5 σ H5 _ u _ I5' r5 (step j σ H5 hj wj nd)) (fun _ s6 ⟨σ6, H6, I6, sm6, q6⟩ => ?_) fun _ _ z => z.elim
      refine seg_execs_cons ?_
      refine seg_Expr_Yield (by
        show (splitAtGen fs).map _ = none
        rw [gp.split]; rfl) rfl (by
        show (gd false || fs.any Frame.guarded) = false
        rw [gp.gd, gp.guard]; rfl) ?_ hco hint
      rw [ov]
      refine wpAny_mono ((he s₀ Hw).run _ s6 σ6 H6 _ I6 q6) (fun v s7 ⟨x, H7, I7, r7, sm7, Tt, vs, ex, eo, n2, e3, w7⟩ => ?_) fun _ _ z => z.elim
      subst ex
      obtain rfl : v = Value.ref Tt := r7
      intro kap hkap
      obtain ⟨mm, ⟨oL, es, ep', hoL, dL, rr⟩, _⟩ := id I7.loc
      have sm' : Same Hw H7 := (sm.trans sm6).trans sm7
      have pin7 := I7.pin
      have inp : ∀ q ∈ ip ++ pinsAt fp s5.heap, Z.L ≤ q.1 ∧ q.1 ∉ Z.kp := fun q hq => by
        rcases List.mem_append.mp hq with z | z
        · exact hip q z
        · exact ⟨(stat q.1 (of_pinsAt z).1).2.2.1, (stat q.1 (of_pinsAt z).1).2.2.2.2⟩
      refine ⟨i + j, Hw, H7, Tt, vs, (Z.L, oL) :: (Z.a, Z.go) :: (ip ++ pinsAt fp s5.heap), rp, by omega, eo, rfl, same_free (sm.trans sm6) n2, e3, sm', I7.os, I7.bare, I7.hok, Gc.un I7 sm' hL.1, fun q hq => ?_, by simp, fun sw Hw' rp' wk => ?_⟩
      · rcases List.mem_cons.mp hq with z | hq
        · rw [z]
          exact ⟨hoL, I7.free, (fun hb => absurd (O.frL _ hb) (Nat.lt_irrefl _)), (fun v y => by rw [dL] at y; cases y), fun hk => (hL.2 _ hk).1.1 rfl⟩
        · have hq' : q ∈ (Z.cx s₀ Hw).pn ++ (ip ++ pinsAt fp s5.heap) := by
            rcases List.mem_cons.mp hq with z | z
            · rw [z]; exact List.mem_append_left _ List.mem_cons_self
            · exact List.mem_append_right _ z
          obtain ⟨p1, p2, p3, p4, p5⟩ := pin7 q hq'
          rcases List.mem_cons.mp hq with z | z
          · refine ⟨p1, p2, ?_, p5, ?_⟩
            · rw [z]; exact fun hb => absurd (Nat.lt_trans (O.frL _ hb) O.la) (Nat.lt_irrefl _)
            · rw [z]; exact fun hk => (hL.2 _ hk).1.2 rfl
          · exact ⟨p1, p2, (fun hb => absurd (Nat.lt_of_lt_of_le (O.frL _ hb) (inp q z).1) (Nat.lt_irrefl _)), p5, (inp q z).2⟩
      · refine hkap .none sw ?_
        show Seg _ _ _ _ _ _ _ _ _ _
        have I8 : Inv (Z.cx sw Hw') (ip ++ pinsAt fp s5.heap) σ6 Hw' sw := Gc.woken O I7 wk (fun o ho => by
          have : s7.heap.get? Z.L = some oL := hoL
          rw [this] at ho
          cases ho
          simp) (by simp) (fun q hq => List.mem_cons_of_mem _ (List.mem_cons_of_mem _ hq))
        have hL' : Z.Lk sw := ⟨Nat.le_of_lt (Heap.lt_size (wk.gp (Z.L, oL) (by simp)).1), fun b hb => by obtain ⟨n, _, _, o, e, _⟩ := wk.kp b hb; exact ⟨n, o, e⟩⟩
        have at5 : ∀ b ∈ fp, ∀ o, s5.heap.get? b = some o → sw.heap.get? b = some o ∧ Hw' b = none := fun b hb o eo => wk.gp (b, o) (List.mem_cons_of_mem _ (List.mem_cons_of_mem _ (List.mem_append_right _ (mem_pinsAt hb eo))))
        refine seg_again rfl (ih (j + 1) n sw sw σ6 Hw' (by omega) (by omega) ⟨Hw', I8.unpinned, rp', Same.refl _, wk.need, hL'⟩ (T.keep _ _ _ st5 fun b hb o eo => (at5 b hb o eo).1) (fun b hb => ?_) w7)
        obtain ⟨o, eo, _⟩ := T.obj _ _ st5 b hb
        exact (at5 b hb o eo).2
  exact loop m 0 n s₀ s2 σ H2 (by omega) (by omega) ⟨Hw, I2, rp, sm.trans sm2, O.stable _ _ sm2 nd, hL⟩ st2 (fun b hb => (f2 b hb).1) w0
end MF
set_option Elab.async false
set_option linter.all false
set_option maxRecDepth 100000
set_option maxHeartbeats 1000000
namespace MF
open PySem PySem.Spec PyProof.Rows L2 GenW
open Sem (wp)
theorem wakes_susp {M : Model} {Γ : PySem.Ctx} {p : Pos} {g : Nat} {r : Resume} {s s' : Shared} {v : Value} (h : Wakes M Γ p g r s (.yielded v) s') : ∃ x, s'.gens[g]? = some x ∧ isSusp x = true := by
  have key : ∀ {Γ' : PySem.Ctx} {p' : Pos} {t : Sem PySem.Fin} {fs : List Frame} {e : End} {s₁ : Shared}, g < s.gens.size → Runs M Γ' p' t fs (s.setGen g .running) e s₁ → GenResult.yielded v = e.result → s' = s₁.setGen g e.genState → ∃ x, s'.gens[g]? = some x ∧ isSusp x = true := fun {Γ' p' t fs e s₁} hg hr he hs => by
    have h1 := runs_gsz hr
    rw [setGen_size] at h1
    refine ⟨e.genState, by rw [hs]; exact setGen_at (by omega), ?_⟩
    cases e with
    | susp => rfl
    | ret x => rcases x with _ | _ <;> cases he
  unfold Wakes at h
  cases hg : s.gens[g]? with
  | none => rw [hg] at h; exact h.elim
  | some st =>
    have hlt : g < s.gens.size := (Array.getElem?_eq_some_iff.mp hg).1
    rw [hg] at h
    cases st with
    | fresh c =>
      cases r with
      | send u =>
        cases u with
        | none => obtain ⟨e, s₁, h1, _, h3, h4⟩ := h; exact key hlt h1 h3 h4
        | _ => obtain ⟨h1, _⟩ := h; cases h1
      | throw x => obtain ⟨h1, _⟩ := h; cases h1
    | suspended => obtain ⟨e, s₁, h1, _, h3, h4⟩ := h; exact key hlt h1 h3 h4
    | running => obtain ⟨h1, _⟩ := h; cases h1
    | finished => obtain ⟨h1, _⟩ := h; cases h1
def goNext (M : Model) (A : Around) (R : GenEnd) (Y : Protocol) : Nat → GenState → Resume → Shared → Prop
  | 0 => fun _ _ _ => False
  | m + 1 => fun gs r s => gs.Goes M A R Y m r s
theorem resumeS {M : Model} {A : Around} {R : GenEnd} {Y : Protocol} {n : Nat} {E : Value → Shared → Prop} {s : Shared} {g : Nat} {gs : GenState} {r : Resume} {l : List Value} {α : Type} {k : GenResult → Sem α} {Q : α → Shared → Prop} (hg : s.gens[g]? = some gs) (hgo : gs.Goes M A R Y n r (s.setGen g .running))
    (hR : ∀ x s₁, R n (s.setGen g .running) x s₁ → wpAny M A (k (End.ret x).result) Q E (s₁.setGen g .finished))
    (hY : ∀ v s₁ gs', gs'.bare = true → isSusp gs' = true → (s₁.setGen g gs').gens[g]? = some gs' → Y (n - 1) (s.setGen g .running) v s₁ (goNext M A R Y n gs') → wpAny M A (k (.yielded v)) Q E (s₁.setGen g gs')) :
    wpAny M A (.resume g r l k) Q E s := by
  have base : wpAny M A (.resume g r l Sem.pure) (fun res s' => (∃ x s₁, res = (End.ret x).result ∧ s' = s₁.setGen g .finished ∧ R n (s.setGen g .running) x s₁) ∨ ∃ v s₁ gs', res = .yielded v ∧ s' = s₁.setGen g gs' ∧ gs'.bare = true ∧ Y (n - 1) (s.setGen g .running) v s₁ (goNext M A R Y n gs')) E s :=
    wpAny_resumeQ hg hgo (fun x s₁ hx => wpAny_pure (.inl ⟨x, s₁, rfl, rfl, hx⟩)) (fun v s₁ gs' hb hv => wpAny_pure (.inr ⟨v, s₁, gs', rfl, rfl, hb, by cases n <;> exact hv⟩))
  intro Γ p hΓ
  have h := base Γ p hΓ
  rw [Sem.wp_resume] at h ⊢
  obtain ⟨res, s', hw, hF⟩ := h
  refine ⟨res, s', hw, ?_⟩
  rcases hF with ⟨x, s₁, e1, e2, h3⟩ | ⟨v, s₁, gs', e1, e2, h3, h4⟩
  · subst e1
    subst e2
    exact hR x s₁ h3 Γ p hΓ
  · subst e1
    obtain ⟨x, q1, q2⟩ := wakes_susp hw
    rw [e2] at q1
    have hlt : g < s₁.gens.size := by
      have := (Array.getElem?_eq_some_iff.mp q1).1
      rw [setGen_size] at this
      exact this
    have q3 := setGen_at (x := gs') hlt
    rw [q3] at q1
    cases q1
    rw [e2]
    exact hY v s₁ gs' h3 q2 q3 h4 Γ p hΓ
def endR (F : Shared → Shared → Prop) : GenEnd := fun n s₀ r s₁ => ((r = .ok (.ret .none) ∨ r = .ok .next) ∧ F s₀ s₁) ∨ ∃ e, r = .error e ∧ noX e s₁
section
variable {P : Program} {w : World} {A : Around} {E : Value → Shared → Prop} {s : Shared}
theorem next_gen {a : Addr} {g n : Nat} {gs : GenState} {F : Shared → Shared → Prop} {Y : Protocol} {Q : Option Value → Shared → Prop} (hh : A.handled = none) (hl : s.heap.NoLimit) (hroom : A.depth < recursionLimit) (hg : s.heap.IsGen a g) (hgs : s.gens[g]? = some gs)
    (hgo : gs.Goes (model P w) A.in1 (endR F) Y n (.send .none) (s.setGen g .running))
    (hY : ∀ v s₁ gs', gs'.bare = true → isSusp gs' = true → (s₁.setGen g gs').gens[g]? = some gs' → Y (n - 1) (s.setGen g .running) v s₁ (goNext (model P w) A.in1 (endR F) Y n gs') → Q (some v) (s₁.setGen g gs'))
    (hP : ∀ s₁, F (s.setGen g .running) s₁ → ∀ h', (∀ b o, s₁.heap.get? b = some o → h'.get? b = some o) → Q none { s₁.setGen g .finished with heap := h' }) :
    wpAny (model P w) A (pyNext (.ref a)) Q E s := by
  unfold pyNext
  refine wpAny_bind (wpAny_attempt (wpAny_callSpecial?_slot (name := Str.ofString "__next__") hg.typeIs slot_gen_next (wpAny_call_entry slot_gen_next hg.typeIs entry_gen_next ?_ (args_gen_next _))))
  show wpAny _ A.in1 (Builtin.Generator.genWake (.ref a) (.send .none)) _ _ s
  unfold Builtin.Generator.genWake
  refine wpAny_bind (wpAny_holding (wpAny_genNumber hg (wpAny_bind (wpAny_genState hgs ?_))))
  cases gs with
  | running => exact hgo.elim
  | finished => exact hgo.elim
  | _ =>
    refine wpAny_bind (wpAny_roomToWake hl hroom ?_)
    show wpAny _ A.in1 (.resume g (.send .none) [] _) _ _ s
    refine resumeS hgs hgo (fun x s₁ hx => ?_) (fun v s₁ gs' hb hsu hat hv => wpAny_pure ⟨v, rfl, wpAny_pure (hY v s₁ gs' hb hsu hat hv)⟩)
    rcases hx with ⟨hr, hp⟩ | ⟨e, _, he⟩
    · have hres : (End.ret x).result = .returned .none := by rcases hr with hr | hr <;> rw [hr] <;> rfl
      first | rw [hres] | simp only [hres]
      show wpAny _ A.in1 (newExc (.type "StopIteration") [] >>= _) _ _ _
      refine wpAny_bind ?_
      simp only [newExc, newTuple]
      refine wpAny_bind (wpAny_newObj_type ?_ (by size_fits))
      refine wpAny_bind (m := firstArgMember _ _) (wpAny_of_eq (a := Value.none) (by first | rfl | (simp only [firstArgMember]; rfl)) ?_)
      refine wpAny_newObj_type ?_ (by size_fits)
      simp only [raiseNew]
      refine wpAny_bind (wpAny_bind (wpAny_handled ?_))
      first | rw [show A.in1.handled = none from hh] | rw [hh]
      refine wpAny_throw ?_
      refine wpAny_bind (wpAny_isInstance (T := "StopIteration") (b := true) ⟨_, Heap.get?_push_size _ rfl, rfl⟩ isSubtype_stop ?_)
      exact wpAny_pure (hP s₁ hp _ fun b o hb => Heap.get?_push_of_some _ (Heap.get?_push_of_some _ hb))
    · exact he.elim
end
end MF
set_option Elab.async false
set_option linter.all false
set_option maxRecDepth 100000
set_option maxHeartbeats 1000000
namespace MF
open PySem PySem.Spec PyProof.Rows L2 GenW
def GMadeX (P : Program) (w : World) (K : PySem.W.Frag) (mg : Str → Option Value) (base : Heap) (k : Nat) (outer : List Env) (s : Shared) (H : Hp) (out : List (List V)) (need : Hp → Prop) (u : Value) (s' : Shared) : Prop :=
  ∃ (N : List Str) (qual : Str) (scope : Scope) (f : Addr) (cdv : Value) (a : Addr) (g : Nat) (go oL : Obj) (c : Code), u = .ref a ∧ s.heap.objs.size < a ∧ s'.heap.get? a = some go ∧ (∀ h : Heap, h.get? a = some go → h.IsGen a g) ∧ s'.gens[g]? = some (.fresh c) ∧
    s'.heap.get? s.heap.objs.size = some oL ∧ (∀ v, oL.data ≠ .cell v) ∧ (∀ v, go.data ≠ .cell v) ∧ (go.cls = .type "generator" ∧ ∃ vs, go.data = .fields vs) ∧ s'.os = s.os ∧ AllBare s'.gens ∧ (∀ b o, s.heap.get? b = some o → s'.heap.get? b = some o) ∧
    (∀ A RP kp, A.handled = none → (Gc.mk P w K mg base N qual scope f cdv A outer s.heap.objs.size a go out need RP kp).Ok) ∧
    ∀ (A : Around) (RP : Nat → Shared → Hp → Prop) (kp : List Addr) (sw : Shared) (Hw : Hp), Room k A → A.frames = some outer → RP 0 sw Hw → Wk (Gc.mk P w K mg base N qual scope f cdv A outer s.heap.objs.size a go out need RP kp) [(s.heap.objs.size, oL), (a, go)] sw Hw →
      Seg (model P w) A (Gc.mk P w K mg base N qual scope f cdv A outer s.heap.objs.size a go out need RP kp).R (Gc.mk P w K mg base N qual scope f cdv A outer s.heap.objs.size a go out need RP kp).Y (out.length + 1) sw c ((model P w).den c) [] sw
abbrev SpX := List V → Hp → List (List V) → (Hp → Prop) → Prop
structure GFx (P : Program) (w : World) (K : PySem.W.Frag) (mg : Str → Option Value) (base : Heap) (k : Nat) (f : Addr) (fd : FuncData) (ps : List Str) (sp : SpX) : Prop where
  len : ∀ vs H out need, sp vs H out need → vs.length = ps.length
  need : ∀ vs H out need, sp vs H out need → need H ∧ ∀ H H', Same H H' → need H → need H'
  run : ∀ (A : Around) (outer : List Env) (s : Shared) (H : Hp) (args : Args) (us : List Value) (vs : List V) (out : List (List V)) (need : Hp → Prop), Room k A → Env0 P w K mg base A outer s H → BindsTo s fd args (ps.zip us) → Vals vs us → sp vs H out need →
    codeAny (model P w) A (.call (.ref f) args) (fun r s' => match r with | .ok (.ret u) => GMadeX P w K mg base k outer s H out need u s' | _ => False) s
theorem gfx_of0 {P : Program} {w : World} {K : PySem.W.Frag} {mg : Str → Option Value} {base : Heap} {k : Nat} {f : Addr} {name qual : Str} {params : Arguments} {body : List Stmt} {scope : Scope} {dV kV doc pm cdv ct oc : Value} {an od : Option Addr} {osl : Array (Option Value)} {N ps : List Str} {sp : SpX}
    (lk : K.lookup f = some ⟨oc, od, .func (PySem.W.fnOf name qual params body scope dV kV doc pm an cdv ct), osl⟩) (hcd : PySem.W.codeIn K cdv qual = true) (S : GScope N ps scope) (nc : ∀ y ∈ scope.names, y.2 ≠ .cell ∧ y.2 ≠ .free)
    (len : ∀ vs H out need, sp vs H out need → vs.length = ps.length) (hneed : ∀ vs H out need, sp vs H out need → need H ∧ ∀ H H', Same H H' → need H → need H')
    (hbody : ∀ (A : Around) (outer : List Env) (L a : Addr) (go : Obj) (RP : Nat → Shared → Hp → Prop) (kp : List Addr) (vs : List V) (H : Hp) (out : List (List V)) (need : Hp → Prop), (Gc.mk P w K mg base N qual scope f cdv A outer L a go out need RP kp).Ok → Room k (A.deeper (envOfC qual scope L f cdv)) → sp vs H out need →
      ∀ (sw : Shared) (Hw : Hp), Inv ((Gc.mk P w K mg base N qual scope f cdv A outer L a go out need RP kp).cx sw Hw) [] (start N vs) Hw sw → RP 0 sw Hw → need Hw → (Gc.mk P w K mg base N qual scope f cdv A outer L a go out need RP kp).Lk sw →
        Seg (model P w) A (Gc.mk P w K mg base N qual scope f cdv A outer L a go out need RP kp).R (Gc.mk P w K mg base N qual scope f cdv A outer L a go out need RP kp).Y (out.length + 1) sw (.func body (envOfC qual scope L f cdv)) ((model P w).den (.func body (envOfC qual scope L f cdv))) [] sw) :
    GFx P w K mg base (k + 1) f (PySem.W.fnOf name qual params body scope dV kV doc pm an cdv ct) ps sp := by
  refine ⟨len, hneed, fun A outer s H args us vs out need hr e0 hb r hsp => ?_⟩
  have hl := len _ _ _ _ hsp
  have hst := (hneed _ _ _ _ hsp).2
  have kin : K.In s.heap := e0.mod.kin.keeps fun b o e => (e0.bs b o e).1
  have lim : s.heap.NoLimit := e0.mod.nolimit.keeps fun b o e => (e0.bs b o e).1
  have hk : ∀ y ∈ ps.zip us, scope.names.lookup y.1 = some .local ∨ (scope.names.lookup y.1 = some .cell ∧ ((cellsFrom (s.heap.objs.size + 1) scope.names []).lookup y.1).isSome = true) := fun y hy => by
    rcases S.par y.1 (List.of_mem_zip (a := y.1) (b := y.2) hy).1 with q | q
    · exact .inl q
    · exact .inr ⟨q, PySem.W.cellsFrom_some _ _ _ (.inl q)⟩
  refine codeAny_call_generator hr.depth (kin _ _ lk) rfl S.co S.gen rfl (PySem.W.codeRec_of kin hcd) (hb _ _ _ _ ?_)
  refine wpAny_newFunctionEnv_cells S.kind hk fun env he s1 x => ?_
  subst he
  have lim1 : s1.heap.NoLimit := lim.keeps x.toInCall.keep
  refine ⟨lim1, ?_⟩
  obtain ⟨h1, tk, es1, hk1⟩ := x.done
  have os1 : s1.os = s.os := by rw [es1]
  have gen1 : s1.gens = s.gens := by rw [es1]
  have lt1 : s.heap.objs.size < s1.heap.objs.size := x.toInCall.ns.lt
  have kp1 : ∀ b o, s.heap.get? b = some o → s1.heap.get? b = some o := x.toInCall.keep
  have I1 : Inv (gcxOf P w K mg base N qual scope f cdv A outer s H (fun _ _ _ => False) []) [] (start N vs) H s1 := inv_startG S hr.hd e0 hl r x
  obtain ⟨m, ⟨oL, es, ep, hoL, dL, rL⟩, hloc⟩ := I1.loc
  have hoL' : s1.heap.get? s.heap.objs.size = some oL := hoL
  have frL : ∀ b ∈ frs outer, b < s.heap.objs.size := fun b hb => by
    obtain ⟨_, o, ho, _⟩ := e0.funs.mem hb
    exact Heap.lt_size ho
  have main : ∀ (go : Obj) (nm qn : Value) (tk2 : Nat), go.cls = .type "generator" → go.data = .fields #[.int s1.gens.size 0, nm, qn] → go.slots = #[] → (∀ h : Heap, (h.push go).get? h.objs.size = some go) →
      GMadeX P w K mg base (k + 1) outer s H out need (.ref s1.heap.objs.size) { s1 with gens := s1.gens.push (.fresh (.func body (envOfC qual scope s.heap.objs.size f cdv))), toks := tk2, heap := s1.heap.push go } := by
    intro go nm qn tk2 hgc hgd hgs hgp
    have god : ∀ v, go.data ≠ .cell v := fun v q => by rw [hgd] at q; cases q
    have okZ : ∀ A RP kp, A.handled = none → (Gc.mk P w K mg base N qual scope f cdv A outer s.heap.objs.size s1.heap.objs.size go out need RP kp).Ok := fun A RP kp hA => ⟨S.kind, nc, e0.bsz, frL, hA, lt1, god, hst⟩
    refine ⟨N, qual, scope, f, cdv, s1.heap.objs.size, s1.gens.size, go, oL, _, rfl, lt1, hgp _, fun h e => ⟨go, nm, qn, e, hgc, hgd, hgs⟩, Array.getElem?_push_size .., Heap.get?_push_of_some _ hoL', (fun v y => by rw [dL] at y; cases y), god, ⟨hgc, _, hgd⟩, os1, AllBare.push (by rw [gen1]; exact e0.bare) rfl, fun b o e => Heap.get?_push_of_some _ (kp1 b o e), okZ, ?_⟩
    intro A' RP kp sw Hw hrw hfr rp wk
    have O := okZ A' RP kp hrw.hd
    have hseg := hbody A' outer s.heap.objs.size s1.heap.objs.size go RP kp vs H out need O (hrw.deeper _) hsp
    obtain ⟨eL, nL⟩ := wk.gp (s.heap.objs.size, oL) (by simp)
    obtain ⟨ea, na⟩ := wk.gp (s1.heap.objs.size, go) (by simp)
    have hsz : s.heap.objs.size ≤ sw.heap.objs.size := Nat.le_of_lt (Heap.lt_size eL)
    have ncl := Gc.nocells O
    have I : Inv ((Gc.mk P w K mg base N qual scope f cdv A' outer s.heap.objs.size s1.heap.objs.size go out need RP kp).cx sw Hw) [] (start N vs) Hw sw := by
      refine ⟨Gc.cxOk O wk hsz, rfl, wk.env0.bare, Un.kept fun b u e => (trunc_of hsz e).2, ⟨m, ⟨oL, es, ep, eL, dL, rL⟩, fun i x v h1 h2 h3 => ?_⟩, fun x c e => ?_, nL, fun x c e => ?_, fun p hp => ?_, wk.env0.hok, I1.len⟩
      · obtain ⟨u, ru, l⟩ := hloc i x v h1 h2 h3
        refine ⟨u, ru, ?_⟩
        rcases l with l | ⟨_, c, e, _⟩
        · exact .inl l
        · have e' : (cellsFrom (s.heap.objs.size + 1) scope.names []).lookup x = some c := e
          rw [show (cellsFrom (s.heap.objs.size + 1) scope.names []).lookup x = none from ncl x] at e'
          cases e'
      · have e' : (cellsFrom (s.heap.objs.size + 1) scope.names []).lookup x = some c := e
        rw [show (cellsFrom (s.heap.objs.size + 1) scope.names []).lookup x = none from ncl x] at e'
        cases e'
      · have e' : (cellsFrom (s.heap.objs.size + 1) scope.names []).lookup x = some c := e
        rw [show (cellsFrom (s.heap.objs.size + 1) scope.names []).lookup x = none from ncl x] at e'
        cases e'
      · have hp' : p ∈ ((s1.heap.objs.size, go) :: pinsAt kp sw.heap) ++ [] := hp
        rw [List.append_nil] at hp'
        rcases List.mem_cons.mp hp' with ep' | z
        rotate_left
        · obtain ⟨q1, q2⟩ := of_pinsAt z
          obtain ⟨k1, k2, k3, o, k4, k5⟩ := wk.kp _ q1
          rw [q2] at k4
          cases k4
          exact ⟨q2, k3, k1.1, k2, k5⟩
        rw [ep']
        refine ⟨ea, na, Nat.ne_of_gt lt1, fun hb => ?_, god⟩
        exact absurd (Nat.lt_trans (frL _ hb) lt1) (Nat.lt_irrefl _)
    exact hseg sw Hw I rp wk.need ⟨hsz, fun b hb => by obtain ⟨n, _, _, o, e, _⟩ := wk.kp b hb; exact ⟨n, o, e⟩⟩
  exact main _ _ _ _ rfl rfl rfl fun h => Heap.get?_push_size _ rfl
theorem gfx_of {P : Program} {w : World} {K : PySem.W.Frag} {mg : Str → Option Value} {base : Heap} {k : Nat} {f : Addr} {name qual : Str} {params : Arguments} {body : List Stmt} {scope : Scope} {dV kV doc pm cdv ct oc : Value} {an od : Option Addr} {osl : Array (Option Value)} {N ps : List Str} {sp : SpX}
    (lk : K.lookup f = some ⟨oc, od, .func (PySem.W.fnOf name qual params body scope dV kV doc pm an cdv ct), osl⟩) (hcd : PySem.W.codeIn K cdv qual = true) (S : GScope N ps scope) (nc : ∀ y ∈ scope.names, y.2 ≠ .cell ∧ y.2 ≠ .free)
    (len : ∀ vs H out need, sp vs H out need → vs.length = ps.length) (hneed : ∀ vs H out need, sp vs H out need → need H ∧ ∀ H H', Same H H' → need H → need H')
    (hbody : ∀ (A : Around) (outer : List Env) (L a : Addr) (go : Obj) (RP : Nat → Shared → Hp → Prop) (kp : List Addr) (vs : List V) (H : Hp) (out : List (List V)) (need : Hp → Prop), (Gc.mk P w K mg base N qual scope f cdv A outer L a go out need RP kp).Ok → Room k (A.deeper (envOfC qual scope L f cdv)) → sp vs H out need →
      ∃ t, GJ (Gc.mk P w K mg base N qual scope f cdv A outer L a go out need RP kp) body t ∧ ∀ Hw, need Hw → t (fun i _ _ => i = out.length) 0 (start N vs) Hw) :
    GFx P w K mg base (k + 1) f (PySem.W.fnOf name qual params body scope dV kV doc pm an cdv ct) ps sp := by
  refine gfx_of0 lk hcd S nc len hneed fun A outer L a go RP kp vs H out need O hr hsp sw Hw I rp nd lk => ?_
  obtain ⟨t, ht, hq⟩ := hbody A outer L a go RP kp vs H out need O hr hsp
  refine seg_func ?_
  refine ht.run _ [] _ _ id id [] (fun i _ _ => i = out.length) ⟨over_func, rfl, rfl, rfl⟩ (fun p hp => absurd hp (by simp)) (fun i n s₀ s' σ H' hn si hi => ?_) 0 (out.length + 1) sw sw (start N vs) Hw (by simp) ⟨Hw, I, rp, Same.refl _, nd, lk⟩ (hq Hw nd)
  obtain ⟨Hw0, J, rp0, sm, nd, hL⟩ := si
  subst hi
  exact seg_end (.ok (.ret .none)) (.inl ⟨.inl rfl, Hw0, H', rp0, sm, J.os, J.bare, J.hok, Gc.un J sm hL.1⟩)
end MF
set_option Elab.async false
set_option linter.all false
set_option maxRecDepth 100000
set_option maxHeartbeats 1000000
namespace MF
open PySem PySem.Spec PyProof.Rows L2 GenW
theorem invGens {X : Cx} {pins : List (Addr × Obj)} {σ : L2.St} {H : Hp} {s : Shared} {G : Array GenState} (I : Inv X pins σ H s) (hb : AllBare G) : Inv X pins σ H (wg s G) := ⟨I.ok, I.os, hb, I.base, I.loc, I.cell, I.free, I.freeC, I.pin, I.hok, I.len⟩
theorem invBack {X : Cx} {pins : List (Addr × Obj)} {σ : L2.St} {H : Hp} {s : Shared} {G : Array GenState} (I : Inv X pins σ H (wg s G)) (hb : AllBare s.gens) : Inv X pins σ H s := ⟨I.ok, I.os, hb, I.base, I.loc, I.cell, I.free, I.freeC, I.pin, I.hok, I.len⟩
abbrev TGq := L2.St → Hp → (List (List V) → (Hp → Prop) → Hp → Prop) → Prop
structure PGx (X : Cx) (k : Nat) (e : Expr) (tq : TGq) : Prop where
  run : ∀ (pins : List (Addr × Obj)) (s : Shared) (σ : L2.St) (H : Hp) (cont : List (List V) → (Hp → Prop) → Hp → Prop), Inv X pins σ H s → tq σ H cont → wpAny (model X.prog X.w) X.A (eval e X.env)
    (fun u s' => ∃ H1 sc out need, Inv X pins σ H1 sc ∧ GMadeX X.prog X.w X.K X.mg X.base k X.stack sc H1 out need u s' ∧ need H1 ∧ cont out need H1) X.xe s
structure MGx (P : Program) (w : World) (K : PySem.W.Frag) (mg : Str → Option Value) (base : Heap) (k : Nat) (C : Addr) (m : Str) (sp : SpX) : Prop where
  ex : ∃ f fd ps, GFx P w K mg base k f fd ps sp ∧ Meth K C m f ∧ Binds K fd ps []
section
variable {X : Cx} {k : Nat} {C : Addr} {m : Str} {sp : SpX} {o e : Expr} {es : List Expr} {ta : TE} {t : TA} {pos apos : Pos}
def tMethX (C : Addr) (m : Str) (sp : SpX) (ta : TE) (t : TA) : TGq := fun σ H cont => ta σ H fun x H1 => ∃ a dx fs, x = .ref a ∧ H1 a = some (.ins C dx fs) ∧ fs.lookup m = none ∧ t σ H1 fun vs H2 => ∃ out need, sp (x :: vs) H2 out need ∧ cont out need H2
theorem pgx_meth {pl : Sem Bool} (G : MGx X.prog X.w X.K X.mg X.base k C m sp) (c : Cls X.K C) (hr : Room k X.A) (he : PE X o ta) (ha : PA X (e :: es) t)
    (hst : starEach (e :: es) X.env = (false, eval e X.env) :: starEach es X.env := by rfl) (hpl : (backTo pos (starEach es X.env)).any (·.1) = false := by rfl)
    (ht : eval (.Call (.Attribute o m apos) (e :: es) [] pos) X.env = (do
      let ov ← eval o X.env
      standAt apos.atName
      let (f, first) ← holding [ov] (getMethod ov m pl)
      callWith pos f first (backTo pos (starEach (e :: es) X.env)) (backToKw pos (keywordEach [] X.env))) := by rfl) : PGx X k (.Call (.Attribute o m apos) (e :: es) [] pos) (tMethX C m sp ta t) := by
  obtain ⟨f, fd, ps, F, hm, hb⟩ := G.ex
  refine ⟨fun pins s σ H cont I h => ?_⟩
  refine PySem.W.methodCall_KW (pl := pl) (thn (he.run pins s σ H _ I h) fun u s1 ⟨x, H1, I1, rx, a, dx, fs, ex, ea, l, q⟩ => ?_) ht
  subst ex
  obtain rfl : u = Value.ref a := rx
  refine getmeth_ok I1 ea c hm l ?_
  refine PySem.W.callWith_K (first := [.ref a]) (h₀ := X.base) I.ok.mod.kin hm.kp (thn (ha.run pos pins s1 σ H1 _ I1 q) fun us s2 ⟨vs, H2, I2, r, out, need, q2, q3⟩ => ⟨I2.kIn, ?_⟩) hst hpl
  have r2 : Vals (V.ref a :: vs) (Value.ref a :: us) := .cons rfl r
  have hl2 : (Value.ref a :: us).length = ps.length := by rw [← r2.length]; exact F.len _ _ _ _ q2
  refine wpAny_call (codeAny_mono (F.run X.A X.stack s2 H2 ⟨Value.ref a :: us, []⟩ (Value.ref a :: us) (V.ref a :: vs) out need hr I2.env0 (by
    have := hb s2 (Value.ref a :: us) I2.kIn (by simpa using hl2)
    simpa using this) r2 q2) fun r s' hq => ?_)
  cases r with
  | error e => exact False.elim hq
  | ok fl =>
    cases fl with
    | ret u => exact ⟨H2, s2, out, need, I2, hq, (F.need _ _ _ _ q2).1, q3⟩
    | next => exact False.elim hq
    | brk => exact False.elim hq
    | cont => exact False.elim hq
end
def tForG (tq : TGq) (g : TG) (tb : TS) : TS := fun D σ H => tq σ H fun out need H1 => ∃ W : Nat → L2.St → Hp → Prop, W 0 σ H1 ∧ (∀ i σ H, W i σ H → need H) ∧
  (∀ σ H, W out.length σ H → ∀ H', Same H H' → D.nx σ H') ∧
  ∀ i vs σ H, out[i]? = some vs → W i σ H → ∀ T H', H T = none → H' T = some (.tup vs) → Same H H' → g (.ref T) σ H' fun σ2 H2 => tb { D with nx := W (i + 1), ct := W (i + 1), bk := D.nx } σ2 H2
theorem ps_forG {X : Cx} {tg iter : Expr} {body : List Stmt} {tq : TGq} {g : TG} {tb : TS} {pos : Pos} {k : Nat} (hx : ∀ e s, ¬ X.xe e s) (hc : X.calm = true) (hr : Room (k + 1) X.A) (hi : PGx X k iter tq) (hg : PG X tg g) (hb : PSs X body tb)
    (hs : ∀ x, foldedSetIterable iter X.env x = pure x := by intro _; rfl) (hst : X.stack = X.env :: X.outer ∧ X.env.frame = some X.env.locals := by exact ⟨rfl, rfl⟩) : PS X (.For tg iter body [] pos) (tForG tq g tb) := by
  refine ⟨fun pins s σ H D I h => ?_⟩
  refine wpAny_For (thn (hi.run pins s σ H _ I h) fun v s1 h1 => ?_) hs
  obtain ⟨H1, sc, out, need, I1, ⟨N, qual, scope, f, cdv, a, gn, go, oL, c, rfl, hla, ea, isg, hgs, eL, dL, dgo, ⟨gc, vs0, gd⟩, os1, ba1, kp1, okZ, sg⟩, nd, W, w0, wn, fin, turn⟩ := h1
  refine wpAny_pyIter_gen (isg _ ea) ?_
  have hin := hr.in1
  have O := okZ X.A.in1 (fun i s H => ∃ σ, Inv X pins σ H s ∧ W i σ H) [] hin.hd
  have sg' := sg X.A.in1 (fun i s H => ∃ σ, Inv X pins σ H s ∧ W i σ H) []
  generalize hZ : Gc.mk X.prog X.w X.K X.mg X.base N qual scope f cdv X.A.in1 X.stack sc.heap.objs.size a go out need (fun i s H => ∃ σ, Inv X pins σ H s ∧ W i σ H) [] = Z at O sg'
  have zP : Z.P = X.prog := by rw [← hZ]
  have zw : Z.w = X.w := by rw [← hZ]
  have zK : Z.K = X.K := by rw [← hZ]
  have zmg : Z.mg = X.mg := by rw [← hZ]
  have zb : Z.base = X.base := by rw [← hZ]
  have zA : Z.A = X.A.in1 := by rw [← hZ]
  have zo : Z.outer = X.stack := by rw [← hZ]
  have zL : Z.L = sc.heap.objs.size := by rw [← hZ]
  have za : Z.a = a := by rw [← hZ]
  have zg : Z.go = go := by rw [← hZ]
  have zout : Z.out = out := by rw [← hZ]
  have zn : Z.need = need := by rw [← hZ]
  have zk : Z.kp = [] := by rw [← hZ]
  have zR : Z.RP = (fun i s H => ∃ σ, Inv X pins σ H s ∧ W i σ H) := by rw [← hZ]
  have locL : X.env.locals < sc.heap.objs.size := I1.lt
  have fsL : ∀ b ∈ X.fs, b < sc.heap.objs.size := fun b hb => by
    obtain ⟨_, o, ho, _⟩ := I1.funs.mem hb
    exact Heap.lt_size ho
  have fsK : ∀ b ∈ frs X.stack, b < sc.heap.objs.size := fun b hb => by
    obtain ⟨_, o, ho, _⟩ := I1.env0.funs.mem hb
    exact Heap.lt_size ho
  have inK : X.env.locals ∈ frs X.stack ∧ ∀ b ∈ X.fs, b ∈ frs X.stack := by
    rw [hst.1]
    unfold frs
    rw [List.filterMap_cons, hst.2]
    exact ⟨List.mem_cons_self, fun b hb => List.mem_cons_of_mem _ hb⟩
  have cellL : ∀ x c, X.env.cells.lookup x = some c → c < sc.heap.objs.size := fun x c e => by
    obtain ⟨v, q⟩ := I1.cell x c e
    exact q.lt
  have pinL : ∀ p ∈ X.pn ++ pins, p.1 < sc.heap.objs.size := fun p hp => Heap.lt_size (I1.pin p hp).1
  have s0L : X.s_0.heap.objs.size ≤ sc.heap.objs.size := I1.sz
  have chk : ∀ {sw : Shared} {Hw : Hp}, ∀ b ∈ Z.ch sw Hw, (b ∈ X.ex ∨ X.s_0.heap.objs.size ≤ b) ∧ b ≠ X.env.locals ∧ (∀ x c, X.env.cells.lookup x = some c → c ≠ b) ∧ ∀ p ∈ X.pn ++ pins, p.1 ≠ b := fun {sw Hw} b hb => by
    have h2 := (Gc.mem_ch.mp hb).2.1
    rw [zL] at h2
    exact ⟨.inr (Nat.le_trans s0L h2), Nat.ne_of_gt (Nat.lt_of_lt_of_le locL h2), fun x c e => Nat.ne_of_lt (Nat.lt_of_lt_of_le (cellL x c e) h2), fun p hp => Nat.ne_of_lt (Nat.lt_of_lt_of_le (pinL p hp) h2)⟩
  have Is1 : Inv X pins σ H1 s1 := I1.call' (ch := []) os1 (Un.kept kp1) (I1.hok.kept kp1) ba1 fun b z => by simp at z
  have fr : ∀ b, sc.heap.objs.size ≤ b → H1 b = none := fun b hb => I1.hok.fresh hb
  refine codeAny_forLoop_any (fun n s' => ∃ i σ' H' gs gp, Inv X pins σ' H' s' ∧ W i σ' H' ∧ n + i = out.length + 1 ∧ s'.gens[gn]? = some gs ∧ (∀ p ∈ gp, s'.heap.get? p.1 = some p.2 ∧ H' p.1 = none ∧ p.1 ∉ frs X.stack ∧ ∀ v, p.2.data ≠ .cell v) ∧ (a, go) ∈ gp ∧
    ∀ sw Hw, Z.RP i sw Hw → Wk Z gp sw Hw → gs.Goes (model X.prog X.w) X.A.in1 Z.R Z.Y n (.send .none) sw) ?_ (out.length + 1) ⟨0, σ, H1, .fresh c, [(sc.heap.objs.size, oL), (a, go)], Is1, w0, rfl, hgs, fun p hp => ?_, by simp, fun sw Hw rp wk => ?_⟩
  rotate_left
  · rcases List.mem_cons.mp hp with z | hp
    · rw [z]
      exact ⟨eL, fr _ (Nat.le_refl _), fun hb => absurd (fsK _ hb) (Nat.lt_irrefl _), dL⟩
    · rw [List.mem_singleton.mp hp]
      exact ⟨ea, fr _ (Nat.le_of_lt hla), fun hb => absurd (Nat.lt_trans (fsK _ hb) hla) (Nat.lt_irrefl _), dgo⟩
  · rw [← hZ] at rp wk
    exact ⟨rfl, by rw [← hZ]; exact sg X.A.in1 _ _ sw Hw hin I1.ok.frames rp wk⟩
  rintro n s3 ⟨i, σ3, H3, gs, gp, I3, w3, hn, hg3, hgp, hag, wake⟩
  have b3 : AllBare (s3.setGen gn .running).gens := allBare_setGen I3.bare rfl
  have I3r : Inv X pins σ3 H3 (s3.setGen gn .running) := invGens I3 b3
  have wk : Wk Z gp (s3.setGen gn .running) H3 := by
    refine ⟨?_, fun p hp => ⟨(hgp p hp).1, (hgp p hp).2.1⟩, by rw [zn]; exact wn _ _ _ w3, fun b hb => by rw [zk] at hb; cases hb⟩
    rw [zP, zw, zK, zmg, zb, zA, zo]
    have e0 := I3r.env0
    exact ⟨e0.frames, e0.mod, e0.bs, e0.bsz, e0.funs, e0.frf, e0.hok, e0.bare⟩
  have goes := wake _ H3 (by rw [zR]; exact ⟨σ3, I3r, w3⟩) wk
  have noE : ∀ {α : Type} {t : Sem α} {Q : α → Shared → Prop} {E : Value → Shared → Prop} {s : Shared}, wpAny (model X.prog X.w) X.A t Q X.xe s → wpAny (model X.prog X.w) X.A t Q E s := fun h => wpAny_mono h (fun _ _ q => q) fun e s z => (hx e s z).elim
  refine next_gen (F := Z.F) (Y := Z.Y) (n := n) (I3.ok.hd hc) I3.nolimit hr.depth (isg _ (hgp (a, go) hag).1) hg3 goes (fun v s₁ gs' hb' hsu hat hY => ?_) (fun s₁ hF h' hk => ?_)
  · obtain ⟨i', Hw, H', T, vs, gp', rp, hlen, eo, rfl, nT, eT, sm, os', ba', hok', un', hgp', hag', kap⟩ := hY
    rw [zR] at rp
    obtain ⟨σw, Iw, ww⟩ := rp
    rw [zout] at hlen eo
    rw [zo] at un'
    rw [zP, zw] at hok'
    have hlt : i' < out.length := (List.getElem?_eq_some_iff.mp eo).1
    have ei : i' = i := by omega
    subst ei
    have I4 : Inv X pins σw H' (s₁.setGen gn gs') := Iw.call' (s' := s₁.setGen gn gs') os' un' hok' (allBare_setGen ba' hb') chk
    have hgo4 : (s₁.setGen gn gs').heap.get? a = some go := by
      have := (hgp' (Z.a, Z.go) hag').1
      rw [za, zg] at this
      exact this
    refine go_of (s := s₁.setGen gn gs') hgo4 gc gd (by decide) ?_
    have I5 : Inv X (pins ++ gp') σw H' (s₁.setGen gn gs') := I4.pins_of fun p hp => (List.mem_append.mp hp).elim (fun z => I4.pin p (List.mem_append_right _ z)) fun z => by
      obtain ⟨q1, q2, q3, q4, _⟩ := hgp' p z
      rw [zo] at q3
      exact ⟨q1, q2, fun w => q3 (w ▸ inK.1), fun hb => q3 (inK.2 _ hb), q4⟩
    generalize hs4 : s₁.setGen gn gs' = s4 at I4 I5 hat
    have hT : trapsT s4.gens gn = some gs' := by
      unfold trapsT
      rw [hat]
      simp only [hsu, if_true]
    have R0 := relG_traps s4.gens
    have J4 : Inv X (pins ++ gp') σw H' (wg s4 (s4.gens.map trapOf)) := invGens I5 (bare_traps I5.bare)
    refine wpAny_mono (wpAny_swapped R0 (hg.run _ (wg s4 _) σw H' (.ref T) (.ref T) _ J4 rfl (turn i' vs σw Hw eo ww T H' nT eT sm))) (fun _ s6 ⟨G6, R6, σ6, H6, I6, q6⟩ => ?_) fun e s ⟨_, _, z⟩ => (hx _ _ z).elim
    refine wpAny_mono (wpAny_swapped R6 (hb.run _ (wg s6 G6) σ6 H6 _ I6 q6)) (fun fl s7 ⟨G7, R7, q7⟩ => ?_) fun e s ⟨_, _, z⟩ => (hx _ _ z).elim
    have g7 : s7.gens[gn]? = some gs' := (R7.tr gn gs' hT).1
    have back : ∀ {σ7 : L2.St} {H7 : Hp}, Inv X (pins ++ gp') σ7 H7 (wg s7 G7) → Inv X (pins ++ gp') σ7 H7 s7 := fun I7 => invBack I7 (R7.bare I7.bare)
    have again : ∀ {σ7 : L2.St} {H7 : Hp}, Inv X (pins ++ gp') σ7 H7 (wg s7 G7) → W (i' + 1) σ7 H7 → ∃ m, m < n ∧ ∃ i σ' H' gs gp, Inv X pins σ' H' s7 ∧ W i σ' H' ∧ m + i = out.length + 1 ∧ s7.gens[gn]? = some gs ∧ (∀ p ∈ gp, s7.heap.get? p.1 = some p.2 ∧ H' p.1 = none ∧ p.1 ∉ frs X.stack ∧ ∀ v, p.2.data ≠ .cell v) ∧ (a, go) ∈ gp ∧
        ∀ sw Hw, Z.RP i sw Hw → Wk Z gp sw Hw → gs.Goes (model X.prog X.w) X.A.in1 Z.R Z.Y m (.send .none) sw := fun {σ7 H7} I7' w7 => by
      have I7 := back I7'
      obtain ⟨m, rfl⟩ : ∃ m, n = m + 1 := ⟨n - 1, by omega⟩
      refine ⟨m, Nat.lt_succ_self _, i' + 1, σ7, H7, gs', gp', I7.unpinned, w7, by omega, g7, fun p hp => ?_, by rw [← za, ← zg]; exact hag', kap⟩
      obtain ⟨q1, q2, _⟩ := I7.pin p (List.mem_append_right _ (List.mem_append_right _ hp))
      obtain ⟨_, _, q3, q4, _⟩ := hgp' p hp
      rw [zo] at q3
      exact ⟨q1, q2, q3, q4⟩
    cases fl with
    | next => obtain ⟨σ7, H7, I7, n7⟩ := q7; exact again I7 n7
    | cont => obtain ⟨σ7, H7, I7, n7⟩ := q7; exact again I7 n7
    | brk => obtain ⟨σ7, H7, I7, q7⟩ := q7; exact ⟨σ7, H7, (back I7).unpinned, q7⟩
    | ret v => obtain ⟨x7, σ7, H7, I7, r7, q7⟩ := q7; exact ⟨x7, σ7, H7, (back I7).unpinned, r7, q7⟩
  · obtain ⟨Hw, H', rp, sm, os', ba', hok', un'⟩ := hF
    rw [zR] at rp
    obtain ⟨σw, Iw, ww⟩ := rp
    rw [zout] at ww
    rw [zo] at un'
    rw [zP, zw] at hok'
    have I4 : Inv X pins σw H' (s₁.setGen gn .finished) := Iw.call' (s' := s₁.setGen gn .finished) os' un' hok' (allBare_setGen ba' rfl) chk
    have I5 : Inv X pins σw H' { s₁.setGen gn .finished with heap := h' } := I4.kept (t' := s₁.toks) hk
    exact wpAny_execs_nil ⟨σw, H', I5, fin σw Hw ww H' sm⟩
end MF
set_option Elab.async false
set_option linter.all false
set_option maxRecDepth 100000
set_option maxHeartbeats 1000000
namespace MF
open PySem PySem.Spec PyProof.Rows L2 GenW
def tLcG (tq : TGq) (g : TG) (tt : TT) (te : TE) (vs : List Nat) : TE := fun σ H Q => tq σ H fun out need H1 => ∀ D, H1 D = none → ∃ W : Nat → Hp → Prop, W 0 (upd H1 D (.lst [])) ∧ (∀ i H, W i H → need H ∧ ∃ acc, H D = some (.lst acc)) ∧
  (∀ H, W out.length H → ∀ H', Same H H' → Q (.ref D) H') ∧
  ∀ i xs H, out[i]? = some xs → W i H → ∀ T H', H T = none → H' T = some (.tup xs) → Same H H' → g (.ref T) (wipe σ vs) H' fun σ2 H2 => wipe σ2 vs = wipe σ vs ∧ tt σ2 H2 fun b H3 =>
    if b = true then te σ2 H3 fun y H4 => ∃ acc, H4 D = some (.lst acc) ∧ acc.length < sizeLine ∧ W (i + 1) (upd H4 D (.lst (acc ++ [y]))) else W (i + 1) H3
theorem lcG_core {X : Cx} {pins : List (Addr × Obj)} {s : Shared} {σ : L2.St} {H : Hp} {Q : VK} {elt tg iter : Expr} {ifs : List Expr} {scope : Scope} {own : List (Str × Nat)} {pos pos' : Pos} {tq : TGq} {g : TG} {tt : TT} {te : TE} {use : Option (Value → Sem Unit)} {Qf : Value → Shared → Prop} {k : Nat}
    (hc : X.calm = true) (hr : Room (k + 1) X.A) (hN : X.N.Nodup) (I : Inv X pins σ H s) (hi : PGx X k iter tq) (ok : BlkOk X.N X.env.scope scope own) (hnc : ∀ y ∈ scope.names, y.2 ≠ .cell)
    (hg : ∀ (s : Shared) (H : Hp) (C : Addr) (cl : List (Str × Addr)) (fp : List Addr), PG (X.blk s H scope (compEnvC scope cl C X.env) fp) tg g) (ht : ∀ (s : Shared) (H : Hp) (C : Addr) (cl : List (Str × Addr)) (fp : List Addr), PTs (X.blk s H scope (compEnvC scope cl C X.env) fp) ifs tt)
    (he : ∀ (s : Shared) (H : Hp) (C : Addr) (cl : List (Str × Addr)) (fp : List Addr), PE (X.blk s H scope (compEnvC scope cl C X.env) fp) elt te) (hs : ∀ x, foldedSetIterable iter X.env x = pure x)
    (h : tLcG tq g tt te (own.map (·.2)) σ H Q)
    (hRR : ∀ D C s' m H', Inv X pins σ H' s' → Q (.ref D) H' → s'.heap.Ns C m → FpOk X pins H' C → compPost (model X.prog X.w) X.A X.xe use Qf (.ref D) C (.ok .next) s') :
    wpAny (model X.prog X.w) X.A (comprehension (.ListComp elt [⟨tg, iter, ifs, 0⟩] scope pos) scope X.env pos' (newList []) false (eval iter X.env) use) Qf X.xe s := by
  have hfree : ∀ y ∈ scope.names, y.2 = .free → ∃ c, X.env.cells.lookup y.1 = some c := fun y hy e => by
    rcases ok.free y hy e with k | k
    · exact I.ok.has _ (.inl k)
    · exact I.ok.has _ (.inr k)
  refine wpAny_comprehension_free (use := use) rfl hs (closure_ok hfree) ok.kind (fun y hy e => by rw [ok.uniq y hy, e])
    (thn (hi.run pins s σ H _ I h) fun xv s1 h1 => ?_)
  obtain ⟨H1, sc, out, need, I1, ⟨N, qual, scope', f, cdv, a, gn, go, oL, c, rfl, hla, ea, isg, hgs, eL, dL, dgo, ⟨gc, vs0, gd⟩, os1, ba1, kp1, okZ, sg⟩, nd, q⟩ := h1
  refine wpAny_pyIter_gen (isg _ ea) ?_
  have hin := hr.in1
  have Is1 : Inv X pins σ H1 s1 := I1.call' (ch := []) os1 (Un.kept kp1) (I1.hok.kept kp1) ba1 fun b z => by simp at z
  have fr : ∀ b, sc.heap.objs.size ≤ b → H1 b = none := fun b hb => I1.hok.fresh hb
  refine wpAny_newObj_type (newEnv_comp ?_) (by show 0 ≤ sizeLine; decide)
  generalize hD : s1.heap.objs.size = D
  have hDn : H1 D = none := Is1.hok.fresh (Nat.le_of_eq hD)
  obtain ⟨W, w0, wn, fin, turn⟩ := q D hDn
  generalize hs3 : ({ s1 with heap := s1.heap.push { cls := .type "list", data := .seq ([] : List Value).toArray } } : Shared) = s3
  have I3 : Inv X pins σ (upd H1 D (.lst [])) s3 := by
    rw [← hs3]
    refine Is1.laid (t' := s1.toks) (fun b o e => Heap.get?_push_of_some _ e) (Nat.le_of_eq hD) ⟨Nat.zero_le _, [], 0, .nil, ?_⟩
    rw [← hD]
    exact Heap.get?_push_size _ rfl
  have h3 : s3.heap = s1.heap.push { cls := .type "list", data := .seq ([] : List Value).toArray } := by rw [← hs3]
  have g3 : s3.gens = s1.gens := by rw [← hs3]
  have locL : X.env.locals < sc.heap.objs.size := I1.lt
  have fsL : ∀ b ∈ X.fs, b < sc.heap.objs.size := fun b hb => by
    obtain ⟨_, o, ho, _⟩ := I1.funs.mem hb
    exact Heap.lt_size ho
  have fsK : ∀ b ∈ frs X.stack, b < sc.heap.objs.size := fun b hb => by
    obtain ⟨_, o, ho, _⟩ := I1.env0.funs.mem hb
    exact Heap.lt_size ho
  have cellL : ∀ x c, X.env.cells.lookup x = some c → c < sc.heap.objs.size := fun x c e => by
    obtain ⟨v, q⟩ := I1.cell x c e
    exact q.lt
  have pinL : ∀ p ∈ X.pn ++ pins, p.1 < sc.heap.objs.size := fun p hp => Heap.lt_size (I1.pin p hp).1
  have s0L : X.s_0.heap.objs.size ≤ sc.heap.objs.size := I1.sz
  generalize hfp : ((List.range s3.heap.objs.size).filter fun b => decide (sc.heap.objs.size ≤ b) && !decide (b = D)) = fp
  have mfp : ∀ {b}, b ∈ fp ↔ b < s3.heap.objs.size ∧ sc.heap.objs.size ≤ b ∧ b ≠ D := fun {b} => by
    rw [← hfp, List.mem_filter, List.mem_range, Bool.and_eq_true, decide_eq_true_eq, Bool.not_eq_true', decide_eq_false_iff_not]
  have f3 : ∀ b ∈ fp, FpOk X pins (upd H1 D (.lst [])) b ∧ b < s3.heap.objs.size := fun b hb => by
    obtain ⟨m1, m2, m3⟩ := mfp.mp hb
    refine ⟨⟨by rw [upd_ne m3]; exact fr b m2, Nat.ne_of_gt (Nat.lt_of_lt_of_le locL m2), fun z => absurd (Nat.lt_of_lt_of_le (fsL b z) m2) (Nat.lt_irrefl _), .inr (Nat.le_trans s0L m2), fun x c e => Nat.ne_of_lt (Nat.lt_of_lt_of_le (cellL x c e) m2), fun p hp => Nat.ne_of_lt (Nat.lt_of_lt_of_le (pinL p hp) m2)⟩, m1⟩
  have I4 := block_start I3 ok hN f3
  have pg := hg s3 (upd H1 D (.lst [])) s3.heap.objs.size (cellsFrom (s3.heap.objs.size + 1) scope.names (cloFrom X.env.cells scope.names [])) fp
  have pt := ht s3 (upd H1 D (.lst [])) s3.heap.objs.size (cellsFrom (s3.heap.objs.size + 1) scope.names (cloFrom X.env.cells scope.names [])) fp
  have pe := he s3 (upd H1 D (.lst [])) s3.heap.objs.size (cellsFrom (s3.heap.objs.size + 1) scope.names (cloFrom X.env.cells scope.names [])) fp
  show codeAny _ _ (.compStart (.ListComp elt [⟨tg, iter, ifs, 0⟩] scope pos) 0 (.ref a) (.ref D) (compEnvC scope (cellsFrom (s3.heap.objs.size + 1) scope.names (cloFrom X.env.cells scope.names [])) s3.heap.objs.size X.env)) (compPost (model X.prog X.w) X.A X.xe use Qf (.ref D) s3.heap.objs.size) { s3 with heap := pushCells (s3.heap.push { cls := .type "dict", data := .dict #[] }) scope.names }
  have clB : ∀ x c, (cellsFrom (s3.heap.objs.size + 1) scope.names (cloFrom X.env.cells scope.names [])).lookup x = some c → c < sc.heap.objs.size := fun x c e => by
    rw [cells_none fun y hy => hnc y hy] at e
    rcases cloFrom_mem (PySem.mem_of_lookup e) with z | ⟨z1, z2⟩
    · cases z
    · obtain ⟨c', hc'⟩ := hfree _ z1 rfl
      rw [z2, hc']
      exact cellL _ _ hc'
  generalize hce : compEnvC scope (cellsFrom (s3.heap.objs.size + 1) scope.names (cloFrom X.env.cells scope.names [])) s3.heap.objs.size X.env = ce at I4 pg pt pe ⊢
  have cL : ce.locals = s3.heap.objs.size := by subst hce; rfl
  have cC : ∀ x c, ce.cells.lookup x = some c → c < sc.heap.objs.size := by subst hce; exact clB
  generalize hH3 : upd H1 D (.lst []) = H3 at I3 I4 pg pt pe w0 f3
  have kp4 : ∀ b o, s1.heap.get? b = some o → (pushCells (s3.heap.push { cls := .type "dict", data := .dict #[] }) scope.names).get? b = some o := fun b o e => pushCells_keeps _ _ _ _ (Heap.get?_push_of_some _ (by rw [h3]; exact Heap.get?_push_of_some _ e))
  generalize hs4 : ({ s3 with heap := pushCells (s3.heap.push { cls := .type "dict", data := .dict #[] }) scope.names } : Shared) = s4 at I4 ⊢
  have h4 : s4.heap = pushCells (s3.heap.push { cls := .type "dict", data := .dict #[] }) scope.names := by rw [← hs4]
  have g4 : s4.gens = s1.gens := by rw [← hs4]; exact g3
  generalize hB : X.blk s3 H3 scope ce fp = B at I4 pg pt pe
  generalize hw : wipe σ (own.map (·.2)) = σw at I4
  have O := okZ X.A.in1 (fun i s H => Inv B [] σw H s ∧ W i H) [s3.heap.objs.size] hin.hd
  have sg' := sg X.A.in1 (fun i s H => Inv B [] σw H s ∧ W i H) [s3.heap.objs.size]
  generalize hZ : Gc.mk X.prog X.w X.K X.mg X.base N qual scope' f cdv X.A.in1 X.stack sc.heap.objs.size a go out need (fun i s H => Inv B [] σw H s ∧ W i H) [s3.heap.objs.size] = Z at O sg'
  have zP : Z.P = X.prog := by rw [← hZ]
  have zw : Z.w = X.w := by rw [← hZ]
  have zK : Z.K = X.K := by rw [← hZ]
  have zmg : Z.mg = X.mg := by rw [← hZ]
  have zb : Z.base = X.base := by rw [← hZ]
  have zA : Z.A = X.A.in1 := by rw [← hZ]
  have zo : Z.outer = X.stack := by rw [← hZ]
  have zL : Z.L = sc.heap.objs.size := by rw [← hZ]
  have za : Z.a = a := by rw [← hZ]
  have zg : Z.go = go := by rw [← hZ]
  have zout : Z.out = out := by rw [← hZ]
  have zn : Z.need = need := by rw [← hZ]
  have zk : Z.kp = [s3.heap.objs.size] := by rw [← hZ]
  have zR : Z.RP = (fun i s H => Inv B [] σw H s ∧ W i H) := by rw [← hZ]
  have bP : B.prog = X.prog := by rw [← hB]
  have bw : B.w = X.w := by rw [← hB]
  have bA : B.A = X.A := by rw [← hB]
  have bs : B.stack = X.stack := by rw [← hB]
  have bl : B.env.locals = s3.heap.objs.size := by rw [← hB]; exact cL
  have bx : B.ex = fp := by rw [← hB]
  have bpn : B.pn = [] := by rw [← hB]
  have b0 : B.s_0 = s3 := by rw [← hB]
  have bce : ∀ x c, B.env.cells.lookup x = some c → c < sc.heap.objs.size := by rw [← hB]; exact cC
  have L3 : sc.heap.objs.size ≤ s3.heap.objs.size := by
    rw [h3, Heap.size_push]
    exact Nat.le_succ_of_le (Nat.le_of_lt (Heap.lt_size eL))
  have chk : ∀ {sw : Shared} {Hw : Hp} {pl : List (Addr × Obj)}, (∃ acc, Hw D = some (.lst acc)) → pl = [] → ∀ b ∈ Z.ch sw Hw, (b ∈ B.ex ∨ B.s_0.heap.objs.size ≤ b) ∧ b ≠ B.env.locals ∧ (∀ x c, B.env.cells.lookup x = some c → c ≠ b) ∧ ∀ p ∈ B.pn ++ pl, p.1 ≠ b := fun {sw Hw pl} hd epl b hb => by
    obtain ⟨_, h2, h3', h4'⟩ := Gc.mem_ch.mp hb
    rw [zL] at h2
    rw [zk] at h4'
    subst epl
    refine ⟨?_, by rw [bl]; exact fun z => h4' (by rw [z]; simp), fun x c e => Nat.ne_of_lt (Nat.lt_of_lt_of_le (bce x c e) h2), fun p hp => by rw [bpn] at hp; simp at hp⟩
    rw [bx, b0]
    by_cases z : b < s3.heap.objs.size
    · refine .inl (mfp.mpr ⟨z, h2, fun w => ?_⟩)
      obtain ⟨acc, e⟩ := hd
      rw [← w, h3'] at e
      cases e
    · exact .inr (Nat.le_of_not_lt z)
  subst hB
  subst hw
  have D1 : ∀ b o, s1.heap.get? b = some o → b < D ∧ b < s3.heap.objs.size := fun b o e => by
    have := Heap.lt_size e
    refine ⟨by rw [← hD]; exact this, ?_⟩
    rw [h3, Heap.size_push]
    exact Nat.lt_succ_of_lt this
  have loop : codeAny (model X.prog X.w) X.A (.compLoop (.ListComp elt [⟨tg, iter, ifs, 0⟩] scope pos) 0 (.ref a) (.ref D) ce) (compPost (model X.prog X.w) X.A X.xe use Qf (.ref D) s3.heap.objs.size) s4 := by
    refine compLoop_any (fun n s' => ∃ i H' gs gp, Inv (X.blk s3 H3 scope ce fp) [] (wipe σ (own.map (·.2))) H' s' ∧ W i H' ∧ n + i = out.length + 1 ∧ s'.gens[gn]? = some gs ∧ (∀ p ∈ gp, s'.heap.get? p.1 = some p.2 ∧ H' p.1 = none ∧ p.1 ∉ frs X.stack ∧ (∀ v, p.2.data ≠ .cell v) ∧ p.1 ≠ s3.heap.objs.size) ∧ (a, go) ∈ gp ∧
      ∀ sw Hw, Z.RP i sw Hw → Wk Z gp sw Hw → gs.Goes (model X.prog X.w) X.A.in1 Z.R Z.Y n (.send .none) sw) ?_ (out.length + 1) ⟨0, H3, .fresh c, [(sc.heap.objs.size, oL), (a, go)], I4, w0, rfl, by rw [g4]; exact hgs, fun p hp => ?_, by simp, fun sw Hw rp wk => ?_⟩
    rotate_left
    · have own1 : ∀ b o, s1.heap.get? b = some o → sc.heap.objs.size ≤ b → (∀ v, o.data ≠ .cell v) → s4.heap.get? b = some o ∧ H3 b = none ∧ b ∉ frs X.stack ∧ (∀ v, o.data ≠ .cell v) ∧ b ≠ s3.heap.objs.size := fun b o e hl hd => by
        obtain ⟨d1, d2⟩ := D1 b o e
        exact ⟨by rw [h4]; exact kp4 b o e, by rw [← hH3, upd_ne (Nat.ne_of_lt d1)]; exact fr b hl, (fun hb => absurd (Nat.lt_of_lt_of_le (fsK _ hb) hl) (Nat.lt_irrefl _)), hd, Nat.ne_of_lt d2⟩
      rcases List.mem_cons.mp hp with z | hp
      · rw [z]
        exact own1 _ _ eL (Nat.le_refl _) dL
      · rw [List.mem_singleton.mp hp]
        exact own1 _ _ ea (Nat.le_of_lt hla) dgo
    · rw [← hZ] at rp wk
      exact ⟨rfl, by rw [← hZ]; exact sg X.A.in1 _ _ sw Hw hin I1.ok.frames rp wk⟩
    rintro n s5 ⟨i, H5, gs, gp, I5, w5, hn, hg5, hgp, hag, wake⟩
    have b5 : AllBare (s5.setGen gn .running).gens := allBare_setGen I5.bare rfl
    have I5r : Inv (X.blk s3 H3 scope ce fp) [] (wipe σ (own.map (·.2))) H5 (s5.setGen gn .running) := invGens I5 b5
    have wk : Wk Z gp (s5.setGen gn .running) H5 := by
      refine ⟨?_, fun p hp => ⟨(hgp p hp).1, (hgp p hp).2.1⟩, by rw [zn]; exact (wn _ _ w5).1, fun b hb => ?_⟩
      · rw [zP, zw, zK, zmg, zb, zA, zo]
        have e0 := I5r.env0
        exact ⟨e0.frames, e0.mod, e0.bs, e0.bsz, e0.funs, e0.frf, e0.hok, e0.bare⟩
      · rw [zk] at hb
        have eb := List.mem_singleton.mp hb
        subst eb
        obtain ⟨m, ⟨o, es, ep, ho, dd, rr⟩, _⟩ := id I5r.loc
        have ho' : (s5.setGen gn .running).heap.get? ce.locals = some o := ho
        rw [cL] at ho'
        have fe : H5 ce.locals = none := I5.free
        rw [cL] at fe
        refine ⟨⟨?_, ?_⟩, ?_, fe, o, ho', fun v y => by rw [dd] at y; cases y⟩
        · rw [zL]
          exact Nat.ne_of_gt (D1 _ _ eL).2
        · rw [za]
          exact Nat.ne_of_gt (D1 _ _ ea).2
        · rw [zo]
          exact fun z => absurd (Nat.lt_of_lt_of_le (fsK _ z) L3) (Nat.lt_irrefl _)
    have goes := wake _ H5 (by rw [zR]; exact ⟨I5r, w5⟩) wk
    refine next_gen (F := Z.F) (Y := Z.Y) (n := n) (I3.ok.hd hc) I5.nolimit hr.depth (isg _ (hgp (a, go) hag).1) hg5 goes (fun v s₁ gs' hb' hsu hat hY => ?_) (fun s₁ hF h' hk => ?_)
    · obtain ⟨i', Hw, H', T, vs, gp', rp, hlen, eo, rfl, nT, eT, sm, os', ba', hok', un', hgp', hag', kap⟩ := hY
      rw [zR] at rp
      obtain ⟨Iw, ww⟩ := rp
      rw [zout] at hlen eo
      rw [zo] at un'
      rw [zP, zw] at hok'
      have hlt : i' < out.length := (List.getElem?_eq_some_iff.mp eo).1
      have ei : i' = i := by omega
      subst ei
      have hdw := (wn _ _ ww).2
      have I6 : Inv (X.blk s3 H3 scope ce fp) [] (wipe σ (own.map (·.2))) H' (s₁.setGen gn gs') := Iw.call' (s' := s₁.setGen gn gs') os' un' hok' (allBare_setGen ba' hb') (chk hdw rfl)
      have hgo6 : (s₁.setGen gn gs').heap.get? a = some go := by
        have := (hgp' (Z.a, Z.go) hag').1
        rw [za, zg] at this
        exact this
      refine go_of (s := s₁.setGen gn gs') hgo6 gc gd (by decide) ?_
      have I7 : Inv (X.blk s3 H3 scope ce fp) ([] ++ gp') (wipe σ (own.map (·.2))) H' (s₁.setGen gn gs') := I6.pins_of fun p hp => by
        rw [List.nil_append] at hp
        obtain ⟨q1, q2, q3, q4, q5⟩ := hgp' p hp
        rw [zo] at q3
        rw [zk] at q5
        refine ⟨q1, q2, ?_, q3, q4⟩
        show p.1 ≠ ce.locals
        rw [cL]
        exact fun z => q5 (by rw [z]; simp)
      generalize hs6 : s₁.setGen gn gs' = s6 at I6 I7 hat
      have hT : trapsT s6.gens gn = some gs' := by
        unfold trapsT
        rw [hat]
        simp only [hsu, if_true]
      have R0 := relG_traps s6.gens
      have J6 : Inv (X.blk s3 H3 scope ce fp) ([] ++ gp') (wipe σ (own.map (·.2))) H' (wg s6 (s6.gens.map trapOf)) := invGens I7 (bare_traps I7.bare)
      have fin' : ∀ {σ8 : L2.St} {s' : Shared} {G' : Array GenState} {H9 : Hp}, s'.gens[gn]? = some gs' → AllBare s'.gens → wipe σ8 (own.map (·.2)) = wipe σ (own.map (·.2)) → Inv (X.blk s3 H3 scope ce fp) ([] ++ gp') σ8 H9 (wg s' G') → W (i' + 1) H9 → ∃ m, m < n ∧ ∃ i H' gs gp, Inv (X.blk s3 H3 scope ce fp) [] (wipe σ (own.map (·.2))) H' s' ∧ W i H' ∧ m + i = out.length + 1 ∧ s'.gens[gn]? = some gs ∧ (∀ p ∈ gp, s'.heap.get? p.1 = some p.2 ∧ H' p.1 = none ∧ p.1 ∉ frs X.stack ∧ (∀ v, p.2.data ≠ .cell v) ∧ p.1 ≠ s3.heap.objs.size) ∧ (a, go) ∈ gp ∧
          ∀ sw Hw, Z.RP i sw Hw → Wk Z gp sw Hw → gs.Goes (model X.prog X.w) X.A.in1 Z.R Z.Y m (.send .none) sw := fun {σ8 s' G' H9} hgs' hba hw8 I9' w9 => by
        have I9 := invBack I9' hba
        obtain ⟨m, rfl⟩ : ∃ m, n = m + 1 := ⟨n - 1, by omega⟩
        have hl : (wipe σ (own.map (·.2))).length = σ8.length := by rw [← hw8, wipe_length]
        refine ⟨m, Nat.lt_succ_self _, i' + 1, H9, gs', gp', (I9.unpinned (pins := [])).weak hl (fun j v e => ?_), w9, by omega, hgs', fun p hp => ?_, by rw [← za, ← zg]; exact hag', kap⟩
        · rw [← hw8] at e
          exact (wipe_some e).1
        · obtain ⟨q1, q2, _⟩ := I9.pin p (List.mem_append_right _ (List.mem_append_right _ hp))
          obtain ⟨_, _, q3, q4, q5⟩ := hgp' p hp
          rw [zo] at q3
          rw [zk] at q5
          exact ⟨q1, q2, q3, q4, fun z => q5 (by rw [z]; simp)⟩
      refine wpAny_mono (wpAny_swapped R0 (pg.run _ (wg s6 _) _ H' (.ref T) (.ref T) _ J6 rfl (turn i' vs Hw eo ww T H' nT eT sm))) (fun _ s8 ⟨G8, R8, σ8, H8, I8, hw8, q8⟩ => ?_) fun e s ⟨_, _, z⟩ => z.elim
      refine wpAny_mono (wpAny_swapped R8 (pt.run _ (wg s8 G8) σ8 H8 _ I8 q8)) (fun b s9 ⟨G9, R9, H9, I9, q9⟩ => ?_) fun e s ⟨_, _, z⟩ => z.elim
      cases b with
      | false =>
        simp only [Bool.false_eq_true, if_false] at q9 ⊢
        exact fin' (R9.tr gn gs' hT).1 (R9.bare I9.bare) hw8 I9 q9
      | true =>
        simp only [if_true] at q9 ⊢
        refine wpAny_mono (wpAny_swapped R9 (pe.run _ (wg s9 G9) σ8 H9 _ I9 q9)) (fun z s10 ⟨G10, R10, yv, H10, I10, r10, acc, hD10, hz10, nx⟩ => ?_) fun e s ⟨_, _, z⟩ => z.elim
        refine wpAny_mono (wpAny_swapped (E := fun _ _ => False) R10 (app_ok (X := X.blk s3 H3 scope ce fp) I10 hD10 hz10 r10 (Q := fun _ s' => Inv (X.blk s3 H3 scope ce fp) ([] ++ gp') σ8 (upd H10 D (.lst (acc ++ [yv]))) s') fun s11 I11 => I11)) (fun _ s11 ⟨G11, R11, I11⟩ => ?_) fun e s ⟨_, _, z⟩ => z.elim
        exact fin' (R11.tr gn gs' hT).1 (R11.bare I11.bare) hw8 I11 nx
    · obtain ⟨Hw, H', rp, sm, os', ba', hok', un'⟩ := hF
      rw [zR] at rp
      obtain ⟨Iw, ww⟩ := rp
      rw [zout] at ww
      rw [zo] at un'
      rw [zP, zw] at hok'
      have I6 : Inv (X.blk s3 H3 scope ce fp) [] (wipe σ (own.map (·.2))) H' (s₁.setGen gn .finished) := Iw.call' (s' := s₁.setGen gn .finished) os' un' hok' (allBare_setGen ba' rfl) (chk (wn _ _ ww).2 rfl)
      have I7 : Inv (X.blk s3 H3 scope ce fp) [] (wipe σ (own.map (·.2))) H' { s₁.setGen gn .finished with heap := h' } := I6.kept (t' := s₁.toks) hk
      have I8 : Inv X pins σ H' { s₁.setGen gn .finished with heap := h' } := I3.call' (ch := fp) I7.os I7.base I7.hok I7.bare fun b hb => ⟨(f3 b hb).1.2.2.2.1, (f3 b hb).1.2.1, (f3 b hb).1.2.2.2.2.1, (f3 b hb).1.2.2.2.2.2⟩
      have nC : H' s3.heap.objs.size = none := by
        have z : H' ce.locals = none := I7.free
        rw [cL] at z
        exact z
      obtain ⟨m, hn', _⟩ := I7.loc
      have hn' : (({ s₁.setGen gn .finished with heap := h' } : Shared)).heap.Ns ce.locals m := hn'
      rw [cL] at hn'
      exact hRR D s3.heap.objs.size _ m H' I8 (fin Hw ww H' sm) hn' (I3.fpOk (Nat.le_refl _) nC)
  exact codeAny_compStart_list loop (wpAny_pyIter_gen (isg _ (by rw [h4]; exact kp4 _ _ ea)) loop)
theorem pe_lcG {X : Cx} {elt tg iter : Expr} {ifs : List Expr} {scope : Scope} {own : List (Str × Nat)} {pos : Pos} {tq : TGq} {g : TG} {tt : TT} {te : TE} {k : Nat} (hc : X.calm = true) (hr : Room (k + 1) X.A) (hN : X.N.Nodup) (hi : PGx X k iter tq) (ok : BlkOk X.N X.env.scope scope own) (hnc : ∀ y ∈ scope.names, y.2 ≠ .cell)
    (hg : ∀ (s : Shared) (H : Hp) (C : Addr) (cl : List (Str × Addr)) (fp : List Addr), PG (X.blk s H scope (compEnvC scope cl C X.env) fp) tg g) (ht : ∀ (s : Shared) (H : Hp) (C : Addr) (cl : List (Str × Addr)) (fp : List Addr), PTs (X.blk s H scope (compEnvC scope cl C X.env) fp) ifs tt)
    (he : ∀ (s : Shared) (H : Hp) (C : Addr) (cl : List (Str × Addr)) (fp : List Addr), PE (X.blk s H scope (compEnvC scope cl C X.env) fp) elt te) (hs : ∀ x, foldedSetIterable iter X.env x = pure x := by intro _; rfl) :
    PE X (.ListComp elt [⟨tg, iter, ifs, 0⟩] scope pos) (tLcG tq g tt te (own.map (·.2))) := by
  refine ⟨fun pins s σ H Q I h => ?_⟩
  rw [eval_ListComp]
  refine lcG_core hc hr hN I hi ok hnc hg ht he hs h fun D C s' m H' I' q hn f => ⟨m, hn, fun h'' sb => ?_⟩
  obtain ⟨f0, f1, f2, f3, f4, f5⟩ := f
  exact ⟨.ref D, H', I'.turned (t' := s'.toks) (fun b o hb e => (sb.2 b hb).trans e) f0 f1 f3 f4 f5, rfl, q⟩
theorem ps_setLcG {X : Cx} {i : Nat} {y : Str} {py : Pos} {elt tg iter : Expr} {ifs : List Expr} {scope : Scope} {own : List (Str × Nat)} {pos spos : Pos} {tq : TGq} {g : TG} {tt : TT} {te : TE} {k : Nat} (hc : X.calm = true) (hr : Room (k + 1) X.A) (hN : X.N.Nodup) (hy : X.N[i]? = some y) (hyl : X.env.scope.names.lookup y = some .local)
    (hsw : swapsWith (.ListComp elt [⟨tg, iter, ifs, 0⟩] scope pos) (some (.Name y py)) spos.line X.env = pure true) (hi : PGx X k iter tq) (ok : BlkOk X.N X.env.scope scope own) (hnc : ∀ y ∈ scope.names, y.2 ≠ .cell)
    (hg : ∀ (s : Shared) (H : Hp) (C : Addr) (cl : List (Str × Addr)) (fp : List Addr), PG (X.blk s H scope (compEnvC scope cl C X.env) fp) tg g) (ht : ∀ (s : Shared) (H : Hp) (C : Addr) (cl : List (Str × Addr)) (fp : List Addr), PTs (X.blk s H scope (compEnvC scope cl C X.env) fp) ifs tt)
    (he : ∀ (s : Shared) (H : Hp) (C : Addr) (cl : List (Str × Addr)) (fp : List Addr), PE (X.blk s H scope (compEnvC scope cl C X.env) fp) elt te) (hs : ∀ x, foldedSetIterable iter X.env x = pure x := by intro _; rfl) :
    PS X (.Assign [.Name y py] (.ListComp elt [⟨tg, iter, ifs, 0⟩] scope pos) spos) (tAsg (tLcG tq g tt te (own.map (·.2))) (gName i)) := by
  refine ⟨fun pins s σ H D I h => ?_⟩
  rw [exec_Assign_Name_used _ _ _ _ hsw]
  refine wpAny_bind (wpAny_standAt (wpAny_bind ?_))
  show wpAny _ X.A (do let _ ← comprehension (.ListComp elt [⟨tg, iter, ifs, 0⟩] scope pos) scope X.env (firstIterPos [⟨tg, iter, ifs, 0⟩] pos) (newList []) false (eval iter X.env) (some (assign (.Name y py) X.env))) _ _ s
  have h : tLcG tq g tt te (own.map (·.2)) σ H (fun x H1 => gName i x σ H1 D.nx) := h
  refine wpAny_bind (thn (lcG_core (Qf := fun _ s' => SP X pins D .next s') hc hr hN I hi ok hnc hg ht he hs h fun L C s' m H' I' q hn f => ?_) fun _ s' hq => wpAny_pure (wpAny_pure hq))
  show wpAny _ _ (assign (.Name y py) X.env (.ref L)) _ _ _
  refine wpAny_assign_Name (store_ok2 (v := V.ref L) I' hN hy (.inl hyl) rfl (fun s2 I2 ⟨a, sb, ha⟩ => ?_) (.inr hyl))
  obtain ⟨f0, f1, f2, f3, f4, f5⟩ := f
  have haC : C ≠ a := by
    rcases ha with z | z
    · rw [z]; exact f1
    · exact fun e => f4 y a z e.symm
  refine ⟨m, hn.sameBut sb haC, fun h3 sb3 => ?_⟩
  exact ⟨_, H', I2.turned (t' := s2.toks) (fun b o hb e => (sb3.2 b hb).trans e) f0 f1 f3 f4 f5, q⟩
end MF
set_option Elab.async false
set_option linter.all false
set_option maxRecDepth 100000
set_option maxHeartbeats 1000000
namespace MF
open PySem GenW
open Sem (wp)
def Hole (b : Addr) (h : Heap) : Prop := b < h.objs.size ∧ h.get? b = none
theorem Hole.push {b : Addr} {h : Heap} {o : Obj} (x : Hole b h) : Hole b (h.push o) := by
  obtain ⟨objs, l⟩ := h
  obtain ⟨h1, h2⟩ := x
  refine ⟨?_, ?_⟩
  · show b < (objs.push o).size
    rw [Array.size_push]
    exact Nat.lt_succ_of_lt h1
  · have e : (objs.push o)[b]? = objs[b]? := by
      rw [Array.getElem?_push, if_neg (Nat.ne_of_lt h1)]
    show (match (objs.push o)[b]? with | some ⟨_, _, .freed, _⟩ => none | o => o) = none
    rw [e]
    exact h2
theorem Hole.update {a b : Addr} {h : Heap} {f : Obj → Obj} (x : Hole b h) (ha : h.get? a ≠ none) : Hole b (h.update a f) := by
  have ne : a ≠ b := fun z => ha (by rw [z]; exact x.2)
  refine ⟨?_, ?_⟩
  · obtain ⟨objs, l⟩ := h
    show b < (objs.modify a f).size
    rw [Array.size_modify]
    exact x.1
  · obtain ⟨objs, l⟩ := h
    have e : (objs.modify a f)[b]? = objs[b]? := by
      rw [Array.getElem?_modify, if_neg ne]
    show (match (objs.modify a f)[b]? with | some ⟨_, _, .freed, _⟩ => none | o => o) = none
    rw [e]
    exact x.2
theorem Hole.upd' {a b : Addr} {h : Heap} {f : Obj → Obj} (x : Hole b h) (ha : (h.get? a).isSome = true) : Hole b (h.update a f) := x.update fun z => by rw [z] at ha; cases ha
theorem runs_hole {M : Model} {Γ : Ctx} {p : Pos} {t : Sem PySem.Fin} {fs : List Frame} {s s' : Shared} {e : End} {b : Addr} (h : Runs M Γ p t fs s e s') : Hole b s.heap → Hole b s'.heap := by
  induction h <;> intro hb <;> (first | exact hb | (rename_i ih; exact ih hb) | (rename_i ih; exact ih hb.push) | (rename_i hs _ ih; exact ih (hb.upd' hs)) | (rename_i ih1 ih2; exact ih2 (ih1 hb)))
theorem returns_hole {M : Model} {Γ : Ctx} {p : Pos} {s s' : Shared} {r : Result} {b : Addr} (h : Returns M Γ p s r s') (hb : Hole b s.heap) : Hole b s'.heap := runs_hole h hb
theorem wakes_hole {M : Model} {Γ : Ctx} {p : Pos} {g : Nat} {r : Resume} {s s' : Shared} {res : GenResult} {b : Addr} (h : Wakes M Γ p g r s res s') (hb : Hole b s.heap) : Hole b s'.heap := by
  unfold Wakes at h
  split at h
  · exact h.elim
  · split at h
    · obtain ⟨e₁, s₁, hr, _, _, rfl⟩ := h
      have z := runs_hole (s := s.setGen g .running) hr hb
      exact z
    · rw [h.2]; exact hb
    · rw [h.2]; exact hb
  · obtain ⟨e₁, s₁, hr, _, _, rfl⟩ := h
    have z := runs_hole (s := s.setGen g .running) hr hb
    exact z
  · rw [h.2]; exact hb
  · rw [h.2]; exact hb
theorem wpAny_holes {α : Type} {M : Model} {A : Around} {s : Shared} {t : Sem α} {Q : α → Shared → Prop} {E : Value → Shared → Prop} (h : wpAny M A t Q E s) : wpAny M A t (fun a s' => Q a s' ∧ ∀ b, Hole b s.heap → Hole b s'.heap) E s := by
  intro Γ p hΓ
  have h1 := h Γ p hΓ
  have key : ∀ {β : Type} (t : Sem β) (Q : β → Pos → Shared → Prop) (E : Value → Pos → Shared → Prop) (p : Pos) (s0 s : Shared), (∀ b, Hole b s0.heap → Hole b s.heap) → wp M Γ t Q E p s → wp M Γ t (fun a p' s' => Q a p' s' ∧ ∀ b, Hole b s0.heap → Hole b s'.heap) E p s := by
    intro β t
    induction t with
    | pure a => intro Q E p s0 s hn h; exact ⟨h, hn⟩
    | raise e => intro Q E p s0 s hn h; exact h
    | unsupported _ => intro Q E p s0 s _ h; exact h
    | finish _ => intro Q E p s0 s _ h; exact h
    | rule _ k ih => intro Q E p s0 s hn h; exact ih () Q E p s0 s hn h
    | «at» p' k ih => intro Q E p s0 s hn h; exact ih () Q E p' s0 s hn h
    | load a _ k ih => intro Q E p s0 s hn h; obtain ⟨o, ho, h⟩ := h; exact ⟨o, ho, ih o Q E p s0 s hn h⟩
    | update a _ f k ih => intro Q E p s0 s hn h; exact ⟨h.1, ih () Q E p s0 _ (fun b z => (hn b z).upd' h.1) h.2⟩
    | loadIfAlive a k ih => intro Q E p s0 s hn h; exact ih _ Q E p s0 s hn h
    | point _ k ih => intro Q E p s0 s hn h; exact ih () Q E p s0 s hn h
    | register _ _ => intro Q E p s0 s _ h; exact h
    | alloc o k ih => intro Q E p s0 s hn h; exact ih _ Q E p s0 _ (fun b z => (hn b z).push) h
    | fresh k ih => intro Q E p s0 s hn h; exact ih _ Q E p s0 _ hn h
    | ask k ih => intro Q E p s0 s hn h; exact ih _ Q E p s0 s hn h
    | choose src m k ih => intro Q E p s0 s hn h; exact ⟨h.1, ih _ Q E p s0 _ hn h.2⟩
    | os q _ k ih => intro Q E p s0 s hn h; exact ih _ Q E p s0 _ hn h
    | call c hd _ _ k ih => intro Q E p s0 s hn h; obtain ⟨r, s', hr, h⟩ := h; exact ⟨r, s', hr, ih r Q E p s0 s' (fun b z => returns_hole hr (hn b z)) h⟩
    | handled own k ih => intro Q E p s0 s hn h; exact ih _ Q E p s0 s hn h
    | genState g k ih => intro Q E p s0 s hn h; obtain ⟨st, hs, h⟩ := h; exact ⟨st, hs, ih _ Q E p s0 s hn h⟩
    | newGen c k ih => intro Q E p s0 s hn h; exact ih _ Q E p s0 _ hn h
    | resume g r _ k ih => intro Q E p s0 s hn h; obtain ⟨res, s', hw, h⟩ := h; exact ⟨res, s', hw, ih res Q E p s0 s' (fun b z => wakes_hole hw (hn b z)) h⟩
    | yield _ _ _ _ => intro Q E p s0 s _ h; exact h
    | stack k ih => intro Q E p s0 s hn h; exact ih _ Q E p s0 s hn h
    | fork _ _ => intro Q E p s0 s _ h; exact h
    | thread k ih => intro Q E p s0 s hn h; exact ih _ Q E p s0 s hn h
    | await _ _ _ _ _ => intro Q E p s0 s _ h; exact h
  exact key t _ _ p s s (fun b z => z) h1
end MF
set_option Elab.async false
set_option linter.all false
set_option maxRecDepth 100000
set_option maxHeartbeats 1000000
namespace MF
open PySem PySem.Spec PyProof.Rows L2 GenW
def hide (hid : List Addr) (H : Hp) : Hp := fun b => if b ∈ hid then none else H b
def unhide (hid : List Addr) (H Hw : Hp) : Hp := fun b => if b ∈ hid then H b else Hw b
theorem hide_in {hid : List Addr} {H : Hp} {b : Addr} (h : b ∈ hid) : hide hid H b = none := if_pos h
theorem hide_out {hid : List Addr} {H : Hp} {b : Addr} (h : b ∉ hid) : hide hid H b = H b := if_neg h
theorem unhide_in {hid : List Addr} {H Hw : Hp} {b : Addr} (h : b ∈ hid) : unhide hid H Hw b = H b := if_pos h
theorem unhide_out {hid : List Addr} {H Hw : Hp} {b : Addr} (h : b ∉ hid) : unhide hid H Hw b = Hw b := if_neg h
theorem hide_none {hid : List Addr} {H : Hp} {b : Addr} (h : H b = none) : hide hid H b = none := by
  by_cases c : b ∈ hid
  · exact hide_in c
  · rw [hide_out c]; exact h
def Hidable (hid : List Addr) (H : Hp) (b : Addr) : Prop := (∃ C dx fs, H b = some (.ins C dx fs) ∧ dx ∈ hid) ∨ (∃ x C fs, H b = some (.own x) ∧ x ∈ hid ∧ H x = some (.ins C b fs)) ∨ ∃ kvs, H b = some (.dK kvs)
theorem Hidable.ex {hid : List Addr} {H : Hp} {b : Addr} (h : Hidable hid H b) : ∃ o, H b = some o := by
  rcases h with ⟨_, _, _, h, _⟩ | ⟨_, _, _, h, _⟩ | ⟨_, h⟩
  · exact ⟨_, h⟩
  · exact ⟨_, h⟩
  · exact ⟨_, h⟩
theorem Hidable.nocell {P : Program} {w : World} {hid : List Addr} {H : Hp} {h : Heap} {b : Addr} {o : Obj} (x : Hidable hid H b) (hok : HOk P w H h) (e : h.get? b = some o) : ∀ v, o.data ≠ .cell v := by
  rcases x with ⟨C, dx, fs, q, _⟩ | ⟨x, C, fs, q, _, q2⟩ | ⟨kvs, q⟩
  · obtain ⟨_, _, _, e2, _⟩ := hok _ _ q
    rw [e] at e2
    cases e2
    intro v z
    cases z
  · obtain ⟨_, _, _, _, mA, hn, _⟩ := hok _ _ q2
    obtain ⟨ob, es, ep, e2, d, _⟩ := hn
    rw [e] at e2
    cases e2
    intro v z
    rw [d] at z
    cases z
  · obtain ⟨_, _, vs, _, ob, es, ep, e2, _, d, _⟩ := hok _ _ q
    rw [e] at e2
    cases e2
    intro v z
    rw [d] at z
    cases z
theorem hok_hide {P : Program} {w : World} {hid : List Addr} {H : Hp} {h : Heap} (hok : HOk P w H h) (hh : ∀ b ∈ hid, Hidable hid H b) : HOk P w (hide hid H) h := fun b o e => by
  have nb : b ∉ hid := fun z => by rw [hide_in z] at e; cases e
  rw [hide_out nb] at e
  refine (hok b o e).stay (fun _ _ _ y => y) (fun c hc => ?_) fun c xs hc => ?_
  · rw [hide_out fun z => ?_]
    · exact hc
    · rcases hh c z with ⟨_, _, _, q, _⟩ | ⟨x, _, _, q, hx, _⟩ | ⟨_, q⟩
      · rw [hc] at q; cases q
      · rw [hc] at q; cases q; exact nb hx
      · rw [hc] at q; cases q
  · rw [hide_out fun z => ?_]
    · exact hc
    · rcases hh c z with ⟨_, _, _, q, _⟩ | ⟨x, _, _, q, hx, _⟩ | ⟨_, q⟩
      · rw [hc] at q; cases q
      · rw [hc] at q; cases q
      · rw [hc] at q; cases q
theorem hok_unhide {P : Program} {w : World} {hid : List Addr} {H Hw : Hp} {h h' : Heap} (hok : HOk P w H h) (hh : ∀ b ∈ hid, Hidable hid H b) (hw : HOk P w Hw h') (hn : ∀ b ∈ hid, Hw b = none) (k : ∀ b ∈ hid, ∀ o, h.get? b = some o → h'.get? b = some o) : HOk P w (unhide hid H Hw) h' := fun b o e => by
  by_cases c : b ∈ hid
  · rw [unhide_in c] at e
    have x := hok b o e
    rcases hh b c with ⟨C, dx, fs, q, hx⟩ | ⟨y, _, _, q, hx, _⟩ | ⟨kvs, q⟩
    · rw [e] at q
      cases q
      obtain ⟨x1, x2, x3, x4, mA, ⟨ob, es, ep, x5, x6⟩, x7⟩ := x
      exact ⟨by rw [unhide_in hx]; exact x1, x2, x3, k b c _ x4, mA, ⟨ob, es, ep, k dx hx _ x5, x6⟩, x7⟩
    · rw [e] at q
      cases q
      obtain ⟨ob, x1⟩ := x
      exact ⟨ob, k b c _ x1⟩
    · rw [e] at q
      cases q
      obtain ⟨x1, x2, vs, x3, ob, es, ep, x4, x5⟩ := x
      exact ⟨x1, x2, vs, x3, ob, es, ep, k b c _ x4, x5⟩
  · rw [unhide_out c] at e
    refine (hw b o e).stay (fun _ _ _ y => y) (fun d hd => ?_) fun d xs hd => ?_
    · rw [unhide_out fun z => by rw [hn d z] at hd; cases hd]
      exact hd
    · rw [unhide_out fun z => by rw [hn d z] at hd; cases hd]
      exact hd
variable {Z : Gc}
def Gc.SH (Z : Gc) (s₀ : Shared) (i : Nat) (ip : List (Addr × Obj)) (hid : List Addr) (σ : L2.St) (H : Hp) (s : Shared) : Prop :=
  ∃ Hw, Inv (Z.cx s₀ Hw) ip σ H s ∧ Z.RP i s₀ Hw ∧ Same Hw H ∧ Z.need H ∧ Z.Lk s₀ ∧ (∀ b ∈ hid, Hw b = none) ∧ ∀ b, Hole b s₀.heap → Hole b s.heap
abbrev TGw := (Nat → List Addr → L2.St → Hp → Prop) → Nat → List Addr → L2.St → Hp → Prop
structure GW (Z : Gc) (st : List Stmt) (t : TGw) : Prop where
  run : ∀ (c : Code) (fs : List Frame) (K : Flow → Sem PySem.Fin) (J : Value → Sem PySem.Fin) (gd : Bool → Bool) (lv : List Value → List Value) (ip : List (Addr × Obj)) (nx : Nat → List Addr → L2.St → Hp → Prop), Gp Z c fs gd → (∀ p ∈ ip, Z.L ≤ p.1 ∧ p.1 ∉ Z.kp) →
    (∀ (i n : Nat) (s₀ s : Shared) (hid : List Addr) (σ : L2.St) (H : Hp), n + i = Z.out.length + 1 → Z.SH s₀ i ip hid σ H s → nx i hid σ H → Seg (model Z.P Z.w) Z.A Z.R Z.Y n s₀ c (K .next) fs s) →
    ∀ (i n : Nat) (s₀ s : Shared) (hid : List Addr) (σ : L2.St) (H : Hp), n + i = Z.out.length + 1 → Z.SH s₀ i ip hid σ H s → t nx i hid σ H → Seg (model Z.P Z.w) Z.A Z.R Z.Y n s₀ c ((execs st Z.env).wrap K J gd lv) fs s
theorem gw_nil : GW Z [] (fun nx i hid σ H => nx i hid σ H) := ⟨fun c fs K J gd lv ip nx _ _ hk i n s₀ s hid σ H hn si h => seg_execs_nil (hk i n s₀ s hid σ H hn si h)⟩
def SameBut (hid : List Addr) (H H' : Hp) : Prop := ∀ b u, H b = some u → b ∉ hid → H' b = some u
def tWP (Z : Gc) (tp : TS) (tr : TGw) : TGw := fun nx i hid σ H => tp { nx := fun σ' H' => SameBut hid H H' ∧ Z.need H' ∧ ∃ hid', (∀ b ∈ hid', b ∈ hid ∨ H b = none) ∧ tr nx i hid' σ' H', rt := fun _ _ => False } σ H
theorem gw_ps {st : Stmt} {rest : List Stmt} {tp : TS} {tr : TGw} (h : ∀ s₀ Hw, PS (Z.cx s₀ Hw) st tp) (r : GW Z rest tr) : GW Z (st :: rest) (tWP Z tp tr) := by
  refine ⟨fun c fs K J gd lv ip nx gp hip hk i n s₀ s hid σ H hn si ht => ?_⟩
  obtain ⟨Hw, I, rp, sm, nd, hL, hh, hol⟩ := si
  refine seg_execs_cons (seg_wrap ?_)
  rw [gp.over]
  refine wpAny_mono (wpAny_holes ((h s₀ Hw).run ip s σ H _ I ht)) (fun f s' hs => ?_) fun _ _ z => z.elim
  obtain ⟨hs, hol'⟩ := hs
  cases f with
  | next =>
    obtain ⟨σ', H', I', sm', nd', hid', hh', q⟩ := hs
    refine r.run c fs K J gd lv ip nx gp hip hk i n s₀ s' hid' σ' H' hn ⟨Hw, I', rp, fun b u e => sm' b u (sm b u e) (fun z => by rw [hh b z] at e; cases e), nd', hL, fun b hb => ?_, fun b z => hol' b (hol b z)⟩ q
    rcases hh' b hb with z | z
    · exact hh b z
    · exact same_free sm z
  | brk => obtain ⟨_, _, _, q⟩ := hs; exact q.elim
  | cont => obtain ⟨_, _, _, q⟩ := hs; exact q.elim
  | ret u => obtain ⟨_, _, _, _, _, q⟩ := hs; exact q.elim
def tWY (Z : Gc) (te : TE) (tr : TGw) : TGw := fun nx i hid σ H => i < Z.out.length ∧ te σ H fun x H3 => Same H H3 ∧ ∃ (T : Addr) (vs : List V), x = .ref T ∧ Z.out[i]? = some vs ∧ H T = none ∧ H3 T = some (.tup vs) ∧ (∀ b ∈ hid, Hidable hid H3 b) ∧
  ∀ Hw', Z.need Hw' → (∀ b ∈ hid, Hw' b = none) → tr nx (i + 1) hid σ (unhide hid H3 Hw')
theorem gw_yield {O : Z.Ok} {e : Expr} {yp ep : Pos} {te : TE} {rest : List Stmt} {tr : TGw} (he : ∀ s₀ Hw, PE (Z.cx s₀ Hw) e te) (r : GW Z rest tr) (hco : Z.env.scope.isCoroutine = false) (hint : interactive Z.env = false) :
    GW Z (.Expr (.Yield (some e) yp) ep :: rest) (tWY Z te tr) := by
  refine ⟨fun c fs K J gd lv ip nx gp hip hk i n s₀ s hid σ H hn si ht => ?_⟩
  obtain ⟨Hw, I, rp, sm, nd, hL, hh, hol⟩ := si
  refine seg_execs_cons ?_
  obtain ⟨hlt, ht⟩ := ht
  obtain ⟨n, rfl⟩ : ∃ k, n = k + 1 := ⟨n - 1, by omega⟩
  refine seg_Expr_Yield gp.split gp.gd gp.guard ?_ hco hint
  rw [gp.over]
  refine wpAny_mono (wpAny_holes ((he s₀ Hw).run _ s σ H _ I ht)) (fun v s7 hq7 => ?_) fun _ _ z => z.elim
  obtain ⟨⟨x, H7, I7, r7, sm7, Tt, vs, ex, eo, n2, e3, hid7, cont⟩, hol7⟩ := hq7
  subst ex
  obtain rfl : v = Value.ref Tt := r7
  intro kap hkap
  obtain ⟨mm, ⟨oL, es, ep', hoL, dL, rr⟩, _⟩ := id I7.loc
  have sm' : Same Hw H7 := sm.trans sm7
  have pin7 := I7.pin
  have hidL : ∀ b ∈ hid, Z.L ≤ b := fun b hb => by
    obtain ⟨o, eo'⟩ := (hid7 b hb).ex
    obtain ⟨ob, eob⟩ := okEx (I7.hok b o eo')
    refine Nat.le_of_not_lt fun c => ?_
    cases q : s₀.heap.get? b with
    | none =>
      have := (hol7 b (hol b ⟨Nat.lt_of_lt_of_le c hL.1, q⟩)).2
      rw [eob] at this
      cases this
    | some o' =>
      have U : Un (frs Z.outer) [] Hw H7 (trunc s₀.heap Z.L) s7.heap := I7.base
      have := U.free b o' (by rw [trunc_get c]; exact q) (hh b hb) (by simp)
      rw [eo'] at this
      cases this
  have hidK : ∀ b ∈ hid, b ∉ Z.kp := fun b hb hk' => by
    obtain ⟨o, eo'⟩ := (hid7 b hb).ex
    obtain ⟨_, ob, eob⟩ := hL.2 b hk'
    have := (pin7 (b, ob) (List.mem_append_left _ (List.mem_cons_of_mem _ (mem_pinsAt hk' eob)))).2.1
    rw [eo'] at this
    cases this
  have hidA : ∀ b ∈ hid, ∀ p ∈ (Z.a, Z.go) :: ip, p.1 ≠ b := fun b hb p hp z => by
    obtain ⟨o, eo'⟩ := (hid7 b hb).ex
    have hq' : p ∈ (Z.cx s₀ Hw).pn ++ ip := by
      rcases List.mem_cons.mp hp with z | z
      · rw [z]; exact List.mem_append_left _ List.mem_cons_self
      · exact List.mem_append_right _ z
    have := (pin7 p hq').2.1
    rw [z, eo'] at this
    cases this
  have hidN : ∀ b ∈ hid, b ≠ Z.L := fun b hb z => by
    obtain ⟨o, eo'⟩ := (hid7 b hb).ex
    have : H7 Z.L = none := I7.free
    rw [← z, eo'] at this
    cases this
  have nTh : Tt ∉ hid := fun z => by
    rcases hid7 Tt z with ⟨_, _, _, q, _⟩ | ⟨_, _, _, q, _⟩ | ⟨_, q⟩
    · rw [e3] at q; cases q
    · rw [e3] at q; cases q
    · rw [e3] at q; cases q
  have un7 := Gc.un I7 sm' hL.1
  have nw : ∀ b u, Hw b = some u → b ∉ hid := fun b u e z => by rw [hh b z] at e; cases e
  refine ⟨i, Hw, hide hid H7, Tt, vs, (Z.L, oL) :: (Z.a, Z.go) :: (ip ++ pinsAt hid s7.heap), rp, by omega, eo, rfl, same_free sm n2, by rw [hide_out nTh]; exact e3, fun b u e => by rw [hide_out (nw b u e)]; exact sm' b u e, I7.os, I7.bare, hok_hide I7.hok hid7,
    ⟨un7.keep, un7.slot, fun b o q n hc => hide_none (un7.free b o q n hc), un7.there, fun b xs q => by rw [hide_out (nw b _ q)]; exact un7.tups b xs q, fun b o u q => by rw [hide_out (nw b _ q)]; exact un7.frzs b o u q, fun b ps q => by rw [hide_out (nw b _ q)]; exact un7.tbls b ps q⟩, fun q hq => ?_, by simp, fun sw Hw' rp' wk => ?_⟩
  · have old : ∀ p ∈ (Z.a, Z.go) :: ip, s7.heap.get? p.1 = some p.2 ∧ hide hid H7 p.1 = none ∧ (∀ v, p.2.data ≠ .cell v) := fun p hp => by
      have hq' : p ∈ (Z.cx s₀ Hw).pn ++ ip := by
        rcases List.mem_cons.mp hp with z | z
        · rw [z]; exact List.mem_append_left _ List.mem_cons_self
        · exact List.mem_append_right _ z
      obtain ⟨p1, p2, p3, p4, p5⟩ := pin7 p hq'
      exact ⟨p1, hide_none p2, p5⟩
    rcases List.mem_cons.mp hq with z | hq
    · rw [z]
      exact ⟨hoL, hide_none I7.free, (fun hb => absurd (O.frL _ hb) (Nat.lt_irrefl _)), (fun v y => by rw [dL] at y; cases y), fun hk => (hL.2 _ hk).1.1 rfl⟩
    rcases List.mem_cons.mp hq with z | hq
    · rw [z]
      obtain ⟨p1, p2, p5⟩ := old _ List.mem_cons_self
      exact ⟨p1, p2, (fun hb => absurd (Nat.lt_trans (O.frL _ hb) O.la) (Nat.lt_irrefl _)), p5, fun hk => (hL.2 _ hk).1.2 rfl⟩
    rcases List.mem_append.mp hq with hq | hq
    · obtain ⟨p1, p2, p5⟩ := old q (List.mem_cons_of_mem _ hq)
      exact ⟨p1, p2, (fun hb => absurd (Nat.lt_of_lt_of_le (O.frL _ hb) (hip q hq).1) (Nat.lt_irrefl _)), p5, (hip q hq).2⟩
    · obtain ⟨z1, z2⟩ := of_pinsAt hq
      exact ⟨z2, hide_in z1, (fun hb => absurd (Nat.lt_of_lt_of_le (O.frL _ hb) (hidL _ z1)) (Nat.lt_irrefl _)), (hid7 _ z1).nocell I7.hok z2, hidK _ z1⟩
  · refine hkap .none sw ?_
    show Seg _ _ _ _ _ _ _ _ _ _
    have I8 : Inv (Z.cx sw Hw') ip σ Hw' sw := Gc.woken O I7 wk (fun o ho => by
      have : s7.heap.get? Z.L = some oL := hoL
      rw [this] at ho
      cases ho
      simp) (by simp) (fun q hq => List.mem_cons_of_mem _ (List.mem_cons_of_mem _ (List.mem_append_left _ hq)))
    have hL' : Z.Lk sw := ⟨Nat.le_of_lt (Heap.lt_size (wk.gp (Z.L, oL) (by simp)).1), fun b hb => by obtain ⟨n, _, _, o, e, _⟩ := wk.kp b hb; exact ⟨n, o, e⟩⟩
    have at7 : ∀ b ∈ hid, ∀ o, s7.heap.get? b = some o → sw.heap.get? b = some o ∧ Hw' b = none := fun b hb o eo => wk.gp (b, o) (List.mem_cons_of_mem _ (List.mem_cons_of_mem _ (List.mem_append_right _ (mem_pinsAt hb eo))))
    have hn' : ∀ b ∈ hid, Hw' b = none := fun b hb => by
      obtain ⟨o, eo'⟩ := (hid7 b hb).ex
      obtain ⟨ob, eob⟩ := okEx (I7.hok b o eo')
      exact (at7 b hb ob eob).2
    have nw' : ∀ b u, Hw' b = some u → b ∉ hid := fun b u e z => by rw [hn' b z] at e; cases e
    have sU : Same Hw' (unhide hid H7 Hw') := fun b u e => by rw [unhide_out (nw' b u e)]; exact e
    have I9 : Inv (Z.cx sw Hw') ip σ (unhide hid H7 Hw') sw := I8.call' (ch := hid) rfl ⟨fun b o e _ _ _ => e, fun b o e _ _ _ => ⟨o.slots, e⟩, fun b o e n hc => by rw [unhide_out hc]; exact n, fun b o e _ => ⟨o, e⟩, fun b xs q => sU _ _ q, fun b o u q => sU _ _ q, fun b ps q => ⟨#[], by rw [sU _ _ q]; simp⟩⟩
      (hok_unhide I7.hok hid7 I8.hok hn' fun b hb o eo => (at7 b hb o eo).1) I8.bare fun b hb => by
        refine ⟨.inr ?_, hidN b hb, fun x c e => ?_, fun p hp => ?_⟩
        · show (trunc sw.heap Z.L).objs.size ≤ b
          rw [trunc_size hL'.1]
          exact hidL b hb
        · rw [show (Z.cx sw Hw').env.cells.lookup x = none from Gc.nocells O x] at e
          cases e
        · rcases List.mem_append.mp hp with z | z
          · rcases List.mem_cons.mp z with z | z
            · exact hidA b hb p (by rw [z]; exact List.mem_cons_self)
            · exact fun w => hidK b hb (w ▸ (of_pinsAt z).1)
          · exact hidA b hb p (List.mem_cons_of_mem _ z)
    exact r.run c fs K J gd lv ip nx gp hip hk (i + 1) n sw sw hid σ _ (by omega) ⟨Hw', I9, rp', sU, O.stable _ _ sU wk.need, hL', hn', fun b z => z⟩ (cont Hw' wk.need hn')
def tWW (tc : TT) (tb tr : TGw) : TGw := fun nx i hid σ H => ∃ W : Nat → Nat → List Addr → L2.St → Hp → Prop, (∃ m, W m i hid σ H) ∧ ∀ m i hid σ H, W m i hid σ H →
  tc σ H fun b H1 => H1 = H ∧ if b = true then tb (fun i' hid' σ' H' => ∃ m', m' < m ∧ W m' i' hid' σ' H') i hid σ H1 else tr nx i hid σ H1
theorem gw_while {test : Expr} {body rest : List Stmt} {pos : Pos} {tc : TT} {tb tr : TGw} (hc : ∀ s₀ Hw, PT (Z.cx s₀ Hw) test tc) (hb : GW Z body tb) (r : GW Z rest tr) : GW Z (.While test body [] pos :: rest) (tWW tc tb tr) := by
  refine ⟨fun c fs K J gd lv ip nx gp hip hk i n s₀ s hid σ H hn si ht => ?_⟩
  obtain ⟨W, ⟨m0, w0⟩, turn⟩ := ht
  refine seg_execs_cons (seg_While fun p => ?_)
  have gl : ∀ (kk : Result → Sem PySem.Fin), Gp Z (.whileLoop test body [] Z.env) (.ret kk none (gd false) (lv []) c p [] :: fs) id := fun kk => ⟨(over_loop rfl rfl).trans gp.over, by
      show (splitAtGen fs).map _ = none
      rw [gp.split]; rfl, by
      show (gd false || fs.any Frame.guarded) = false
      rw [gp.gd, gp.guard]; rfl, rfl⟩
  have loop : ∀ (m i n : Nat) (s₀ s : Shared) (hid : List Addr) (σ : L2.St) (H : Hp), n + i = Z.out.length + 1 → W m i hid σ H → Z.SH s₀ i ip hid σ H s →
      Seg (model Z.P Z.w) Z.A Z.R Z.Y n s₀ (.whileLoop test body [] Z.env) ((model Z.P Z.w).den (.whileLoop test body [] Z.env))
        (.ret (fun r => ((match r with | .ok f => (.pure f : Sem Flow) | .error e => .raise e).onRaise (cameBack Z.env)).wrap (fun (f : Flow) => match f with | .next => (execs rest Z.env).wrap K J gd lv | f => K f) J gd lv) none (gd false) (lv []) c p [] :: fs) s := by
    intro m
    induction m using Nat.strongRecOn with
    | ind m ih =>
      intro i n s₀ s hid σ H hn w hI
      obtain ⟨Hw, I, rp, sm, nd, hL, hh, hol⟩ := hI
      refine seg_whileLoop ?_
      rw [(gl _).over]
      refine wpAny_mono (wpAny_holes ((hc s₀ Hw).run _ s σ H _ I (turn m i hid σ H w))) (fun b s' hb' => ?_) fun x s' z => z.elim
      obtain ⟨⟨H2, I2, eH, q2⟩, hol2⟩ := hb'
      subst eH
      have si2 : Z.SH s₀ i ip hid σ H2 s' := ⟨Hw, I2, rp, sm, nd, hL, hh, fun b z => hol2 b (hol b z)⟩
      cases b with
      | true =>
        rw [if_pos rfl] at q2 ⊢
        refine hb.run _ _ _ _ id id ip _ (gl _) hip (fun i' n' s₀' s3 hid' σ3 H3 hn' si' nx' => ?_) i n s₀ s' hid σ H2 hn si2 q2
        obtain ⟨m', hm, w3⟩ := nx'
        exact seg_again rfl (ih m' hm i' n' s₀' s3 hid' σ3 H3 hn' w3 si')
      | false =>
        rw [if_neg Bool.false_ne_true] at q2 ⊢
        refine seg_execs_nil ?_
        exact seg_leaf (.ok .next) (r.run c fs K J gd lv ip nx gp hip hk i n s₀ s' hid σ H2 hn si2 q2)
  exact loop m0 i n s₀ s hid σ H hn w0 si
theorem gfw_of {P : Program} {w : World} {K : PySem.W.Frag} {mg : Str → Option Value} {base : Heap} {k : Nat} {f : Addr} {name qual : Str} {params : Arguments} {body : List Stmt} {scope : Scope} {dV kV doc pm cdv ct oc : Value} {an od : Option Addr} {osl : Array (Option Value)} {N ps : List Str} {sp : SpX}
    (lk : K.lookup f = some ⟨oc, od, .func (PySem.W.fnOf name qual params body scope dV kV doc pm an cdv ct), osl⟩) (hcd : PySem.W.codeIn K cdv qual = true) (S : GScope N ps scope) (nc : ∀ y ∈ scope.names, y.2 ≠ .cell ∧ y.2 ≠ .free)
    (len : ∀ vs H out need, sp vs H out need → vs.length = ps.length) (hneed : ∀ vs H out need, sp vs H out need → need H ∧ ∀ H H', Same H H' → need H → need H')
    (hbody : ∀ (A : Around) (outer : List Env) (L a : Addr) (go : Obj) (RP : Nat → Shared → Hp → Prop) (kp : List Addr) (vs : List V) (H : Hp) (out : List (List V)) (need : Hp → Prop), (Gc.mk P w K mg base N qual scope f cdv A outer L a go out need RP kp).Ok → Room k (A.deeper (envOfC qual scope L f cdv)) → sp vs H out need →
      ∃ t, GW (Gc.mk P w K mg base N qual scope f cdv A outer L a go out need RP kp) body t ∧ ∀ Hw, need Hw → t (fun i _ _ _ => i = out.length) 0 [] (start N vs) Hw) :
    GFx P w K mg base (k + 1) f (PySem.W.fnOf name qual params body scope dV kV doc pm an cdv ct) ps sp := by
  refine gfx_of0 lk hcd S nc len hneed fun A outer L a go RP kp vs H out need O hr hsp sw Hw I rp nd lk => ?_
  obtain ⟨t, ht, hq⟩ := hbody A outer L a go RP kp vs H out need O hr hsp
  refine seg_func ?_
  refine ht.run _ [] _ _ id id [] (fun i _ _ _ => i = out.length) ⟨over_func, rfl, rfl, rfl⟩ (fun p hp => absurd hp (by simp)) (fun i n s₀ s' hid σ H' hn si hi => ?_) 0 (out.length + 1) sw sw [] (start N vs) Hw (by simp) ⟨Hw, I, rp, Same.refl _, nd, lk, (fun b hb => by cases hb), fun b z => z⟩ (hq Hw nd)
  obtain ⟨Hw0, J, rp0, sm, nd, hL, hh, hol⟩ := si
  subst hi
  exact seg_end (.ok (.ret .none)) (.inl ⟨.inl rfl, Hw0, H', rp0, sm, J.os, J.bare, J.hok, Gc.un J sm hL.1⟩)
structure GGx (P : Program) (w : World) (K : PySem.W.Frag) (mg : Str → Option Value) (base : Heap) (k : Nat) (x : Str) (sp : SpX) : Prop where
  ex : ∃ f fd ps, GFx P w K mg base k f fd ps sp ∧ mg x = some (.ref f) ∧ PySem.W.keepIn K (.ref f) = true ∧ Binds K fd ps []
def tCallX (sp : SpX) (t : TA) : TGq := fun σ H cont => t σ H fun vs H2 => ∃ out need, sp vs H2 out need ∧ cont out need H2
theorem pgx_call {X : Cx} {k : Nat} {x : Str} {sp : SpX} {e : Expr} {es : List Expr} {t : TA} {p pos : Pos} (G : GGx X.prog X.w X.K X.mg X.base k x sp) (hr : Room k X.A) (ha : PA X (e :: es) t) (hg : Gl X x := by rfl) (hdb : (x == ("__debug__" : Str)) = false := by decide)
    (he : starEach (e :: es) X.env = (false, eval e X.env) :: starEach es X.env := by rfl) (hpl : (backTo pos (starEach es X.env)).any (·.1) = false := by rfl) : PGx X k (.Call (.Name x p) (e :: es) [] pos) (tCallX sp t) := by
  obtain ⟨f, fd, ps, F, hm, hk, hb⟩ := G.ex
  refine ⟨fun pins s σ H cont I h => ?_⟩
  refine wpAny_Call_Name_kw (ld_glob I hg hm ?_ hdb)
  refine PySem.W.callWith_K (h₀ := X.base) I.ok.mod.kin hk (thn (ha.run pos pins s σ H _ I h) fun us s2 ⟨vs, H2, I2, r, out, need, q2, q3⟩ => ⟨I2.kIn, ?_⟩) he hpl
  have hl2 : us.length = ps.length := by rw [← r.length]; exact F.len _ _ _ _ q2
  refine wpAny_call (codeAny_mono (F.run X.A X.stack s2 H2 ⟨us, []⟩ us vs out need hr I2.env0 (by
    have := hb s2 us I2.kIn (by simpa using hl2)
    simpa using this) r q2) fun r s' hq => ?_)
  cases r with
  | error e => exact False.elim hq
  | ok fl =>
    cases fl with
    | ret u => exact ⟨H2, s2, out, need, I2, hq, (F.need _ _ _ _ q2).1, q3⟩
    | next => exact False.elim hq
    | brk => exact False.elim hq
    | cont => exact False.elim hq
theorem GDef.genX {P : Program} {w : World} {K : PySem.W.Frag} {mg : Str → Option Value} {base : Heap} {k : Nat} {x : Str} {st : Stmt} {ps N : List Str} {sp : SpX} (D : GDef K mg x st ps) (S : GScope N ps (defScope st)) (nc : ∀ y ∈ (defScope st).names, y.2 ≠ .cell ∧ y.2 ≠ .free) (len : ∀ vs H out need, sp vs H out need → vs.length = ps.length)
    (hneed : ∀ vs H out need, sp vs H out need → need H ∧ ∀ H H', Same H H' → need H → need H')
    (hbody : ∀ (f : Addr) (cdv : Value) (A : Around) (outer : List Env) (L a : Addr) (go : Obj) (RP : Nat → Shared → Hp → Prop) (kp : List Addr) (vs : List V) (H : Hp) (out : List (List V)) (need : Hp → Prop), (Gc.mk P w K mg base N x (defScope st) f cdv A outer L a go out need RP kp).Ok → Room k (A.deeper (envOfC x (defScope st) L f cdv)) → sp vs H out need →
      ∃ t, GW (Gc.mk P w K mg base N x (defScope st) f cdv A outer L a go out need RP kp) (defBody st) t ∧ ∀ Hw, need Hw → t (fun i _ _ _ => i = out.length) 0 [] (start N vs) Hw) : GGx P w K mg base (k + 1) x sp := by
  obtain ⟨f, fd, F, hm, hb⟩ := D.ex
  have kp := F.kp
  obtain ⟨oc, od, kV, doc, pm, an, cdv, ct, osl, rfl, lk, hcd⟩ := F.ex
  exact ⟨f, _, ps, gfw_of lk hcd S nc len hneed fun A outer L a go RP kp vs H out need O hr hsp => hbody f cdv A outer L a go RP kp vs H out need O hr hsp, hm, kp, hb⟩
end MF
set_option Elab.async false
set_option linter.all false
set_option maxRecDepth 100000
set_option maxHeartbeats 1000000
namespace MF
open PySem PySem.Spec PyProof.Rows L2 StX
structure SMDef (K : PySem.W.Frag) (C : Addr) (m qual : Str) (st : Stmt) (p1 pv : Str) : Prop where
  ex : ∃ f fd, Fun K m qual st f fd ∧ Meth K C m f ∧ ∀ us rest : List Value, us.length = [p1].length → bindArgs fd ⟨us ++ rest, []⟩ = (newTuple rest >>= fun t => pure ([p1].zip us ++ [(pv, t)]))
theorem SMDef.fn0 {P : Program} {w : World} {K : PySem.W.Frag} {mg : Str → Option Value} {base : Heap} {k : Nat} {C : Addr} {m qual p1 pv : Str} {st : Stmt} {N : List Str} {sp : Sp} (D : SMDef K C m qual st p1 pv) (S : FnScope N [p1, pv] (defScope st))
    (hbody : ∀ (f : Addr) (cdv : Value) (A : Around) (outer : List Env) (s : Shared) (H : Hp) (vs : List V) (Q : VK) (E : XK), Room k (A.deeper (envOfC qual (defScope st) s.heap.objs.size f cdv)) → sp vs H Q E →
      ∃ t, PSs (cxOf CX0 P w K mg base N qual (defScope st) f cdv A outer s H E).nox (defBody st) t ∧ t { nx := fun _ H' => Q .non H', rt := Q } (start N vs) H) :
    MFn P w K mg base CX0 (k + 1) C m (fun vs H Q E => ∃ v rest, vs = v :: rest ∧ rest.length ≤ sizeLine ∧ ∀ p, H p = Option.none → sp [v, V.ref p] (upd H p (.tup rest)) Q E) := by
  obtain ⟨f, fd, F, M, hb⟩ := D.ex
  obtain ⟨oc, od, kV, doc, pm, an, cdv, ct, osl, rfl, lk, hcd⟩ := F.ex
  refine ⟨f, (fn_star (ps := [p1]) (pv := pv) (sp := sp) lk hcd S cxUp_none hb fun A outer s H vs Q E hr hsp => ?_).imp fun vs H Q E h => ?_, M⟩
  · obtain ⟨t, h, q⟩ := hbody f cdv A outer s H vs Q E hr hsp
    exact ⟨t, h.nox, q⟩
  · obtain ⟨v, rest, rfl, hl, q⟩ := h
    exact ⟨[v], rest, rfl, rfl, hl, q⟩
theorem op_notIn_seqK {X : Cx} {K : PySem.W.Frag} (h : X.K = K := by rfl) : OpR X (compareOp .NotIn) (rIn K true) := h ▸ op_notIn_seq
theorem op_in_seqK {X : Cx} {K : PySem.W.Frag} (h : X.K = K := by rfl) : OpR X (compareOp .In) (rIn K false) := h ▸ op_in_seq
end MF
set_option Elab.async false
set_option linter.all false
set_option maxHeartbeats 1000000
namespace MF
open PySem

def holds (o : Ordr) (x : Str) (d : Int) : Bool := decide (o.src = x) && (decide (o.first ≤ d) && decide (d ≤ o.last))
def ordFor : List Ordr → Str → Int → Option Nat
  | [], _, _ => none
  | o :: os, x, d => if holds o x d = true then some 0 else (ordFor os x d).map (· + 1)
theorem ordFor_some {x : Str} {d : Int} : ∀ {os : List Ordr} {i : Nat}, ordFor os x d = some i → ∃ o, os[i]? = some o ∧ holds o x d = true
  | [], i, h => by cases h
  | o :: os, i, h => by
    unfold ordFor at h
    by_cases q : holds o x d = true
    · rw [if_pos q] at h
      cases h
      exact ⟨o, rfl, q⟩
    · rw [if_neg q] at h
      cases e : ordFor os x d with
      | none => rw [e] at h; cases h
      | some j =>
        rw [e] at h
        cases h
        obtain ⟨p, h1, h2⟩ := ordFor_some e
        exact ⟨p, by simpa using h1, h2⟩
theorem ordFor_is {x : Str} {d : Int} {o : Ordr} : ∀ {os : List Ordr} {i : Nat}, (∀ (j : Nat) p, j < i → os[j]? = some p → holds p x d = false) → os[i]? = some o → holds o x d = true → ordFor os x d = some i
  | [], i, _, h, _ => by simp at h
  | p :: os, 0, _, h, q => by
    simp at h
    subst h
    unfold ordFor
    rw [if_pos q]
  | p :: os, i + 1, hn, h, q => by
    have h0 : holds p x d = false := hn 0 p (Nat.succ_pos _) rfl
    unfold ordFor
    rw [h0, if_neg Bool.false_ne_true, ordFor_is (i := i) (fun j r hj e => hn (j + 1) r (Nat.succ_lt_succ hj) (by simpa using e)) (by simpa using h) q]
    rfl
theorem ordFor_none {x : Str} {d : Int} : ∀ {os : List Ordr}, (∀ p ∈ os, holds p x d = false) → ordFor os x d = none
  | [], _ => rfl
  | p :: os, h => by
    unfold ordFor
    rw [h p (by simp), if_neg Bool.false_ne_true, ordFor_none fun q hq => h q (by simp [hq])]
    rfl
theorem ordFor_none_iff {x : Str} {d : Int} {os : List Ordr} : ordFor os x d = none ↔ ∀ p ∈ os, holds p x d = false := by
  refine ⟨fun h => ?_, ordFor_none⟩
  induction os with
  | nil => intro p hp; cases hp
  | cons o os ih =>
    unfold ordFor at h
    by_cases q : holds o x d = true
    · rw [if_pos q] at h; cases h
    · rw [if_neg q] at h
      have h' : ordFor os x d = none := by
        cases e : ordFor os x d with
        | none => rfl
        | some j => rw [e] at h; cases h
      intro p hp
      rcases List.mem_cons.mp hp with rfl | hp
      · simpa using q
      · exact ih h' p hp
theorem ordFor_congr {x : Str} {d e : Int} : ∀ {os : List Ordr}, (∀ p ∈ os, holds p x d = holds p x e) → ordFor os x d = ordFor os x e
  | [], _ => rfl
  | p :: os, h => by
    unfold ordFor
    rw [h p (by simp), ordFor_congr fun q hq => h q (by simp [hq])]
def changes : List Ordr → Int → List Int
  | [], _ => []
  | o :: os, d => ([o.first, o.last + 1].filter fun c => decide (d < c)) ++ changes os d
theorem mem_changes {d c : Int} : ∀ {os : List Ordr}, c ∈ changes os d ↔ d < c ∧ ∃ o ∈ os, c = o.first ∨ c = o.last + 1
  | [] => by simp [changes]
  | o :: os => by
    unfold changes
    rw [List.mem_append, mem_changes (os := os), List.mem_filter]
    simp only [List.mem_cons, List.not_mem_nil, or_false, decide_eq_true_eq, exists_eq_or_imp]
    constructor
    · rintro (⟨h1, h2⟩ | ⟨h1, o', h2, h3⟩)
      · exact ⟨h2, .inl h1⟩
      · exact ⟨h1, .inr ⟨o', h2, h3⟩⟩
    · rintro ⟨h1, h2 | ⟨o', h2, h3⟩⟩
      · exact .inl ⟨h2, h1⟩
      · exact .inr ⟨h1, o', h2, h3⟩
def leastOf : List Int → Option Int
  | [] => none
  | a :: as => match leastOf as with
    | none => some a
    | some b => some (if a ≤ b then a else b)
theorem leastOf_none {l : List Int} : leastOf l = none ↔ l = [] := by
  cases l with
  | nil => simp [leastOf]
  | cons a as =>
    unfold leastOf
    cases leastOf as <;> simp
theorem leastOf_some : ∀ {l : List Int} {m : Int}, leastOf l = some m ↔ m ∈ l ∧ ∀ c ∈ l, m ≤ c
  | [], m => by simp [leastOf]
  | a :: as, m => by
    unfold leastOf
    cases e : leastOf as with
    | none =>
      have := leastOf_none.mp e
      subst this
      simp only [Option.some.injEq, List.mem_singleton]
      constructor
      · rintro rfl; exact ⟨rfl, fun c hc => by rw [hc]; exact Int.le_refl _⟩
      · rintro ⟨h, _⟩; exact h.symm
    | some b =>
      obtain ⟨hb, hm⟩ := (leastOf_some (l := as) (m := b)).mp e
      simp only [Option.some.injEq, List.mem_cons]
      constructor
      · intro h
        by_cases q : a ≤ b
        · rw [if_pos q] at h
          subst h
          exact ⟨.inl rfl, fun c hc => by
            rcases hc with rfl | hc
            · exact Int.le_refl _
            · have := hm c hc; omega⟩
        · rw [if_neg q] at h
          subst h
          exact ⟨.inr hb, fun c hc => by
            rcases hc with rfl | hc
            · omega
            · exact hm c hc⟩
      · rintro ⟨h1, h2⟩
        have ha := h2 a (.inl rfl)
        have hb' := h2 b (.inr hb)
        rcases h1 with rfl | h1
        · rw [if_pos hb']
        · have := hm m h1
          by_cases q : a ≤ b
          · rw [if_pos q]; omega
          · rw [if_neg q]; omega
def nextCh (os : List Ordr) (d : Int) : Option Int := leastOf (changes os d)
theorem nextCh_gt {os : List Ordr} {d c : Int} (h : nextCh os d = some c) : d < c := (mem_changes.mp (leastOf_some.mp h).1).1
theorem nextCh_const {os : List Ordr} {d e : Int} (hd : d ≤ e) (hc : ∀ c, nextCh os d = some c → e < c) : nextCh os e = nextCh os d := by
  have sub : ∀ c, c ∈ changes os e ↔ c ∈ changes os d := fun c => by
    rw [mem_changes, mem_changes]
    constructor
    · rintro ⟨h1, h2⟩; exact ⟨by omega, h2⟩
    · rintro ⟨h1, h2⟩
      refine ⟨?_, h2⟩
      cases q : nextCh os d with
      | none =>
        have := leastOf_none.mp q
        have hm : c ∈ changes os d := mem_changes.mpr ⟨h1, h2⟩
        rw [this] at hm; cases hm
      | some m =>
        have := (leastOf_some.mp q).2 c (mem_changes.mpr ⟨h1, h2⟩)
        have := hc m q
        omega
  unfold nextCh
  cases q : leastOf (changes os d) with
  | none =>
    have h0 := leastOf_none.mp q
    refine leastOf_none.mpr ?_
    cases r : changes os e with
    | nil => rfl
    | cons a as =>
      have : a ∈ changes os d := (sub a).mp (by rw [r]; simp)
      rw [h0] at this; cases this
  | some m =>
    obtain ⟨h1, h2⟩ := leastOf_some.mp q
    exact leastOf_some.mpr ⟨(sub m).mpr h1, fun c hc' => h2 c ((sub c).mp hc')⟩
theorem ordFor_const {os : List Ordr} {x : Str} {d e : Int} (hd : d ≤ e) (hc : ∀ c ∈ changes os d, e < c) : ordFor os x e = ordFor os x d := by
  refine ordFor_congr fun o ho => ?_
  have h1 : d < o.first → e < o.first := fun h => hc _ (mem_changes.mpr ⟨h, o, ho, .inl rfl⟩)
  have h2 : d < o.last + 1 → e < o.last + 1 := fun h => hc _ (mem_changes.mpr ⟨h, o, ho, .inr rfl⟩)
  have e1 : decide (o.first ≤ e) = decide (o.first ≤ d) := by
    by_cases q : o.first ≤ d
    · rw [decide_eq_true q, decide_eq_true (by omega)]
    · rw [decide_eq_false q, decide_eq_false (by omega)]
  have e2 : decide (e ≤ o.last) = decide (d ≤ o.last) := by
    by_cases q : d ≤ o.last
    · rw [decide_eq_true q, decide_eq_true (by omega)]
    · rw [decide_eq_false q, decide_eq_false (by omega)]
  unfold holds
  rw [e1, e2]

abbrev Pt := Str × Int
def nxt (os : List Ordr) (s : Pt) : Option Pt := (ordFor os s.1 s.2).bind fun i => os[i]?.map fun o => (o.tgt, s.2 + o.way)
inductive Go (os : List Ordr) : Pt → Nat → Pt → Prop
  | refl (s : Pt) : Go os s 0 s
  | step {s s' t : Pt} {n : Nat} (h : nxt os s = some s') (r : Go os s' n t) : Go os s (n + 1) t
def Ends (os : List Ordr) (s : Pt) (n : Nat) (t : Pt) : Prop := Go os s n t ∧ nxt os t = none
theorem nxt_of {os : List Ordr} {x : Str} {d : Int} {i : Nat} {o : Ordr} (h : ordFor os x d = some i) (e : os[i]? = some o) : nxt os (x, d) = some (o.tgt, d + o.way) := by
  unfold nxt
  simp only [h, Option.bind_some, e, Option.map_some]
theorem nxt_none {os : List Ordr} {x : Str} {d : Int} : nxt os (x, d) = none ↔ ordFor os x d = none := by
  unfold nxt
  cases h : ordFor os x d with
  | none => simp
  | some i =>
    obtain ⟨o, e, _⟩ := ordFor_some h
    simp [e]
theorem nxt_some {os : List Ordr} {s s' : Pt} (h : nxt os s = some s') : ∃ i o, ordFor os s.1 s.2 = some i ∧ os[i]? = some o ∧ holds o s.1 s.2 = true ∧ s' = (o.tgt, s.2 + o.way) := by
  obtain ⟨x, d⟩ := s
  unfold nxt at h
  cases q : ordFor os x d with
  | none => simp [q] at h
  | some i =>
    obtain ⟨o, e, ho⟩ := ordFor_some q
    simp [q, e] at h
    exact ⟨i, o, rfl, e, ho, h.symm⟩
theorem Go.trans {os : List Ordr} {s t u : Pt} {n m : Nat} (a : Go os s n t) (b : Go os t m u) : Go os s (n + m) u := by
  induction a with
  | refl s => rw [Nat.zero_add]; exact b
  | step h r ih => rw [Nat.succ_add]; exact .step h (ih b)
theorem Go.one {os : List Ordr} {s t : Pt} (h : nxt os s = some t) : Go os s 1 t := .step h (.refl t)
theorem Go.det {os : List Ordr} {s t u : Pt} {n : Nat} (a : Go os s n t) (b : Go os s n u) : t = u := by
  induction a with
  | refl s => cases b; rfl
  | step h r ih =>
    cases b with
    | step h' r' => rw [h] at h'; cases h'; exact ih r'
theorem Ends.after {os : List Ordr} {s t u : Pt} {n m : Nat} (e : Ends os s n t) (g : Go os s m u) : m ≤ n ∧ Ends os u (n - m) t := by
  induction g generalizing n with
  | refl s => exact ⟨Nat.zero_le _, e⟩
  | step h r ih =>
    obtain ⟨a, b⟩ := e
    cases a with
    | refl => rw [b] at h; cases h
    | step h' r' =>
      rw [h] at h'
      cases h'
      obtain ⟨h1, h2⟩ := ih ⟨r', b⟩
      exact ⟨Nat.succ_le_succ h1, by rw [Nat.succ_sub_succ]; exact h2⟩
theorem Ends.before {os : List Ordr} {s t u : Pt} {n m : Nat} (g : Go os s m u) (e : Ends os u n t) : Ends os s (m + n) t := ⟨g.trans e.1, e.2⟩
theorem Ends.uniq {os : List Ordr} {s t u : Pt} {n m : Nat} (a : Ends os s n t) (b : Ends os s m u) : n = m ∧ t = u := by
  obtain ⟨h1, h2⟩ := a.after b.1
  obtain ⟨h3, h4⟩ := b.after a.1
  have e : n = m := Nat.le_antisymm h3 h1
  subst e
  exact ⟨rfl, a.1.det b.1⟩
structure Fine (os : List Ordr) (M : Int) : Prop where
  way : ∀ o ∈ os, 1 ≤ o.way
  last : ∀ o ∈ os, o.last ≤ M
theorem Good.fine {os : List Ordr} (g : Good os) : Fine os 1000000000000000000 := ⟨fun o h => (g.ok o h).w1, fun o h => (g.ok o h).lm⟩
theorem nxt_day {os : List Ordr} {M : Int} (f : Fine os M) {s s' : Pt} (h : nxt os s = some s') : s.2 < s'.2 ∧ s.2 ≤ M := by
  obtain ⟨i, o, h1, h2, h3, rfl⟩ := nxt_some h
  have ho : o ∈ os := List.mem_of_getElem? h2
  have := f.way o ho
  have := f.last o ho
  simp only [holds, Bool.and_eq_true, decide_eq_true_eq] at h3
  refine ⟨?_, by omega⟩
  show s.2 < s.2 + o.way
  omega
theorem Go.day {os : List Ordr} {M : Int} (f : Fine os M) {s t : Pt} {n : Nat} (g : Go os s n t) : s.2 + (n : Int) ≤ t.2 := by
  induction g with
  | refl s => simp
  | step h r ih =>
    have := (nxt_day f h).1
    push_cast
    omega
theorem ends_ex {os : List Ordr} {M : Int} (f : Fine os M) : ∀ s : Pt, ∃ n t, Ends os s n t := by
  have all : ∀ (k : Nat) (s : Pt), (M + 1 - s.2).toNat ≤ k → ∃ n t, Ends os s n t := by
    intro k
    induction k with
    | zero =>
      intro s hs
      refine ⟨0, s, .refl s, ?_⟩
      cases q : nxt os s with
      | none => rfl
      | some s' => have := nxt_day f q; omega
    | succ k ih =>
      intro s hs
      cases q : nxt os s with
      | none => exact ⟨0, s, .refl s, q⟩
      | some s' =>
        have := nxt_day f q
        obtain ⟨n, t, h1, h2⟩ := ih s' (by omega)
        exact ⟨n + 1, t, .step q h1, h2⟩
  exact fun s => all _ s (Nat.le_refl _)
theorem Go.shift {os : List Ordr} {M : Int} (f : Fine os M) {hi δ : Int} (h0 : 0 ≤ δ) {s t : Pt} {n : Nat} (g : Go os s n t) (hc : ∀ c ∈ changes os s.2, hi < c) (ht : t.2 + δ ≤ hi) : Go os (s.1, s.2 + δ) n (t.1, t.2 + δ) := by
  induction g with
  | refl s => exact .refl _
  | @step s s' t n h r ih =>
    have hd := (nxt_day f h).1
    have hl := r.day f
    have hle : s.2 + δ ≤ hi := by omega
    obtain ⟨i, o, h1, h2, h3, e⟩ := nxt_some h
    have e1 : ordFor os s.1 (s.2 + δ) = some i := by
      rw [← h1]
      exact ordFor_const (by omega) fun c hc' => by have := hc c hc'; omega
    have e2 : nxt os (s.1, s.2 + δ) = some (s'.1, s'.2 + δ) := by
      rw [nxt_of e1 h2, e]
      simp only [Option.some.injEq, Prod.mk.injEq, true_and]
      omega
    refine .step e2 (ih (fun c hc' => hc c ?_) ht)
    obtain ⟨q1, q2⟩ := mem_changes.mp hc'
    exact mem_changes.mpr ⟨by omega, q2⟩
theorem Go.rounds {os : List Ordr} {M : Int} (f : Fine os M) {x : Str} {d d1 hi : Int} {k : Nat} (g : Go os (x, d1) k (x, d)) (hd : d1 ≤ d) (hc : ∀ c ∈ changes os d1, hi < c) : ∀ j : Nat, d + (j : Int) * (d - d1) ≤ hi → Go os (x, d) (j * k) (x, d + (j : Int) * (d - d1))
  | 0, _ => by simp; exact .refl _
  | j + 1, h => by
    have hp : 0 ≤ (j : Int) * (d - d1) := Int.mul_nonneg (Int.natCast_nonneg _) (by omega)
    have e : ((j + 1 : Nat) : Int) * (d - d1) = (j : Int) * (d - d1) + (d - d1) := by
      push_cast
      rw [Int.add_mul, Int.one_mul]
    rw [e] at h ⊢
    have a := Go.rounds f g hd hc j (by omega)
    have b := Go.shift f (δ := (j : Int) * (d - d1) + (d - d1)) (by omega) g hc (by show d + _ ≤ hi; omega)
    have e3 : (x, d1 + ((j : Int) * (d - d1) + (d - d1))) = (x, d + (j : Int) * (d - d1)) := by
      congr 1
      omega
    have b' : Go os (x, d + (j : Int) * (d - d1)) k (x, d + ((j : Int) * (d - d1) + (d - d1))) := by
      rw [← e3]
      exact b
    rw [Nat.succ_mul]
    exact a.trans b'
end MF
set_option Elab.async false
set_option linter.all false
set_option maxRecDepth 100000
set_option maxHeartbeats 1000000
namespace MF
open PySem PySem.Spec PyProof.Rows L2 StX
def routeL (os : List Ordr) : Nat → Pt → List Pt
  | 0, _ => []
  | n + 1, s => s :: (match nxt os s with
    | none => []
    | some t => routeL os n t)
theorem routeL_len {os : List Ordr} : ∀ {n : Nat} {s : Pt}, (routeL os n s).length ≤ n
  | 0, s => Nat.le_refl _
  | n + 1, s => by
    unfold routeL
    cases nxt os s with
    | none => simp
    | some t => have := routeL_len (os := os) (n := n) (s := t); simp only [List.length_cons]; omega
theorem routeL_go {os : List Ordr} : ∀ {n i : Nat} {s t : Pt}, (routeL os n s)[i]? = some t ↔ i < n ∧ Go os s i t
  | 0, i, s, t => by unfold routeL; simp
  | n + 1, 0, s, t => by
    unfold routeL
    constructor
    · intro h; simp at h; subst h; exact ⟨by omega, .refl _⟩
    · rintro ⟨_, h⟩; cases h; simp
  | n + 1, i + 1, s, t => by
    unfold routeL
    cases e : nxt os s with
    | none =>
      simp only [List.getElem?_cons_succ, List.getElem?_nil]
      constructor
      · intro h; cases h
      · rintro ⟨_, h⟩
        cases h with
        | step h1 h2 => rw [e] at h1; cases h1
    | some u =>
      simp only [List.getElem?_cons_succ]
      rw [routeL_go]
      constructor
      · rintro ⟨h1, h2⟩; exact ⟨by omega, .step e h2⟩
      · rintro ⟨h1, h2⟩
        cases h2 with
        | step h3 h4 => rw [e] at h3; cases h3; exact ⟨by omega, h4⟩
theorem routeL_mem {os : List Ordr} {n : Nat} {s t : Pt} : t ∈ routeL os n s ↔ ∃ i, i < n ∧ Go os s i t := by
  rw [List.mem_iff_getElem?]
  constructor
  · rintro ⟨i, h⟩; exact ⟨i, routeL_go.mp h⟩
  · rintro ⟨i, h⟩; exact ⟨i, routeL_go.mpr h⟩
theorem routeL_short {os : List Ordr} : ∀ {n : Nat} {s : Pt}, (routeL os n s).length < n → ∃ t, Ends os s ((routeL os n s).length - 1) t ∧ (routeL os n s)[(routeL os n s).length - 1]? = some t ∧ 1 ≤ (routeL os n s).length
  | 0, s, h => absurd h (Nat.not_lt_zero _)
  | n + 1, s, h => by
    unfold routeL at h ⊢
    cases e : nxt os s with
    | none => simp only [List.length_cons, List.length_nil]; exact ⟨s, ⟨.refl _, e⟩, rfl, Nat.le_refl _⟩
    | some u =>
      rw [e] at h
      simp only [List.length_cons] at h ⊢
      obtain ⟨t, h1, h2, h3⟩ := routeL_short (os := os) (n := n) (s := u) (by omega)
      obtain ⟨m, hm⟩ : ∃ m, (routeL os n u).length = m + 1 := ⟨_, (Nat.sub_add_cancel h3).symm⟩
      rw [hm] at h1 h2 ⊢
      refine ⟨t, ⟨.step e h1.1, h1.2⟩, ?_, by omega⟩
      simp only [Nat.add_sub_cancel, List.getElem?_cons_succ] at h2 ⊢
      exact h2
theorem routeL_full {os : List Ordr} {n : Nat} {s : Pt} {N : Nat} {t : Pt} (e : Ends os s N t) (h : N < n) : (routeL os n s).length = N + 1 := by
  have h1 : (routeL os n s)[N]? = some t := routeL_go.mpr ⟨h, e.1⟩
  have h2 := (List.getElem?_eq_some_iff.mp h1).1
  by_cases c : (routeL os n s).length = N + 1
  · exact c
  · have h3 : N + 1 < (routeL os n s).length := by omega
    have h4 : (routeL os n s)[N + 1]? = some ((routeL os n s)[N + 1]) := List.getElem?_eq_getElem h3
    obtain ⟨_, g⟩ := routeL_go.mp h4
    have := (e.after g).1
    omega
structure PGn (P : Program) (w : World) (K : PySem.W.Frag) (mg : Str → Option Value) (base : Heap) (k : Nat) (x : Str) (sp : SpG) : Prop where
  ex : ∃ f fd ps, L2.GFn P w K mg base k f fd ps sp ∧ mg x = some (.ref f) ∧ PySem.W.keepIn K (.ref f) = true ∧ Binds K fd ps []
theorem passCX {X : Cx} : Passes (CX X.prog X.w) X E0 := fun _ _ _ _ _ _ _ ⟨_, _, _, _, _, _, _, _, _, _, _, _, h⟩ => h.elim
theorem noStop0 {K : PySem.W.Frag} : NoStop K E0 := fun _ _ _ h => h.elim
theorem pe_listGn {X : Cx} {k : Nat} {x : Str} {sp : SpG} {e : Expr} {es : List Expr} {t : TA} {p p' pos pos' : Pos} (G : PGn X.prog X.w X.K X.mg X.base k x sp) (hr : Room (k + 3) X.A) (hmg : X.mg "list" = none) (ha : PA X (e :: es) t)
    (hg : Gl X "list" := by rfl) (hx : Gl X x := by rfl) (hdb : (x == ("__debug__" : Str)) = false := by decide) (he : starEach (e :: es) X.env = (false, eval e X.env) :: starEach es X.env := by rfl) (hpl : (backTo pos' (starEach es X.env)).any (·.1) = false := by rfl)
    (he' : starEach [.Call (.Name x p') (e :: es) [] pos'] X.env = (false, eval (.Call (.Name x p') (e :: es) [] pos') X.env) :: starEach [] X.env := by rfl) :
    PE X (.Call (.Name "list" p) [.Call (.Name x p') (e :: es) [] pos'] [] pos) (tListG (tCallG sp [] E0 t)) := by
  obtain ⟨f, fd, ps, F, hm, hk, hb⟩ := G.ex
  exact pe_listG (pgen_call F (hr.mono (by omega)) hx hm hk hb .nil ha hdb he hpl) passCX noStop0 hr hg hmg rfl (by decide) (by decide) he'
theorem GDef.gen {P : Program} {w : World} {K : PySem.W.Frag} {mg : Str → Option Value} {base : Heap} {k : Nat} {x : Str} {st : Stmt} {ps N : List Str} {sp : SpG} (D : GDef K mg x st ps) (S : GScope N ps (defScope st)) (len : ∀ vs H Q E, sp vs H Q E → vs.length = ps.length)
    (hbody : ∀ (f : Addr) (cdv : Value) (A : Around) (outer : List Env) (s : Shared) (H : Hp) (vs : List V) (Q : List V → Hp → Prop) (E : XK) (pn : List (Addr × Obj)), Room k (A.deeper (envOfC x (defScope st) s.heap.objs.size f cdv)) → sp vs H Q E →
      ∃ t, GSs (gcxOf P w K mg base N x (defScope st) f cdv A outer s H E pn) (defBody st) t ∧ t { nx := fun ys _ H' => Q ys H', rt := fun ys v H' => v = .non ∧ Q ys H' } [] (start N vs) H) : PGn P w K mg base (k + 1) x sp := by
  obtain ⟨f, fd, F, hm, hb⟩ := D.ex
  have kp := F.kp
  obtain ⟨oc, od, kV, doc, pm, an, cdv, ct, osl, rfl, lk, hcd⟩ := F.ex
  exact ⟨f, _, ps, gfn_of lk hcd S len fun A outer s H vs Q E pn hr hsp => hbody f cdv A outer s H vs Q E pn hr hsp, hm, kp, hb⟩
end MF
set_option Elab.async false
set_option linter.all false
set_option maxRecDepth 100000
set_option maxHeartbeats 1000000
namespace MF
open PySem PySem.Spec PyProof.Rows L2 StX ClX
structure PDef (K : PySem.W.Frag) (C : Addr) (m qual : Str) (st : Stmt) (ps : List Str) : Prop where
  ex : ∃ p f fd, Fun K m qual st f fd ∧ PropOf K C m p f ∧ Binds K fd ps []
structure PFn (P : Program) (w : World) (K : PySem.W.Frag) (mg : Str → Option Value) (base : Heap) (CX : CXT) (k : Nat) (C : Addr) (m : Str) (sp : Sp) : Prop where
  ex : ∃ p f fd ps, FnOk P w K mg base CX k f fd ps sp ∧ PropOf K C m p f ∧ Binds K fd ps []
theorem PDef.fn {P : Program} {w : World} {K : PySem.W.Frag} {mg : Str → Option Value} {base : Heap} {CX : CXT} {k : Nat} {C : Addr} {m qual : Str} {st : Stmt} {ps : List Str} {sp : Sp} (D : PDef K C m qual st ps) (h : ∀ f fd, Fun K m qual st f fd → FnOk P w K mg base CX k f fd ps sp) : PFn P w K mg base CX k C m sp :=
  let ⟨p, f, fd, a, b, c⟩ := D.ex
  ⟨p, f, fd, ps, h f fd a, b, c⟩
theorem pe_pr {X : Cx} {k : Nat} {C : Addr} {m : Str} {sp : Sp} {e : Expr} {ta : TE} {pos : Pos} (G : PFn X.prog X.w X.K X.mg X.base CX0 k C m sp) (c : Cls X.K C) (hr : Room (k + 1) X.A) (he : PE X e ta) (hab : attributeBase e m X.env (eval e X.env) = eval e X.env := by rfl) : PE X (.Attribute e m pos) (tProp C sp [] E0 ta) := by
  obtain ⟨p, f, fd, ps, F, hp, hb⟩ := G.ex
  exact pe_prop he c hp F hr hb .nil pass0 hab
structure CDef (K : PySem.W.Frag) (C : Addr) (m qual : Str) (st : Stmt) (ps : List Str) (pv : Str) : Prop where
  ex : ∃ mc p f fd, Fun K m qual st f fd ∧ CRead K C mc ∧ CMet K C mc m p f ∧ ∀ us rest : List Value, us.length = ps.length → bindArgs fd ⟨us ++ rest, []⟩ = (newTuple rest >>= fun t => pure (ps.zip us ++ [(pv, t)]))
structure CFn (P : Program) (w : World) (K : PySem.W.Frag) (mg : Str → Option Value) (base : Heap) (CX : CXT) (k : Nat) (C : Addr) (m : Str) (sp : Sp) : Prop where
  ex : ∃ mc p f, FnR P w K mg base CX k f sp ∧ CRead K C mc ∧ CMet K C mc m p f
theorem CDef.fn0 {P : Program} {w : World} {K : PySem.W.Frag} {mg : Str → Option Value} {base : Heap} {k : Nat} {C : Addr} {m qual pv : Str} {ps : List Str} {st : Stmt} {N : List Str} {sp : Sp} (D : CDef K C m qual st ps pv) (S : FnScope N (ps ++ [pv]) (defScope st))
    (hbody : ∀ (f : Addr) (cdv : Value) (A : Around) (outer : List Env) (s : Shared) (H : Hp) (vs : List V) (Q : VK) (E : XK), Room k (A.deeper (envOfC qual (defScope st) s.heap.objs.size f cdv)) → sp vs H Q E →
      ∃ t, PSs (cxOf CX0 P w K mg base N qual (defScope st) f cdv A outer s H E).nox (defBody st) t ∧ t { nx := fun _ H' => Q .non H', rt := Q } (start N vs) H) :
    CFn P w K mg base CX0 (k + 1) C m (fun vs H Q E => ∃ ws rest, vs = ws ++ rest ∧ ws.length = ps.length ∧ rest.length ≤ sizeLine ∧ ∀ p, H p = Option.none → sp (ws ++ [V.ref p]) (upd H p (.tup rest)) Q E) := by
  obtain ⟨mc, p, f, fd, F, R, M, hb⟩ := D.ex
  obtain ⟨oc, od, kV, doc, pm, an, cdv, ct, osl, rfl, lk, hcd⟩ := F.ex
  refine ⟨mc, p, f, fn_star (ps := ps) (pv := pv) (sp := sp) lk hcd S cxUp_none hb fun A outer s H vs Q E hr hsp => ?_, R, M⟩
  obtain ⟨t, h, q⟩ := hbody f cdv A outer s H vs Q E hr hsp
  exact ⟨t, h.nox, q⟩
theorem bind_star4 {B : List Value → Sem (List (Str × Value))} {p1 p2 p3 p4 pv : Str} (h0 : ∀ a b c d, B [a, b, c, d] = (newTuple [] >>= fun t => pure [(p1, a), (p2, b), (p3, c), (p4, d), (pv, t)])) (h1 : ∀ a b c d r rs, B (a :: b :: c :: d :: r :: rs) = (newTuple (r :: rs) >>= fun t => pure [(p1, a), (p2, b), (p3, c), (p4, d), (pv, t)])) :
    ∀ us rest : List Value, us.length = [p1, p2, p3, p4].length → B (us ++ rest) = (newTuple rest >>= fun t => pure ([p1, p2, p3, p4].zip us ++ [(pv, t)])) := by
  intro us rest hl
  match us, hl with
  | [a, b, c, d], _ =>
    cases rest with
    | nil => exact h0 a b c d
    | cons r rs => exact h1 a b c d r rs
theorem pe_cm {X : Cx} {k : Nat} {C : Addr} {m : Str} {sp : Sp} {o e : Expr} {es : List Expr} {ta : TE} {t : TA} {pos apos : Pos} {pl : Sem Bool} (G : CFn X.prog X.w X.K X.mg X.base CX0 k C m sp) (hr : Room k X.A) (he : PE X o ta) (ha : PA X (e :: es) t)
    (hst : starEach (e :: es) X.env = (false, eval e X.env) :: starEach es X.env := by rfl) (hpl : (backTo pos (starEach es X.env)).any (·.1) = false := by rfl)
    (ht : eval (.Call (.Attribute o m apos) (e :: es) [] pos) X.env = (do
      let ov ← eval o X.env
      standAt apos.atName
      let (f, first) ← holding [ov] (getMethod ov m pl)
      callWith pos f first (backTo pos (starEach (e :: es) X.env)) (backToKw pos (keywordEach [] X.env))) := by rfl) :
    PE X (.Call (.Attribute o m apos) (e :: es) [] pos) (tCMeth C sp E0 ta t) := by
  obtain ⟨mc, p, f, F, R, M⟩ := G.ex
  exact pe_cmeth he R M F hr pass0 ha hst hpl ht
def tMkL (i : Nat) (C : Addr) (sp : Sp) (E : XK) (t : TA) : TE := fun σ H Q => σ[i]? = some (some (.ref C)) ∧ tMakeR C sp E t σ H Q
theorem pe_mkSL {X : Cx} {CX : CXT} {k i : Nat} {C : Addr} {x y : Str} {sp : Sp} {E : XK} {e : Expr} {te : TE} {p pos sp_ : Pos} (G : IFn X.prog X.w X.K X.mg X.base CX k C y sp) (hr : Room (k + 1) X.A) (hx : Passes CX X E) (hN : X.N[i]? = some x) (hv : Vis X.env.scope x) (he : PE X e te)
    (hdb : (x == ("__debug__" : Str)) = false := by decide) (hcd : (x == ("__classdict__" : Str)) = false := by decide)
    (hst : starEach [.Starred e sp_] X.env = [(true, eval e X.env)] := by rfl) : PE X (.Call (.Name x p) [.Starred e sp_] [] pos) (tMkL i C sp E (tStar X.K te tNil)) := by
  obtain ⟨f, F, M, hm⟩ := G.ex
  refine ⟨fun pins s σ H Q I h => ?_⟩
  obtain ⟨hs, ht⟩ := h
  refine wpAny_Call_Name_kw (thn ((pe_var (pos := p) hN hv hdb hcd).run pins s σ H (fun v H1 => v = .ref C ∧ H1 = H) I ⟨.ref C, hs, rfl, rfl⟩) fun u s1 ⟨v, H1, I1, r1, q1⟩ => ?_)
  obtain ⟨rfl, rfl⟩ := q1
  cases r1
  refine PySem.W.callWith_S (h₀ := X.base) I.ok.mod.kin M.kp (thn (he.run pins s1 σ _ _ I1 ht) fun v s1 ⟨y, H1, I1, ry, a, xs, ey, hxs, q⟩ => ?_) hst
  subst ey
  obtain rfl : v = Value.ref a := ry
  refine star_any I1 hxs fun us s2 I2 rv => ⟨I2.kIn, run_makeR M F hr hx I2 rv ?_⟩
  have q' : ∀ x dx, H1 x = none → H1 dx = none → dx ≠ x → sp (V.ref x :: (xs ++ [])) (upd (upd H1 dx (.own x)) x (.ins C dx [])) (fun v H2 => v = .non ∧ Q (.ref x) H2) E := q
  rw [List.append_nil] at q'
  exact q'
end MF
set_option Elab.async false
set_option linter.all false
set_option maxRecDepth 100000
set_option maxHeartbeats 1000000
namespace MF
open PySem PySem.Spec PyProof.Rows L2 StX
section
variable {X : Cx} {CX : CXT} {k : Nat} {C f : Addr} {sp : Sp} {E : XK}
def rInO (C : Addr) (sp : Sp) (E : XK) (neg : Bool) : R2 := fun x y H Q => ∃ a dx fs, y = .ref a ∧ H a = some (.ins C dx fs) ∧ sp [.ref a, x] H (fun v H' => ∃ b : Bool, v = .bl b ∧ Q (.bl (if neg = true then !b else b)) H') E
theorem truthy_bl {M : Model} {A : Around} {E : Value → Shared → Prop} {s : Shared} {b : Bool} {Q : Bool → Shared → Prop} (h : Q b s) : wpAny M A (truthy (.bool b)) Q E s := by
  first
    | exact wpAny_pure h
    | (unfold truthy; exact wpAny_pure h)
theorem op_inO (M : Meth X.K C "__contains__" f) (F : FnR X.prog X.w X.K X.mg X.base CX k f sp) (hr : Room k X.A) (hx : Passes CX X E) : OpR X (compareOp .In) (rInO C sp E false) := by
  rintro pins s σ H x y u v Q I rx ry ⟨a, dx, fs, rfl, ea, h⟩
  obtain rfl : v = Value.ref a := ry
  obtain ⟨mA, O, _⟩ := ins_get I.hok ea
  obtain ⟨od, ia, _⟩ := O.look
  obtain ⟨mm, fr⟩ := I.fr
  refine PySem.W.in_K fr I.mod.kin ia M.at_ M.fn ?_
  refine thn (wpAny_call (run_fnR (us := [.ref a, u]) (vs := [.ref a, x]) F hr hx I (.cons rfl (.cons rx .nil)) h)) fun r s' hq => ?_
  obtain ⟨z, H', I', rz, b, rfl, q⟩ := hq
  cases (show r = Value.bool b from rz)
  exact truthy_bl ⟨.bl b, H', I', rfl, q⟩
theorem op_notInO (M : Meth X.K C "__contains__" f) (F : FnR X.prog X.w X.K X.mg X.base CX k f sp) (hr : Room k X.A) (hx : Passes CX X E) : OpR X (compareOp .NotIn) (rInO C sp E true) := by
  rintro pins s σ H x y u v Q I rx ry ⟨a, dx, fs, rfl, ea, h⟩
  obtain rfl : v = Value.ref a := ry
  obtain ⟨mA, O, _⟩ := ins_get I.hok ea
  obtain ⟨od, ia, _⟩ := O.look
  obtain ⟨mm, fr⟩ := I.fr
  refine PySem.W.notIn_K fr I.mod.kin ia M.at_ M.fn ?_
  refine thn (wpAny_call (run_fnR (us := [.ref a, u]) (vs := [.ref a, x]) F hr hx I (.cons rfl (.cons rx .nil)) h)) fun r s' hq => ?_
  obtain ⟨z, H', I', rz, b, rfl, q⟩ := hq
  cases (show r = Value.bool b from rz)
  exact truthy_bl ⟨.bl (!b), H', I', rfl, q⟩
def rEqD0 : R2 := fun x y H Q => ∃ a b ks, x = .ref a ∧ y = .ref b ∧ H a = some (.dK ks) ∧ H b = some (.dK []) ∧ Q (.bl (decide (ks = []))) H
theorem op_eq_dict0 (hu : X.A.units < cLine) : OpR X (compareOp .Eq) rEqD0 := by
  intro pins s σ H x y v u Q I rx ry h
  obtain ⟨a, b, ks, rfl, rfl, ea, eb, q⟩ := h
  obtain rfl : v = Value.ref a := rx
  obtain rfl : u = Value.ref b := ry
  obtain ⟨_, ya, va, ra, da⟩ := (show ObjOk X.prog X.w H s.heap a (.dK ks) from I.hok a _ ea)
  obtain ⟨_, yb, vb, rb, db⟩ := (show ObjOk X.prog X.w H s.heap b (.dK []) from I.hok b _ eb)
  have l1 := ra.length
  have l2 := rb.length
  cases ks with
  | nil =>
    cases ra
    cases rb
    refine PySem.W.keq_eq (knd := mixKind X.prog X.w) (r := true) ya yb da db hu (fun _ => ?_) (fin_bl I q (by simp))
    exact hits_all .nil .nil (fun p hp => by cases hp)
  | cons c cs =>
    refine PySem.W.keq_eq (knd := mixKind X.prog X.w) (r := true) ya yb da db hu (fun e => ?_) (fin_bl I q ?_)
    · rw [← l1, ← l2] at e
      simp at e
    · have : (va.length == vb.length) = false := by rw [← l1, ← l2]; simp
      rw [this]
      simp
end
theorem dc_itW {J : It} {n : Nat} {Gd : Hp → Prop} {Y : Nat → Hp → V → Hp → Prop} {g : TG} {tt : TT} {tk tv : TE} {vs : List Nat} {σ : L2.St} {H1 : Hp} {D : Addr} {Qd : Hp → Prop} (k : Walk J n Gd Y) (Pv : Nat → Hp → Prop) (h0 : Pv 0 (upd H1 D (.dK []))) (hl : ∀ i H, i ≤ n → Pv i H → Gd H)
    (hs : ∀ i x H H', i < n → Pv i H → Y i H x H' → g x (wipe σ vs) H' fun σ2 H2 => wipe σ2 vs = wipe σ vs ∧ tt σ2 H2 fun b H3 =>
      if b = true then tk σ2 H3 fun y H4 => tv σ2 H4 fun z H5 => ∃ kvs k, y = kV k ∧ H5 D = some (.dK kvs) ∧ kvs.length < sizeLine ∧ Pv (i + 1) (upd H5 D (.dK (putK kvs k z))) else Pv (i + 1) H3) (hd : ∀ H, Pv n H → Qd H) :
    ∃ W : Nat → Nat → Hp → Prop, (∃ m, W 0 m (upd H1 D (.dK []))) ∧ ∀ i m H, W i m H →
      (J.stop i H ∧ Qd H) ∨ (J.go i H ∧ ∃ Nx : Hp → Prop, (∀ H', Nx H' → ∃ m', m' < m ∧ W (i + 1) m' H') ∧ ∀ x H', J.yld i H x H' → g x (wipe σ vs) H' fun σ2 H2 => wipe σ2 vs = wipe σ vs ∧ tt σ2 H2 fun b H3 =>
        if b = true then tk σ2 H3 fun y H4 => tv σ2 H4 fun z H5 => ∃ kvs k, y = kV k ∧ H5 D = some (.dK kvs) ∧ kvs.length < sizeLine ∧ Nx (upd H5 D (.dK (putK kvs k z))) else Nx H3) := by
  refine ⟨fun i m H => m = n - i ∧ i ≤ n ∧ Pv i H, ⟨n, by simp, Nat.zero_le _, h0⟩, ?_⟩
  rintro i m H ⟨rfl, hi, p⟩
  have q := hl i H hi p
  by_cases hlt : i < n
  · exact .inr ⟨k.goes i H hlt q, Pv (i + 1), fun H' p' => ⟨n - (i + 1), by omega, rfl, hlt, p'⟩, fun x H' y => hs i x H H' hlt p (k.yields i H x H' hlt q y)⟩
  · have e : i = n := by omega
    subst e
    exact .inl ⟨k.stops H q, hd H p⟩
theorem ps_setDc {X : Cx} {i : Nat} {y : Str} {py : Pos} {kx vx tg iter : Expr} {ifs : List Expr} {scope : Scope} {own : List (Str × Nat)} {pos spos : Pos} {wi : TI} {g : TG} {tt : TT} {tk tv : TE} (hc : X.calm = true) (hN : X.N.Nodup) (hy : X.N[i]? = some y) (hyl : X.env.scope.names.lookup y = some .local)
    (hsw : swapsWith (.DictComp kx vx [⟨tg, iter, ifs, 0⟩] scope pos) (some (.Name y py)) spos.line X.env = pure true) (hi : PI X tg iter wi) (ok : BlkOk X.N X.env.scope scope own)
    (hg : ∀ (s : Shared) (H : Hp) (C : Addr) (cl : List (Str × Addr)) (fp : List Addr), PG (X.blk s H scope (compEnvC scope cl C X.env) fp) tg g) (ht : ∀ (s : Shared) (H : Hp) (C : Addr) (cl : List (Str × Addr)) (fp : List Addr), PTs (X.blk s H scope (compEnvC scope cl C X.env) fp) ifs tt)
    (hk : ∀ (s : Shared) (H : Hp) (C : Addr) (cl : List (Str × Addr)) (fp : List Addr), PE (X.blk s H scope (compEnvC scope cl C X.env) fp) kx tk)
    (he : ∀ (s : Shared) (H : Hp) (C : Addr) (cl : List (Str × Addr)) (fp : List Addr), PE (X.blk s H scope (compEnvC scope cl C X.env) fp) vx tv) (hs : ∀ x, foldedSetIterable iter X.env x = pure x := by intro _; rfl) :
    PS X (.Assign [.Name y py] (.DictComp kx vx [⟨tg, iter, ifs, 0⟩] scope pos) spos) (tAsg (tDc wi g tt tk tv (own.map (·.2))) (gName i)) := by
  refine ⟨fun pins s σ H D I h => ?_⟩
  rw [exec_Assign_Name_used _ _ _ _ hsw]
  refine wpAny_bind (wpAny_standAt (wpAny_bind ?_))
  show wpAny _ X.A (do let _ ← comprehension (.DictComp kx vx [⟨tg, iter, ifs, 0⟩] scope pos) scope X.env (firstIterPos [⟨tg, iter, ifs, 0⟩] pos) newDict false (eval iter X.env) (some (assign (.Name y py) X.env))) _ _ s
  have h : tDc wi g tt tk tv (own.map (·.2)) σ H (fun x H1 => gName i x σ H1 D.nx) := h
  refine wpAny_bind (thn (dc_core (Qf := fun _ s' => SP X pins D .next s') hc hN I hi ok hg ht hk he hs h fun L C s' m H' I' q hn f => ?_) fun _ s' hq => wpAny_pure (wpAny_pure hq))
  show wpAny _ _ (assign (.Name y py) X.env (.ref L)) _ _ _
  refine wpAny_assign_Name (store_ok2 (v := V.ref L) I' hN hy (.inl hyl) rfl (fun s2 I2 ⟨a, sb, ha⟩ => ?_) (.inr hyl))
  obtain ⟨f0, f1, f2, f3, f4, f5⟩ := f
  have haC : C ≠ a := by
    rcases ha with z | z
    · rw [z]; exact f1
    · exact fun e => f4 y a z e.symm
  refine ⟨m, hn.sameBut sb haC, fun h3 sb3 => ?_⟩
  exact ⟨_, H', I2.turned (t' := s2.toks) (fun b o hb e => (sb3.2 b hb).trans e) f0 f1 f3 f4 f5, q⟩
theorem sw_trueD {kx vx : Expr} {gs : List Comprehension} {scope : Scope} {pos py : Pos} {y : Str} {l : Nat} {env : Env} (hk : env.scope.kind = .function) (hy : env.scope.names.lookup y = some .local) (hl : (py.line == pos.line) = true)
    (ha : (scope.names.any fun (n, k) => n == y && (k == .local || k == .cell)) = false) : swapsWith (.DictComp kx vx gs scope pos) (some (.Name y py)) l env = pure true := by
  have ky : env.kindOf y = some .local := hy
  have hb : env.blockKind = .function := by unfold Env.blockKind; rw [hk]; rfl
  unfold swapsWith
  simp only [hb, ky, ha, Expr.pos, hl]
  rfl
end MF
set_option Elab.async false
set_option linter.all false
set_option maxRecDepth 100000
set_option maxHeartbeats 1000000
namespace MF
open PySem PySem.Spec PyProof.Rows L2 StX
section
variable {prog : Program} {w : World} {A : Around} {E : Value → Shared → Prop} {s : Shared} {env : Env}
theorem unpack_starT {t : Addr} {items : Array Value} {Q : List Value → Shared → Prop} (ht : IsTup s.heap t items) (hh : A.handled = none) (hn : 1 ≤ items.size) (hz : items.size ≤ sizeLine)
    (h : ∀ h' tk, Heap.ExtBut s.heap.objs.size s.heap h' → Q ([.ref h'.objs.size] ++ items.toList.drop (items.size - 1)) { s with heap := h'.push { cls := .type "list", data := .seq (items.toList.take (items.size - 1)).toArray }, toks := tk }) :
    wpAny (model prog w) A (unpackItems (.ref t) 2 (some 0)) Q E s := by
  have hlt : t ≠ s.heap.objs.size := by obtain ⟨o, ho, _⟩ := ht; exact Nat.ne_of_lt (Heap.lt_size ho)
  have hll : t < s.heap.objs.size := by obtain ⟨o, ho, _⟩ := ht; exact Heap.lt_size ho
  unfold unpackItems
  refine wpAny_bind ?_
  unfold notIterableAtAll
  refine wpAny_bind (wpAny_specialOf ht.typeIs slot_tuple_iter.lookup ?_)
  refine wpAny_pure ?_
  simp only [Bool.false_eq_true, if_false]
  refine wpAny_bind (wpAny_holding (iter_tuple ht ?_))
  refine wpAny_bind (wpAny_holding (draw_tuple hlt 0 0 _ _ ⟨_, Heap.get?_push_size _ rfl, rfl, rfl⟩ (ht.push _) (by omega) fun h₁ hit₁ hs₁ => ?_))
  have hl₁ : IsTup h₁ t items := (ht.push _).extBut hs₁.extBut hlt
  rw [Nat.zero_add] at hit₁
  have hit₁' := hit₁
  obtain ⟨oi, hoi, _⟩ := hit₁'
  have hl₁' := hl₁
  obtain ⟨ol, hol, _⟩ := hl₁'
  rw [List.take_zero]
  rw [if_neg (show ¬ (([] : List Value).length < 0) by exact Nat.lt_irrefl 0)]
  refine wpAny_bind (wpAny_holding (PySem.W.kun_collect (s := { s with heap := h₁ }) (T := "tuple_iterator") (.inr (.inr (.inr rfl))) (Walks.tuple (A := A.in1) hh s.heap.objs.size t hlt items) (fun j u st => st.1.typeIs) (k := 0) (by omega) ⟨hit₁, hl₁⟩ (Heap.lt_size hoi) (Heap.lt_size hol) (fun h₂ tk hk => ?_) hz))
  rw [List.drop_zero]
  have hrl : items.toList.length = items.size := Array.length_toList
  show wpAny _ _ (if items.toList.length < 2 - 1 - 0 then _ else _) _ _ _
  rw [if_neg (by rw [hrl]; omega)]
  show wpAny _ _ (newList (items.toList.take (items.toList.length - (2 - 1 - 0))) >>= fun d => pure ([] ++ [d] ++ items.toList.drop (items.toList.length - (2 - 1 - 0)))) _ _ _
  rw [hrl]
  have he : Heap.ExtBut s.heap.objs.size s.heap h₂ := fun b o hb e => hk b o hb (hs₁.extBut b o hb (Heap.get?_push_of_some _ e))
  exact wpAny_bind (wpAny_newList (s := { s with heap := h₂, toks := tk }) (wpAny_pure (h h₂ tk he)))
end
section
variable {X : Cx}
def gStar (K : PySem.W.Frag) (t : TGs) : TG := fun v σ H Q => ∃ a xs y, v = .ref a ∧ SqT K H a (xs ++ [y]) ∧ ∀ D, H D = none → t [.ref D, y] σ (upd H D (.lst xs)) Q
theorem pg_starT {es : List Expr} {k : Nat} {t : TGs} {pos : Pos} (hc : X.calm = true) (h : PGs X es t)
    (hn : (assignEach es X.env).length = 2 := by rfl) (hst : (assignEach es X.env).findIdx? (·.1) = some 0 := by rfl) : PG X (.Tuple es k pos) (gStar X.K t) := by
  refine ⟨fun pins s σ H v u Q I r hw => ?_⟩
  obtain ⟨a, xs, y, e1, hq, hw⟩ := hw
  subst e1
  cases r
  obtain ⟨its, rv, ht, hz⟩ := I.tuple hq
  have hl := rv.length
  rw [List.length_append] at hl hz
  simp only [List.length_cons, List.length_nil] at hl hz
  obtain ⟨u1, u2, e, r1, r2⟩ := vals_split rv
  have l1 := r1.length
  have l2 := r2.length
  subst e
  rw [assign_Tuple]
  refine wpAny_bind (wpAny_standAt ?_)
  unfold unpack
  rw [hn, hst]
  refine wpAny_bind (wpAny_holding (unpack_starT ht (I.ok.hd hc) (by simp at hl l1 l2 ⊢; omega) (by simp at hl l1 l2 hz ⊢; omega) fun h' tk hx => ?_))
  have I1 : Inv X pins σ H { s with heap := h', toks := tk } := I.kept (t' := tk) fun b o e => hx b o (Nat.ne_of_lt (Heap.lt_size e)) e
  have sz : (u1 ++ u2).toArray.size - 1 = u1.length := by simp at l1 l2 ⊢; omega
  rw [sz]
  simp only [List.toList_toArray, List.take_left', List.drop_left', List.take_left, List.drop_left]
  have I2 := I1.laid (t' := tk) (o := .lst xs) (h' := h'.push { cls := .type "list", data := .seq u1.toArray }) (fun b ob q => Heap.get?_push_of_some _ q) (Nat.le_refl _) ⟨by omega, _, 0, r1, Heap.get?_push_size _ rfl⟩
  exact h.run pins _ σ _ _ _ Q I2 (.cons (show RelV (.ref h'.objs.size) (.ref h'.objs.size) from rfl) r2) (hw _ (I1.hok.fresh (Nat.le_refl _)))
theorem pgs_star {e : Expr} {p : Pos} {es : List Expr} {t : TG} {u : TGs} (h1 : PG X e t) (h2 : PGs X es u)
    (hs : (assignEach (.Starred e p :: es) X.env).map (·.2) = assign e X.env :: (assignEach es X.env).map (·.2) := by rfl) : PGs X (.Starred e p :: es) (gCons t u) := by
  refine ⟨fun pins s σ H vs us Q I r h => ?_⟩
  obtain ⟨v, vr, e1, h⟩ := h
  subst e1
  cases r with
  | cons r rr =>
    rw [hs]
    refine assignInOrder_cons (thn (h1.run pins s σ H _ _ _ I r h) fun _ s1 ⟨σ1, H1, I1, q1⟩ => ?_)
    exact h2.run pins s1 σ1 H1 _ _ Q I1 rr q1
def rEqT0 (K : PySem.W.Frag) : R2 := fun x y H Q => ∃ a b xs, x = .ref a ∧ y = .ref b ∧ SqT K H a xs ∧ SqT K H b [] ∧ Q (.bl xs.isEmpty) H
theorem op_eqT0 (hu : X.A.units < cLine) : OpR X (compareOp .Eq) (rEqT0 X.K) := by
  intro pins s σ H x y v u Q I rx ry h
  obtain ⟨a, b, xs, rfl, rfl, ea, eb, q⟩ := h
  obtain rfl : v = Value.ref a := rx
  obtain rfl : u = Value.ref b := ry
  obtain ⟨ia, ra, ta, _⟩ := I.tuple ea
  obtain ⟨ib, rb, tb, _⟩ := I.tuple eb
  cases rb
  refine PySem.SeqAt.eq_tupleAt (e := fun _ => true) (items := ia.toArray) (items2 := #[]) ta tb hu (fun j _ h2 => absurd h2 (by simp)) ?_
  refine fin_bl I q ?_
  have := ra.length
  cases xs <;> cases ia <;> simp_all
end
end MF
set_option Elab.async false
set_option linter.all false
set_option maxRecDepth 100000
set_option maxHeartbeats 2000000
set_option pp.maxSteps 600
namespace MF
open PySem PySem.Spec PyProof.Rows L2 StX
def top (i : Nat) : Stmt := PySem.Challenge.pw_mailforwards_k15_whole_letters_of_a_post.main.body.getD i (.Pass ⟨0, 0, 0, 0⟩)
abbrev s_is_integer : Stmt := top 16
abbrev s_is_address : Stmt := top 17
abbrev s_check_letter : Stmt := top 18
abbrev s_is_order : Stmt := top 19
abbrev s_do_overlap : Stmt := top 20
abbrev s_BookX_initX : Stmt := inClass (top 21) 1
abbrev s_Book_orders : Stmt := inClass (top 21) 3
abbrev s_BookX_lenX : Stmt := inClass (top 21) 5
abbrev s_BookX_addX : Stmt := inClass (top 21) 10
abbrev s_Book_order_for : Stmt := inClass (top 21) 14
abbrev s_Book_next_change : Stmt := inClass (top 21) 16
abbrev s_book_of : Stmt := top 22
abbrev s_LetterX_initX : Stmt := inClass (top 30) 0
abbrev s_Letter_order_now : Stmt := inClass (top 30) 1
abbrev s_Letter_step : Stmt := inClass (top 30) 2
abbrev s_Letter_skip : Stmt := inClass (top 30) 3
abbrev s_Letter_finish : Stmt := inClass (top 30) 4
abbrev s_end_of : Stmt := top 31
abbrev s_end : Stmt := top 32
abbrev s_route : Stmt := top 33
abbrev s_sent_on : Stmt := top 26
abbrev s_LivePostX_initX : Stmt := inClass (top 27) 0
abbrev s_LivePost_today : Stmt := inClass (top 27) 4
abbrev s_LivePost_present_book : Stmt := inClass (top 27) 5
abbrev s_LivePost_resting : Stmt := inClass (top 27) 6
abbrev s_LivePost_under_way : Stmt := inClass (top 27) 7
abbrev s_LivePost_history : Stmt := inClass (top 27) 8
abbrev s_LivePostX_lenX : Stmt := inClass (top 27) 9
abbrev s_LivePostX_callX : Stmt := inClass (top 27) 10
abbrev s_LivePost_enter : Stmt := inClass (top 27) 11
abbrev s_LivePost_post : Stmt := inClass (top 27) 12
abbrev s_LivePost_pass_days : Stmt := inClass (top 27) 13
abbrev s_LivePost_give : Stmt := inClass (top 27) 14
abbrev s_LivePost_undo : Stmt := inClass (top 27) 16
abbrev s_LivePost_redo : Stmt := inClass (top 27) 17
abbrev s__law_taken : Stmt := top 35
abbrev s__law_orders : Stmt := top 36
abbrev s__law_book : Stmt := top 37
abbrev s__law_seen : Stmt := top 38
abbrev s__law_are_told : Stmt := top 39
abbrev s_law : Stmt := top 40
theorem sc_is_integer : FnScope ["value", "low", "high"] ["value", "low", "high"] (defScope s_is_integer) := ⟨rfl, rfl, rfl, by decide +kernel, rfl, by decide +kernel, by decide +kernel⟩
theorem sc_is_address : FnScope ["value", "letter"] ["value"] (defScope s_is_address) := ⟨rfl, rfl, rfl, by decide +kernel, rfl, by decide +kernel, by decide +kernel⟩
theorem sc_check_letter : FnScope ["address", "day"] ["address", "day"] (defScope s_check_letter) := ⟨rfl, rfl, rfl, by decide +kernel, rfl, by decide +kernel, by decide +kernel⟩
theorem sc_is_order : FnScope ["value", "source", "target", "first", "last", "way"] ["value"] (defScope s_is_order) := ⟨rfl, rfl, rfl, by decide +kernel, rfl, by decide +kernel, by decide +kernel⟩
theorem sc_do_overlap : FnScope ["one", "other"] ["one", "other"] (defScope s_do_overlap) := ⟨rfl, rfl, rfl, by decide +kernel, rfl, by decide +kernel, by decide +kernel⟩
theorem sc_BookX_initX : FnScope ["self", "orders", "index", "order", "earlier"] ["self", "orders"] (defScope s_BookX_initX) := ⟨rfl, rfl, rfl, by decide +kernel, rfl, by decide +kernel, by decide +kernel⟩
theorem sc_Book_orders : FnScope ["self"] ["self"] (defScope s_Book_orders) := ⟨rfl, rfl, rfl, by decide +kernel, rfl, by decide +kernel, by decide +kernel⟩
theorem sc_BookX_lenX : FnScope ["self"] ["self"] (defScope s_BookX_lenX) := ⟨rfl, rfl, rfl, by decide +kernel, rfl, by decide +kernel, by decide +kernel⟩
theorem sc_BookX_addX : FnScope ["self", "other"] ["self", "other"] (defScope s_BookX_addX) := ⟨rfl, rfl, rfl, by decide +kernel, rfl, by decide +kernel, by decide +kernel⟩
theorem sc_Book_order_for : FnScope ["self", "address", "day", "index", "source", "target", "first", "last", "way"] ["self", "address", "day"] (defScope s_Book_order_for) := ⟨rfl, rfl, rfl, by decide +kernel, rfl, by decide +kernel, by decide +kernel⟩
theorem sc_Book_next_change : FnScope ["self", "day", "found", "source", "target", "first", "last", "way", "change"] ["self", "day"] (defScope s_Book_next_change) := ⟨rfl, rfl, rfl, by decide +kernel, rfl, by decide +kernel, by decide +kernel⟩
theorem sc_book_of : FnScope ["orders"] ["orders"] (defScope s_book_of) := ⟨rfl, rfl, rfl, by decide +kernel, rfl, by decide +kernel, by decide +kernel⟩
theorem sc_LetterX_initX : FnScope ["self", "book", "address", "day"] ["self", "book", "address", "day"] (defScope s_LetterX_initX) := ⟨rfl, rfl, rfl, by decide +kernel, rfl, by decide +kernel, by decide +kernel⟩
theorem sc_Letter_order_now : FnScope ["self"] ["self"] (defScope s_Letter_order_now) := ⟨rfl, rfl, rfl, by decide +kernel, rfl, by decide +kernel, by decide +kernel⟩
theorem sc_Letter_step : FnScope ["self", "index", "source", "target", "first", "last", "way"] ["self"] (defScope s_Letter_step) := ⟨rfl, rfl, rfl, by decide +kernel, rfl, by decide +kernel, by decide +kernel⟩
theorem sc_Letter_skip : FnScope ["self", "day", "count", "turns"] ["self"] (defScope s_Letter_skip) := ⟨rfl, rfl, rfl, by decide +kernel, rfl, by decide +kernel, by decide +kernel⟩
theorem sc_Letter_finish : FnScope ["self"] ["self"] (defScope s_Letter_finish) := ⟨rfl, rfl, rfl, by decide +kernel, rfl, by decide +kernel, by decide +kernel⟩
theorem sc_end_of : FnScope ["book", "address", "day", "letter"] ["book", "address", "day"] (defScope s_end_of) := ⟨rfl, rfl, rfl, by decide +kernel, rfl, by decide +kernel, by decide +kernel⟩
theorem sc_end : FnScope ["book", "address", "day"] ["book", "address", "day"] (defScope s_end) := ⟨rfl, rfl, rfl, by decide +kernel, rfl, by decide +kernel, by decide +kernel⟩
theorem sc_route : GScope ["book", "address", "day", "count", "letter", "left"] ["book", "address", "day", "count"] (defScope s_route) := ⟨rfl, rfl, rfl, by decide +kernel, rfl, by decide +kernel, by decide +kernel⟩
theorem sc_sent_on : FnScope ["book", "address", "day", "today", "index"] ["book", "address", "day", "today"] (defScope s_sent_on) := ⟨rfl, rfl, rfl, by decide +kernel, rfl, by decide +kernel, by decide +kernel⟩
theorem sc_LivePostX_initX : FnScope ["self", "book"] ["self", "book"] (defScope s_LivePostX_initX) := ⟨rfl, rfl, rfl, by decide +kernel, rfl, by decide +kernel, by decide +kernel⟩
theorem sc_LivePost_today : FnScope ["self"] ["self"] (defScope s_LivePost_today) := ⟨rfl, rfl, rfl, by decide +kernel, rfl, by decide +kernel, by decide +kernel⟩
theorem sc_LivePost_present_book : FnScope ["self"] ["self"] (defScope s_LivePost_present_book) := ⟨rfl, rfl, rfl, by decide +kernel, rfl, by decide +kernel, by decide +kernel⟩
theorem sc_LivePost_resting : FnScope ["self", "number", "row"] ["self"] (defScope s_LivePost_resting) := ⟨rfl, rfl, rfl, by decide +kernel, rfl, by decide +kernel, by decide +kernel⟩
theorem sc_LivePost_under_way : FnScope ["self", "number", "row"] ["self"] (defScope s_LivePost_under_way) := ⟨rfl, rfl, rfl, by decide +kernel, rfl, by decide +kernel, by decide +kernel⟩
theorem sc_LivePost_history : FnScope ["self", "operation", "before", "after"] ["self"] (defScope s_LivePost_history) := ⟨rfl, rfl, rfl, by decide +kernel, rfl, by decide +kernel, by decide +kernel⟩
theorem sc_LivePostX_lenX : FnScope ["self"] ["self"] (defScope s_LivePostX_lenX) := ⟨rfl, rfl, rfl, by decide +kernel, rfl, by decide +kernel, by decide +kernel⟩
theorem sc_LivePostX_callX : FnScope ["self", "letter"] ["self", "letter"] (defScope s_LivePostX_callX) := ⟨rfl, rfl, rfl, by decide +kernel, rfl, by decide +kernel, by decide +kernel⟩
theorem sc_LivePost_enter : FnScope ["self", "operation", "after"] ["self", "operation", "after"] (defScope s_LivePost_enter) := ⟨rfl, rfl, rfl, by decide +kernel, rfl, by decide +kernel, by decide +kernel⟩
theorem sc_LivePost_post : FnScope ["self", "address", "day", "book", "letters"] ["self", "address"] (defScope s_LivePost_post) := ⟨rfl, rfl, rfl, by decide +kernel, rfl, by decide +kernel, by decide +kernel⟩
theorem sc_LivePost_pass_days : FnScope ["self", "count", "day", "book", "letters", "later", "address", "arrival", "is_resting", "row", "found", "number"] ["self", "count"] (defScope s_LivePost_pass_days) := ⟨rfl, rfl, rfl, by decide +kernel, rfl, by decide +kernel, by decide +kernel⟩
theorem sc_LivePost_give : FnScope ["self", "order", "day", "book", "letters", "larger"] ["self", "order"] (defScope s_LivePost_give) := ⟨rfl, rfl, rfl, by decide +kernel, rfl, by decide +kernel, by decide +kernel⟩
theorem sc_LivePost_undo : FnScope ["self", "earlier", "entry"] ["self"] (defScope s_LivePost_undo) := ⟨rfl, rfl, rfl, by decide +kernel, rfl, by decide +kernel, by decide +kernel⟩
theorem sc_LivePost_redo : FnScope ["self", "earlier", "entry"] ["self"] (defScope s_LivePost_redo) := ⟨rfl, rfl, rfl, by decide +kernel, rfl, by decide +kernel, by decide +kernel⟩
theorem sc__law_taken : FnScope ["_law_row", "_law_many", "_law_found", "_law_cell"] ["_law_row", "_law_many"] (defScope s__law_taken) := ⟨rfl, rfl, rfl, by decide +kernel, rfl, by decide +kernel, by decide +kernel⟩
theorem sc__law_orders : FnScope ["_law_row", "_law_most", "_law_long", "_law_found", "_law_free", "_law_names", "_law_k", "_law_source", "_law_target", "_law_first", "_law_last", "_law_turn"] ["_law_row", "_law_most", "_law_long"] (defScope s__law_orders) := ⟨rfl, rfl, rfl, by decide +kernel, rfl, by decide +kernel, by decide +kernel⟩
theorem sc__law_book : FnScope ["_law_orders_here", "_law_book_here", "_law_order"] ["_law_orders_here"] (defScope s__law_book) := ⟨rfl, rfl, rfl, by decide +kernel, rfl, by decide +kernel, by decide +kernel⟩
theorem sc__law_seen : FnScope ["_law_live", "_law_letters", "_law_number"] ["_law_live"] (defScope s__law_seen) := ⟨rfl, rfl, rfl, by decide +kernel, rfl, by decide +kernel, by decide +kernel⟩
theorem sc__law_are_told : FnScope ["_law_live", "_law_posted", "_law_rest", "_law_way", "_law_number", "_law_name", "_law_day", "_law_address", "_law_when", "_law_is_resting"] ["_law_live", "_law_posted"] (defScope s__law_are_told) := ⟨rfl, rfl, rfl, by decide +kernel, rfl, by decide +kernel, by decide +kernel⟩
theorem sc_law : FnScope ["_law_script", "_law_row", "_law_orders_here", "_law_given", "_law_live", "_law_later", "_law_posted", "_law_steps", "_law_turn", "_law_before", "_law_word", "_law_order", "_law_resting", "_law_told", "_law_after", "_law_number", "_law_address", "_law_day"] ["_law_script"] (defScope s_law) := ⟨rfl, rfl, rfl, by decide +kernel, rfl, by decide +kernel, by decide +kernel⟩
structure Top (K : PySem.W.Frag) (mg : Str → Option Value) (C_Book : Addr) (C_Letter : Addr) (C_LivePost : Addr) : Prop where
  d_is_integer : GDef K mg "is_integer" s_is_integer ["value", "low", "high"]
  d_is_address : GDef K mg "is_address" s_is_address ["value"]
  d_check_letter : GDef K mg "check_letter" s_check_letter ["address", "day"]
  d_is_order : GDef K mg "is_order" s_is_order ["value"]
  d_do_overlap : GDef K mg "do_overlap" s_do_overlap ["one", "other"]
  d_BookX_initX : SDef K mg C_Book "Book" "Book.__init__" s_BookX_initX "self" "orders"
  d_Book_orders : PDef K C_Book "orders" "Book.orders" s_Book_orders ["self"]
  d_BookX_lenX : MDef K C_Book "__len__" "Book.__len__" s_BookX_lenX ["self"]
  d_BookX_addX : MDef K C_Book "__add__" "Book.__add__" s_BookX_addX ["self", "other"]
  d_Book_order_for : MDef K C_Book "order_for" "Book.order_for" s_Book_order_for ["self", "address", "day"]
  d_Book_next_change : MDef K C_Book "next_change" "Book.next_change" s_Book_next_change ["self", "day"]
  d_book_of : GDef K mg "book_of" s_book_of ["orders"]
  d_LetterX_initX : IDef K mg C_Letter "Letter" "Letter.__init__" s_LetterX_initX ["self", "book", "address", "day"]
  d_Letter_order_now : MDef K C_Letter "order_now" "Letter.order_now" s_Letter_order_now ["self"]
  d_Letter_step : MDef K C_Letter "step" "Letter.step" s_Letter_step ["self"]
  d_Letter_skip : MDef K C_Letter "skip" "Letter.skip" s_Letter_skip ["self"]
  d_Letter_finish : MDef K C_Letter "finish" "Letter.finish" s_Letter_finish ["self"]
  d_end_of : GDef K mg "end_of" s_end_of ["book", "address", "day"]
  d_end : GDef K mg "end" s_end ["book", "address", "day"]
  d_route : GDef K mg "route" s_route ["book", "address", "day", "count"]
  d_sent_on : GDef K mg "sent_on" s_sent_on ["book", "address", "day", "today"]
  d_LivePostX_initX : IDef K mg C_LivePost "LivePost" "LivePost.__init__" s_LivePostX_initX ["self", "book"]
  d_LivePost_today : PDef K C_LivePost "today" "LivePost.today" s_LivePost_today ["self"]
  d_LivePost_present_book : PDef K C_LivePost "present_book" "LivePost.present_book" s_LivePost_present_book ["self"]
  d_LivePost_resting : PDef K C_LivePost "resting" "LivePost.resting" s_LivePost_resting ["self"]
  d_LivePost_under_way : PDef K C_LivePost "under_way" "LivePost.under_way" s_LivePost_under_way ["self"]
  d_LivePost_history : PDef K C_LivePost "history" "LivePost.history" s_LivePost_history ["self"]
  d_LivePostX_lenX : MDef K C_LivePost "__len__" "LivePost.__len__" s_LivePostX_lenX ["self"]
  d_LivePostX_callX : MDef K C_LivePost "__call__" "LivePost.__call__" s_LivePostX_callX ["self", "letter"]
  d_LivePost_enter : MDef K C_LivePost "enter" "LivePost.enter" s_LivePost_enter ["self", "operation", "after"]
  d_LivePost_post : MDef K C_LivePost "post" "LivePost.post" s_LivePost_post ["self", "address"]
  d_LivePost_pass_days : MDef K C_LivePost "pass_days" "LivePost.pass_days" s_LivePost_pass_days ["self", "count"]
  d_LivePost_give : MDef K C_LivePost "give" "LivePost.give" s_LivePost_give ["self", "order"]
  d_LivePost_undo : MDef K C_LivePost "undo" "LivePost.undo" s_LivePost_undo ["self"]
  d_LivePost_redo : MDef K C_LivePost "redo" "LivePost.redo" s_LivePost_redo ["self"]
  d__law_taken : GDef K mg "_law_taken" s__law_taken ["_law_row", "_law_many"]
  d__law_orders : GDef K mg "_law_orders" s__law_orders ["_law_row", "_law_most", "_law_long"]
  d__law_book : GDef K mg "_law_book" s__law_book ["_law_orders_here"]
  d__law_seen : GDef K mg "_law_seen" s__law_seen ["_law_live"]
  d__law_are_told : GDef K mg "_law_are_told" s__law_are_told ["_law_live", "_law_posted"]
  d_law : GDef K mg "law" s_law ["_law_script"]
  cl_Book : Cls K C_Book
  cl_Letter : Cls K C_Letter
  cl_LivePost : Cls K C_LivePost
  fi_LivePost_XcallX : ∀ f, PySem.W.findIn K (.ref C_LivePost) "__call__" = some (some (.ref f)) → PySem.W.fnIn K f = true
  n_Book_listed : NoAttr K C_Book "listed"
  n_Letter_book : NoAttr K C_Letter "book"
  n_Letter_address : NoAttr K C_Letter "address"
  n_Letter_day : NoAttr K C_Letter "day"
  n_Letter_count : NoAttr K C_Letter "count"
  n_Letter_known : NoAttr K C_Letter "known"
  n_Letter_is_endless : NoAttr K C_Letter "is_endless"
  n_Letter_change : NoAttr K C_Letter "change"
  n_LivePost_scene : NoAttr K C_LivePost "scene"
  n_LivePost_done : NoAttr K C_LivePost "done"
  n_LivePost_undone : NoAttr K C_LivePost "undone"
  n_LivePost_is_open : NoAttr K C_LivePost "is_open"
  n_LivePost_kept_scene : NoAttr K C_LivePost "kept_scene"
  n_LivePost_kept_done : NoAttr K C_LivePost "kept_done"
  n_LivePost_kept_undone : NoAttr K C_LivePost "kept_undone"
  c_LETTERS : ∃ t, mg "LETTERS" = some (.str "abcdefghijklmnopqrstuvwxyz" t)
  c_MAX_LETTERS : ∃ t, mg "MAX_LETTERS" = some (.int 8 t)
  c_MAX_ORDERS_books : ∃ t, mg "MAX_ORDERS_books" = some (.int 30 t)
  c_MAX_DAY : ∃ t, mg "MAX_DAY" = some (.int 1000000000000000000 t)
  c_MAX_WAY : ∃ t, mg "MAX_WAY" = some (.int 30 t)
  c_MAX_LISTED : ∃ t, mg "MAX_LISTED" = some (.int 1000 t)
  c_MAX_PASSED : ∃ t, mg "MAX_PASSED" = some (.int 400 t)
  b_isinstance : mg "isinstance" = none
  b_int : mg "int" = none
  b_bool : mg "bool" = none
  b_str : mg "str" = none
  b_tuple : mg "tuple" = none
  b_list : mg "list" = none
  b_len : mg "len" = none
  b_all : mg "all" = none
  b_enumerate : mg "enumerate" = none
  b_range : mg "range" = none
  b_min : mg "min" = none
  b_max : mg "max" = none
  b_sorted : mg "sorted" = none
  b_set : mg "set" = none

end MF
set_option Elab.async false
set_option linter.all false
set_option maxHeartbeats 1000000
namespace MF
open PySem PySem.Spec PyProof.Rows L2
def leS (a b : Str) : Prop := ¬ b.cps.toList < a.cps.toList
theorem rising_pw : ∀ (p : Str) (l : List Str), risingS p l = true → (p :: l).Pairwise leS
  | p, [], _ => by simp
  | p, x :: r, h => by
    unfold risingS at h
    rw [Bool.and_eq_true] at h
    obtain ⟨h1, h2⟩ := h
    have ih := rising_pw x r h2
    rw [ltCps_eq] at h1
    have h1' : leS p x := by
      unfold leS
      simpa using h1
    refine List.pairwise_cons.mpr ⟨fun b hb => ?_, ih⟩
    rcases List.mem_cons.mp hb with rfl | hb
    · exact h1'
    · have h3 : leS x b := (List.pairwise_cons.mp ih).1 b hb
      unfold leS at *
      exact List.not_lt.mpr (List.le_trans (List.not_lt.mp h1') (List.not_lt.mp h3))
theorem sorted_pw {l : List Str} (h : sortedS l = true) : l.Pairwise leS := by
  cases l with
  | nil => exact .nil
  | cons x r => exact rising_pw x r h
theorem leS_anti {a b : Str} (h1 : leS a b) (h2 : leS b a) : a = b := by
  unfold leS at *
  have := List.le_antisymm (List.not_lt.mp h1) (List.not_lt.mp h2)
  obtain ⟨x⟩ := a
  obtain ⟨y⟩ := b
  have : x = y := Array.toList_inj.mp this
  rw [this]
theorem perm_sorted_eq : ∀ {a b : List Str}, a.Perm b → a.Pairwise leS → b.Pairwise leS → a = b
  | [], b, h, _, _ => (List.nil_perm.mp h).symm
  | x :: a, [], h, _, _ => by have := h.length_eq; simp at this
  | x :: a, y :: b, h, ha, hb => by
    obtain ⟨h1, h2⟩ := List.pairwise_cons.mp ha
    obtain ⟨h3, h4⟩ := List.pairwise_cons.mp hb
    have e : x = y := by
      rcases List.mem_cons.mp (h.mem_iff.mp (List.mem_cons_self (a := x) (l := a))) with z | z
      · exact z
      · rcases List.mem_cons.mp (h.mem_iff.mpr (List.mem_cons_self (a := y) (l := b))) with w | w
        · exact w.symm
        · exact leS_anti (h1 y w) (h3 x z)
    subst e
    rw [perm_sorted_eq (List.Perm.cons_inv h) h2 h4]
theorem sortedS_uniq {a b : List Str} (h : a.Perm b) (ha : sortedS a = true) (hb : sortedS b = true) : a = b := perm_sorted_eq h (sorted_pw ha) (sorted_pw hb)
theorem sorted_eq : ∀ {a b : List Int}, a.Pairwise (· < ·) → b.Pairwise (· < ·) → (∀ z, z ∈ a ↔ z ∈ b) → a = b
  | [], [], _, _, _ => rfl
  | [], y :: b, _, _, h => by have := (h y).mpr (by simp); cases this
  | x :: a, [], _, _, h => by have := (h x).mp (by simp); cases this
  | x :: a, y :: b, ha, hb, h => by
    obtain ⟨h1, h2⟩ := List.pairwise_cons.mp ha
    obtain ⟨h3, h4⟩ := List.pairwise_cons.mp hb
    have e : x = y := by
      have m1 := (h x).mp (by simp)
      have m2 := (h y).mpr (by simp)
      rcases List.mem_cons.mp m1 with z | z
      · exact z
      · rcases List.mem_cons.mp m2 with w | w
        · exact w.symm
        · have := h3 x z
          have := h1 y w
          omega
    subst e
    rw [sorted_eq h2 h4 fun z => ?_]
    have := h z
    rw [List.mem_cons, List.mem_cons] at this
    constructor
    · intro hz
      rcases this.mp (.inr hz) with w | w
      · have := h1 z hz; omega
      · exact w
    · intro hz
      rcases this.mpr (.inr hz) with w | w
      · have := h3 z hz; omega
      · exact w
end MF
set_option Elab.async false
set_option linter.all false
set_option maxRecDepth 100000
set_option maxHeartbeats 2000000
set_option pp.maxSteps 600
namespace MF
open PySem PySem.Spec PyProof.Rows L2 StX
section
variable {P : Program} {w : World} {K : PySem.W.Frag} {mg : Str → Option Value} {base : Heap} {C_Book C_Letter C_LivePost : Addr}
theorem ok_is_integer (T : Top K mg C_Book C_Letter C_LivePost) : GFn P w K mg base CX0 1 "is_integer" spIsInteger := by
  refine T.d_is_integer.fn fun f fd F => F.ok sc_is_integer (fun vs H Q E h => ?_) (fun cdv A outer s H vs Q E hr h => ?_)
  · obtain ⟨v, lo, hi, rfl, _⟩ := h
    rfl
  · obtain ⟨v, lo, hi, rfl, hn, k⟩ := h
    refine ⟨_, (pss_one (ps_ret (pe_and (pe_callB call_isi (by rfl) T.b_isinstance (by decide +kernel) (pa_cons (pv 0) (pa_cons (pe_bltn (v := .ty "int") (by rfl) T.b_int (by decide +kernel) rfl) pa_nil))) (pe_and (pe_not (pe_callB call_isi (by rfl) T.b_isinstance (by decide +kernel) (pa_cons (pv 0) (pa_cons (pe_bltn (v := .ty "bool") (by rfl) T.b_bool (by decide +kernel) rfl) pa_nil)))) (pe_one (pe_chain op_le op_le (pv 1) (pv 0) (pv 2))))))), ?_⟩
    cases v with
    | int i =>
      refine ⟨_, rfl, _, _, _, _, true, rfl, .ty "int", ty_flat hn, kt_int_int, true, rfl, iteT ?_⟩
      refine ⟨_, rfl, _, _, _, _, false, rfl, .ty "bool", ty_flat hn, kt_int_bool, false, rfl, true, rfl, iteT ?_⟩
      refine ⟨_, rfl, _, rfl, _, _, rfl, rfl, _, rfl, ?_⟩
      refine ite2 (fun h1 => ?_) (fun h1 => ?_)
      · have h1' : lo ≤ i := of_decide_eq_true h1
        refine ⟨_, rfl, _, _, rfl, rfl, ?_⟩
        simpa [isIntB, h1'] using k
      · have h1' : decide (lo ≤ i) = false := by simpa using h1
        simpa [isIntB, h1'] using k
    | bl b =>
      refine ⟨_, rfl, _, _, _, _, true, rfl, .ty "int", ty_flat hn, kt_bool_int, true, rfl, iteT ?_⟩
      refine ⟨_, rfl, _, _, _, _, true, rfl, .ty "bool", ty_flat hn, kt_bool_bool, true, rfl, false, rfl, iteF ?_⟩
      exact k
    | non =>
      refine ⟨_, rfl, _, _, _, _, false, rfl, .ty "int", ty_flat hn, kt_NoneType_int, false, rfl, iteF ?_⟩
      exact k
    | str x =>
      refine ⟨_, rfl, _, _, _, _, false, rfl, .ty "int", ty_flat hn, kt_str_int, false, rfl, iteF ?_⟩
      exact k
    | byt b => cases hn
    | flt b => cases hn
    | ref a => cases hn
    | ty n => cases hn
theorem ok_do_overlap (T : Top K mg C_Book C_Letter C_LivePost) : GFn P w K mg base CX0 1 "do_overlap" (spOverlap K) := by
  refine T.d_do_overlap.fn fun f fd F => F.ok sc_do_overlap (fun vs H Q E h => ?_) (fun cdv A outer s H vs Q E hr h => ?_)
  · obtain ⟨a, b, o, p, rfl, _⟩ := h
    rfl
  · obtain ⟨a, b, o, p, rfl, ha, hb, k⟩ := h
    refine ⟨_, (pss_one (ps_ret (pe_and (pe_cmpR op_eq (pe_ix ix_tup (pv 0) pe_int (fun _ _ => rfl)) (pe_ix ix_tup (pv 1) pe_int (fun _ _ => rfl)) (nomark _)) (pe_and (pe_cmpR op_le (pe_ix ix_tup (pv 0) pe_int (fun _ _ => rfl)) (pe_ix ix_tup (pv 1) pe_int (fun _ _ => rfl)) (nomark _)) (pe_one (pe_cmpR op_le (pe_ix ix_tup (pv 1) pe_int (fun _ _ => rfl)) (pe_ix ix_tup (pv 0) pe_int (fun _ _ => rfl)) (nomark _))))))), ?_⟩
    refine ⟨_, rfl, a, _, _, _, rfl, rfl, ha, rfl, _, rfl, b, _, _, _, rfl, rfl, hb, rfl, rfl, _, rfl, ?_⟩
    refine ite2 (fun h1 => ?_) (fun h1 => ?_)
    · have h1' : o.src = p.src := V.str.inj (of_decide_eq_true h1)
      refine ⟨_, rfl, a, _, _, _, rfl, rfl, ha, rfl, _, rfl, b, _, _, _, rfl, rfl, hb, rfl, _, _, rfl, rfl, _, rfl, ?_⟩
      refine ite2 (fun h2 => ?_) (fun h2 => ?_)
      · have h2' : o.first ≤ p.last := of_decide_eq_true h2
        refine ⟨_, rfl, b, _, _, _, rfl, rfl, hb, rfl, _, rfl, a, _, _, _, rfl, rfl, ha, rfl, _, _, rfl, rfl, ?_⟩
        simpa [overB, h1', h2'] using k
      · have h2' : ¬ o.first ≤ p.last := by simpa using h2
        simpa [overB, h1', h2'] using k
    · have h1' : ¬ o.src = p.src := fun q => h1 (decide_eq_true (congrArg V.str q))
      simpa [overB, h1'] using k
end

end MF
set_option Elab.async false
set_option linter.all false
set_option maxRecDepth 100000
set_option maxHeartbeats 2000000
set_option pp.maxSteps 600
namespace MF
open PySem PySem.Spec PyProof.Rows L2 StX
section
variable {P : Program} {w : World} {K : PySem.W.Frag} {mg : Str → Option Value} {base : Heap} {C_Book C_Letter C_LivePost : Addr}
theorem ok_is_address (T : Top K mg C_Book C_Letter C_LivePost) : GFn P w K mg base CX0 1 "is_address" spIsAddress := by
  refine T.d_is_address.fn fun f fd F => F.ok sc_is_address (fun vs H Q E h => ?_) (fun cdv A outer s H vs Q E hr h => ?_)
  · obtain ⟨v, rfl, _⟩ := h
    rfl
  · obtain ⟨v, rfl, hn, hs, k⟩ := h
    refine ⟨_, (pss_cons (ps_if (PW.pt (pw_or (pt_not (pt_val (pe_callB call_isi (by rfl) T.b_isinstance (by decide +kernel) (pa_cons (pv 0) (pa_cons (pe_bltn (v := .ty "str") (by rfl) T.b_str (by decide +kernel) rfl) pa_nil))))) (pw_or1 (pt_not (pt_chain op_le op_le pe_int (pe_callB call_len_str (by rfl) T.b_len (by decide +kernel) (pa_cons (pv 0) pa_nil)) (pe_gint T.c_MAX_LETTERS))))))
  (pss_one (ps_ret pe_bl))
  pss_nil)
  (pss_one (ps_ret (pe_callB (cr_all rfl) (by rfl) T.b_all (by decide +kernel) (pa_cons (pe_lc (own := [("letter", 1)]) (g := (gName 1)) (by rfl) sc_is_address.nd (pi_str (pv 0)) (blkOk_by (own := [("letter", 1)]) (N := ["value", "letter"]) (sc := defScope s_is_address) (by decide +kernel)) (fun _ _ _ _ _ => (pg_name (i := 1) sc_is_address.nd rfl (Or.inl rfl))) (fun _ _ _ _ _ => pts_nil) (fun _ _ _ _ _ => (pe_cmpR op_in_sign (pv 1) (pe_gstr T.c_LETTERS) rfl))) pa_nil))))), ?_⟩
    cases v with
    | str z =>
      refine ⟨_, rfl, _, _, _, _, true, rfl, .ty "str", ty_flat hn, kt_str_str, true, rfl, iteF ?_⟩
      refine ⟨_, rfl, z, rfl, hs, _, _, rfl, rfl, _, rfl, ?_⟩
      have h8 : ∀ b, isAddrB (.str z) = b → Q (.bl b) H := fun b e => by rw [← e]; exact k H (Same.refl H)
      refine ite2 (fun h1 => ?_) (fun h1 => ?_)
      · have h1' : 1 ≤ z.length := by have := of_decide_eq_true h1; omega
        refine ⟨_, _, rfl, rfl, _, rfl, ?_⟩
        by_cases h2 : z.length ≤ 8
        · have h2' : decide (((z.length : Nat) : Int) ≤ 8) = true := decide_eq_true (by omega)
          rw [h2']
          refine iteF ?_
          refine ⟨_, rfl, z, rfl, fun D hD => lc_it walk_str (fun i H' => Same H H' ∧ H' D = some (.lst ((z.cps.toList.take i).map fun c => V.bl (decide (c ∈ letters.cps.toList))))) ⟨Same.new hD, upd_same⟩ (fun _ _ _ _ => trivial) ?_ ?_⟩
          · rintro i x H1 H2 hi ⟨s1, l1⟩ ⟨rfl, c, hc, rfl⟩
            have hlt : i < z.cps.size := hi
            have hlen : z.cps.size = z.length := rfl
            refine ⟨rfl, yesT ?_⟩
            refine iteT ?_
            refine ⟨_, rfl, c, _, rfl, rfl, _, l1, ?_, ?_, ?_⟩
            · rw [List.length_map]
              exact Nat.lt_of_le_of_lt (List.length_take_le _ _) (Nat.lt_of_lt_of_le (Nat.lt_of_lt_of_le hlt (hlen ▸ h2)) (by decide))
            · intro b o e
              have nb : b ≠ D := ne_of_none e hD
              rw [upd_ne nb]
              exact s1 b o e
            · rw [upd_same]
              have e1 : z.cps.toList[i]? = some c := by simpa using hc
              rw [List.take_add_one, e1]
              simp [letters]
          · rintro H1 ⟨s1, l1⟩
            have e1 : z.cps.toList.take z.cps.size = z.cps.toList := List.take_of_length_le (by simp)
            rw [e1] at l1
            have e2 : (z.cps.toList.map fun c => V.bl (decide (c ∈ letters.cps.toList))) = (z.cps.toList.map fun c => decide (c ∈ letters.cps.toList)).map V.bl := by rw [List.map_map]; rfl
            rw [e2] at l1
            refine ⟨D, _, rfl, SqL.of l1, ?_⟩
            have e3 : ((z.cps.toList.map fun c => decide (c ∈ letters.cps.toList)).all id) = isAddrB (.str z) := by
              show _ = (decide (1 ≤ z.length) && decide (z.length ≤ 8) && z.cps.toList.all fun c => decide (c ∈ letters.cps.toList))
              rw [decide_eq_true h1', decide_eq_true h2, List.all_map]
              rfl
            rw [e3]
            exact k H1 s1
        · have h2' : decide (((z.length : Nat) : Int) ≤ 8) = false := decide_eq_false (by omega)
          rw [h2']
          exact iteT (h8 _ (by simp [isAddrB, h2]))
      · have h1' : ¬ 1 ≤ z.length := fun q => h1 (decide_eq_true (by omega))
        exact ⟨false, rfl, iteT (h8 _ (by simp [isAddrB, h1']))⟩
    | int i =>
      refine ⟨_, rfl, _, _, _, _, false, rfl, .ty "str", ty_flat hn, kt_int_str, false, rfl, iteT ?_⟩
      exact iteT (k H (Same.refl H))
    | bl b =>
      refine ⟨_, rfl, _, _, _, _, false, rfl, .ty "str", ty_flat hn, kt_bool_str, false, rfl, iteT ?_⟩
      exact iteT (k H (Same.refl H))
    | non =>
      refine ⟨_, rfl, _, _, _, _, false, rfl, .ty "str", ty_flat hn, kt_NoneType_str, false, rfl, iteT ?_⟩
      exact iteT (k H (Same.refl H))
    | byt b => cases hn
    | flt b => cases hn
    | ref a => cases hn
    | ty n => cases hn
end

end MF
set_option Elab.async false
set_option linter.all false
set_option maxRecDepth 100000
set_option maxHeartbeats 2000000
set_option pp.maxSteps 600
namespace MF
open PySem PySem.Spec PyProof.Rows L2 StX
section
variable {P : Program} {w : World} {K : PySem.W.Frag} {mg : Str → Option Value} {base : Heap} {C_Book C_Letter C_LivePost : Addr}
theorem ok_is_order (T : Top K mg C_Book C_Letter C_LivePost) : GFn P w K mg base CX0 2 "is_order" (spIsOrder K) := by
  have G_is_address : GFn P w K mg base CX0 1 "is_address" spIsAddress := ok_is_address T
  have G_is_integer : GFn P w K mg base CX0 1 "is_integer" spIsInteger := ok_is_integer T
  refine T.d_is_order.fn fun f fd F => F.ok sc_is_order (fun vs H Q E h => ?_) (fun cdv A outer s H vs Q E hr h => ?_)
  · obtain ⟨v, b, rfl, _⟩ := h
    rfl
  · obtain ⟨v, b, rfl, hv, k⟩ := h
    refine ⟨_, (pss_one (ps_match rfl sc_is_order.nd (pv 0) (Caps.cons (i := 1) rfl (Or.inl rfl) (Or.inl rfl) (Caps.cons (i := 2) rfl (Or.inl rfl) (Or.inl rfl) (Caps.cons (i := 3) rfl (Or.inl rfl) (Or.inl rfl) (Caps.cons (i := 4) rfl (Or.inl rfl) (Or.inl rfl) (Caps.cons (i := 5) rfl (Or.inl rfl) (Or.inl rfl) Caps.nil))))) (pt_val (pe_callB call_isi (by rfl) T.b_isinstance (by decide +kernel) (pa_cons (pv 0) (pa_cons (pe_bltn (v := .ty "tuple") (by rfl) T.b_tuple (by decide +kernel) rfl) pa_nil))))
  (pss_cons (ps_if (PW.pt (pw_or (pt_not (pt_val (pe_g G_is_address (hr.mono (by decide)) (pa_cons (pv 1) pa_nil)))) (pw_or (pt_not (pt_val (pe_g G_is_address (hr.mono (by decide)) (pa_cons (pv 2) pa_nil)))) (pw_or1 (pt_cmpR op_eq (pv 1) (pv 2) (nomark _))))))
  (pss_one (ps_ret pe_bl))
  pss_nil)
  (pss_cons (ps_if (PW.pt (pw_or (pt_not (pt_val (pe_g G_is_integer (hr.mono (by decide)) (pa_cons (pv 4) (pa_cons pe_int (pa_cons (pe_gint T.c_MAX_DAY) pa_nil)))))) (pw_or1 (pt_not (pt_val (pe_g G_is_integer (hr.mono (by decide)) (pa_cons (pv 3) (pa_cons pe_int (pa_cons (pv 4) pa_nil)))))))))
  (pss_one (ps_ret pe_bl))
  pss_nil)
  (pss_one (ps_ret (pe_g G_is_integer (hr.mono (by decide)) (pa_cons (pv 5) (pa_cons pe_int (pa_cons (pe_gint T.c_MAX_WAY) pa_nil))))))))
  (pss_one (ps_ret pe_bl)))), ?_⟩
    rcases hv with ⟨a, xs, rfl, hq, hf, rfl⟩ | ⟨a, xs, rfl, hq, rfl⟩ | ⟨hn, rfl⟩
    · by_cases hl : xs.length = 5
      · obtain ⟨s, t, f, l, y, rfl⟩ : ∃ s t f l y, xs = [s, t, f, l, y] := by
          match xs, hl with
          | [s, t, f, l, y], _ => exact ⟨s, t, f, l, y, rfl⟩
        refine ⟨_, rfl, .inl ⟨a, _, rfl, .inl hq, .inl ⟨rfl, ?_⟩⟩⟩
        refine ⟨_, rfl, _, _, _, _, true, rfl, .ty "tuple", tyT hq, kt_tuple_tuple, true, rfl, iteT ?_⟩
        have hs := hf s (by simp)
        have ht := hf t (by simp)
        have hf1 := hf f (by simp)
        have hl1 := hf l (by simp)
        have hy := hf y (by simp)
        have no : isOrdB [s, t, f, l, y] = false → ∀ H', Same H H' → Q (.bl false) H' := fun e H' q => by
          have := k H' q
          rw [e] at this
          exact this
        have yes : isOrdB [s, t, f, l, y] = true → ∀ H', Same H H' → Q (.bl true) H' := fun e H' q => by
          have := k H' q
          rw [e] at this
          exact this
        refine ⟨_, rfl, s, rfl, hs.1, hs.2, fun H1 e1 => ⟨_, rfl, ?_⟩⟩
        cases h1 : isAddrB s with
        | false => exact iteT (iteT (no (by simp [isOrdB, h1]) H1 e1))
        | true =>
          refine iteF ?_
          refine ⟨_, rfl, t, rfl, ht.1, ht.2, fun H2 e2 => ⟨_, rfl, ?_⟩⟩
          have e12 := e1.trans e2
          cases h2 : isAddrB t with
          | false => exact iteT (iteT (no (by simp [isOrdB, h1, h2]) H2 e12))
          | true =>
            refine iteF ?_
            obtain ⟨zs, rfl⟩ : ∃ z, s = V.str z := by
              cases s with
              | str z => exact ⟨z, rfl⟩
              | _ => cases h1
            obtain ⟨zt, rfl⟩ : ∃ z, t = V.str z := by
              cases t with
              | str z => exact ⟨z, rfl⟩
              | _ => cases h2
            refine ⟨_, rfl, _, rfl, rfl, _, rfl, ?_⟩
            refine ite2 (fun h3 => no ?_ H2 e12) (fun h3 => ?_)
            · simp [isOrdB, of_decide_eq_true h3]
            have h3' : decide (V.str zs = V.str zt) = false := by simpa using h3
            refine ⟨_, rfl, l, _, _, rfl, hl1.1, _, rfl, ?_⟩
            cases h4 : isIntB l 0 1000000000000000000 with
            | false => exact iteT (iteT (no (by simp [isOrdB, h4]) H2 e12))
            | true =>
              refine iteF ?_
              obtain ⟨il, rfl⟩ : ∃ i, l = V.int i := by
                cases l with
                | int i => exact ⟨i, rfl⟩
                | _ => cases h4
              refine ⟨_, rfl, _, rfl, f, _, _, rfl, hf1.1, _, rfl, ?_⟩
              cases h5 : isIntB f 0 il with
              | false => exact iteT (no (by simp [isOrdB, h5]) H2 e12)
              | true =>
                refine iteF ?_
                refine ⟨_, rfl, y, _, _, rfl, hy.1, ?_⟩
                have e6 : isOrdB [V.str zs, V.str zt, f, V.int il, y] = isIntB y 1 30 := by
                  simp only [isOrdB, h1, h2, h3', h4, h5, Bool.not_false, Bool.true_and]
                rw [← e6]
                exact k H2 e12
      · have e : isOrdB xs = false := by
          unfold isOrdB
          split
          · exact absurd rfl hl
          · rfl
        refine ⟨_, rfl, .inl ⟨a, _, rfl, .inl hq, .inr ⟨hl, ?_⟩⟩⟩
        have := k H (Same.refl H)
        rw [e] at this
        exact this
    · by_cases hl : xs.length = 5
      · refine ⟨_, rfl, .inl ⟨a, _, rfl, .inr hq, .inl ⟨hl, ?_⟩⟩⟩
        match xs, hl with
        | [s, t, f, l, y], _ =>
          exact ⟨_, rfl, _, _, _, _, false, rfl, .ty "tuple", tyL hq, kt_list_tuple, false, rfl, iteF (k H (Same.refl H))⟩
      · exact ⟨_, rfl, .inl ⟨a, _, rfl, .inr hq, .inr ⟨hl, k H (Same.refl H)⟩⟩⟩
    · exact ⟨_, rfl, .inr ⟨hn, k H (Same.refl H)⟩⟩
def spCheckOk : Sp := fun vs H Q _ => ∃ z d, vs = [.str z, .int d] ∧ isAddrB (.str z) = true ∧ 0 ≤ d ∧ d ≤ 1000000000000000000 ∧ ∀ H', Same H H' → Q .non H'
theorem isAddr_short {z : Str} (h : isAddrB (.str z) = true) : z.length ≤ 8 := by
  simp only [isAddrB, Bool.and_eq_true, decide_eq_true_eq] at h
  exact h.1.2
theorem ok_check_letter (T : Top K mg C_Book C_Letter C_LivePost) : GFn P w K mg base CX0 2 "check_letter" spCheckOk := by
  have G_is_address : GFn P w K mg base CX0 1 "is_address" spIsAddress := ok_is_address T
  have G_is_integer : GFn P w K mg base CX0 1 "is_integer" spIsInteger := ok_is_integer T
  refine T.d_check_letter.fn fun f fd F => F.ok sc_check_letter (fun vs H Q E h => ?_) (fun cdv A outer s H vs Q E hr h => ?_)
  · obtain ⟨z, d, rfl, _⟩ := h
    rfl
  · obtain ⟨z, d, rfl, ha, h0, h1, k⟩ := h
    refine ⟨_, (pss_cons (ps_if (pt_not (pt_val (pe_g G_is_address (hr.mono (by decide)) (pa_cons (pv 0) pa_nil))))
  (pss_one ps_never)
  pss_nil)
  (pss_one (ps_if (pt_not (pt_val (pe_g G_is_integer (hr.mono (by decide)) (pa_cons (pv 1) (pa_cons pe_int (pa_cons (pe_gint T.c_MAX_DAY) pa_nil))))))
  (pss_one ps_never)
  pss_nil))), ?_⟩
    refine ⟨_, rfl, _, rfl, rfl, Nat.le_trans (isAddr_short ha) (by decide), fun H1 e1 => ⟨_, rfl, ?_⟩⟩
    rw [ha]
    refine iteF ?_
    have e : isIntB (.int d) 0 1000000000000000000 = true := by simp [isIntB, h0, h1]
    refine ⟨_, rfl, _, _, _, rfl, rfl, _, rfl, ?_⟩
    rw [e]
    exact iteF (k H1 e1)
end

end MF
set_option Elab.async false
set_option linter.all false
set_option maxRecDepth 100000
set_option maxHeartbeats 2000000
set_option pp.maxSteps 600
namespace MF
open PySem PySem.Spec PyProof.Rows L2 StX
section
variable {P : Program} {w : World} {K : PySem.W.Frag} {mg : Str → Option Value} {base : Heap} {C_Book C_Letter C_LivePost : Addr}
def spInitIn (K : PySem.W.Frag) (C : Addr) : Sp := fun vs H Q _ => ∃ x dx t as os, vs = [.ref x, .ref t] ∧ H x = some (.ins C dx []) ∧ SqT K H t (as.map V.ref) ∧ OrdsAt K H as os ∧ Good os ∧
  ∀ H', H' x = some (.ins C dx [("listed", .ref t)]) → (∀ b o, H b = some o → b ≠ x → H' b = some o) → Q .non H'
def spBookInit (K : PySem.W.Frag) (C : Addr) : Sp := fun vs H Q E => ∃ v rest, vs = v :: rest ∧ rest.length ≤ sizeLine ∧ ∀ p, H p = Option.none → spInitIn K C [v, V.ref p] (upd H p (.tup rest)) Q E
theorem isOrd_flat {o : Ordr} (h : o.Ok) : ∀ x ∈ o.vals, notSeq x = true ∧ shortV x := by
  intro x hx
  have ls : o.src.length ≤ sizeLine := Nat.le_trans (by have := h.as; simp only [isAddrB, Bool.and_eq_true, decide_eq_true_eq] at this; exact this.1.2) (by decide)
  have lt : o.tgt.length ≤ sizeLine := Nat.le_trans (by have := h.at_; simp only [isAddrB, Bool.and_eq_true, decide_eq_true_eq] at this; exact this.1.2) (by decide)
  simp only [Ordr.vals, List.mem_cons, List.not_mem_nil, or_false] at hx
  rcases hx with rfl | rfl | rfl | rfl | rfl
  · exact ⟨rfl, ls⟩
  · exact ⟨rfl, lt⟩
  · exact ⟨rfl, trivial⟩
  · exact ⟨rfl, trivial⟩
  · exact ⟨rfl, trivial⟩
theorem ok_Book (T : Top K mg C_Book C_Letter C_LivePost) : IFn P w K mg base CX0 3 C_Book "Book" (spBookInit K C_Book) := by
  have G_is_order : GFn P w K mg base CX0 2 "is_order" (spIsOrder K) := ok_is_order T
  have G_do_overlap : GFn P w K mg base CX0 1 "do_overlap" (spOverlap K) := ok_do_overlap T
  refine T.d_BookX_initX.fn0 (sp := spInitIn K C_Book) sc_BookX_initX fun f cdv A outer s H vs Q E hr h => ?_
  obtain ⟨x, dx, t, as, os, rfl, hx, ht, ho, g, k⟩ := h
  refine ⟨_, (pss_cons (ps_for PassesOwn.never rfl (pi_enumT (by rfl) T.b_enumerate (pa_cons (pv 1) pa_nil)) (pg_tup rfl (pgs_cons (pg_name (i := 2) sc_BookX_initX.nd rfl (Or.inl rfl)) (pgs_cons (pg_name (i := 3) sc_BookX_initX.nd rfl (Or.inl rfl)) pgs_nil)))
  (pss_cons (ps_if (PW.pt (pw_or (pt_cmpR op_eq (pv 2) (pe_gint T.c_MAX_ORDERS_books) (nomark _)) (pw_or1 (pt_not (pt_val (pe_g G_is_order (hr.mono (by decide)) (pa_cons (pv 3) pa_nil)))))))
  (pss_one ps_never)
  pss_nil)
  (pss_one (ps_for PassesOwn.never rfl (pi_tup (pe_slice sl_tup (pv 1) po_none (po_some (pv 2)))) (pg_name (i := 4) sc_BookX_initX.nd rfl (Or.inl rfl))
  (pss_one (ps_if (pt_val (pe_g G_do_overlap (hr.mono (by decide)) (pa_cons (pv 4) (pa_cons (pv 3) pa_nil))))
  (pss_one ps_never)
  pss_nil))))))
  (pss_one (ps_fld (pv 0) (pv 1) rfl))), ?_⟩
  have hl : as.length = os.length := PySem.Paired.length ho
  refine ⟨_, rfl, t, _, rfl, ht, for_it walk_enumT (fun i σ H' => Same H H' ∧ ∃ v2 v3 v4, σ = [some (.ref x), some (.ref t), v2, v3, v4]) ⟨Same.refl H, _, _, _, rfl⟩ (fun i σ H' _ ⟨s1, _⟩ => MF.Same.tup s1 ht) ?_ ?_⟩
  · rintro i y σ H1 H2 hi ⟨s1, v2, v3, v4, rfl⟩ ⟨p, z1, z2, rfl, hp, rfl, e1, e2⟩
    cases e1
    rw [List.length_map] at hi
    obtain ⟨a, ea⟩ : ∃ a, as[i]? = some a := ⟨as[i], by simp [hi]⟩
    replace e2 : (as.map V.ref)[i]? = some z2 := e2
    rw [List.getElem?_map, ea] at e2
    cases e2
    obtain ⟨o, eo, oa⟩ := Paired.get ho ea
    have s2 : Same H (upd H1 p (.tup [.int (i : Nat), .ref a])) := MF.Same.upd s1 hp
    have om : o ∈ os := List.mem_of_getElem? eo
    refine ⟨p, _, rfl, .inl (.inl upd_same), rfl, _, _, rfl, _, _, rfl, rfl, ?_⟩
    refine ⟨_, rfl, rfl, _, rfl, ?_⟩
    have hi30 : i < 30 := Nat.lt_of_lt_of_le (hl ▸ hi) g.len
    have ne30 : decide (V.int ((i : Nat) : Int) = V.int 30) = false := decide_eq_false fun q => by
      have := V.int.inj q
      omega
    rw [ne30]
    refine iteF ?_
    refine ⟨_, rfl, _, true, rfl, .inl ⟨a, _, rfl, oa.mono s2, isOrd_flat (g.ok o om), (g.ok o om).b.symm⟩, fun H3 s3 => ⟨_, rfl, iteF ?_⟩⟩
    have s13 := s2.trans s3
    have tt : SqT K H3 t (as.map V.ref) := MF.Same.tup s13 ht
    refine ⟨_, rfl, _, rfl, _, rfl, t, _, rfl, tt, ?_, fun p2 hp2 => ?_⟩
    · rw [HT.sIx_nat, List.length_map]
      omega
    rw [cut_take _ _ (by rw [List.length_map]; omega)]
    refine ⟨p2, rfl, ⟨_, .inl (.inl upd_same)⟩, for_it (walk_tup (xs := (as.map V.ref).take i)) (fun j σ H' => Same H H' ∧ SqT K H' p2 ((as.map V.ref).take i) ∧ ∃ v4, σ = [some (.ref x), some (.ref t), some (.int (i : Nat)), some (.ref a), v4]) ⟨MF.Same.upd s13 hp2, .inl (.inl upd_same), _, rfl⟩ (fun j σ H' _ ⟨_, q, _⟩ => q) ?_ ?_⟩
    · rintro j y σ H4 H5 hj ⟨s4, q4, v4', rfl⟩ ⟨rfl, ey⟩
      rw [List.length_take, List.length_map] at hj
      have hji : j < i := by omega
      obtain ⟨b, eb⟩ : ∃ b, as[j]? = some b := ⟨as[j]'(by omega), by simp [show j < as.length by omega]⟩
      rw [List.getElem?_take, if_pos hji, List.getElem?_map, eb] at ey
      cases ey
      obtain ⟨o', eo', ob⟩ := Paired.get ho eb
      refine ⟨_, rfl, _, rfl, b, a, o', o, rfl, ob.mono s4, oa.mono s4, ⟨_, rfl, ?_⟩⟩
      have hov : overB o' o = false := by
        have hj' : j < os.length := by omega
        have hi' : i < os.length := by omega
        have := List.pairwise_iff_getElem.mp g.apart j i hj' hi' hji
        rw [List.getElem?_eq_getElem hj'] at eo'
        rw [List.getElem?_eq_getElem hi'] at eo
        cases eo'
        cases eo
        exact this
      rw [hov]
      exact iteF ⟨s4, q4, _, rfl⟩
    · rintro σ H4 ⟨s4, _, v4', rfl⟩
      exact ⟨s4, _, _, _, rfl⟩
  · rintro σ H1 ⟨s1, v2, v3, v4, rfl⟩
    refine ⟨_, rfl, _, rfl, x, C_Book, dx, [], rfl, s1 _ _ hx, T.cl_Book, T.n_Book_listed, (by show 0 < 1000; decide), ?_⟩
    refine k _ upd_same fun b o e hb => ?_
    rw [upd_ne hb]
    exact s1 b o e
theorem book_made' {C : Addr} {H : Hp} {as : List Addr} {os : List Ordr} {R : VK} {E : XK} (h : OrdsAt K H as os) (g : Good os) {x dx : Addr} (hx : H x = none) (hdx : H dx = none) (ne : dx ≠ x) (k : ∀ H', Same H H' → BookAt K C H' x os → R .non H') :
    spBookInit K C (.ref x :: as.map V.ref) (upd (upd H dx (.own x)) x (.ins C dx [])) R E := by
  have hl : as.length = os.length := PySem.Paired.length h
  have s0 : Same H (upd (upd H dx (.own x)) x (.ins C dx [])) := fun b o e => by
    rw [upd_ne (ne_of_none e hx), upd_ne (ne_of_none e hdx)]
    exact e
  refine ⟨_, _, rfl, ?_, fun p hp => ?_⟩
  · rw [List.length_map, hl]
    exact Nat.le_trans g.len (by decide)
  have s1 := s0.trans (Same.new (o := .tup (as.map V.ref)) hp)
  have nxp : x ≠ p := fun q => by
    subst q
    rw [upd_same] at hp
    cases hp
  refine ⟨x, dx, p, as, os, rfl, by rw [upd_ne nxp, upd_same], .inl (.inl upd_same), h.mono s1, g, fun H' hx' kp => ?_⟩
  have s2 : Same H H' := fun b o e => kp b o (s1 b o e) (ne_of_none e hx)
  refine k H' s2 ⟨dx, p, as, hx', .inl (.inl (kp p _ upd_same nxp.symm)), h.mono s2⟩
theorem book_made {C : Addr} {H : Hp} {as : List Addr} {os : List Ordr} {Q : VK} {E : XK} (h : OrdsAt K H as os) (g : Good os) (k : ∀ H' p, Same H H' → H p = none → BookAt K C H' p os → Q (.ref p) H') :
    ∀ x dx, H x = none → H dx = none → dx ≠ x → spBookInit K C (.ref x :: as.map V.ref) (upd (upd H dx (.own x)) x (.ins C dx [])) (fun v H2 => v = .non ∧ Q (.ref x) H2) E := by
  intro x dx hx hdx ne
  exact book_made' h g hx hdx ne fun H' s b => ⟨rfl, k H' x s hx b⟩
def spBookOf (K : PySem.W.Frag) (C : Addr) : Sp := fun vs H Q _ => ∃ t as os, vs = [.ref t] ∧ (SqT K H t (as.map V.ref) ∨ SqL K H t (as.map V.ref)) ∧ OrdsAt K H as os ∧ Good os ∧ ∀ H' p, Same H H' → H p = none → BookAt K C H' p os → Q (.ref p) H'
theorem ok_book_of (T : Top K mg C_Book C_Letter C_LivePost) : GFn P w K mg base CX0 5 "book_of" (spBookOf K C_Book) := by
  have G_Book : IFn P w K mg base CX0 3 C_Book "Book" (spBookInit K C_Book) := ok_Book T
  refine T.d_book_of.fn fun f fd F => F.ok sc_book_of (fun vs H Q E h => ?_) (fun cdv A outer s H vs Q E hr h => ?_)
  · obtain ⟨t, as, os, rfl, _⟩ := h
    rfl
  · obtain ⟨t, as, os, rfl, ht, ho, g, k⟩ := h
    refine ⟨_, (pss_one (ps_ret (pe_mkS G_Book (hr.mono (by decide)) pass0 (pv 0)))), ?_⟩
    refine ⟨_, rfl, t, _, rfl, ht, ?_⟩
    show ∀ x dx, H x = none → H dx = none → dx ≠ x → spBookInit K C_Book (.ref x :: (as.map V.ref ++ [])) _ _ _
    rw [List.append_nil]
    exact book_made ho g k
def spBookAdd (K : PySem.W.Frag) (C : Addr) : Sp := fun vs H Q _ => ∃ a b os ps, vs = [.ref a, .ref b] ∧ BookAt K C H a os ∧ BookAt K C H b ps ∧ Good (os ++ ps) ∧ ∀ H' p, Same H H' → H p = none → BookAt K C H' p (os ++ ps) → Q (.ref p) H'
theorem ok_Book_add (T : Top K mg C_Book C_Letter C_LivePost) : MFn P w K mg base CX0 6 C_Book "__add__" (spBookAdd K C_Book) := by
  have G_book_of : GFn P w K mg base CX0 5 "book_of" (spBookOf K C_Book) := ok_book_of T
  refine T.d_BookX_addX.fn fun f fd F => F.ok sc_BookX_addX (fun vs H Q E h => ?_) (fun cdv A outer s H vs Q E hr h => ?_)
  · obtain ⟨a, b, os, ps, rfl, _⟩ := h
    rfl
  · obtain ⟨a, b, os, ps, rfl, ⟨dx, t, as, h1, h2, h3⟩, ⟨dy, u, bs, h4, h5, h6⟩, g, k⟩ := h
    refine ⟨_, (pss_one (ps_ret (pe_g G_book_of (hr.mono (by decide)) (pa_cons (pe_op op_catA (pe_fld (pv 0) rfl) (pe_fld (pv 1) rfl)) pa_nil)))), ?_⟩
    have la : as.length = os.length := PySem.Paired.length h3
    have lb : bs.length = ps.length := PySem.Paired.length h6
    refine ⟨_, rfl, a, C_Book, dx, _, _, rfl, h1, T.cl_Book, T.n_Book_listed, rfl, _, rfl, b, C_Book, dy, _, _, rfl, h4, T.cl_Book, T.n_Book_listed, rfl, t, u, _, _, rfl, rfl, h2, h5, ?_, fun e => ?_, fun _ e => ?_, fun _ _ p hp => ?_⟩
    · rw [List.length_map, List.length_map, la, lb, ← List.length_append]
      exact Nat.le_trans g.len (by decide)
    · have : os = [] := List.eq_nil_of_length_eq_zero (by rw [← la]; simpa using e)
      subst this
      exact ⟨u, bs, ps, rfl, .inl h5, h6, g, k⟩
    · have : ps = [] := List.eq_nil_of_length_eq_zero (by rw [← lb]; simpa using e)
      subst this
      rw [List.append_nil] at g k
      exact ⟨t, as, os, rfl, .inl h2, h3, g, k⟩
    · have s1 := Same.new (o := .tup (as.map V.ref ++ bs.map V.ref)) hp
      refine ⟨p, as ++ bs, os ++ ps, rfl, .inl ?_, Paired.append (OrdsAt.mono h3 s1) (OrdsAt.mono h6 s1), g, fun H' q e1 e2 e3 => k H' q (s1.trans e1) (s1.free e2) e3⟩
      rw [List.map_append]
      exact .inl (.inl upd_same)
end

end MF
set_option Elab.async false
set_option linter.all false
set_option maxRecDepth 100000
set_option maxHeartbeats 2000000
set_option pp.maxSteps 600
namespace MF
open PySem PySem.Spec PyProof.Rows L2 StX
section
variable {P : Program} {w : World} {K : PySem.W.Frag} {mg : Str → Option Value} {base : Heap} {C_Book C_Letter C_LivePost : Addr}
def optI : Option Nat → V
  | none => .non
  | some i => .int (i : Nat)
def optZ : Option Int → V
  | none => .non
  | some i => .int i
def spOrderFor (K : PySem.W.Frag) (C : Addr) : Sp := fun vs H Q _ => ∃ p os z d, vs = [.ref p, .str z, .int d] ∧ BookAt K C H p os ∧ ∀ H', Same H H' → Q (optI (ordFor os z d)) H'
theorem ok_order_for (T : Top K mg C_Book C_Letter C_LivePost) : MFn P w K mg base CX0 1 C_Book "order_for" (spOrderFor K C_Book) := by
  refine T.d_Book_order_for.fn fun f fd F => F.ok sc_Book_order_for (fun vs H Q E h => ?_) (fun cdv A outer s H vs Q E hr h => ?_)
  · obtain ⟨p, os, z, d, rfl, _⟩ := h
    rfl
  · obtain ⟨p, os, z, d, rfl, ⟨dx, t, as, h1, h2, h3⟩, k⟩ := h
    refine ⟨_, (pss_cons (ps_for PassesOwn.never rfl (pi_enumT (by rfl) T.b_enumerate (pa_cons (pe_fld (pv 0) rfl) pa_nil)) (pg_tup rfl (pgs_cons (pg_name (i := 3) sc_Book_order_for.nd rfl (Or.inl rfl)) (pgs_cons (pg_tup rfl (pgs_cons (pg_name (i := 4) sc_Book_order_for.nd rfl (Or.inl rfl)) (pgs_cons (pg_name (i := 5) sc_Book_order_for.nd rfl (Or.inl rfl)) (pgs_cons (pg_name (i := 6) sc_Book_order_for.nd rfl (Or.inl rfl)) (pgs_cons (pg_name (i := 7) sc_Book_order_for.nd rfl (Or.inl rfl)) (pgs_cons (pg_name (i := 8) sc_Book_order_for.nd rfl (Or.inl rfl)) pgs_nil)))))) pgs_nil)))
  (pss_one (ps_if (PW.pt (pw_and (pt_cmpR op_eq (pv 4) (pv 1) (nomark _)) (pw_and1 (pt_chain op_le op_le (pv 6) (pv 2) (pv 7)))))
  (pss_one (ps_ret (pv 3)))
  pss_nil)))
  (pss_one (ps_ret pe_non))), ?_⟩
    have hl : as.length = os.length := PySem.Paired.length h3
    refine ⟨_, rfl, p, C_Book, dx, _, _, rfl, h1, T.cl_Book, T.n_Book_listed, rfl, t, _, rfl, h2, for_it walk_enumT (fun i σ H' => Same H H' ∧ (∃ v3 v4 v5 v6 v7 v8, σ = [some (.ref p), some (.str z), some (.int d), v3, v4, v5, v6, v7, v8]) ∧ ∀ (j : Nat) q, j < i → os[j]? = some q → holds q z d = false)
      ⟨Same.refl H, ⟨_, _, _, _, _, _, rfl⟩, fun j q hj => absurd hj (Nat.not_lt_zero _)⟩ (fun i σ H' _ ⟨s1, _⟩ => MF.Same.tup s1 h2) ?_ ?_⟩
    · rintro i y σ H1 H2 hi ⟨s1, ⟨v3, v4, v5, v6, v7, v8, rfl⟩, hn⟩ ⟨q, z1, z2, rfl, hq, rfl, e1, e2⟩
      cases e1
      rw [List.length_map] at hi
      obtain ⟨a, ea⟩ : ∃ a, as[i]? = some a := ⟨as[i], by simp [hi]⟩
      replace e2 : (as.map V.ref)[i]? = some z2 := e2
      rw [List.getElem?_map, ea] at e2
      cases e2
      obtain ⟨o, eo, oa⟩ := Paired.get h3 ea
      have s2 : Same H (upd H1 q (.tup [.int (i : Nat), .ref a])) := MF.Same.upd s1 hq
      refine ⟨q, _, rfl, .inl (.inl upd_same), rfl, _, _, rfl, _, _, rfl, a, o.vals, rfl, oa.mono s2, rfl, _, _, rfl, _, _, rfl, _, _, rfl, _, _, rfl, _, _, rfl, rfl, rfl, ?_⟩
      refine ⟨_, rfl, _, rfl, rfl, _, rfl, ?_⟩
      have fin : holds o z d = false → (Same H (upd H1 q (.tup [.int (i : Nat), .ref a])) ∧ (∃ v3 v4 v5 v6 v7 v8, ([some (.ref p), some (.str z), some (.int d), some (.int (i : Nat)), some (.str o.src), some (.str o.tgt), some (.int o.first), some (.int o.last), some (.int o.way)] : L2.St) = [some (.ref p), some (.str z), some (.int d), v3, v4, v5, v6, v7, v8]) ∧ ∀ (j : Nat) q, j < i + 1 → os[j]? = some q → holds q z d = false) := fun hh =>
        ⟨s2, ⟨_, _, _, _, _, _, rfl⟩, fun j q hj ej => by
          by_cases hji : j < i
          · exact hn j q hji ej
          · have : j = i := by omega
            subst this
            rw [eo] at ej
            cases ej
            exact hh⟩
      refine ite2 (fun c1 => ?_) (fun c1 => ?_)
      · have c1' : o.src = z := V.str.inj (of_decide_eq_true c1)
        refine ⟨_, rfl, _, rfl, _, _, rfl, rfl, _, rfl, ?_⟩
        refine ite2 (fun c2 => ?_) (fun c2 => ?_)
        · have c2' : o.first ≤ d := of_decide_eq_true c2
          refine ⟨_, rfl, _, _, rfl, rfl, _, rfl, ?_⟩
          refine ite2 (fun c3 => ?_) (fun c3 => ?_)
          · have c3' : d ≤ o.last := of_decide_eq_true c3
            refine ⟨_, rfl, ?_⟩
            have e : ordFor os z d = some i := ordFor_is hn eo (by simp [holds, c1', c2', c3'])
            have := k _ s2
            rw [e] at this
            exact this
          · have c3' : ¬ d ≤ o.last := fun q => c3 (decide_eq_true q)
            exact fin (by simp [holds, c3'])
        · have c2' : ¬ o.first ≤ d := fun q => c2 (decide_eq_true q)
          refine ⟨_, rfl, ?_⟩
          exact iteF (fin (by simp [holds, c2']))
      · have c1' : ¬ o.src = z := fun q => c1 (decide_eq_true (congrArg V.str q))
        exact iteF (fin (by simp [holds, c1']))
    · rintro σ H1 ⟨s1, ⟨v3, v4, v5, v6, v7, v8, rfl⟩, hn⟩
      have e : ordFor os z d = none := ordFor_none fun q hq => by
        obtain ⟨j, hj, ej⟩ := List.getElem_of_mem hq
        exact hn j q (by rw [List.length_map, hl]; exact hj) (by rw [List.getElem?_eq_getElem hj, ej])
      have := k _ s1
      rw [e] at this
      exact this
end

end MF
set_option Elab.async false
set_option linter.all false
set_option maxRecDepth 100000
set_option maxHeartbeats 2000000
set_option pp.maxSteps 600
namespace MF
open PySem PySem.Spec PyProof.Rows L2 StX
section
variable {P : Program} {w : World} {K : PySem.W.Frag} {mg : Str → Option Value} {base : Heap} {C_Book C_Letter C_LivePost : Addr}
theorem changes_append (d : Int) : ∀ a b : List Ordr, changes (a ++ b) d = changes a d ++ changes b d
  | [], b => rfl
  | o :: a, b => by
    show ([o.first, o.last + 1].filter fun c => decide (d < c)) ++ changes (a ++ b) d = (([o.first, o.last + 1].filter fun c => decide (d < c)) ++ changes a d) ++ changes b d
    rw [changes_append d a b, List.append_assoc]
theorem changes_len (d : Int) : ∀ a : List Ordr, (changes a d).length ≤ 2 * a.length
  | [] => Nat.zero_le _
  | o :: a => by
    unfold changes
    have h1 := List.length_filter_le (fun c => decide (d < c)) [o.first, o.last + 1]
    have h2 := changes_len d a
    rw [List.length_append, List.length_cons]
    simp only [List.length_cons, List.length_nil] at h1
    omega
theorem DpAll.ints {H : Hp} : ∀ ns : List Int, DpAll K H (ns.map V.int) (ns.map PyData.int)
  | [] => .nil
  | n :: ns => .cons (.int n) (DpAll.ints ns)
def spNextChange (K : PySem.W.Frag) (C : Addr) : Sp := fun vs H Q _ => ∃ p os d, vs = [.ref p, .int d] ∧ BookAt K C H p os ∧ os.length ≤ 30 ∧ ∀ H', Same H H' → Q (optZ (nextCh os d)) H'
theorem ok_next_change (T : Top K mg C_Book C_Letter C_LivePost) : MFn P w K mg base CX0 1 C_Book "next_change" (spNextChange K C_Book) := by
  refine T.d_Book_next_change.fn fun f fd F => F.ok sc_Book_next_change (fun vs H Q E h => ?_) (fun cdv A outer s H vs Q E hr h => ?_)
  · obtain ⟨p, os, d, rfl, _⟩ := h
    rfl
  · obtain ⟨p, os, d, rfl, ⟨dx, t, as, h1, h2, h3⟩, h30, k⟩ := h
    refine ⟨_, (pss_cons (ps_set (i := 2) sc_Book_next_change.nd rfl (Or.inl rfl) (pe_lst pa_nil))
  (pss_cons (ps_for PassesOwn.never rfl (pi_tup (pe_fld (pv 0) rfl)) (pg_tup rfl (pgs_cons (pg_name (i := 3) sc_Book_next_change.nd rfl (Or.inl rfl)) (pgs_cons (pg_name (i := 4) sc_Book_next_change.nd rfl (Or.inl rfl)) (pgs_cons (pg_name (i := 5) sc_Book_next_change.nd rfl (Or.inl rfl)) (pgs_cons (pg_name (i := 6) sc_Book_next_change.nd rfl (Or.inl rfl)) (pgs_cons (pg_name (i := 7) sc_Book_next_change.nd rfl (Or.inl rfl)) pgs_nil))))))
  (pss_one (ps_expr (pe_bm PySem.F.plainAttrs_list PySem.F.slot_list_extend PySem.F.type_list_extend mt_extend (pv 2) (pa_cons (pe_lc (own := [("change", 8)]) (g := (gName 8)) (by rfl) sc_Book_next_change.nd (pi_tup (pe_tup (pa_cons (pv 5) (pa_cons (pe_op op_add (pv 6) pe_int) pa_nil)))) (blkOk_by (own := [("change", 8)]) (N := ["self", "day", "found", "source", "target", "first", "last", "way", "change"]) (sc := defScope s_Book_next_change) (by decide +kernel)) (fun _ _ _ _ _ => (pg_name (i := 8) sc_Book_next_change.nd rfl (Or.inl rfl))) (fun _ _ _ _ _ => (pts_one (pt_cmpR op_gt (pv 8) (pv 1) (nomark _)))) (fun _ _ _ _ _ => (pv 8))) pa_nil)))))
  (pss_one (ps_ret (pe_ifExp (pt_cmpR (op_neD hr.units) (pv 2) (pe_lst pa_nil) (nomark _)) (pe_callB (cr_min rfl) (by rfl) T.b_min (by decide +kernel) (pa_cons (pv 2) pa_nil)) pe_non))))), ?_⟩
    have hl : as.length = os.length := PySem.Paired.length h3
    refine ⟨Nat.zero_le _, fun l hl0 => ?_⟩
    have s0 : Same H (upd H l (.lst [])) := Same.new hl0
    refine ⟨_, rfl, p, C_Book, dx, _, _, rfl, s0 _ _ h1, T.cl_Book, T.n_Book_listed, rfl, t, rfl, ⟨_, MF.Same.tup s0 h2⟩, for_it (walk_tup (xs := as.map V.ref)) (fun i σ H' => Same H H' ∧ H' l = some (.lst ((changes (os.take i) d).map V.int)) ∧ ∃ v3 v4 v5 v6 v7 v8, σ = [some (.ref p), some (.int d), some (.ref l), v3, v4, v5, v6, v7, v8])
      ⟨s0, upd_same, _, _, _, _, _, _, rfl⟩ (fun i σ H' _ ⟨s1, _⟩ => MF.Same.tup s1 h2) ?_ ?_⟩
    · rintro i y σ H1 H2 hi ⟨s1, el, v3, v4, v5, v6, v7, v8, rfl⟩ ⟨rfl, ey⟩
      rw [List.length_map] at hi
      obtain ⟨a, ea⟩ : ∃ a, as[i]? = some a := ⟨as[i], by simp [hi]⟩
      rw [List.getElem?_map, ea] at ey
      cases ey
      obtain ⟨o, eo, oa⟩ := Paired.get h3 ea
      have hio : i < os.length := hl ▸ hi
      refine ⟨a, o.vals, rfl, oa.mono s1, rfl, _, _, rfl, _, _, rfl, _, _, rfl, _, _, rfl, _, _, rfl, rfl, ?_⟩
      refine ⟨_, rfl, .inl ⟨rfl, _, SqL.of el⟩, ?_⟩
      refine ⟨_, rfl, _, rfl, _, _, rfl, rfl, (by show 2 ≤ sizeLine; decide), fun q hq => ?_⟩
      have s2 : Same H (upd H2 q (.tup [.int o.first, .int (o.last + 1)])) := MF.Same.upd s1 hq
      have nlq : l ≠ q := ne_of_none el hq
      have el2 : upd H2 q (.tup [.int o.first, .int (o.last + 1)]) l = some (.lst ((changes (os.take i) d).map V.int)) := by rw [upd_ne nlq]; exact el
      refine ⟨q, rfl, ⟨_, .inl (.inl upd_same)⟩, fun D hD => ?_⟩
      have nlD : l ≠ D := ne_of_none el2 hD
      have nqD : q ≠ D := ne_of_none (o := .tup [.int o.first, .int (o.last + 1)]) upd_same hD
      refine lc_it (walk_tup (xs := [V.int o.first, V.int (o.last + 1)])) (fun j H' => Same H H' ∧ H' l = some (.lst ((changes (os.take i) d).map V.int)) ∧ H' q = some (.tup [.int o.first, .int (o.last + 1)]) ∧ H' D = some (.lst ((([o.first, o.last + 1].take j).filter fun c => decide (d < c)).map V.int)))
        ⟨MF.Same.upd s2 hD, by rw [upd_ne nlD]; exact el2, by rw [upd_ne nqD, upd_same], by rw [upd_same]; rfl⟩ (fun j H' _ ⟨_, _, e, _⟩ => .inl (.inl e)) ?_ ?_
      · rintro j y H3 H4 hj ⟨s3, l3, q3, d3⟩ ⟨rfl, ey⟩
        have hj2 : j < 2 := hj
        obtain ⟨c, rfl, ec⟩ : ∃ c, y = V.int c ∧ [o.first, o.last + 1][j]? = some c := by
          have : j = 0 ∨ j = 1 := by omega
          rcases this with rfl | rfl
          · cases ey; exact ⟨_, rfl, rfl⟩
          · cases ey; exact ⟨_, rfl, rfl⟩
        have et : [o.first, o.last + 1].take (j + 1) = [o.first, o.last + 1].take j ++ [c] := by
          rw [List.take_add_one, ec]
          rfl
        refine ⟨rfl, ?_⟩
        refine ⟨_, rfl, _, rfl, _, _, rfl, rfl, _, rfl, ?_⟩
        refine ite2 (fun c1 => ?_) (fun c1 => ?_)
        · have c1' : d < c := of_decide_eq_true c1
          refine ⟨_, rfl, _, d3, ?_, ?_, ?_, ?_, ?_⟩
          · rw [List.length_map]
            exact Nat.lt_of_le_of_lt (List.length_filter_le _ _) (Nat.lt_of_le_of_lt (List.length_take_le _ _) (Nat.lt_of_lt_of_le hj2 (by decide)))
          · intro b u e
            have nb : b ≠ D := ne_of_none (s2 b u e) hD
            rw [upd_ne nb]
            exact s3 b u e
          · rw [upd_ne nlD]; exact l3
          · rw [upd_ne nqD]; exact q3
          · rw [upd_same, et, List.filter_append, List.map_append]
            simp [c1']
        · have c1' : ¬ d < c := fun z => c1 (decide_eq_true z)
          refine ⟨s3, l3, q3, ?_⟩
          rw [d3, et, List.filter_append, List.map_append]
          simp [c1']
      · rintro H3 ⟨s3, l3, q3, d3⟩
        have e2 : [o.first, o.last + 1].take 2 = [o.first, o.last + 1] := rfl
        have et : os.take (i + 1) = os.take i ++ [o] := by
          rw [List.take_add_one, eo]
          rfl
        have ec : changes (os.take (i + 1)) d = changes (os.take i) d ++ ([o.first, o.last + 1].filter fun c => decide (d < c)) := by
          rw [et, changes_append]
          show _ ++ changes [o] d = _
          unfold changes
          simp [changes]
        refine ⟨l, D, _, _, rfl, rfl, l3, d3, ?_, ?_, ?_, _, _, _, _, _, _, rfl⟩
        · have := changes_len d (os.take i)
          have h4 : (([o.first, o.last + 1].take [V.int o.first, V.int (o.last + 1)].length).filter fun c => decide (d < c)).length ≤ 2 := List.length_filter_le _ _
          rw [List.length_map, List.length_map]
          rw [List.length_take] at this
          have h5 : 62 ≤ sizeLine := by decide
          omega
        · intro b u e
          have nb : b ≠ l := ne_of_none e hl0
          rw [upd_ne nb]
          exact s3 b u e
        · rw [upd_same, ec, List.map_append]
          rfl
    · rintro σ H1 ⟨s1, el, v3, v4, v5, v6, v7, v8, rfl⟩
      rw [List.length_map, hl, List.take_length] at el
      refine ⟨_, rfl, Nat.zero_le _, fun r hr0 => ?_⟩
      have s2 := MF.Same.upd (o := .lst []) s1 hr0
      have nlr : l ≠ r := ne_of_none el hr0
      have el2 : upd H1 r (.lst []) l = some (.lst ((changes os d).map V.int)) := by rw [upd_ne nlr]; exact el
      refine ⟨.list ((changes os d).map PyData.int), .list [], .lst (SqL.of el2) (DpAll.ints _), .lst (SqL.of upd_same) .nil, PySem.W.ke_shaped_ints _, rfl, _, rfl, ?_⟩
      cases ec : changes os d with
      | nil =>
        refine iteF ?_
        have e : nextCh os d = none := by unfold nextCh; rw [ec]; rfl
        have := k _ s2
        rw [e] at this
        exact this
      | cons c cs =>
        refine iteT ?_
        rw [ec] at el2
        refine ⟨_, rfl, l, _, rfl, SqL.of el2, Nat.succ_pos _, fun m hm hle => ?_⟩
        have e : nextCh os d = some m := by
          unfold nextCh
          rw [ec]
          exact leastOf_some.mpr ⟨hm, hle⟩
        have := k _ s2
        rw [e] at this
        exact this
end

end MF
set_option Elab.async false
set_option linter.all false
set_option maxRecDepth 100000
set_option maxHeartbeats 2000000
set_option pp.maxSteps 600
namespace MF
open PySem PySem.Spec PyProof.Rows L2 StX
section
variable {P : Program} {w : World} {K : PySem.W.Frag} {mg : Str → Option Value} {base : Heap} {C_Book C_Letter C_LivePost : Addr}
def lf (bk : Addr) (x : Str) (d n : Int) (kn : Addr) (e : Bool) (c : V) : List (Str × V) := [("book", .ref bk), ("address", .str x), ("day", .int d), ("count", .int n), ("known", .ref kn), ("is_endless", .bl e), ("change", c)]
def LetterAt (C : Addr) (H : Hp) (p kn : Addr) (kvs : List (Key × V)) (bk : Addr) (x : Str) (d n : Int) (e : Bool) (c : Option Int) : Prop := (∃ dx, H p = some (.ins C dx (lf bk x d n kn e (optZ c)))) ∧ H kn = some (.dK kvs)
theorem LetterAt.ne {C : Addr} {H : Hp} {p kn : Addr} {kvs : List (Key × V)} {bk : Addr} {x : Str} {d n : Int} {e : Bool} {c : Option Int} (h : LetterAt C H p kn kvs bk x d n e c) : p ≠ kn := by
  obtain ⟨⟨dx, h1⟩, h2⟩ := h
  exact ne_of h1 h2 (by intro z; cases z)
theorem LetterAt.keep {C : Addr} {H H' : Hp} {p kn : Addr} {kvs : List (Key × V)} {bk : Addr} {x : Str} {d n : Int} {e : Bool} {c : Option Int} (h : LetterAt C H p kn kvs bk x d n e c) (k1 : ∀ o, H p = some o → H' p = some o) (k2 : ∀ o, H kn = some o → H' kn = some o) : LetterAt C H' p kn kvs bk x d n e c := by
  obtain ⟨⟨dx, h1⟩, h2⟩ := h
  exact ⟨⟨dx, k1 _ h1⟩, k2 _ h2⟩
theorem BookAt.keep {C : Addr} {H H' : Hp} {p q : Addr} {os : List Ordr} (h : BookAt K C H p os) (hq : ∃ o, H q = some o ∧ (∀ xs, o ≠ .tup xs) ∧ (∀ u xs, o ≠ .frz u (.tup xs))) (ne : p ≠ q) (k : ∀ b u, H b = some u → b ≠ q → H' b = some u) : BookAt K C H' p os := by
  obtain ⟨dx, t, as, h1, h2, h3⟩ := h
  obtain ⟨oq, eq, n1, n2⟩ := hq
  have tp : ∀ a xs, SqT K H a xs → SqT K H' a xs := fun a xs z => by
    rcases z with (z | ⟨u, z⟩) | z
    · refine .inl (.inl (k _ _ z fun w => ?_))
      rw [w, eq] at z
      exact n1 _ (Option.some.inj z)
    · refine .inl (.inr ⟨u, k _ _ z fun w => ?_⟩)
      rw [w, eq] at z
      exact n2 _ _ (Option.some.inj z)
    · exact .inr z
  exact ⟨dx, t, as, k _ _ h1 ne, tp _ _ h2, PySem.Paired.mono (fun a o z => tp a _ z) h3⟩
def spLetterInit (K : PySem.W.Frag) (CB CL : Addr) : Sp := fun vs H Q _ => ∃ p dx bk os x d, vs = [.ref p, .ref bk, .str x, .int d] ∧ H p = some (.ins CL dx []) ∧ BookAt K CB H bk os ∧ os.length ≤ 30 ∧ bk ≠ p ∧
  ∀ H' kn, H kn = none → LetterAt CL H' p kn [] bk x d 0 false (nextCh os d) → (∀ b u, H b = some u → b ≠ p → H' b = some u) → Q .non H'
def spLetterInitX (K : PySem.W.Frag) (CB CL : Addr) : Sp := fun vs H Q _ => ∃ p dx bk os x d, vs = [.ref p, .ref bk, .str x, .int d] ∧ H p = some (.ins CL dx []) ∧ BookAt K CB H bk os ∧ os.length ≤ 30 ∧ bk ≠ p ∧
  ∀ H' kn, H kn = none → LetterAt CL H' p kn [] bk x d 0 false (nextCh os d) → (∀ b u, H b = some u → b ≠ p → H' b = some u) → (∃ fs, H' p = some (.ins CL dx fs)) → Q .non H'
structure LCls (K : PySem.W.Frag) (C : Addr) : Prop where
  cl : Cls K C
  book : NoAttr K C "book"
  address : NoAttr K C "address"
  day : NoAttr K C "day"
  count : NoAttr K C "count"
  known : NoAttr K C "known"
  is_endless : NoAttr K C "is_endless"
  change : NoAttr K C "change"
theorem lcls (T : Top K mg C_Book C_Letter C_LivePost) : LCls K C_Letter := ⟨T.cl_Letter, T.n_Letter_book, T.n_Letter_address, T.n_Letter_day, T.n_Letter_count, T.n_Letter_known, T.n_Letter_is_endless, T.n_Letter_change⟩
theorem letter_initX (T : Top K mg C_Book C_Letter C_LivePost) {C : Addr} (L : LCls K C) {f : Addr} {fd : FuncData} (F : Fun K "__init__" "Letter.__init__" s_LetterX_initX f fd) : FnOk P w K mg base CX0 2 f fd ["self", "book", "address", "day"] (spLetterInitX K C_Book C) := by
  have M_Book_next_change : MFn P w K mg base CX0 1 C_Book "next_change" (spNextChange K C_Book) := ok_next_change T
  refine F.ok sc_LetterX_initX (fun vs H Q E h => ?_) (fun cdv A outer s H vs Q E hr h => ?_)
  · obtain ⟨p, dx, bk, os, x, d, rfl, _⟩ := h
    rfl
  · obtain ⟨p, dx, bk, os, x, d, rfl, hp, hb, h30, nbp, k⟩ := h
    refine ⟨_, (pss_cons (ps_fld (pv 0) (pv 1) rfl)
  (pss_cons (ps_fld (pv 0) (pv 2) rfl)
  (pss_cons (ps_fld (pv 0) (pv 3) rfl)
  (pss_cons (ps_fld (pv 0) pe_int rfl)
  (pss_cons (ps_fld (pv 0) pe_dnewK rfl)
  (pss_cons (ps_fld (pv 0) pe_bl rfl)
  (pss_one (ps_fld (pv 0) (pe_m M_Book_next_change T.cl_Book (hr.mono (by decide)) (pv 1) (pa_cons (pv 3) pa_nil)) rfl)))))))), ?_⟩
    have hpi : ∃ o, H p = some o ∧ (∀ xs, o ≠ HO.tup xs) ∧ (∀ u xs, o ≠ HO.frz u (.tup xs)) := ⟨_, hp, (fun _ z => by cases z), (fun _ _ z => by cases z)⟩
    refine ⟨_, rfl, _, rfl, p, C, dx, _, rfl, hp, L.cl, L.book, (by show 0 < 1000; decide), ?_⟩
    refine ⟨_, rfl, _, rfl, p, C, dx, _, rfl, upd_same, L.cl, L.address, (by show 1 < 1000; decide), ?_⟩
    rw [upd_upd]
    refine ⟨_, rfl, _, rfl, p, C, dx, _, rfl, upd_same, L.cl, L.day, (by show 2 < 1000; decide), ?_⟩
    rw [upd_upd]
    refine ⟨_, rfl, p, C, dx, _, rfl, upd_same, L.cl, L.count, (by show 3 < 1000; decide), ?_⟩
    rw [upd_upd]
    intro kn hkn
    have npk : p ≠ kn := fun z => by
      subst z
      rw [upd_same] at hkn
      cases hkn
    have hkn0 : H kn = none := by rw [upd_ne npk.symm] at hkn; exact hkn
    refine ⟨_, rfl, p, C, dx, _, rfl, (by rw [upd_ne npk, upd_same]), L.cl, L.known, (by show 4 < 1000; decide), ?_⟩
    refine ⟨_, rfl, p, C, dx, _, rfl, upd_same, L.cl, L.is_endless, (by show 5 < 1000; decide), ?_⟩
    rw [upd_upd]
    generalize eH : upd (upd (upd H p _) kn _) p _ = H1
    have kH : ∀ b u, H b = some u → b ≠ p → H1 b = some u := fun b u e nb => by
      rw [← eH, upd_ne nb, upd_ne (ne_of_none e hkn0), upd_ne nb]
      exact e
    have hb1 : BookAt K C_Book H1 bk os := hb.keep hpi nbp kH
    have hp1 : H1 p = some (.ins C dx [("book", .ref bk), ("address", .str x), ("day", .int d), ("count", .int 0), ("known", .ref kn), ("is_endless", .bl false)]) := by
      rw [← eH, upd_same]
      rfl
    have hk1 : H1 kn = some (.dK []) := by rw [← eH, upd_ne npk.symm, upd_same]
    obtain ⟨dy, t, as, b1, b2, b3⟩ := id hb1
    refine ⟨_, rfl, bk, dy, _, rfl, b1, rfl, _, rfl, bk, os, d, rfl, hb1, h30, fun H2 s2 => ?_⟩
    refine ⟨_, rfl, p, C, dx, _, rfl, s2 _ _ hp1, L.cl, L.change, (by show 6 < 1000; decide), ?_⟩
    refine k _ kn hkn0 ⟨⟨dx, upd_same⟩, by rw [upd_ne npk.symm]; exact s2 _ _ hk1⟩ (fun b u e nb => ?_) ⟨_, upd_same⟩
    rw [upd_ne nb]
    exact s2 _ _ (kH b u e nb)
theorem letter_init (T : Top K mg C_Book C_Letter C_LivePost) {C : Addr} (L : LCls K C) {f : Addr} {fd : FuncData} (F : Fun K "__init__" "Letter.__init__" s_LetterX_initX f fd) : FnOk P w K mg base CX0 2 f fd ["self", "book", "address", "day"] (spLetterInit K C_Book C) :=
  (letter_initX T L F).imp fun vs H Q E ⟨p, dx, bk, os, x, d, h1, h2, h3, h4, h5, k⟩ => ⟨p, dx, bk, os, x, d, h1, h2, h3, h4, h5, fun H' kn a b c _ => k H' kn a b c⟩
theorem ok_LetterX (T : Top K mg C_Book C_Letter C_LivePost) : IFn P w K mg base CX0 2 C_Letter "Letter" (spLetterInitX K C_Book C_Letter) := T.d_LetterX_initX.fn fun f fd F => letter_initX T (lcls T) F
theorem ok_Letter (T : Top K mg C_Book C_Letter C_LivePost) : IFn P w K mg base CX0 2 C_Letter "Letter" (spLetterInit K C_Book C_Letter) := T.d_LetterX_initX.fn fun f fd F => letter_init T (lcls T) F
def spOrderNowX (K : PySem.W.Frag) (CB CL : Addr) : Sp := fun vs H Q _ => ∃ p dx bk os x d n kn e c ext, vs = [.ref p] ∧ H p = some (.ins CL dx (lf bk x d n kn e c ++ ext)) ∧ BookAt K CB H bk os ∧ ∀ H', Same H H' → Q (optI (ordFor os x d)) H'
def spOrderNow (K : PySem.W.Frag) (CB CL : Addr) : Sp := fun vs H Q _ => ∃ p kn kvs bk os x d n e c, vs = [.ref p] ∧ LetterAt CL H p kn kvs bk x d n e c ∧ BookAt K CB H bk os ∧ ∀ H', Same H H' → Q (optI (ordFor os x d)) H'
theorem letter_order_now (T : Top K mg C_Book C_Letter C_LivePost) {C : Addr} (L : LCls K C) {f : Addr} {fd : FuncData} (F : Fun K "order_now" "Letter.order_now" s_Letter_order_now f fd) : FnOk P w K mg base CX0 2 f fd ["self"] (spOrderNowX K C_Book C) := by
  have M_Book_order_for : MFn P w K mg base CX0 1 C_Book "order_for" (spOrderFor K C_Book) := ok_order_for T
  refine F.ok sc_Letter_order_now (fun vs H Q E h => ?_) (fun cdv A outer s H vs Q E hr h => ?_)
  · obtain ⟨p, dx, bk, os, x, d, n, kn, e, c, ext, rfl, _⟩ := h
    rfl
  · obtain ⟨p, dx, bk, os, x, d, n, kn, e, c, ext, rfl, h1, hb, k⟩ := h
    refine ⟨_, (pss_one (ps_ret (pe_m M_Book_order_for T.cl_Book (hr.mono (by decide)) (pe_fld (pv 0) rfl) (pa_cons (pe_fld (pv 0) rfl) (pa_cons (pe_fld (pv 0) rfl) pa_nil))))), ?_⟩
    obtain ⟨dy, t, as, b1, b2, b3⟩ := id hb
    refine ⟨_, rfl, p, C, dx, _, _, rfl, h1, L.cl, L.book, rfl, bk, dy, _, rfl, b1, rfl, ?_⟩
    refine ⟨_, rfl, p, C, dx, _, _, rfl, h1, L.cl, L.address, rfl, _, rfl, p, C, dx, _, _, rfl, h1, L.cl, L.day, rfl, ?_⟩
    exact ⟨bk, os, x, d, rfl, hb, k⟩
theorem ok_order_now (T : Top K mg C_Book C_Letter C_LivePost) : MFn P w K mg base CX0 2 C_Letter "order_now" (spOrderNow K C_Book C_Letter) := T.d_Letter_order_now.fn fun f fd F =>
  (letter_order_now T (lcls T) F).imp fun vs H Q E ⟨p, kn, kvs, bk, os, x, d, n, e, c, h1, ⟨⟨dx, h2⟩, _⟩, hb, k⟩ => ⟨p, dx, bk, os, x, d, n, kn, e, optZ c, [], h1, h2, hb, k⟩
end

end MF
set_option Elab.async false
set_option linter.all false
set_option maxRecDepth 100000
set_option maxHeartbeats 2000000
set_option pp.maxSteps 600
namespace MF
open PySem PySem.Spec PyProof.Rows L2 StX
section
variable {P : Program} {w : World} {K : PySem.W.Frag} {mg : Str → Option Value} {base : Heap} {C_Book C_Letter C_LivePost : Addr}
def stepCh (os : List Ordr) (c : Option Int) (d : Int) : Option Int := match c with
  | none => none
  | some m => if m ≤ d then nextCh os d else some m
def resets (c : Option Int) (d : Int) : Bool := match c with
  | none => false
  | some m => decide (m ≤ d)
def spStep (K : PySem.W.Frag) (CB CL : Addr) : Sp := fun vs H Q _ => ∃ p kn kvs bk os x d n e c, vs = [.ref p] ∧ LetterAt CL H p kn kvs bk x d n e c ∧ BookAt K CB H bk os ∧ os.length ≤ 30 ∧ bk ≠ p ∧
  (ordFor os x d = none → ∀ H', Same H H' → Q (.bl false) H') ∧
  (∀ i o, ordFor os x d = some i → os[i]? = some o → ∀ H' kn', (resets c (d + o.way) = false → kn' = kn) → (resets c (d + o.way) = true → H kn' = none) →
    LetterAt CL H' p kn' (if resets c (d + o.way) = true then [] else kvs) bk o.tgt (d + o.way) (n + 1) e (stepCh os c (d + o.way)) → (∀ b u, H b = some u → b ≠ p → H' b = some u) → Q (.bl true) H')
def spStepX (K : PySem.W.Frag) (CB CL : Addr) : Sp := fun vs H Q _ => ∃ p kn kvs bk os x d n e c, vs = [.ref p] ∧ LetterAt CL H p kn kvs bk x d n e c ∧ BookAt K CB H bk os ∧ os.length ≤ 30 ∧ bk ≠ p ∧
  (ordFor os x d = none → ∀ H', Same H H' → Q (.bl false) H') ∧
  (∀ i o, ordFor os x d = some i → os[i]? = some o → ∀ H' kn', (resets c (d + o.way) = false → kn' = kn) → (resets c (d + o.way) = true → H kn' = none) →
    LetterAt CL H' p kn' (if resets c (d + o.way) = true then [] else kvs) bk o.tgt (d + o.way) (n + 1) e (stepCh os c (d + o.way)) → (∀ b u, H b = some u → b ≠ p → H' b = some u) → (∀ dx fs, H p = some (.ins CL dx fs) → ∃ fs', H' p = some (.ins CL dx fs')) → Q (.bl true) H')
theorem ok_stepX (T : Top K mg C_Book C_Letter C_LivePost) : MFn P w K mg base CX0 3 C_Letter "step" (spStepX K C_Book C_Letter) := by
  have M_Book_next_change : MFn P w K mg base CX0 1 C_Book "next_change" (spNextChange K C_Book) := ok_next_change T
  have M_Letter_order_now : MFn P w K mg base CX0 2 C_Letter "order_now" (spOrderNow K C_Book C_Letter) := ok_order_now T
  refine T.d_Letter_step.fn fun f fd F => F.ok sc_Letter_step (fun vs H Q E h => ?_) (fun cdv A outer s H vs Q E hr h => ?_)
  · obtain ⟨p, kn, kvs, bk, os, x, d, n, e, c, rfl, _⟩ := h
    rfl
  · obtain ⟨p, kn, kvs, bk, os, x, d, n, e, c, rfl, L, hb, h30, nbp, k0, k1⟩ := h
    refine ⟨_, (pss_cons (ps_set (i := 1) sc_Letter_step.nd rfl (Or.inl rfl) (pe_m0 M_Letter_order_now T.cl_Letter (hr.mono (by decide)) (pv 0)))
  (pss_cons (ps_if (pt_cmpR op_isN (pv 1) pe_non (nomark _))
  (pss_one (ps_ret pe_bl))
  pss_nil)
  (pss_cons (ps_asg (pe_ix ix_tup (pe_fld (pe_fld (pv 0) rfl) rfl) (pv 1) (fun _ _ => rfl)) (pg_tup rfl (pgs_cons (pg_name (i := 2) sc_Letter_step.nd rfl (Or.inl rfl)) (pgs_cons (pg_name (i := 3) sc_Letter_step.nd rfl (Or.inl rfl)) (pgs_cons (pg_name (i := 4) sc_Letter_step.nd rfl (Or.inl rfl)) (pgs_cons (pg_name (i := 5) sc_Letter_step.nd rfl (Or.inl rfl)) (pgs_cons (pg_name (i := 6) sc_Letter_step.nd rfl (Or.inl rfl)) pgs_nil)))))))
  (pss_cons (ps_fld (pv 0) (pv 3) rfl)
  (pss_cons (ps_fldaug (pv 0) (pv 6) in_add)
  (pss_cons (ps_fldaug (pv 0) pe_int in_add)
  (pss_cons (ps_if (PW.pt (pw_and (pt_cmpR op_notN (pe_fld (pv 0) rfl) pe_non (nomark _)) (pw_and1 (pt_cmpR op_ge (pe_fld (pv 0) rfl) (pe_fld (pv 0) rfl) (nomark _)))))
  (pss_cons (ps_fld (pv 0) pe_dnewK rfl)
  (pss_one (ps_fld (pv 0) (pe_m M_Book_next_change T.cl_Book (hr.mono (by decide)) (pe_fld (pv 0) rfl) (pa_cons (pe_fld (pv 0) rfl) pa_nil)) rfl)))
  pss_nil)
  (pss_one (ps_ret pe_bl))))))))), ?_⟩
    obtain ⟨⟨dx, h1⟩, h2⟩ := id L
    have npk := L.ne
    refine ⟨_, rfl, p, dx, _, rfl, h1, rfl, p, kn, kvs, bk, os, x, d, n, e, c, rfl, L, hb, fun H1 s1 => ?_⟩
    cases eo : ordFor os x d with
    | none =>
      refine ⟨_, rfl, rfl, _, rfl, ?_⟩
      exact iteD rfl (k0 eo H1 s1)
    | some i =>
      obtain ⟨o, ei, _⟩ := ordFor_some eo
      refine ⟨_, rfl, rfl, _, rfl, ?_⟩
      refine iteDN (by intro z; cases z) ?_
      have hb1 := hb.mono s1
      obtain ⟨dy, t, as, b1, b2, b3⟩ := id hb1
      have la : as.length = os.length := PySem.Paired.length b3
      have hi : i < as.length := by rw [la]; exact (List.getElem?_eq_some_iff.mp ei).1
      obtain ⟨a, ea⟩ : ∃ a, as[i]? = some a := ⟨as[i], by simp [hi]⟩
      obtain ⟨o', eo', oa⟩ := Paired.get b3 ea
      rw [ei] at eo'
      cases eo'
      have hp1 := s1 _ _ h1
      refine ⟨_, rfl, p, C_Letter, dx, _, _, rfl, hp1, T.cl_Letter, T.n_Letter_book, rfl, bk, C_Book, dy, _, _, rfl, b1, T.cl_Book, T.n_Book_listed, rfl, _, rfl, t, _, _, _, rfl, rfl, b2, atI_nat (by rw [List.getElem?_map, ea]; rfl), ?_⟩
      refine ⟨a, o.vals, rfl, oa, rfl, _, _, rfl, _, _, rfl, _, _, rfl, _, _, rfl, _, _, rfl, rfl, ?_⟩
      refine ⟨_, rfl, _, rfl, p, C_Letter, dx, _, rfl, hp1, T.cl_Letter, T.n_Letter_address, (by show 7 < 1000; decide), ?_⟩
      refine ⟨_, rfl, p, C_Letter, dx, _, _, rfl, upd_same, T.cl_Letter, T.n_Letter_day, rfl, _, rfl, _, _, rfl, rfl, dx, _, upd_same, (by show 7 < 1000; decide), ?_⟩
      rw [upd_upd]
      refine ⟨_, rfl, p, C_Letter, dx, _, _, rfl, upd_same, T.cl_Letter, T.n_Letter_count, rfl, _, _, rfl, rfl, dx, _, upd_same, (by show 7 < 1000; decide), ?_⟩
      rw [upd_upd]
      generalize eH : upd H1 p _ = H2
      have hp2 : H2 p = some (.ins C_Letter dx (lf bk o.tgt (d + o.way) (n + 1) kn e (optZ c))) := by rw [← eH, upd_same]; rfl
      have k2 : ∀ b u, H b = some u → b ≠ p → H2 b = some u := fun b u e nb => by rw [← eH, upd_ne nb]; exact s1 _ _ e
      have hk2 : H2 kn = some (.dK kvs) := k2 _ _ h2 npk.symm
      have hpi : ∃ o, H p = some o ∧ (∀ xs, o ≠ HO.tup xs) ∧ (∀ u xs, o ≠ HO.frz u (.tup xs)) := ⟨_, h1, (fun _ z => by cases z), (fun _ _ z => by cases z)⟩
      have hb2 : BookAt K C_Book H2 bk os := hb.keep hpi nbp k2
      refine ⟨_, rfl, p, C_Letter, dx, _, _, rfl, hp2, T.cl_Letter, T.n_Letter_change, rfl, rfl, _, rfl, ?_⟩
      cases c with
      | none =>
        refine iteF ?_
        exact k1 i o eo ei H2 kn (fun _ => rfl) (fun z => by cases z) ⟨⟨dx, hp2⟩, hk2⟩ k2 fun dx' fs' z => by rw [h1] at z; cases z; exact ⟨_, hp2⟩
      | some m =>
        refine iteT ?_
        refine ⟨_, rfl, p, C_Letter, dx, _, _, rfl, hp2, T.cl_Letter, T.n_Letter_day, rfl, _, rfl, p, C_Letter, dx, _, _, rfl, hp2, T.cl_Letter, T.n_Letter_change, rfl, _, _, rfl, rfl, _, rfl, ?_⟩
        refine ite2 (fun c1 => ?_) (fun c1 => ?_)
        · have c1' : m ≤ d + o.way := of_decide_eq_true c1
          have er : resets (some m) (d + o.way) = true := c1
          intro kn' hkn'
          have npk' : p ≠ kn' := ne_of_none hp2 hkn'
          have hkn0 : H kn' = none := by
            cases q : H kn' with
            | none => rfl
            | some u => rw [k2 _ _ q npk'.symm] at hkn'; cases hkn'
          refine ⟨_, rfl, p, C_Letter, dx, _, rfl, (by rw [upd_ne npk']; exact hp2), T.cl_Letter, T.n_Letter_known, (by show 7 < 1000; decide), ?_⟩
          generalize eH3 : upd (upd H2 kn' _) p _ = H3
          have hp3 : H3 p = some (.ins C_Letter dx (lf bk o.tgt (d + o.way) (n + 1) kn' e (optZ (some m)))) := by rw [← eH3, upd_same]; rfl
          have k3 : ∀ b u, H b = some u → b ≠ p → H3 b = some u := fun b u e nb => by rw [← eH3, upd_ne nb, upd_ne (ne_of_none e hkn0)]; exact k2 _ _ e nb
          have hk3 : H3 kn' = some (.dK []) := by rw [← eH3, upd_ne npk'.symm, upd_same]
          have hb3 : BookAt K C_Book H3 bk os := hb.keep hpi nbp k3
          obtain ⟨dz, t3, as3, b13, b23, b33⟩ := id hb3
          refine ⟨_, rfl, p, C_Letter, dx, _, _, rfl, hp3, T.cl_Letter, T.n_Letter_book, rfl, bk, dz, _, rfl, b13, rfl, _, rfl, p, C_Letter, dx, _, _, rfl, hp3, T.cl_Letter, T.n_Letter_day, rfl, bk, os, d + o.way, rfl, hb3, h30, fun H4 s4 => ?_⟩
          refine ⟨_, rfl, p, C_Letter, dx, _, rfl, s4 _ _ hp3, T.cl_Letter, T.n_Letter_change, (by show 7 < 1000; decide), ?_⟩
          have ec : stepCh os (some m) (d + o.way) = nextCh os (d + o.way) := by simp [stepCh, c1']
          refine k1 i o eo ei _ kn' (fun z => by rw [er] at z; cases z) (fun _ => hkn0) ⟨⟨dx, ?_⟩, ?_⟩ (fun b u e nb => ?_) (fun dx' fs' z => by rw [h1] at z; cases z; exact ⟨_, upd_same⟩)
          · rw [upd_same, ec]
            rfl
          · rw [upd_ne npk'.symm, if_pos er]
            exact s4 _ _ hk3
          · rw [upd_ne nb]
            exact s4 _ _ (k3 b u e nb)
        · have c1' : ¬ m ≤ d + o.way := fun z => c1 (decide_eq_true z)
          have er : resets (some m) (d + o.way) = false := decide_eq_false c1'
          have ec : stepCh os (some m) (d + o.way) = some m := by simp [stepCh, c1']
          refine k1 i o eo ei H2 kn (fun _ => rfl) (fun z => by rw [er] at z; cases z) ⟨⟨dx, ?_⟩, ?_⟩ k2 (fun dx' fs' z => by rw [h1] at z; cases z; exact ⟨_, hp2⟩)
          · rw [ec]
            exact hp2
          · rw [if_neg (by rw [er]; exact Bool.false_ne_true)]
            exact hk2
theorem ok_step (T : Top K mg C_Book C_Letter C_LivePost) : MFn P w K mg base CX0 3 C_Letter "step" (spStep K C_Book C_Letter) := (ok_stepX T).imp fun vs H Q E ⟨p, kn, kvs, bk, os, x, d, n, e, c, h1, h2, h3, h4, h5, k0, k1⟩ =>
  ⟨p, kn, kvs, bk, os, x, d, n, e, c, h1, h2, h3, h4, h5, k0, fun i o a b H' kn' r1 r2 L k _ => k1 i o a b H' kn' r1 r2 L k⟩
end

end MF
set_option Elab.async false
set_option linter.all false
set_option maxRecDepth 100000
set_option maxHeartbeats 2000000
set_option pp.maxSteps 600
namespace MF
open PySem PySem.Spec PyProof.Rows L2 StX
section
variable {P : Program} {w : World} {K : PySem.W.Frag} {mg : Str → Option Value} {base : Heap} {C_Book C_Letter C_LivePost : Addr}
def spSkip (CL : Addr) : Sp := fun vs H Q _ => ∃ p kn kvs bk x d n e c, vs = [.ref p] ∧ LetterAt CL H p kn kvs bk x d n e c ∧ kvs.length < 1000 ∧
  (valV kvs (.inr x : Key) = none → ∀ H' t, H t = none → LetterAt CL H' p kn (putK kvs (.inr x) (.ref t)) bk x d n e c → H' t = some (.tup [.int d, .int n]) → (∀ b u, H b = some u → b ≠ kn → H' b = some u) → Q .non H') ∧
  (∀ v, valV kvs (.inr x : Key) = some v → ∃ t1 d1 c1, v = .ref t1 ∧ H t1 = some (.tup [.int d1, .int c1]) ∧
    (c = none → ∀ H' kn' t, H kn' = none → H t = none → LetterAt CL H' p kn' [(.inr x, .ref t)] bk x d n true none → H' t = some (.tup [.int d, .int n]) → (∀ b u, H b = some u → b ≠ p → H' b = some u) → Q .non H') ∧
    (∀ m, c = some m → d1 < d ∧ d - d1 < 2 ^ 62 ∧ d < m ∧ m - d < 2 ^ 62 ∧ ∀ H' kn' t, H kn' = none → H t = none →
      LetterAt CL H' p kn' [(.inr x, .ref t)] bk x (d + (m - 1 - d) / (d - d1) * (d - d1)) (n + (m - 1 - d) / (d - d1) * (n - c1)) e c →
      H' t = some (.tup [.int (d + (m - 1 - d) / (d - d1) * (d - d1)), .int (n + (m - 1 - d) / (d - d1) * (n - c1))]) → (∀ b u, H b = some u → b ≠ p → H' b = some u) → Q .non H'))
theorem ok_skip (T : Top K mg C_Book C_Letter C_LivePost) : MFn P w K mg base CX0 1 C_Letter "skip" (spSkip C_Letter) := by
  refine T.d_Letter_skip.fn fun f fd F => F.ok sc_Letter_skip (fun vs H Q E h => ?_) (fun cdv A outer s H vs Q E hr h => ?_)
  · obtain ⟨p, kn, kvs, bk, x, d, n, e, c, rfl, _⟩ := h
    rfl
  · obtain ⟨p, kn, kvs, bk, x, d, n, e, c, rfl, L, hl, k0, k1⟩ := h
    have hu := hu_of hr
    refine ⟨_, (C8.pss_cut (ps_if (pt_cmp (pc_din hu (pe_fld (pv 0) rfl) (pe_fld (pv 0) rfl)))
  (pss_cons (ps_if (pt_cmpR op_isN (pe_fld (pv 0) rfl) pe_non (nomark _))
  (pss_one (ps_fld (pv 0) pe_bl rfl))
  (pss_cons (ps_asg (pe_dget hu (pe_fld (pv 0) rfl) (pe_fld (pv 0) rfl) (fun _ _ => rfl)) (pg_tup rfl (pgs_cons (pg_name (i := 1) sc_Letter_skip.nd rfl (Or.inl rfl)) (pgs_cons (pg_name (i := 2) sc_Letter_skip.nd rfl (Or.inl rfl)) pgs_nil))))
  (pss_cons (ps_set (i := 3) sc_Letter_skip.nd rfl (Or.inl rfl) (pe_op op_fdivW (pe_op op_sub (pe_op op_sub (pe_fld (pv 0) rfl) pe_int) (pe_fld (pv 0) rfl)) (pe_op op_sub (pe_fld (pv 0) rfl) (pv 1))))
  (pss_cons (ps_fldaug (pv 0) (pe_op op_mul (pv 3) (pe_op op_sub (pe_fld (pv 0) rfl) (pv 2))) in_add)
  (pss_one (ps_fldaug (pv 0) (pe_op op_mul (pv 3) (pe_op op_sub (pe_fld (pv 0) rfl) (pv 1))) in_add))))))
  (pss_one (ps_fld (pv 0) pe_dnewK rfl)))
  pss_nil)
  (pss_one (ps_dput hu (pe_fld (pv 0) rfl) (pe_fld (pv 0) rfl) (pe_tup (pa_cons (pe_fld (pv 0) rfl) (pa_cons (pe_fld (pv 0) rfl) pa_nil))) rfl))), ?_⟩
    obtain ⟨⟨dx, h1⟩, h2⟩ := id L
    have npk := L.ne
    refine ⟨fun σ' H' => ∃ kn1 kvs1 d1 n1 e1 v1 v2 v3, σ' = [some (.ref p), v1, v2, v3] ∧ LetterAt C_Letter H' p kn1 kvs1 bk x d1 n1 e1 c ∧ kvs1.length < 1000 ∧
      (∀ H2 t, H' t = none → LetterAt C_Letter H2 p kn1 (putK kvs1 (.inr x) (.ref t)) bk x d1 n1 e1 c → H2 t = some (.tup [.int d1, .int n1]) → (∀ b u, H' b = some u → b ≠ kn1 → H2 b = some u) → Q .non H2), ?_, ?_⟩
    · refine ⟨_, rfl, p, C_Letter, dx, _, _, rfl, h1, T.cl_Letter, T.n_Letter_address, rfl, _, rfl, p, C_Letter, dx, _, _, rfl, h1, T.cl_Letter, T.n_Letter_known, rfl, kn, _, rfl, DGet.k (k := Sum.inr x) h2, _, rfl, ?_⟩
      cases ev : valV kvs (Sum.inr x : Key) with
      | none =>
        refine iteF ?_
        exact ⟨kn, kvs, d, n, e, _, _, _, rfl, L, hl, k0 ev⟩
      | some v =>
        refine iteT ?_
        obtain ⟨t1, d1, c1, rfl, ht1, ka, kb⟩ := k1 v ev
        refine ⟨_, rfl, p, C_Letter, dx, _, _, rfl, h1, T.cl_Letter, T.n_Letter_change, rfl, rfl, _, rfl, ?_⟩
        cases c with
        | none =>
          refine iteD rfl ?_
          refine ⟨_, rfl, p, C_Letter, dx, _, rfl, h1, T.cl_Letter, T.n_Letter_is_endless, (by show 7 < 1000; decide), ?_⟩
          intro kn' hkn'
          have npk' : p ≠ kn' := ne_of_none (o := _) upd_same hkn'
          rw [upd_ne npk'.symm] at hkn'
          refine ⟨_, rfl, p, C_Letter, dx, _, rfl, (by rw [upd_ne npk', upd_same]), T.cl_Letter, T.n_Letter_known, (by show 7 < 1000; decide), ?_⟩
          generalize eH : upd (upd (upd H p _) kn' _) p _ = H1
          have hp1 : H1 p = some (.ins C_Letter dx (lf bk x d n kn' true (optZ none))) := by rw [← eH, upd_same]; rfl
          have hk1 : H1 kn' = some (.dK []) := by rw [← eH, upd_ne npk'.symm, upd_same]
          have kH : ∀ b u, H b = some u → b ≠ p → H1 b = some u := fun b u q nb => by rw [← eH, upd_ne nb, upd_ne (ne_of_none q hkn'), upd_ne nb]; exact q
          refine ⟨kn', [], d, n, true, _, _, _, rfl, ⟨⟨dx, hp1⟩, hk1⟩, (by show 0 < 1000; decide), fun H2 t ht L2 et kk => ?_⟩
          have ht0 : H t = none := by
            cases q : H t with
            | none => rfl
            | some u =>
              by_cases z : t = p
              · rw [z, hp1] at ht; cases ht
              · rw [kH _ _ q z] at ht; cases ht
          exact ka rfl H2 kn' t hkn' ht0 L2 et fun b u q nb => kk b u (kH b u q nb) (ne_of_none q hkn')
        | some m =>
          obtain ⟨g1, g2, g3, g4, kc⟩ := kb m rfl
          refine iteDN (by intro z; cases z) ?_
          refine ⟨_, rfl, p, C_Letter, dx, _, _, rfl, h1, T.cl_Letter, T.n_Letter_known, rfl, _, rfl, p, C_Letter, dx, _, _, rfl, h1, T.cl_Letter, T.n_Letter_address, rfl, kn, _, rfl, (by have := DGet.k (k := Sum.inr x) h2; rw [ev] at this; exact this), ?_⟩
          refine ⟨t1, _, rfl, .inl (.inl ht1), rfl, _, _, rfl, _, _, rfl, rfl, ?_⟩
          refine ⟨_, rfl, p, C_Letter, dx, _, _, rfl, h1, T.cl_Letter, T.n_Letter_change, rfl, _, _, rfl, rfl, _, rfl, p, C_Letter, dx, _, _, rfl, h1, T.cl_Letter, T.n_Letter_day, rfl, _, _, rfl, rfl, _, rfl, p, C_Letter, dx, _, _, rfl, h1, T.cl_Letter, T.n_Letter_day, rfl, _, rfl, _, _, rfl, rfl, _, _, rfl, rfl, ?_, ?_⟩
          · exact wide_div (b := 62) (by omega) (by omega) (by decide) (by decide)
          generalize eq : (m - 1 - d) / (d - d1) = q at kc ⊢
          have q0 : 0 ≤ q := by rw [← eq]; exact Int.ediv_nonneg (by omega) (by omega)
          have q1 : q ≤ m - 1 - d := by rw [← eq]; exact Int.ediv_le_self _ (by omega)
          refine ⟨_, rfl, p, C_Letter, dx, _, _, rfl, h1, T.cl_Letter, T.n_Letter_count, rfl, _, rfl, _, rfl, p, C_Letter, dx, _, _, rfl, h1, T.cl_Letter, T.n_Letter_count, rfl, _, rfl, _, _, rfl, rfl, _, _, rfl, rfl, .inl ⟨by omega, by omega⟩, _, _, rfl, rfl, dx, _, h1, (by show 7 < 1000; decide), ?_⟩
          refine ⟨_, rfl, p, C_Letter, dx, _, _, rfl, upd_same, T.cl_Letter, T.n_Letter_day, rfl, _, rfl, _, rfl, p, C_Letter, dx, _, _, rfl, upd_same, T.cl_Letter, T.n_Letter_day, rfl, _, rfl, _, _, rfl, rfl, _, _, rfl, rfl, .inl ⟨by omega, by omega⟩, _, _, rfl, rfl, dx, _, upd_same, (by show 7 < 1000; decide), ?_⟩
          rw [upd_upd]
          intro kn' hkn'
          have npk' : p ≠ kn' := ne_of_none (o := _) upd_same hkn'
          rw [upd_ne npk'.symm] at hkn'
          refine ⟨_, rfl, p, C_Letter, dx, _, rfl, (by rw [upd_ne npk', upd_same]), T.cl_Letter, T.n_Letter_known, (by show 7 < 1000; decide), ?_⟩
          generalize eH : upd (upd (upd H p _) kn' _) p _ = H1
          have hp1 : H1 p = some (.ins C_Letter dx (lf bk x (d + q * (d - d1)) (n + q * (n - c1)) kn' e (optZ (some m)))) := by rw [← eH, upd_same, ← eq]; rfl
          have hk1 : H1 kn' = some (.dK []) := by rw [← eH, upd_ne npk'.symm, upd_same]
          have kH : ∀ b u, H b = some u → b ≠ p → H1 b = some u := fun b u q nb => by rw [← eH, upd_ne nb, upd_ne (ne_of_none q hkn'), upd_ne nb]; exact q
          refine ⟨kn', [], _, _, e, _, _, _, rfl, ⟨⟨dx, hp1⟩, hk1⟩, (by show 0 < 1000; decide), fun H2 t ht L2 et kk => ?_⟩
          have ht0 : H t = none := by
            cases q : H t with
            | none => rfl
            | some u =>
              by_cases z : t = p
              · rw [z, hp1] at ht; cases ht
              · rw [kH _ _ q z] at ht; cases ht
          exact kc H2 kn' t hkn' ht0 L2 et fun b u q nb => kk b u (kH b u q nb) (ne_of_none q hkn')
    · rintro σ' H1 ⟨kn1, kvs1, d1, n1, e1, v1, v2, v3, rfl, ⟨⟨dy, g1⟩, g2⟩, gl, kk⟩
      refine ⟨_, rfl, p, C_Letter, dy, _, _, rfl, g1, T.cl_Letter, T.n_Letter_day, rfl, _, rfl, p, C_Letter, dy, _, _, rfl, g1, T.cl_Letter, T.n_Letter_count, rfl, (by show 2 ≤ sizeLine; decide), fun t ht => ?_⟩
      have npt : p ≠ t := ne_of_none g1 ht
      have nkt : kn1 ≠ t := ne_of_none g2 ht
      have npk1 : p ≠ kn1 := ne_of g1 g2 (by intro z; cases z)
      refine ⟨_, rfl, p, C_Letter, dy, _, _, rfl, (by rw [upd_ne npt]; exact g1), T.cl_Letter, T.n_Letter_known, rfl, _, rfl, p, C_Letter, dy, _, _, rfl, (by rw [upd_ne npt]; exact g1), T.cl_Letter, T.n_Letter_address, rfl, kn1, _, rfl, DPut.k (k := Sum.inr x) (by rw [upd_ne nkt]; exact g2) (small1000 (by omega)), ?_⟩
      refine kk _ t ht ⟨⟨dy, by rw [upd_ne npk1, upd_ne npt]; exact g1⟩, upd_same⟩ (by rw [upd_ne nkt.symm, upd_same]) fun b u q nb => ?_
      rw [upd_ne nb, upd_ne (ne_of_none q ht)]
      exact q
end

end MF
set_option Elab.async false
set_option linter.all false
set_option maxRecDepth 100000
set_option maxHeartbeats 2000000
set_option pp.maxSteps 600
namespace MF
open PySem PySem.Spec PyProof.Rows L2 StX
section
variable {P : Program} {w : World} {K : PySem.W.Frag} {mg : Str → Option Value} {base : Heap} {C_Book C_Letter C_LivePost : Addr}
def tupl : HO → Bool
  | .tup _ => true
  | .frz _ (.tup _) => true
  | _ => false
theorem BookAt.kept {C : Addr} {H H' : Hp} {p : Addr} {os : List Ordr} (h : BookAt K C H p os) (hp : ∀ u, H p = some u → H' p = some u) (ht : ∀ b u, H b = some u → tupl u = true → H' b = some u) : BookAt K C H' p os := by
  obtain ⟨dx, t, as, h1, h2, h3⟩ := h
  have tp : ∀ a xs, SqT K H a xs → SqT K H' a xs := fun a xs z => by
    rcases z with (z | ⟨u, z⟩) | z
    · exact .inl (.inl (ht _ _ z rfl))
    · exact .inl (.inr ⟨u, ht _ _ z rfl⟩)
    · exact .inr z
  exact ⟨dx, t, as, hp _ h1, tp _ _ h2, PySem.Paired.mono (fun a o z => tp a _ z) h3⟩
theorem nodup_len {α : Type} [DecidableEq α] : ∀ {l m : List α}, l.Nodup → (∀ a ∈ l, a ∈ m) → l.length ≤ m.length
  | [], _, _, _ => Nat.zero_le _
  | a :: l, m, hn, hs => by
    have ha : a ∈ m := hs a (by simp)
    have hn' := List.nodup_cons.mp hn
    have := nodup_len (l := l) (m := m.erase a) hn'.2 fun b hb => by
      have hne : b ≠ a := fun z => hn'.1 (z ▸ hb)
      exact (List.mem_erase_of_ne hne).mpr (hs b (by simp [hb]))
    rw [List.length_erase_of_mem ha] at this
    have : 0 < m.length := List.length_pos_of_mem ha
    simp only [List.length_cons]
    omega
theorem none_none {os : List Ordr} {x : Str} {d : Int} (h : nextCh os d = none) : ordFor os x d = none := by
  have h0 := leastOf_none.mp h
  refine ordFor_none fun o ho => ?_
  have : ¬ d ≤ o.last := fun q => by
    have hm : o.last + 1 ∈ changes os d := mem_changes.mpr ⟨by omega, o, ho, .inr rfl⟩
    rw [h0] at hm
    cases hm
  simp [holds, this]
theorem nextCh_le {os : List Ordr} (g : Good os) {d c : Int} (h : nextCh os d = some c) : c ≤ 1000000000000000001 := by
  obtain ⟨_, o, ho, hc⟩ := mem_changes.mp (leastOf_some.mp h).1
  have := (g.ok o ho).lm
  have := (g.ok o ho).fl
  omega
structure LInv (K : PySem.W.Frag) (CB CL : Addr) (os : List Ordr) (nm : List Str) (N : Int) (t : Pt) (q : Bool) (m : Nat) (H : Hp) (p kn : Addr) (kvs : List (Key × V)) (bk : Addr) (x : Str) (d n : Int) (c : Option Int) : Prop where
  la : LetterAt CL H p kn kvs bk x d n false c
  ba : BookAt K CB H bk os
  ch : c = nextCh os d
  d0 : 0 ≤ d
  dm : d ≤ 1000000000000000030
  en : Ends os (x, d) m t
  tot : n + m = N
  mem : x ∈ nm
  nd : (kvs.map (·.1)).Nodup
  sub : ∀ kv ∈ kvs, ∃ a ∈ nm, kv.1 = .inr a
  val : ∀ a v, valV kvs (.inr a : Key) = some v → ∃ t1 d1 c1, ∃ k : Nat, v = .ref t1 ∧ H t1 = some (.tup [.int d1, .int c1]) ∧ nextCh os d1 = c ∧ Go os (a, d1) k (x, d) ∧ n = c1 + k ∧ 0 ≤ d1 ∧ (q = true → 1 ≤ k)
section
variable {os : List Ordr} {nm : List Str} {N : Int} {t : Pt} {m : Nat} {H : Hp} {p kn bk : Addr} {kvs : List (Key × V)} {x : Str} {d n : Int} {c : Option Int} {q : Bool}
theorem LInv.small (I : LInv K C_Book C_Letter os nm N t q m H p kn kvs bk x d n c) (h : nm.length ≤ 31) : kvs.length < 1000 := by
  have := nodup_len (m := nm.map Sum.inr) I.nd fun k hk => by
    obtain ⟨kv, h1, rfl⟩ := List.mem_map.mp hk
    obtain ⟨a, h2, h3⟩ := I.sub kv h1
    rw [h3]
    exact List.mem_map.mpr ⟨a, h2, rfl⟩
  rw [List.length_map, List.length_map] at this
  omega
def SkipI (os : List Ordr) (H H' : Hp) (kvs kvs' : List (Key × V)) (x : Str) (d d' : Int) : Prop :=
  (d' = d ∧ valV kvs (.inr x : Key) = none ∧ ∃ t1 c1, kvs' = putK kvs (.inr x) (.ref t1) ∧ H t1 = none ∧ H' t1 = some (.tup [.int d, c1])) ∨
  ∃ t1 d1 c1 k1 t2 c2 hi, valV kvs (.inr x : Key) = some (.ref t1) ∧ H t1 = some (.tup [.int d1, c1]) ∧ 1 ≤ k1 ∧ Go os (x, d1) k1 (x, d) ∧ (∀ c' ∈ changes os d1, hi < c') ∧ d ≤ d' ∧ d' ≤ hi ∧ hi - d' < d - d1 ∧ nextCh os d = some (hi + 1) ∧ (∃ m, Go os (x, d) m (x, d')) ∧ kvs' = [(.inr x, .ref t2)] ∧ H' t2 = some (.tup [.int d', c2])
theorem LInv.skip (g : Good os) (hnm : nm.length ≤ 31) (nbp : bk ≠ p) (I : LInv K C_Book C_Letter os nm N t true m H p kn kvs bk x d n c) {Q : VK} {E : XK}
    (k : ∀ H' kn' kvs' d' n' m', m' ≤ m → (kn' = kn ∨ H kn' = none) → LInv K C_Book C_Letter os nm N t false m' H' p kn' kvs' bk x d' n' c → (∀ b u, H b = some u → b ≠ p → b ≠ kn → H' b = some u) → SkipI os H H' kvs kvs' x d d' → Q .non H') : spSkip C_Letter [.ref p] H Q E := by
  obtain ⟨⟨dx, h1⟩, h2⟩ := id I.la
  obtain ⟨dy, tb, as, b1, b2, b3⟩ := id I.ba
  have nbk : bk ≠ kn := ne_of b1 h2 (by intro z; cases z)
  have npk := I.la.ne
  refine ⟨p, kn, kvs, bk, x, d, n, false, c, rfl, I.la, I.small hnm, fun ev H' t1 ht1 L et kp => ?_, fun v ev => ?_⟩
  · have nt : ∀ b u, H b = some u → tupl u = true → H' b = some u := fun b u e z => kp b u e fun w => by
      rw [w, h2] at e; cases e; cases z
    refine k H' kn _ d n m (Nat.le_refl _) (.inl rfl) ⟨L, I.ba.kept (fun u e => kp _ _ e nbk) nt, I.ch, I.d0, I.dm, I.en, I.tot, I.mem, ?_, ?_, ?_⟩ (fun b u e _ nb => kp b u e nb) (.inl ⟨rfl, ev, t1, _, rfl, ht1, et⟩)
    · exact nd_putK _ I.nd ev
    · rw [putK_new _ ev]
      intro kv hkv
      rcases List.mem_append.mp hkv with z | z
      · exact I.sub kv z
      · rw [List.mem_singleton.mp z]
        exact ⟨x, I.mem, rfl⟩
    · intro a v hv
      rw [valV_put] at hv
      by_cases ea : (Sum.inr a : Key) = Sum.inr x
      · rw [if_pos ea] at hv
        cases hv
        cases Sum.inr.inj ea
        exact ⟨t1, d, n, 0, rfl, et, I.ch.symm, .refl _, by simp, I.d0, fun z => by cases z⟩
      · rw [if_neg ea] at hv
        obtain ⟨t2, d2, c2, k2, e1, e2, e3, e4, e5, e6, e7⟩ := I.val a v hv
        exact ⟨t2, d2, c2, k2, e1, nt _ _ e2 rfl, e3, e4, e5, e6, fun z => by cases z⟩
  · obtain ⟨t1, d1, c1, k1, e1, e2, e3, e4, e5, e6, e7⟩ := I.val x v ev
    have k1p : 1 ≤ k1 := e7 rfl
    have hday := e4.day g.fine
    simp only at hday
    refine ⟨t1, d1, c1, e1, e2, fun hc => ?_, fun mm hc => ?_⟩
    · exfalso
      rw [hc] at e3
      have h0 : nxt os (x, d1) = none := nxt_none.mpr (none_none e3)
      cases e4 with
      | refl => omega
      | step h _ => rw [h0] at h; cases h
    · subst hc
      have hm1 : nextCh os d = some mm := I.ch.symm
      have gt := nextCh_gt hm1
      have le := nextCh_le g hm1
      have dm := I.dm
      refine ⟨by omega, by omega, gt, by omega, fun H' kn' t2 hk' ht2 L et kp => ?_⟩
      have dpos : 0 < d - d1 := by omega
      generalize eq : (mm - 1 - d) / (d - d1) = qq at L et
      have q0 : 0 ≤ qq := by rw [← eq]; exact Int.ediv_nonneg (by omega) (by omega)
      have qm : qq * (d - d1) ≤ mm - 1 - d := by rw [← eq]; exact Int.ediv_mul_le _ (by omega)
      have qp : 0 ≤ qq * (d - d1) := Int.mul_nonneg q0 (by omega)
      obtain ⟨j, ej⟩ : ∃ j : Nat, qq = (j : Int) := ⟨qq.toNat, by omega⟩
      have cc : ∀ c' ∈ changes os d1, mm - 1 < c' := fun c' hc' => by
        have := (leastOf_some.mp e3).2 c' hc'
        omega
      have go : Go os (x, d) (j * k1) (x, d + qq * (d - d1)) := by
        rw [ej]
        exact Go.rounds g.fine e4 (by omega) cc j (by rw [← ej]; omega)
      obtain ⟨hle, hend⟩ := I.en.after go
      have en1 : n - c1 = (k1 : Int) := by omega
      have etot : qq * (n - c1) = ((j * k1 : Nat) : Int) := by rw [en1, ej]; push_cast; rfl
      have nt : ∀ b u, H b = some u → tupl u = true → H' b = some u := fun b u e z => kp b u e fun w => by
        rw [w, h1] at e; cases e; cases z
      have ech : some mm = nextCh os (d + qq * (d - d1)) := by
        rw [← hm1]
        exact (nextCh_const (by omega) fun c' hc' => by rw [hm1] at hc'; cases hc'; omega).symm
      refine k H' kn' _ _ _ (m - j * k1) (Nat.sub_le _ _) (.inr hk') ⟨L, I.ba.kept (fun u e => kp _ _ e nbp) nt, ech, by have := I.d0; omega, by omega, hend, ?_, I.mem, ?_, ?_, ?_⟩ (fun b u e nb _ => kp b u e nb) (.inr ⟨t1, d1, _, k1, t2, _, mm - 1, by rw [ev, e1], e2, k1p, e4, cc, by omega, by omega, ?_, by rw [hm1]; congr 1; omega, ⟨_, go⟩, rfl, et⟩)
      · rw [etot]
        have := I.tot
        omega
      · simp
      · intro kv hkv
        rw [List.mem_singleton.mp hkv]
        exact ⟨x, I.mem, rfl⟩
      · intro a v' hv
        by_cases ea : (Sum.inr x : Key) = Sum.inr a
        · rw [valV_pos ea] at hv
          cases hv
          cases Sum.inr.inj ea
          exact ⟨t2, _, _, 0, rfl, et, ech.symm, .refl _, by simp, by have := I.d0; omega, fun z => by cases z⟩
        · rw [valV_neg ea] at hv
          cases hv
      · have h3 := Int.emod_lt_of_pos (mm - 1 - d) dpos
        have h4 := Int.mul_ediv_add_emod (mm - 1 - d) (d - d1)
        rw [eq, Int.mul_comm] at h4
        omega
theorem LInv.step (g : Good os) (hnm : ∀ o ∈ os, o.tgt ∈ nm) (nbp : bk ≠ p) (I : LInv K C_Book C_Letter os nm N t false m H p kn kvs bk x d n c) {Q : VK} {E : XK}
    (k0 : m = 0 → t = (x, d) → N = n → ∀ H', Same H H' → Q (.bl false) H')
    (k : ∀ H' kn' kvs' x' d' n' c' m', m = m' + 1 → (kn' = kn ∨ H kn' = none) → LInv K C_Book C_Letter os nm N t true m' H' p kn' kvs' bk x' d' n' c' → (∀ b u, H b = some u → b ≠ p → H' b = some u) → (∃ i o, ordFor os x d = some i ∧ os[i]? = some o ∧ x' = o.tgt ∧ d' = d + o.way ∧ ((kvs' = [] ∧ ∃ mm, nextCh os d = some mm ∧ mm ≤ d') ∨ kvs' = kvs)) → Q (.bl true) H') : spStep K C_Book C_Letter [.ref p] H Q E := by
  obtain ⟨⟨dx, h1⟩, h2⟩ := id I.la
  refine ⟨p, kn, kvs, bk, os, x, d, n, false, c, rfl, I.la, I.ba, g.len, nbp, fun eo H' s => ?_, fun i o eo ei H' kn' z1 z2 L kp => ?_⟩
  · have hn : nxt os (x, d) = none := nxt_none.mpr eo
    have e := I.en
    obtain ⟨a, b⟩ := e
    cases a with
    | refl => exact k0 rfl rfl (by have := I.tot; omega) H' s
    | step h _ => rw [hn] at h; cases h
  · have hn := nxt_of eo ei
    have ho : o ∈ os := List.mem_of_getElem? ei
    obtain ⟨o', ei', hh⟩ := ordFor_some eo
    rw [ei] at ei'
    cases ei'
    simp only [holds, Bool.and_eq_true, decide_eq_true_eq] at hh
    have w1 := (g.ok o ho).w1
    have w30 := (g.ok o ho).w30
    have lm := (g.ok o ho).lm
    obtain ⟨hle, hend⟩ := I.en.after (Go.one hn)
    have d0 := I.d0
    have nt : ∀ b u, H b = some u → tupl u = true → H' b = some u := fun b u e z => kp b u e fun w => by
      rw [w, h1] at e; cases e; cases z
    have ech : stepCh os c (d + o.way) = nextCh os (d + o.way) := by
      rw [I.ch]
      cases hc : nextCh os d with
      | none =>
        have := none_none (x := x) hc
        rw [this] at eo
        cases eo
      | some mm =>
        by_cases hm : mm ≤ d + o.way
        · simp [stepCh, hm]
        · have e1 : nextCh os (d + o.way) = nextCh os d := nextCh_const (by omega) fun c' hc' => by rw [hc] at hc'; cases hc'; omega
          rw [e1, hc]
          simp [stepCh, hm]
    have rs : ((if resets c (d + o.way) = true then [] else kvs) = [] ∧ ∃ mm, nextCh os d = some mm ∧ mm ≤ d + o.way) ∨ (if resets c (d + o.way) = true then [] else kvs) = kvs := by
      cases hr : resets c (d + o.way) with
      | false => exact .inr rfl
      | true =>
        refine .inl ⟨rfl, ?_⟩
        rw [← I.ch]
        cases c with
        | none => cases hr
        | some mm => exact ⟨mm, rfl, of_decide_eq_true hr⟩
    refine k H' kn' _ o.tgt (d + o.way) (n + 1) _ (m - 1) (by omega) ?_ ⟨L, I.ba.kept (fun u e => kp _ _ e nbp) nt, ech, by omega, by omega, hend, by have := I.tot; omega, hnm o ho, ?_, ?_, ?_⟩ kp ⟨i, o, eo, ei, rfl, rfl, rs⟩
    · cases hr : resets c (d + o.way) with
      | false => exact .inl (z1 hr)
      | true => exact .inr (z2 hr)
    · by_cases hr : resets c (d + o.way) = true
      · rw [if_pos hr]; simp
      · rw [if_neg hr]; exact I.nd
    · by_cases hr : resets c (d + o.way) = true
      · rw [if_pos hr]; intro kv hkv; cases hkv
      · rw [if_neg hr]; exact I.sub
    · by_cases hr : resets c (d + o.way) = true
      · rw [if_pos hr]; intro a v hv; cases hv
      · rw [if_neg hr]
        intro a v hv
        obtain ⟨t2, d2, c2, k2, e1, e2, e3, e4, e5, e6, e7⟩ := I.val a v hv
        refine ⟨t2, d2, c2, k2 + 1, e1, nt _ _ e2 rfl, ?_, e4.trans (Go.one hn), by push_cast; omega, e6, fun _ => Nat.succ_pos _⟩
        rw [e3]
        cases c with
        | none => rfl
        | some mm =>
          have hm : ¬ mm ≤ d + o.way := fun z => hr (decide_eq_true z)
          simp [stepCh, hm]
end
end

end MF
set_option Elab.async false
set_option linter.all false
set_option maxRecDepth 100000
set_option maxHeartbeats 2000000
set_option pp.maxSteps 600
namespace MF
open PySem PySem.Spec PyProof.Rows L2 StX
section
variable {P : Program} {w : World} {K : PySem.W.Frag} {mg : Str → Option Value} {base : Heap} {C_Book C_Letter C_LivePost : Addr}
theorem nilT {σ : L2.St} {H : Hp} {Q : List V → Hp → Prop} (h : Q [] H) : tNil σ H Q := h
def spFinish (K : PySem.W.Frag) (CB CL : Addr) : Sp := fun vs H Q _ => ∃ p kn bk os x d t, ∃ N : Nat, vs = [.ref p] ∧ LetterAt CL H p kn [] bk x d 0 false (nextCh os d) ∧ BookAt K CB H bk os ∧ Good os ∧ 0 ≤ d ∧ d ≤ 1000000000000000000 ∧ bk ≠ p ∧ Ends os (x, d) N t ∧
  ∀ H' kn' kvs' c', LetterAt CL H' p kn' kvs' bk t.1 t.2 N false c' → (∀ b u, H b = some u → b ≠ p → b ≠ kn → H' b = some u) → Q .non H'
theorem ok_finish (T : Top K mg C_Book C_Letter C_LivePost) : MFn P w K mg base CX0 4 C_Letter "finish" (spFinish K C_Book C_Letter) := by
  have M_Letter_step : MFn P w K mg base CX0 3 C_Letter "step" (spStep K C_Book C_Letter) := ok_step T
  have M_Letter_skip : MFn P w K mg base CX0 1 C_Letter "skip" (spSkip C_Letter) := ok_skip T
  refine T.d_Letter_finish.fn fun f fd F => F.ok sc_Letter_finish (fun vs H Q E h => ?_) (fun cdv A outer s H vs Q E hr h => ?_)
  · obtain ⟨p, kn, bk, os, x, d, t, N, rfl, _⟩ := h
    rfl
  · obtain ⟨p, kn, bk, os, x, d, t, N, rfl, L, hb, g, h0, h1, nbp, en, k⟩ := h
    refine ⟨_, (pss_cons (ps_expr (pe_m0 M_Letter_skip T.cl_Letter (hr.mono (by decide)) (pv 0)))
  (pss_one (ps_while PassesOwn.never (PW.pt (pw_and (pt_not (pt_val (pe_fld (pv 0) rfl))) (pw_and1 (pt_val (pe_m0 M_Letter_step T.cl_Letter (hr.mono (by decide)) (pv 0))))))
  (pss_one (ps_expr (pe_m0 M_Letter_skip T.cl_Letter (hr.mono (by decide)) (pv 0))))))), ?_⟩
    obtain ⟨⟨dx, l1⟩, l2⟩ := id L
    have hnm : (x :: os.map Ordr.tgt).length ≤ 31 := by have := g.len; simp; omega
    have htg : ∀ o ∈ os, o.tgt ∈ x :: os.map Ordr.tgt := fun o ho => List.mem_cons_of_mem _ (List.mem_map.mpr ⟨o, ho, rfl⟩)
    have I0 : LInv K C_Book C_Letter os (x :: os.map Ordr.tgt) N t true N H p kn [] bk x d 0 (nextCh os d) := ⟨L, hb, rfl, h0, by omega, en, by omega, by simp, List.nodup_nil, (fun _ z => by cases z), (fun _ _ z => by cases z)⟩
    refine ⟨_, rfl, p, dx, _, rfl, l1, rfl, ?_⟩
    refine nilT ?_
    refine I0.skip g hnm nbp fun H1 kn1 kvs1 d1 n1 m1 _ hk1 I1 f1 _ => ?_
    refine ⟨fun m σ H' => σ = [some (.ref p)] ∧ ∃ kn' kvs' x' d' n' c', (kn' = kn ∨ H kn' = none) ∧ LInv K C_Book C_Letter os (x :: os.map Ordr.tgt) N t false m H' p kn' kvs' bk x' d' n' c' ∧ (∀ b u, H b = some u → b ≠ p → b ≠ kn → H' b = some u),
      ⟨m1, rfl, kn1, kvs1, _, _, _, _, hk1, I1, f1⟩, ?_⟩
    rintro m σ H2 ⟨rfl, kn2, kvs2, x2, d2, n2, c2, hk2, I2, f2⟩
    obtain ⟨⟨dy, g1⟩, g2⟩ := id I2.la
    refine ⟨_, rfl, p, C_Letter, dy, _, _, rfl, g1, T.cl_Letter, T.n_Letter_is_endless, rfl, _, rfl, iteT ?_⟩
    refine ⟨_, rfl, p, dy, _, rfl, g1, rfl, ?_⟩
    refine nilT ?_
    refine I2.step g htg nbp (fun em et eN H3 s3 => ⟨_, rfl, iteF ?_⟩) (fun H3 kn3 kvs3 x3 d3 n3 c3 m3 em hk3 I3 f3 _ => ⟨_, rfl, iteT ?_⟩)
    · refine k H3 kn2 kvs2 c2 ?_ fun b u e n1 n2 => s3 _ _ (f2 b u e n1 n2)
      have : LetterAt C_Letter H3 p kn2 kvs2 bk x2 d2 n2 false c2 := I2.la.keep (fun o z => s3 _ _ z) (fun o z => s3 _ _ z)
      rw [et, eN]
      exact this
    · obtain ⟨⟨dz, r1⟩, r2⟩ := id I3.la
      have free : ∀ b, H2 b = none → (∃ u, H b = some u) → b = kn := fun b hb ⟨u, e⟩ => by
        by_cases z1 : b = p
        · rw [z1, g1] at hb; cases hb
        · by_cases z2 : b = kn
          · exact z2
          · rw [f2 b u e z1 z2] at hb; cases hb
      have hk3' : kn3 = kn ∨ H kn3 = none := by
        rcases hk3 with z | z
        · rw [z]; exact hk2
        · cases q : H kn3 with
          | none => exact .inr rfl
          | some u => exact .inl (free kn3 z ⟨u, q⟩)
      have f13 : ∀ b u, H b = some u → b ≠ p → b ≠ kn → H3 b = some u := fun b u e n1 n2 => f3 b u (f2 b u e n1 n2) n1
      refine ⟨fun σ' H' => σ' = [some (.ref p)] ∧ ∃ m', m' < m ∧ ∃ kn' kvs' x' d' n' c', (kn' = kn ∨ H kn' = none) ∧ LInv K C_Book C_Letter os (x :: os.map Ordr.tgt) N t false m' H' p kn' kvs' bk x' d' n' c' ∧ (∀ b u, H b = some u → b ≠ p → b ≠ kn → H' b = some u), fun σ' H' ⟨e, m', hm, r⟩ => ⟨m', hm, e, r⟩, ?_⟩
      refine ⟨_, rfl, p, dz, _, rfl, r1, rfl, ?_⟩
      refine nilT ?_
      refine I3.skip g hnm nbp fun H4 kn4 kvs4 d4 n4 m4 hm4 hk4 I4 f4 _ => ?_
      have free3 : ∀ b, H3 b = none → (∃ u, H b = some u) → b = kn := fun b hb ⟨u, e⟩ => by
        by_cases z1 : b = p
        · rw [z1, r1] at hb; cases hb
        · by_cases z2 : b = kn
          · exact z2
          · rw [f13 b u e z1 z2] at hb; cases hb
      refine ⟨rfl, m4, by omega, kn4, kvs4, _, _, _, _, ?_, I4, fun b u e n1 n2 => f4 b u (f13 b u e n1 n2) n1 ?_⟩
      · rcases hk4 with z | z
        · rw [z]; exact hk3'
        · cases q : H kn4 with
          | none => exact .inr rfl
          | some u => exact .inl (free3 kn4 z ⟨u, q⟩)
      · intro z
        rcases hk3' with w | w
        · exact n2 (z.trans w)
        · rw [z, w] at e; cases e
def spEndOf (K : PySem.W.Frag) (CB : Addr) : Sp := fun vs H Q _ => ∃ bk os x d t, ∃ N : Nat, vs = [.ref bk, .str x, .int d] ∧ BookAt K CB H bk os ∧ Good os ∧ 0 ≤ d ∧ d ≤ 1000000000000000000 ∧ Ends os (x, d) N t ∧
  ∀ H' r, Same H H' → H r = none → H' r = some (.tup [.str t.1, .int t.2, .int N]) → Q (.ref r) H'
theorem ok_end_of (T : Top K mg C_Book C_Letter C_LivePost) : GFn P w K mg base CX0 5 "end_of" (spEndOf K C_Book) := by
  have G_Letter : IFn P w K mg base CX0 2 C_Letter "Letter" (spLetterInit K C_Book C_Letter) := ok_Letter T
  have M_Letter_finish : MFn P w K mg base CX0 4 C_Letter "finish" (spFinish K C_Book C_Letter) := ok_finish T
  refine T.d_end_of.fn fun f fd F => F.ok sc_end_of (fun vs H Q E h => ?_) (fun cdv A outer s H vs Q E hr h => ?_)
  · obtain ⟨bk, os, x, d, t, N, rfl, _⟩ := h
    rfl
  · obtain ⟨bk, os, x, d, t, N, rfl, hb, g, h0, h1, en, k⟩ := h
    refine ⟨_, (pss_cons (ps_set (i := 3) sc_end_of.nd rfl (Or.inl rfl) (pe_mkX G_Letter (hr.mono (by decide)) pass0 (pa_cons (pv 0) (pa_cons (pv 1) (pa_cons (pv 2) pa_nil)))))
  (pss_cons (ps_expr (pe_m0 M_Letter_finish T.cl_Letter (hr.mono (by decide)) (pv 3)))
  (pss_one (ps_ret (pe_tup (pa_cons (pe_fld (pv 3) rfl) (pa_cons (pe_fld (pv 3) rfl) (pa_cons (pe_fld (pv 3) rfl) pa_nil)))))))), ?_⟩
    refine ⟨_, rfl, _, rfl, _, rfl, fun p dx hp hdx ne => ?_⟩
    have s0 : Same H (upd (upd H dx (.own p)) p (.ins C_Letter dx [])) := fun b o e => by
      rw [upd_ne (ne_of_none e hp), upd_ne (ne_of_none e hdx)]
      exact e
    have nbp : bk ≠ p := by
      obtain ⟨dy, tb, as, b1, _⟩ := hb
      exact ne_of_none b1 hp
    refine ⟨p, dx, bk, os, x, d, rfl, upd_same, hb.mono s0, g.len, nbp, fun H1 kn hkn L kp => ⟨rfl, ?_⟩⟩
    have s1 : Same H H1 := fun b u e => kp b u (s0 b u e) (ne_of_none e hp)
    have hkn0 : H kn = none := s0.free hkn
    obtain ⟨⟨dz, l1⟩, l2⟩ := id L
    refine ⟨_, rfl, p, dz, _, rfl, l1, rfl, p, kn, bk, os, x, d, t, N, rfl, L, hb.mono s1, g, h0, h1, nbp, en, fun H2 kn' kvs' c' L2 kp2 => ?_⟩
    have s2 : Same H H2 := fun b u e => kp2 b u (s1 b u e) (ne_of_none e hp) (ne_of_none e hkn0)
    obtain ⟨⟨dw, m1⟩, m2⟩ := id L2
    refine ⟨_, rfl, p, C_Letter, dw, _, _, rfl, m1, T.cl_Letter, T.n_Letter_address, rfl, _, rfl, p, C_Letter, dw, _, _, rfl, m1, T.cl_Letter, T.n_Letter_day, rfl, _, rfl, p, C_Letter, dw, _, _, rfl, m1, T.cl_Letter, T.n_Letter_count, rfl, (by show 3 ≤ sizeLine; decide), fun r hr0 => ?_⟩
    exact k _ r (MF.Same.upd s2 hr0) (s2.free hr0) upd_same
def spEnd (K : PySem.W.Frag) (CB : Addr) : Sp := fun vs H Q _ => ∃ bk os x d t, ∃ N : Nat, vs = [.ref bk, .str x, .int d] ∧ BookAt K CB H bk os ∧ Good os ∧ isAddrB (.str x) = true ∧ 0 ≤ d ∧ d ≤ 1000000000000000000 ∧ Ends os (x, d) N t ∧
  ∀ H' r, Same H H' → H r = none → H' r = some (.tup [.str t.1, .int t.2]) → Q (.ref r) H'
theorem ok_end (T : Top K mg C_Book C_Letter C_LivePost) : GFn P w K mg base CX0 6 "end" (spEnd K C_Book) := by
  have G_check_letter : GFn P w K mg base CX0 2 "check_letter" spCheckOk := ok_check_letter T
  have G_end_of : GFn P w K mg base CX0 5 "end_of" (spEndOf K C_Book) := ok_end_of T
  refine T.d_end.fn fun f fd F => F.ok sc_end (fun vs H Q E h => ?_) (fun cdv A outer s H vs Q E hr h => ?_)
  · obtain ⟨bk, os, x, d, t, N, rfl, _⟩ := h
    rfl
  · obtain ⟨bk, os, x, d, t, N, rfl, hb, g, ha, h0, h1, en, k⟩ := h
    refine ⟨_, (pss_cons (ps_expr (pe_g G_check_letter (hr.mono (by decide)) (pa_cons (pv 1) (pa_cons (pv 2) pa_nil))))
  (pss_one (ps_ret (pe_slice sl_tup (pe_g G_end_of (hr.mono (by decide)) (pa_cons (pv 0) (pa_cons (pv 1) (pa_cons (pv 2) pa_nil)))) po_none (po_some pe_int))))), ?_⟩
    refine ⟨_, rfl, _, rfl, x, d, rfl, ha, h0, h1, fun H1 s1 => ?_⟩
    refine ⟨_, rfl, _, rfl, _, rfl, bk, os, x, d, t, N, rfl, hb.mono s1, g, h0, h1, en, fun H2 r s2 hr0 er => ?_⟩
    refine ⟨_, rfl, r, _, rfl, .inl (.inl er), (fun z => absurd (show (2 : Nat) = 3 from z.2) (by decide)), fun r2 hr2 => ?_⟩
    have s12 := s1.trans s2
    exact k _ r2 (MF.Same.upd s12 hr2) (s12.free hr2) upd_same
end

end MF
set_option Elab.async false
set_option linter.all false
set_option maxRecDepth 100000
set_option maxHeartbeats 2000000
set_option pp.maxSteps 600
namespace MF
open PySem PySem.Spec PyProof.Rows L2 StX
section
variable {P : Program} {w : World} {K : PySem.W.Frag} {mg : Str → Option Value} {base : Heap} {C_Book C_Letter C_LivePost : Addr}
def PtsAt (H : Hp) (ps : List Addr) (l : List Pt) : Prop := PySem.Paired (fun p (t : Pt) => H p = some (.tup [.str t.1, .int t.2])) ps l
theorem PtsAt.keep {H H' : Hp} {ps : List Addr} {l : List Pt} (h : PtsAt H ps l) (k : ∀ b u, H b = some u → tupl u = true → H' b = some u) : PtsAt H' ps l := PySem.Paired.mono (fun p t e => k _ _ e rfl) h
theorem PtsAt.mono {H H' : Hp} {ps : List Addr} {l : List Pt} (h : PtsAt H ps l) (s : Same H H') : PtsAt H' ps l := h.keep fun b u e _ => s b u e
def spRoute (K : PySem.W.Frag) (CB : Addr) : SpG := fun vs H cont _ => ∃ bk os x d, ∃ n : Nat, vs = [.ref bk, .str x, .int d, .int (n : Int)] ∧ BookAt K CB H bk os ∧ Good os ∧ isAddrB (.str x) = true ∧ 0 ≤ d ∧ d ≤ 1000000000000000000 ∧ n ≤ 1000 ∧
  ∀ H' ps, Same H H' → PtsAt H' ps (routeL os n (x, d)) → (∀ p ∈ ps, H p = none) → cont (ps.map V.ref) H'
theorem ok_route (T : Top K mg C_Book C_Letter C_LivePost) : PGn P w K mg base 4 "route" (spRoute K C_Book) := by
  have G_check_letter : GFn P w K mg base CX0 2 "check_letter" spCheckOk := ok_check_letter T
  have G_is_integer : GFn P w K mg base CX0 1 "is_integer" spIsInteger := ok_is_integer T
  have G_Letter : IFn P w K mg base CX0 2 C_Letter "Letter" (spLetterInit K C_Book C_Letter) := ok_Letter T
  have M_Letter_step : MFn P w K mg base CX0 3 C_Letter "step" (spStep K C_Book C_Letter) := ok_step T
  refine T.d_route.gen sc_route (fun vs H Q E h => ?_) (fun f cdv A outer s H vs Q E pn hr h => ?_)
  · obtain ⟨bk, os, x, d, n, rfl, _⟩ := h
    rfl
  · obtain ⟨bk, os, x, d, n, rfl, B, g, ax, d0, d1, n1, k⟩ := h
    refine ⟨_, (gss_cons (gs_ps (ps_expr (pe_g G_check_letter (hr.mono (by decide)) (pa_cons (pv 1) (pa_cons (pv 2) pa_nil)))))
  (gss_cons (gs_ps (ps_if (pt_not (pt_val (pe_g G_is_integer (hr.mono (by decide)) (pa_cons (pv 3) (pa_cons pe_int (pa_cons (pe_gint T.c_MAX_LISTED) pa_nil))))))
  (pss_one ps_never)
  pss_nil))
  (gss_cons (gs_ps (ps_par (i := 4) (j := 5) (by rfl) sc_route.nd rfl rfl (by decide) rfl rfl (pa_cons (pe_mkX G_Letter (hr.mono (by decide)) pass0 (pa_cons (pv 0) (pa_cons (pv 1) (pa_cons (pv 2) pa_nil)))) (pa_cons (pv 3) pa_nil)) (by rfl)))
  (gss_cons (gs_while owns_gcx (pt_cmpR op_gt (pv 5) pe_int (nomark _))
  (gss_cons (gs_yield (pe_tup (pa_cons (pe_fld (pv 4) rfl) (pa_cons (pe_fld (pv 4) rfl) pa_nil))))
  (gss_cons (gs_ps (ps_set (i := 5) sc_route.nd rfl (Or.inl rfl) (pe_ifExp (pt_val (pe_m0 M_Letter_step T.cl_Letter (hr.mono (by decide)) (pv 4))) (pe_op op_sub (pv 5) pe_int) pe_int)))
  gss_nil)))
  gss_nil)))), ?_⟩
    have hin : isIntB (.int (n : Int)) 0 1000 = true := by
      show (decide (0 ≤ (n : Int)) && decide ((n : Int) ≤ 1000)) = true
      rw [decide_eq_true (by omega), decide_eq_true (by omega)]
      rfl
    refine ⟨_, rfl, _, rfl, x, d, rfl, ax, d0, d1, fun H1 s1 => ?_⟩
    refine ⟨_, rfl, _, _, _, rfl, rfl, _, rfl, ?_⟩
    rw [hin]
    refine iteF ?_
    have B1 := B.mono s1
    refine ⟨_, rfl, _, rfl, _, rfl, fun p dx hp hdx ne => ?_⟩
    have s0 : Same H1 (upd (upd H1 dx (.own p)) p (.ins C_Letter dx [])) := fun b o e => by
      rw [upd_ne (ne_of_none e hp), upd_ne (ne_of_none e hdx)]
      exact e
    have nbp : bk ≠ p := by
      obtain ⟨dy, tb, as, b1, _⟩ := B1
      exact ne_of_none b1 hp
    refine ⟨p, dx, bk, os, x, d, rfl, upd_same, B1.mono s0, g.len, nbp, fun H2 kn hkn L kp => ⟨rfl, _, rfl, _, _, rfl, ?_⟩⟩
    have s2 : Same H1 H2 := fun b u e => kp b u (s0 b u e) (ne_of_none e hp)
    have hp0 : H p = none := s1.free hp
    refine ⟨fun m ys σ H' => ∃ ps kn kvs y e c cnt pre, ys = ps.map V.ref ∧ Same H H' ∧ LetterAt C_Letter H' p kn kvs bk y e cnt false c ∧ PtsAt H' ps pre ∧ (∀ q ∈ ps, H q = none) ∧ pre ++ routeL os m (y, e) = routeL os n (x, d) ∧
      σ = [some (.ref bk), some (.str x), some (.int d), some (.int (n : Int)), some (.ref p), some (.int (m : Int))], ⟨n, [], kn, [], x, d, _, 0, [], rfl, s1.trans s2, L, .nil, (fun q hq => by cases hq), rfl, rfl⟩, ?_⟩
    rintro m ys σ H3 ⟨ps, kn', kvs, y, e, c, cnt, pre, rfl, s3, L3, P3, f3, er, rfl⟩
    refine ⟨_, rfl, _, _, rfl, rfl, _, rfl, ?_⟩
    have lp : ps.length = pre.length := PySem.Paired.length P3
    have B3 := B.mono s3
    cases m with
    | zero =>
      refine iteDN (by omega) ?_
      have ep : pre = routeL os n (x, d) := by
        rw [← er]
        show pre = pre ++ []
        rw [List.append_nil]
      rw [ep] at P3
      exact k _ ps s3 P3 f3
    | succ m =>
      refine iteD (by omega) ⟨fun ys' σ' H' => ∃ m', m' < m + 1 ∧ ∃ ps kn kvs y e c cnt pre, ys' = ps.map V.ref ∧ Same H H' ∧ LetterAt C_Letter H' p kn kvs bk y e cnt false c ∧ PtsAt H' ps pre ∧ (∀ q ∈ ps, H q = none) ∧ pre ++ routeL os m' (y, e) = routeL os n (x, d) ∧
        σ' = [some (.ref bk), some (.str x), some (.int d), some (.int (n : Int)), some (.ref p), some (.int (m' : Int))], fun ys' σ' H' h => h, ?_⟩
      obtain ⟨⟨dz, l1⟩, l2⟩ := id L3
      have hlen : pre.length ≤ 1000 := by
        have := routeL_len (os := os) (n := n) (s := (x, d))
        rw [← er, List.length_append] at this
        omega
      refine ⟨by rw [List.length_map, sizeLine_eq]; omega, _, rfl, p, C_Letter, dz, _, _, rfl, l1, T.cl_Letter, T.n_Letter_address, rfl, _, rfl, p, C_Letter, dz, _, _, rfl, l1, T.cl_Letter, T.n_Letter_day, rfl, (by show 2 ≤ sizeLine; decide), fun r hr0 => ?_⟩
      have s4 := Same.new (o := .tup [.str y, .int e]) hr0
      have s04 := s3.trans s4
      have L4 : LetterAt C_Letter (upd H3 r (.tup [.str y, .int e])) p kn' kvs bk y e cnt false c := L3.keep (fun o q => s4 _ _ q) (fun o q => s4 _ _ q)
      have er4 : (upd H3 r (.tup [.str y, .int e])) r = some (.tup [.str y, .int e]) := upd_same
      generalize upd H3 r (.tup [.str y, .int e]) = H4 at s4 s04 L4 er4
      have P4 : PtsAt H4 (ps ++ [r]) (pre ++ [(y, e)]) := Paired.append (P3.mono s4) (.cons er4 .nil)
      have f4 : ∀ q ∈ ps ++ [r], H q = none := fun q hq => by
        rcases List.mem_append.mp hq with z | z
        · exact f3 q z
        · rw [List.mem_singleton.mp z]
          exact s3.free hr0
      obtain ⟨⟨dw, m1⟩, m2⟩ := id L4
      refine ⟨_, rfl, p, dw, _, rfl, m1, rfl, p, kn', kvs, bk, os, y, e, cnt, false, c, rfl, L4, B.mono s04, g.len, nbp, fun hn H5 s5 => ?_, fun i o hi eo H5 kn5 _ _ L5 k5 => ?_⟩
      · refine ⟨_, rfl, iteF ⟨0, by omega, ps ++ [r], kn', kvs, y, e, c, cnt, pre ++ [(y, e)], by rw [List.map_append]; rfl, s04.trans s5, L4.keep (fun o q => s5 _ _ q) (fun o q => s5 _ _ q), P4.mono s5, f4, ?_, rfl⟩⟩
        rw [← er]
        show pre ++ [(y, e)] ++ [] = pre ++ ((y, e) :: (match nxt os (y, e) with | none => [] | some t => routeL os m t))
        rw [nxt_none.mpr hn, List.append_nil]
      · have hx := nxt_of hi eo
        refine ⟨_, rfl, iteT ⟨_, rfl, _, _, rfl, rfl, m, by omega, ps ++ [r], kn5, _, _, _, _, _, pre ++ [(y, e)], by rw [List.map_append]; rfl, fun b u q => k5 b u (s04 b u q) (ne_of_none q hp0), L5, P4.keep fun b u q z => k5 b u q (fun w => ?_), f4, ?_, ?_⟩⟩
        · rw [w, m1] at q
          cases q
          cases z
        · rw [← er]
          show pre ++ [(y, e)] ++ routeL os m (o.tgt, e + o.way) = pre ++ ((y, e) :: (match nxt os (y, e) with | none => [] | some t => routeL os m t))
          rw [hx, List.append_assoc]
          rfl
        · have : ((m + 1 : Nat) : Int) - 1 = (m : Int) := by omega
          show [some (V.ref bk), some (V.str x), some (V.int d), some (V.int n), some (V.ref p), some (V.int (((m + 1 : Nat) : Int) - 1))] = _
          rw [this]
end

end MF
set_option Elab.async false
set_option linter.all false
set_option maxRecDepth 100000
set_option maxHeartbeats 2000000
set_option pp.maxSteps 600
namespace MF
open PySem PySem.Spec PyProof.Rows L2 StX
section
theorem strOk_addr {z : Str} (h : isAddrB (.str z) = true) : PyData.strOk z = true := by
  simp only [isAddrB, Bool.and_eq_true, decide_eq_true_eq, List.all_eq_true] at h
  unfold PyData.strOk
  rw [← Array.all_toList, List.all_eq_true]
  intro c hc
  have hl : ∀ c ∈ letters.cps.toList, c < 1114112 := by decide
  exact decide_eq_true (hl c (by have := h.2 c hc; simpa using this))
theorem shaped_pt {z : Str} {d : Int} (h : isAddrB (.str z) = true) : SeqAt.shaped (.tuple [.str z, .int d]) = true := by
  have : (PyData.tuple [.str z, .int d]).canLay0 = true := by
    simp only [PyData.canLay0, PyData.canLayAll0, strOk_addr h, Bool.and_true]
  unfold SeqAt.shaped
  rw [this]
  rfl
theorem eqv_pt (A B : Pt) : PyData.eqv (.tuple [.str A.1, .int A.2]) (.tuple [.str B.1, .int B.2]) = decide (A = B) := by
  obtain ⟨a, b⟩ := A
  obtain ⟨c, d⟩ := B
  simp only [PyData.eqv, PyData.eqvAll, Bool.and_true]
  rw [Bool.eq_iff_iff]
  simp
end

end MF
set_option Elab.async false
set_option linter.all false
set_option maxHeartbeats 1000000
namespace MF
open PySem

abbrev Pr := Pt × Pt
def norm (A B : Pt) : Pr := if B.2 < A.2 then (B, A) else (A, B)
def nstep (os : List Ordr) (p : Pr) : Option Pr := (nxt os p.1).map fun e => norm e p.2
inductive MGo (os : List Ordr) : Pr → Nat → Pr → Prop
  | refl (p : Pr) : MGo os p 0 p
  | step {p p' r : Pr} {n : Nat} (ne : p.1 ≠ p.2) (h : nstep os p = some p') (g : MGo os p' n r) : MGo os p (n + 1) r
def Meets (os : List Ordr) (p : Pr) (r : Option Pt) : Prop := (∃ n A, MGo os p n (A, A) ∧ r = some A) ∨ ∃ n q, MGo os p n q ∧ q.1 ≠ q.2 ∧ nxt os q.1 = none ∧ r = none
theorem MGo.trans {os : List Ordr} {p q r : Pr} {n m : Nat} (a : MGo os p n q) (b : MGo os q m r) : MGo os p (n + m) r := by
  induction a with
  | refl p => rw [Nat.zero_add]; exact b
  | step ne h g ih => rw [Nat.succ_add]; exact .step ne h (ih b)
theorem Meets.after {os : List Ordr} {p q : Pr} {r : Option Pt} {n : Nat} (g : MGo os p n q) (m : Meets os p r) : Meets os q r := by
  induction g with
  | refl p => exact m
  | step ne h g ih =>
    refine ih ?_
    rcases m with ⟨k, A, a, e⟩ | ⟨k, R, a, b, c, e⟩
    · cases a with
      | refl => exact absurd rfl ne
      | step ne' h' g' => rw [h] at h'; cases h'; exact .inl ⟨_, A, g', e⟩
    · cases a with
      | refl =>
        unfold nstep at h
        rw [c] at h
        cases h
      | step ne' h' g' => rw [h] at h'; cases h'; exact .inr ⟨_, R, g', b, c, e⟩
theorem Meets.before {os : List Ordr} {p q : Pr} {r : Option Pt} {n : Nat} (g : MGo os p n q) (m : Meets os q r) : Meets os p r := by
  rcases m with ⟨k, A, a, e⟩ | ⟨k, R, a, b, c, e⟩
  · exact .inl ⟨_, A, g.trans a, e⟩
  · exact .inr ⟨_, R, g.trans a, b, c, e⟩
theorem Meets.same {os : List Ordr} {A : Pt} {r : Option Pt} (m : Meets os (A, A) r) : r = some A := by
  rcases m with ⟨k, B, a, e⟩ | ⟨k, R, a, b, c, e⟩
  · cases a with
    | refl => exact e
    | step ne _ _ => exact absurd rfl ne
  · cases a with
    | refl => exact absurd rfl b
    | step ne _ _ => exact absurd rfl ne
theorem Meets.none {os : List Ordr} {p : Pr} {r : Option Pt} (m : Meets os p r) (ne : p.1 ≠ p.2) (h : nxt os p.1 = none) : r = none := by
  rcases m with ⟨k, B, a, e⟩ | ⟨k, R, a, b, c, e⟩
  · cases a with
    | refl => exact absurd rfl ne
    | step _ h' _ =>
      unfold nstep at h'
      rw [h] at h'
      cases h'
  · exact e
theorem norm_le (A B : Pt) : (norm A B).1.2 ≤ (norm A B).2.2 := by
  unfold norm
  split
  · show B.2 ≤ A.2; omega
  · show A.2 ≤ B.2; omega
theorem norm_sum (A B : Pt) : (norm A B).1.2 + (norm A B).2.2 = A.2 + B.2 := by
  unfold norm
  split
  · show B.2 + A.2 = _; omega
  · rfl
theorem MGo.days {os : List Ordr} {M : Int} (f : Fine os M) {p q : Pr} {n : Nat} (g : MGo os p n q) (hp : p.1.2 ≤ p.2.2) : p.1.2 + p.2.2 + (n : Int) ≤ q.1.2 + q.2.2 ∧ p.1.2 ≤ q.1.2 ∧ q.1.2 ≤ q.2.2 := by
  induction g with
  | refl p => exact ⟨by simp, Int.le_refl _, hp⟩
  | @step p p' r n ne h g ih =>
    unfold nstep at h
    cases q : nxt os p.1 with
    | none => rw [q] at h; cases h
    | some e =>
      rw [q] at h
      have hpe : norm e p.2 = p' := Option.some.inj h
      subst hpe
      have h1 := (nxt_day f q).1
      have h2 := norm_sum e p.2
      have h3 := norm_le e p.2
      obtain ⟨i1, i2, i3⟩ := ih h3
      have h4 : p.1.2 ≤ (norm e p.2).1.2 := by
        unfold norm
        split
        · exact hp
        · show p.1.2 ≤ e.2; omega
      refine ⟨?_, by omega, i3⟩
      push_cast
      omega
def shiftP (p : Pr) (δ : Int) : Pr := ((p.1.1, p.1.2 + δ), (p.2.1, p.2.2 + δ))
theorem shift_inj {p : Pr} {δ : Int} (z : (shiftP p δ).1 = (shiftP p δ).2) : p.1 = p.2 := by
  obtain ⟨⟨a, b⟩, ⟨c, d⟩⟩ := p
  simp only [shiftP, Prod.mk.injEq] at z ⊢
  exact ⟨z.1, by omega⟩
theorem norm_shift (A B : Pt) (δ : Int) : norm (A.1, A.2 + δ) (B.1, B.2 + δ) = shiftP (norm A B) δ := by
  unfold norm shiftP
  by_cases h : B.2 < A.2
  · rw [if_pos h, if_pos (show B.2 + δ < A.2 + δ by omega)]
  · rw [if_neg h, if_neg (show ¬ B.2 + δ < A.2 + δ by omega)]
theorem MGo.shift {os : List Ordr} {M : Int} (f : Fine os M) {hi δ : Int} (h0 : 0 ≤ δ) {p q : Pr} {n : Nat} (g : MGo os p n q) (hp : p.1.2 ≤ p.2.2) (hc : ∀ c ∈ changes os p.1.2, hi < c) (hq : q.1.2 + δ ≤ hi) : MGo os (shiftP p δ) n (shiftP q δ) := by
  induction g with
  | refl p => exact .refl _
  | @step p p' r n ne h g ih =>
    have hh := h
    unfold nstep at h
    cases q : nxt os p.1 with
    | none => rw [q] at h; cases h
    | some e =>
      rw [q] at h
      have hpe : norm e p.2 = p' := Option.some.inj h
      subst hpe
      have h1 := (nxt_day f q).1
      have h3 := norm_le e p.2
      have d2 := g.days f h3
      have h4 : p.1.2 ≤ (norm e p.2).1.2 := by
        unfold norm
        split
        · exact hp
        · show p.1.2 ≤ e.2; omega
      obtain ⟨i, o, g1, g2, g3, eE⟩ := nxt_some q
      have e1 : ordFor os p.1.1 (p.1.2 + δ) = some i := by
        rw [← g1]
        exact ordFor_const (by omega) fun c hc' => by have := hc c hc'; omega
      have e2 : nxt os (shiftP p δ).1 = some (e.1, e.2 + δ) := by
        show nxt os (p.1.1, p.1.2 + δ) = _
        rw [nxt_of e1 g2, eE]
        simp only [Option.some.injEq, Prod.mk.injEq, true_and]
        omega
      have e3 : nstep os (shiftP p δ) = some (shiftP (norm e p.2) δ) := by
        unfold nstep
        rw [e2]
        show some (norm (e.1, e.2 + δ) (p.2.1, p.2.2 + δ)) = _
        rw [norm_shift]
      refine .step (fun z => ne (shift_inj z)) e3 (ih h3 (fun c hc' => hc c ?_) hq)
      obtain ⟨q1, q2⟩ := mem_changes.mp hc'
      exact mem_changes.mpr ⟨by omega, q2⟩
theorem MGo.rounds {os : List Ordr} {M : Int} (f : Fine os M) {p : Pr} {δ hi : Int} {k : Nat} (g : MGo os p k (shiftP p δ)) (hp : p.1.2 ≤ p.2.2) (hd : 0 ≤ δ) (hc : ∀ c ∈ changes os p.1.2, hi < c) : ∀ j : Nat, p.1.2 + δ + (j : Int) * δ ≤ hi → MGo os (shiftP p δ) (j * k) (shiftP p (δ + (j : Int) * δ))
  | 0, _ => by simp; exact .refl _
  | j + 1, h => by
    have hj : 0 ≤ (j : Int) * δ := Int.mul_nonneg (Int.natCast_nonneg _) hd
    have e : ((j + 1 : Nat) : Int) * δ = (j : Int) * δ + δ := by
      push_cast
      rw [Int.add_mul, Int.one_mul]
    rw [e] at h ⊢
    have a := MGo.rounds f g hp hd hc j (by omega)
    have b := MGo.shift f (δ := δ + (j : Int) * δ) (by omega) g hp hc (by show p.1.2 + δ + _ ≤ hi; omega)
    have e3 : shiftP (shiftP p δ) (δ + (j : Int) * δ) = shiftP p (δ + ((j : Int) * δ + δ)) := by
      unfold shiftP
      simp only [Prod.mk.injEq, true_and]
      constructor <;> omega
    rw [e3] at b
    rw [Nat.succ_mul]
    exact a.trans b
theorem meets_of_go {os : List Ordr} {M : Int} (f : Fine os M) {E L : Pt} {j : Nat} (g : Go os E j L) : Meets os (E, L) (some L) := by
  have : ∃ n, MGo os (E, L) n (L, L) := by
    induction g with
    | refl s => exact ⟨0, .refl _⟩
    | @step s s' t n h r ih =>
      obtain ⟨m, im⟩ := ih
      have h1 := (nxt_day f h).1
      have h2 := r.day f
      have e : nstep os (s, t) = some (s', t) := by
        unfold nstep
        rw [h]
        show some (norm s' t) = _
        unfold norm
        rw [if_neg (by omega)]
      exact ⟨m + 1, .step (fun z => by have : s.2 = t.2 := congrArg Prod.snd z; omega) e im⟩
  obtain ⟨n, h⟩ := this
  exact .inl ⟨n, L, h, rfl⟩
theorem meets_ex {os : List Ordr} {M : Int} (f : Fine os M) (p : Pr) (hp : p.1.2 ≤ p.2.2) : ∃ r, Meets os p r := by
  have all : ∀ (k : Nat) (p : Pr), p.1.2 ≤ p.2.2 → ((M + 1 - p.1.2).toNat + (M + 1 - p.2.2).toNat) ≤ k → ∃ r, Meets os p r := by
    intro k
    induction k with
    | zero =>
      intro p hp hk
      by_cases ne : p.1 = p.2
      · exact ⟨some p.1, .inl ⟨0, p.1, by have : p = (p.1, p.1) := Prod.ext rfl ne.symm; rw [← this]; exact .refl _, rfl⟩⟩
      · cases q : nxt os p.1 with
        | none => exact ⟨none, .inr ⟨0, p, .refl _, ne, q, rfl⟩⟩
        | some s' => have := nxt_day f q; omega
    | succ k ih =>
      intro p hp hk
      by_cases ne : p.1 = p.2
      · exact ⟨some p.1, .inl ⟨0, p.1, by have : p = (p.1, p.1) := Prod.ext rfl ne.symm; rw [← this]; exact .refl _, rfl⟩⟩
      · cases q : nxt os p.1 with
        | none => exact ⟨none, .inr ⟨0, p, .refl _, ne, q, rfl⟩⟩
        | some e =>
          have h1 := nxt_day f q
          obtain ⟨r, hr⟩ := ih (norm e p.2) (norm_le _ _) (by
            unfold norm
            split
            · show (M + 1 - p.2.2).toNat + (M + 1 - e.2).toNat ≤ k
              omega
            · show (M + 1 - e.2).toNat + (M + 1 - p.2.2).toNat ≤ k
              omega)
          exact ⟨r, .before (.step ne (by unfold nstep; rw [q]; rfl) (.refl _)) hr⟩
  exact all _ p hp (Nat.le_refl _)
end MF
set_option Elab.async false
set_option linter.all false
set_option maxHeartbeats 1000000
namespace MF
open PySem
def On (os : List Ordr) (s t : Pt) : Prop := ∃ n, Go os s n t
theorem On.refl (os : List Ordr) (s : Pt) : On os s s := ⟨0, .refl s⟩
theorem On.trans {os : List Ordr} {s t u : Pt} (a : On os s t) (b : On os t u) : On os s u := let ⟨n, g⟩ := a; let ⟨m, h⟩ := b; ⟨n + m, g.trans h⟩
theorem On.tail {os : List Ordr} {s t : Pt} (h : On os s t) (ne : s ≠ t) : ∃ u, nxt os s = some u ∧ On os u t := by
  obtain ⟨n, g⟩ := h
  cases g with
  | refl => exact absurd rfl ne
  | step h g => exact ⟨_, h, _, g⟩
theorem On.day {os : List Ordr} {M : Int} (f : Fine os M) {s t : Pt} (h : On os s t) : s.2 ≤ t.2 ∧ (t.2 ≤ s.2 → s = t) := by
  obtain ⟨n, g⟩ := h
  have h1 := g.day f
  refine ⟨by omega, fun h2 => ?_⟩
  have : n = 0 := by omega
  subst this
  cases g
  rfl
theorem On.line {os : List Ordr} {s t u : Pt} (a : On os s t) (b : On os s u) : On os t u ∨ On os u t := by
  obtain ⟨n, g⟩ := a
  obtain ⟨m, h⟩ := b
  induction g generalizing m with
  | refl => exact .inl ⟨m, h⟩
  | step e g ih =>
    cases h with
    | refl => exact .inr ⟨_, .step e g⟩
    | step e' h => rw [e] at e'; cases e'; exact ih _ h
theorem go_same {os : List Ordr} {M : Int} (f : Fine os M) {s t : Pt} {n m : Nat} (a : Go os s n t) (b : Go os s m t) : n = m := by
  induction a generalizing m with
  | refl s =>
    have := b.day f
    omega
  | step e g ih =>
    cases b with
    | refl =>
      have := (Go.step e g).day f
      omega
    | step e' h => rw [e] at e'; cases e'; rw [ih h]
def FirstIn (os : List Ordr) (A B : Pt) : Option Pt → Prop
  | some C => On os A C ∧ On os B C ∧ ∀ D, On os A D → On os B D → On os C D
  | none => ∀ D, On os A D → ¬ On os B D
theorem FirstIn.symm {os : List Ordr} {A B : Pt} : ∀ {r : Option Pt}, FirstIn os A B r → FirstIn os B A r
  | some _, ⟨a, b, c⟩ => ⟨b, a, fun D x y => c D y x⟩
  | none, h => fun D a b => h D b a
theorem FirstIn.uniq {os : List Ordr} {M : Int} (f : Fine os M) {A B : Pt} : ∀ {r r' : Option Pt}, FirstIn os A B r → FirstIn os A B r' → r = r'
  | none, none, _, _ => rfl
  | none, some C, h, ⟨a, b, _⟩ => absurd b (h C a)
  | some C, none, ⟨a, b, _⟩, h => absurd b (h C a)
  | some C, some D, ⟨a, b, c⟩, ⟨a', b', c'⟩ => by
    have h1 := (c D a' b').day f
    have h2 := (c' C a b).day f
    rw [h1.2 h2.1]
theorem FirstIn.norm {os : List Ordr} {A B : Pt} {r : Option Pt} (h : FirstIn os (norm A B).1 (norm A B).2 r) : FirstIn os A B r := by
  unfold MF.norm at h
  split at h
  · exact h.symm
  · exact h
theorem FirstIn.back {os : List Ordr} {M : Int} (f : Fine os M) {A B e : Pt} (hp : A.2 ≤ B.2) (ne : A ≠ B) (hn : nxt os A = some e) : ∀ {r : Option Pt}, FirstIn os e B r → FirstIn os A B r := by
  have key : ∀ D, On os A D → On os B D → On os e D := fun D h1 h2 => by
    have nD : A ≠ D := fun z => by
      subst z
      have := (h2.day f).2 hp
      exact ne this.symm
    obtain ⟨u, h3, h4⟩ := h1.tail nD
    rw [hn] at h3
    cases h3
    exact h4
  intro r h
  cases r with
  | some C => exact ⟨On.trans ⟨1, Go.one hn⟩ h.1, h.2.1, fun D h1 h2 => h.2.2 D (key D h1 h2) h2⟩
  | none => exact fun D h1 h2 => h D (key D h1 h2) h2
theorem MGo.first {os : List Ordr} {M : Int} (f : Fine os M) {p q : Pr} {n : Nat} (g : MGo os p n q) (hp : p.1.2 ≤ p.2.2) {r : Option Pt} (h : FirstIn os q.1 q.2 r) : FirstIn os p.1 p.2 r := by
  induction g with
  | refl => exact h
  | @step p p' q n ne hs g ih =>
    unfold nstep at hs
    cases e : nxt os p.1 with
    | none => rw [e] at hs; cases hs
    | some u =>
      rw [e] at hs
      have hs' := Option.some.inj hs
      subst hs'
      exact (ih (norm_le _ _) h).norm.back f hp ne e
theorem Meets.first {os : List Ordr} {M : Int} (f : Fine os M) {A B : Pt} {r : Option Pt} (m : Meets os (MF.norm A B) r) : FirstIn os A B r := by
  refine FirstIn.norm ?_
  have hp := norm_le A B
  rcases m with ⟨n, C, g, rfl⟩ | ⟨n, q, g, ne, hn, rfl⟩
  · exact g.first f hp ⟨On.refl _ _, On.refl _ _, fun D h _ => h⟩
  · refine g.first f hp fun D h1 h2 => ?_
    have d := (g.days f hp).2.2
    by_cases c : q.1 = D
    · rw [← c] at h2
      exact ne ((h2.day f).2 d).symm
    · obtain ⟨u, h3, _⟩ := h1.tail c
      rw [hn] at h3
      cases h3
theorem Meets.comm {os : List Ordr} {M : Int} (f : Fine os M) {A B : Pt} {r r' : Option Pt} (m : Meets os (MF.norm A B) r) (m' : Meets os (MF.norm B A) r') : r' = r := FirstIn.uniq f (m'.first f).symm (m.first f)
theorem On.ends {os : List Ordr} {s t u : Pt} {n : Nat} (h : On os s t) (e : Ends os s n u) : ∃ m, Ends os t m u := by
  obtain ⟨k, g⟩ := h
  exact ⟨_, (e.after g).2⟩
theorem Ends.on {os : List Ordr} {s u : Pt} {n : Nat} (e : Ends os s n u) : On os s u := ⟨n, e.1⟩
end MF
set_option Elab.async false
set_option linter.all false
set_option maxHeartbeats 1000000
namespace MF
open PySem
def pot (s : Pt) (o : Ordr) : Int := max 0 ((o.last - max o.first (if s.1 = o.src then s.2 else s.2 + 1) + 2) / 2)
def potS (f : Ordr → Int) : List Ordr → Int
  | [] => 0
  | o :: os => f o + potS f os
theorem potS_le {f g : Ordr → Int} : ∀ {os : List Ordr}, (∀ o ∈ os, f o ≤ g o) → potS f os ≤ potS g os
  | [], _ => Int.le_refl _
  | o :: os, h => by
    have h1 := h o List.mem_cons_self
    have h2 := potS_le (os := os) fun p hp => h p (List.mem_cons_of_mem _ hp)
    show f o + potS f os ≤ g o + potS g os
    omega
theorem potS_lt {f g : Ordr → Int} : ∀ {os : List Ordr} {i : Nat} {o : Ordr}, (∀ o ∈ os, f o ≤ g o) → os[i]? = some o → f o + 1 ≤ g o → potS f os + 1 ≤ potS g os
  | [], i, o, _, e, _ => by simp at e
  | p :: os, 0, o, h, e, hl => by
    have h2 := potS_le (os := os) fun p hp => h p (List.mem_cons_of_mem _ hp)
    simp at e
    subst e
    show f p + potS f os + 1 ≤ g p + potS g os
    omega
  | p :: os, i + 1, o, h, e, hl => by
    have h1 := h p List.mem_cons_self
    have h2 := potS_lt (os := os) (i := i) (fun p hp => h p (List.mem_cons_of_mem _ hp)) (by simpa using e) hl
    show f p + potS f os + 1 ≤ g p + potS g os
    omega
theorem potS_const {f : Ordr → Int} {c : Int} : ∀ {os : List Ordr}, (∀ o ∈ os, f o ≤ c) → potS f os ≤ (os.length : Int) * c
  | [], _ => by simp [potS]
  | o :: os, h => by
    have h1 := h o List.mem_cons_self
    have h2 := potS_const (os := os) fun p hp => h p (List.mem_cons_of_mem _ hp)
    show f o + potS f os ≤ ((os.length + 1 : Nat) : Int) * c
    push_cast
    rw [Int.add_mul, Int.one_mul]
    omega
theorem potS_nonneg {f : Ordr → Int} : ∀ {os : List Ordr}, (∀ o ∈ os, 0 ≤ f o) → 0 ≤ potS f os
  | [], _ => Int.le_refl _
  | o :: os, h => by
    have h1 := h o List.mem_cons_self
    have h2 := potS_nonneg (os := os) fun p hp => h p (List.mem_cons_of_mem _ hp)
    show 0 ≤ f o + potS f os
    omega
theorem pot_nonneg (s : Pt) (o : Ordr) : 0 ≤ pot s o := by unfold pot; omega
theorem pot_step {os : List Ordr} (g : Good os) {s t : Pt} (h : nxt os s = some t) : potS (pot t) os + 1 ≤ potS (pot s) os := by
  obtain ⟨i, o, _, eo, ho, rfl⟩ := nxt_some h
  have om := List.mem_of_getElem? eo
  have ok := g.ok o om
  have w1 := ok.w1
  unfold holds at ho
  simp only [Bool.and_eq_true, decide_eq_true_eq] at ho
  refine potS_lt (i := i) (fun p _ => ?_) eo ?_
  · unfold pot
    simp only
    split <;> split <;> omega
  · unfold pot
    simp only
    rw [if_neg (show ¬ o.tgt = o.src from fun z => ok.ne z.symm), if_pos ho.1.symm]
    omega
theorem Go.pot {os : List Ordr} (g : Good os) {s t : Pt} {n : Nat} (h : Go os s n t) : (n : Int) ≤ potS (MF.pot s) os := by
  induction h with
  | refl => exact potS_nonneg fun o _ => pot_nonneg _ o
  | step e _ ih =>
    have := pot_step g e
    push_cast
    omega
theorem Go.few {os : List Ordr} (g : Good os) {L : Int} {m : Nat} (hl : os.length ≤ m) (hL : ∀ o ∈ os, o.last - o.first < L) (h0 : 0 ≤ L) {s t : Pt} {n : Nat} (h : Go os s n t) : (n : Int) ≤ (m : Int) * ((L + 1) / 2) := by
  have h1 := h.pot g
  have h2 := potS_const (f := MF.pot s) (c := (L + 1) / 2) (os := os) fun o ho => by
    have := hL o ho
    unfold MF.pot
    split <;> omega
  have h3 : (os.length : Int) * ((L + 1) / 2) ≤ (m : Int) * ((L + 1) / 2) := Int.mul_le_mul_of_nonneg_right (by omega) (by omega)
  omega
theorem Go.upto {os : List Ordr} (g : Good os) {s t : Pt} {n : Nat} (h : Go os s n t) : t.2 ≤ s.2 + 30 * (n : Int) := by
  induction h with
  | refl => simp
  | step e _ ih =>
    obtain ⟨i, o, _, eo, _, rfl⟩ := nxt_some e
    have := (g.ok o (List.mem_of_getElem? eo)).w30
    simp only at ih
    push_cast
    omega
theorem routeL_whole {os : List Ordr} {n : Nat} {s : Pt} (h : ∀ t i, Go os s i t → i < n) {t : Pt} : t ∈ routeL os n s ↔ On os s t := by
  rw [routeL_mem]
  exact ⟨fun ⟨i, _, g⟩ => ⟨i, g⟩, fun ⟨i, g⟩ => ⟨i, h t i g, g⟩⟩
theorem shared_first {os : List Ordr} {M : Int} (f : Fine os M) {n : Nat} {A B : Pt} {p : Pt → Bool} (hp : ∀ t, p t = true ↔ On os B t) (hA : ∀ t i, Go os A i t → i < n) : ∀ {r : Option Pt}, FirstIn os A B r → ((routeL os n A).filter p).head? = r
  | none, h => by
    have : (routeL os n A).filter p = [] := List.filter_eq_nil_iff.mpr fun t ht hpt => h t ((routeL_whole hA).mp ht) ((hp t).mp hpt)
    rw [this]
    rfl
  | some C, ⟨h1, h2, h3⟩ => by
    have hC : C ∈ (routeL os n A).filter p := List.mem_filter.mpr ⟨(routeL_whole hA).mpr h1, (hp C).mpr h2⟩
    have pw : ((routeL os n A).filter p).Pairwise fun s t => s.2 < t.2 := by
      refine List.Pairwise.filter _ ?_
      rw [List.pairwise_iff_getElem]
      intro i j hi hj hij
      obtain ⟨_, g1⟩ := routeL_go.mp (List.getElem?_eq_getElem hi)
      obtain ⟨_, g2⟩ := routeL_go.mp (List.getElem?_eq_getElem hj)
      obtain ⟨k, rfl⟩ : ∃ k, j = i + (k + 1) := ⟨j - i - 1, by omega⟩
      have g3 : Go os (routeL os n A)[i] (k + 1) (routeL os n A)[i + (k + 1)] := by
        rcases On.line ⟨i, g1⟩ ⟨_, g2⟩ with ⟨m, z⟩ | ⟨m, z⟩
        · have := (g1.trans z)
          by_cases c : m = k + 1
          · subst c; exact z
          · exfalso
            have e1 := go_same f this g2
            omega
        · exfalso
          have e1 := go_same f (g2.trans z) g1
          omega
      have := g3.day f
      omega
    cases q : (routeL os n A).filter p with
    | nil => rw [q] at hC; cases hC
    | cons c cs =>
      rw [q] at hC pw
      show some c = some C
      rcases List.mem_cons.mp hC with z | z
      · rw [z]
      · have h4 := (List.pairwise_cons.mp pw).1 C z
        have hc : c ∈ (routeL os n A).filter p := by rw [q]; exact List.mem_cons_self
        obtain ⟨hc1, hc2⟩ := List.mem_filter.mp hc
        have h5 := (h3 c ((routeL_whole hA).mp hc1) ((hp c).mp hc2)).day f
        omega
end MF
set_option Elab.async false
set_option linter.all false
set_option maxHeartbeats 1000000
namespace MF
open PySem
inductive Way (os : List Ordr) (td : Int) : Pt → Nat → Pt → Prop
  | refl (s : Pt) : Way os td s 0 s
  | step {s s' t : Pt} {n : Nat} (hd : s.2 ≤ td) (h : nxt os s = some s') (r : Way os td s' n t) : Way os td s (n + 1) t
theorem Way.go {os : List Ordr} {td : Int} {s t : Pt} {n : Nat} (a : Way os td s n t) : Go os s n t := by
  induction a with
  | refl s => exact .refl s
  | step _ h _ ih => exact .step h ih
theorem Way.trans {os : List Ordr} {td : Int} {s t u : Pt} {n m : Nat} (a : Way os td s n t) (b : Way os td t m u) : Way os td s (n + m) u := by
  induction a with
  | refl s => rw [Nat.zero_add]; exact b
  | step hd h _ ih =>
    rw [Nat.add_right_comm]
    exact .step hd h (ih b)
theorem Way.later {os : List Ordr} {td td' : Int} (le : td ≤ td') {s t : Pt} {n : Nat} (a : Way os td s n t) : Way os td' s n t := by
  induction a with
  | refl s => exact .refl s
  | step hd h _ ih => exact .step (Int.le_trans hd le) h ih
theorem ordFor_last {x : Str} {d : Int} {o : Ordr} (ho : holds o x d = false) : ∀ {os : List Ordr}, ordFor (os ++ [o]) x d = ordFor os x d
  | [] => by
    show ordFor [o] x d = none
    exact ordFor_none fun p hp => by rw [List.mem_singleton.mp hp]; exact ho
  | p :: os => by
    rw [List.cons_append]
    unfold ordFor
    rw [ordFor_last ho]
theorem nxt_last {os : List Ordr} {o : Ordr} {s : Pt} (h : s.2 < o.first) : nxt (os ++ [o]) s = nxt os s := by
  have ho : holds o s.1 s.2 = false := by
    unfold holds
    rw [decide_eq_false (show ¬ o.first ≤ s.2 by omega)]
    simp
  unfold nxt
  rw [ordFor_last ho]
  cases e : ordFor os s.1 s.2 with
  | none => rfl
  | some i =>
    obtain ⟨p, hp, _⟩ := ordFor_some e
    show (os ++ [o])[i]?.map _ = os[i]?.map _
    rw [List.getElem?_append_left (List.getElem?_eq_some_iff.mp hp).1]
theorem Way.more {os : List Ordr} {o : Ordr} {td : Int} (ht : td < o.first) {s t : Pt} {n : Nat} (a : Way os td s n t) : Way (os ++ [o]) td s n t := by
  induction a with
  | refl s => exact .refl s
  | step hd h _ ih => exact .step hd (by rw [nxt_last (by omega)]; exact h) ih
theorem Way.few {os : List Ordr} (g : Good os) {td : Int} {s t : Pt} {n : Nat} (a : Way os td s n t) : n = 0 ∨ s.2 + (n : Int) ≤ td + 1 := by
  induction a with
  | refl s => exact .inl rfl
  | step hd h r ih =>
    have g1 := (Go.step h (.refl _)).day g.fine
    rcases ih with z | z
    · right; subst z; simp; omega
    · right
      simp only [Int.natCast_add] at *
      omega
def At (os : List Ordr) (td : Int) (s t : Pt) (r : Bool) : Prop := ∃ n, Way os td s n t ∧ (r = true → t.2 ≤ td ∧ nxt os t = none) ∧ (r = false → td < t.2)
theorem At.rest {os : List Ordr} {td : Int} {s t : Pt} (a : At os td s t true) : ∃ n, Ends os s n t := let ⟨n, w, h, _⟩ := a; ⟨n, w.go, (h rfl).2⟩
theorem At.iff {os : List Ordr} {td : Int} {s t : Pt} {r : Bool} (a : At os td s t r) : r = decide (t.2 ≤ td) := by
  obtain ⟨n, w, h1, h2⟩ := a
  cases r with
  | true => exact (decide_eq_true (h1 rfl).1).symm
  | false => exact (decide_eq_false (by have := h2 rfl; omega)).symm
theorem At.on {os : List Ordr} (g : Good os) {td : Int} {s t : Pt} {r : Bool} (a : At os td s t r) (s0 : 0 ≤ s.2) (h : td < 398) : t ∈ routeL os 400 s := by
  obtain ⟨n, w, _⟩ := a
  refine routeL_mem.mpr ⟨n, ?_, w.go⟩
  rcases w.few g with z | z <;> omega
theorem At.more {os : List Ordr} {o : Ordr} {td : Int} (ht : td < o.first) {s t : Pt} {r : Bool} (a : At os td s t r) : At (os ++ [o]) td s t r := by
  obtain ⟨n, w, h1, h2⟩ := a
  exact ⟨n, w.more ht, fun z => ⟨(h1 z).1, by rw [nxt_last (by have := (h1 z).1; omega)]; exact (h1 z).2⟩, h2⟩
theorem At.stays {os : List Ordr} {td td' : Int} (le : td ≤ td') {s t : Pt} (a : At os td s t true) : At os td' s t true := by
  obtain ⟨n, w, h1, h2⟩ := a
  exact ⟨n, w.later le, fun _ => ⟨Int.le_trans (h1 rfl).1 le, (h1 rfl).2⟩, fun z => by cases z⟩
theorem At.goes {os : List Ordr} {td td' : Int} (le : td ≤ td') {s t u : Pt} {r q : Bool} (a : At os td s t r) (b : At os td' t u q) : At os td' s u q := by
  obtain ⟨n, w, _⟩ := a
  obtain ⟨m, v, h1, h2⟩ := b
  exact ⟨n + m, (w.later le).trans v, h1, h2⟩
end MF
set_option Elab.async false
set_option linter.all false
set_option maxRecDepth 100000
set_option maxHeartbeats 2000000
set_option pp.maxSteps 600
namespace MF
open PySem PySem.Spec PyProof.Rows L2 StX
section
variable {P : Program} {w : World} {K : PySem.W.Frag} {mg : Str → Option Value} {base : Heap} {C_Book C_Letter C_LivePost : Addr}
theorem op_inDK {X : Cx} {K : PySem.W.Frag} (hu : X.A.units + 65 < cLine) (h : X.K = K := by rfl) : OpR X (compareOp .In) (rInD K) := h ▸ op_inD hu
theorem op_notInDK {X : Cx} {K : PySem.W.Frag} (hu : X.A.units + 65 < cLine) (h : X.K = K := by rfl) : OpR X (compareOp .NotIn) (rNotInD K) := h ▸ op_notInD hu
def OptPt (H : Hp) (v : V) : Option Pt → Prop
  | none => v = .non
  | some C => ∃ p, v = .ref p ∧ H p = some (.tup [.str C.1, .int C.2])
def ptD (C : Pt) : PyData := .tuple [.str C.1, .int C.2]
def optD : Option Pt → PyData
  | none => .none
  | some C => ptD C
theorem OptPt.keep {H H' : Hp} {v : V} : ∀ {r : Option Pt}, OptPt H v r → (∀ b u, H b = some u → tupl u = true → H' b = some u) → OptPt H' v r
  | none, h, _ => h
  | some _, ⟨p, e, h⟩, k => ⟨p, e, k _ _ h rfl⟩
theorem OptPt.mono {H H' : Hp} {v : V} {r : Option Pt} (h : OptPt H v r) (s : Same H H') : OptPt H' v r := h.keep fun b u e _ => s b u e
theorem dp_pt {H : Hp} {p : Addr} {C : Pt} (h : H p = some (.tup [.str C.1, .int C.2])) : Dp K H (.ref p) (ptD C) := .tup (.inl (.inl h)) (.cons (.str _) (.cons (.int _) .nil))
theorem OptPt.dp {H : Hp} {v : V} : ∀ {r : Option Pt}, OptPt H v r → Dp K H v (optD r)
  | none, h => by rw [show v = .non from h]; exact .non
  | some _, ⟨p, e, h⟩ => by rw [e]; exact dp_pt h
theorem optD_shaped : ∀ {r : Option Pt}, (∀ C, r = some C → isAddrB (.str C.1) = true) → SeqAt.shaped (optD r) = true
  | none, _ => by decide
  | some C, h => shaped_pt (h C rfl)
theorem optD_lay : ∀ {r : Option Pt}, (∀ C, r = some C → isAddrB (.str C.1) = true) → (optD r).canLay0 = true
  | none, _ => by decide
  | some C, h => by
    show (PyData.tuple [.str C.1, .int C.2]).canLay0 = true
    simp only [PyData.canLay0, PyData.canLayAll0, strOk_addr (h C rfl), Bool.and_true]
theorem Go.addr {os : List Ordr} (g : Good os) {s t : Pt} {n : Nat} (h : Go os s n t) (hs : isAddrB (.str s.1) = true) : isAddrB (.str t.1) = true := by
  induction h with
  | refl => exact hs
  | step e _ ih =>
    obtain ⟨i, o, _, eo, _, rfl⟩ := nxt_some e
    exact ih (g.ok o (List.mem_of_getElem? eo)).at_
theorem On.addr {os : List Ordr} (g : Good os) {s t : Pt} (h : On os s t) (hs : isAddrB (.str s.1) = true) : isAddrB (.str t.1) = true := let ⟨_, z⟩ := h; z.addr g hs
end

end MF
set_option Elab.async false
set_option linter.all false
set_option maxRecDepth 100000
set_option maxHeartbeats 2000000
set_option pp.maxSteps 600
namespace MF
open PySem PySem.Spec PyProof.Rows L2 StX
section
variable {P : Program} {w : World} {K : PySem.W.Frag} {mg : Str → Option Value} {base : Heap} {C_Book C_Letter C_LivePost : Addr}
theorem pts_dp {H : Hp} : ∀ {ps : List Addr} {l : List Pt}, PtsAt H ps l → DpAll K H (ps.map V.ref) (l.map ptD)
  | _, _, .nil => .nil
  | _, _, .cons h t => .cons (dp_pt h) (pts_dp t)
theorem ptsD_lay : ∀ {l : List Pt}, (∀ C ∈ l, isAddrB (.str C.1) = true) → PyData.canLayAll0 (l.map ptD) = true
  | [], _ => by simp [PyData.canLayAll0]
  | C :: l, h => by
    have h1 := ptsD_lay (l := l) fun D hD => h D (List.mem_cons_of_mem _ hD)
    have h2 : (ptD C).canLay0 = true := optD_lay (r := some C) fun D e => by cases e; exact h _ List.mem_cons_self
    simp only [List.map_cons, PyData.canLayAll0, h1, h2, Bool.and_self]
theorem ptsD_depth : ∀ l : List Pt, PyData.depthAll (l.map ptD) ≤ 2
  | [] => by simp [PyData.depthAll]
  | C :: l => by
    have h1 := ptsD_depth l
    have h2 : (ptD C).depth ≤ 1 := by simp [ptD, PyData.depth, PyData.depthAll]
    simp only [List.map_cons, PyData.depthAll]
    omega
theorem ptsD_shaped {l : List Pt} (h : ∀ C ∈ l, isAddrB (.str C.1) = true) : SeqAt.shaped (.list (l.map ptD)) = true := by
  show ((PyData.list (l.map ptD)).canLay0 && decide ((PyData.list (l.map ptD)).depth ≤ 64)) = true
  have h1 := ptsD_lay h
  have h2 := ptsD_depth l
  simp only [PyData.canLay0, PyData.depth, h1, Bool.true_and]
  exact decide_eq_true (by omega)
theorem ptsD_any (l : List Pt) (C : Pt) : ((l.map ptD).any fun z => PyData.eqv z (ptD C)) = decide (C ∈ l) := by
  rw [List.any_map, Bool.eq_iff_iff, List.any_eq_true, decide_eq_true_eq]
  constructor
  · rintro ⟨D, hD, e⟩
    have : PyData.eqv (ptD D) (ptD C) = true := e
    unfold ptD at this
    rw [eqv_pt, decide_eq_true_eq] at this
    rwa [← this]
  · intro h
    refine ⟨C, h, ?_⟩
    show PyData.eqv (ptD C) (ptD C) = true
    unfold ptD
    rw [eqv_pt, decide_eq_true_eq]
end

end MF
set_option Elab.async false
set_option linter.all false
set_option maxRecDepth 100000
set_option maxHeartbeats 2000000
set_option pp.maxSteps 600
namespace MF
open PySem PySem.Spec PyProof.Rows L2 StX
section
variable {P : Program} {w : World} {K : PySem.W.Frag} {mg : Str → Option Value} {base : Heap} {C_Book C_Letter C_LivePost : Addr}
def spSentOn (K : PySem.W.Frag) (CB : Addr) : Sp := fun vs H Q _ => ∃ bk os x d td, vs = [.ref bk, .str x, .int d, .int td] ∧ BookAt K CB H bk os ∧ Good os ∧
  ∀ H' q t r, Same H H' → H q = none → H' q = some (.tup [.str t.1, .int t.2, .bl r]) → At os td (x, d) t r → Q (.ref q) H'
theorem ok_sent_on (T : Top K mg C_Book C_Letter C_LivePost) : GFn P w K mg base CX0 2 "sent_on" (spSentOn K C_Book) := by
  have M_Book_order_for : MFn P w K mg base CX0 1 C_Book "order_for" (spOrderFor K C_Book) := ok_order_for T
  refine T.d_sent_on.fn fun f fd F => F.ok sc_sent_on (fun vs H Q E h => ?_) (fun cdv A outer s H vs Q E hr h => ?_)
  · obtain ⟨bk, os, x, d, td, rfl, _⟩ := h
    rfl
  · obtain ⟨bk, os, x, d, td, rfl, B, g, kk⟩ := h
    refine ⟨_, (pss_cons (ps_while PassesOwn.never (pt_cmpR op_le (pv 2) (pv 3) (nomark _))
  (pss_cons (ps_set (i := 4) sc_sent_on.nd rfl (Or.inl rfl) (pe_m M_Book_order_for T.cl_Book (hr.mono (by decide)) (pv 0) (pa_cons (pv 1) (pa_cons (pv 2) pa_nil))))
  (pss_cons (ps_if (pt_cmpR op_isN (pv 4) pe_non (nomark _))
  (pss_one (ps_ret (pe_tup (pa_cons (pv 1) (pa_cons (pv 2) (pa_cons pe_bl pa_nil))))))
  pss_nil)
  (pss_one (ps_par (i := 1) (j := 2) (by rfl) sc_sent_on.nd rfl rfl (by decide) rfl rfl (pa_cons (pe_ix ix_tup (pe_ix ix_tup (pe_fld (pv 0) rfl) (pv 4) (fun _ _ => rfl)) pe_int (fun _ _ => rfl)) (pa_cons (pe_op op_add (pv 2) (pe_ix ix_tup (pe_ix ix_tup (pe_fld (pv 0) rfl) (pv 4) (fun _ _ => rfl)) pe_int (fun _ _ => rfl))) pa_nil)) (by rfl))))))
  (pss_one (ps_ret (pe_tup (pa_cons (pv 1) (pa_cons (pv 2) (pa_cons pe_bl pa_nil))))))), ?_⟩
    refine ⟨fun m σ H' => ∃ y e n v, σ = [some (.ref bk), some (.str y), some (.int e), some (.int td), v] ∧ Same H H' ∧ Way os td (x, d) n (y, e) ∧ m = (td + 1 - e).toNat, ⟨_, x, d, 0, _, rfl, fun _ _ h => h, .refl _, rfl⟩, ?_⟩
    rintro m σ H1 ⟨y, e, n, v, rfl, s1, W, em⟩
    have B1 := B.mono s1
    obtain ⟨dx, t, as, b1, b2, b3⟩ := id B1
    refine ⟨_, rfl, _, rfl, _, _, rfl, rfl, _, rfl, ?_⟩
    refine ite2 (fun c => ?_) (fun c => ?_)
    · have c1 : e ≤ td := of_decide_eq_true c
      refine ⟨fun σ' H' => ∃ m', m' < m ∧ ∃ y e n v, σ' = [some (.ref bk), some (.str y), some (.int e), some (.int td), v] ∧ Same H H' ∧ Way os td (x, d) n (y, e) ∧ m' = (td + 1 - e).toNat, fun σ' H' ⟨m', hm, r⟩ => ⟨m', hm, r⟩, ?_⟩
      refine ⟨_, rfl, bk, dx, _, rfl, b1, rfl, _, rfl, _, rfl, bk, os, y, e, rfl, B1, fun H2 s2 => ?_⟩
      have s12 := s1.trans s2
      cases eo : ordFor os y e with
      | none =>
        refine ⟨_, rfl, rfl, _, rfl, iteD rfl ?_⟩
        refine ⟨_, rfl, _, rfl, (by show 3 ≤ sizeLine; decide), fun q hq => ?_⟩
        refine kk _ q (y, e) true (MF.Same.upd s12 hq) (s12.free hq) upd_same ⟨n, W, fun _ => ⟨c1, ?_⟩, fun z => by cases z⟩
        unfold nxt
        rw [eo]
        rfl
      | some i =>
        obtain ⟨o, ei, _⟩ := ordFor_some eo
        refine ⟨_, rfl, rfl, _, rfl, iteDN (by intro z; cases z) ?_⟩
        have B2 := B1.mono s2
        obtain ⟨dy, t2, as2, c1', c2, c3⟩ := id B2
        have la : as2.length = os.length := PySem.Paired.length c3
        have hi : i < as2.length := by rw [la]; exact (List.getElem?_eq_some_iff.mp ei).1
        obtain ⟨a, ea⟩ : ∃ a, as2[i]? = some a := ⟨as2[i], by simp [hi]⟩
        obtain ⟨o', eo', oa⟩ := Paired.get c3 ea
        rw [ei] at eo'
        cases eo'
        have hw : 1 ≤ o.way := (g.ok o (List.mem_of_getElem? ei)).w1
        refine ⟨_, rfl, bk, C_Book, dy, _, _, rfl, c1', T.cl_Book, T.n_Book_listed, rfl, _, rfl, t2, _, _, _, rfl, rfl, c2, atI_nat (by rw [List.getElem?_map, ea]; rfl), a, _, _, _, rfl, rfl, oa, rfl, ?_⟩
        refine ⟨_, rfl, _, rfl, bk, C_Book, dy, _, _, rfl, c1', T.cl_Book, T.n_Book_listed, rfl, _, rfl, t2, _, _, _, rfl, rfl, c2, atI_nat (by rw [List.getElem?_map, ea]; rfl), a, _, _, _, rfl, rfl, oa, rfl, _, _, rfl, rfl, ?_⟩
        refine ⟨_, _, rfl, ?_⟩
        exact ⟨(td + 1 - (e + o.way)).toNat, by omega, o.tgt, e + o.way, n + 1, _, rfl, s12, W.trans (.step c1 (nxt_of eo ei) (.refl _)), rfl⟩
    · have c1 : ¬ e ≤ td := fun h => c (decide_eq_true h)
      refine ⟨_, rfl, _, rfl, (by show 3 ≤ sizeLine; decide), fun q hq => ?_⟩
      exact kk _ q (y, e) false (MF.Same.upd s1 hq) (s1.free hq) upd_same ⟨n, W, (fun z => by cases z), fun _ => by show td < e; omega⟩
end

end MF
set_option Elab.async false
set_option linter.all false
set_option maxRecDepth 100000
set_option maxHeartbeats 2000000
set_option pp.maxSteps 600
namespace MF
open PySem PySem.Spec PyProof.Rows L2 StX
section
variable {P : Program} {w : World} {K : PySem.W.Frag} {mg : Str → Option Value} {base : Heap} {C_Book C_Letter C_LivePost : Addr}
def ScAt (K : PySem.W.Frag) (H : Hp) (rw sc : Addr) (xs : List V) : Prop := (Rd H sc (.lst xs) ∧ sc ≠ rw) ∨
    ∃ (o : Obj) (its : Array Value) (n : Nat), K.lookup sc = some o ∧ o.cls = .type "list" ∧ o.dict = none ∧ o.data = .seq its n ∧ its.size ≤ sizeLine ∧ Vals xs its.toList
theorem ScAt.sq {H : Hp} {rw sc : Addr} {xs : List V} (h : ScAt K H rw sc xs) : SqL K H sc xs := by
  rcases h with ⟨h, _⟩ | h
  · exact .inl h
  · exact .inr h
theorem ScAt.keep {H H' : Hp} {rw sc : Addr} {xs : List V} (h : ScAt K H rw sc xs) (k : ∀ b u, H b = some u → b ≠ rw → H' b = some u) : ScAt K H' rw sc xs := by
  rcases h with ⟨h | ⟨o, h⟩, n⟩ | h
  · exact .inl ⟨.inl (k _ _ h n), n⟩
  · exact .inl ⟨.inr ⟨o, k _ _ h n⟩, n⟩
  · exact .inr h
def RowAt (K : PySem.W.Frag) (H : Hp) (rw sc : Addr) (ns : List Int) : Prop := ∃ j : Nat, ∃ m r, H rw = some (.lst [.ref sc, .int (j : Nat), .int m, .int r]) ∧ ScAt K H rw sc (ns.map V.int) ∧ 0 ≤ m ∧ m < 2147483647
theorem RowAt.keep {H H' : Hp} {rw sc : Addr} {ns : List Int} (h : RowAt K H rw sc ns) (s : Same H H') : RowAt K H' rw sc ns := by
  obtain ⟨j, m, r, h1, h2, h3⟩ := h
  exact ⟨j, m, r, s _ _ h1, h2.keep fun b u e _ => s _ _ e, h3⟩
theorem ScAt.of0 {H H' : Hp} {rw sc : Addr} {xs : List V} (h : SqL K H sc xs) (s : Same H H') (n : H rw = none) : ScAt K H' rw sc xs := by
  rcases h with (z | ⟨o, z⟩) | z
  · exact .inl ⟨.inl (s _ _ z), ne_of_none z n⟩
  · exact .inl ⟨.inr ⟨o, s _ _ z⟩, ne_of_none z n⟩
  · exact .inr z
theorem RowAt.other {H0 H H' : Hp} {rw sc : Addr} {ns : List Int} (h : RowAt K H rw sc ns) (h0 : SqL K H0 sc (ns.map V.int)) (n : H0 rw = none) (s : Same H0 H') (e : ∀ u, H rw = some u → H' rw = some u) : RowAt K H' rw sc ns := by
  obtain ⟨j, m, r, h1, h2, h3⟩ := h
  exact ⟨j, m, r, e _ h1, .of0 h0 s n, h3⟩
def spTaken (K : PySem.W.Frag) : Sp := fun vs H Q _ => ∃ rw sc ns many, vs = [.ref rw, .int many] ∧ RowAt K H rw sc ns ∧ 0 < many ∧ many < 1000000000000000000 ∧
  ∀ v H', 0 ≤ v → v < many → RowAt K H' rw sc ns → (∀ b u, H b = some u → b ≠ rw → H' b = some u) → Q (.int v) H'
theorem pow18 : (10 : Int) ^ (18 : Int).toNat = 1000000000000000000 := by decide
theorem ok_taken (T : Top K mg C_Book C_Letter C_LivePost) : GFn P w K mg base CX0 1 "_law_taken" (spTaken K) := by
  refine T.d__law_taken.fn fun f fd F => F.ok sc__law_taken (fun vs H Q E h => ?_) (fun cdv A outer s H vs Q E hr h => ?_)
  · obtain ⟨rw, sc, ns, many, rfl, _⟩ := h
    rfl
  · obtain ⟨rw', sc, ns, many, rfl, ⟨j, m, r, h1, h2, m0, m1⟩, p0, p1, k⟩ := h
    refine ⟨_, (pss_cons (ps_if (pt_cmpR op_gt (pe_ix ix_list (pv 0) pe_int (fun _ _ => rfl)) pe_int (nomark _))
  (pss_cons (ps_set (i := 2) sc__law_taken.nd rfl (Or.inl rfl) (pe_op op_mod (pe_callTy call_int1 (by rfl) T.b_int (by decide +kernel) (pa_cons (pe_ix ix_list (pv 0) pe_int (fun _ _ => rfl)) pa_nil)) (pv 1)))
  (pss_cons (ps_asg (pe_op op_fdivW (pe_ix ix_list (pv 0) pe_int (fun _ _ => rfl)) (pv 1)) (pg_sub (pv 0) pe_int set_list))
  (pss_one (ps_ret (pv 2)))))
  pss_nil)
  (pss_cons (ps_asg (pe_op op_add (pe_ix ix_list (pv 0) pe_int (fun _ _ => rfl)) pe_int) (pg_sub (pv 0) pe_int set_list))
  (pss_cons (ps_if (pt_cmpR op_gt (pe_ix ix_list (pv 0) pe_int (fun _ _ => rfl)) (pe_callB call_len_seq (by rfl) T.b_len (by decide +kernel) (pa_cons (pe_ix ix_list (pv 0) pe_int (fun _ _ => rfl)) pa_nil)) (nomark _))
  (pss_cons (ps_asg (pe_op op_mod (pe_callTy call_int1 (by rfl) T.b_int (by decide +kernel) (pa_cons (pe_op op_add (pe_op op_mul (pe_ix ix_list (pv 0) pe_int (fun _ _ => rfl)) pe_int) pe_int) pa_nil)) pe_int) (pg_sub (pv 0) pe_int set_list))
  (pss_one (ps_ret (pe_op op_mod (pe_callTy call_int1 (by rfl) T.b_int (by decide +kernel) (pa_cons (pe_op op_fdivW (pe_ix ix_list (pv 0) pe_int (fun _ _ => rfl)) pe_int) pa_nil)) (pv 1)))))
  pss_nil)
  (pss_cons (ps_set (i := 3) sc__law_taken.nd rfl (Or.inl rfl) (pe_ix ix_list (pe_ix ix_list (pv 0) pe_int (fun _ _ => rfl)) (pe_op op_sub (pe_ix ix_list (pv 0) pe_int (fun _ _ => rfl)) pe_int) (fun _ _ => rfl)))
  (pss_cons (ps_asg (pe_op op_mod (pe_callTy call_int1 (by rfl) T.b_int (by decide +kernel) (pa_cons (pe_op op_add (pe_op op_add (pe_op op_mul (pe_ix ix_list (pv 0) pe_int (fun _ _ => rfl)) pe_int) (pv 3)) pe_int) pa_nil)) pe_int) (pg_sub (pv 0) pe_int set_list))
  (pss_cons (ps_if (pt_cmpR op_ge (pv 3) (pe_op op_pow pe_int pe_int) (nomark _))
  (pss_one (ps_asg (pe_op op_fdivW (pv 3) (pv 1)) (pg_sub (pv 0) pe_int set_list)))
  pss_nil)
  (pss_one (ps_ret (pe_op op_mod (pe_callTy call_int1 (by rfl) T.b_int (by decide +kernel) (pa_cons (pv 3) pa_nil)) (pv 1)))))))))), ?_⟩
    have S1 := SqL.of (K := K) h1
    have dv : CDivW 0 many := ⟨p0, by
      have : many.natAbs < 2 ^ 60 := by omega
      have := (Nat.log2_lt (n := many.natAbs) (k := 60) (by omega)).mpr this
      omega⟩
    have mod0 : ∀ x : Int, 0 ≤ x % many ∧ x % many < many := fun x => ⟨Int.emod_nonneg _ (by omega), Int.emod_lt_of_pos _ p0⟩
    have fr : ∀ (o : HO) b u, H b = some u → b ≠ rw' → upd H rw' o b = some u := fun o b u e nb => by rw [upd_ne nb]; exact e
    refine ⟨_, rfl, rw', _, _, _, rfl, rfl, S1, rfl, _, _, rfl, rfl, _, rfl, ?_⟩
    refine ite2 (fun c1 => ?_) (fun c1 => ?_)
    · refine ⟨_, rfl, rw', _, _, _, rfl, rfl, S1, rfl, .inl ⟨_, rfl, _, rfl, _, _, rfl, rfl, p0, ?_⟩⟩
      refine ⟨_, rfl, rw', _, _, _, rfl, rfl, S1, rfl, _, rfl, _, _, rfl, rfl, dv, _, rfl, rw', _, _, 3, rfl, rfl, h1, rfl, ?_⟩
      refine ⟨_, rfl, k _ _ (mod0 r).1 (mod0 r).2 ?_ (fr _)⟩
      exact ⟨j, m, r / many, upd_same, h2.keep (fr _), m0, m1⟩
    · -- _law_row[1] = _law_row[1] + 1
      refine ⟨_, rfl, rw', _, _, _, rfl, rfl, S1, rfl, _, _, rfl, rfl, _, rfl, rw', _, _, 1, rfl, rfl, h1, rfl, ?_⟩
      have h1' : upd H rw' (.lst ([.ref sc, .int (j : Nat), .int m, .int r].set 1 (.int ((j : Nat) + 1)))) rw' = some (.lst [.ref sc, .int ((j : Nat) + 1), .int m, .int r]) := upd_same
      have h2' := h2.keep (H' := upd H rw' (.lst ([.ref sc, .int (j : Nat), .int m, .int r].set 1 (.int ((j : Nat) + 1))))) (fr _)
      have fr1 := fr (.lst ([.ref sc, .int (j : Nat), .int m, .int r].set 1 (.int ((j : Nat) + 1))))
      generalize upd H rw' _ = H1 at h1' h2' fr1
      have S2 := SqL.of (K := K) h1'
      have fr2 : ∀ (o : HO) b u, H b = some u → b ≠ rw' → upd H1 rw' o b = some u := fun o b u e nb => by rw [upd_ne nb]; exact fr1 b u e nb
      have fr3 : ∀ (o : HO) b u, H1 b = some u → b ≠ rw' → upd H1 rw' o b = some u := fun o b u e nb => by rw [upd_ne nb]; exact e
      have modm : ∀ x : Int, 0 ≤ x % 2147483647 ∧ x % 2147483647 < 2147483647 := fun x => ⟨Int.emod_nonneg _ (by omega), Int.emod_lt_of_pos _ (by omega)⟩
      refine ⟨_, rfl, rw', _, _, _, rfl, rfl, S2, rfl, _, rfl, rw', _, _, _, rfl, rfl, S2, rfl, sc, _, rfl, .inl h2'.sq, _, _, rfl, rfl, _, rfl, ?_⟩
      refine ite2 (fun c2 => ?_) (fun c2 => ?_)
      · -- behind the script's end
        refine ⟨_, rfl, rw', _, _, _, rfl, rfl, S2, rfl, _, _, rfl, rfl, .inl ⟨by omega, by omega⟩, _, _, rfl, rfl, .inl ⟨_, rfl, _, _, rfl, rfl, (by show (0 : Int) < 2147483647; decide), _, rfl, rw', _, _, 2, rfl, rfl, h1', rfl, ?_⟩⟩
        refine ⟨_, rfl, rw', _, _, _, rfl, rfl, SqL.of upd_same, rfl, _, _, rfl, rfl, ⟨by decide, by decide⟩, .inl ⟨_, rfl, _, rfl, _, _, rfl, rfl, p0, ?_⟩⟩
        exact k _ _ (mod0 _).1 (mod0 _).2 ⟨j + 1, _, r, upd_same, h2'.keep (fr3 _), (modm _).1, (modm _).2⟩ (fr2 _)
      · have c2' : ¬ ((ns.map V.int).length : Int) < (j : Int) + 1 := fun z => c2 (decide_eq_true z)
        rw [List.length_map] at c2'
        have hj : j < ns.length := by omega
        have at1 : atI (ns.map V.int) ((j : Int) + 1 - 1) = some (V.int ns[j]) := by
          have : (j : Int) + 1 - 1 = (j : Int) := by omega
          rw [this]
          exact atI_nat (by simp [hj])
        refine ⟨_, rfl, rw', _, _, _, rfl, rfl, S2, rfl, _, rfl, rw', _, _, _, rfl, rfl, S2, rfl, _, _, rfl, rfl, sc, _, _, _, rfl, rfl, h2'.sq, at1, ?_⟩
        generalize ns[j] = cell
        refine ⟨_, rfl, rw', _, _, _, rfl, rfl, S2, rfl, _, _, rfl, rfl, .inl ⟨by omega, by omega⟩, _, rfl, _, _, rfl, rfl, _, _, rfl, rfl, .inl ⟨_, rfl, _, _, rfl, rfl, (by show (0 : Int) < 2147483647; decide), _, rfl, rw', _, _, 2, rfl, rfl, h1', rfl, ?_⟩⟩
        refine ⟨_, rfl, _, _, rfl, rfl, ⟨by decide, by decide, by decide⟩, _, _, rfl, rfl, _, rfl, ?_⟩
        refine ite2 (fun c3 => ?_) (fun c3 => ?_)
        · refine ⟨_, rfl, _, rfl, _, _, rfl, rfl, dv, _, rfl, rw', _, _, 3, rfl, rfl, upd_same, rfl, ?_⟩
          rw [upd_upd]
          refine ⟨_, rfl, .inl ⟨_, rfl, _, rfl, _, _, rfl, rfl, p0, ?_⟩⟩
          exact k _ _ (mod0 _).1 (mod0 _).2 ⟨j + 1, _, _, upd_same, h2'.keep (fr3 _), (modm _).1, (modm _).2⟩ (fr2 _)
        · refine ⟨_, rfl, .inl ⟨_, rfl, _, rfl, _, _, rfl, rfl, p0, ?_⟩⟩
          exact k _ _ (mod0 _).1 (mod0 _).2 ⟨j + 1, _, r, upd_same, h2'.keep (fr3 _), (modm _).1, (modm _).2⟩ (fr2 _)
end

end MF
set_option Elab.async false
set_option linter.all false
set_option maxRecDepth 100000
set_option maxHeartbeats 2000000
set_option pp.maxSteps 600
namespace MF
open PySem PySem.Spec PyProof.Rows L2 StX
section
variable {P : Program} {w : World} {K : PySem.W.Frag} {mg : Str → Option Value} {base : Heap} {C_Book C_Letter C_LivePost : Addr}
theorem Good.take {os : List Ordr} (g : Good os) (i : Nat) : Good (os.take i) :=
  ⟨by have := g.len; rw [List.length_take]; omega, fun o ho => g.ok o (List.mem_of_mem_take ho), g.apart.sublist (List.take_sublist _ _)⟩
theorem Good.one {o : Ordr} (h : o.Ok) : Good [o] := ⟨by show 1 ≤ 30; decide, fun p hp => by rw [List.mem_singleton.mp hp]; exact h, by simp⟩
theorem Good.nil : Good [] := ⟨Nat.zero_le _, (fun p hp => by cases hp), List.Pairwise.nil⟩
def spLawBook (K : PySem.W.Frag) (C : Addr) : Sp := fun vs H Q _ => ∃ l as os, vs = [.ref l] ∧ SqL K H l (as.map V.ref) ∧ OrdsAt K H as os ∧ Good os ∧ ∀ H' p, Same H H' → H p = none → BookAt K C H' p os → Q (.ref p) H'
theorem ok_law_book (T : Top K mg C_Book C_Letter C_LivePost) (sf : PySem.W.selfFirst K C_Book = true) : GFn P w K mg base CX0 7 "_law_book" (spLawBook K C_Book) := by
  have G_Book : IFn P w K mg base CX0 3 C_Book "Book" (spBookInit K C_Book) := ok_Book T
  obtain ⟨fa, Fa, Ma⟩ := (ok_Book_add (P := P) (w := w) (base := base) T).ex
  refine T.d__law_book.fn fun f fd F => F.ok sc__law_book (fun vs H Q E h => ?_) (fun cdv A outer s H vs Q E hr h => ?_)
  · obtain ⟨l, as, os, rfl, _⟩ := h
    rfl
  · obtain ⟨l, as, os, rfl, hl, ho, g, k⟩ := h
    refine ⟨_, (pss_cons (ps_set (i := 1) sc__law_book.nd rfl (Or.inl rfl) (pe_mk0X G_Book (hr.mono (by decide)) pass0))
  (pss_cons (ps_for PassesOwn.never rfl (pi_list (pv 0)) (pg_name (i := 2) sc__law_book.nd rfl (Or.inl rfl))
  (pss_one (ps_set (i := 1) sc__law_book.nd rfl (Or.inl rfl) (pe_op (op_ownR sf Ma Fa (hr.mono (by decide)) pass0) (pv 1) (pe_mkX G_Book (hr.mono (by decide)) pass0 (pa_cons (pv 2) pa_nil))))))
  (pss_one (ps_ret (pv 1))))), ?_⟩
    have la : as.length = os.length := PySem.Paired.length ho
    intro x0 dx0 hx0 hdx0 ne0
    refine book_made' (as := []) (os := []) .nil Good.nil hx0 hdx0 ne0 (fun H1 s1 B1 => ⟨rfl, ?_⟩)
    refine ⟨_, rfl, l, rfl, ⟨_, s1.seq hl⟩, for_it (walk_list (xs := as.map V.ref)) (fun i σ H' => Same H H' ∧ ∃ p v2, σ = [some (.ref l), some (.ref p), v2] ∧ H p = none ∧ BookAt K C_Book H' p (os.take i)) ⟨s1, x0, _, rfl, hx0, B1⟩ (fun i σ H' _ ⟨s2, _⟩ => s2.seq hl) ?_ ?_⟩
    · rintro i y σ H2 H3 hi ⟨s2, p, v2, rfl, fp, B2⟩ ⟨rfl, ey⟩
      rw [List.length_map] at hi
      obtain ⟨a, ea⟩ : ∃ a, as[i]? = some a := ⟨as[i], by simp [hi]⟩
      rw [List.getElem?_map, ea] at ey
      cases ey
      obtain ⟨o, eo, oa⟩ := Paired.get ho ea
      have om : o ∈ os := List.mem_of_getElem? eo
      have et : os.take (i + 1) = os.take i ++ [o] := by rw [List.take_add_one, eo]; rfl
      refine ⟨_, rfl, _, rfl, ?_⟩
      have oa3 : OrdsAt K H3 [a] [o] := .cons (oa.mono s2) .nil
      intro p4 dx4 hp4 hdx4 ne4
      refine book_made' (as := [a]) (os := [o]) oa3 (Good.one (g.ok o om)) hp4 hdx4 ne4 (fun H4 s4 B4 => ⟨rfl, ?_⟩)
      obtain ⟨dx, t, bs, b1, b2, b3⟩ := id (B2.mono s4)
      obtain ⟨dy, u, cs, c1, c2, c3⟩ := id B4
      refine ⟨p, p4, dx, dy, _, _, rfl, rfl, b1, c1, p, p4, os.take i, [o], rfl, B2.mono s4, B4, by rw [← et]; exact g.take _, fun H5 p5 s5 f5 B5 => ?_⟩
      have s25 := (s2.trans s4).trans s5
      exact ⟨s25, p5, _, rfl, (s2.trans s4).free f5, by rw [et]; exact B5⟩
    · rintro σ H2 ⟨s2, p, v2, rfl, fp, B2⟩
      rw [List.length_map, la, List.take_length] at B2
      exact ⟨_, rfl, k H2 p s2 fp B2⟩
end

end MF
set_option Elab.async false
set_option linter.all false
set_option maxRecDepth 100000
set_option maxHeartbeats 2000000
set_option pp.maxSteps 600
namespace MF
open PySem PySem.Spec PyProof.Rows L2 StX
section
variable {P : Program} {w : World} {K : PySem.W.Frag} {mg : Str → Option Value} {base : Heap} {C_Book C_Letter C_LivePost : Addr}
def nmS (k : Nat) : Str := ⟨#[97 + k]⟩
theorem nmS_inj {i j : Nat} (h : nmS i = nmS j) : i = j := by
  have h1 : (#[97 + i] : Array Nat) = #[97 + j] := congrArg Str.cps h
  have h2 : 97 + i = 97 + j := by simpa using h1
  omega
theorem nmS_addr {k : Nat} (h : k < 6) : isAddrB (.str (nmS k)) = true := by
  have : k = 0 ∨ k = 1 ∨ k = 2 ∨ k = 3 ∨ k = 4 ∨ k = 5 := by omega
  rcases this with rfl | rfl | rfl | rfl | rfl | rfl <;> decide +kernel
def nameT (n : Nat) : Str := cutS "abcdef" none (some ((n : Nat) : Int))
theorem names_at {n : Nat} (h2 : 2 ≤ n) (h6 : n ≤ 6) : (nameT n).length ≤ sizeLine ∧ ∀ k : Nat, k < n → (nameT n).cps.toList[k]? = some (97 + k) := by
  have : n = 2 ∨ n = 3 ∨ n = 4 ∨ n = 5 ∨ n = 6 := by omega
  rcases this with rfl | rfl | rfl | rfl | rfl <;> (refine ⟨by decide +kernel, ?_⟩; decide +kernel)
theorem names_ix {n : Nat} (h2 : 2 ≤ n) (h6 : n ≤ 6) {i : Int} (h0 : 0 ≤ i) (h1 : i < n) : atI (nameT n).cps.toList i = some (97 + i.toNat) := by
  have e : i = ((i.toNat : Nat) : Int) := by omega
  rw [e]
  exact atI_nat ((names_at h2 h6).2 _ (by omega))
theorem ints_ix {l : List Int} {i : Nat} (h : i < l.length) : atI (l.map V.int) (0 + (i : Int)) = some (V.int (l.getD i 0)) := by
  rw [Int.zero_add]
  refine atI_nat ?_
  rw [List.getElem?_map, List.getElem?_eq_getElem h, List.getD_eq_getElem?_getD, List.getElem?_eq_getElem h]
  rfl
def KeepR (rw : Addr) (H H' : Hp) : Prop := ∀ b u, H b = some u → b ≠ rw → H' b = some u
theorem KeepR.trans {rw : Addr} {H H1 H2 : Hp} (a : KeepR rw H H1) (b : KeepR rw H1 H2) : KeepR rw H H2 := fun c u e n => b c u (a c u e n) n
theorem KeepR.of {rw : Addr} {H H' : Hp} (s : Same H H') : KeepR rw H H' := fun b u e _ => s b u e
theorem RowAt.ex {H : Hp} {rw sc : Addr} {ns : List Int} (h : RowAt K H rw sc ns) : ∃ xs, H rw = some (.lst xs) := by
  obtain ⟨j, m, r, h1, _⟩ := h
  exact ⟨_, h1⟩
theorem KeepR.tup {rw sc : Addr} {ns : List Int} {H H' : Hp} (k : KeepR rw H H') (r : RowAt K H rw sc ns) : ∀ b u, H b = some u → tupl u = true → H' b = some u := fun b u e y => k b u e fun z => by
  obtain ⟨xs, h⟩ := r.ex
  rw [z, h] at e
  cases e
  cases y
theorem OrdsAt.keepR {H H' : Hp} {as : List Addr} {os : List Ordr} (h : OrdsAt K H as os) (k : ∀ b u, H b = some u → tupl u = true → H' b = some u) : OrdsAt K H' as os := PySem.Paired.mono (fun a o z => by
    rcases z with (z | ⟨u, z⟩) | z
    · exact .inl (.inl (k _ _ z rfl))
    · exact .inl (.inr ⟨u, k _ _ z rfl⟩)
    · exact .inr z) h
def spLaw (K : PySem.W.Frag) : Sp := fun vs H Q _ => ∃ (a : Addr) (ns : List Int), vs = [.ref a] ∧ SqL K H a (ns.map V.int) ∧ ns.length ≤ 63 ∧ ∀ H', Q (.bl true) H'
theorem row_new {H : Hp} {a rw : Addr} {ns : List Int} (hS : SqL K H a (ns.map V.int)) (h : H rw = none) : RowAt K (upd H rw (.lst [.ref a, .int 0, .int 0, .int 0])) rw a ns :=
  ⟨0, 0, 0, upd_same, .of0 hS (Same.new h) h, by decide, by decide⟩
theorem RowAt.via {H H1 H2 : Hp} {rw sc : Addr} {ns : List Int} (h : RowAt K H rw sc ns) (k : KeepR rw H H2) (h1 : RowAt K H1 rw sc ns) (e : ∀ u, H1 rw = some u → H2 rw = some u) : RowAt K H2 rw sc ns := by
  obtain ⟨j, m, r, a1, a2, a3⟩ := h1
  obtain ⟨j', m', r', b1, b2, b3⟩ := h
  exact ⟨j, m, r, e _ a1, b2.keep k, a3⟩
end

end MF
set_option Elab.async false
set_option linter.all false
set_option maxRecDepth 100000
set_option maxHeartbeats 2000000
set_option pp.maxSteps 600
namespace MF
open PySem PySem.Spec PyProof.Rows L2 StX
section
variable {P : Program} {w : World} {K : PySem.W.Frag} {mg : Str → Option Value} {base : Heap} {C_Book C_Letter C_LivePost : Addr}
structure DrawnOs (most long : Nat) (os : List Ordr) : Prop where
  good : Good os
  len : os.length ≤ most
  names : ∀ o ∈ os, ∃ i j, i < 6 ∧ j < 6 ∧ o.src = nmS i ∧ o.tgt = nmS j
  tight : ∀ o ∈ os, o.last < (most : Int) * (14 + max 12 (long : Int))
  lasts : ∀ o ∈ os, o.last < (most : Int) * (27 + long)
  ways : ∀ o ∈ os, o.way ≤ 14
  spans : ∀ o ∈ os, o.last - o.first < max 12 (long : Int)
structure DrawnSo (B : Int) (i : Nat) (os : List Ordr) (kvs : List (Key × V)) : Prop where
  len : os.length ≤ i
  klen : kvs.length ≤ i
  ok : ∀ o ∈ os, o.Ok
  apart : os.Pairwise fun o p => overB o p = false
  names : ∀ o ∈ os, ∃ i j, i < 6 ∧ j < 6 ∧ o.src = nmS i ∧ o.tgt = nmS j
  ways : ∀ o ∈ os, o.way ≤ 14
  vals : ∀ s v, valV kvs (.inr s : Key) = some v → ∃ z : Int, v = .int z ∧ 0 ≤ z ∧ z ≤ i * B
  free : ∀ o ∈ os, ∃ z : Int, valV kvs (.inr o.src : Key) = some (.int z) ∧ o.last < z
  spans : ∀ o ∈ os, o.last - o.first < B - 14
theorem DrawnSo.nil (B : Int) : DrawnSo B 0 [] [] := ⟨Nat.le_refl _, Nat.le_refl _, (fun _ z => by cases z), .nil, (fun _ z => by cases z), (fun _ z => by cases z), (fun _ _ z => by cases z), (fun _ z => by cases z), (fun _ z => by cases z)⟩
theorem DrawnSo.skip {B : Int} {i : Nat} {os : List Ordr} {kvs : List (Key × V)} (b0 : 0 ≤ B) (D : DrawnSo B i os kvs) : DrawnSo B (i + 1) os kvs :=
  ⟨by have := D.len; omega, by have := D.klen; omega, D.ok, D.apart, D.names, D.ways, fun s v h => by
    obtain ⟨z, a, b, c⟩ := D.vals s v h
    refine ⟨z, a, b, ?_⟩
    push_cast
    rw [Int.add_mul, Int.one_mul]
    omega, D.free, D.spans⟩
theorem DrawnSo.snoc {B : Int} {i : Nat} {os : List Ordr} {kvs : List (Key × V)} (b0 : 0 ≤ B) (hB : (i : Int) * B ≤ 1000000) (hb : B ≤ 1000000) (D : DrawnSo B i os kvs) {a b : Nat} (ha : a < 6) (hb' : b < 6) (hne : nmS a ≠ nmS b) {f l w z : Int} (hz : (valV kvs (.inr (nmS a) : Key)).getD (.int 0) = .int z)
    (f0 : z ≤ f) (fl : f ≤ l) (lB : l + 1 ≤ z + B) (lf : l - f < B - 14) (w1 : 1 ≤ w) (w14 : w ≤ 14) : DrawnSo B (i + 1) (os ++ [⟨nmS a, nmS b, f, l, w⟩]) (putK kvs (.inr (nmS a)) (.int (l + 1))) := by
  have z0 : 0 ≤ z ∧ z ≤ i * B := by
    cases q : valV kvs (.inr (nmS a) : Key) with
    | none =>
      rw [q] at hz
      cases hz
      exact ⟨Int.le_refl _, Int.mul_nonneg (Int.natCast_nonneg _) b0⟩
    | some v =>
      obtain ⟨z', e1, e2, e3⟩ := D.vals _ _ q
      rw [q, e1] at hz
      cases hz
      exact ⟨e2, e3⟩
  have mem : ∀ {o}, o ∈ os ++ [(⟨nmS a, nmS b, f, l, w⟩ : Ordr)] → o ∈ os ∨ o = ⟨nmS a, nmS b, f, l, w⟩ := fun {o} h => by
    rcases List.mem_append.mp h with h | h
    · exact .inl h
    · exact .inr (List.mem_singleton.mp h)
  have eB : ((i + 1 : Nat) : Int) * B = i * B + B := by
    push_cast
    rw [Int.add_mul, Int.one_mul]
  refine ⟨?_, ?_, ?_, ?_, ?_, ?_, ?_, ?_, ?_⟩
  · rw [List.length_append]
    have := D.len
    show os.length + 1 ≤ i + 1
    omega
  · have := length_putK kvs (.inr (nmS a)) (.int (l + 1))
    have := D.klen
    omega
  · intro o h
    rcases mem h with h | rfl
    · exact D.ok o h
    · exact ⟨nmS_addr ha, nmS_addr hb', hne, by show 0 ≤ f; omega, fl, by show l ≤ _; omega, w1, by show w ≤ 30; omega⟩
  · refine List.pairwise_append.mpr ⟨D.apart, by simp, fun o ho p hp => ?_⟩
    rw [List.mem_singleton.mp hp]
    by_cases q : o.src = nmS a
    · obtain ⟨z', e1, e2⟩ := D.free o ho
      rw [q] at e1
      rw [e1] at hz
      cases hz
      have : ¬ f ≤ o.last := by omega
      show (_ && (_ && decide (f ≤ o.last))) = false
      rw [decide_eq_false this, Bool.and_false, Bool.and_false]
    · show (decide (o.src = nmS a) && _) = false
      rw [decide_eq_false q, Bool.false_and]
  · intro o h
    rcases mem h with h | rfl
    · exact D.names o h
    · exact ⟨a, b, ha, hb', rfl, rfl⟩
  · intro o h
    rcases mem h with h | rfl
    · exact D.ways o h
    · exact w14
  · intro s v h
    rw [valV_put] at h
    rw [eB]
    by_cases ea : (Sum.inr s : Key) = Sum.inr (nmS a)
    · rw [if_pos ea] at h
      cases h
      exact ⟨l + 1, rfl, by omega, by omega⟩
    · rw [if_neg ea] at h
      obtain ⟨z', e1, e2, e3⟩ := D.vals s v h
      exact ⟨z', e1, e2, by omega⟩
  · intro o h
    rw [valV_put]
    rcases mem h with h | rfl
    · by_cases ea : (Sum.inr o.src : Key) = Sum.inr (nmS a)
      · rw [if_pos ea]
        refine ⟨l + 1, rfl, ?_⟩
        obtain ⟨z', e1, e2⟩ := D.free o h
        rw [ea] at e1
        rw [e1] at hz
        cases hz
        omega
      · rw [if_neg ea]
        exact D.free o h
    · rw [if_pos rfl]
      exact ⟨l + 1, rfl, by show l < l + 1; omega⟩
  · intro o h
    rcases mem h with h | rfl
    · exact D.spans o h
    · exact lf
theorem overB_comm (o p : Ordr) : overB o p = overB p o := by
  unfold overB
  by_cases e : o.src = p.src
  · rw [decide_eq_true e, decide_eq_true e.symm, Bool.true_and, Bool.true_and, Bool.and_comm]
  · rw [decide_eq_false e, decide_eq_false (show ¬ p.src = o.src from fun z => e z.symm), Bool.false_and, Bool.false_and]
theorem DrawnSo.done {most long i t : Nat} {os : List Ordr} {kvs : List (Key × V)} (D : DrawnSo (14 + max 12 (long : Int)) i os kvs) (hi : i ≤ most) (hm : most ≤ 30) : DrawnOs most long (os.drop t ++ os.take t) := by
  have mem : ∀ {o}, o ∈ os.drop t ++ os.take t → o ∈ os := fun {o} h => by
    rcases List.mem_append.mp h with h | h
    · exact List.mem_of_mem_drop h
    · exact List.mem_of_mem_take h
  have el : (os.drop t ++ os.take t).length = os.length := by
    rw [List.length_append, List.length_drop, List.length_take]
    omega
  have hl := D.len
  have ap : (os.take t ++ os.drop t).Pairwise fun o p => overB o p = false := by
    rw [List.take_append_drop]
    exact D.apart
  obtain ⟨a1, a2, a3⟩ := List.pairwise_append.mp ap
  have tg : ∀ o ∈ os.drop t ++ os.take t, o.last < (most : Int) * (14 + max 12 (long : Int)) := fun o h => by
    obtain ⟨z, e1, e2⟩ := D.free o (mem h)
    obtain ⟨z', e3, e4, e5⟩ := D.vals _ _ e1
    cases e3
    have : (i : Int) * (14 + max 12 (long : Int)) ≤ (most : Int) * (14 + max 12 (long : Int)) := Int.mul_le_mul_of_nonneg_right (by omega) (by omega)
    omega
  refine ⟨⟨by omega, fun o h => D.ok o (mem h), ?_⟩, by omega, fun o h => D.names o (mem h), tg, fun o h => ?_, fun o h => D.ways o (mem h), fun o h => by have := D.spans o (mem h); omega⟩
  · exact List.pairwise_append.mpr ⟨a2, a1, fun o ho p hp => by rw [overB_comm]; exact a3 p hp o ho⟩
  · have h1 := tg o h
    have h2 : (most : Int) * (14 + max 12 (long : Int)) ≤ (most : Int) * (27 + long) := Int.mul_le_mul_of_nonneg_left (by omega) (by omega)
    omega
theorem cut_drop (xs : List V) (i : Nat) (h : i ≤ xs.length) : cutV xs (some (i : Int)) none = xs.drop i := by
  unfold cutV
  rw [HT.sIx_none, HT.sIx_nat, Nat.min_eq_left h, List.take_of_length_le (by rw [List.length_drop]; omega)]
theorem pairedDrop {α β : Type} {r : α → β → Prop} : ∀ {as : List α} {bs : List β} (n : Nat), PySem.Paired r as bs → PySem.Paired r (as.drop n) (bs.drop n)
  | _, _, 0, h => h
  | _, _, n + 1, .nil => .nil
  | _, _, n + 1, .cons _ h => pairedDrop n h
theorem pairedTake {α β : Type} {r : α → β → Prop} : ∀ {as : List α} {bs : List β} (n : Nat), PySem.Paired r as bs → PySem.Paired r (as.take n) (bs.take n)
  | _, _, 0, h => .nil
  | _, _, n + 1, .nil => .nil
  | _, _, n + 1, .cons h1 h => .cons h1 (pairedTake n h)
structure OSt (K : PySem.W.Frag) (H0 H : Hp) (rw sc : Addr) (ns : List Int) (lf df : Addr) (as : List Addr) (os : List Ordr) (kvs : List (Key × V)) (B : Int) (i : Nat) : Prop where
  kr : KeepR rw H0 H
  row : RowAt K H rw sc ns
  hl : H lf = some (.lst (as.map V.ref))
  hd : H df = some (.dK kvs)
  ords : OrdsAt K H as os
  D : DrawnSo B i os kvs
  nl : H0 lf = none
  nd : H0 df = none
  lr : lf ≠ rw
  dr : df ≠ rw
section
variable {H0 H H' : Hp} {rw sc lf df : Addr} {ns : List Int} {as : List Addr} {os : List Ordr} {kvs : List (Key × V)} {B : Int} {i : Nat}
theorem OSt.taken (S : OSt K H0 H rw sc ns lf df as os kvs B i) (R : RowAt K H' rw sc ns) (k : KeepR rw H H') : OSt K H0 H' rw sc ns lf df as os kvs B i :=
  ⟨S.kr.trans k, R, k _ _ S.hl S.lr, k _ _ S.hd S.dr, S.ords.keepR (k.tup S.row), S.D, S.nl, S.nd, S.lr, S.dr⟩
theorem OSt.same (S : OSt K H0 H rw sc ns lf df as os kvs B i) (s : Same H H') : OSt K H0 H' rw sc ns lf df as os kvs B i := S.taken (S.row.keep s) (KeepR.of s)
end
theorem pick3 {a b c v : Int} (h0 : 0 ≤ v) (h3 : v < 3) : ∃ z, atI [V.int a, .int b, .int c] v = some (.int z) ∧ (z = a ∨ z = b ∨ z = c) := by
  have : v = 0 ∨ v = 1 ∨ v = 2 := by omega
  rcases this with rfl | rfl | rfl
  · exact ⟨a, rfl, .inl rfl⟩
  · exact ⟨b, rfl, .inr (.inl rfl)⟩
  · exact ⟨c, rfl, .inr (.inr rfl)⟩
def spOrders (K : PySem.W.Frag) : Sp := fun vs H Q _ => ∃ rw sc ns, ∃ most long : Nat, vs = [.ref rw, .int (most : Nat), .int (long : Nat)] ∧ RowAt K H rw sc ns ∧ most ≤ 20 ∧ 1 ≤ long ∧ long ≤ 200 ∧
  ∀ H' l as os, KeepR rw H H' → H l = none → RowAt K H' rw sc ns → H' l = some (.lst (as.map V.ref)) → OrdsAt K H' as os → DrawnOs most long os → Q (.ref l) H'
theorem ok_orders (T : Top K mg C_Book C_Letter C_LivePost) : GFn P w K mg base CX0 2 "_law_orders" (spOrders K) := by
  have G__law_taken : GFn P w K mg base CX0 1 "_law_taken" (spTaken K) := ok_taken T
  refine T.d__law_orders.fn fun f fd F => F.ok sc__law_orders (fun vs H Q E h => ?_) (fun cdv A outer s H vs Q E hr h => ?_)
  · obtain ⟨rw, sc, ns, most, long, rfl, _⟩ := h
    rfl
  · obtain ⟨rw', sc, ns, most, long, rfl, R, hm, l1, l2, k⟩ := h
    have hu := hu_of hr
    refine ⟨_, (C8.pss_cut (ps_par3 (i := 3) (j := 4) (l := 5) (by rfl) sc__law_orders.nd rfl rfl rfl (by decide) (by decide) (by decide) rfl rfl rfl (pa_cons (pe_lst pa_nil) (pa_cons pe_dnewK (pa_cons (pe_slice sl_str pe_str po_none (po_some (pe_op op_add pe_int (pe_g G__law_taken (hr.mono (by decide)) (pa_cons (pv 0) (pa_cons pe_int pa_nil)))))) pa_nil))) (by rfl))
  (C8.pss_cut (ps_for PassesOwn.never rfl (pi_range1 (by rfl) T.b_range (pa_cons (pe_g G__law_taken (hr.mono (by decide)) (pa_cons (pv 0) (pa_cons (pe_op op_add (pv 1) pe_int) pa_nil))) pa_nil)) (pg_name (i := 6) sc__law_orders.nd rfl (Or.inl rfl))
  (C8.pss_cut (ps_par (i := 7) (j := 8) (by rfl) sc__law_orders.nd rfl rfl (by decide) rfl rfl (pa_cons (pe_ix ix_str (pv 5) (pe_g G__law_taken (hr.mono (by decide)) (pa_cons (pv 0) (pa_cons (pe_callB call_len_str (by rfl) T.b_len (by decide +kernel) (pa_cons (pv 5) pa_nil)) pa_nil))) (fun _ _ => rfl)) (pa_cons (pe_ix ix_str (pv 5) (pe_g G__law_taken (hr.mono (by decide)) (pa_cons (pv 0) (pa_cons (pe_callB call_len_str (by rfl) T.b_len (by decide +kernel) (pa_cons (pv 5) pa_nil)) pa_nil))) (fun _ _ => rfl)) pa_nil)) (by rfl))
  (pss_one (ps_if (pt_cmpR op_ne (pv 7) (pv 8) (nomark _))
  (C8.pss_cut (ps_set (i := 9) sc__law_orders.nd rfl (Or.inl rfl) (pe_op op_add (pe_dget2 hu (pv 4) (pv 7) pe_int ⟨rfl, rfl, rfl, rfl⟩) (pe_g G__law_taken (hr.mono (by decide)) (pa_cons (pv 0) (pa_cons (pe_ix ix_list (pe_lst (pa_cons pe_int (pa_cons pe_int (pa_cons pe_int pa_nil)))) (pe_g G__law_taken (hr.mono (by decide)) (pa_cons (pv 0) (pa_cons pe_int pa_nil))) (fun _ _ => rfl)) pa_nil)))))
  (C8.pss_cut (ps_set (i := 10) sc__law_orders.nd rfl (Or.inl rfl) (pe_op op_add (pv 9) (pe_g G__law_taken (hr.mono (by decide)) (pa_cons (pv 0) (pa_cons (pe_ix ix_list (pe_lst (pa_cons pe_int (pa_cons pe_int (pa_cons (pv 2) pa_nil)))) (pe_g G__law_taken (hr.mono (by decide)) (pa_cons (pv 0) (pa_cons pe_int pa_nil))) (fun _ _ => rfl)) pa_nil)))))
  (pss_cons (ps_expr (pe_bm PySem.F.plainAttrs_list PySem.F.slot_list_append PySem.F.type_list_append mt_append (pv 3) (pa_cons (pe_tup (pa_cons (pv 7) (pa_cons (pv 8) (pa_cons (pv 9) (pa_cons (pv 10) (pa_cons (pe_op op_add pe_int (pe_g G__law_taken (hr.mono (by decide)) (pa_cons (pv 0) (pa_cons (pe_ix ix_list (pe_lst (pa_cons pe_int (pa_cons pe_int (pa_cons pe_int pa_nil)))) (pe_g G__law_taken (hr.mono (by decide)) (pa_cons (pv 0) (pa_cons pe_int pa_nil))) (fun _ _ => rfl)) pa_nil)))) pa_nil)))))) pa_nil)))
  (pss_one (ps_dput hu (pv 4) (pv 7) (pe_op op_add (pv 10) pe_int) rfl)))))
  pss_nil))))
  (pss_cons (ps_set (i := 11) sc__law_orders.nd rfl (Or.inl rfl) (pe_g G__law_taken (hr.mono (by decide)) (pa_cons (pv 0) (pa_cons (pe_op op_add (pe_callB call_len_seq (by rfl) T.b_len (by decide +kernel) (pa_cons (pv 3) pa_nil)) pe_int) pa_nil))))
  (pss_one (ps_ret (pe_op op_cat (pe_slice sl_list (pv 3) (po_some (pv 11)) po_none) (pe_slice sl_list (pv 3) po_none (po_some (pv 11))))))))), ?_⟩
    refine ⟨fun σ' H' => ∃ n lf df, ∃ v6 v7 v8 v9 v10 v11, 2 ≤ n ∧ n ≤ 6 ∧ σ' = [some (.ref rw'), some (.int (most : Nat)), some (.int (long : Nat)), some (.ref lf), some (.ref df), some (.str (nameT n)), v6, v7, v8, v9, v10, v11] ∧ OSt K H H' rw' sc ns lf df [] [] [] (14 + max 12 (long : Int)) 0, ?_, ?_⟩
    · refine ⟨(by show 0 ≤ sizeLine; decide), fun lf hlf => ?_⟩
      intro df hdf
      have hdf0 : H df = none := (Same.new hlf).free hdf
      have ne : lf ≠ df := ne_of_none (o := .lst []) upd_same hdf
      obtain ⟨xs, hrw⟩ := R.ex
      have lr : lf ≠ rw' := (ne_of_none hrw hlf).symm
      have dr : df ≠ rw' := (ne_of_none hrw hdf0).symm
      have s2 : Same H (upd (upd H lf (.lst [])) df (.dK [])) := MF.Same.upd (Same.new hlf) hdf
      have S0 : OSt K H (upd (upd H lf (.lst [])) df (.dK [])) rw' sc ns lf df [] [] [] (14 + max 12 (long : Int)) 0 := ⟨KeepR.of s2, R.keep s2, by rw [upd_ne ne, upd_same]; rfl, upd_same, .nil, .nil _, hlf, hdf0, lr, dr⟩
      refine ⟨_, rfl, rw', sc, ns, 5, rfl, S0.row, (by decide), (by decide), fun v H1 v0 v1 R1 k1 => ?_⟩
      have S1 := S0.taken R1 k1
      refine ⟨_, _, rfl, rfl, _, rfl, _, rfl, (by decide +kernel), _, _, _, rfl, ?_⟩
      have e : (((2 + v).toNat : Nat) : Int) = 2 + v := by omega
      refine ⟨(2 + v).toNat, lf, df, none, none, none, none, none, none, by omega, by omega, ?_, S1⟩
      unfold nameT
      rw [e]
      rfl
    rintro σ H1 ⟨n, lf, df, v6, v7, v8, v9, v10, v11, n2, n6, rfl, S1⟩
    have nz := (names_at n2 n6).1
    have nl : (nameT n).length = n := by
      have : n = 2 ∨ n = 3 ∨ n = 4 ∨ n = 5 ∨ n = 6 := by omega
      rcases this with rfl | rfl | rfl | rfl | rfl <;> decide +kernel
    refine ⟨fun σ' H' => ∃ as os kvs, ∃ i : Nat, ∃ v6 v7 v8 v9 v10 v11, i ≤ most ∧ σ' = [some (.ref rw'), some (.int (most : Nat)), some (.int (long : Nat)), some (.ref lf), some (.ref df), some (.str (nameT n)), v6, v7, v8, v9, v10, v11] ∧ OSt K H H' rw' sc ns lf df as os kvs (14 + max 12 (long : Int)) i, ?_, ?_⟩
    · refine ⟨_, rfl, _, rfl, _, _, rfl, rfl, rw', sc, ns, _, rfl, S1.row, (by omega), (by omega), fun r H2 r0 r1 R2 k2 => ⟨r, rfl, (by omega), (by omega), for_it walk_range (fun i σ' H' => ∃ as os kvs, ∃ v6 v7 v8 v9 v10 v11, σ' = [some (.ref rw'), some (.int (most : Nat)), some (.int (long : Nat)), some (.ref lf), some (.ref df), some (.str (nameT n)), v6, v7, v8, v9, v10, v11] ∧ OSt K H H' rw' sc ns lf df as os kvs (14 + max 12 (long : Int)) i) ⟨[], [], [], v6, v7, v8, v9, v10, v11, rfl, S1.taken R2 k2⟩ (fun _ _ _ _ _ => trivial) ?_ ?_⟩⟩
      · rintro i y σ' H3 H4 hi ⟨as, os, kvs, w6, w7, w8, w9, w10, w11, rfl, S3⟩ ⟨rfl, rfl⟩
        refine ⟨fun σ' H' => ∃ a b, a < 6 ∧ b < 6 ∧ σ' = [some (.ref rw'), some (.int (most : Nat)), some (.int (long : Nat)), some (.ref lf), some (.ref df), some (.str (nameT n)), some (.int (0 + (i : Int))), some (.str (nmS a)), some (.str (nmS b)), w9, w10, w11] ∧ OSt K H H' rw' sc ns lf df as os kvs (14 + max 12 (long : Int)) i, ?_, ?_⟩
        · refine ⟨_, rfl, _, rfl, _, rfl, _, rfl, nz, rw', sc, ns, _, rfl, S3.row, (by omega), (by omega), fun a H5 a0 a1 R5 k5 => ?_⟩
          rw [nl] at a1
          have S5 := S3.taken R5 k5
          refine ⟨_, _, _, rfl, rfl, nz, names_ix n2 n6 a0 (by omega), ?_⟩
          refine ⟨_, rfl, _, rfl, _, rfl, _, rfl, nz, rw', sc, ns, _, rfl, S5.row, (by omega), (by omega), fun b H6 b0 b1 R6 k6 => ?_⟩
          rw [nl] at b1
          refine ⟨_, _, _, rfl, rfl, nz, names_ix n2 n6 b0 (by omega), _, _, rfl, ?_⟩
          exact ⟨a.toNat, b.toNat, by omega, by omega, rfl, S5.taken R6 k6⟩
        rintro σ' H5 ⟨a, b, ha, hb, rfl, S5⟩
        refine ⟨_, rfl, _, rfl, rfl, _, rfl, ?_⟩
        by_cases hne : V.str (nmS a) = V.str (nmS b)
        · refine iteND hne ?_
          exact ⟨as, os, kvs, _, _, _, _, _, _, rfl, { S5 with D := S5.D.skip (by omega) }⟩
        refine iteNDN hne ?_
        have hiB : (i : Int) * (14 + max 12 (long : Int)) ≤ 20 * (14 + max 12 (long : Int)) := Int.mul_le_mul_of_nonneg_right (by omega) (by omega)
        obtain ⟨z, hz, z0⟩ : ∃ z : Int, (valV kvs (.inr (nmS a) : Key)).getD (.int 0) = .int z ∧ 0 ≤ z := by
          cases q : valV kvs (.inr (nmS a) : Key) with
          | none => exact ⟨0, rfl, Int.le_refl _⟩
          | some v =>
            obtain ⟨z', e1, e2, e3⟩ := S5.D.vals _ _ q
            exact ⟨z', by rw [e1]; rfl, e2⟩
        refine ⟨fun σ' H' => ∃ f, z ≤ f ∧ f ≤ z + 14 ∧ σ' = [some (.ref rw'), some (.int (most : Nat)), some (.int (long : Nat)), some (.ref lf), some (.ref df), some (.str (nameT n)), some (.int (0 + (i : Int))), some (.str (nmS a)), some (.str (nmS b)), some (.int f), w10, w11] ∧ OSt K H H' rw' sc ns lf df as os kvs (14 + max 12 (long : Int)) i, ?_, ?_⟩
        · refine ⟨_, rfl, df, rfl, .inl ⟨kvs, .inl S5.hd⟩, _, rfl, _, DGet.k (k := Sum.inr (nmS a)) S5.hd, _, rfl, (by show 3 ≤ sizeLine; decide), fun p hp => ?_⟩
          have S6 := S5.same (Same.new (o := .lst [.int 1, .int 4, .int 15]) hp)
          have pr : p ≠ rw' := by
            obtain ⟨xs, q⟩ := S5.row.ex
            exact (ne_of_none q hp).symm
          refine ⟨_, rfl, rw', sc, ns, 3, rfl, S6.row, (by decide), (by decide), fun c H7 c0 c1 R7 k7 => ?_⟩
          have S7 := S6.taken R7 k7
          obtain ⟨y, ey, hy⟩ := pick3 (a := 1) (b := 4) (c := 15) c0 c1
          refine ⟨p, _, _, _, rfl, rfl, SqL.of (k7 _ _ upd_same pr), ey, rw', sc, ns, y, rfl, S7.row, (by omega), (by omega), fun d H8 d0 d1 R8 k8 => ⟨z, d, hz, rfl, ?_⟩⟩
          exact ⟨z + d, by omega, by omega, rfl, S7.taken R8 k8⟩
        clear S5
        rintro σ' H5 ⟨f, f0, f1, rfl, S5⟩
        refine ⟨fun σ' H' => ∃ l, f ≤ l ∧ l + 1 ≤ f + max 12 (long : Int) ∧ σ' = [some (.ref rw'), some (.int (most : Nat)), some (.int (long : Nat)), some (.ref lf), some (.ref df), some (.str (nameT n)), some (.int (0 + (i : Int))), some (.str (nmS a)), some (.str (nmS b)), some (.int f), some (.int l), w11] ∧ OSt K H H' rw' sc ns lf df as os kvs (14 + max 12 (long : Int)) i, ?_, ?_⟩
        · refine ⟨_, rfl, _, rfl, _, rfl, (by show 3 ≤ sizeLine; decide), fun p hp => ?_⟩
          have S6 := S5.same (Same.new (o := .lst [.int 3, .int 12, .int (long : Nat)]) hp)
          have pr : p ≠ rw' := by
            obtain ⟨xs, q⟩ := S5.row.ex
            exact (ne_of_none q hp).symm
          refine ⟨_, rfl, rw', sc, ns, 3, rfl, S6.row, (by decide), (by decide), fun c H7 c0 c1 R7 k7 => ?_⟩
          have S7 := S6.taken R7 k7
          obtain ⟨y, ey, hy⟩ := pick3 (a := 3) (b := 12) (c := (long : Nat)) c0 c1
          refine ⟨p, _, _, _, rfl, rfl, SqL.of (k7 _ _ upd_same pr), ey, rw', sc, ns, y, rfl, S7.row, (by omega), (by omega), fun d H8 d0 d1 R8 k8 => ⟨_, _, rfl, rfl, ?_⟩⟩
          exact ⟨f + d, by omega, by omega, rfl, S7.taken R8 k8⟩
        clear S5
        rintro σ' H5 ⟨l, g0, g1, rfl, S5⟩
        refine ⟨_, rfl, .inl ⟨rfl, _, SqL.of S5.hl⟩, _, rfl, _, rfl, _, rfl, _, rfl, _, rfl, (by show 3 ≤ sizeLine; decide), fun p hp => ?_⟩
        have S6 := S5.same (Same.new (o := .lst [.int 1, .int 3, .int 14]) hp)
        have pr : p ≠ rw' := by
          obtain ⟨xs, q⟩ := S5.row.ex
          exact (ne_of_none q hp).symm
        refine ⟨_, rfl, rw', sc, ns, 3, rfl, S6.row, (by decide), (by decide), fun c H7 c0 c1 R7 k7 => ?_⟩
        have S7 := S6.taken R7 k7
        obtain ⟨y, ey, hy⟩ := pick3 (a := 1) (b := 3) (c := 14) c0 c1
        refine ⟨p, _, _, _, rfl, rfl, SqL.of (k7 _ _ upd_same pr), ey, rw', sc, ns, y, rfl, S7.row, (by omega), (by omega), fun d H8 d0 d1 R8 k8 => ⟨_, _, rfl, rfl, (by show 5 ≤ sizeLine; decide), fun q hq => ?_⟩⟩
        have S8 := S7.taken R8 k8
        have nlq : lf ≠ q := ne_of_none S8.hl hq
        have ndq : df ≠ q := ne_of_none S8.hd hq
        have nld : lf ≠ df := ne_of S8.hl S8.hd (by intro z; cases z)
        have hal : as.length ≤ 20 := by
          have := PySem.Paired.length S8.ords
          have := S8.D.len
          omega
        refine ⟨lf, _, _, rfl, rfl, (by rw [upd_ne nlq]; exact S8.hl), (by rw [List.length_map, sizeLine_eq]; omega), ?_⟩
        refine ⟨_, rfl, _, _, rfl, rfl, _, rfl, _, rfl, df, _, rfl, DPut.k (k := Sum.inr (nmS a)) (by rw [upd_ne nld.symm, upd_ne ndq]; exact S8.hd) (small1000 (by have := S8.D.klen; omega)), ?_⟩
        have hqr : rw' ≠ q := by
          obtain ⟨xs, z⟩ := S8.row.ex
          exact ne_of_none z hq
        have kr9 : KeepR rw' H (upd (upd (upd H8 q (.tup [.str (nmS a), .str (nmS b), .int f, .int l, .int (1 + d)])) lf (.lst (as.map V.ref ++ [.ref q]))) df (.dK (putK kvs (.inr (nmS a)) (.int (l + 1))))) := fun c u e nc => by
          rw [upd_ne (ne_of_none e S8.nd), upd_ne (ne_of_none e S8.nl), upd_ne (ne_of_none (S8.kr c u e nc) hq)]
          exact S8.kr c u e nc
        refine ⟨as ++ [q], os ++ [⟨nmS a, nmS b, f, l, 1 + d⟩], putK kvs (.inr (nmS a)) (.int (l + 1)), _, _, _, _, _, _, rfl, kr9, ?_, ?_, upd_same, ?_, ?_, S8.nl, S8.nd, S8.lr, S8.dr⟩
        · exact R.via kr9 S8.row fun u e => by
            rw [upd_ne S8.dr.symm, upd_ne S8.lr.symm, upd_ne hqr]
            exact e
        · rw [upd_ne nld, upd_same, List.map_append]
          rfl
        · refine Paired.append (S8.ords.keepR fun c u e z => ?_) (.cons (.inl (.inl ?_)) .nil)
          · rw [upd_ne (fun x => by rw [x, S8.hd] at e; cases e; cases z), upd_ne (fun x => by rw [x, S8.hl] at e; cases e; cases z), upd_ne (ne_of_none e hq)]
            exact e
          · rw [upd_ne ndq.symm, upd_ne nlq.symm, upd_same]
            rfl
        · exact S8.D.snoc (by omega) (by omega) (by omega) ha hb (fun z => hne (by rw [z])) hz f0 g0 (by omega) (by omega) (by omega) (by omega)
      · rintro σ' H3 ⟨as, os, kvs, w6, w7, w8, w9, w10, w11, rfl, S3⟩
        exact ⟨as, os, kvs, r.toNat, w6, w7, w8, w9, w10, w11, by omega, rfl, S3⟩
    rintro σ H2 ⟨as, os, kvs, i, v6, v7, v8, v9, v10, v11, hi, rfl, S2⟩
    have hal := PySem.Paired.length S2.ords
    have hol := S2.D.len
    refine ⟨_, rfl, _, rfl, lf, _, rfl, .inl (SqL.of S2.hl), _, _, rfl, rfl, rw', sc, ns, _, rfl, S2.row, (by omega), (by rw [List.length_map]; omega), fun t H3 t0 t1 R3 k3 => ?_⟩
    rw [List.length_map] at t1
    obtain ⟨tn, rfl⟩ : ∃ tn : Nat, t = (tn : Int) := ⟨t.toNat, by omega⟩
    have S3 := S2.taken R3 k3
    refine ⟨_, rfl, _, rfl, _, rfl, lf, _, rfl, SqL.of S3.hl, fun p1 hp1 => ?_⟩
    have n1 : lf ≠ p1 := ne_of_none S3.hl hp1
    refine ⟨_, rfl, _, rfl, _, rfl, lf, _, rfl, SqL.of (by rw [upd_ne n1]; exact S3.hl), fun p2 hp2 => ?_⟩
    have n12 : p1 ≠ p2 := ne_of_none (o := _) upd_same hp2
    refine ⟨p1, p2, _, _, rfl, rfl, (by rw [upd_ne n12]; exact upd_same), upd_same, ?_, fun p3 hp3 => ?_⟩
    · have a1 := cutV_length (as.map V.ref) (some (tn : Int)) none
      have a2 := cutV_length (as.map V.ref) none (some (tn : Int))
      rw [List.length_map] at a1 a2
      rw [sizeLine_eq]
      omega
    have s1 : Same H3 (upd H3 p1 (.lst (cutV (as.map V.ref) (some (tn : Int)) none))) := Same.new hp1
    have s2 := MF.Same.upd (o := .lst (cutV (as.map V.ref) none (some (tn : Int)))) s1 hp2
    have s3 := MF.Same.upd (o := .lst (cutV (as.map V.ref) (some (tn : Int)) none ++ cutV (as.map V.ref) none (some (tn : Int)))) s2 hp3
    have hp30 : H3 p3 = none := s2.free hp3
    have hp00 : H p3 = none := by
      cases q : H p3 with
      | none => rfl
      | some u =>
        by_cases z : p3 = rw'
        · obtain ⟨xs, e⟩ := S3.row.ex
          rw [z, e] at hp30
          cases hp30
        · rw [S3.kr _ _ q z] at hp30
          cases hp30
    refine k _ p3 (as.drop tn ++ as.take tn) (os.drop tn ++ os.take tn) (S3.kr.trans (KeepR.of s3)) hp00 (S3.row.keep s3) ?_ ?_ (S3.D.done hi (by omega))
    · rw [upd_same, cut_drop _ _ (by rw [List.length_map]; omega), cut_take _ _ (by rw [List.length_map]; omega), List.map_append, List.map_drop, List.map_take]
    · exact OrdsAt.mono (Paired.append (pairedDrop tn S3.ords) (pairedTake tn S3.ords)) s3
end

end MF
set_option Elab.async false
set_option linter.all false
set_option maxRecDepth 100000
set_option maxHeartbeats 2000000
set_option pp.maxSteps 600
namespace MF
open PySem PySem.Spec PyProof.Rows L2 StX
section
variable {P : Program} {w : World} {K : PySem.W.Frag} {mg : Str → Option Value} {base : Heap} {C_Book C_Letter C_LivePost : Addr}
theorem abc_len : Str.length "abcdef" ≤ sizeLine := by decide +kernel
theorem abc_ix {i : Int} (h0 : 0 ≤ i) (h1 : i < 6) : atI (Str.cps "abcdef").toList i = some (97 + i.toNat) := by
  have : i = 0 ∨ i = 1 ∨ i = 2 ∨ i = 3 ∨ i = 4 ∨ i = 5 := by omega
  rcases this with rfl | rfl | rfl | rfl | rfl | rfl <;> decide +kernel
theorem KeepR.free {rw sc t : Addr} {ns : List Int} {H H' : Hp} (k : KeepR rw H H') (r : RowAt K H' rw sc ns) (h : H' t = none) : H t = none := by
  cases q : H t with
  | none => rfl
  | some u =>
    by_cases z : t = rw
    · obtain ⟨xs, e⟩ := r.ex
      rw [z, e] at h
      cases h
    · rw [k t u q z] at h
      cases h
end

end MF
set_option Elab.async false
set_option linter.all false
set_option maxRecDepth 100000
set_option maxHeartbeats 2000000
set_option pp.maxSteps 600
namespace MF
open PySem PySem.Spec PyProof.Rows L2 StX
section
variable {P : Program} {w : World} {K : PySem.W.Frag} {mg : Str → Option Value} {base : Heap} {C_Book C_Letter C_LivePost : Addr}
structure PS (K : PySem.W.Frag) (H0 H : Hp) (rw sc : Addr) (ns : List Int) (l : Addr) (as : List Addr) (os : List Ordr) : Prop where
  s0 : Same H0 H
  row : RowAt K H rw sc ns
  el : H l = some (.lst (as.map V.ref))
  ords : OrdsAt K H as os
  nl : l ≠ rw
theorem PS.same {H0 H H' : Hp} {rw sc : Addr} {ns : List Int} {l : Addr} {as : List Addr} {os : List Ordr} (S : PS K H0 H rw sc ns l as os) (s : Same H H') : PS K H0 H' rw sc ns l as os := ⟨S.s0.trans s, S.row.keep s, s _ _ S.el, S.ords.mono s, S.nl⟩
theorem PS.keepR {H0 H H' : Hp} {rw sc : Addr} {ns : List Int} {l : Addr} {as : List Addr} {os : List Ordr} (S : PS K H0 H rw sc ns l as os) (h0 : H0 rw = none) (r : RowAt K H' rw sc ns) (k : KeepR rw H H') : PS K H0 H' rw sc ns l as os :=
  ⟨fun b u e => k b u (S.s0 b u e) (ne_of_none e h0), r, k _ _ S.el S.nl, S.ords.keepR (k.tup S.row), S.nl⟩
theorem BookAt.keepR {C rw sc : Addr} {ns : List Int} {H H' : Hp} {bk : Addr} {os : List Ordr} (B : BookAt K C H bk os) (nb : bk ≠ rw) (R : RowAt K H rw sc ns) (k : KeepR rw H H') : BookAt K C H' bk os := B.kept (fun u e => k _ _ e nb) (k.tup R)
theorem RowAt.fresh {H : Hp} {rw sc p : Addr} {ns : List Int} (R : RowAt K H rw sc ns) (h : H p = none) : p ≠ rw := by
  obtain ⟨xs, q⟩ := R.ex
  exact (ne_of_none q h).symm
def farO (f l w : Int) : Ordr := ⟨"a", "g", f, l, w⟩
theorem far_good {most long : Nat} {os : List Ordr} {f l w : Int} (D : DrawnOs most long os) (hm : most ≤ 29) (hf : (most : Int) * (14 + max 12 (long : Int)) ≤ f) (h0 : 0 ≤ f) (hl : f ≤ l) (hl' : l ≤ 1000000000000000000) (hw : 1 ≤ w) (hw' : w ≤ 30) : Good (os ++ [farO f l w]) := by
  refine ⟨?_, fun o ho => ?_, ?_⟩
  · have := D.len
    rw [List.length_append]
    simp only [List.length_cons, List.length_nil]
    omega
  · rcases List.mem_append.mp ho with z | z
    · exact D.good.ok o z
    · rw [List.mem_singleton.mp z]
      exact ⟨by show isAddrB (.str "a") = true; decide, by show isAddrB (.str "g") = true; decide, by show ("a" : Str) ≠ "g"; decide, h0, hl, hl', hw, hw'⟩
  · refine List.pairwise_append.mpr ⟨D.good.apart, by simp, fun o ho p hp => ?_⟩
    rw [List.mem_singleton.mp hp]
    unfold overB
    have := D.tight o ho
    have : ¬ (farO f l w).first ≤ o.last := by
      show ¬ f ≤ o.last
      omega
    rw [decide_eq_false this, Bool.and_false, Bool.and_false]
end

end MF
set_option Elab.async false
set_option linter.all false
set_option maxRecDepth 100000
set_option maxHeartbeats 2000000
set_option pp.maxSteps 600
namespace MF
open PySem PySem.Spec PyProof.Rows L2 StX
section
variable {P : Program} {w : World} {K : PySem.W.Frag} {mg : Str → Option Value} {base : Heap} {C_Book C_Letter C_LivePost : Addr}
abbrev LRow := Str × Int × Bool
structure Scn where
  day : Int
  os : List Ordr
  rows : List LRow
def LRows (H : Hp) (rs : List Addr) (rows : List LRow) : Prop := PySem.Paired (fun r (x : LRow) => H r = some (.tup [.str x.1, .int x.2.1, .bl x.2.2])) rs rows
structure KB (K : PySem.W.Frag) (CB : Addr) (H H' : Hp) : Prop where
  tup : ∀ b u, H b = some u → tupl u = true → H' b = some u
  book : ∀ bk os, BookAt K CB H bk os → BookAt K CB H' bk os
theorem KB.same {CB : Addr} {H H' : Hp} (s : Same H H') : KB K CB H H' := ⟨fun b u e _ => s _ _ e, fun bk os B => B.mono s⟩
theorem KB.trans {CB : Addr} {H H' H'' : Hp} (a : KB K CB H H') (b : KB K CB H' H'') : KB K CB H H'' := ⟨fun c u e y => b.tup _ _ (a.tup _ _ e y) y, fun bk os B => b.book _ _ (a.book _ _ B)⟩
theorem KB.row {CB rw sc : Addr} {ns : List Int} {H H' : Hp} (r : RowAt K H rw sc ns) (k : KeepR rw H H') : KB K CB H H' := ⟨k.tup r, fun bk os B => by
  refine B.keepR (fun w => ?_) r k
  obtain ⟨xs, e⟩ := r.ex
  obtain ⟨dx, t, as, b1, _⟩ := B
  rw [w, e] at b1
  cases b1⟩
theorem live_not {C C' dx d1 : Addr} {v v' : V} {x : Str} {fs : List (Str × V)} (h : (some (HO.ins C dx ((x, v) :: fs)) : Option HO) = some (.ins C' d1 [("listed", v')])) (ne : x ≠ "listed" := by decide) : False := by
  injection h with e
  injection e with e1 e2 e3
  injection e3 with e4 e5
  exact ne (congrArg Prod.fst e4)
theorem KB.live {CB CL p dx : Addr} {v : V} {fs : List (Str × V)} {H H' : Hp} (hp : H p = some (.ins CL dx (("scene", v) :: fs))) (k : ∀ b u, H b = some u → b ≠ p → H' b = some u) : KB K CB H H' := ⟨fun b u e y => k _ _ e (fun w => by rw [w, hp] at e; cases e; cases y), fun bk os B => B.keep ⟨_, hp, (fun _ z => by cases z), (fun _ _ z => by cases z)⟩ (fun w => by
  obtain ⟨d1, d2, d3, d4, _⟩ := B
  rw [w, hp] at d4
  exact live_not d4) k⟩
def SceneAt (K : PySem.W.Frag) (CB : Addr) (H : Hp) (sc : Addr) (S : Scn) : Prop := ∃ bk lt rs, H sc = some (.tup [.int S.day, .ref bk, .ref lt]) ∧ BookAt K CB H bk S.os ∧ H lt = some (.tup (rs.map V.ref)) ∧ LRows H rs S.rows
theorem LRows.keep {H H' : Hp} {rs : List Addr} {rows : List LRow} (h : LRows H rs rows) (k : ∀ b u, H b = some u → tupl u = true → H' b = some u) : LRows H' rs rows := PySem.Paired.mono (fun _ _ e => k _ _ e rfl) h
theorem SceneAt.keep {CB : Addr} {H H' : Hp} {sc : Addr} {S : Scn} (h : SceneAt K CB H sc S) (k : KB K CB H H') : SceneAt K CB H' sc S := let ⟨bk, lt, rs, a, b, c, d⟩ := h; ⟨bk, lt, rs, k.tup _ _ a rfl, k.book _ _ b, k.tup _ _ c rfl, d.keep k.tup⟩
def EnAt (K : PySem.W.Frag) (CB : Addr) (H : Hp) (e : Addr) (x : Scn × Scn) : Prop := ∃ op a b, H e = some (.tup [op, .ref a, .ref b]) ∧ SceneAt K CB H a x.1 ∧ SceneAt K CB H b x.2
theorem EnAt.keep {CB : Addr} {H H' : Hp} {e : Addr} {x : Scn × Scn} (h : EnAt K CB H e x) (k : KB K CB H H') : EnAt K CB H' e x := let ⟨op, a, b, h1, h2, h3⟩ := h; ⟨op, a, b, k.tup _ _ h1 rfl, h2.keep k, h3.keep k⟩
def DoAt (K : PySem.W.Frag) (CB : Addr) (H : Hp) (t : Addr) (xs : List (Scn × Scn)) : Prop := ∃ ts, H t = some (.tup (ts.map V.ref)) ∧ PySem.Paired (EnAt K CB H) ts xs
theorem DoAt.keep {CB : Addr} {H H' : Hp} {t : Addr} {xs : List (Scn × Scn)} (h : DoAt K CB H t xs) (k : KB K CB H H') : DoAt K CB H' t xs := let ⟨ts, h1, h2⟩ := h; ⟨ts, k.tup _ _ h1 rfl, PySem.Paired.mono (fun _ _ e => e.keep k) h2⟩
def lpf (sc d u ks kd ku : Addr) : List (Str × V) := [("scene", .ref sc), ("done", .ref d), ("undone", .ref u), ("is_open", .bl false), ("kept_scene", .ref ks), ("kept_done", .ref kd), ("kept_undone", .ref ku)]
structure LivAt (K : PySem.W.Frag) (CB CL : Addr) (H : Hp) (p : Addr) (S : Scn) (dn un : List (Scn × Scn)) : Prop where
  ex : ∃ dx sc d u ks kd ku, H p = some (.ins CL dx (lpf sc d u ks kd ku)) ∧ SceneAt K CB H sc S ∧ DoAt K CB H d dn ∧ DoAt K CB H u un
theorem LivAt.keep {CB CL : Addr} {H H' : Hp} {p : Addr} {S : Scn} {dn un : List (Scn × Scn)} (h : LivAt K CB CL H p S dn un) (hp : ∀ u, H p = some u → H' p = some u) (k : KB K CB H H') : LivAt K CB CL H' p S dn un := by
  obtain ⟨dx, sc, d, u, ks, kd, ku, h1, h2, h3, h4⟩ := h
  exact ⟨dx, sc, d, u, ks, kd, ku, hp _ h1, h2.keep k, h3.keep k, h4.keep k⟩
theorem LivAt.same {CB CL : Addr} {H H' : Hp} {p : Addr} {S : Scn} {dn un : List (Scn × Scn)} (h : LivAt K CB CL H p S dn un) (s : Same H H') : LivAt K CB CL H' p S dn un := h.keep (fun u e => s _ _ e) (KB.same s)
def spLiveInit (K : PySem.W.Frag) (CB CL : Addr) : Sp := fun vs H Q _ => ∃ p dx bk os, vs = [.ref p, .ref bk] ∧ H p = some (.ins CL dx []) ∧ BookAt K CB H bk os ∧ bk ≠ p ∧
  ∀ H', LivAt K CB CL H' p ⟨0, os, []⟩ [] [] → (∀ b u, H b = some u → b ≠ p → H' b = some u) → Q .non H'
theorem ok_LivePost (T : Top K mg C_Book C_Letter C_LivePost) : IFn P w K mg base CX0 1 C_LivePost "LivePost" (spLiveInit K C_Book C_LivePost) := by
  refine T.d_LivePostX_initX.fn fun f fd F => F.ok sc_LivePostX_initX (fun vs H Q E h => ?_) (fun cdv A outer s H vs Q E hr h => ?_)
  · obtain ⟨p, dx, bk, os, rfl, _⟩ := h
    rfl
  · obtain ⟨p, dx, bk, os, rfl, hp, B, nbp, kk⟩ := h
    refine ⟨_, (pss_cons (ps_fld (pv 0) (pe_tup (pa_cons pe_int (pa_cons (pv 1) (pa_cons (pe_tup pa_nil) pa_nil)))) rfl)
  (pss_cons (ps_fld (pv 0) (pe_tup pa_nil) rfl)
  (pss_cons (ps_fld (pv 0) (pe_tup pa_nil) rfl)
  (pss_cons (ps_fld (pv 0) pe_bl rfl)
  (pss_cons (ps_fld (pv 0) (pe_fld (pv 0) rfl) rfl)
  (pss_cons (ps_fld (pv 0) (pe_tup pa_nil) rfl)
  (pss_one (ps_fld (pv 0) (pe_tup pa_nil) rfl)))))))), ?_⟩
    have hpi : ∃ o, H p = some o ∧ (∀ xs, o ≠ HO.tup xs) ∧ (∀ u xs, o ≠ HO.frz u (.tup xs)) := ⟨_, hp, (fun _ z => by cases z), (fun _ _ z => by cases z)⟩
    refine ⟨_, rfl, (by show 0 ≤ sizeLine; decide), fun q1 hq1 => ⟨(by show 3 ≤ sizeLine; decide), fun q2 hq2 => ?_⟩⟩
    have s1 : Same H (upd (upd H q1 (.tup [])) q2 (.tup [.int 0, .ref bk, .ref q1])) := (Same.new hq1).trans (Same.new hq2)
    have f1 : (upd (upd H q1 (.tup [])) q2 (.tup [.int 0, .ref bk, .ref q1])) q1 = some (.tup []) := Same.new hq2 _ _ upd_same
    have f2 : (upd (upd H q1 (.tup [])) q2 (.tup [.int 0, .ref bk, .ref q1])) q2 = some (.tup [.int 0, .ref bk, .ref q1]) := upd_same
    generalize upd (upd H q1 (.tup [])) q2 (.tup [.int 0, .ref bk, .ref q1]) = H1 at s1 f1 f2
    have kk1 : ∀ b u, H b = some u → b ≠ p → H1 b = some u := fun b u e _ => s1 _ _ e
    have p1 := s1 _ _ hp
    refine ⟨_, rfl, p, C_LivePost, dx, _, rfl, p1, T.cl_LivePost, T.n_LivePost_scene, (by show 0 < 1000; decide), ?_⟩
    generalize eH : upd H1 p _ = H2
    have p2 : H2 p = some (.ins C_LivePost dx [("scene", .ref q2)]) := by rw [← eH, upd_same]; rfl
    have g2 : ∀ b u, H1 b = some u → b ≠ p → H2 b = some u := fun b u e nb => by rw [← eH, upd_ne nb]; exact e
    clear eH
    replace f1 := g2 _ _ f1 (ne_of f1 p1 (by intro z; cases z))
    replace f2 := g2 _ _ f2 (ne_of f2 p1 (by intro z; cases z))
    have kk2 : ∀ b u, H b = some u → b ≠ p → H2 b = some u := fun b u e nb => g2 _ _ (kk1 b u e nb) nb
    refine ⟨(by show 0 ≤ sizeLine; decide), fun q3 hq3 => ?_⟩
    have s3 := Same.new (o := .tup []) hq3
    have f3 : upd H2 q3 (.tup []) q3 = some (.tup []) := upd_same
    generalize upd H2 q3 (.tup []) = H3 at s3 f3
    replace f1 := s3 _ _ f1
    replace f2 := s3 _ _ f2
    have p3 := s3 _ _ p2
    have kk3 : ∀ b u, H b = some u → b ≠ p → H3 b = some u := fun b u e nb => s3 _ _ (kk2 b u e nb)
    refine ⟨_, rfl, p, C_LivePost, dx, _, rfl, p3, T.cl_LivePost, T.n_LivePost_done, (by show 1 < 1000; decide), ?_⟩
    generalize eH : upd H3 p _ = H4
    have p4 : H4 p = some (.ins C_LivePost dx [("scene", .ref q2), ("done", .ref q3)]) := by rw [← eH, upd_same]; rfl
    have g4 : ∀ b u, H3 b = some u → b ≠ p → H4 b = some u := fun b u e nb => by rw [← eH, upd_ne nb]; exact e
    clear eH
    replace f1 := g4 _ _ f1 (ne_of f1 p3 (by intro z; cases z))
    replace f2 := g4 _ _ f2 (ne_of f2 p3 (by intro z; cases z))
    replace f3 := g4 _ _ f3 (ne_of f3 p3 (by intro z; cases z))
    have kk4 : ∀ b u, H b = some u → b ≠ p → H4 b = some u := fun b u e nb => g4 _ _ (kk3 b u e nb) nb
    refine ⟨(by show 0 ≤ sizeLine; decide), fun q4 hq4 => ?_⟩
    have s5 := Same.new (o := .tup []) hq4
    have f4 : upd H4 q4 (.tup []) q4 = some (.tup []) := upd_same
    generalize upd H4 q4 (.tup []) = H5 at s5 f4
    replace f1 := s5 _ _ f1
    replace f2 := s5 _ _ f2
    replace f3 := s5 _ _ f3
    have p5 := s5 _ _ p4
    have kk5 : ∀ b u, H b = some u → b ≠ p → H5 b = some u := fun b u e nb => s5 _ _ (kk4 b u e nb)
    refine ⟨_, rfl, p, C_LivePost, dx, _, rfl, p5, T.cl_LivePost, T.n_LivePost_undone, (by show 2 < 1000; decide), ?_⟩
    generalize eH : upd H5 p _ = H6
    have p6 : H6 p = some (.ins C_LivePost dx [("scene", .ref q2), ("done", .ref q3), ("undone", .ref q4)]) := by rw [← eH, upd_same]; rfl
    have g6 : ∀ b u, H5 b = some u → b ≠ p → H6 b = some u := fun b u e nb => by rw [← eH, upd_ne nb]; exact e
    clear eH
    replace f1 := g6 _ _ f1 (ne_of f1 p5 (by intro z; cases z))
    replace f2 := g6 _ _ f2 (ne_of f2 p5 (by intro z; cases z))
    replace f3 := g6 _ _ f3 (ne_of f3 p5 (by intro z; cases z))
    replace f4 := g6 _ _ f4 (ne_of f4 p5 (by intro z; cases z))
    have kk6 : ∀ b u, H b = some u → b ≠ p → H6 b = some u := fun b u e nb => g6 _ _ (kk5 b u e nb) nb
    refine ⟨_, rfl, p, C_LivePost, dx, _, rfl, p6, T.cl_LivePost, T.n_LivePost_is_open, (by show 3 < 1000; decide), ?_⟩
    generalize eH : upd H6 p _ = H7
    have p7 : H7 p = some (.ins C_LivePost dx [("scene", .ref q2), ("done", .ref q3), ("undone", .ref q4), ("is_open", .bl false)]) := by rw [← eH, upd_same]; rfl
    have g7 : ∀ b u, H6 b = some u → b ≠ p → H7 b = some u := fun b u e nb => by rw [← eH, upd_ne nb]; exact e
    clear eH
    replace f1 := g7 _ _ f1 (ne_of f1 p6 (by intro z; cases z))
    replace f2 := g7 _ _ f2 (ne_of f2 p6 (by intro z; cases z))
    replace f3 := g7 _ _ f3 (ne_of f3 p6 (by intro z; cases z))
    replace f4 := g7 _ _ f4 (ne_of f4 p6 (by intro z; cases z))
    have kk7 : ∀ b u, H b = some u → b ≠ p → H7 b = some u := fun b u e nb => g7 _ _ (kk6 b u e nb) nb
    refine ⟨_, rfl, p, C_LivePost, dx, _, _, rfl, p7, T.cl_LivePost, T.n_LivePost_scene, rfl, ?_⟩
    refine ⟨_, rfl, p, C_LivePost, dx, _, rfl, p7, T.cl_LivePost, T.n_LivePost_kept_scene, (by show 4 < 1000; decide), ?_⟩
    generalize eH : upd H7 p _ = H8
    have p8 : H8 p = some (.ins C_LivePost dx [("scene", .ref q2), ("done", .ref q3), ("undone", .ref q4), ("is_open", .bl false), ("kept_scene", .ref q2)]) := by rw [← eH, upd_same]; rfl
    have g8 : ∀ b u, H7 b = some u → b ≠ p → H8 b = some u := fun b u e nb => by rw [← eH, upd_ne nb]; exact e
    clear eH
    replace f1 := g8 _ _ f1 (ne_of f1 p7 (by intro z; cases z))
    replace f2 := g8 _ _ f2 (ne_of f2 p7 (by intro z; cases z))
    replace f3 := g8 _ _ f3 (ne_of f3 p7 (by intro z; cases z))
    replace f4 := g8 _ _ f4 (ne_of f4 p7 (by intro z; cases z))
    have kk8 : ∀ b u, H b = some u → b ≠ p → H8 b = some u := fun b u e nb => g8 _ _ (kk7 b u e nb) nb
    refine ⟨(by show 0 ≤ sizeLine; decide), fun q5 hq5 => ?_⟩
    have s9 := Same.new (o := .tup []) hq5
    have f5 : upd H8 q5 (.tup []) q5 = some (.tup []) := upd_same
    generalize upd H8 q5 (.tup []) = H9 at s9 f5
    replace f1 := s9 _ _ f1
    replace f2 := s9 _ _ f2
    replace f3 := s9 _ _ f3
    replace f4 := s9 _ _ f4
    have p9 := s9 _ _ p8
    have kk9 : ∀ b u, H b = some u → b ≠ p → H9 b = some u := fun b u e nb => s9 _ _ (kk8 b u e nb)
    refine ⟨_, rfl, p, C_LivePost, dx, _, rfl, p9, T.cl_LivePost, T.n_LivePost_kept_done, (by show 5 < 1000; decide), ?_⟩
    generalize eH : upd H9 p _ = H10
    have p10 : H10 p = some (.ins C_LivePost dx [("scene", .ref q2), ("done", .ref q3), ("undone", .ref q4), ("is_open", .bl false), ("kept_scene", .ref q2), ("kept_done", .ref q5)]) := by rw [← eH, upd_same]; rfl
    have g10 : ∀ b u, H9 b = some u → b ≠ p → H10 b = some u := fun b u e nb => by rw [← eH, upd_ne nb]; exact e
    clear eH
    replace f1 := g10 _ _ f1 (ne_of f1 p9 (by intro z; cases z))
    replace f2 := g10 _ _ f2 (ne_of f2 p9 (by intro z; cases z))
    replace f3 := g10 _ _ f3 (ne_of f3 p9 (by intro z; cases z))
    replace f4 := g10 _ _ f4 (ne_of f4 p9 (by intro z; cases z))
    replace f5 := g10 _ _ f5 (ne_of f5 p9 (by intro z; cases z))
    have kk10 : ∀ b u, H b = some u → b ≠ p → H10 b = some u := fun b u e nb => g10 _ _ (kk9 b u e nb) nb
    refine ⟨(by show 0 ≤ sizeLine; decide), fun q6 hq6 => ?_⟩
    have s11 := Same.new (o := .tup []) hq6
    have f6 : upd H10 q6 (.tup []) q6 = some (.tup []) := upd_same
    generalize upd H10 q6 (.tup []) = H11 at s11 f6
    replace f1 := s11 _ _ f1
    replace f2 := s11 _ _ f2
    replace f3 := s11 _ _ f3
    replace f4 := s11 _ _ f4
    replace f5 := s11 _ _ f5
    have p11 := s11 _ _ p10
    have kk11 : ∀ b u, H b = some u → b ≠ p → H11 b = some u := fun b u e nb => s11 _ _ (kk10 b u e nb)
    refine ⟨_, rfl, p, C_LivePost, dx, _, rfl, p11, T.cl_LivePost, T.n_LivePost_kept_undone, (by show 6 < 1000; decide), ?_⟩
    generalize eH : upd H11 p _ = H12
    have p12 : H12 p = some (.ins C_LivePost dx [("scene", .ref q2), ("done", .ref q3), ("undone", .ref q4), ("is_open", .bl false), ("kept_scene", .ref q2), ("kept_done", .ref q5), ("kept_undone", .ref q6)]) := by rw [← eH, upd_same]; rfl
    have g12 : ∀ b u, H11 b = some u → b ≠ p → H12 b = some u := fun b u e nb => by rw [← eH, upd_ne nb]; exact e
    clear eH
    replace f1 := g12 _ _ f1 (ne_of f1 p11 (by intro z; cases z))
    replace f2 := g12 _ _ f2 (ne_of f2 p11 (by intro z; cases z))
    replace f3 := g12 _ _ f3 (ne_of f3 p11 (by intro z; cases z))
    replace f4 := g12 _ _ f4 (ne_of f4 p11 (by intro z; cases z))
    replace f5 := g12 _ _ f5 (ne_of f5 p11 (by intro z; cases z))
    replace f6 := g12 _ _ f6 (ne_of f6 p11 (by intro z; cases z))
    have kk12 : ∀ b u, H b = some u → b ≠ p → H12 b = some u := fun b u e nb => g12 _ _ (kk11 b u e nb) nb
    exact kk _ ⟨dx, q2, q3, q4, q2, q5, q6, p12, ⟨bk, q1, [], f2, B.keep hpi nbp kk12, f1, .nil⟩, ⟨[], f3, .nil⟩, ⟨[], f4, .nil⟩⟩ kk12
def spToday (K : PySem.W.Frag) (CB CL : Addr) : Sp := fun vs H Q _ => ∃ p S dn un, vs = [.ref p] ∧ LivAt K CB CL H p S dn un ∧ Q (.int S.day) H
theorem ok_today (T : Top K mg C_Book C_Letter C_LivePost) : PFn P w K mg base CX0 1 C_LivePost "today" (spToday K C_Book C_LivePost) := by
  refine T.d_LivePost_today.fn fun f fd F => F.ok sc_LivePost_today (fun vs H Q E h => ?_) (fun cdv A outer s H vs Q E hr h => ?_)
  · obtain ⟨p, S, dn, un, rfl, _⟩ := h
    rfl
  · obtain ⟨p, S, dn, un, rfl, ⟨dx, sc, d, u, ks, kd, ku, h1, ⟨bk, lt, rs, a1, a2, a3, a4⟩, h3, h4⟩, kk⟩ := h
    refine ⟨_, (pss_one (ps_ret (pe_ix ix_tup (pe_fld (pv 0) rfl) pe_int (fun _ _ => rfl)))), ?_⟩
    exact ⟨_, rfl, p, C_LivePost, dx, _, _, rfl, h1, T.cl_LivePost, T.n_LivePost_scene, rfl, sc, _, _, _, rfl, rfl, .inl (.inl a1), rfl, kk⟩
def spPresent (K : PySem.W.Frag) (CB CL : Addr) : Sp := fun vs H Q _ => ∃ p S dn un, vs = [.ref p] ∧ LivAt K CB CL H p S dn un ∧ ∀ bk, BookAt K CB H bk S.os → Q (.ref bk) H
theorem ok_present (T : Top K mg C_Book C_Letter C_LivePost) : PFn P w K mg base CX0 1 C_LivePost "present_book" (spPresent K C_Book C_LivePost) := by
  refine T.d_LivePost_present_book.fn fun f fd F => F.ok sc_LivePost_present_book (fun vs H Q E h => ?_) (fun cdv A outer s H vs Q E hr h => ?_)
  · obtain ⟨p, S, dn, un, rfl, _⟩ := h
    rfl
  · obtain ⟨p, S, dn, un, rfl, ⟨dx, sc, d, u, ks, kd, ku, h1, ⟨bk, lt, rs, a1, a2, a3, a4⟩, h3, h4⟩, kk⟩ := h
    refine ⟨_, (pss_one (ps_ret (pe_ix ix_tup (pe_fld (pv 0) rfl) pe_int (fun _ _ => rfl)))), ?_⟩
    exact ⟨_, rfl, p, C_LivePost, dx, _, _, rfl, h1, T.cl_LivePost, T.n_LivePost_scene, rfl, sc, _, _, _, rfl, rfl, .inl (.inl a1), rfl, kk bk a2⟩
def spLiveLen (K : PySem.W.Frag) (CB CL : Addr) : Sp := fun vs H Q _ => ∃ p S dn un, vs = [.ref p] ∧ LivAt K CB CL H p S dn un ∧ Q (.int (S.rows.length : Nat)) H
theorem ok_live_len (T : Top K mg C_Book C_Letter C_LivePost) : MFn P w K mg base CX0 1 C_LivePost "__len__" (spLiveLen K C_Book C_LivePost) := by
  refine T.d_LivePostX_lenX.fn fun f fd F => F.ok sc_LivePostX_lenX (fun vs H Q E h => ?_) (fun cdv A outer s H vs Q E hr h => ?_)
  · obtain ⟨p, S, dn, un, rfl, _⟩ := h
    rfl
  · obtain ⟨p, S, dn, un, rfl, ⟨dx, sc, d, u, ks, kd, ku, h1, ⟨bk, lt, rs, a1, a2, a3, a4⟩, h3, h4⟩, kk⟩ := h
    refine ⟨_, (pss_one (ps_ret (pe_callB call_len_seq (by rfl) T.b_len (by decide +kernel) (pa_cons (pe_ix ix_tup (pe_fld (pv 0) rfl) pe_int (fun _ _ => rfl)) pa_nil)))), ?_⟩
    refine ⟨_, rfl, p, C_LivePost, dx, _, _, rfl, h1, T.cl_LivePost, T.n_LivePost_scene, rfl, sc, _, _, _, rfl, rfl, .inl (.inl a1), rfl, lt, _, rfl, .inr (.inl (.inl a3)), ?_⟩
    rw [List.length_map, PySem.Paired.length a4]
    exact kk
def spLiveCall (K : PySem.W.Frag) (CB CL : Addr) : Sp := fun vs H Q _ => ∃ p S dn un, ∃ n : Nat, ∃ x, vs = [.ref p, .int n] ∧ LivAt K CB CL H p S dn un ∧ S.rows[n]? = some x ∧ ∀ r, H r = some (.tup [.str x.1, .int x.2.1, .bl x.2.2]) → Q (.ref r) H
theorem ok_live_call (T : Top K mg C_Book C_Letter C_LivePost) : MFn P w K mg base CX0 2 C_LivePost "__call__" (spLiveCall K C_Book C_LivePost) := by
  have G_is_integer : GFn P w K mg base CX0 1 "is_integer" spIsInteger := ok_is_integer T
  refine T.d_LivePostX_callX.fn fun f fd F => F.ok sc_LivePostX_callX (fun vs H Q E h => ?_) (fun cdv A outer s H vs Q E hr h => ?_)
  · obtain ⟨p, S, dn, un, n, x, rfl, _⟩ := h
    rfl
  · obtain ⟨p, S, dn, un, n, x, rfl, ⟨dx, sc, d, u, ks, kd, ku, h1, ⟨bk, lt, rs, a1, a2, a3, a4⟩, h3, h4⟩, ex, kk⟩ := h
    refine ⟨_, (pss_cons (ps_if (pt_not (pt_val (pe_g G_is_integer (hr.mono (by decide)) (pa_cons (pv 1) (pa_cons pe_int (pa_cons (pe_op op_sub (pe_callB call_len_seq (by rfl) T.b_len (by decide +kernel) (pa_cons (pe_ix ix_tup (pe_fld (pv 0) rfl) pe_int (fun _ _ => rfl)) pa_nil)) pe_int) pa_nil))))))
  (pss_one ps_never)
  pss_nil)
  (pss_one (ps_ret (pe_ix ix_tup (pe_ix ix_tup (pe_fld (pv 0) rfl) pe_int (fun _ _ => rfl)) (pv 1) (fun _ _ => rfl))))), ?_⟩
    have hl : rs.length = S.rows.length := PySem.Paired.length a4
    have hi : n < S.rows.length := (List.getElem?_eq_some_iff.mp ex).1
    obtain ⟨a, ea⟩ : ∃ a, rs[n]? = some a := ⟨rs[n], by simp [hl, hi]⟩
    obtain ⟨x', ex', oa⟩ := Paired.get a4 ea
    rw [ex] at ex'
    cases ex'
    refine ⟨_, rfl, _, rfl, p, C_LivePost, dx, _, _, rfl, h1, T.cl_LivePost, T.n_LivePost_scene, rfl, sc, _, _, _, rfl, rfl, .inl (.inl a1), rfl, lt, _, rfl, .inr (.inl (.inl a3)), _, _, rfl, rfl, _, _, _, rfl, rfl, _, rfl, ?_⟩
    have e : isIntB (.int (n : Nat)) 0 (((rs.map V.ref).length : Nat) - 1) = true := by
      rw [List.length_map, hl]
      have h1 : (0 : Int) ≤ (n : Nat) := by omega
      have h2 : ((n : Nat) : Int) ≤ (S.rows.length : Nat) - 1 := by omega
      simp [isIntB, h1, h2]
    rw [e]
    refine iteF ?_
    exact ⟨_, rfl, p, C_LivePost, dx, _, _, rfl, h1, T.cl_LivePost, T.n_LivePost_scene, rfl, sc, _, _, _, rfl, rfl, .inl (.inl a1), rfl, _, rfl, lt, _, _, _, rfl, rfl, .inl (.inl a3), atI_nat (by rw [List.getElem?_map, ea]; rfl), kk a oa⟩
def spEnter (K : PySem.W.Frag) (CB CL : Addr) : Sp := fun vs H Q _ => ∃ p S dn un op af A, vs = [.ref p, op, .ref af] ∧ LivAt K CB CL H p S dn un ∧ SceneAt K CB H af A ∧ dn.length < 1000 ∧
  ∀ H', LivAt K CB CL H' p A (dn ++ [(S, A)]) [] → (∀ b u, H b = some u → b ≠ p → H' b = some u) → Q .non H'
theorem ok_enter (T : Top K mg C_Book C_Letter C_LivePost) : MFn P w K mg base CX0 1 C_LivePost "enter" (spEnter K C_Book C_LivePost) := by
  refine T.d_LivePost_enter.fn fun f fd F => F.ok sc_LivePost_enter (fun vs H Q E h => ?_) (fun cdv A outer s H vs Q E hr h => ?_)
  · obtain ⟨p, S, dn, un, op, af, A', rfl, _⟩ := h
    rfl
  · obtain ⟨p, S, dn, un, op, af, A', rfl, ⟨dx, sc, d, u, ks, kd, ku, h1, hs, ⟨ts, h3, Pt⟩, h4⟩, ha, l1000, kk⟩ := h
    refine ⟨_, (pss_cons (ps_fld (pv 0) (pe_tup (pa_star (pe_fld (pv 0) rfl) (pa_cons (pe_tup (pa_cons (pv 1) (pa_cons (pe_fld (pv 0) rfl) (pa_cons (pv 2) pa_nil)))) pa_nil))) rfl)
  (pss_cons (ps_fld (pv 0) (pe_tup pa_nil) rfl)
  (pss_one (ps_fld (pv 0) (pv 2) rfl)))), ?_⟩
    have lt : ts.length = dn.length := PySem.Paired.length Pt
    refine ⟨_, rfl, p, C_LivePost, dx, _, _, rfl, h1, T.cl_LivePost, T.n_LivePost_done, rfl, d, _, rfl, .inl (.inl (.inl h3)), ?_⟩
    refine ⟨_, rfl, _, rfl, p, C_LivePost, dx, _, _, rfl, h1, T.cl_LivePost, T.n_LivePost_scene, rfl, _, rfl, (by show 3 ≤ sizeLine; decide), fun q1 hq1 => ?_⟩
    have s1 := Same.new (o := .tup [op, .ref sc, .ref af]) hq1
    have f1 : upd H q1 (.tup [op, .ref sc, .ref af]) q1 = some (.tup [op, .ref sc, .ref af]) := upd_same
    generalize upd H q1 (.tup [op, .ref sc, .ref af]) = H1 at s1 f1
    refine ⟨by rw [List.length_append, List.length_map, sizeLine_eq]; simp only [List.length_cons, List.length_nil]; omega, fun q2 hq2 => ?_⟩
    have s2 := Same.new (o := .tup (ts.map V.ref ++ [V.ref q1])) hq2
    have f2 : upd H1 q2 (.tup (ts.map V.ref ++ [V.ref q1])) q2 = some (.tup (ts.map V.ref ++ [V.ref q1])) := upd_same
    generalize upd H1 q2 (.tup (ts.map V.ref ++ [V.ref q1])) = H2 at s2 f2
    replace f1 := s2 _ _ f1
    have s02 := s1.trans s2
    have p2 := s02 _ _ h1
    refine ⟨_, rfl, p, C_LivePost, dx, _, rfl, p2, T.cl_LivePost, T.n_LivePost_done, (by show 7 < 1000; decide), ?_⟩
    generalize eH : upd H2 p _ = H3
    have p3 : H3 p = some (.ins C_LivePost dx (lpf sc q2 u ks kd ku)) := by rw [← eH, upd_same]; rfl
    have g3 : ∀ b v, H2 b = some v → b ≠ p → H3 b = some v := fun b v e nb => by rw [← eH, upd_ne nb]; exact e
    clear eH
    refine ⟨(by show 0 ≤ sizeLine; decide), fun q3 hq3 => ?_⟩
    have s4 := Same.new (o := .tup []) hq3
    have f3 : upd H3 q3 (.tup []) q3 = some (.tup []) := upd_same
    generalize upd H3 q3 (.tup []) = H4 at s4 f3
    refine ⟨_, rfl, p, C_LivePost, dx, _, rfl, s4 _ _ p3, T.cl_LivePost, T.n_LivePost_undone, (by show 7 < 1000; decide), ?_⟩
    generalize eH : upd H4 p _ = H5
    have p5 : H5 p = some (.ins C_LivePost dx (lpf sc q2 q3 ks kd ku)) := by rw [← eH, upd_same]; rfl
    have g5 : ∀ b v, H4 b = some v → b ≠ p → H5 b = some v := fun b v e nb => by rw [← eH, upd_ne nb]; exact e
    clear eH
    refine ⟨_, rfl, _, rfl, p, C_LivePost, dx, _, rfl, p5, T.cl_LivePost, T.n_LivePost_scene, (by show 7 < 1000; decide), ?_⟩
    generalize eH : upd H5 p _ = H6
    have p6 : H6 p = some (.ins C_LivePost dx (lpf af q2 q3 ks kd ku)) := by rw [← eH, upd_same]; rfl
    have g6 : ∀ b v, H5 b = some v → b ≠ p → H6 b = some v := fun b v e nb => by rw [← eH, upd_ne nb]; exact e
    clear eH
    have g26 : ∀ b v, H2 b = some v → b ≠ p → H6 b = some v := fun b v e nb => g6 _ _ (g5 _ _ (s4 _ _ (g3 _ _ e nb)) nb) nb
    have g06 : ∀ b v, H b = some v → b ≠ p → H6 b = some v := fun b v e nb => g26 _ _ (s02 _ _ e) nb
    have kb : KB K C_Book H H6 := KB.live h1 g06
    have f36 : H6 q3 = some (.tup []) := g6 _ _ (g5 _ _ f3 (ne_of f3 (s4 _ _ p3) (by intro z; cases z))) (ne_of f3 (s4 _ _ p3) (by intro z; cases z))
    refine kk _ ⟨dx, af, q2, q3, ks, kd, ku, p6, ha.keep kb, ⟨ts ++ [q1], ?_, ?_⟩, ⟨[], f36, .nil⟩⟩ g06
    · rw [List.map_append]
      exact g26 _ _ f2 (ne_of f2 p2 (by intro z; cases z))
    · exact Paired.append (PySem.Paired.mono (fun _ _ e => e.keep kb) Pt) (.cons ⟨op, sc, af, g26 _ _ f1 (ne_of f1 p2 (by intro z; cases z)), hs.keep kb, ha.keep kb⟩ .nil)
end

end MF
set_option Elab.async false
set_option linter.all false
set_option maxRecDepth 100000
set_option maxHeartbeats 2000000
set_option pp.maxSteps 600
namespace MF
open PySem PySem.Spec PyProof.Rows L2 StX
section
variable {P : Program} {w : World} {K : PySem.W.Frag} {mg : Str → Option Value} {base : Heap} {C_Book C_Letter C_LivePost : Addr}
theorem paired_snoc {α β : Type} {r : α → β → Prop} : ∀ {ms : List β} {m : β} {ls : List α}, PySem.Paired r ls (ms ++ [m]) → ∃ ts e, ls = ts ++ [e] ∧ PySem.Paired r ts ms ∧ r e m
  | [], m, _, .cons h .nil => ⟨[], _, rfl, .nil, h⟩
  | _ :: ms, m, _, .cons h t => by
    obtain ⟨ts, e, e1, e2, e3⟩ := paired_snoc t
    exact ⟨_ :: ts, e, by rw [e1]; rfl, .cons h e2, e3⟩
def spUndo (K : PySem.W.Frag) (CB CL : Addr) : Sp := fun vs H Q _ => ∃ p S dn un B A, vs = [.ref p] ∧ LivAt K CB CL H p S (dn ++ [(B, A)]) un ∧ dn.length < 1000 ∧ un.length < 1000 ∧
  ∀ H', LivAt K CB CL H' p B dn (un ++ [(B, A)]) → (∀ b u, H b = some u → b ≠ p → H' b = some u) → Q (.bl true) H'
theorem ok_undo (T : Top K mg C_Book C_Letter C_LivePost) : MFn P w K mg base CX0 1 C_LivePost "undo" (spUndo K C_Book C_LivePost) := by
  refine T.d_LivePost_undo.fn fun f fd F => F.ok sc_LivePost_undo (fun vs H Q E h => ?_) (fun cdv A outer s H vs Q E hr h => ?_)
  · obtain ⟨p, S, dn, un, B, A', rfl, _⟩ := h
    rfl
  · obtain ⟨p, S, dn, un, B, A', rfl, ⟨dx, sc, d, u, ks, kd, ku, h1, hs, ⟨td, hd, Pd⟩, ⟨tu, hu', Pu⟩⟩, l1, l2, kk⟩ := h
    have hE : (A.deeper (envOfC "LivePost.undo" (defScope s_LivePost_undo) s.heap.objs.size f cdv)).units < cLine := by have := hr.un; omega
    refine ⟨_, (pss_cons (ps_if (pt_cmpR (op_eqT0 hE) (pe_fld (pv 0) rfl) (pe_tup pa_nil) (nomark _))
  (pss_one (ps_ret pe_bl))
  pss_nil)
  (pss_cons (ps_asg (pe_fld (pv 0) rfl) (pg_starT rfl (pgs_star (pg_name (i := 1) sc_LivePost_undo.nd rfl (Or.inl rfl)) (pgs_cons (pg_name (i := 2) sc_LivePost_undo.nd rfl (Or.inl rfl)) pgs_nil))))
  (pss_cons (ps_asg (pe_tup (pa_cons (pe_callTy call_tuple_of (by rfl) T.b_tuple (by decide +kernel) (pa_cons (pv 1) pa_nil)) (pa_cons (pe_tup (pa_star (pe_fld (pv 0) rfl) (pa_cons (pv 2) pa_nil))) (pa_cons (pe_ix ix_tup (pv 2) pe_int (fun _ _ => rfl)) pa_nil)))) (pg_tup rfl (pgs_cons (pg_fld (pv 0)) (pgs_cons (pg_fld (pv 0)) (pgs_cons (pg_fld (pv 0)) pgs_nil)))))
  (pss_one (ps_ret pe_bl))))), ?_⟩
    obtain ⟨ts, e, rfl, Pts, ⟨op, sb, sa, he, hb, ha⟩⟩ : ∃ ts e, td = ts ++ [e] ∧ PySem.Paired (EnAt K C_Book H) ts dn ∧ EnAt K C_Book H e (B, A') := by
      exact paired_snoc Pd
    have lts : ts.length = dn.length := PySem.Paired.length Pts
    have lto : tu.length = un.length := PySem.Paired.length Pu
    rw [List.map_append] at hd
    have hsrc := hd
    have hdst := hu'
    refine ⟨_, rfl, p, C_LivePost, dx, _, _, rfl, h1, T.cl_LivePost, T.n_LivePost_done, rfl, (by show 0 ≤ sizeLine; decide), fun q0 hq0 => ?_⟩
    have s0 := Same.new (o := .tup []) hq0
    have f0 : upd H q0 (.tup []) q0 = some (.tup []) := upd_same
    generalize upd H q0 (.tup []) = H0 at s0 f0
    refine ⟨d, q0, _, rfl, rfl, .inl (.inl (s0 _ _ hsrc)), .inl (.inl f0), ?_⟩
    rw [show (ts.map V.ref ++ [e].map V.ref).isEmpty = false by cases ts <;> rfl]
    refine ⟨_, rfl, iteF ?_⟩
    refine ⟨_, rfl, p, C_LivePost, dx, _, _, rfl, s0 _ _ h1, T.cl_LivePost, T.n_LivePost_done, rfl, d, ts.map V.ref, .ref e, rfl, .inl (.inl (s0 _ _ hsrc)), fun D hD => ⟨_, _, rfl, _, _, rfl, rfl, ?_⟩⟩
    have s1 := s0.trans (Same.new (o := .lst (ts.map V.ref)) hD)
    have fD : upd H0 D (.lst (ts.map V.ref)) D = some (.lst (ts.map V.ref)) := upd_same
    generalize upd H0 D (.lst (ts.map V.ref)) = H1 at s1 fD
    refine ⟨_, rfl, D, _, rfl, .inl ⟨SqL.of fD, fun q1 hq1 => ?_⟩⟩
    have s2 := s1.trans (Same.new (o := .tup (ts.map V.ref)) hq1)
    have f1 : upd H1 q1 (.tup (ts.map V.ref)) q1 = some (.tup (ts.map V.ref)) := upd_same
    generalize upd H1 q1 (.tup (ts.map V.ref)) = H2 at s2 f1
    refine ⟨_, rfl, p, C_LivePost, dx, _, _, rfl, s2 _ _ h1, T.cl_LivePost, T.n_LivePost_undone, rfl, u, _, rfl, .inl (.inl (.inl (s2 _ _ hdst))), ?_⟩
    refine ⟨_, rfl, by rw [List.length_append, List.length_map, sizeLine_eq]; simp only [List.length_cons, List.length_nil]; omega, fun q2 hq2 => ?_⟩
    have s3' := Same.new (o := .tup (tu.map V.ref ++ [V.ref e])) hq2
    have s3 := s2.trans s3'
    have f2 : upd H2 q2 (.tup (tu.map V.ref ++ [V.ref e])) q2 = some (.tup (tu.map V.ref ++ [V.ref e])) := upd_same
    generalize upd H2 q2 (.tup (tu.map V.ref ++ [V.ref e])) = H3 at s3' s3 f2
    refine ⟨_, rfl, e, _, _, _, rfl, rfl, .inl (.inl (s3 _ _ he)), rfl, (by show 3 ≤ sizeLine; decide), fun q3 hq3 => ?_⟩
    have s4' := Same.new (o := .tup [.ref q1, .ref q2, .ref sb]) hq3
    have s4 := s3.trans s4'
    have f3 : upd H3 q3 (.tup [.ref q1, .ref q2, .ref sb]) q3 = some (.tup [.ref q1, .ref q2, .ref sb]) := upd_same
    generalize upd H3 q3 (.tup [.ref q1, .ref q2, .ref sb]) = H4 at s4' s4 f3
    replace f1 := s4' _ _ (s3' _ _ f1)
    replace f2 := s4' _ _ f2
    have p4 := s4 _ _ h1
    refine ⟨q3, _, rfl, .inl (.inl f3), rfl, _, _, rfl, _, rfl, p, C_LivePost, dx, _, rfl, p4, T.cl_LivePost, T.n_LivePost_done, (by show 7 < 1000; decide), ?_⟩
    generalize eH : upd H4 p _ = H5
    have p5 : H5 p = some (.ins C_LivePost dx (lpf sc q1 u ks kd ku)) := by rw [← eH, upd_same]; rfl
    have g5 : ∀ b v, H4 b = some v → b ≠ p → H5 b = some v := fun b v e nb => by rw [← eH, upd_ne nb]; exact e
    clear eH
    refine ⟨_, _, rfl, _, rfl, p, C_LivePost, dx, _, rfl, p5, T.cl_LivePost, T.n_LivePost_undone, (by show 7 < 1000; decide), ?_⟩
    generalize eH : upd H5 p _ = H6
    have p6 : H6 p = some (.ins C_LivePost dx (lpf sc q1 q2 ks kd ku)) := by rw [← eH, upd_same]; rfl
    have g6 : ∀ b v, H5 b = some v → b ≠ p → H6 b = some v := fun b v e nb => by rw [← eH, upd_ne nb]; exact e
    clear eH
    refine ⟨_, _, rfl, _, rfl, p, C_LivePost, dx, _, rfl, p6, T.cl_LivePost, T.n_LivePost_scene, (by show 7 < 1000; decide), rfl, ?_⟩
    generalize eH : upd H6 p _ = H7
    have p7 : H7 p = some (.ins C_LivePost dx (lpf sb q1 q2 ks kd ku)) := by rw [← eH, upd_same]; rfl
    have g7 : ∀ b v, H6 b = some v → b ≠ p → H7 b = some v := fun b v e nb => by rw [← eH, upd_ne nb]; exact e
    clear eH
    have g47 : ∀ b v, H4 b = some v → b ≠ p → H7 b = some v := fun b v e nb => g7 _ _ (g6 _ _ (g5 _ _ e nb) nb) nb
    have g07 : ∀ b v, H b = some v → b ≠ p → H7 b = some v := fun b v e nb => g47 _ _ (s4 _ _ e) nb
    have kb : KB K C_Book H H7 := KB.live h1 g07
    have F1 : H7 q1 = some (.tup (ts.map V.ref)) := g47 _ _ f1 (ne_of f1 p4 (by intro z; cases z))
    have F2 : H7 q2 = some (.tup ((tu ++ [e]).map V.ref)) := by
      rw [List.map_append]
      exact g47 _ _ f2 (ne_of f2 p4 (by intro z; cases z))
    have D1 : DoAt K C_Book H7 q1 dn := ⟨ts, F1, PySem.Paired.mono (fun _ _ e => e.keep kb) Pts⟩
    have D2 : DoAt K C_Book H7 q2 (un ++ [(B, A')]) := ⟨tu ++ [e], F2, Paired.append (PySem.Paired.mono (fun _ _ e => e.keep kb) Pu) (.cons (EnAt.keep ⟨op, sb, sa, he, hb, ha⟩ kb) .nil)⟩
    exact kk _ ⟨dx, sb, q1, q2, ks, kd, ku, p7, hb.keep kb, D1, D2⟩ g07
def spRedo (K : PySem.W.Frag) (CB CL : Addr) : Sp := fun vs H Q _ => ∃ p S dn un B A, vs = [.ref p] ∧ LivAt K CB CL H p S dn (un ++ [(B, A)]) ∧ dn.length < 1000 ∧ un.length < 1000 ∧
  ∀ H', LivAt K CB CL H' p A (dn ++ [(B, A)]) un → (∀ b u, H b = some u → b ≠ p → H' b = some u) → Q (.bl true) H'
theorem ok_redo (T : Top K mg C_Book C_Letter C_LivePost) : MFn P w K mg base CX0 1 C_LivePost "redo" (spRedo K C_Book C_LivePost) := by
  refine T.d_LivePost_redo.fn fun f fd F => F.ok sc_LivePost_redo (fun vs H Q E h => ?_) (fun cdv A outer s H vs Q E hr h => ?_)
  · obtain ⟨p, S, dn, un, B, A', rfl, _⟩ := h
    rfl
  · obtain ⟨p, S, dn, un, B, A', rfl, ⟨dx, sc, d, u, ks, kd, ku, h1, hs, ⟨td, hd, Pd⟩, ⟨tu, hu', Pu⟩⟩, l1, l2, kk⟩ := h
    have hE : (A.deeper (envOfC "LivePost.redo" (defScope s_LivePost_redo) s.heap.objs.size f cdv)).units < cLine := by have := hr.un; omega
    refine ⟨_, (pss_cons (ps_if (pt_cmpR (op_eqT0 hE) (pe_fld (pv 0) rfl) (pe_tup pa_nil) (nomark _))
  (pss_one (ps_ret pe_bl))
  pss_nil)
  (pss_cons (ps_asg (pe_fld (pv 0) rfl) (pg_starT rfl (pgs_star (pg_name (i := 1) sc_LivePost_redo.nd rfl (Or.inl rfl)) (pgs_cons (pg_name (i := 2) sc_LivePost_redo.nd rfl (Or.inl rfl)) pgs_nil))))
  (pss_cons (ps_asg (pe_tup (pa_cons (pe_callTy call_tuple_of (by rfl) T.b_tuple (by decide +kernel) (pa_cons (pv 1) pa_nil)) (pa_cons (pe_tup (pa_star (pe_fld (pv 0) rfl) (pa_cons (pv 2) pa_nil))) (pa_cons (pe_ix ix_tup (pv 2) pe_int (fun _ _ => rfl)) pa_nil)))) (pg_tup rfl (pgs_cons (pg_fld (pv 0)) (pgs_cons (pg_fld (pv 0)) (pgs_cons (pg_fld (pv 0)) pgs_nil)))))
  (pss_one (ps_ret pe_bl))))), ?_⟩
    obtain ⟨ts, e, rfl, Pts, ⟨op, sb, sa, he, hb, ha⟩⟩ : ∃ ts e, tu = ts ++ [e] ∧ PySem.Paired (EnAt K C_Book H) ts un ∧ EnAt K C_Book H e (B, A') := by
      exact paired_snoc Pu
    have lts : ts.length = un.length := PySem.Paired.length Pts
    have lto : td.length = dn.length := PySem.Paired.length Pd
    rw [List.map_append] at hu'
    have hsrc := hu'
    have hdst := hd
    refine ⟨_, rfl, p, C_LivePost, dx, _, _, rfl, h1, T.cl_LivePost, T.n_LivePost_undone, rfl, (by show 0 ≤ sizeLine; decide), fun q0 hq0 => ?_⟩
    have s0 := Same.new (o := .tup []) hq0
    have f0 : upd H q0 (.tup []) q0 = some (.tup []) := upd_same
    generalize upd H q0 (.tup []) = H0 at s0 f0
    refine ⟨u, q0, _, rfl, rfl, .inl (.inl (s0 _ _ hsrc)), .inl (.inl f0), ?_⟩
    rw [show (ts.map V.ref ++ [e].map V.ref).isEmpty = false by cases ts <;> rfl]
    refine ⟨_, rfl, iteF ?_⟩
    refine ⟨_, rfl, p, C_LivePost, dx, _, _, rfl, s0 _ _ h1, T.cl_LivePost, T.n_LivePost_undone, rfl, u, ts.map V.ref, .ref e, rfl, .inl (.inl (s0 _ _ hsrc)), fun D hD => ⟨_, _, rfl, _, _, rfl, rfl, ?_⟩⟩
    have s1 := s0.trans (Same.new (o := .lst (ts.map V.ref)) hD)
    have fD : upd H0 D (.lst (ts.map V.ref)) D = some (.lst (ts.map V.ref)) := upd_same
    generalize upd H0 D (.lst (ts.map V.ref)) = H1 at s1 fD
    refine ⟨_, rfl, D, _, rfl, .inl ⟨SqL.of fD, fun q1 hq1 => ?_⟩⟩
    have s2 := s1.trans (Same.new (o := .tup (ts.map V.ref)) hq1)
    have f1 : upd H1 q1 (.tup (ts.map V.ref)) q1 = some (.tup (ts.map V.ref)) := upd_same
    generalize upd H1 q1 (.tup (ts.map V.ref)) = H2 at s2 f1
    refine ⟨_, rfl, p, C_LivePost, dx, _, _, rfl, s2 _ _ h1, T.cl_LivePost, T.n_LivePost_done, rfl, d, _, rfl, .inl (.inl (.inl (s2 _ _ hdst))), ?_⟩
    refine ⟨_, rfl, by rw [List.length_append, List.length_map, sizeLine_eq]; simp only [List.length_cons, List.length_nil]; omega, fun q2 hq2 => ?_⟩
    have s3' := Same.new (o := .tup (td.map V.ref ++ [V.ref e])) hq2
    have s3 := s2.trans s3'
    have f2 : upd H2 q2 (.tup (td.map V.ref ++ [V.ref e])) q2 = some (.tup (td.map V.ref ++ [V.ref e])) := upd_same
    generalize upd H2 q2 (.tup (td.map V.ref ++ [V.ref e])) = H3 at s3' s3 f2
    refine ⟨_, rfl, e, _, _, _, rfl, rfl, .inl (.inl (s3 _ _ he)), rfl, (by show 3 ≤ sizeLine; decide), fun q3 hq3 => ?_⟩
    have s4' := Same.new (o := .tup [.ref q1, .ref q2, .ref sa]) hq3
    have s4 := s3.trans s4'
    have f3 : upd H3 q3 (.tup [.ref q1, .ref q2, .ref sa]) q3 = some (.tup [.ref q1, .ref q2, .ref sa]) := upd_same
    generalize upd H3 q3 (.tup [.ref q1, .ref q2, .ref sa]) = H4 at s4' s4 f3
    replace f1 := s4' _ _ (s3' _ _ f1)
    replace f2 := s4' _ _ f2
    have p4 := s4 _ _ h1
    refine ⟨q3, _, rfl, .inl (.inl f3), rfl, _, _, rfl, _, rfl, p, C_LivePost, dx, _, rfl, p4, T.cl_LivePost, T.n_LivePost_undone, (by show 7 < 1000; decide), ?_⟩
    generalize eH : upd H4 p _ = H5
    have p5 : H5 p = some (.ins C_LivePost dx (lpf sc d q1 ks kd ku)) := by rw [← eH, upd_same]; rfl
    have g5 : ∀ b v, H4 b = some v → b ≠ p → H5 b = some v := fun b v e nb => by rw [← eH, upd_ne nb]; exact e
    clear eH
    refine ⟨_, _, rfl, _, rfl, p, C_LivePost, dx, _, rfl, p5, T.cl_LivePost, T.n_LivePost_done, (by show 7 < 1000; decide), ?_⟩
    generalize eH : upd H5 p _ = H6
    have p6 : H6 p = some (.ins C_LivePost dx (lpf sc q2 q1 ks kd ku)) := by rw [← eH, upd_same]; rfl
    have g6 : ∀ b v, H5 b = some v → b ≠ p → H6 b = some v := fun b v e nb => by rw [← eH, upd_ne nb]; exact e
    clear eH
    refine ⟨_, _, rfl, _, rfl, p, C_LivePost, dx, _, rfl, p6, T.cl_LivePost, T.n_LivePost_scene, (by show 7 < 1000; decide), rfl, ?_⟩
    generalize eH : upd H6 p _ = H7
    have p7 : H7 p = some (.ins C_LivePost dx (lpf sa q2 q1 ks kd ku)) := by rw [← eH, upd_same]; rfl
    have g7 : ∀ b v, H6 b = some v → b ≠ p → H7 b = some v := fun b v e nb => by rw [← eH, upd_ne nb]; exact e
    clear eH
    have g47 : ∀ b v, H4 b = some v → b ≠ p → H7 b = some v := fun b v e nb => g7 _ _ (g6 _ _ (g5 _ _ e nb) nb) nb
    have g07 : ∀ b v, H b = some v → b ≠ p → H7 b = some v := fun b v e nb => g47 _ _ (s4 _ _ e) nb
    have kb : KB K C_Book H H7 := KB.live h1 g07
    have F1 : H7 q1 = some (.tup (ts.map V.ref)) := g47 _ _ f1 (ne_of f1 p4 (by intro z; cases z))
    have F2 : H7 q2 = some (.tup ((td ++ [e]).map V.ref)) := by
      rw [List.map_append]
      exact g47 _ _ f2 (ne_of f2 p4 (by intro z; cases z))
    have D1 : DoAt K C_Book H7 q1 un := ⟨ts, F1, PySem.Paired.mono (fun _ _ e => e.keep kb) Pts⟩
    have D2 : DoAt K C_Book H7 q2 (dn ++ [(B, A')]) := ⟨td ++ [e], F2, Paired.append (PySem.Paired.mono (fun _ _ e => e.keep kb) Pd) (.cons (EnAt.keep ⟨op, sb, sa, he, hb, ha⟩ kb) .nil)⟩
    exact kk _ ⟨dx, sa, q2, q1, ks, kd, ku, p7, ha.keep kb, D2, D1⟩ g07
end

end MF
set_option Elab.async false
set_option linter.all false
set_option maxRecDepth 100000
set_option maxHeartbeats 2000000
set_option pp.maxSteps 600
namespace MF
open PySem PySem.Spec PyProof.Rows L2 StX
section
variable {P : Program} {w : World} {K : PySem.W.Frag} {mg : Str → Option Value} {base : Heap} {C_Book C_Letter C_LivePost : Addr}
def pickR (b : Bool) (rows : List LRow) (n : Nat) : List (Nat × Str × Int) := (List.range n).filterMap fun i => rows[i]?.bind fun x => if x.2.2 = b then some (i, x.1, x.2.1) else none
theorem pickR_step {b : Bool} {rows : List LRow} {n : Nat} {x : LRow} (h : rows[n]? = some x) : pickR b rows (n + 1) = pickR b rows n ++ (if x.2.2 = b then [(n, x.1, x.2.1)] else []) := by
  unfold pickR
  rw [List.range_succ, List.filterMap_append]
  congr 1
  show [n].filterMap _ = _
  by_cases c : x.2.2 = b
  · simp [h, c]
  · simp [h, c]
def NumAt (H : Hp) (ps : List Addr) (xs : List (Nat × Str × Int)) : Prop := PySem.Paired (fun p (y : Nat × Str × Int) => H p = some (.tup [.int (y.1 : Nat), .str y.2.1, .int y.2.2])) ps xs
theorem NumAt.keep {H H' : Hp} {ps : List Addr} {xs : List (Nat × Str × Int)} (h : NumAt H ps xs) (k : ∀ b u, H b = some u → tupl u = true → H' b = some u) : NumAt H' ps xs := PySem.Paired.mono (fun _ _ e => k _ _ e rfl) h
def spPick (b : Bool) (K : PySem.W.Frag) (CB CL : Addr) : Sp := fun vs H Q _ => ∃ p S dn un, vs = [.ref p] ∧ LivAt K CB CL H p S dn un ∧ S.rows.length ≤ 1000 ∧
  ∀ H' l ps, Same H H' → H l = none → H' l = some (.lst (ps.map V.ref)) → NumAt H' ps (pickR b S.rows S.rows.length) → Q (.ref l) H'
def spHistory (K : PySem.W.Frag) (CB CL : Addr) : Sp := fun vs H Q _ => ∃ p S dn un, vs = [.ref p] ∧ LivAt K CB CL H p S dn un ∧ dn.length ≤ 1000 ∧
  ∀ H' l xs, Same H H' → H l = none → H' l = some (.lst xs) → xs.length = dn.length → Q (.ref l) H'
theorem ok_history (T : Top K mg C_Book C_Letter C_LivePost) : PFn P w K mg base CX0 1 C_LivePost "history" (spHistory K C_Book C_LivePost) := by
  refine T.d_LivePost_history.fn fun f fd F => F.ok sc_LivePost_history (fun vs H Q E h => ?_) (fun cdv A outer s H vs Q E hr h => ?_)
  · obtain ⟨p, S, dn, un, rfl, _⟩ := h
    rfl
  · obtain ⟨p, S, dn, un, rfl, ⟨dx, sc, d, u, ks, kd, ku, h1, hs, ⟨ts, h3, Pt⟩, h4⟩, l1000, kk⟩ := h
    refine ⟨_, (pss_one (ps_ret (pe_lc (own := [("operation", 1), ("before", 2), ("after", 3)]) (g := (gTup K 3 (gCons (gName 1) (gCons (gName 2) (gCons (gName 3) gNil))))) (by rfl) sc_LivePost_history.nd (pi_tup (pe_fld (pv 0) rfl)) (blkOk_by (own := [("operation", 1), ("before", 2), ("after", 3)]) (N := ["self", "operation", "before", "after"]) (sc := defScope s_LivePost_history) (by decide +kernel)) (fun _ _ _ _ _ => (pg_tup rfl (pgs_cons (pg_name (i := 1) sc_LivePost_history.nd rfl (Or.inl rfl)) (pgs_cons (pg_name (i := 2) sc_LivePost_history.nd rfl (Or.inl rfl)) (pgs_cons (pg_name (i := 3) sc_LivePost_history.nd rfl (Or.inl rfl)) pgs_nil))))) (fun _ _ _ _ _ => pts_nil) (fun _ _ _ _ _ => (pv 1))))), ?_⟩
    have hl : ts.length = dn.length := PySem.Paired.length Pt
    refine ⟨_, rfl, p, C_LivePost, dx, _, _, rfl, h1, T.cl_LivePost, T.n_LivePost_done, rfl, d, rfl, ⟨_, .inl (.inl h3)⟩, fun D hD => ?_⟩
    refine lc_it (walk_tup (xs := ts.map V.ref)) (fun i H' => Same H H' ∧ ∃ xs, H' D = some (.lst xs) ∧ xs.length = i) ⟨Same.new hD, [], upd_same, rfl⟩ (fun i H' _ ⟨s1, _⟩ => .inl (.inl (s1 _ _ h3))) ?_ ?_
    · rintro i y H2 H3 hi ⟨s2, xs, e2, lx⟩ ⟨rfl, ey⟩
      rw [List.length_map] at hi
      obtain ⟨t, et⟩ : ∃ t, ts[i]? = some t := ⟨ts[i], by simp [hi]⟩
      rw [List.getElem?_map, et] at ey
      cases ey
      obtain ⟨x, _, op, a, b, en, _⟩ := Paired.get Pt et
      refine ⟨t, _, rfl, .inl (.inl (s2 _ _ en)), rfl, _, _, rfl, _, _, rfl, _, _, rfl, rfl, rfl, yesT (iteT ?_)⟩
      refine ⟨_, rfl, _, e2, by rw [lx, sizeLine_eq]; omega, fun b u e => ?_, xs ++ [op], ?_, by rw [List.length_append, lx]; rfl⟩
      · rw [upd_ne (ne_of_none e hD)]
        exact s2 _ _ e
      · exact upd_same
    · rintro H2 ⟨s2, xs, e2, lx⟩
      rw [List.length_map, hl] at lx
      exact kk _ D xs s2 hD e2 lx
theorem ok_resting (T : Top K mg C_Book C_Letter C_LivePost) : PFn P w K mg base CX0 1 C_LivePost "resting" (spPick true K C_Book C_LivePost) := by
  refine T.d_LivePost_resting.fn fun f fd F => F.ok sc_LivePost_resting (fun vs H Q E h => ?_) (fun cdv A outer s H vs Q E hr h => ?_)
  · obtain ⟨p, S, dn, un, rfl, _⟩ := h
    rfl
  · obtain ⟨p, S, dn, un, rfl, ⟨dx, sc, d, u, ks, kd, ku, h1, ⟨bk, lt, rs, a1, a2, a3, a4⟩, h3, h4⟩, l1000, kk⟩ := h
    refine ⟨_, (pss_one (ps_ret (pe_lc (own := [("number", 1), ("row", 2)]) (g := (gTup K 2 (gCons (gName 1) (gCons (gName 2) gNil)))) (by rfl) sc_LivePost_resting.nd (pi_enumT (by rfl) T.b_enumerate (pa_cons (pe_ix ix_tup (pe_fld (pv 0) rfl) pe_int (fun _ _ => rfl)) pa_nil)) (blkOk_by (own := [("number", 1), ("row", 2)]) (N := ["self", "number", "row"]) (sc := defScope s_LivePost_resting) (by decide +kernel)) (fun _ _ _ _ _ => (pg_tup rfl (pgs_cons (pg_name (i := 1) sc_LivePost_resting.nd rfl (Or.inl rfl)) (pgs_cons (pg_name (i := 2) sc_LivePost_resting.nd rfl (Or.inl rfl)) pgs_nil)))) (fun _ _ _ _ _ => (pts_one (pt_val (pe_ix (ix_tupK (K := K)) (pv 2) pe_int (fun _ _ => rfl))))) (fun _ _ _ _ _ => (pe_tup (pa_cons (pv 1) (pa_cons (pe_ix (ix_tupK (K := K)) (pv 2) pe_int (fun _ _ => rfl)) (pa_cons (pe_ix (ix_tupK (K := K)) (pv 2) pe_int (fun _ _ => rfl)) pa_nil)))))))), ?_⟩
    have hl : rs.length = S.rows.length := PySem.Paired.length a4
    have gt : ∀ {H' : Hp}, Same H H' → SqT K H' lt (rs.map V.ref) := fun s' => .inl (.inl (s' _ _ a3))
    refine ⟨_, rfl, p, C_LivePost, dx, _, _, rfl, h1, T.cl_LivePost, T.n_LivePost_scene, rfl, sc, _, _, _, rfl, rfl, .inl (.inl a1), rfl, lt, _, rfl, gt (Same.refl H), fun D hD => ?_⟩
    refine lc_it walk_enumT (fun j H' => Same H H' ∧ ∃ ps, H' D = some (.lst (ps.map V.ref)) ∧ NumAt H' ps (pickR true S.rows j) ∧ ps.length ≤ j) ⟨Same.new hD, [], upd_same, .nil, Nat.le_refl _⟩ (fun j H' _ ⟨s1, _⟩ => gt s1) ?_ ?_
    · rintro j y H2 H3 hj ⟨s2, ps, e2, N2, lp⟩ ⟨q, z1, z2, rfl, hq, rfl, ez1, ez2⟩
      cases ez1
      rw [List.length_map] at hj
      obtain ⟨r, er⟩ : ∃ r, rs[j]? = some r := ⟨rs[j], by simp [hj]⟩
      replace ez2 : (rs.map V.ref)[j]? = some z2 := ez2
      rw [List.getElem?_map, er] at ez2
      cases ez2
      obtain ⟨x, ex, hx⟩ := Paired.get a4 er
      have s3 := Same.new (o := .tup [.int (j : Nat), .ref r]) hq
      have s13 := s2.trans s3
      have e3 := s3 _ _ e2
      have N3 := N2.keep fun b u e _ => s3 _ _ e
      refine ⟨q, _, rfl, .inl (.inl upd_same), rfl, _, _, rfl, _, _, rfl, rfl, rfl, ?_⟩
      generalize upd H2 q (.tup [.int (j : Nat), .ref r]) = H3 at s3 s13 e3 N3
      refine ⟨_, rfl, r, _, _, _, rfl, rfl, .inl (.inl (s13 _ _ hx)), rfl, _, rfl, ?_⟩
      have yes : x.2.2 = true → ∀ t, H3 t = none → (upd (upd H3 t (.tup [.int (j : Nat), .str x.1, .int x.2.1])) D (.lst (ps.map V.ref ++ [.ref t]))) D = some (.lst ((ps ++ [t]).map V.ref)) ∧ NumAt (upd (upd H3 t (.tup [.int (j : Nat), .str x.1, .int x.2.1])) D (.lst (ps.map V.ref ++ [.ref t]))) (ps ++ [t]) (pickR true S.rows (j + 1)) ∧ Same H (upd (upd H3 t (.tup [.int (j : Nat), .str x.1, .int x.2.1])) D (.lst (ps.map V.ref ++ [.ref t]))) ∧ (upd H3 t (.tup [.int (j : Nat), .str x.1, .int x.2.1])) D = some (.lst (ps.map V.ref)) := fun c t ht => by
        have nDt : D ≠ t := ne_of_none e3 ht
        refine ⟨by rw [upd_same, List.map_append]; rfl, ?_, fun b u e => ?_, by rw [upd_ne nDt]; exact e3⟩
        · rw [pickR_step ex, if_pos c]
          refine Paired.append (N3.keep fun b u e y => ?_) (.cons ?_ .nil)
          · rw [upd_ne (fun w => by rw [w, e3] at e; cases e; cases y), upd_ne (ne_of_none e ht)]
            exact e
          · rw [upd_ne nDt.symm, upd_same]
        · rw [upd_ne (ne_of_none e hD), upd_ne (ne_of_none (s13 _ _ e) ht)]
          exact s13 _ _ e
      have no : x.2.2 ≠ true → Same H H3 ∧ ∃ ps, H3 D = some (.lst (ps.map V.ref)) ∧ NumAt H3 ps (pickR true S.rows (j + 1)) ∧ ps.length ≤ j + 1 := fun c => ⟨s13, ps, e3, by rw [pickR_step ex, if_neg c, List.append_nil]; exact N3, by omega⟩
      have take : ∀ c : x.2.2 = true, ∀ t, H3 t = none → ∃ xs, (upd H3 t (.tup [.int (j : Nat), .str x.1, .int x.2.1])) D = some (.lst xs) ∧ xs.length < sizeLine ∧ (Same H (upd (upd H3 t (.tup [.int (j : Nat), .str x.1, .int x.2.1])) D (.lst (xs ++ [.ref t]))) ∧ ∃ ps, (upd (upd H3 t (.tup [.int (j : Nat), .str x.1, .int x.2.1])) D (.lst (xs ++ [.ref t]))) D = some (.lst (ps.map V.ref)) ∧ NumAt (upd (upd H3 t (.tup [.int (j : Nat), .str x.1, .int x.2.1])) D (.lst (xs ++ [.ref t]))) ps (pickR true S.rows (j + 1)) ∧ ps.length ≤ j + 1) := fun c t ht => by
        obtain ⟨y1, y2, y3, y4⟩ := yes c t ht
        exact ⟨_, y4, by rw [List.length_map, sizeLine_eq]; omega, y3, ps ++ [t], y1, y2, by rw [List.length_append]; simp only [List.length_cons, List.length_nil]; omega⟩
      cases c : x.2.2 with
      | true =>
        refine iteT ?_
        refine ⟨_, rfl, _, rfl, r, _, _, _, rfl, rfl, .inl (.inl (s13 _ _ hx)), rfl, _, rfl, r, _, _, _, rfl, rfl, .inl (.inl (s13 _ _ hx)), rfl, (by show 3 ≤ sizeLine; decide), fun t ht => take c t ht⟩
      | false =>
        refine iteF ?_
        exact no (by rw [c]; decide)
    · rintro H2 ⟨s2, ps, e2, N2, _⟩
      rw [List.length_map, hl] at N2
      exact kk _ D ps s2 hD e2 N2
theorem ok_under_way (T : Top K mg C_Book C_Letter C_LivePost) : PFn P w K mg base CX0 1 C_LivePost "under_way" (spPick false K C_Book C_LivePost) := by
  refine T.d_LivePost_under_way.fn fun f fd F => F.ok sc_LivePost_under_way (fun vs H Q E h => ?_) (fun cdv A outer s H vs Q E hr h => ?_)
  · obtain ⟨p, S, dn, un, rfl, _⟩ := h
    rfl
  · obtain ⟨p, S, dn, un, rfl, ⟨dx, sc, d, u, ks, kd, ku, h1, ⟨bk, lt, rs, a1, a2, a3, a4⟩, h3, h4⟩, l1000, kk⟩ := h
    refine ⟨_, (pss_one (ps_ret (pe_lc (own := [("number", 1), ("row", 2)]) (g := (gTup K 2 (gCons (gName 1) (gCons (gName 2) gNil)))) (by rfl) sc_LivePost_under_way.nd (pi_enumT (by rfl) T.b_enumerate (pa_cons (pe_ix ix_tup (pe_fld (pv 0) rfl) pe_int (fun _ _ => rfl)) pa_nil)) (blkOk_by (own := [("number", 1), ("row", 2)]) (N := ["self", "number", "row"]) (sc := defScope s_LivePost_under_way) (by decide +kernel)) (fun _ _ _ _ _ => (pg_tup rfl (pgs_cons (pg_name (i := 1) sc_LivePost_under_way.nd rfl (Or.inl rfl)) (pgs_cons (pg_name (i := 2) sc_LivePost_under_way.nd rfl (Or.inl rfl)) pgs_nil)))) (fun _ _ _ _ _ => (pts_one (pt_not (pt_val (pe_ix (ix_tupK (K := K)) (pv 2) pe_int (fun _ _ => rfl)))))) (fun _ _ _ _ _ => (pe_tup (pa_cons (pv 1) (pa_cons (pe_ix (ix_tupK (K := K)) (pv 2) pe_int (fun _ _ => rfl)) (pa_cons (pe_ix (ix_tupK (K := K)) (pv 2) pe_int (fun _ _ => rfl)) pa_nil)))))))), ?_⟩
    have hl : rs.length = S.rows.length := PySem.Paired.length a4
    have gt : ∀ {H' : Hp}, Same H H' → SqT K H' lt (rs.map V.ref) := fun s' => .inl (.inl (s' _ _ a3))
    refine ⟨_, rfl, p, C_LivePost, dx, _, _, rfl, h1, T.cl_LivePost, T.n_LivePost_scene, rfl, sc, _, _, _, rfl, rfl, .inl (.inl a1), rfl, lt, _, rfl, gt (Same.refl H), fun D hD => ?_⟩
    refine lc_it walk_enumT (fun j H' => Same H H' ∧ ∃ ps, H' D = some (.lst (ps.map V.ref)) ∧ NumAt H' ps (pickR false S.rows j) ∧ ps.length ≤ j) ⟨Same.new hD, [], upd_same, .nil, Nat.le_refl _⟩ (fun j H' _ ⟨s1, _⟩ => gt s1) ?_ ?_
    · rintro j y H2 H3 hj ⟨s2, ps, e2, N2, lp⟩ ⟨q, z1, z2, rfl, hq, rfl, ez1, ez2⟩
      cases ez1
      rw [List.length_map] at hj
      obtain ⟨r, er⟩ : ∃ r, rs[j]? = some r := ⟨rs[j], by simp [hj]⟩
      replace ez2 : (rs.map V.ref)[j]? = some z2 := ez2
      rw [List.getElem?_map, er] at ez2
      cases ez2
      obtain ⟨x, ex, hx⟩ := Paired.get a4 er
      have s3 := Same.new (o := .tup [.int (j : Nat), .ref r]) hq
      have s13 := s2.trans s3
      have e3 := s3 _ _ e2
      have N3 := N2.keep fun b u e _ => s3 _ _ e
      refine ⟨q, _, rfl, .inl (.inl upd_same), rfl, _, _, rfl, _, _, rfl, rfl, rfl, ?_⟩
      generalize upd H2 q (.tup [.int (j : Nat), .ref r]) = H3 at s3 s13 e3 N3
      refine ⟨_, rfl, r, _, _, _, rfl, rfl, .inl (.inl (s13 _ _ hx)), rfl, _, rfl, ?_⟩
      have yes : x.2.2 = false → ∀ t, H3 t = none → (upd (upd H3 t (.tup [.int (j : Nat), .str x.1, .int x.2.1])) D (.lst (ps.map V.ref ++ [.ref t]))) D = some (.lst ((ps ++ [t]).map V.ref)) ∧ NumAt (upd (upd H3 t (.tup [.int (j : Nat), .str x.1, .int x.2.1])) D (.lst (ps.map V.ref ++ [.ref t]))) (ps ++ [t]) (pickR false S.rows (j + 1)) ∧ Same H (upd (upd H3 t (.tup [.int (j : Nat), .str x.1, .int x.2.1])) D (.lst (ps.map V.ref ++ [.ref t]))) ∧ (upd H3 t (.tup [.int (j : Nat), .str x.1, .int x.2.1])) D = some (.lst (ps.map V.ref)) := fun c t ht => by
        have nDt : D ≠ t := ne_of_none e3 ht
        refine ⟨by rw [upd_same, List.map_append]; rfl, ?_, fun b u e => ?_, by rw [upd_ne nDt]; exact e3⟩
        · rw [pickR_step ex, if_pos c]
          refine Paired.append (N3.keep fun b u e y => ?_) (.cons ?_ .nil)
          · rw [upd_ne (fun w => by rw [w, e3] at e; cases e; cases y), upd_ne (ne_of_none e ht)]
            exact e
          · rw [upd_ne nDt.symm, upd_same]
        · rw [upd_ne (ne_of_none e hD), upd_ne (ne_of_none (s13 _ _ e) ht)]
          exact s13 _ _ e
      have no : x.2.2 ≠ false → Same H H3 ∧ ∃ ps, H3 D = some (.lst (ps.map V.ref)) ∧ NumAt H3 ps (pickR false S.rows (j + 1)) ∧ ps.length ≤ j + 1 := fun c => ⟨s13, ps, e3, by rw [pickR_step ex, if_neg c, List.append_nil]; exact N3, by omega⟩
      have take : ∀ c : x.2.2 = false, ∀ t, H3 t = none → ∃ xs, (upd H3 t (.tup [.int (j : Nat), .str x.1, .int x.2.1])) D = some (.lst xs) ∧ xs.length < sizeLine ∧ (Same H (upd (upd H3 t (.tup [.int (j : Nat), .str x.1, .int x.2.1])) D (.lst (xs ++ [.ref t]))) ∧ ∃ ps, (upd (upd H3 t (.tup [.int (j : Nat), .str x.1, .int x.2.1])) D (.lst (xs ++ [.ref t]))) D = some (.lst (ps.map V.ref)) ∧ NumAt (upd (upd H3 t (.tup [.int (j : Nat), .str x.1, .int x.2.1])) D (.lst (xs ++ [.ref t]))) ps (pickR false S.rows (j + 1)) ∧ ps.length ≤ j + 1) := fun c t ht => by
        obtain ⟨y1, y2, y3, y4⟩ := yes c t ht
        exact ⟨_, y4, by rw [List.length_map, sizeLine_eq]; omega, y3, ps ++ [t], y1, y2, by rw [List.length_append]; simp only [List.length_cons, List.length_nil]; omega⟩
      cases c : x.2.2 with
      | false =>
        refine iteT ?_
        refine ⟨_, rfl, _, rfl, r, _, _, _, rfl, rfl, .inl (.inl (s13 _ _ hx)), rfl, _, rfl, r, _, _, _, rfl, rfl, .inl (.inl (s13 _ _ hx)), rfl, (by show 3 ≤ sizeLine; decide), fun t ht => take c t ht⟩
      | true =>
        refine iteF ?_
        exact no (by rw [c]; decide)
    · rintro H2 ⟨s2, ps, e2, N2, _⟩
      rw [List.length_map, hl] at N2
      exact kk _ D ps s2 hD e2 N2
end

end MF
set_option Elab.async false
set_option linter.all false
set_option maxRecDepth 100000
set_option maxHeartbeats 2000000
set_option pp.maxSteps 600
namespace MF
open PySem PySem.Spec PyProof.Rows L2 StX
section
variable {P : Program} {w : World} {K : PySem.W.Frag} {mg : Str → Option Value} {base : Heap} {C_Book C_Letter C_LivePost : Addr}
def spPost (K : PySem.W.Frag) (CB CL : Addr) : Sp := fun vs H Q _ => ∃ p S dn un x, vs = [.ref p, .str x] ∧ LivAt K CB CL H p S dn un ∧ isAddrB (.str x) = true ∧ Good S.os ∧ S.rows.length < 1000 ∧ dn.length < 1000 ∧
  ∀ H' t r, At S.os S.day (x, S.day) t r → LivAt K CB CL H' p ⟨S.day, S.os, S.rows ++ [(t.1, t.2, r)]⟩ (dn ++ [(S, ⟨S.day, S.os, S.rows ++ [(t.1, t.2, r)]⟩)]) [] → (∀ b u, H b = some u → b ≠ p → H' b = some u) → Q (.int (S.rows.length : Nat)) H'
theorem ok_post (T : Top K mg C_Book C_Letter C_LivePost) : MFn P w K mg base CX0 3 C_LivePost "post" (spPost K C_Book C_LivePost) := by
  have G_is_address : GFn P w K mg base CX0 1 "is_address" spIsAddress := ok_is_address T
  have G_sent_on : GFn P w K mg base CX0 2 "sent_on" (spSentOn K C_Book) := ok_sent_on T
  have M_LivePost_enter : MFn P w K mg base CX0 1 C_LivePost "enter" (spEnter K C_Book C_LivePost) := ok_enter T
  refine T.d_LivePost_post.fn fun f fd F => F.ok sc_LivePost_post (fun vs H Q E h => ?_) (fun cdv A outer s H vs Q E hr h => ?_)
  · obtain ⟨p, S, dn, un, x, rfl, _⟩ := h
    rfl
  · obtain ⟨p, S, dn, un, x, rfl, L0, ax, g, lr, ld, kk⟩ := h
    refine ⟨_, (pss_cons (ps_if (pt_not (pt_val (pe_g G_is_address (hr.mono (by decide)) (pa_cons (pv 1) pa_nil))))
  (pss_one ps_never)
  pss_nil)
  (pss_cons (ps_asg (pe_fld (pv 0) rfl) (pg_tup rfl (pgs_cons (pg_name (i := 2) sc_LivePost_post.nd rfl (Or.inl rfl)) (pgs_cons (pg_name (i := 3) sc_LivePost_post.nd rfl (Or.inl rfl)) (pgs_cons (pg_name (i := 4) sc_LivePost_post.nd rfl (Or.inl rfl)) pgs_nil)))))
  (pss_cons (ps_expr (pe_m M_LivePost_enter T.cl_LivePost (hr.mono (by decide)) (pv 0) (pa_cons (pe_tup (pa_cons pe_str (pa_cons (pv 1) pa_nil))) (pa_cons (pe_tup (pa_cons (pv 2) (pa_cons (pv 3) (pa_cons (pe_tup (pa_star (pv 4) (pa_cons (pe_g G_sent_on (hr.mono (by decide)) (pa_cons (pv 3) (pa_cons (pv 1) (pa_cons (pv 2) (pa_cons (pv 2) pa_nil))))) pa_nil))) pa_nil)))) pa_nil))))
  (pss_one (ps_ret (pe_callB call_len_seq (by rfl) T.b_len (by decide +kernel) (pa_cons (pv 4) pa_nil))))))), ?_⟩
    refine ⟨_, rfl, _, rfl, rfl, Nat.le_trans (isAddr_short ax) (by decide), fun H1 s1 => ⟨_, rfl, ?_⟩⟩
    rw [ax]
    refine iteF ?_
    have L1 := L0.same s1
    obtain ⟨dx, sc, d, u, ks, kd, ku, h1, ⟨bk, lt, rs, a1, a2, a3, a4⟩, h3, h4⟩ := id L1
    have hl : rs.length = S.rows.length := PySem.Paired.length a4
    refine ⟨_, rfl, p, C_LivePost, dx, _, _, rfl, h1, T.cl_LivePost, T.n_LivePost_scene, rfl, sc, _, rfl, .inl (.inl a1), rfl, _, _, rfl, _, _, rfl, _, _, rfl, rfl, ?_⟩
    refine ⟨_, rfl, p, dx, _, rfl, h1, rfl, _, rfl, (by show 2 ≤ sizeLine; decide), fun q1 hq1 => ?_⟩
    have s2 := Same.new (o := .tup [.str "post", .str x]) hq1
    generalize upd H1 q1 (.tup [.str "post", .str x]) = H2 at s2
    refine ⟨_, rfl, _, rfl, _, rfl, lt, _, rfl, .inl (.inl (.inl (s2 _ _ a3))), ?_⟩
    refine ⟨_, rfl, _, rfl, _, rfl, _, rfl, bk, S.os, x, S.day, S.day, rfl, a2.mono s2, g, fun H3 q t r s3 f3 e3 at3 => ?_⟩
    refine ⟨by rw [List.length_append, List.length_map, sizeLine_eq]; simp only [List.length_cons, List.length_nil]; omega, fun q2 hq2 => ?_⟩
    have s4 := Same.new (o := .tup (rs.map V.ref ++ [V.ref q])) hq2
    have f2 : upd H3 q2 (.tup (rs.map V.ref ++ [V.ref q])) q2 = some (.tup (rs.map V.ref ++ [V.ref q])) := upd_same
    generalize upd H3 q2 (.tup (rs.map V.ref ++ [V.ref q])) = H4 at s4 f2
    refine ⟨(by show 3 ≤ sizeLine; decide), fun q3 hq3 => ?_⟩
    have s5 := Same.new (o := .tup [.int S.day, .ref bk, .ref q2]) hq3
    have f3' : upd H4 q3 (.tup [.int S.day, .ref bk, .ref q2]) q3 = some (.tup [.int S.day, .ref bk, .ref q2]) := upd_same
    generalize upd H4 q3 (.tup [.int S.day, .ref bk, .ref q2]) = H5 at s5 f3'
    have s15 : Same H1 H5 := ((s2.trans s3).trans s4).trans s5
    have A5 : SceneAt K C_Book H5 q3 ⟨S.day, S.os, S.rows ++ [(t.1, t.2, r)]⟩ := ⟨bk, q2, rs ++ [q], f3', a2.mono s15, by rw [List.map_append]; exact s5 _ _ f2, Paired.append (a4.keep fun b u e _ => s15 _ _ e) (.cons (s5 _ _ (s4 _ _ e3)) .nil)⟩
    refine ⟨p, S, dn, un, _, q3, _, rfl, L1.same s15, A5, ld, fun H6 L6 k6 => ?_⟩
    have h15 := s15 _ _ h1
    have a36 : H6 lt = some (.tup (rs.map V.ref)) := k6 _ _ (s15 _ _ a3) (ne_of a3 h1 (by intro z; cases z))
    refine ⟨_, rfl, lt, _, rfl, .inr (.inl (.inl a36)), ?_⟩
    rw [List.length_map, hl]
    exact kk _ t r at3 L6 fun b u e nb => k6 _ _ (s15 _ _ (s1 _ _ e)) nb
def spGive (K : PySem.W.Frag) (CB CL : Addr) : Sp := fun vs H Q _ => ∃ p S dn un a o, vs = [.ref p, .ref a] ∧ LivAt K CB CL H p S dn un ∧ OrdAt K H a o ∧ Good (S.os ++ [o]) ∧ dn.length < 1000 ∧
  ∀ H', LivAt K CB CL H' p ⟨S.day, S.os ++ [o], S.rows⟩ (dn ++ [(S, ⟨S.day, S.os ++ [o], S.rows⟩)]) [] → (∀ b u, H b = some u → b ≠ p → H' b = some u) → Q (.int (S.os.length : Nat)) H'
theorem ok_give (T : Top K mg C_Book C_Letter C_LivePost) : MFn P w K mg base CX0 6 C_LivePost "give" (spGive K C_Book C_LivePost) := by
  have G_book_of : GFn P w K mg base CX0 5 "book_of" (spBookOf K C_Book) := ok_book_of T
  have M_LivePost_enter : MFn P w K mg base CX0 1 C_LivePost "enter" (spEnter K C_Book C_LivePost) := ok_enter T
  refine T.d_LivePost_give.fn fun f fd F => F.ok sc_LivePost_give (fun vs H Q E h => ?_) (fun cdv A outer s H vs Q E hr h => ?_)
  · obtain ⟨p, S, dn, un, a, o, rfl, _⟩ := h
    rfl
  · obtain ⟨p, S, dn, un, a, o, rfl, L1, oa, g, ld, kk⟩ := h
    refine ⟨_, (pss_cons (ps_asg (pe_fld (pv 0) rfl) (pg_tup rfl (pgs_cons (pg_name (i := 2) sc_LivePost_give.nd rfl (Or.inl rfl)) (pgs_cons (pg_name (i := 3) sc_LivePost_give.nd rfl (Or.inl rfl)) (pgs_cons (pg_name (i := 4) sc_LivePost_give.nd rfl (Or.inl rfl)) pgs_nil)))))
  (pss_cons (ps_set (i := 5) sc_LivePost_give.nd rfl (Or.inl rfl) (pe_g G_book_of (hr.mono (by decide)) (pa_cons (pe_lst (pa_star (pe_fld (pv 3) rfl) (pa_cons (pv 1) pa_nil))) pa_nil)))
  (pss_cons (ps_expr (pe_m M_LivePost_enter T.cl_LivePost (hr.mono (by decide)) (pv 0) (pa_cons (pe_tup (pa_cons pe_str (pa_cons (pv 1) pa_nil))) (pa_cons (pe_tup (pa_cons (pv 2) (pa_cons (pv 5) (pa_cons (pv 4) pa_nil)))) pa_nil))))
  (pss_one (ps_ret (pe_callB call_len_seq (by rfl) T.b_len (by decide +kernel) (pa_cons (pe_fld (pv 3) rfl) pa_nil))))))), ?_⟩
    obtain ⟨dx, sc, d, u, ks, kd, ku, h1, ⟨bk, lt, rs, a1, a2, a3, a4⟩, h3, h4⟩ := id L1
    obtain ⟨dy, tl, as, b1, b2, b3⟩ := id a2
    have hl : as.length = S.os.length := PySem.Paired.length b3
    have g30 := g.len
    rw [List.length_append] at g30
    refine ⟨_, rfl, p, C_LivePost, dx, _, _, rfl, h1, T.cl_LivePost, T.n_LivePost_scene, rfl, sc, _, rfl, .inl (.inl a1), rfl, _, _, rfl, _, _, rfl, _, _, rfl, rfl, ?_⟩
    refine ⟨_, rfl, bk, C_Book, dy, _, _, rfl, b1, T.cl_Book, T.n_Book_listed, rfl, tl, _, rfl, .inl b2, ?_⟩
    refine ⟨_, rfl, by rw [List.length_append, List.length_map, sizeLine_eq]; simp only [List.length_cons, List.length_nil] at *; omega, fun q1 hq1 => ?_⟩
    have s1 := Same.new (o := .lst (as.map V.ref ++ [V.ref a])) hq1
    have f1 : upd H q1 (.lst (as.map V.ref ++ [V.ref a])) q1 = some (.lst ((as ++ [a]).map V.ref)) := by rw [upd_same, List.map_append]; rfl
    generalize upd H q1 (.lst (as.map V.ref ++ [V.ref a])) = H1 at s1 f1
    refine ⟨q1, as ++ [a], S.os ++ [o], rfl, .inr (SqL.of f1), Paired.append (b3.mono s1) (.cons (OrdAt.mono oa s1) .nil), g, fun H2 bk2 s2 f2 B2 => ?_⟩
    refine ⟨_, rfl, p, dx, _, rfl, s2 _ _ (s1 _ _ h1), rfl, _, rfl, (by show 2 ≤ sizeLine; decide), fun q2 hq2 => ?_⟩
    have s3 := Same.new (o := .tup [.str "give", .ref a]) hq2
    generalize upd H2 q2 (.tup [.str "give", .ref a]) = H3 at s3
    refine ⟨_, rfl, _, rfl, _, rfl, (by show 3 ≤ sizeLine; decide), fun q3 hq3 => ?_⟩
    have s4 := Same.new (o := .tup [.int S.day, .ref bk2, .ref lt]) hq3
    have f3 : upd H3 q3 (.tup [.int S.day, .ref bk2, .ref lt]) q3 = some (.tup [.int S.day, .ref bk2, .ref lt]) := upd_same
    generalize upd H3 q3 (.tup [.int S.day, .ref bk2, .ref lt]) = H4 at s4 f3
    have s04 : Same H H4 := ((s1.trans s2).trans s3).trans s4
    have A4 : SceneAt K C_Book H4 q3 ⟨S.day, S.os ++ [o], S.rows⟩ := ⟨bk2, lt, rs, f3, B2.mono (s3.trans s4), s04 _ _ a3, a4.keep fun b u e _ => s04 _ _ e⟩
    refine ⟨p, S, dn, un, _, q3, _, rfl, L1.same s04, A4, ld, fun H6 L6 k6 => ?_⟩
    have kb : KB K C_Book H H6 := KB.live h1 fun b u e nb => k6 _ _ (s04 _ _ e) nb
    obtain ⟨dz, tl2, as2, c1, c2, c3⟩ := kb.book _ _ a2
    have hl2 : as2.length = S.os.length := PySem.Paired.length c3
    refine ⟨_, rfl, bk, C_Book, dz, _, _, rfl, c1, T.cl_Book, T.n_Book_listed, rfl, tl2, _, rfl, .inr c2, ?_⟩
    rw [List.length_map, hl2]
    exact kk _ L6 fun b u e nb => k6 _ _ (s04 _ _ e) nb
end

end MF
set_option Elab.async false
set_option linter.all false
set_option maxRecDepth 100000
set_option maxHeartbeats 2000000
set_option pp.maxSteps 600
namespace MF
open PySem PySem.Spec PyProof.Rows L2 StX
section
variable {P : Program} {w : World} {K : PySem.W.Frag} {mg : Str → Option Value} {base : Heap} {C_Book C_Letter C_LivePost : Addr}
theorem perm_lift {α β : Type} {f : α → β} {ys m : List β} (p : ys.Perm m) : ∀ {l : List α}, l.map f = m → ∃ l' : List α, ys = l'.map f ∧ l'.Perm l := by
  induction p with
  | nil => intro l h; exact ⟨[], rfl, by rw [List.map_eq_nil_iff.mp h]⟩
  | cons x p ih =>
    intro l h
    cases l with
    | nil => cases h
    | cons a l =>
      injection h with h1 h2
      obtain ⟨l', e, q⟩ := ih h2
      exact ⟨a :: l', by rw [e, ← h1]; rfl, q.cons a⟩
  | swap x y t =>
    intro l h
    match l, h with
    | a :: b :: l, h =>
      injection h with h1 h2
      injection h2 with h3 h4
      exact ⟨b :: a :: l, by rw [← h1, ← h3, ← h4]; rfl, .swap a b l⟩
  | trans p q ihp ihq =>
    intro l h
    obtain ⟨l1, e1, q1⟩ := ihq h
    obtain ⟨l2, e2, q2⟩ := ihp e1.symm
    exact ⟨l2, e2, q2.trans q1⟩
def Passed (os : List Ordr) (td : Int) (rows rows' : List LRow) : Prop := PySem.Paired (fun (x y : LRow) => (x.2.2 = true ∧ y = x) ∨ (x.2.2 = false ∧ At os td (x.1, x.2.1) (y.1, y.2.1) y.2.2)) rows rows'
def newR (rows rows' : List LRow) (n : Nat) : List Nat := (List.range n).filter fun i => ((rows'[i]?.map fun y => y.2.2).getD false) && !((rows[i]?.map fun x => x.2.2).getD true)
theorem newR_step {rows rows' : List LRow} {n : Nat} {x y : LRow} (h : rows[n]? = some x) (h' : rows'[n]? = some y) : newR rows rows' (n + 1) = newR rows rows' n ++ (if (y.2.2 && !x.2.2) = true then [n] else []) := by
  unfold newR
  rw [List.range_succ, List.filter_append]
  congr 1
  rw [List.filter_cons, h, h']
  rfl
def spPass (K : PySem.W.Frag) (CB CL : Addr) : Sp := fun vs H Q _ => ∃ p S dn un c, vs = [.ref p, .int c] ∧ LivAt K CB CL H p S dn un ∧ 0 ≤ c ∧ c ≤ 400 ∧ Good S.os ∧ S.rows.length ≤ 1000 ∧ dn.length < 1000 ∧
  ∀ H' l rows', ∀ ns : List Nat, Passed S.os (S.day + c) S.rows rows' → LivAt K CB CL H' p ⟨S.day + c, S.os, rows'⟩ (dn ++ [(S, ⟨S.day + c, S.os, rows'⟩)]) [] → H l = none → H' l = some (.lst (ns.map fun (i : Nat) => V.int (i : Nat))) → ns.Perm (newR S.rows rows' S.rows.length) → (∀ b u, H b = some u → b ≠ p → H' b = some u) → Q (.ref l) H'
theorem ok_pass (T : Top K mg C_Book C_Letter C_LivePost) : MFn P w K mg base CX0 3 C_LivePost "pass_days" (spPass K C_Book C_LivePost) := by
  have G_is_integer : GFn P w K mg base CX0 1 "is_integer" spIsInteger := ok_is_integer T
  have G_sent_on : GFn P w K mg base CX0 2 "sent_on" (spSentOn K C_Book) := ok_sent_on T
  have M_LivePost_enter : MFn P w K mg base CX0 1 C_LivePost "enter" (spEnter K C_Book C_LivePost) := ok_enter T
  refine T.d_LivePost_pass_days.fn fun f fd F => F.ok sc_LivePost_pass_days (fun vs H Q E h => ?_) (fun cdv A outer s H vs Q E hr h => ?_)
  · obtain ⟨p, S, dn, un, c, rfl, _⟩ := h
    rfl
  · obtain ⟨p, S, dn, un, c, rfl, L1, c0, c4, g, lr, ld, kk⟩ := h
    refine ⟨_, (pss_cons (ps_if (pt_not (pt_val (pe_g G_is_integer (hr.mono (by decide)) (pa_cons (pv 1) (pa_cons pe_int (pa_cons (pe_gint T.c_MAX_PASSED) pa_nil))))))
  (pss_one ps_never)
  pss_nil)
  (pss_cons (ps_asg (pe_fld (pv 0) rfl) (pg_tup rfl (pgs_cons (pg_name (i := 2) sc_LivePost_pass_days.nd rfl (Or.inl rfl)) (pgs_cons (pg_name (i := 3) sc_LivePost_pass_days.nd rfl (Or.inl rfl)) (pgs_cons (pg_name (i := 4) sc_LivePost_pass_days.nd rfl (Or.inr rfl)) pgs_nil)))))
  (pss_cons (ps_set (i := 5) sc_LivePost_pass_days.nd rfl (Or.inl rfl) (pe_lst pa_nil))
  (pss_cons (ps_for PassesOwn.never rfl (pi_tup (pv 4)) (pg_tup rfl (pgs_cons (pg_name (i := 6) sc_LivePost_pass_days.nd rfl (Or.inl rfl)) (pgs_cons (pg_name (i := 7) sc_LivePost_pass_days.nd rfl (Or.inl rfl)) (pgs_cons (pg_name (i := 8) sc_LivePost_pass_days.nd rfl (Or.inl rfl)) pgs_nil))))
  (C8.pss_cut (ps_set (i := 9) sc_LivePost_pass_days.nd rfl (Or.inl rfl) (pe_ifExp (pt_val (pv 8)) (pe_tup (pa_cons (pv 6) (pa_cons (pv 7) (pa_cons pe_bl pa_nil)))) (pe_g G_sent_on (hr.mono (by decide)) (pa_cons (pv 3) (pa_cons (pv 6) (pa_cons (pv 7) (pa_cons (pe_op op_add (pv 2) (pv 1)) pa_nil)))))))
  (pss_one (ps_expr (pe_bm PySem.F.plainAttrs_list PySem.F.slot_list_append PySem.F.type_list_append mt_append (pv 5) (pa_cons (pv 9) pa_nil))))))
  (C8.pss_cut (ps_set (i := 10) sc_LivePost_pass_days.nd rfl (Or.inl rfl) (pe_callB cr_sortedP (by rfl) T.b_sorted (by decide +kernel) (pa_cons (pe_lc (own := [("number", 11), ("row", 9)]) (g := (gTup K 2 (gCons (gName 11) (gCons (gName 9) gNil)))) (by rfl) sc_LivePost_pass_days.nd (pi_enum (by rfl) T.b_enumerate (pa_cons (pv 5) pa_nil)) (blkOk_by (own := [("number", 11), ("row", 9)]) (N := ["self", "count", "day", "book", "letters", "later", "address", "arrival", "is_resting", "row", "found", "number"]) (sc := defScope s_LivePost_pass_days) (by decide +kernel)) (fun _ _ _ _ _ => (pg_tup rfl (pgs_cons (pg_name (i := 11) sc_LivePost_pass_days.nd rfl (Or.inl rfl)) (pgs_cons (pg_name (i := 9) sc_LivePost_pass_days.nd rfl (Or.inl rfl)) pgs_nil)))) (fun _ _ _ _ _ => (pts_one (PW.pt (pw_and (pt_val (pe_ix (ix_tupK (K := K)) (pv 9) pe_int (fun _ _ => rfl))) (pw_and1 (pt_not (pt_val (pe_ix (ix_tupK (K := K)) (pe_ix (ix_tupK (K := K)) (pv 4) (pv 11) (fun _ _ => rfl)) pe_int (fun _ _ => rfl))))))))) (fun _ _ _ _ _ => (pe_tup (pa_cons (pe_ix (ix_tupK (K := K)) (pv 9) pe_int (fun _ _ => rfl)) (pa_cons (pv 11) pa_nil))))) pa_nil)))
  (pss_cons (ps_expr (pe_m M_LivePost_enter T.cl_LivePost (hr.mono (by decide)) (pv 0) (pa_cons (pe_tup (pa_cons pe_str (pa_cons (pv 1) pa_nil))) (pa_cons (pe_tup (pa_cons (pe_op op_add (pv 2) (pv 1)) (pa_cons (pv 3) (pa_cons (pe_callTy call_tuple_of (by rfl) T.b_tuple (by decide +kernel) (pa_cons (pv 5) pa_nil)) pa_nil)))) pa_nil))))
  (pss_one (ps_ret (pe_lc (own := [("arrival", 7), ("number", 11)]) (g := (gTup K 2 (gCons (gName 7) (gCons (gName 11) gNil)))) (by rfl) sc_LivePost_pass_days.nd (pi_list (pv 10)) (blkOk_by (own := [("arrival", 7), ("number", 11)]) (N := ["self", "count", "day", "book", "letters", "later", "address", "arrival", "is_resting", "row", "found", "number"]) (sc := defScope s_LivePost_pass_days) (by decide +kernel)) (fun _ _ _ _ _ => (pg_tup rfl (pgs_cons (pg_name (i := 7) sc_LivePost_pass_days.nd rfl (Or.inl rfl)) (pgs_cons (pg_name (i := 11) sc_LivePost_pass_days.nd rfl (Or.inl rfl)) pgs_nil)))) (fun _ _ _ _ _ => pts_nil) (fun _ _ _ _ _ => (pv 11))))))))))), ?_⟩
    have e : isIntB (.int c) 0 400 = true := by simp [isIntB, c0, c4]
    refine ⟨_, rfl, _, _, _, rfl, rfl, _, rfl, ?_⟩
    rw [e]
    refine iteF ?_
    obtain ⟨dx, sc, d, u, ks, kd, ku, h1, ⟨bk, lt, rs, a1, a2, a3, a4⟩, h3, h4⟩ := id L1
    have hl : rs.length = S.rows.length := PySem.Paired.length a4
    refine ⟨_, rfl, p, C_LivePost, dx, _, _, rfl, h1, T.cl_LivePost, T.n_LivePost_scene, rfl, sc, _, rfl, .inl (.inl a1), rfl, _, _, rfl, _, _, rfl, _, _, rfl, rfl, ?_⟩
    let st (v5 v6 v7 v8 v9 v10 v11 : Option V) : L2.St := [some (.ref p), some (.int c), some (.int S.day), some (.ref bk), some (.ref lt), v5, v6, v7, v8, v9, v10, v11]
    refine ⟨Nat.zero_le _, fun lx hlx => ?_⟩
    have sx := Same.new (o := .lst []) hlx
    have fx : upd H lx (.lst []) lx = some (.lst []) := upd_same
    generalize upd H lx (.lst []) = H0 at sx fx
    refine ⟨_, rfl, lt, rfl, ⟨_, .inl (.inl (sx _ _ a3))⟩, for_it (walk_tup (xs := rs.map V.ref)) (fun i σ H' => Same H H' ∧ ∃ qs rows', H' lx = some (.lst (qs.map V.ref)) ∧ LRows H' qs rows' ∧ Passed S.os (S.day + c) (S.rows.take i) rows' ∧ ∃ v6 v7 v8 v9 v10 v11, σ = st (some (.ref lx)) v6 v7 v8 v9 v10 v11)
      ⟨sx, [], [], fx, .nil, .nil, _, _, _, _, _, _, rfl⟩ (fun i σ H' _ ⟨s1, _⟩ => .inl (.inl (s1 _ _ a3))) ?_ ?_⟩
    · rintro i y σ H1 H1' hi ⟨s1, qs, rows', e1, R1, P1, v6, v7, v8, v9, v10, v11, rfl⟩ ⟨rfl, ey⟩
      rw [List.length_map] at hi
      obtain ⟨r, er⟩ : ∃ r, rs[i]? = some r := ⟨rs[i], by simp [hi]⟩
      rw [List.getElem?_map, er] at ey
      cases ey
      obtain ⟨x, ex, hx⟩ := Paired.get a4 er
      refine ⟨r, _, rfl, .inl (.inl (s1 _ _ hx)), rfl, _, _, rfl, _, _, rfl, _, _, rfl, rfl, ?_⟩
      refine ⟨fun σ' H' => Same H H' ∧ H' lx = some (.lst (qs.map V.ref)) ∧ LRows H' qs rows' ∧ ∃ q, ∃ z : LRow, H' q = some (.tup [.str z.1, .int z.2.1, .bl z.2.2]) ∧ ((x.2.2 = true ∧ z = x) ∨ (x.2.2 = false ∧ At S.os (S.day + c) (x.1, x.2.1) (z.1, z.2.1) z.2.2)) ∧ σ' = st (some (.ref lx)) (some (.str x.1)) (some (.int x.2.1)) (some (.bl x.2.2)) (some (.ref q)) v10 v11, ?_, ?_⟩
      · refine ⟨_, rfl, _, rfl, ?_⟩
        cases cx : x.2.2 with
        | true =>
          refine iteT ⟨_, rfl, _, rfl, (by show 3 ≤ sizeLine; decide), fun q hq => ?_⟩
          have s2 := Same.new (o := .tup [.str x.1, .int x.2.1, .bl true]) hq
          exact ⟨s1.trans s2, s2 _ _ e1, R1.keep fun b u e _ => s2 _ _ e, q, x, by rw [cx]; exact upd_same, .inl ⟨rfl, rfl⟩, rfl⟩
        | false =>
          refine iteF ⟨_, rfl, _, rfl, _, rfl, _, rfl, _, rfl, _, _, rfl, rfl, bk, S.os, x.1, x.2.1, S.day + c, rfl, a2.mono s1, g, fun H2 q t b s2 f2 e2 at2 => ?_⟩
          exact ⟨s1.trans s2, s2 _ _ e1, R1.keep fun b u e _ => s2 _ _ e, q, (t.1, t.2, b), e2, .inr ⟨rfl, at2⟩, rfl⟩
      clear s1 e1 R1
      rintro σ H1 ⟨s1, e1, R1, q, z, eq, hz, rfl⟩
      have lq : qs.length = rows'.length := PySem.Paired.length R1
      have lr' : (S.rows.take i).length = rows'.length := PySem.Paired.length P1
      have li := List.length_take_le i S.rows
      have li2 := List.length_take_le' i S.rows
      have up : ∀ b u, H1 b = some u → tupl u = true → upd H1 lx (.lst (qs.map V.ref ++ [.ref q])) b = some u := fun b u e y => by
        rw [upd_ne fun w => by rw [w, e1] at e; cases e; cases y]
        exact e
      refine ⟨_, rfl, .inl ⟨rfl, _, SqL.of e1⟩, _, rfl, lx, _, _, rfl, rfl, e1, by rw [List.length_map, sizeLine_eq]; omega, fun b u e => ?_, qs ++ [q], rows' ++ [z], by rw [upd_same, List.map_append]; rfl, Paired.append (R1.keep up) (.cons (up _ _ eq rfl) .nil), ?_, _, _, _, _, _, _, rfl⟩
      · rw [upd_ne (ne_of_none e hlx)]
        exact s1 _ _ e
      · rw [List.take_add_one, ex]
        exact Paired.append P1 (.cons hz .nil)
    rintro σ H1 ⟨s1, qs, rows', e1, R1, P1, v6, v7, v8, v9, v10, v11, rfl⟩
    rw [List.length_map, hl, List.take_length] at P1
    have lq : qs.length = rows'.length := PySem.Paired.length R1
    have lr2 : S.rows.length = rows'.length := PySem.Paired.length P1
    refine ⟨fun σ' H' => Same H H' ∧ H' lx = some (.lst (qs.map V.ref)) ∧ LRows H' qs rows' ∧ ∃ fl, ∃ zs : List (Addr × Nat), H' fl = some (.lst (zs.map fun z => V.ref z.1)) ∧ (∀ z ∈ zs, ∃ a, H' z.1 = some (.tup [.int a, .int (z.2 : Nat)])) ∧ (zs.map (·.2)).Perm (newR S.rows rows' S.rows.length) ∧ ∃ v6 v7 v8 v9 v11, σ' = st (some (.ref lx)) v6 v7 v8 v9 (some (.ref fl)) v11, ?_, ?_⟩
    · refine ⟨_, rfl, lx, _, rfl, SqL.of e1, fun D hD => ?_⟩
      refine lc_it walk_enum (fun j H' => Same H1 H' ∧ ∃ zs : List (Addr × Nat), H' D = some (.lst (zs.map fun z => V.ref z.1)) ∧ (∀ z ∈ zs, ∃ a, H' z.1 = some (.tup [.int a, .int (z.2 : Nat)])) ∧ zs.map (·.2) = newR S.rows rows' j) ⟨Same.new hD, [], upd_same, (fun z hz => by cases hz), rfl⟩ (fun j H' _ ⟨sa, _⟩ => SqL.of (sa _ _ e1)) ?_ ?_
      · rintro j y H2 H3 hj ⟨s2, zs, e2, Z2, N2⟩ ⟨q, z1, z2, rfl, hq, rfl, ez1, ez2⟩
        cases ez1
        rw [List.length_map] at hj
        obtain ⟨r, er⟩ : ∃ r, qs[j]? = some r := ⟨qs[j], by simp [hj]⟩
        replace ez2 : (qs.map V.ref)[j]? = some z2 := ez2
        rw [List.getElem?_map, er] at ez2
        cases ez2
        obtain ⟨x', ex', hx'⟩ := Paired.get R1 er
        obtain ⟨r0, er0⟩ : ∃ r0, rs[j]? = some r0 := ⟨rs[j]'(by omega), by simp [show j < rs.length by omega]⟩
        obtain ⟨x, ex, hx⟩ := Paired.get a4 er0
        have s3 := Same.new (o := .tup [.int (j : Nat), .ref r]) hq
        have s13 := s2.trans s3
        have e3 := s3 _ _ e2
        have Z3 : ∀ z ∈ zs, ∃ a, (upd H2 q (.tup [.int (j : Nat), .ref r])) z.1 = some (.tup [.int a, .int (z.2 : Nat)]) := fun z hz => let ⟨a, h⟩ := Z2 z hz; ⟨a, s3 _ _ h⟩
        refine ⟨q, _, rfl, .inl (.inl upd_same), rfl, _, _, rfl, _, _, rfl, rfl, rfl, ?_⟩
        generalize upd H2 q (.tup [.int (j : Nat), .ref r]) = H3 at s3 s13 e3 Z3
        have s03 := s1.trans s13
        have nr := newR_step (rows := S.rows) (rows' := rows') ex ex'
        have no : (x'.2.2 && !x.2.2) = false → Same H1 H3 ∧ ∃ zs : List (Addr × Nat), H3 D = some (.lst (zs.map fun z => V.ref z.1)) ∧ (∀ z ∈ zs, ∃ a, H3 z.1 = some (.tup [.int a, .int (z.2 : Nat)])) ∧ zs.map (·.2) = newR S.rows rows' (j + 1) := fun cc => ⟨s13, zs, e3, Z3, by rw [nr, cc, N2]; simp⟩
        refine ⟨_, rfl, r, _, _, _, rfl, rfl, .inl (.inl (s13 _ _ hx')), rfl, _, rfl, ?_⟩
        cases c1 : x'.2.2 with
        | false => exact iteF (no (by rw [c1]; rfl))
        | true =>
          refine iteT ⟨_, rfl, _, rfl, lt, _, _, _, rfl, rfl, .inl (.inl (s03 _ _ a3)), atI_nat (by rw [List.getElem?_map, er0]; rfl), r0, _, _, _, rfl, rfl, .inl (.inl (s03 _ _ hx)), rfl, _, rfl, ?_⟩
          cases c2 : x.2.2 with
          | true => exact no (by rw [c1, c2]; rfl)
          | false =>
            refine ⟨_, rfl, r, _, _, _, rfl, rfl, .inl (.inl (s13 _ _ hx')), rfl, _, rfl, (by show 2 ≤ sizeLine; decide), fun t ht => ?_⟩
            have nDt : D ≠ t := ne_of_none e3 ht
            have lz : zs.length ≤ j := by
              have h1 := congrArg List.length N2
              rw [List.length_map] at h1
              have h2 : (newR S.rows rows' j).length ≤ (List.range j).length := List.length_filter_le _ _
              rw [List.length_range] at h2
              omega
            have up : ∀ b u, H3 b = some u → b ≠ D → (upd (upd H3 t (.tup [.int x'.2.1, .int (j : Nat)])) D (.lst ((zs.map fun z => V.ref z.1) ++ [.ref t]))) b = some u := fun b u e nb => by
              rw [upd_ne nb, upd_ne (ne_of_none e ht)]
              exact e
            refine ⟨_, by rw [upd_ne nDt]; exact e3, by rw [List.length_map, sizeLine_eq]; omega, fun b u e => up _ _ (s13 _ _ e) (ne_of_none e hD), zs ++ [(t, j)], by rw [upd_same, List.map_append]; rfl, fun z hz => ?_, by rw [List.map_append, N2, nr, c1, c2]; rfl⟩
            rcases List.mem_append.mp hz with h | h
            · obtain ⟨a, ha⟩ := Z3 z h
              exact ⟨a, up _ _ ha fun w => by rw [w, e3] at ha; cases ha⟩
            · rw [List.mem_singleton.mp h]
              exact ⟨x'.2.1, by rw [upd_ne nDt.symm, upd_same]⟩
      · rintro H2 ⟨s2, zs, e2, Z2, N2⟩
        rw [List.length_map, lq, ← lr2] at N2
        refine ⟨D, _, rfl, SqL.of e2, fun v hv => ?_, fun ys fl pm hfl => ?_⟩
        · obtain ⟨z, hz, rfl⟩ := List.mem_map.mp hv
          obtain ⟨a, ha⟩ := Z2 z hz
          exact ⟨z.1, a, _, rfl, ha⟩
        · obtain ⟨zs', rfl, pz⟩ := perm_lift pm rfl
          have s3 := Same.new (o := .lst (zs'.map fun z => V.ref z.1)) hfl
          have s13 := s2.trans s3
          refine ⟨s1.trans s13, s13 _ _ e1, R1.keep fun b u e _ => s13 _ _ e, fl, zs', upd_same, fun z hz => ?_, ?_, _, _, _, _, _, rfl⟩
          · obtain ⟨a, ha⟩ := Z2 z (pz.mem_iff.mp hz)
            exact ⟨a, s3 _ _ ha⟩
          · rw [← N2]
            exact pz.map _
    clear s1 e1 R1 v6 v7 v8 v9 v10 v11
    rintro σ H1 ⟨s1, e1, R1, fl, zs, efl, Z1, pz, v6, v7, v8, v9, v11, rfl⟩
    refine ⟨_, rfl, p, dx, _, rfl, s1 _ _ h1, rfl, _, rfl, (by show 2 ≤ sizeLine; decide), fun q1 hq1 => ?_⟩
    have s2 := Same.new (o := .tup [.str "pass_days", .int c]) hq1
    generalize upd H1 q1 (.tup [.str "pass_days", .int c]) = H2 at s2
    refine ⟨_, rfl, _, rfl, _, _, rfl, rfl, _, rfl, _, rfl, lx, _, rfl, .inl ⟨SqL.of (s2 _ _ e1), fun q2 hq2 => ?_⟩⟩
    have s3 := Same.new (o := .tup (qs.map V.ref)) hq2
    have f2 : upd H2 q2 (.tup (qs.map V.ref)) q2 = some (.tup (qs.map V.ref)) := upd_same
    generalize upd H2 q2 (.tup (qs.map V.ref)) = H3 at s3 f2
    refine ⟨(by show 3 ≤ sizeLine; decide), fun q3 hq3 => ?_⟩
    have s4 := Same.new (o := .tup [.int (S.day + c), .ref bk, .ref q2]) hq3
    have f3 : upd H3 q3 (.tup [.int (S.day + c), .ref bk, .ref q2]) q3 = some (.tup [.int (S.day + c), .ref bk, .ref q2]) := upd_same
    generalize upd H3 q3 (.tup [.int (S.day + c), .ref bk, .ref q2]) = H4 at s4 f3
    have s14 : Same H1 H4 := (s2.trans s3).trans s4
    have s04 : Same H H4 := s1.trans s14
    have A4 : SceneAt K C_Book H4 q3 ⟨S.day + c, S.os, rows'⟩ := ⟨bk, q2, qs, f3, a2.mono s04, s4 _ _ f2, R1.keep fun b u e _ => s14 _ _ e⟩
    refine ⟨p, S, dn, un, _, q3, _, rfl, L1.same s04, A4, ld, fun H6 L6 k6 => ?_⟩
    have p4 := s04 _ _ h1
    have efl6 : H6 fl = some (.lst (zs.map fun z => V.ref z.1)) := k6 _ _ (s14 _ _ efl) (ne_of (s14 _ _ efl) p4 (by intro z; cases z))
    have Z6 : ∀ z ∈ zs, ∃ a, H6 z.1 = some (.tup [.int a, .int (z.2 : Nat)]) := fun z hz => by
      obtain ⟨a, ha⟩ := Z1 z hz
      have h' := s14 _ _ ha
      exact ⟨a, k6 _ _ h' (ne_of h' p4 (by intro z; cases z))⟩
    have k06 : ∀ b u, H b = some u → b ≠ p → H6 b = some u := fun b u e nb => k6 _ _ (s04 _ _ e) nb
    have lz : zs.length ≤ 1000 := by
      have h1 := pz.length_eq
      rw [List.length_map] at h1
      have h2 : (newR S.rows rows' S.rows.length).length ≤ (List.range S.rows.length).length := List.length_filter_le _ _
      rw [List.length_range] at h2
      omega
    refine ⟨_, rfl, fl, rfl, ⟨_, SqL.of efl6⟩, fun D hD => ?_⟩
    refine lc_it (walk_list (xs := zs.map fun z => V.ref z.1)) (fun j H' => Same H6 H' ∧ H' D = some (.lst (((zs.map (·.2)).take j).map fun (i : Nat) => V.int (i : Nat)))) ⟨Same.new hD, upd_same⟩ (fun j H' _ ⟨sa, _⟩ => SqL.of (sa _ _ efl6)) ?_ ?_
    · rintro j y H7 H8 hj ⟨s7, e7⟩ ⟨rfl, ey⟩
      rw [List.length_map] at hj
      obtain ⟨z, ez⟩ : ∃ z, zs[j]? = some z := ⟨zs[j], by simp [hj]⟩
      rw [List.getElem?_map, ez] at ey
      cases ey
      obtain ⟨a, ha⟩ := Z6 z (List.mem_of_getElem? ez)
      refine ⟨z.1, _, rfl, .inl (.inl (s7 _ _ ha)), rfl, _, _, rfl, _, _, rfl, rfl, rfl, yesT (iteT ?_)⟩
      refine ⟨_, rfl, _, e7, ?_, fun b u e => ?_, ?_⟩
      · rw [List.length_map, List.length_take, sizeLine_eq]
        omega
      · rw [upd_ne (ne_of_none e hD)]
        exact s7 _ _ e
      · have : (zs.map (·.2))[j]? = some z.2 := by rw [List.getElem?_map, ez]; rfl
        rw [upd_same, List.take_add_one, this, List.map_append]
        rfl
    · rintro H7 ⟨s7, e7⟩
      rw [List.take_of_length_le (by rw [List.length_map, List.length_map]; exact Nat.le_refl _)] at e7
      refine kk H7 D rows' _ P1 (L6.same s7) ?_ e7 pz fun b u e nb => s7 _ _ (k06 b u e nb)
      cases q : H D with
      | none => rfl
      | some v =>
        by_cases c : D = p
        · obtain ⟨dx', _, _, _, _, _, _, p6, _⟩ := L6
          rw [c, p6] at hD
          cases hD
        · rw [k06 _ _ q c] at hD
          cases hD
end

end MF
set_option Elab.async false
set_option linter.all false
set_option maxRecDepth 100000
set_option maxHeartbeats 2000000
set_option pp.maxSteps 600
namespace MF
open PySem PySem.Spec PyProof.Rows L2 StX
section
variable {X : Cx} {CX : CXT} {k : Nat} {C : Addr} {sp : Sp} {E : XK} {fe e : Expr} {es : List Expr} {tf : TE} {t : TA} {pos : Pos}
def tCallO1 (C : Addr) (sp : Sp) (E : XK) (tf : TE) (t : TA) : TE := fun σ H Q => tf σ H fun y H1 => ∃ a, y = V.ref a ∧ t σ H1 fun vs H2 => (∃ dx fs, H2 a = some (.ins C dx fs)) ∧ sp (V.ref a :: vs) H2 Q E
theorem pe_callO1 {g : Addr} (hf : PE X fe tf) (c : CallO X.K C g) (F : FnR X.prog X.w X.K X.mg X.base CX k g sp) (hr : Room k X.A) (hx : Passes CX X E) (ha : PA X (e :: es) t)
    (ht : eval (.Call fe (e :: es) [] pos) X.env = (do callWith pos (← eval fe X.env) [] (backTo pos (starEach (e :: es) X.env)) (backToKw pos (keywordEach [] X.env))) := by rfl)
    (he : starEach (e :: es) X.env = (false, eval e X.env) :: starEach es X.env := by rfl) (hpl : (backTo pos (starEach es X.env)).any (·.1) = false := by rfl) : PE X (.Call fe (e :: es) [] pos) (tCallO1 C sp E tf t) := by
  refine ⟨fun pins s σ H Q I h => ?_⟩
  refine Call_ (thn (hf.run pins s σ H _ I h) fun u s1 ⟨y, H1, I1, ry, a, ey, q⟩ => ?_) ht
  subst ey
  obtain rfl : u = Value.ref a := ry
  refine callO_with (thn (ha.run pos pins s1 σ H1 _ I1 q) fun us s2 ⟨vs, H2, I2, r, ⟨dx, fs, hi⟩, q2⟩ => ?_) he hpl
  have hi' : InsC X H2 a C := .inr ⟨dx, fs, hi⟩
  obtain ⟨ox, od, J, hd⟩ := insC_at I2 hi'
  exact ⟨⟨C, ox, od, J, hd⟩, run_callO c F hr hx I2 hi' r q2⟩
end
section
variable {P : Program} {w : World} {K : PySem.W.Frag} {mg : Str → Option Value} {base : Heap} {C_Book C_Letter C_LivePost : Addr}
def spBookOrders (K : PySem.W.Frag) (C : Addr) : Sp := fun vs H Q _ => ∃ p os, vs = [.ref p] ∧ BookAt K C H p os ∧ ∀ t as, SqT K H t (as.map V.ref) → OrdsAt K H as os → Q (.ref t) H
theorem ok_book_orders (T : Top K mg C_Book C_Letter C_LivePost) : PFn P w K mg base CX0 1 C_Book "orders" (spBookOrders K C_Book) := by
  refine T.d_Book_orders.fn fun f fd F => F.ok sc_Book_orders (fun vs H Q E h => ?_) (fun cdv A outer s H vs Q E hr h => ?_)
  · obtain ⟨p, os, rfl, _⟩ := h
    rfl
  · obtain ⟨p, os, rfl, ⟨dx, t, as, h1, h2, h3⟩, kk⟩ := h
    refine ⟨_, (pss_one (ps_ret (pe_fld (pv 0) rfl))), ?_⟩
    exact ⟨_, rfl, p, C_Book, dx, _, _, rfl, h1, T.cl_Book, T.n_Book_listed, rfl, kk t as h2 h3⟩
def SeenAt (K : PySem.W.Frag) (B : Addr → Prop) (H : Hp) (t : Addr) (S : Scn) (n : Nat) : Prop := ∃ ot as ll rs l1 ps1 l2 ps2, H t = some (.tup [.int S.day, .ref ot, .ref ll, .ref l1, .ref l2, .int (n : Nat)]) ∧ SqT K H ot (as.map V.ref) ∧ OrdsAt K H as S.os ∧ H ll = some (.lst (rs.map V.ref)) ∧ LRows H rs S.rows ∧ H l1 = some (.lst (ps1.map V.ref)) ∧ NumAt H ps1 (pickR true S.rows S.rows.length) ∧ H l2 = some (.lst (ps2.map V.ref)) ∧ NumAt H ps2 (pickR false S.rows S.rows.length) ∧ B ll ∧ B l1 ∧ B l2
def spSeen (K : PySem.W.Frag) (CB CL : Addr) : Sp := fun vs H Q _ => ∃ p S dn un, vs = [.ref p] ∧ LivAt K CB CL H p S dn un ∧ S.rows.length ≤ 1000 ∧ dn.length ≤ 1000 ∧ ∀ H' t, Same H H' → H t = none → SeenAt K (fun b => H b = none) H' t S dn.length → Q (.ref t) H'
theorem ok_law_seen (T : Top K mg C_Book C_Letter C_LivePost) : GFn P w K mg base CX0 3 "_law_seen" (spSeen K C_Book C_LivePost) := by
  have PR_LivePost_today : PFn P w K mg base CX0 1 C_LivePost "today" (spToday K C_Book C_LivePost) := ok_today T
  have PR_LivePost_present_book : PFn P w K mg base CX0 1 C_LivePost "present_book" (spPresent K C_Book C_LivePost) := ok_present T
  have PR_Book_orders : PFn P w K mg base CX0 1 C_Book "orders" (spBookOrders K C_Book) := ok_book_orders T
  have PR_LivePost_resting : PFn P w K mg base CX0 1 C_LivePost "resting" (spPick true K C_Book C_LivePost) := ok_resting T
  have PR_LivePost_under_way : PFn P w K mg base CX0 1 C_LivePost "under_way" (spPick false K C_Book C_LivePost) := ok_under_way T
  have PR_LivePost_history : PFn P w K mg base CX0 1 C_LivePost "history" (spHistory K C_Book C_LivePost) := ok_history T
  obtain ⟨fl, LF_LivePost, LM_LivePost⟩ := (ok_live_len (P := P) (w := w) (base := base) T).ex
  obtain ⟨fc, CF_LivePost, cm⟩ := (ok_live_call (P := P) (w := w) (base := base) T).ex
  have CO_LivePost : CallO K C_LivePost fc := ⟨cm.at_, cm.fn, T.fi_LivePost_XcallX fc cm.at_⟩
  refine T.d__law_seen.fn fun f fd F => F.ok sc__law_seen (fun vs H Q E h => ?_) (fun cdv A outer s H vs Q E hr h => ?_)
  · obtain ⟨p, S, dn, un, rfl, _⟩ := h
    rfl
  · obtain ⟨p, S, dn, un, rfl, L0, lr, ld, kk⟩ := h
    refine ⟨_, (C8.pss_cut (ps_setLc (i := 1) (own := [("_law_number", 2)]) (g := (gName 2)) (by rfl) sc__law_seen.nd rfl rfl (sw_true rfl rfl rfl (by decide +kernel)) (pi_range1 (by rfl) T.b_range (pa_cons (pe_callB (cr_lenO LM_LivePost LF_LivePost (hr.mono (by decide)) pass0) (by rfl) T.b_len (by decide +kernel) (pa_cons (pv 0) pa_nil)) pa_nil)) (blkOk_by (own := [("_law_number", 2)]) (N := ["_law_live", "_law_letters", "_law_number"]) (sc := defScope s__law_seen) (by decide +kernel)) (fun _ _ _ _ _ => (pg_name (i := 2) sc__law_seen.nd rfl (Or.inl rfl))) (fun _ _ _ _ _ => pts_nil) (fun _ _ _ _ _ => (pe_callO1 (pv 0) CO_LivePost CF_LivePost (hr.mono (by decide)) pass0 (pa_cons (pv 2) pa_nil))))
  (pss_one (ps_ret (pe_tup (pa_cons (pe_pr PR_LivePost_today T.cl_LivePost (hr.mono (by decide)) (pv 0)) (pa_cons (pe_pr PR_Book_orders T.cl_Book (hr.mono (by decide)) (pe_pr PR_LivePost_present_book T.cl_LivePost (hr.mono (by decide)) (pv 0))) (pa_cons (pv 1) (pa_cons (pe_pr PR_LivePost_resting T.cl_LivePost (hr.mono (by decide)) (pv 0)) (pa_cons (pe_pr PR_LivePost_under_way T.cl_LivePost (hr.mono (by decide)) (pv 0)) (pa_cons (pe_callB call_len_seq (by rfl) T.b_len (by decide +kernel) (pa_cons (pe_pr PR_LivePost_history T.cl_LivePost (hr.mono (by decide)) (pv 0)) pa_nil)) pa_nil)))))))))), ?_⟩
    obtain ⟨dx, sc, d, u, ks, kd, ku, h1, ⟨bk, lt, rs, a1, a2, a3, a4⟩, h3, h4⟩ := id L0
    have hl : rs.length = S.rows.length := PySem.Paired.length a4
    refine ⟨fun σ' H' => Same H H' ∧ ∃ ll ws, H' ll = some (.lst (ws.map V.ref)) ∧ LRows H' ws S.rows ∧ H ll = none ∧ ∃ v2, σ' = [some (.ref p), some (.ref ll), v2], ?_, ?_⟩
    · refine ⟨_, rfl, p, dx, _, rfl, h1, p, S, dn, un, rfl, L0, _, rfl, by omega, _, rfl, by omega, by omega, fun D hD => ?_⟩
      refine lc_it walk_range (fun j H' => Same H H' ∧ ∃ ws, H' D = some (.lst (ws.map V.ref)) ∧ LRows H' ws (S.rows.take j)) ⟨Same.new hD, [], upd_same, .nil⟩ (fun _ _ _ _ => trivial) ?_ ?_
      · rintro j yv H2 H3 hj ⟨s2, ws, e2, R2⟩ ⟨rfl, rfl⟩
        have z0 : (0 : Int) + (j : Int) = (j : Int) := by omega
        have hj' : j < S.rows.length := by omega
        obtain ⟨x, ex⟩ : ∃ x, S.rows[j]? = some x := ⟨S.rows[j], by simp [hj']⟩
        have lw : ws.length = (S.rows.take j).length := PySem.Paired.length R2
        rw [List.length_take] at lw
        refine ⟨rfl, yesT (iteT ?_)⟩
        refine ⟨_, rfl, p, rfl, _, rfl, ⟨dx, _, s2 _ _ h1⟩, p, S, dn, un, j, x, (by show [V.ref p, V.int (0 + (j : Int))] = _; rw [z0]), L0.same s2, ex, fun r er => ?_⟩
        refine ⟨_, e2, by rw [List.length_map, sizeLine_eq]; omega, fun b u e => ?_, ws ++ [r], by rw [upd_same, List.map_append]; rfl, ?_⟩
        · rw [upd_ne (ne_of_none e hD)]
          exact s2 _ _ e
        · have up : ∀ b u, H3 b = some u → tupl u = true → upd H3 D (.lst (ws.map V.ref ++ [.ref r])) b = some u := fun b u e y => by
            rw [upd_ne fun w => by rw [w, e2] at e; cases e; cases y]
            exact e
          rw [List.take_add_one, ex]
          exact Paired.append (R2.keep up) (.cons (up _ _ er rfl) .nil)
      · rintro H2 ⟨s2, ws, e2, R2⟩
        have ek : S.rows.take (((S.rows.length : Nat) : Int) - 0).toNat = S.rows := List.take_of_length_le (by omega)
        refine ⟨s2, D, ws, e2, ?_, hD, _, rfl⟩
        first
          | exact (ek ▸ R2)
          | (rw [List.take_of_length_le (by omega)] at R2; exact R2)
    rintro σ H1 ⟨s1, ll, ws, e1, R1, fll, v2, rfl⟩
    have L1 := L0.same s1
    refine ⟨_, rfl, p, dx, _, rfl, s1 _ _ h1, p, S, dn, un, rfl, L1, ?_⟩
    refine ⟨_, rfl, p, dx, _, rfl, s1 _ _ h1, p, S, dn, un, rfl, L1, fun bk' B' => ?_⟩
    obtain ⟨dy, tb, bs, b1, b2, b3⟩ := id B'
    refine ⟨bk', dy, _, rfl, b1, bk', S.os, rfl, B', fun ot as o1 o2 => ?_⟩
    refine ⟨_, rfl, _, rfl, p, dx, _, rfl, s1 _ _ h1, p, S, dn, un, rfl, L1, lr, fun H2 l1 ps1 s2 f2 e2 N2 => ?_⟩
    refine ⟨_, rfl, p, dx, _, rfl, s2 _ _ (s1 _ _ h1), p, S, dn, un, rfl, L1.same s2, lr, fun H3 l2 ps2 s3 f3 e3 N3 => ?_⟩
    have s13 := s2.trans s3
    refine ⟨_, rfl, p, dx, _, rfl, s13 _ _ (s1 _ _ h1), p, S, dn, un, rfl, L1.same s13, ld, fun H4 hl' xs s4 f4 e4 lx => ?_⟩
    refine ⟨hl', xs, rfl, .inl (SqL.of e4), (by show 6 ≤ sizeLine; decide), fun t ht => ?_⟩
    rw [lx] at *
    have s5 := Same.new (o := .tup [.int S.day, .ref ot, .ref ll, .ref l1, .ref l2, .int (dn.length : Nat)]) ht
    have s15 := (s13.trans s4).trans s5
    have s25 := (s3.trans s4).trans s5
    have s35 := s4.trans s5
    refine kk _ t (s1.trans s15) ((s1.trans (s13.trans s4)).free ht) ⟨ot, as, ll, ws, l1, ps1, l2, ps2, upd_same, MF.Same.tup s15 o1, o2.mono s15, s15 _ _ e1, R1.keep (fun b u e _ => s15 _ _ e), s25 _ _ e2, N2.keep (fun b u e _ => s25 _ _ e), s35 _ _ e3, N3.keep (fun b u e _ => s35 _ _ e), fll, s1.free f2, (s1.trans s2).free f3⟩
end

end MF
set_option Elab.async false
set_option linter.all false
set_option maxRecDepth 100000
set_option maxHeartbeats 2000000
set_option pp.maxSteps 600
namespace MF
open PySem PySem.Spec PyProof.Rows L2 StX
section
variable {P : Program} {w : World} {K : PySem.W.Frag} {mg : Str → Option Value} {base : Heap} {C_Book C_Letter C_LivePost : Addr}
theorem layAll {α : Type} {f : α → PyData} : ∀ {l : List α}, (∀ x ∈ l, (f x).canLay0 = true) → PyData.canLayAll0 (l.map f) = true
  | [], _ => by simp [PyData.canLayAll0]
  | x :: l, h => by
    have h1 := layAll (l := l) fun p hp => h p (List.mem_cons_of_mem _ hp)
    simp only [List.map_cons, PyData.canLayAll0, h1, h x List.mem_cons_self, Bool.and_self]
theorem depthAll_le {α : Type} {f : α → PyData} (h : ∀ x, (f x).depth ≤ 1) : ∀ l : List α, PyData.depthAll (l.map f) ≤ 2
  | [] => by simp [PyData.depthAll]
  | x :: l => by
    have h1 := depthAll_le h l
    have h2 := h x
    simp only [List.map_cons, PyData.depthAll]
    omega
theorem dpAll {α : Type} {f : α → PyData} {r : Addr → α → Prop} {H : Hp} (h : ∀ a x, r a x → Dp K H (.ref a) (f x)) : ∀ {as : List Addr} {l : List α}, PySem.Paired r as l → DpAll K H (as.map V.ref) (l.map f)
  | _, _, .nil => .nil
  | _, _, .cons x t => .cons (h _ _ x) (dpAll h t)
def ordD8 (o : Ordr) : PyData := .tuple [.str o.src, .str o.tgt, .int o.first, .int o.last, .int o.way]
def rowD (x : LRow) : PyData := .tuple [.str x.1, .int x.2.1, .bool x.2.2]
def numD (x : Nat × Str × Int) : PyData := .tuple [.int (x.1 : Nat), .str x.2.1, .int x.2.2]
def seenD (S : Scn) (n : Nat) : PyData := .tuple [.int S.day, .tuple (S.os.map ordD8), .list (S.rows.map rowD), .list ((pickR true S.rows S.rows.length).map numD), .list ((pickR false S.rows S.rows.length).map numD), .int (n : Nat)]
theorem SeenAt.dp {B : Addr → Prop} {H : Hp} {t : Addr} {S : Scn} {n : Nat} (h : SeenAt K B H t S n) : Dp K H (.ref t) (seenD S n) := by
  obtain ⟨ot, as, ll, rs, l1, ps1, l2, ps2, h1, h2, h3, h4, h5, h6, h7, h8, h9, _⟩ := h
  refine .tup (.inl (.inl h1)) (.cons (.int _) (.cons (.tup h2 (dpAll (fun a o oa => ?_) h3)) (.cons (.lst (SqL.of h4) (dpAll (fun a x e => ?_) h5)) (.cons (.lst (SqL.of h6) (dpAll (fun a x e => ?_) h7)) (.cons (.lst (SqL.of h8) (dpAll (fun a x e => ?_) h9)) (.cons (.int _) .nil))))))
  · exact .tup oa (.cons (.str _) (.cons (.str _) (.cons (.int _) (.cons (.int _) (.cons (.int _) .nil)))))
  · exact .tup (.inl (.inl e)) (.cons (.str _) (.cons (.int _) (.cons (.bl _) .nil)))
  · exact .tup (.inl (.inl e)) (.cons (.int _) (.cons (.str _) (.cons (.int _) .nil)))
  · exact .tup (.inl (.inl e)) (.cons (.int _) (.cons (.str _) (.cons (.int _) .nil)))
theorem SeenAt.imp {B B' : Addr → Prop} {H : Hp} {t : Addr} {S : Scn} {n : Nat} (h : SeenAt K B H t S n) (i : ∀ b, B b → B' b) : SeenAt K B' H t S n := by
  obtain ⟨ot, as, ll, rs, l1, ps1, l2, ps2, h1, h2, h3, h4, h5, h6, h7, h8, h9, b1, b2, b3⟩ := h
  exact ⟨ot, as, ll, rs, l1, ps1, l2, ps2, h1, h2, h3, h4, h5, h6, h7, h8, h9, i _ b1, i _ b2, i _ b3⟩
theorem SeenAt.keep {B : Addr → Prop} {H H' : Hp} {t : Addr} {S : Scn} {n : Nat} (h : SeenAt K B H t S n) (kt : ∀ b u, H b = some u → tupl u = true → H' b = some u) (kl : ∀ b xs, H b = some (.lst xs) → B b → H' b = some (.lst xs)) : SeenAt K B H' t S n := by
  obtain ⟨ot, as, ll, rs, l1, ps1, l2, ps2, h1, h2, h3, h4, h5, h6, h7, h8, h9, b1, b2, b3⟩ := h
  refine ⟨ot, as, ll, rs, l1, ps1, l2, ps2, kt _ _ h1 rfl, ?_, h3.keepR kt, kl _ _ h4 b1, h5.keep kt, kl _ _ h6 b2, h7.keep kt, kl _ _ h8 b3, h9.keep kt, b1, b2, b3⟩
  rcases h2 with (z | ⟨u, z⟩) | z
  · exact .inl (.inl (kt _ _ z rfl))
  · exact .inl (.inr ⟨u, kt _ _ z rfl⟩)
  · exact .inr z
theorem pickR_mem {b : Bool} {rows : List LRow} {n : Nat} {y : Nat × Str × Int} (h : y ∈ pickR b rows n) : (y.2.1, y.2.2, b) ∈ rows ∧ rows[y.1]? = some (y.2.1, y.2.2, b) := by
  unfold pickR at h
  obtain ⟨i, _, e⟩ := List.mem_filterMap.mp h
  cases q : rows[i]? with
  | none => rw [q] at e; cases e
  | some x =>
    rw [q] at e
    change (if x.2.2 = b then some (i, x.1, x.2.1) else none) = some y at e
    by_cases c : x.2.2 = b
    · rw [if_pos c] at e
      cases e
      obtain ⟨x1, x2, x3⟩ := x
      cases c
      exact ⟨List.mem_of_getElem? q, q⟩
    · rw [if_neg c] at e
      cases e
theorem seenD_lay {S : Scn} {n : Nat} (g : Good S.os) (hr : ∀ x ∈ S.rows, isAddrB (.str x.1) = true) : (seenD S n).canLay0 = true := by
  have a1 : PyData.canLayAll0 (S.os.map ordD8) = true := layAll fun o ho => by
    simp only [ordD8, PyData.canLay0, PyData.canLayAll0, strOk_addr (g.ok o ho).as, strOk_addr (g.ok o ho).at_, Bool.and_true]
  have a2 : PyData.canLayAll0 (S.rows.map rowD) = true := layAll fun x hx => by
    simp only [rowD, PyData.canLay0, PyData.canLayAll0, strOk_addr (hr x hx), Bool.and_true]
  have a3 : ∀ b, PyData.canLayAll0 ((pickR b S.rows S.rows.length).map numD) = true := fun b => layAll fun y hy => by
    simp only [numD, PyData.canLay0, PyData.canLayAll0, strOk_addr (hr _ (pickR_mem hy).1), Bool.and_true]
  simp only [seenD, PyData.canLay0, PyData.canLayAll0, a1, a2, a3, Bool.and_true]
theorem seenD_shaped {S : Scn} {n : Nat} (g : Good S.os) (hr : ∀ x ∈ S.rows, isAddrB (.str x.1) = true) : SeqAt.shaped (seenD S n) = true := by
  have d1 := depthAll_le (f := ordD8) (fun o => by simp [ordD8, PyData.depth, PyData.depthAll]) S.os
  have d2 := depthAll_le (f := rowD) (fun o => by simp [rowD, PyData.depth, PyData.depthAll]) S.rows
  have d3 : ∀ b, PyData.depthAll ((pickR b S.rows S.rows.length).map numD) ≤ 2 := fun b => depthAll_le (f := numD) (fun o => by simp [numD, PyData.depth, PyData.depthAll]) _
  have d4 := d3 true
  have d5 := d3 false
  show ((seenD S n).canLay0 && decide ((seenD S n).depth ≤ 64)) = true
  rw [seenD_lay g hr, Bool.true_and]
  refine decide_eq_true ?_
  simp only [seenD, PyData.depth, PyData.depthAll]
  omega
end

end MF
set_option Elab.async false
set_option linter.all false
set_option maxRecDepth 100000
set_option maxHeartbeats 2000000
set_option pp.maxSteps 600
namespace MF
open PySem PySem.Spec PyProof.Rows L2 StX
section
variable {P : Program} {w : World} {K : PySem.W.Frag} {mg : Str → Option Value} {base : Heap} {C_Book C_Letter C_LivePost : Addr}
theorem num_dp {H : Hp} : ∀ {qs : List Addr} {xs : List (Nat × Str × Int)}, NumAt H qs xs → DpAll K H (qs.map V.ref) (xs.map numD)
  | _, _, .nil => .nil
  | _, _, .cons h t => .cons (.tup (.inl (.inl h)) (.cons (.int _) (.cons (.str _) (.cons (.int _) .nil)))) (num_dp t)
def spTold (K : PySem.W.Frag) (CB CL : Addr) : Sp := fun vs H Q _ => ∃ p S dn un pl ps, ∃ pts : List Pt, vs = [.ref p, .ref pl] ∧ LivAt K CB CL H p S dn un ∧ H pl = some (.lst (ps.map V.ref)) ∧ PtsAt H ps pts ∧ pts.length = S.rows.length ∧ (∀ (i : Nat) s x, pts[i]? = some s → S.rows[i]? = some x → At S.os S.day s (x.1, x.2.1) x.2.2 ∧ isAddrB (.str s.1) = true ∧ 0 ≤ s.2 ∧ s.2 ≤ 1000) ∧ Good S.os ∧ S.day < 398 ∧ S.rows.length ≤ 100 ∧ ∀ H', Same H H' → Q (.bl true) H'
theorem ok_are_told (T : Top K mg C_Book C_Letter C_LivePost) : GFn P w K mg base CX0 8 "_law_are_told" (spTold K C_Book C_LivePost) := by
  have PR_LivePost_today : PFn P w K mg base CX0 1 C_LivePost "today" (spToday K C_Book C_LivePost) := ok_today T
  have PR_LivePost_present_book : PFn P w K mg base CX0 1 C_LivePost "present_book" (spPresent K C_Book C_LivePost) := ok_present T
  have PR_LivePost_resting : PFn P w K mg base CX0 1 C_LivePost "resting" (spPick true K C_Book C_LivePost) := ok_resting T
  have PR_LivePost_under_way : PFn P w K mg base CX0 1 C_LivePost "under_way" (spPick false K C_Book C_LivePost) := ok_under_way T
  have G_end : GFn P w K mg base CX0 6 "end" (spEnd K C_Book) := ok_end T
  have R_route : PGn P w K mg base 4 "route" (spRoute K C_Book) := ok_route T
  obtain ⟨fc, CF_LivePost, cm⟩ := (ok_live_call (P := P) (w := w) (base := base) T).ex
  have CO_LivePost : CallO K C_LivePost fc := ⟨cm.at_, cm.fn, T.fi_LivePost_XcallX fc cm.at_⟩
  refine T.d__law_are_told.fn fun f fd F => F.ok sc__law_are_told (fun vs H Q E h => ?_) (fun cdv A outer s H vs Q E hr h => ?_)
  · obtain ⟨p, S, dn, un, pl, ps, pts, rfl, _⟩ := h
    rfl
  · obtain ⟨p, S, dn, un, pl, ps, pts, rfl, L0, epl, Pp, lp, ats, g, d398, l100, kk⟩ := h
    have hE65 : (A.deeper (envOfC "_law_are_told" (defScope s__law_are_told) s.heap.objs.size f cdv)).units + 65 < cLine := by have := hr.un; omega
    refine ⟨_, (pss_cons (ps_par (i := 2) (j := 3) (by rfl) sc__law_are_told.nd rfl rfl (by decide) rfl rfl (pa_cons (pe_lst pa_nil) (pa_cons (pe_lst pa_nil) pa_nil)) (by rfl))
  (pss_cons (ps_for PassesOwn.never rfl (pi_range1 (by rfl) T.b_range (pa_cons (pe_callB call_len_seq (by rfl) T.b_len (by decide +kernel) (pa_cons (pv 1) pa_nil)) pa_nil)) (pg_name (i := 4) sc__law_are_told.nd rfl (Or.inl rfl))
  (C8.pss_cut (ps_asg (pe_ix ix_list (pv 1) (pv 4) (fun _ _ => rfl)) (pg_tup rfl (pgs_cons (pg_name (i := 5) sc__law_are_told.nd rfl (Or.inl rfl)) (pgs_cons (pg_name (i := 6) sc__law_are_told.nd rfl (Or.inl rfl)) pgs_nil))))
  (C8.pss_cut (ps_asg (pe_callO1 (pv 0) CO_LivePost CF_LivePost (hr.mono (by decide)) pass0 (pa_cons (pv 4) pa_nil)) (pg_tup rfl (pgs_cons (pg_name (i := 7) sc__law_are_told.nd rfl (Or.inl rfl)) (pgs_cons (pg_name (i := 8) sc__law_are_told.nd rfl (Or.inl rfl)) (pgs_cons (pg_name (i := 9) sc__law_are_told.nd rfl (Or.inl rfl)) pgs_nil)))))
  (C8.pss_cut (ps_if (pt_cmpR op_ne (pv 9) (pe_cmpR op_le (pv 8) (pe_pr PR_LivePost_today T.cl_LivePost (hr.mono (by decide)) (pv 0)) (nomark _)) (nomark _))
  (pss_one (ps_ret pe_bl))
  pss_nil)
  (pss_one (ps_if (pt_val (pv 9))
  (pss_cons (ps_expr (pe_bm PySem.F.plainAttrs_list PySem.F.slot_list_append PySem.F.type_list_append mt_append (pv 2) (pa_cons (pe_tup (pa_cons (pv 4) (pa_cons (pv 7) (pa_cons (pv 8) pa_nil)))) pa_nil)))
  (pss_one (ps_if (pt_cmpR (op_neD hr.units) (pe_g G_end (hr.mono (by decide)) (pa_cons (pe_pr PR_LivePost_present_book T.cl_LivePost (hr.mono (by decide)) (pv 0)) (pa_cons (pv 5) (pa_cons (pv 6) pa_nil)))) (pe_tup (pa_cons (pv 7) (pa_cons (pv 8) pa_nil))) (nomark _))
  (pss_one (ps_ret pe_bl))
  pss_nil)))
  (pss_cons (ps_expr (pe_bm PySem.F.plainAttrs_list PySem.F.slot_list_append PySem.F.type_list_append mt_append (pv 3) (pa_cons (pe_tup (pa_cons (pv 4) (pa_cons (pv 7) (pa_cons (pv 8) pa_nil)))) pa_nil)))
  (pss_one (ps_if (pt_cmpR (op_notInD hE65) (pe_tup (pa_cons (pv 7) (pa_cons (pv 8) pa_nil))) (pe_listGn R_route (hr.mono (by decide)) T.b_list (pa_cons (pe_pr PR_LivePost_present_book T.cl_LivePost (hr.mono (by decide)) (pv 0)) (pa_cons (pv 5) (pa_cons (pv 6) (pa_cons pe_int pa_nil))))) rfl)
  (pss_one (ps_ret pe_bl))
  pss_nil)))))))))
  (pss_one (ps_ret (pe_and (pe_cmpR (op_eqD hr.units) (pe_pr PR_LivePost_resting T.cl_LivePost (hr.mono (by decide)) (pv 0)) (pv 2) (nomark _)) (pe_one (pe_cmpR (op_eqD hr.units) (pe_pr PR_LivePost_under_way T.cl_LivePost (hr.mono (by decide)) (pv 0)) (pv 3) (nomark _)))))))), ?_⟩
    obtain ⟨dx, sc, d, u, ks, kd, ku, h1, _⟩ := id L0
    have lps : ps.length = S.rows.length := (PySem.Paired.length Pp).trans lp
    let st (v2 v3 v4 v5 v6 v7 v8 v9 : Option V) : L2.St := [some (.ref p), some (.ref pl), v2, v3, v4, v5, v6, v7, v8, v9]
    refine ⟨Nat.zero_le _, fun r1 hr1 => ⟨Nat.zero_le _, fun r2 hr2 => ⟨_, _, rfl, ?_⟩⟩⟩
    have s1 : Same H (upd (upd H r1 (.lst [])) r2 (.lst [])) := (Same.new hr1).trans (Same.new hr2)
    have e1 : (upd (upd H r1 (.lst [])) r2 (.lst [])) r1 = some (.lst []) := Same.new hr2 _ _ upd_same
    have e2 : (upd (upd H r1 (.lst [])) r2 (.lst [])) r2 = some (.lst []) := upd_same
    have n12 : r1 ≠ r2 := fun w => by rw [w, upd_same] at e1; rw [← w, upd_same] at hr2; cases hr2
    generalize upd (upd H r1 (.lst [])) r2 (.lst []) = H1 at s1 e1 e2
    refine ⟨_, rfl, pl, _, rfl, .inl (SqL.of (s1 _ _ epl)), _, rfl, by omega, by rw [List.length_map]; omega, for_it walk_range (fun i σ H' => Same H H' ∧ ∃ q1 q2, H' r1 = some (.lst (q1.map V.ref)) ∧ NumAt H' q1 (pickR true S.rows i) ∧ H' r2 = some (.lst (q2.map V.ref)) ∧ NumAt H' q2 (pickR false S.rows i) ∧ ∃ v4 v5 v6 v7 v8 v9, σ = st (some (.ref r1)) (some (.ref r2)) v4 v5 v6 v7 v8 v9)
      ⟨s1, [], [], e1, .nil, e2, .nil, _, _, _, _, _, _, rfl⟩ (fun _ _ _ _ _ => trivial) ?_ ?_⟩
    · rintro i yv σ H2 H2' hi ⟨s2, q1, q2, f1, N1, f2, N2, v4, v5, v6, v7, v8, v9, rfl⟩ ⟨rfl, rfl⟩
      have z0 : (0 : Int) + (i : Int) = (i : Int) := by omega
      have hi' : i < S.rows.length := by simp at hi; omega
      obtain ⟨x, ex⟩ : ∃ x, S.rows[i]? = some x := ⟨S.rows[i], by simp [hi']⟩
      obtain ⟨q, eq⟩ : ∃ q, ps[i]? = some q := ⟨ps[i]'(by omega), by simp [show i < ps.length by omega]⟩
      obtain ⟨s', es', hq⟩ := Paired.get Pp eq
      obtain ⟨at', as', s0', s1'⟩ := ats i s' x es' ex
      refine ⟨fun σ' H' => H' = H2' ∧ σ' = st (some (.ref r1)) (some (.ref r2)) (some (.int (0 + i))) (some (.str s'.1)) (some (.int s'.2)) v7 v8 v9, ?_, ?_⟩
      · refine ⟨_, rfl, _, rfl, pl, _, _, _, rfl, rfl, SqL.of (s2 _ _ epl), (by rw [z0]; exact atI_nat (by rw [List.getElem?_map, eq]; rfl)), q, _, rfl, .inl (.inl (s2 _ _ hq)), rfl, _, _, rfl, _, _, rfl, rfl, rfl, rfl⟩
      rintro σ H2' ⟨rfl, rfl⟩
      refine ⟨fun σ' H' => H' = H2' ∧ σ' = st (some (.ref r1)) (some (.ref r2)) (some (.int (0 + i))) (some (.str s'.1)) (some (.int s'.2)) (some (.str x.1)) (some (.int x.2.1)) (some (.bl x.2.2)), ?_, ?_⟩
      · refine ⟨_, rfl, p, rfl, _, rfl, ⟨dx, _, s2 _ _ h1⟩, p, S, dn, un, i, x, (by show [V.ref p, V.int (0 + (i : Int))] = _; rw [z0]), L0.same s2, ex, fun r er => ?_⟩
        exact ⟨r, _, rfl, .inl (.inl er), rfl, _, _, rfl, _, _, rfl, _, _, rfl, rfl, rfl, rfl⟩
      rintro σ H2' ⟨rfl, rfl⟩
      refine ⟨fun σ' H' => H' = H2' ∧ σ' = st (some (.ref r1)) (some (.ref r2)) (some (.int (0 + i))) (some (.str s'.1)) (some (.int s'.2)) (some (.str x.1)) (some (.int x.2.1)) (some (.bl x.2.2)), ?_, ?_⟩
      · refine ⟨_, rfl, _, rfl, _, rfl, p, dx, _, rfl, s2 _ _ h1, p, S, dn, un, rfl, L0.same s2, _, _, rfl, rfl, rfl, _, rfl, iteND (by rw [at'.iff]) ⟨rfl, rfl⟩⟩
      rintro σ H2' ⟨rfl, rfl⟩
      have lq1 : q1.length ≤ i := by
        rw [PySem.Paired.length N1]
        exact Nat.le_trans (List.length_filterMap_le _ _) (by rw [List.length_range]; exact Nat.le_refl _)
      have lq2 : q2.length ≤ i := by
        rw [PySem.Paired.length N2]
        exact Nat.le_trans (List.length_filterMap_le _ _) (by rw [List.length_range]; exact Nat.le_refl _)
      obtain ⟨nW, W, _⟩ := id at'
      have ax : isAddrB (.str x.1) = true := W.go.addr g as'
      have eqPt : ∀ C : Pt, PyData.eqv (ptD C) (ptD C) = true := fun C => by unfold ptD; rw [eqv_pt, decide_eq_true_eq]
      refine ⟨_, rfl, _, rfl, ?_⟩
      cases cx : x.2.2 with
      | true =>
        refine iteT ?_
        refine ⟨_, rfl, .inl ⟨rfl, _, SqL.of f1⟩, _, rfl, _, rfl, _, rfl, (by show 3 ≤ sizeLine; decide), fun t ht => ?_⟩
        have s3 := Same.new (o := .tup [.int (0 + (i : Int)), .str x.1, .int x.2.1]) ht
        have e3 : (upd H2' t (.tup [.int (0 + (i : Int)), .str x.1, .int x.2.1])) t = some (.tup [.int (0 + (i : Int)), .str x.1, .int x.2.1]) := upd_same
        generalize upd H2' t (.tup [.int (0 + (i : Int)), .str x.1, .int x.2.1]) = H3 at s3 e3
        have s03 := s2.trans s3
        refine ⟨r1, _, _, rfl, rfl, s3 _ _ f1, by rw [List.length_map, sizeLine_eq]; omega, ?_⟩
        have up : ∀ b u, H b = some u → (upd H3 r1 (.lst (q1.map V.ref ++ [.ref t]))) b = some u := fun b u e => by
          rw [upd_ne (ne_of_none e hr1)]
          exact s03 _ _ e
        have up3 : ∀ b u, H3 b = some u → b ≠ r1 → (upd H3 r1 (.lst (q1.map V.ref ++ [.ref t]))) b = some u := fun b u e nb => by
          rw [upd_ne nb]
          exact e
        have e4 : (upd H3 r1 (.lst (q1.map V.ref ++ [.ref t]))) r1 = some (.lst ((q1 ++ [t]).map V.ref)) := by rw [upd_same, List.map_append]; rfl
        generalize upd H3 r1 (.lst (q1.map V.ref ++ [.ref t])) = H4 at up up3 e4
        have nt : t ≠ r1 := (ne_of_none f1 ht).symm
        obtain ⟨n, en⟩ := (cx ▸ at').rest
        have L4 := L0.same up
        refine ⟨_, rfl, p, dx, _, rfl, up _ _ h1, p, S, dn, un, rfl, L4, fun bk B => ?_⟩
        refine ⟨_, rfl, _, rfl, bk, S.os, s'.1, s'.2, (x.1, x.2.1), n, rfl, B, g, as', s0', by omega, en, fun H5 r s5 g5 e5 => ?_⟩
        refine ⟨_, rfl, _, rfl, (by show 2 ≤ sizeLine; decide), fun q hq => ?_⟩
        have s6 := Same.new (o := .tup [.str x.1, .int x.2.1]) hq
        refine ⟨ptD (x.1, x.2.1), ptD (x.1, x.2.1), dp_pt (s6 _ _ e5), dp_pt upd_same, shaped_pt ax, shaped_pt ax, ?_⟩
        rw [eqPt]
        have s46 := s5.trans s6
        refine ⟨_, rfl, iteF ?_⟩
        refine ⟨fun b u e => s46 _ _ (up _ _ e), q1 ++ [t], q2, s46 _ _ e4, ?_, s46 _ _ (up3 _ _ (s3 _ _ f2) n12.symm), ?_, _, _, _, _, _, _, rfl⟩
        · rw [pickR_step ex, if_pos cx]
          exact Paired.append (N1.keep fun b u e y => s46 _ _ (up3 _ _ (s3 _ _ e) fun w => by rw [w, f1] at e; cases e; cases y)) (.cons (by rw [← z0]; exact s46 _ _ (up3 _ _ e3 nt)) .nil)
        · rw [pickR_step ex, cx, if_neg (by decide), List.append_nil]
          exact N2.keep fun b u e y => s46 _ _ (up3 _ _ (s3 _ _ e) fun w => by rw [w, f1] at e; cases e; cases y)
      | false =>
        refine iteF ?_
        refine ⟨_, rfl, .inl ⟨rfl, _, SqL.of f2⟩, _, rfl, _, rfl, _, rfl, (by show 3 ≤ sizeLine; decide), fun t ht => ?_⟩
        have s3 := Same.new (o := .tup [.int (0 + (i : Int)), .str x.1, .int x.2.1]) ht
        have e3 : (upd H2' t (.tup [.int (0 + (i : Int)), .str x.1, .int x.2.1])) t = some (.tup [.int (0 + (i : Int)), .str x.1, .int x.2.1]) := upd_same
        generalize upd H2' t (.tup [.int (0 + (i : Int)), .str x.1, .int x.2.1]) = H3 at s3 e3
        have s03 := s2.trans s3
        refine ⟨r2, _, _, rfl, rfl, s3 _ _ f2, by rw [List.length_map, sizeLine_eq]; omega, ?_⟩
        have hr20 : H r2 = none := by
          rw [← hr2, upd_ne n12.symm]
        have up : ∀ b u, H b = some u → (upd H3 r2 (.lst (q2.map V.ref ++ [.ref t]))) b = some u := fun b u e => by
          rw [upd_ne (ne_of_none e hr20)]
          exact s03 _ _ e
        have up3 : ∀ b u, H3 b = some u → b ≠ r2 → (upd H3 r2 (.lst (q2.map V.ref ++ [.ref t]))) b = some u := fun b u e nb => by
          rw [upd_ne nb]
          exact e
        have e4 : (upd H3 r2 (.lst (q2.map V.ref ++ [.ref t]))) r2 = some (.lst ((q2 ++ [t]).map V.ref)) := by rw [upd_same, List.map_append]; rfl
        generalize upd H3 r2 (.lst (q2.map V.ref ++ [.ref t])) = H4 at up up3 e4
        have nt : t ≠ r2 := (ne_of_none f2 ht).symm
        have L4 := L0.same up
        refine ⟨_, rfl, _, rfl, (by show 2 ≤ sizeLine; decide), fun q hq => ?_⟩
        have s5 := Same.new (o := .tup [.str x.1, .int x.2.1]) hq
        have e5 : (upd H4 q (.tup [.str x.1, .int x.2.1])) q = some (.tup [.str x.1, .int x.2.1]) := upd_same
        generalize upd H4 q (.tup [.str x.1, .int x.2.1]) = H5 at s5 e5
        refine ⟨_, rfl, p, dx, _, rfl, s5 _ _ (up _ _ h1), p, S, dn, un, rfl, L4.same s5, fun bk B => ?_⟩
        refine ⟨_, rfl, _, rfl, bk, S.os, s'.1, s'.2, 400, rfl, B, g, as', s0', by omega, by decide, fun H6 ps6 s6 P6 g6 l6 hl6 => ?_⟩
        have s7 := Same.new (o := .lst (ps6.map V.ref)) hl6
        have ron : (x.1, x.2.1) ∈ routeL S.os 400 s' := (cx ▸ at').on g s0' d398
        refine ⟨ptD (x.1, x.2.1), (routeL S.os 400 s').map ptD, dp_pt (s7 _ _ (s6 _ _ e5)), .lst (SqL.of upd_same) (pts_dp (P6.mono s7)), shaped_pt ax, ptsD_shaped (fun C hC => by
          obtain ⟨m, _, gm⟩ := routeL_mem.mp hC
          exact gm.addr g as'), ?_⟩
        rw [ptsD_any, decide_eq_true ron]
        refine ⟨_, rfl, iteF ?_⟩
        have s47 := (s5.trans s6).trans s7
        refine ⟨fun b u e => s47 _ _ (up _ _ e), q1, q2 ++ [t], s47 _ _ (up3 _ _ (s3 _ _ f1) n12), ?_, s47 _ _ e4, ?_, _, _, _, _, _, _, rfl⟩
        · rw [pickR_step ex, cx, if_neg (by decide), List.append_nil]
          exact N1.keep fun b u e y => s47 _ _ (up3 _ _ (s3 _ _ e) fun w => by rw [w, f2] at e; cases e; cases y)
        · rw [pickR_step ex, if_pos cx]
          exact Paired.append (N2.keep fun b u e y => s47 _ _ (up3 _ _ (s3 _ _ e) fun w => by rw [w, f2] at e; cases e; cases y)) (.cons (by rw [← z0]; exact s47 _ _ (up3 _ _ e3 nt)) .nil)
    · rintro σ H2 ⟨s2, q1, q2, f1, N1, f2, N2, v4, v5, v6, v7, v8, v9, rfl⟩
      rw [show (pickR true S.rows _) = pickR true S.rows S.rows.length from by congr 1; simp; omega] at N1
      rw [show (pickR false S.rows _) = pickR false S.rows S.rows.length from by congr 1; simp; omega] at N2
      have adr : ∀ x ∈ S.rows, isAddrB (.str x.1) = true := fun x hx => by
        obtain ⟨i, ei⟩ := List.mem_iff_getElem?.mp hx
        have hi := (List.getElem?_eq_some_iff.mp ei).1
        obtain ⟨s', es'⟩ : ∃ s', pts[i]? = some s' := ⟨pts[i]'(by omega), by simp [show i < pts.length by omega]⟩
        obtain ⟨⟨n, W, _⟩, a1, _⟩ := ats i s' x es' ei
        exact W.go.addr g a1
      have sh : ∀ b, SeqAt.shaped (.list ((pickR b S.rows S.rows.length).map numD)) = true ∧ (PyData.list ((pickR b S.rows S.rows.length).map numD)).canLay0 = true := fun b => by
        have a3 : PyData.canLayAll0 ((pickR b S.rows S.rows.length).map numD) = true := layAll fun y hy => by
          simp only [numD, PyData.canLay0, PyData.canLayAll0, strOk_addr (adr _ (pickR_mem hy).1), Bool.and_true]
        have d3 : PyData.depthAll ((pickR b S.rows S.rows.length).map numD) ≤ 2 := depthAll_le (f := numD) (fun o => by simp [numD, PyData.depth, PyData.depthAll]) _
        refine ⟨?_, by simp only [PyData.canLay0, a3]⟩
        show ((PyData.list ((pickR b S.rows S.rows.length).map numD)).canLay0 && decide ((PyData.list ((pickR b S.rows S.rows.length).map numD)).depth ≤ 64)) = true
        simp only [PyData.canLay0, PyData.depth, a3, Bool.true_and]
        exact decide_eq_true (by omega)
      refine ⟨_, rfl, p, dx, _, rfl, s2 _ _ h1, p, S, dn, un, rfl, L0.same s2, by omega, fun H3 l1 w1 s3 g3 e3 M3 => ?_⟩
      refine ⟨_, rfl, _, _, .lst (SqL.of e3) (num_dp M3), .lst (SqL.of (s3 _ _ f1)) (num_dp (N1.keep fun b u e _ => s3 _ _ e)), (sh true).1, (sh true).1, ?_⟩
      rw [PySem.SeqAt.eqv_refl _ (sh true).2]
      refine ⟨_, rfl, iteT ?_⟩
      refine ⟨_, rfl, p, dx, _, rfl, s3 _ _ (s2 _ _ h1), p, S, dn, un, rfl, (L0.same s2).same s3, by omega, fun H4 l2 w2 s4 g4 e4 M4 => ?_⟩
      have s34 := s3.trans s4
      refine ⟨_, rfl, _, _, .lst (SqL.of e4) (num_dp M4), .lst (SqL.of (s34 _ _ f2)) (num_dp (N2.keep fun b u e _ => s34 _ _ e)), (sh false).1, (sh false).1, ?_⟩
      rw [PySem.SeqAt.eqv_refl _ (sh false).2]
      exact kk _ (s2.trans s34)
end

end MF
set_option Elab.async false
set_option linter.all false
set_option maxRecDepth 100000
set_option maxHeartbeats 2000000
set_option pp.maxSteps 600
namespace MF
open PySem PySem.Spec PyProof.Rows L2 StX
section
variable {P : Program} {w : World} {K : PySem.W.Frag} {mg : Str → Option Value} {base : Heap} {C_Book C_Letter C_LivePost : Addr}
theorem ords_dp {H : Hp} {as : List Addr} {os : List Ordr} (h : OrdsAt K H as os) : DpAll K H (as.map V.ref) (os.map ordD8) := dpAll (r := OrdAt K H) (fun a o oa => .tup oa (.cons (.str _) (.cons (.str _) (.cons (.int _) (.cons (.int _) (.cons (.int _) .nil)))))) h
theorem ordsD_shaped {ls : List Ordr} (h : ∀ o ∈ ls, o.Ok) : SeqAt.shaped (.list (ls.map ordD8)) = true := by
  have a1 : PyData.canLayAll0 (ls.map ordD8) = true := layAll fun o ho => by
    have g := h o ho
    simp only [ordD8, PyData.canLay0, PyData.canLayAll0, strOk_addr g.as, strOk_addr g.at_, Bool.and_true]
  have d1 := depthAll_le (f := ordD8) (fun o => by simp [ordD8, PyData.depth, PyData.depthAll]) ls
  show ((PyData.list (ls.map ordD8)).canLay0 && decide ((PyData.list (ls.map ordD8)).depth ≤ 64)) = true
  simp only [PyData.canLay0, PyData.depth, a1, Bool.true_and]
  exact decide_eq_true (by omega)
theorem OrdAt.kept {H H' : Hp} {x : Addr} {o : Ordr} (h : OrdAt K H x o) (k : ∀ b u, H b = some u → tupl u = true → H' b = some u) : OrdAt K H' x o := by
  have h1 : OrdsAt K H' [x] [o] := OrdsAt.keepR (.cons h .nil) k
  cases h1 with
  | cons a b => exact a
theorem OrdAt.put {H : Hp} {x lt : Addr} {o : Ordr} {xs ys : List V} (h : OrdAt K H x o) (e : H lt = some (.lst xs)) : OrdAt K (upd H lt (.lst ys)) x o := h.kept fun b u eb y => by
  rw [upd_ne fun w => by rw [w, e] at eb; cases eb; cases y]
  exact eb
theorem atI_last {l : List V} {x : V} : atI (l ++ [x]) (-1) = some x := by
  unfold atI
  have e1 : ixN (l ++ [x]).length (-1) = some l.length := by
    unfold ixN
    rw [if_neg (by decide)]
    simp
    omega
  rw [e1]
  simp
theorem pair_take {α β : Type} {R : α → β → Prop} : ∀ {l : List α} {r : List β}, PySem.Paired R l r → ∀ n, PySem.Paired R (l.take n) (r.take n)
  | _, _, .nil, n => by rw [List.take_nil, List.take_nil]; exact .nil
  | _, _, .cons h t, 0 => .nil
  | _, _, .cons h t, n + 1 => .cons h (pair_take t n)
theorem pair_drop {α β : Type} {R : α → β → Prop} : ∀ {l : List α} {r : List β}, PySem.Paired R l r → ∀ n, PySem.Paired R (l.drop n) (r.drop n)
  | _, _, .nil, n => by rw [List.drop_nil, List.drop_nil]; exact .nil
  | _, _, .cons h t, 0 => .cons h t
  | _, _, .cons h t, n + 1 => pair_drop t n
theorem KB.lst {CB z : Addr} {xs : List V} {H H' : Hp} (h : H z = some (.lst xs)) (k : KeepR z H H') : KB K CB H H' := ⟨fun b u e y => k _ _ e (fun w => by rw [w, h] at e; cases e; cases y), fun bk os B => B.keep ⟨_, h, (fun _ z => by cases z), (fun _ _ z => by cases z)⟩ (fun w => by
  obtain ⟨d1, d2, d3, d4, _⟩ := B
  rw [w, h] at d4
  cases d4) k⟩
theorem LivAt.kb {CB CL p : Addr} {H H' : Hp} {S : Scn} {dn un : List (Scn × Scn)} (L : LivAt K CB CL H p S dn un) (k : KeepR p H H') : KB K CB H H' := by
  obtain ⟨dx, sc, d, u, ks, kd, ku, h1, _⟩ := L
  exact KB.live h1 k
theorem LivAt.not_lst {CB CL p b : Addr} {xs : List V} {H : Hp} {S : Scn} {dn un : List (Scn × Scn)} (L : LivAt K CB CL H p S dn un) (h : H b = some (.lst xs)) : b ≠ p := fun w => by
  obtain ⟨dx, sc, d, u, ks, kd, ku, h1, _⟩ := L
  rw [w, h1] at h
  cases h
def DN (sc : Nat → Scn) (n : Nat) : List (Scn × Scn) := (List.range n).map fun k => (sc k, sc (k + 1))
theorem DN_len {sc : Nat → Scn} {n : Nat} : (DN sc n).length = n := by simp [DN]
theorem DN_succ {sc : Nat → Scn} {n : Nat} : DN sc (n + 1) = DN sc n ++ [(sc n, sc (n + 1))] := by
  unfold DN
  rw [List.range_succ, List.map_append]
  rfl
theorem DN_congr {sc sc' : Nat → Scn} {n : Nat} (h : ∀ k, k ≤ n → sc' k = sc k) : DN sc' n = DN sc n := by
  unfold DN
  refine List.map_congr_left fun k hk => ?_
  have := List.mem_range.mp hk
  rw [h k (by omega), h (k + 1) (by omega)]
def UN (sc : Nat → Scn) (n j : Nat) : List (Scn × Scn) := (List.range j).map fun k => (sc (n - 1 - k), sc (n - 1 - k + 1))
theorem UN_len {sc : Nat → Scn} {n j : Nat} : (UN sc n j).length = j := by simp [UN]
theorem UN_succ {sc : Nat → Scn} {n j : Nat} : UN sc n (j + 1) = UN sc n j ++ [(sc (n - 1 - j), sc (n - 1 - j + 1))] := by
  unfold UN
  rw [List.range_succ, List.map_append]
  rfl
def Bd (rw lt pl sl : Addr) (b : Addr) : Prop := b ≠ rw ∧ b ≠ lt ∧ b ≠ pl ∧ b ≠ sl
def StAt (K : PySem.W.Frag) (B : Addr → Prop) (H : Hp) (sl : Addr) (sc : Nat → Scn) (qs : List Addr) : Prop := H sl = some (.lst (qs.map V.ref)) ∧ ∀ (k : Nat) q, qs[k]? = some q → ∃ b c, H q = some (.tup [.ref b, .ref c]) ∧ SeenAt K B H b (sc k) k ∧ SeenAt K B H c (sc (k + 1)) (k + 1)
theorem StAt.keep {B : Addr → Prop} {H H' : Hp} {sl : Addr} {sc : Nat → Scn} {qs : List Addr} (h : StAt K B H sl sc qs) (hs : ∀ u, H sl = some u → H' sl = some u) (kt : ∀ b u, H b = some u → tupl u = true → H' b = some u) (kl : ∀ b xs, H b = some (.lst xs) → B b → H' b = some (.lst xs)) : StAt K B H' sl sc qs :=
  ⟨hs _ h.1, fun k q e => let ⟨b, c, h1, h2, h3⟩ := h.2 k q e; ⟨b, c, kt _ _ h1 rfl, h2.keep kt kl, h3.keep kt kl⟩⟩
theorem StAt.congr {B : Addr → Prop} {H : Hp} {sl : Addr} {sc sc' : Nat → Scn} {qs : List Addr} (h : StAt K B H sl sc qs) (e : ∀ k, k ≤ qs.length → sc' k = sc k) : StAt K B H sl sc' qs :=
  ⟨h.1, fun k q eq => by
    have hk := (List.getElem?_eq_some_iff.mp eq).1
    rw [e k (by omega), e (k + 1) (by omega)]
    exact h.2 k q eq⟩
structure W15 (K : PySem.W.Frag) (CB CL rw a p lt pl sl : Addr) (ns : List Int) (H0 H : Hp) (S : Scn) (dn un : List (Scn × Scn)) (as : List Addr) (ls : List Ordr) (ps : List Addr) (pts : List Pt) (sc : Nat → Scn) (qs : List Addr) (bs : List (Addr × Scn × Nat)) : Prop where
  s0 : Same H0 H
  row : RowAt K H rw a ns
  live : LivAt K CB CL H p S dn un
  lat : H lt = some (.lst (as.map V.ref))
  lor : OrdsAt K H as ls
  pos : H pl = some (.lst (ps.map V.ref))
  ppt : PtsAt H ps pts
  stp : StAt K (Bd rw lt pl sl) H sl sc qs
  seen : ∀ x ∈ bs, SeenAt K (Bd rw lt pl sl) H x.1 x.2.1 x.2.2
structure F15 (K : PySem.W.Frag) (rw a p lt pl sl : Addr) (ns : List Int) (H0 : Hp) : Prop where
  scr : SqL K H0 a (ns.map V.int)
  f1 : H0 rw = none
  f2 : H0 p = none
  f3 : H0 lt = none
  f4 : H0 pl = none
  f5 : H0 sl = none
  n1 : lt ≠ rw
  n2 : pl ≠ rw
  n3 : sl ≠ rw
  n4 : lt ≠ pl
  n5 : lt ≠ sl
  n6 : pl ≠ sl
section
variable {CB CL rw a p lt pl sl : Addr} {ns : List Int} {H0 H H' : Hp} {S S' : Scn} {dn un dn' un' : List (Scn × Scn)} {as : List Addr} {ls : List Ordr} {ps : List Addr} {pts : List Pt} {sc : Nat → Scn} {qs : List Addr} {bs : List (Addr × Scn × Nat)}
theorem W15.same (W : W15 K CB CL rw a p lt pl sl ns H0 H S dn un as ls ps pts sc qs bs) (s : Same H H') : W15 K CB CL rw a p lt pl sl ns H0 H' S dn un as ls ps pts sc qs bs :=
  ⟨W.s0.trans s, W.row.keep s, W.live.same s, s _ _ W.lat, W.lor.mono s, s _ _ W.pos, W.ppt.mono s, W.stp.keep (fun u e => s _ _ e) (fun b u e _ => s _ _ e) (fun b xs e _ => s _ _ e), fun x hx => (W.seen x hx).keep (fun b u e _ => s _ _ e) (fun b xs e _ => s _ _ e)⟩
theorem W15.rowed (W : W15 K CB CL rw a p lt pl sl ns H0 H S dn un as ls ps pts sc qs bs) (F : F15 K rw a p lt pl sl ns H0) (R : RowAt K H' rw a ns) (k : KeepR rw H H') : W15 K CB CL rw a p lt pl sl ns H0 H' S dn un as ls ps pts sc qs bs := by
  obtain ⟨xs, hx⟩ := W.row.ex
  have kb : KB K CB H H' := KB.lst hx k
  have kl : ∀ b xs, H b = some (.lst xs) → Bd rw lt pl sl b → H' b = some (.lst xs) := fun b xs e hb => k _ _ e hb.1
  exact ⟨fun b u e => k _ _ (W.s0 _ _ e) (ne_of_none e F.f1), R, W.live.keep (fun u e => k _ _ e (W.live.not_lst hx).symm) kb, k _ _ W.lat F.n1, W.lor.keepR kb.tup, k _ _ W.pos F.n2, W.ppt.keep kb.tup, W.stp.keep (fun u e => k _ _ e F.n3) kb.tup kl, fun x hx => (W.seen x hx).keep kb.tup kl⟩
theorem W15.lived (W : W15 K CB CL rw a p lt pl sl ns H0 H S dn un as ls ps pts sc qs bs) (F : F15 K rw a p lt pl sl ns H0) (L : LivAt K CB CL H' p S' dn' un') (k : KeepR p H H') : W15 K CB CL rw a p lt pl sl ns H0 H' S' dn' un' as ls ps pts sc qs bs := by
  have kb : KB K CB H H' := W.live.kb k
  have kl' : ∀ b xs, H b = some (.lst xs) → H' b = some (.lst xs) := fun b xs e => k _ _ e (W.live.not_lst e)
  have s0 : Same H0 H' := fun b u e => k _ _ (W.s0 _ _ e) (ne_of_none e F.f2)
  exact ⟨s0, W.row.other F.scr F.f1 s0 (fun u e => k _ _ e (by
    obtain ⟨xs, hx⟩ := W.row.ex
    exact W.live.not_lst hx)), L, kl' _ _ W.lat, W.lor.keepR kb.tup, kl' _ _ W.pos, W.ppt.keep kb.tup, W.stp.keep (fun u e => by
      have e' := W.stp.1
      rw [e'] at e
      cases e
      exact kl' _ _ e') kb.tup (fun b xs e _ => kl' _ _ e), fun x hx => (W.seen x hx).keep kb.tup (fun b xs e _ => kl' _ _ e)⟩
theorem W15.popped {o : Ordr} {x : Addr} (W : W15 K CB CL rw a p lt pl sl ns H0 H S dn un (x :: as) (o :: ls) ps pts sc qs bs) (F : F15 K rw a p lt pl sl ns H0) : W15 K CB CL rw a p lt pl sl ns H0 (upd H lt (.lst (as.map V.ref))) S dn un as ls ps pts sc qs bs := by
  have k : KeepR lt H (upd H lt (.lst (as.map V.ref))) := fun b u e nb => by rw [upd_ne nb]; exact e
  have e' : (upd H lt (.lst (as.map V.ref))) lt = some (.lst (as.map V.ref)) := upd_same
  generalize upd H lt (.lst (as.map V.ref)) = H' at k e'
  have kb : KB K CB H H' := KB.lst W.lat k
  have kl : ∀ b xs, H b = some (.lst xs) → Bd rw lt pl sl b → H' b = some (.lst xs) := fun b xs e hb => k _ _ e hb.2.1
  have s0 : Same H0 H' := fun b u e => k _ _ (W.s0 _ _ e) (ne_of_none e F.f3)
  have lo := W.lor
  cases lo with
  | cons h1 h2 => exact ⟨s0, W.row.other F.scr F.f1 s0 (fun u e => k _ _ e F.n1.symm), W.live.keep (fun u e => k _ _ e (W.live.not_lst W.lat).symm) kb, e', OrdsAt.keepR h2 kb.tup, k _ _ W.pos F.n4.symm, W.ppt.keep kb.tup, W.stp.keep (fun u e => k _ _ e F.n5.symm) kb.tup kl, fun x hx => (W.seen x hx).keep kb.tup kl⟩
theorem W15.posted {q : Addr} {s : Pt} (W : W15 K CB CL rw a p lt pl sl ns H0 H S dn un as ls ps pts sc qs bs) (F : F15 K rw a p lt pl sl ns H0) (hq : H q = some (.tup [.str s.1, .int s.2])) : W15 K CB CL rw a p lt pl sl ns H0 (upd H pl (.lst (ps.map V.ref ++ [V.ref q]))) S dn un as ls (ps ++ [q]) (pts ++ [s]) sc qs bs := by
  have k : KeepR pl H (upd H pl (.lst (ps.map V.ref ++ [V.ref q]))) := fun b u e nb => by rw [upd_ne nb]; exact e
  have e' : (upd H pl (.lst (ps.map V.ref ++ [V.ref q]))) pl = some (.lst ((ps ++ [q]).map V.ref)) := by rw [upd_same, List.map_append]; rfl
  generalize upd H pl (.lst (ps.map V.ref ++ [V.ref q])) = H' at k e'
  have kb : KB K CB H H' := KB.lst W.pos k
  have kl : ∀ b xs, H b = some (.lst xs) → Bd rw lt pl sl b → H' b = some (.lst xs) := fun b xs e hb => k _ _ e hb.2.2.1
  have s0 : Same H0 H' := fun b u e => k _ _ (W.s0 _ _ e) (ne_of_none e F.f4)
  exact ⟨s0, W.row.other F.scr F.f1 s0 (fun u e => k _ _ e F.n2.symm), W.live.keep (fun u e => k _ _ e (W.live.not_lst W.pos).symm) kb, k _ _ W.lat F.n4, W.lor.keepR kb.tup, e', Paired.append (W.ppt.keep kb.tup) (.cons (kb.tup _ _ hq rfl) .nil), W.stp.keep (fun u e => k _ _ e F.n6.symm) kb.tup kl, fun x hx => (W.seen x hx).keep kb.tup kl⟩
theorem W15.noted {q b c : Addr} (W : W15 K CB CL rw a p lt pl sl ns H0 H S dn un as ls ps pts sc qs bs) (F : F15 K rw a p lt pl sl ns H0) (hq : H q = some (.tup [.ref b, .ref c])) (h1 : (b, sc qs.length, qs.length) ∈ bs) (h2 : (c, sc (qs.length + 1), qs.length + 1) ∈ bs) :
    W15 K CB CL rw a p lt pl sl ns H0 (upd H sl (.lst (qs.map V.ref ++ [V.ref q]))) S dn un as ls ps pts sc (qs ++ [q]) [] := by
  have k : KeepR sl H (upd H sl (.lst (qs.map V.ref ++ [V.ref q]))) := fun b u e nb => by rw [upd_ne nb]; exact e
  have e' : (upd H sl (.lst (qs.map V.ref ++ [V.ref q]))) sl = some (.lst ((qs ++ [q]).map V.ref)) := by rw [upd_same, List.map_append]; rfl
  generalize upd H sl (.lst (qs.map V.ref ++ [V.ref q])) = H' at k e'
  have kb : KB K CB H H' := KB.lst W.stp.1 k
  have kl : ∀ b xs, H b = some (.lst xs) → Bd rw lt pl sl b → H' b = some (.lst xs) := fun b xs e hb => k _ _ e hb.2.2.2
  have s0 : Same H0 H' := fun b u e => k _ _ (W.s0 _ _ e) (ne_of_none e F.f5)
  refine ⟨s0, W.row.other F.scr F.f1 s0 (fun u e => k _ _ e F.n3.symm), W.live.keep (fun u e => k _ _ e (W.live.not_lst W.stp.1).symm) kb, k _ _ W.lat F.n5, W.lor.keepR kb.tup, k _ _ W.pos F.n6, W.ppt.keep kb.tup, ⟨e', fun j q' ej => ?_⟩, fun x hx => by cases hx⟩
  by_cases hj : j < qs.length
  · rw [List.getElem?_append_left hj] at ej
    obtain ⟨b', c', g1, g2, g3⟩ := W.stp.2 j q' ej
    exact ⟨b', c', kb.tup _ _ g1 rfl, g2.keep kb.tup kl, g3.keep kb.tup kl⟩
  · rw [List.getElem?_append_right (by omega)] at ej
    have hj2 : j = qs.length := by
      have := (List.getElem?_eq_some_iff.mp ej).1
      simp at this
      omega
    subst hj2
    simp at ej
    subst ej
    exact ⟨b, c, kb.tup _ _ hq rfl, (W.seen _ h1).keep kb.tup kl, (W.seen _ h2).keep kb.tup kl⟩
theorem W15.sub {bs' : List (Addr × Scn × Nat)} (W : W15 K CB CL rw a p lt pl sl ns H0 H S dn un as ls ps pts sc qs bs) (h : ∀ x ∈ bs', x ∈ bs) : W15 K CB CL rw a p lt pl sl ns H0 H S dn un as ls ps pts sc qs bs' := ⟨W.s0, W.row, W.live, W.lat, W.lor, W.pos, W.ppt, W.stp, fun x hx => W.seen x (h x hx)⟩
theorem W15.congr {sc' : Nat → Scn} (W : W15 K CB CL rw a p lt pl sl ns H0 H S dn un as ls ps pts sc qs bs) (e : ∀ k, k ≤ qs.length → sc' k = sc k) : W15 K CB CL rw a p lt pl sl ns H0 H S dn un as ls ps pts sc' qs bs := ⟨W.s0, W.row, W.live, W.lat, W.lor, W.pos, W.ppt, W.stp.congr e, W.seen⟩
theorem W15.saw {t : Addr} {n : Nat} (W : W15 K CB CL rw a p lt pl sl ns H0 H S dn un as ls ps pts sc qs bs) (s : Same H H') (h : SeenAt K (fun b => H b = none) H' t S n) : W15 K CB CL rw a p lt pl sl ns H0 H' S dn un as ls ps pts sc qs ((t, S, n) :: bs) := by
  have W' := W.same s
  refine ⟨W'.s0, W'.row, W'.live, W'.lat, W'.lor, W'.pos, W'.ppt, W'.stp, fun x hx => ?_⟩
  rcases List.mem_cons.mp hx with rfl | hx
  · obtain ⟨xs, hr⟩ := W.row.ex
    exact h.imp fun b hb => ⟨(ne_of_none hr hb).symm, (ne_of_none W.lat hb).symm, (ne_of_none W.pos hb).symm, (ne_of_none W.stp.1 hb).symm⟩
  · exact W'.seen x hx
end
structure P15 (S : Scn) (ls : List Ordr) (pts : List Pt) (i : Nat) : Prop where
  good : Good (S.os ++ ls)
  d0 : 0 ≤ S.day
  d1 : S.day ≤ 11 * (i : Int)
  rl : S.rows.length ≤ i
  pl : pts.length = S.rows.length
  at_ : ∀ (k : Nat) s x, pts[k]? = some s → S.rows[k]? = some x → At S.os S.day s (x.1, x.2.1) x.2.2 ∧ isAddrB (.str s.1) = true ∧ 0 ≤ s.2 ∧ s.2 ≤ 1000
theorem Good.left {os ls : List Ordr} (g : Good (os ++ ls)) : Good os := ⟨by have := g.len; rw [List.length_append] at this; omega, fun o ho => g.ok o (List.mem_append_left _ ho), (List.pairwise_append.mp g.apart).1⟩
theorem Good.drop1 {os ls : List Ordr} {o : Ordr} (g : Good (os ++ o :: ls)) : Good (os ++ ls) := by
  refine ⟨by have := g.len; simp only [List.length_append, List.length_cons] at *; omega, fun q hq => g.ok q ?_, g.apart.sublist (List.Sublist.append_left (List.sublist_cons_self o ls) os)⟩
  rcases List.mem_append.mp hq with h | h
  · exact List.mem_append_left _ h
  · exact List.mem_append_right _ (List.mem_cons_of_mem _ h)
theorem P15.give {S : Scn} {o : Ordr} {ls : List Ordr} {pts : List Pt} {i : Nat} (h : P15 S (o :: ls) pts i) (ho : S.day < o.first) : P15 ⟨S.day, S.os ++ [o], S.rows⟩ ls pts (i + 1) :=
  ⟨by have := h.good; rw [List.append_cons] at this; exact this, h.d0, by have := h.d1; show S.day ≤ _; omega, Nat.le_succ_of_le h.rl, h.pl, fun k s x e1 e2 => by
    obtain ⟨a1, a2⟩ := h.at_ k s x e1 e2
    exact ⟨a1.more ho, a2⟩⟩
theorem P15.drop {S : Scn} {o : Ordr} {ls : List Ordr} {pts : List Pt} {i : Nat} (h : P15 S (o :: ls) pts i) : P15 S ls pts i := ⟨h.good.drop1, h.d0, h.d1, h.rl, h.pl, h.at_⟩
theorem P15.succ {S : Scn} {ls : List Ordr} {pts : List Pt} {i j : Nat} (h : P15 S ls pts i) (ij : i ≤ j) : P15 S ls pts j := ⟨h.good, h.d0, by have := h.d1; omega, Nat.le_trans h.rl ij, h.pl, h.at_⟩
theorem P15.post {S : Scn} {ls : List Ordr} {pts : List Pt} {i : Nat} {x : Str} {t : Pt} {r : Bool} (h : P15 S ls pts i) (hi : i ≤ 12) (ax : isAddrB (.str x) = true) (ha : At S.os S.day (x, S.day) t r) : P15 ⟨S.day, S.os, S.rows ++ [(t.1, t.2, r)]⟩ ls (pts ++ [(x, S.day)]) (i + 1) := by
  refine ⟨h.good, h.d0, by have := h.d1; show S.day ≤ _; omega, by have := h.rl; simp; omega, by have := h.pl; simp; omega, fun k s y e1 e2 => ?_⟩
  have hpl := h.pl
  change (S.rows ++ [(t.1, t.2, r)])[k]? = some y at e2
  by_cases hk : k < pts.length
  · rw [List.getElem?_append_left hk] at e1
    rw [List.getElem?_append_left (by omega)] at e2
    exact h.at_ k s y e1 e2
  · rw [List.getElem?_append_right (by omega)] at e1 e2
    have hk2 := (List.getElem?_eq_some_iff.mp e1).1
    simp at hk2
    have z1 : k - pts.length = 0 := by omega
    have z2 : k - S.rows.length = 0 := by omega
    rw [z1] at e1
    rw [z2] at e2
    simp at e1 e2
    subst e1
    subst e2
    have := h.d1
    exact ⟨ha, ax, h.d0, by show S.day ≤ 1000; omega⟩
theorem P15.pass {S : Scn} {ls : List Ordr} {pts : List Pt} {i : Nat} {c : Int} {rows' : List LRow} (h : P15 S ls pts i) (c0 : 0 ≤ c) (c1 : c ≤ 11) (hp : Passed S.os (S.day + c) S.rows rows') : P15 ⟨S.day + c, S.os, rows'⟩ ls pts (i + 1) := by
  have hl : S.rows.length = rows'.length := PySem.Paired.length hp
  refine ⟨h.good, by have := h.d0; show 0 ≤ S.day + c; omega, by have := h.d1; show S.day + c ≤ _; omega, by have := h.rl; show rows'.length ≤ _; omega, by have := h.pl; show pts.length = rows'.length; omega, fun k s y e1 e2 => ?_⟩
  have e2' : rows'[k]? = some y := e2
  have hk := (List.getElem?_eq_some_iff.mp e2').1
  obtain ⟨x, ex⟩ : ∃ x, S.rows[k]? = some x := ⟨S.rows[k]'(by omega), by simp [show k < S.rows.length by omega]⟩
  obtain ⟨y', ey', hy⟩ := Paired.get hp ex
  rw [e2'] at ey'
  cases ey'
  obtain ⟨a1, a2⟩ := h.at_ k s x e1 ex
  refine ⟨?_, a2⟩
  rcases hy with ⟨z1, rfl⟩ | ⟨z1, z2⟩
  · rw [z1] at a1 ⊢
    exact a1.stays (by show S.day ≤ S.day + c; omega)
  · exact a1.goes (by show S.day ≤ S.day + c; omega) z2
end

end MF
set_option Elab.async false
set_option linter.all false
set_option maxRecDepth 100000
set_option maxHeartbeats 2000000
set_option pp.maxSteps 600
namespace MF
open PySem PySem.Spec PyProof.Rows L2 StX
section
variable {P : Program} {w : World} {K : PySem.W.Frag} {mg : Str → Option Value} {base : Heap} {C_Book C_Letter C_LivePost : Addr}
theorem pickR_mem_iff {b : Bool} {rows : List LRow} {n : Nat} {z : Nat} (hn : rows.length ≤ n) : z ∈ (pickR b rows n).map (·.1) ↔ ∃ x, rows[z]? = some x ∧ x.2.2 = b := by
  rw [List.mem_map]
  constructor
  · rintro ⟨y, hy, rfl⟩
    exact ⟨_, (pickR_mem hy).2, rfl⟩
  · rintro ⟨x, ex, hx⟩
    refine ⟨(z, x.1, x.2.1), ?_, rfl⟩
    unfold pickR
    refine List.mem_filterMap.mpr ⟨z, List.mem_range.mpr ?_, ?_⟩
    · have := (List.getElem?_eq_some_iff.mp ex).1
      omega
    · rw [ex]
      show (if x.2.2 = b then some (z, x.1, x.2.1) else none) = _
      rw [if_pos hx]
theorem pickR_lt {b : Bool} {rows : List LRow} {n : Nat} : ((pickR b rows n).map (·.1)).Pairwise (· < ·) := by
  rw [List.pairwise_map]
  unfold pickR
  rw [List.pairwise_filterMap]
  refine List.pairwise_lt_range.imp fun {i j} h y hy z hz => ?_
  have g : ∀ {i : Nat} {y : Nat × Str × Int}, (rows[i]?.bind fun x => if x.2.2 = b then some (i, x.1, x.2.1) else none) = some y → y.1 = i := fun {i y} e => by
    cases q : rows[i]? with
    | none => rw [q] at e; cases e
    | some x =>
      rw [q] at e
      change (if x.2.2 = b then some (i, x.1, x.2.1) else none) = some y at e
      by_cases c : x.2.2 = b
      · rw [if_pos c] at e; cases e; rfl
      · rw [if_neg c] at e; cases e
  rw [g hy, g hz]
  exact h
theorem newR_mem {rows rows' : List LRow} {n z : Nat} : z ∈ newR rows rows' n ↔ z < n ∧ (∃ y, rows'[z]? = some y ∧ y.2.2 = true) ∧ (∃ x, rows[z]? = some x ∧ x.2.2 = false) := by
  unfold newR
  rw [List.mem_filter, List.mem_range]
  refine and_congr_right fun _ => ?_
  cases q : rows'[z]? with
  | none => simp
  | some y =>
    cases q2 : rows[z]? with
    | none => simp
    | some x => simp
theorem newR_nodup {rows rows' : List LRow} {n : Nat} : (newR rows rows' n).Nodup := List.nodup_range.sublist List.filter_sublist
def natI (l : List Nat) : List Int := l.map fun (i : Nat) => (i : Int)
theorem natI_nodup {l : List Nat} (h : l.Nodup) : (natI l).Nodup := by
  unfold natI List.Nodup
  rw [List.pairwise_map]
  exact h.imp fun h e => h (by omega)
theorem rest_all {os : List Ordr} {td : Int} {rows rows' : List LRow} {ns : List Nat} (hp : Passed os td rows rows') (pm : ns.Perm (newR rows rows' rows.length)) {zs : List Int}
    (pz : zs.Perm (natI ns ++ natI ((pickR true rows rows.length).map (·.1)))) (sz : zs.Pairwise (· ≤ ·)) : zs = natI ((pickR true rows' rows'.length).map (·.1)) := by
  have hl : rows.length = rows'.length := PySem.Paired.length hp
  have h1 : (natI ns ++ natI ((pickR true rows rows.length).map (·.1))).Nodup := by
    refine List.nodup_append.mpr ⟨natI_nodup (pm.nodup_iff.mpr newR_nodup), natI_nodup (pickR_lt.imp fun h => Nat.ne_of_lt h), fun a ha b hb e => ?_⟩
    obtain ⟨i, hi, rfl⟩ := List.mem_map.mp ha
    obtain ⟨j, hj, e2⟩ := List.mem_map.mp hb
    have ij : i = j := by omega
    subst ij
    obtain ⟨_, _, x, ex, xf⟩ := newR_mem.mp (pm.mem_iff.mp hi)
    obtain ⟨x', ex', xt⟩ := (pickR_mem_iff (Nat.le_refl _)).mp hj
    rw [ex] at ex'
    cases ex'
    rw [xf] at xt
    cases xt
  refine sorted_eq ((sz.and (pz.nodup_iff.mpr h1)).imp fun {a b} h => by have := h.1; have := h.2; omega) ?_ fun z => ?_
  · unfold natI
    rw [List.pairwise_map]
    exact pickR_lt.imp fun h => by omega
  · rw [pz.mem_iff, List.mem_append]
    unfold natI
    rw [List.mem_map, List.mem_map, List.mem_map]
    constructor
    · rintro (⟨i, hi, e⟩ | ⟨i, hi, e⟩)
      · obtain ⟨_, hy, _⟩ := newR_mem.mp (pm.mem_iff.mp hi)
        exact ⟨i, (pickR_mem_iff (Nat.le_refl _)).mpr hy, e⟩
      · obtain ⟨x, ex, xt⟩ := (pickR_mem_iff (Nat.le_refl _)).mp hi
        obtain ⟨y, ey, hy⟩ := Paired.get hp ex
        refine ⟨i, (pickR_mem_iff (Nat.le_refl _)).mpr ⟨y, ey, ?_⟩, e⟩
        rcases hy with ⟨_, rfl⟩ | ⟨z1, _⟩
        · exact xt
        · rw [z1] at xt; cases xt
    · rintro ⟨i, hi, e⟩
      obtain ⟨y, ey, yt⟩ := (pickR_mem_iff (Nat.le_refl _)).mp hi
      have hi2 := (List.getElem?_eq_some_iff.mp ey).1
      obtain ⟨x, ex⟩ : ∃ x, rows[i]? = some x := ⟨rows[i]'(by omega), by simp [show i < rows.length by omega]⟩
      cases xb : x.2.2 with
      | true => exact .inr ⟨i, (pickR_mem_iff (Nat.le_refl _)).mpr ⟨x, ex, xb⟩, e⟩
      | false => exact .inl ⟨i, pm.mem_iff.mpr (newR_mem.mpr ⟨by omega, ⟨y, ey, yt⟩, x, ex, xb⟩), e⟩
def Gs (S : Scn) : Prop := Good S.os ∧ (∀ x ∈ S.rows, isAddrB (.str x.1) = true) ∧ S.rows.length ≤ 1000
theorem P15.gs {S : Scn} {ls : List Ordr} {pts : List Pt} {i : Nat} (h : P15 S ls pts i) (hi : i ≤ 1000) : Gs S := ⟨h.good.left, (fun x hx => by
  obtain ⟨j, ej⟩ := List.mem_iff_getElem?.mp hx
  have hj := (List.getElem?_eq_some_iff.mp ej).1
  have hp := h.pl
  obtain ⟨s', es'⟩ : ∃ s', pts[j]? = some s' := ⟨pts[j]'(by omega), by simp [show j < pts.length by omega]⟩
  obtain ⟨⟨n, W, _⟩, a1, _⟩ := h.at_ j s' x es' ej
  exact W.go.addr h.good.left a1), Nat.le_trans h.rl hi⟩
theorem natI_V (l : List Nat) : (natI l).map V.int = l.map fun (i : Nat) => V.int (i : Nat) := by
  unfold natI
  rw [List.map_map]
  rfl
end

end MF
set_option Elab.async false
set_option linter.all false
set_option maxRecDepth 100000
set_option maxHeartbeats 2000000
set_option pp.maxSteps 600
namespace MF
open PySem PySem.Spec PyProof.Rows L2 StX
section
variable {P : Program} {w : World} {K : PySem.W.Frag} {mg : Str → Option Value} {base : Heap} {C_Book C_Letter C_LivePost : Addr}
def spBookLen (K : PySem.W.Frag) (C : Addr) : Sp := fun vs H Q _ => ∃ p os, vs = [.ref p] ∧ BookAt K C H p os ∧ Q (.int (os.length : Nat)) H
theorem ok_book_len (T : Top K mg C_Book C_Letter C_LivePost) : MFn P w K mg base CX0 1 C_Book "__len__" (spBookLen K C_Book) := by
  refine T.d_BookX_lenX.fn fun f fd F => F.ok sc_BookX_lenX (fun vs H Q E h => ?_) (fun cdv A outer s H vs Q E hr h => ?_)
  · obtain ⟨p, os, rfl, _⟩ := h
    rfl
  · obtain ⟨p, os, rfl, ⟨dx, t, as, h1, h2, h3⟩, k⟩ := h
    refine ⟨_, (pss_one (ps_ret (pe_callB call_len_seq (by rfl) T.b_len (by decide +kernel) (pa_cons (pe_fld (pv 0) rfl) pa_nil)))), ?_⟩
    have hl : as.length = os.length := PySem.Paired.length h3
    refine ⟨_, rfl, p, C_Book, dx, _, _, rfl, h1, T.cl_Book, T.n_Book_listed, rfl, t, _, rfl, .inr h2, ?_⟩
    rw [List.length_map, hl]
    exact k
def spBookAt (K : PySem.W.Frag) (C : Addr) : Sp := fun vs H Q _ => ∃ p os o, ∃ i : Nat, vs = [.ref p, .int (i : Nat)] ∧ BookAt K C H p os ∧ os[i]? = some o ∧ ∀ a, OrdAt K H a o → Q (.ref a) H
def spCheckOrd (K : PySem.W.Frag) (C : Addr) : Sp := fun vs H Q _ => ∃ p os, ∃ i : Nat, vs = [.ref p, .int (i : Nat)] ∧ BookAt K C H p os ∧ i < os.length ∧ Q .non H
end

end MF
set_option Elab.async false
set_option linter.all false
set_option maxRecDepth 100000
set_option maxHeartbeats 2000000
set_option pp.maxSteps 600
namespace MF
open PySem PySem.Spec PyProof.Rows L2 StX
section
variable {P : Program} {w : World} {K : PySem.W.Frag} {mg : Str → Option Value} {base : Heap} {C_Book C_Letter C_LivePost : Addr}
theorem ok_law (T : Top K mg C_Book C_Letter C_LivePost) (sf : PySem.W.selfFirst K C_Book = true) {f : Addr} {fd : FuncData} (F : Fun K "law" "law" s_law f fd) : FnOk P w K mg base CX0 10 f fd ["_law_script"] (spLaw K) := by
  have G__law_taken : GFn P w K mg base CX0 1 "_law_taken" (spTaken K) := ok_taken T
  have G__law_book : GFn P w K mg base CX0 7 "_law_book" (spLawBook K C_Book) := ok_law_book T sf
  have G__law_orders : GFn P w K mg base CX0 2 "_law_orders" (spOrders K) := ok_orders T
  have G__law_seen : GFn P w K mg base CX0 3 "_law_seen" (spSeen K C_Book C_LivePost) := ok_law_seen T
  have G__law_are_told : GFn P w K mg base CX0 8 "_law_are_told" (spTold K C_Book C_LivePost) := ok_are_told T
  have G_LivePost : IFn P w K mg base CX0 1 C_LivePost "LivePost" (spLiveInit K C_Book C_LivePost) := ok_LivePost T
  have PR_LivePost_today : PFn P w K mg base CX0 1 C_LivePost "today" (spToday K C_Book C_LivePost) := ok_today T
  have PR_LivePost_present_book : PFn P w K mg base CX0 1 C_LivePost "present_book" (spPresent K C_Book C_LivePost) := ok_present T
  have PR_LivePost_resting : PFn P w K mg base CX0 1 C_LivePost "resting" (spPick true K C_Book C_LivePost) := ok_resting T
  have PR_LivePost_history : PFn P w K mg base CX0 1 C_LivePost "history" (spHistory K C_Book C_LivePost) := ok_history T
  have M_LivePost_give : MFn P w K mg base CX0 6 C_LivePost "give" (spGive K C_Book C_LivePost) := ok_give T
  have M_LivePost_post : MFn P w K mg base CX0 3 C_LivePost "post" (spPost K C_Book C_LivePost) := ok_post T
  have M_LivePost_pass_days : MFn P w K mg base CX0 3 C_LivePost "pass_days" (spPass K C_Book C_LivePost) := ok_pass T
  have M_LivePost_undo : MFn P w K mg base CX0 1 C_LivePost "undo" (spUndo K C_Book C_LivePost) := ok_undo T
  have M_LivePost_redo : MFn P w K mg base CX0 1 C_LivePost "redo" (spRedo K C_Book C_LivePost) := ok_redo T
  obtain ⟨fl, LF_Book, LM_Book⟩ := (ok_book_len (P := P) (w := w) (base := base) T).ex
  refine F.ok sc_law (fun vs H Q E h => ?_) (fun cdv A outer s H vs Q E hr h => ?_)
  · obtain ⟨a, ns, rfl, _⟩ := h
    rfl
  · obtain ⟨a, ns, rfl, hS, hlen, k⟩ := h
    refine ⟨_, (pss_cons (ps_set (i := 1) sc_law.nd rfl (Or.inl rfl) (pe_lst (pa_cons (pv 0) (pa_cons pe_int (pa_cons pe_int (pa_cons pe_int pa_nil))))))
  (C8.pss_cut (ps_set (i := 2) sc_law.nd rfl (Or.inl rfl) (pe_g G__law_orders (hr.mono (by decide)) (pa_cons (pv 1) (pa_cons pe_int (pa_cons pe_int pa_nil)))))
  (C8.pss_cut (ps_set (i := 3) sc_law.nd rfl (Or.inl rfl) (pe_g G__law_taken (hr.mono (by decide)) (pa_cons (pv 1) (pa_cons (pe_op op_add (pe_callB call_len_seq (by rfl) T.b_len (by decide +kernel) (pa_cons (pv 2) pa_nil)) pe_int) pa_nil))))
  (C8.pss_cut (ps_par (i := 4) (j := 5) (by rfl) sc_law.nd rfl rfl (by decide) rfl rfl (pa_cons (pe_mkX G_LivePost (hr.mono (by decide)) pass0 (pa_cons (pe_g G__law_book (hr.mono (by decide)) (pa_cons (pe_slice sl_list (pv 2) po_none (po_some (pv 3))) pa_nil)) pa_nil)) (pa_cons (pe_slice sl_list (pv 2) (po_some (pv 3)) po_none) pa_nil)) (by rfl))
  (C8.pss_cut (ps_par (i := 6) (j := 7) (by rfl) sc_law.nd rfl rfl (by decide) rfl rfl (pa_cons (pe_lst pa_nil) (pa_cons (pe_lst pa_nil) pa_nil)) (by rfl))
  (C8.pss_cut (ps_for PassesOwn.never rfl (pi_range1 (by rfl) T.b_range (pa_cons pe_int pa_nil)) (pg_name (i := 8) sc_law.nd rfl (Or.inl rfl))
  (C8.pss_cut (ps_par (i := 9) (j := 10) (by rfl) sc_law.nd rfl rfl (by decide) rfl rfl (pa_cons (pe_g G__law_seen (hr.mono (by decide)) (pa_cons (pv 4) pa_nil)) (pa_cons (pe_g G__law_taken (hr.mono (by decide)) (pa_cons (pv 1) (pa_cons pe_int pa_nil))) pa_nil)) (by rfl))
  (C8.pss_cut (ps_if (PW.pt (pw_and (pt_cmpR op_eq (pv 10) pe_int (nomark _)) (pw_and1 (pt_cmpR (op_neD hr.units) (pv 5) (pe_lst pa_nil) (nomark _)))))
  (C8.pss_cut (ps_set (i := 11) sc_law.nd rfl (Or.inl rfl) (pe_bm PySem.F.plainAttrs_list PySem.F.slot_list_pop PySem.F.type_list_pop mt_popAt (pv 5) (pa_cons pe_int pa_nil)))
  (pss_one (ps_if (PW.pt (pw_and (pt_cmpR op_gt (pe_ix ix_tup (pv 11) pe_int (fun _ _ => rfl)) (pe_pr PR_LivePost_today T.cl_LivePost (hr.mono (by decide)) (pv 4)) (nomark _)) (pw_and1 (pt_cmpR op_ne (pe_m M_LivePost_give T.cl_LivePost (hr.mono (by decide)) (pv 4) (pa_cons (pv 11) pa_nil)) (pe_op op_sub (pe_callB (cr_lenO LM_Book LF_Book (hr.mono (by decide)) pass0) (by rfl) T.b_len (by decide +kernel) (pa_cons (pe_pr PR_LivePost_present_book T.cl_LivePost (hr.mono (by decide)) (pv 4)) pa_nil)) pe_int) (nomark _)))))
  (pss_one (ps_ret pe_bl))
  pss_nil)))
  pss_nil)
  (C8.pss_cut (ps_if (pt_cmpR op_eq (pv 10) pe_int (nomark _))
  (C8.pss_cut (ps_expr (pe_bm PySem.F.plainAttrs_list PySem.F.slot_list_append PySem.F.type_list_append mt_append (pv 6) (pa_cons (pe_tup (pa_cons (pe_ix ix_str pe_str (pe_g G__law_taken (hr.mono (by decide)) (pa_cons (pv 1) (pa_cons pe_int pa_nil))) (fun _ _ => rfl)) (pa_cons (pe_pr PR_LivePost_today T.cl_LivePost (hr.mono (by decide)) (pv 4)) pa_nil))) pa_nil)))
  (pss_one (ps_if (pt_cmpR op_ne (pe_m M_LivePost_post T.cl_LivePost (hr.mono (by decide)) (pv 4) (pa_cons (pe_ix ix_tup (pe_ix ix_list (pv 6) (pe_un un_neg pe_int) (fun _ _ => rfl)) pe_int (fun _ _ => rfl)) pa_nil)) (pe_op op_sub (pe_callB call_len_seq (by rfl) T.b_len (by decide +kernel) (pa_cons (pv 6) pa_nil)) pe_int) (nomark _))
  (pss_one (ps_ret pe_bl))
  pss_nil)))
  pss_nil)
  (C8.pss_cut (ps_if (pt_cmpR op_eq (pv 10) pe_int (nomark _))
  (C8.pss_cut (ps_setLc (i := 12) (own := [("_law_number", 15), ("_law_address", 16), ("_law_day", 17)]) (g := (gTup K 3 (gCons (gName 15) (gCons (gName 16) (gCons (gName 17) gNil))))) (by rfl) sc_law.nd rfl rfl (sw_true rfl rfl rfl (by decide +kernel)) (pi_list (pe_pr PR_LivePost_resting T.cl_LivePost (hr.mono (by decide)) (pv 4))) (blkOk_by (own := [("_law_number", 15), ("_law_address", 16), ("_law_day", 17)]) (N := ["_law_script", "_law_row", "_law_orders_here", "_law_given", "_law_live", "_law_later", "_law_posted", "_law_steps", "_law_turn", "_law_before", "_law_word", "_law_order", "_law_resting", "_law_told", "_law_after", "_law_number", "_law_address", "_law_day"]) (sc := defScope s_law) (by decide +kernel)) (fun _ _ _ _ _ => (pg_tup rfl (pgs_cons (pg_name (i := 15) sc_law.nd rfl (Or.inl rfl)) (pgs_cons (pg_name (i := 16) sc_law.nd rfl (Or.inl rfl)) (pgs_cons (pg_name (i := 17) sc_law.nd rfl (Or.inl rfl)) pgs_nil))))) (fun _ _ _ _ _ => pts_nil) (fun _ _ _ _ _ => (pv 15)))
  (C8.pss_cut (ps_set (i := 13) sc_law.nd rfl (Or.inl rfl) (pe_m M_LivePost_pass_days T.cl_LivePost (hr.mono (by decide)) (pv 4) (pa_cons (pe_g G__law_taken (hr.mono (by decide)) (pa_cons (pv 1) (pa_cons pe_int pa_nil))) pa_nil)))
  (pss_one (ps_if (pt_cmpR (op_neD hr.units) (pe_callB cr_sortedI (by rfl) T.b_sorted (by decide +kernel) (pa_cons (pe_op op_cat (pv 13) (pv 12)) pa_nil)) (pe_lc (own := [("_law_number", 15), ("_law_address", 16), ("_law_day", 17)]) (g := (gTup K 3 (gCons (gName 15) (gCons (gName 16) (gCons (gName 17) gNil))))) (by rfl) sc_law.nd (pi_list (pe_pr PR_LivePost_resting T.cl_LivePost (hr.mono (by decide)) (pv 4))) (blkOk_by (own := [("_law_number", 15), ("_law_address", 16), ("_law_day", 17)]) (N := ["_law_script", "_law_row", "_law_orders_here", "_law_given", "_law_live", "_law_later", "_law_posted", "_law_steps", "_law_turn", "_law_before", "_law_word", "_law_order", "_law_resting", "_law_told", "_law_after", "_law_number", "_law_address", "_law_day"]) (sc := defScope s_law) (by decide +kernel)) (fun _ _ _ _ _ => (pg_tup rfl (pgs_cons (pg_name (i := 15) sc_law.nd rfl (Or.inl rfl)) (pgs_cons (pg_name (i := 16) sc_law.nd rfl (Or.inl rfl)) (pgs_cons (pg_name (i := 17) sc_law.nd rfl (Or.inl rfl)) pgs_nil))))) (fun _ _ _ _ _ => pts_nil) (fun _ _ _ _ _ => (pv 15))) (nomark _))
  (pss_one (ps_ret pe_bl))
  pss_nil))))
  pss_nil)
  (C8.pss_cut (ps_if (pt_not (pt_val (pe_g G__law_are_told (hr.mono (by decide)) (pa_cons (pv 4) (pa_cons (pv 6) pa_nil)))))
  (pss_one (ps_ret pe_bl))
  pss_nil)
  (pss_one (ps_if (pt_cmpR op_gt (pe_callB call_len_seq (by rfl) T.b_len (by decide +kernel) (pa_cons (pe_pr PR_LivePost_history T.cl_LivePost (hr.mono (by decide)) (pv 4)) pa_nil)) (pe_ix ix_tup (pv 9) pe_int (fun _ _ => rfl)) (nomark _))
  (pss_one (ps_expr (pe_bm PySem.F.plainAttrs_list PySem.F.slot_list_append PySem.F.type_list_append mt_append (pv 7) (pa_cons (pe_tup (pa_cons (pv 9) (pa_cons (pe_g G__law_seen (hr.mono (by decide)) (pa_cons (pv 4) pa_nil)) pa_nil))) pa_nil))))
  pss_nil))))))))
  (C8.pss_cut (ps_for PassesOwn.never rfl (pi_list (pe_revL (pv 7))) (pg_tup rfl (pgs_cons (pg_name (i := 9) sc_law.nd rfl (Or.inl rfl)) (pgs_cons (pg_name (i := 14) sc_law.nd rfl (Or.inl rfl)) pgs_nil)))
  (pss_one (ps_if (PW.pt (pw_or (pt_cmpR (op_neD hr.units) (pe_g G__law_seen (hr.mono (by decide)) (pa_cons (pv 4) pa_nil)) (pv 14) (nomark _)) (pw_or (pt_not (pt_val (pe_m0 M_LivePost_undo T.cl_LivePost (hr.mono (by decide)) (pv 4)))) (pw_or1 (pt_cmpR (op_neD hr.units) (pe_g G__law_seen (hr.mono (by decide)) (pa_cons (pv 4) pa_nil)) (pv 9) (nomark _))))))
  (pss_one (ps_ret pe_bl))
  pss_nil)))
  (C8.pss_cut (ps_for PassesOwn.never rfl (pi_list (pv 7)) (pg_tup rfl (pgs_cons (pg_name (i := 9) sc_law.nd rfl (Or.inl rfl)) (pgs_cons (pg_name (i := 14) sc_law.nd rfl (Or.inl rfl)) pgs_nil)))
  (pss_one (ps_if (PW.pt (pw_or (pt_cmpR (op_neD hr.units) (pe_g G__law_seen (hr.mono (by decide)) (pa_cons (pv 4) pa_nil)) (pv 9) (nomark _)) (pw_or (pt_not (pt_val (pe_m0 M_LivePost_redo T.cl_LivePost (hr.mono (by decide)) (pv 4)))) (pw_or1 (pt_cmpR (op_neD hr.units) (pe_g G__law_seen (hr.mono (by decide)) (pa_cons (pv 4) pa_nil)) (pv 14) (nomark _))))))
  (pss_one (ps_ret pe_bl))
  pss_nil)))
  (pss_one (ps_ret pe_bl)))))))))), ?_⟩
    refine ⟨_, rfl, (by show 4 ≤ sizeLine; decide), fun rw hrw => ?_⟩
    have R0 := row_new hS hrw
    have s0 : Same H (upd H rw (.lst [.ref a, .int 0, .int 0, .int 0])) := Same.new hrw
    generalize upd H rw _ = H1 at R0 s0
    let tl (v2 v3 v4 v5 v6 v7 v8 v9 v10 v11 v12 v13 v14 v15 v16 v17 : Option V) : L2.St := [some (.ref a), some (.ref rw), v2, v3, v4, v5, v6, v7, v8, v9, v10, v11, v12, v13, v14, v15, v16, v17]
    refine ⟨fun σ' H' => Same H H' ∧ RowAt K H' rw a ns ∧ ∃ l as os, H' l = some (.lst (as.map V.ref)) ∧ OrdsAt K H' as os ∧ DrawnOs 8 20 os ∧ H l = none ∧ l ≠ rw ∧ ∃ v3 v4 v5 v6 v7 v8 v9 v10 v11 v12 v13 v14 v15 v16 v17, σ' = tl (some (.ref l)) v3 v4 v5 v6 v7 v8 v9 v10 v11 v12 v13 v14 v15 v16 v17, ?_, ?_⟩
    · refine ⟨_, rfl, rw, a, ns, 8, 20, rfl, R0, by decide, by decide, by decide, fun H4 l as os k4 f4 R4 e4 o4 D4 => ?_⟩
      exact ⟨fun b u e => k4 _ _ (s0 _ _ e) (ne_of_none e hrw), R4, l, as, os, e4, o4, D4, s0.free f4, R0.fresh f4, _, _, _, _, _, _, _, _, _, _, _, _, _, _, _, rfl⟩
    clear R0 s0
    rintro σ H1 ⟨s1, R1, l, as, os, el, o1, D, fl, nl, v3, v4, v5, v6, v7, v8, v9, v10, v11, v12, v13, v14, v15, v16, v17, rfl⟩
    have lao : as.length = os.length := PySem.Paired.length o1
    have los : os.length ≤ 8 := D.len
    refine ⟨fun σ' H' => Same H H' ∧ RowAt K H' rw a ns ∧ H' l = some (.lst (as.map V.ref)) ∧ OrdsAt K H' as os ∧ ∃ n : Nat, n ≤ os.length ∧ ∃ v4 v5 v6 v7 v8 v9 v10 v11 v12 v13 v14 v15 v16 v17, σ' = tl (some (.ref l)) (some (.int (n : Nat))) v4 v5 v6 v7 v8 v9 v10 v11 v12 v13 v14 v15 v16 v17, ?_, ?_⟩
    · refine ⟨_, rfl, _, rfl, l, _, rfl, .inl (SqL.of el), _, _, rfl, rfl, rw, a, ns, _, rfl, R1, by omega, by rw [List.length_map]; omega, fun v H' hv0 hv1 R' k' => ?_⟩
      rw [List.length_map] at hv1
      have ev : v = ((v.toNat : Nat) : Int) := by omega
      refine ⟨fun b u e => k' _ _ (s1 _ _ e) (ne_of_none e hrw), R', k' _ _ el nl, o1.keepR (KeepR.tup k' R1), v.toNat, by omega, v4, v5, v6, v7, v8, v9, v10, v11, v12, v13, v14, v15, v16, v17, by rw [← ev]; rfl⟩
    clear s1 R1 el o1
    rintro σ H1 ⟨s1, R1, el, o1, n, hn, v4, v5, v6, v7, v8, v9, v10, v11, v12, v13, v14, v15, v16, v17, rfl⟩
    refine ⟨fun σ' H' => ∃ p lt, Same H H' ∧ RowAt K H' rw a ns ∧ LivAt K C_Book C_LivePost H' p ⟨0, os.take n, []⟩ [] [] ∧ H' lt = some (.lst ((as.drop n).map V.ref)) ∧ OrdsAt K H' (as.drop n) (os.drop n) ∧ H p = none ∧ H lt = none ∧ lt ≠ rw ∧ ∃ v6 v7 v8 v9 v10 v11 v12 v13 v14 v15 v16 v17, σ' = tl (some (.ref l)) (some (.int (n : Nat))) (some (.ref p)) (some (.ref lt)) v6 v7 v8 v9 v10 v11 v12 v13 v14 v15 v16 v17, ?_, ?_⟩
    · refine ⟨_, rfl, _, rfl, _, rfl, l, _, rfl, SqL.of el, fun q hq => ?_⟩
      rw [cut_take _ _ (by rw [List.length_map]; omega)]
      have s2 := Same.new (o := .lst ((as.map V.ref).take n)) hq
      have e2 : (upd H1 q (.lst ((as.map V.ref).take n))) q = some (.lst ((as.take n).map V.ref)) := by rw [upd_same, List.map_take]
      generalize upd H1 q (.lst ((as.map V.ref).take n)) = H2 at s2 e2
      refine ⟨q, as.take n, os.take n, rfl, SqL.of e2, pair_take (o1.mono s2) n, D.good.take n, fun H3 bk s3 f3 B3 => ?_⟩
      have s13 := s2.trans s3
      intro p dx hp hdx ne
      have s4 : Same H3 (upd (upd H3 dx (.own p)) p (.ins C_LivePost dx [])) := fun b u e => by
        rw [upd_ne (ne_of_none e hp), upd_ne (ne_of_none e hdx)]
        exact e
      have nbp : bk ≠ p := by
        obtain ⟨dy, tb, bs, b1, _⟩ := B3
        exact ne_of_none b1 hp
      refine ⟨p, dx, bk, os.take n, rfl, upd_same, B3.mono s4, nbp, fun H5 L5 k5 => ⟨rfl, ?_⟩⟩
      have s15 : Same H1 H5 := fun b u e => k5 _ _ (s4 _ _ (s13 _ _ e)) (ne_of_none (s13 _ _ e) hp)
      refine ⟨_, rfl, _, rfl, n, rfl, l, _, rfl, SqL.of (s15 _ _ el), fun lt hlt => ⟨_, _, rfl, ?_⟩⟩
      rw [cut_drop _ _ (by rw [List.length_map]; omega)]
      have s6 := Same.new (o := .lst ((as.map V.ref).drop n)) hlt
      have s16 := s15.trans s6
      exact ⟨p, lt, s1.trans s16, R1.keep s16, L5.same s6, by rw [upd_same, List.map_drop], pair_drop (o1.mono s16) n, (s1.trans s13).free hp, (s1.trans s15).free hlt, (R1.keep s15).fresh hlt, v6, v7, v8, v9, v10, v11, v12, v13, v14, v15, v16, v17, rfl⟩
    clear s1 R1 el o1
    rintro σ H1 ⟨p, lt, s1, R1, L1, el, o1, fp, flt, n1, v6, v7, v8, v9, v10, v11, v12, v13, v14, v15, v16, v17, rfl⟩
    let st (pl sl : Addr) (v8 v9 v10 v11 v12 v13 v14 v15 v16 v17 : Option V) : L2.St := tl (some (.ref l)) (some (.int (n : Nat))) (some (.ref p)) (some (.ref lt)) (some (.ref pl)) (some (.ref sl)) v8 v9 v10 v11 v12 v13 v14 v15 v16 v17
    let S0 : Scn := ⟨0, os.take n, []⟩
    refine ⟨fun σ' H' => ∃ pl sl, F15 K rw a p lt pl sl ns H ∧ W15 K C_Book C_LivePost rw a p lt pl sl ns H H' S0 [] [] (as.drop n) (os.drop n) [] [] (fun _ => S0) [] [] ∧ ∃ v8 v9 v10 v11 v12 v13 v14 v15 v16 v17, σ' = st pl sl v8 v9 v10 v11 v12 v13 v14 v15 v16 v17, ?_, ?_⟩
    · refine ⟨Nat.zero_le _, fun pl hpl => ⟨Nat.zero_le _, fun sl hsl => ⟨_, _, rfl, ?_⟩⟩⟩
      have s2 := Same.new (o := .lst []) hpl
      have e2 : upd H1 pl (.lst []) pl = some (.lst []) := upd_same
      have f4 := s1.free hpl
      have n2 := R1.fresh hpl
      have n4 := ne_of_none el hpl
      generalize upd H1 pl (.lst []) = H2 at s2 e2 hsl
      have s3 := Same.new (o := .lst []) hsl
      have e3 : upd H2 sl (.lst []) sl = some (.lst []) := upd_same
      have f5 := (s1.trans s2).free hsl
      have n3 := (R1.keep s2).fresh hsl
      have n5 := ne_of_none (s2 _ _ el) hsl
      have n6 := ne_of_none e2 hsl
      generalize upd H2 sl (.lst []) = H3 at s3 e3
      have s13 := s2.trans s3
      refine ⟨pl, sl, ⟨hS, hrw, fp, flt, f4, f5, n1, n2, n3, n4, n5, n6⟩, ⟨s1.trans s13, R1.keep s13, L1.same s13, s13 _ _ el, o1.mono s13, s3 _ _ e2, .nil, ⟨e3, fun k q e => by simp at e⟩, fun x hx => by cases hx⟩, v8, v9, v10, v11, v12, v13, v14, v15, v16, v17, rfl⟩
    clear s1 R1 L1 el o1 fp flt n1
    rintro σ H1 ⟨pl, sl, F, W1, v8, v9, v10, v11, v12, v13, v14, v15, v16, v17, rfl⟩
    have P0 : P15 S0 (os.drop n) [] 0 := ⟨by show Good (os.take n ++ os.drop n); rw [List.take_append_drop]; exact D.good, Int.le_refl _, by show (0 : Int) ≤ _; omega, Nat.le_refl _, rfl, fun k s x e _ => by simp at e⟩
    refine ⟨fun σ' H' => ∃ m sc as' ls ps pts qs, W15 K C_Book C_LivePost rw a p lt pl sl ns H H' (sc m) (DN sc m) [] as' ls ps pts sc qs [] ∧ (∀ k, k ≤ m → Gs (sc k)) ∧ qs.length = m ∧ m ≤ 12 ∧ ∃ v8 v9 v10 v11 v12 v13 v14 v15 v16 v17, σ' = st pl sl v8 v9 v10 v11 v12 v13 v14 v15 v16 v17, ?_, ?_⟩
    · refine ⟨12, rfl, (by decide), (by decide), for_it walk_range (fun i σ H' => ∃ m sc as' ls ps pts qs, W15 K C_Book C_LivePost rw a p lt pl sl ns H H' (sc m) (DN sc m) [] as' ls ps pts sc qs [] ∧ (∀ k, k ≤ m → Gs (sc k)) ∧ P15 (sc m) ls pts i ∧ qs.length = m ∧ m ≤ i ∧ ∃ v8 v9 v10 v11 v12 v13 v14 v15 v16 v17, σ = st pl sl v8 v9 v10 v11 v12 v13 v14 v15 v16 v17)
        ⟨0, fun _ => S0, _, _, _, _, _, W1, (fun _ _ => P0.gs (by decide)), P0, rfl, Nat.le_refl _, _, _, _, _, _, _, _, _, _, _, rfl⟩ (fun _ _ _ _ _ => trivial) ?_ ?_⟩
      · rintro i y σ H2 H2' hi ⟨m, sc, as', ls, ps, pts, qs, W2, gsc, P2, hm, hm2, v8, v9, v10, v11, v12, v13, v14, v15, v16, v17, rfl⟩ ⟨rfl, rfl⟩
        have hi12 : i < 12 := by simpa using hi
        have p2l := P2.rl
        let s9 (t : Addr) (v : Int) (v11 v12 v13 v14 v15 v16 v17 : Option V) : L2.St := st pl sl (some (.int (0 + i))) (some (.ref t)) (some (.int v)) v11 v12 v13 v14 v15 v16 v17
        refine ⟨fun σ' H' => ∃ t v, 0 ≤ v ∧ v < 3 ∧ W15 K C_Book C_LivePost rw a p lt pl sl ns H H' (sc m) (DN sc m) [] as' ls ps pts sc qs [(t, sc m, m)] ∧ σ' = s9 t v v11 v12 v13 v14 v15 v16 v17, ?_, ?_⟩
        · refine ⟨_, rfl, p, sc m, _, _, rfl, W2.live, by omega, by rw [DN_len]; omega, fun H3 t s3 f3 Sn3 => ?_⟩
          rw [DN_len] at Sn3
          have W3 := W2.saw s3 Sn3
          refine ⟨_, rfl, rw, a, ns, _, rfl, W3.row, by decide, by decide, fun v H4 hv0 hv1 R4 k4 => ⟨_, _, rfl, ?_⟩⟩
          exact ⟨t, v, hv0, hv1, W3.rowed F R4 k4, rfl⟩
        clear W2
        rintro σ H2 ⟨t, v, hv0, hv1, W2, rfl⟩
        let Mid (c : Int) : L2.St → Hp → Prop := fun σ' H' => ∃ e sc' as' ls ps pts, e ≤ 1 ∧ (e = 1 → v < c) ∧ (∀ k, k ≤ m → sc' k = sc k) ∧ W15 K C_Book C_LivePost rw a p lt pl sl ns H H' (sc' (m + e)) (DN sc' (m + e)) [] as' ls ps pts sc' qs [(t, sc' m, m)] ∧ P15 (sc' (m + e)) ls pts (i + e) ∧ ∃ v11 v12 v13 v14 v15 v16 v17, σ' = s9 t v v11 v12 v13 v14 v15 v16 v17
        refine ⟨Mid 1, ?_, ?_⟩
        · refine ⟨_, rfl, rfl, _, rfl, ite2 (fun c => ?_) (fun c => ?_)⟩
          · have v0 : v = 0 := V.int.inj (of_decide_eq_true c)
            refine ⟨_, rfl, Nat.zero_le _, fun q0 hq0 => ?_⟩
            have s3 := Same.new (o := .lst []) hq0
            have e3 : upd H2 q0 (.lst []) q0 = some (.lst []) := upd_same
            generalize upd H2 q0 (.lst []) = H3 at s3 e3
            have W3 := W2.same s3
            refine ⟨.list (ls.map ordD8), .list [], .lst (SqL.of W3.lat) (ords_dp W3.lor), .lst (SqL.of e3) .nil, ordsD_shaped (fun o ho => P2.good.ok o (List.mem_append_right _ ho)), by decide +kernel, ?_⟩
            have lo := W3.lor
            match ls, as', lo, W3, P2 with
            | [], _, _, W3, P2 =>
              have : PyData.eqv (.list (([] : List Ordr).map ordD8)) (.list []) = true := by simp [PyData.eqv, PyData.eqvAll]
              rw [this]
              exact ⟨_, rfl, iteF ⟨0, sc, _, [], ps, pts, Nat.zero_le _, (fun z => by cases z), (fun _ _ => rfl), W3, P2, _, _, _, _, _, _, _, rfl⟩⟩
            | o :: ls, x :: as', lo, W3, P2 =>
              have : PyData.eqv (.list ((o :: ls).map ordD8)) (.list []) = false := by simp [PyData.eqv, PyData.eqvAll]
              rw [this]
              refine ⟨_, rfl, iteT ?_⟩
              have ox : OrdAt K H3 x o := by cases lo with | cons h1 h2 => exact h1
              refine ⟨fun σ' H' => OrdAt K H' x o ∧ W15 K C_Book C_LivePost rw a p lt pl sl ns H H' (sc m) (DN sc m) [] as' ls ps pts sc qs [(t, sc m, m)] ∧ σ' = s9 t v (some (.ref x)) v12 v13 v14 v15 v16 v17, ?_, ?_⟩
              · refine ⟨_, rfl, .inl ⟨rfl, _, SqL.of W3.lat⟩, lt, _, 0, 0, .ref x, rfl, rfl, W3.lat, by decide, by decide, by simp [PySem.seqIndex?], rfl, ?_⟩
                exact ⟨ox.put W3.lat, W3.popped F, rfl⟩
              clear W3
              rintro σ H4 ⟨ox, W4, rfl⟩
              obtain ⟨dx, sx, d1, u1, ks, kd, ku, h1, _⟩ := W4.live.ex
              refine ⟨_, rfl, x, _, _, _, rfl, rfl, ox, rfl, _, rfl, p, dx, _, rfl, h1, p, sc m, _, _, rfl, W4.live, _, _, rfl, rfl, _, rfl, ite2 (fun c2 => ?_) (fun c2 => ?_)⟩
              · have hd : (sc m).day < o.first := of_decide_eq_true c2
                have g1 : Good ((sc m).os ++ [o]) := by
                  have := P2.good
                  rw [List.append_cons] at this
                  exact this.left
                refine ⟨_, rfl, p, dx, _, rfl, h1, rfl, _, rfl, p, sc m, _, _, x, o, rfl, W4.live, ox, g1, by rw [DN_len]; omega, fun H5 L5 k5 => ?_⟩
                let S' : Scn := ⟨(sc m).day, (sc m).os ++ [o], (sc m).rows⟩
                let sc2 : Nat → Scn := fun k => if k ≤ m then sc k else S'
                have e1 : ∀ k, k ≤ m → sc2 k = sc k := fun k hk => if_pos hk
                have e2 : sc2 (m + 1) = S' := if_neg (by omega)
                have e3 : DN sc2 (m + 1) = DN sc m ++ [(sc m, S')] := by rw [DN_succ, DN_congr e1, e1 m (Nat.le_refl m), e2]
                have W5 := (W4.lived F L5 k5).congr (sc' := sc2) (fun k hk => e1 k (by omega))
                obtain ⟨dx', sx', d1', u1', ks', kd', ku', h1', _⟩ := L5.ex
                refine ⟨_, rfl, p, dx', _, rfl, h1', p, _, _, _, rfl, L5, fun bk B5 => ?_⟩
                obtain ⟨dy, tb, bs, b1, _⟩ := id B5
                refine ⟨bk, dy, _, rfl, b1, bk, _, rfl, B5, _, rfl, ?_, _, _, rfl, rfl, rfl, _, rfl, iteND ?_ ?_⟩
                · have := g1.len
                  show (((sc m).os ++ [o]).length : Int) < 2 ^ 63
                  omega
                · rw [List.length_append]
                  simp
                · refine ⟨1, sc2, as', ls, ps, pts, Nat.le_refl _, (fun _ => by omega), e1, ?_, ?_, _, _, _, _, _, _, _, rfl⟩
                  · rw [e2, e3, e1 m (Nat.le_refl m)]
                    exact W5
                  · rw [e2]
                    exact P2.give hd
              · have hd : ¬ (sc m).day < o.first := fun z => c2 (decide_eq_true z)
                exact ⟨0, sc, _, ls, ps, pts, Nat.zero_le _, (fun z => by cases z), (fun _ _ => rfl), W4, P2.drop, _, _, _, _, _, _, _, rfl⟩
          · exact ⟨0, sc, as', ls, ps, pts, Nat.zero_le _, (fun z => by cases z), (fun _ _ => rfl), W2, P2, _, _, _, _, _, _, _, rfl⟩
        clear W2
        clear P2 p2l
        rintro σ H2 ⟨e, sc', as', ls, ps, pts, he, hec, hsc, W2, P2, v11, v12, v13, v14, v15, v16, v17, rfl⟩
        refine ⟨Mid 2, ?_, ?_⟩
        · refine ⟨_, rfl, rfl, _, rfl, ite2 (fun c => ?_) (fun c => ?_)⟩
          · have v1 : v = 1 := V.int.inj (of_decide_eq_true c)
            have e0 : e = 0 := by
              rcases Nat.eq_zero_or_pos e with z | z
              · exact z
              · have := hec (by omega)
                omega
            subst e0
            have W2' : W15 K C_Book C_LivePost rw a p lt pl sl ns H H2 (sc' m) (DN sc' m) [] as' ls ps pts sc' qs [(t, sc' m, m)] := W2
            have P2' : P15 (sc' m) ls pts i := P2
            clear W2 P2
            have p2l := P2'.rl
            have p2p := P2'.pl
            have lps : ps.length = pts.length := PySem.Paired.length W2'.ppt
            refine ⟨fun σ' H' => ∃ q, ∃ y : Nat, y < 6 ∧ H' q = some (.tup [.str (nmS y), .int (sc' m).day]) ∧ W15 K C_Book C_LivePost rw a p lt pl sl ns H H' (sc' m) (DN sc' m) [] as' ls (ps ++ [q]) (pts ++ [(nmS y, (sc' m).day)]) sc' qs [(t, sc' m, m)] ∧ σ' = s9 t v v11 v12 v13 v14 v15 v16 v17, ?_, ?_⟩
            · refine ⟨_, rfl, .inl ⟨rfl, _, SqL.of W2'.pos⟩, _, rfl, rw, a, ns, 6, rfl, W2'.row, by decide, by decide, fun y H3 y0 y1 R3 k3 => ?_⟩
              have W3 := W2'.rowed F R3 k3
              obtain ⟨dx, sx, d1, u1, ks, kd, ku, h1, _⟩ := W3.live.ex
              refine ⟨_, _, _, rfl, rfl, abc_len, abc_ix y0 y1, ?_⟩
              refine ⟨_, rfl, p, dx, _, rfl, h1, p, sc' m, _, _, rfl, W3.live, (by show 2 ≤ sizeLine; decide), fun q hq => ?_⟩
              have s4 := Same.new (o := .tup [.str (nmS y.toNat), .int (sc' m).day]) hq
              have W4 := W3.same s4
              refine ⟨pl, _, _, rfl, rfl, W4.pos, by rw [List.length_map, sizeLine_eq]; omega, ?_⟩
              refine ⟨q, y.toNat, by omega, ?_, W4.posted F upd_same, rfl⟩
              rw [upd_ne (ne_of_none W3.pos hq).symm]
              exact upd_same
            clear W2'
            rintro σ H3 ⟨q, y, y6, hq, W3, rfl⟩
            obtain ⟨dx, sx, d1, u1, ks, kd, ku, h1, _⟩ := W3.live.ex
            refine ⟨_, rfl, p, dx, _, rfl, h1, rfl, _, rfl, _, rfl, pl, _, _, _, rfl, rfl, SqL.of W3.pos, by rw [List.map_append]; exact atI_last, q, _, _, _, rfl, rfl, .inl (.inl hq), rfl, ?_⟩
            refine ⟨p, sc' m, _, _, nmS y, rfl, W3.live, nmS_addr y6, P2'.good.left, by omega, by rw [DN_len]; omega, fun H5 u r at5 L5 k5 => ?_⟩
            let S' : Scn := ⟨(sc' m).day, (sc' m).os, (sc' m).rows ++ [(u.1, u.2, r)]⟩
            let sc2 : Nat → Scn := fun k => if k ≤ m then sc' k else S'
            have e1 : ∀ k, k ≤ m → sc2 k = sc' k := fun k hk => if_pos hk
            have e2 : sc2 (m + 1) = S' := if_neg (by omega)
            have e3 : DN sc2 (m + 1) = DN sc' m ++ [(sc' m, S')] := by rw [DN_succ, DN_congr e1, e1 m (Nat.le_refl m), e2]
            have W5 := (W3.lived F L5 k5).congr (sc' := sc2) (fun k hk => e1 k (by omega))
            refine ⟨_, rfl, pl, _, rfl, .inl (SqL.of W5.pos), _, _, rfl, rfl, rfl, _, rfl, iteND ?_ ?_⟩
            · rw [List.length_map, List.length_append]
              simp
              omega
            · refine ⟨1, sc2, as', ls, ps ++ [q], pts ++ [(nmS y, (sc' m).day)], Nat.le_refl _, (fun _ => by omega), (fun k hk => (e1 k hk).trans (hsc k hk)), ?_, ?_, _, _, _, _, _, _, _, rfl⟩
              · rw [e2, e3, e1 m (Nat.le_refl m)]
                exact W5
              · rw [e2]
                exact P2'.post (by omega) (nmS_addr y6) at5
          · exact ⟨e, sc', as', ls, ps, pts, he, (fun z => by have := hec z; omega), hsc, W2, P2, _, _, _, _, _, _, _, rfl⟩
        clear W2 P2 he hec hsc
        rintro σ H2 ⟨e, sc', as', ls, ps, pts, he, hec, hsc, W2, P2, v11, v12, v13, v14, v15, v16, v17, rfl⟩
        refine ⟨Mid 3, ?_, ?_⟩
        · refine ⟨_, rfl, rfl, _, rfl, ite2 (fun c => ?_) (fun c => ?_)⟩
          · have v1 : v = 2 := V.int.inj (of_decide_eq_true c)
            have e0 : e = 0 := by
              rcases Nat.eq_zero_or_pos e with z | z
              · exact z
              · have := hec (by omega)
                omega
            subst e0
            have W2' : W15 K C_Book C_LivePost rw a p lt pl sl ns H H2 (sc' m) (DN sc' m) [] as' ls ps pts sc' qs [(t, sc' m, m)] := W2
            have P2' : P15 (sc' m) ls pts i := P2
            clear W2 P2
            have p2l := P2'.rl
            have p2d := P2'.d1
            refine ⟨fun σ' H' => ∃ rl, W15 K C_Book C_LivePost rw a p lt pl sl ns H H' (sc' m) (DN sc' m) [] as' ls ps pts sc' qs [(t, sc' m, m)] ∧ H' rl = some (.lst ((natI ((pickR true (sc' m).rows (sc' m).rows.length).map (·.1))).map V.int)) ∧ rl ≠ rw ∧ ∃ v15 v16 v17, σ' = s9 t v v11 (some (.ref rl)) v13 v14 v15 v16 v17, ?_, ?_⟩
            · obtain ⟨dx, sx, d1, u1, ks, kd, ku, h1, _⟩ := W2'.live.ex
              refine ⟨_, rfl, p, dx, _, rfl, h1, p, sc' m, _, _, rfl, W2'.live, by omega, fun H3 l1 ps1 s3 f3 e3 N3 => ?_⟩
              have l1000 : ps1.length ≤ 1000 := by
                rw [PySem.Paired.length N3]
                refine Nat.le_trans (List.length_filterMap_le _ _) ?_
                rw [List.length_range]
                omega
              refine ⟨l1, rfl, ⟨_, SqL.of e3⟩, fun D hD => ?_⟩
              refine lc_it (walk_list (xs := ps1.map V.ref)) (fun j H' => Same H3 H' ∧ H' D = some (.lst ((natI (((pickR true (sc' m).rows (sc' m).rows.length).take j).map (·.1))).map V.int))) ⟨Same.new hD, upd_same⟩ (fun j H' _ p => SqL.of (p.1 _ _ e3)) ?_ ?_
              · rintro j y H4 H5 hj ⟨s4, e4⟩ ⟨rfl, ey⟩
                rw [List.length_map] at hj
                obtain ⟨q, eq⟩ : ∃ q, ps1[j]? = some q := ⟨ps1[j], by simp [hj]⟩
                rw [List.getElem?_map, eq] at ey
                cases ey
                obtain ⟨z, ez, hz⟩ := Paired.get N3 eq
                refine ⟨q, _, rfl, .inl (.inl (s4 _ _ hz)), rfl, _, _, rfl, _, _, rfl, _, _, rfl, rfl, rfl, yesT (iteT ?_)⟩
                refine ⟨_, rfl, _, e4, ?_, fun b u e => ?_, ?_⟩
                · unfold natI
                  rw [List.length_map, List.length_map, List.length_map, List.length_take, sizeLine_eq]
                  omega
                · rw [upd_ne (ne_of_none e hD)]
                  exact s4 _ _ e
                · rw [upd_same, List.take_add_one, ez]
                  unfold natI
                  simp
              · rintro H4 ⟨s4, e4⟩
                rw [List.length_map, PySem.Paired.length N3, List.take_length] at e4
                have W4 := W2'.same (s3.trans s4)
                exact ⟨D, W4, e4, ((W2'.same s3).row).fresh hD, _, _, _, rfl⟩
            clear W2'
            rintro σ H3 ⟨rl, W3, er, nr, v15, v16, v17, rfl⟩
            refine ⟨fun σ' H' => ∃ tl ws c rows', 0 ≤ c ∧ c ≤ 11 ∧ Passed (sc' m).os ((sc' m).day + c) (sc' m).rows rows' ∧ ws.Perm (newR (sc' m).rows rows' (sc' m).rows.length) ∧ W15 K C_Book C_LivePost rw a p lt pl sl ns H H' ⟨(sc' m).day + c, (sc' m).os, rows'⟩ (DN sc' m ++ [(sc' m, ⟨(sc' m).day + c, (sc' m).os, rows'⟩)]) [] as' ls ps pts sc' qs [(t, sc' m, m)] ∧
              H' rl = some (.lst ((natI ((pickR true (sc' m).rows (sc' m).rows.length).map (·.1))).map V.int)) ∧ H' tl = some (.lst ((natI ws).map V.int)) ∧ σ' = s9 t v v11 (some (.ref rl)) (some (.ref tl)) v14 v15 v16 v17, ?_, ?_⟩
            · obtain ⟨dx, sx, d1, u1, ks, kd, ku, h1, _⟩ := W3.live.ex
              refine ⟨_, rfl, p, dx, _, rfl, h1, rfl, _, rfl, rw, a, ns, 12, rfl, W3.row, by decide, by decide, fun y H4 y0 y1 R4 k4 => ?_⟩
              have W4 := W3.rowed F R4 k4
              have er4 := k4 _ _ er nr
              refine ⟨p, sc' m, _, _, y, rfl, W4.live, y0, by omega, P2'.good.left, by omega, by rw [DN_len]; omega, fun H5 l5 rows' ws hp5 L5 f5 e5 pm5 k5 => ?_⟩
              exact ⟨l5, ws, y, rows', y0, by omega, hp5, pm5, W4.lived F L5 k5, k5 _ _ er4 (W4.live.not_lst er4), by rw [natI_V]; exact e5, rfl⟩
            clear W3 er
            rintro σ H3 ⟨tl, ws, c, rows', c0, c1, hp, pm, W3, er, et, rfl⟩
            have hlr : (sc' m).rows.length = rows'.length := PySem.Paired.length hp
            have lpk : ∀ (b : Bool) (rows : List LRow), (natI ((pickR b rows rows.length).map (·.1))).length ≤ rows.length := fun b rows => by
              unfold natI pickR
              rw [List.length_map, List.length_map]
              exact Nat.le_trans (List.length_filterMap_le _ _) (by rw [List.length_range]; exact Nat.le_refl _)
            have lws : (natI ws).length ≤ (sc' m).rows.length := by
              unfold natI
              rw [List.length_map, pm.length_eq]
              unfold newR
              exact Nat.le_trans (List.length_filter_le _ _) (by rw [List.length_range]; exact Nat.le_refl _)
            have lpk1 := lpk true (sc' m).rows
            refine ⟨_, rfl, _, rfl, tl, rl, _, _, rfl, rfl, et, er, by rw [List.length_map, List.length_map, sizeLine_eq]; omega, fun q hq => ?_⟩
            have s4 := Same.new (o := .lst ((natI ws).map V.int ++ (natI ((pickR true (sc' m).rows (sc' m).rows.length).map (·.1))).map V.int)) hq
            have e4 : (upd H3 q (.lst ((natI ws).map V.int ++ (natI ((pickR true (sc' m).rows (sc' m).rows.length).map (·.1))).map V.int))) q = some (.lst ((natI ws ++ natI ((pickR true (sc' m).rows (sc' m).rows.length).map (·.1))).map V.int)) := by rw [upd_same, List.map_append]
            generalize upd H3 q (.lst ((natI ws).map V.int ++ (natI ((pickR true (sc' m).rows (sc' m).rows.length).map (·.1))).map V.int)) = H4 at s4 e4
            refine ⟨q, _, rfl, SqL.of e4, fun zs z pz sz hz => ?_⟩
            have ezs := rest_all hp pm pz sz
            have s5 := Same.new (o := .lst (zs.map V.int)) hz
            have e5 : (upd H4 z (.lst (zs.map V.int))) z = some (.lst (zs.map V.int)) := upd_same
            generalize upd H4 z (.lst (zs.map V.int)) = H5 at s5 e5
            have W5 := W3.same (s4.trans s5)
            obtain ⟨dx, sx, d1, u1, ks, kd, ku, h1, _⟩ := W5.live.ex
            refine ⟨_, rfl, p, dx, _, rfl, h1, p, _, _, _, rfl, W5.live, (by show rows'.length ≤ 1000; omega), fun H6 l1 ps1 s6 f6 e6 N6 => ?_⟩
            have N6' : NumAt H6 ps1 (pickR true rows' rows'.length) := N6
            have lp1 : ps1.length ≤ 1000 := by
              rw [PySem.Paired.length N6']
              refine Nat.le_trans (List.length_filterMap_le _ _) ?_
              rw [List.length_range]
              omega
            refine ⟨l1, rfl, ⟨_, SqL.of e6⟩, fun D hD => ?_⟩
            refine lc_it (walk_list (xs := ps1.map V.ref)) (fun j H' => Same H6 H' ∧ H' D = some (.lst ((natI (((pickR true rows' rows'.length).take j).map (·.1))).map V.int))) ⟨Same.new hD, upd_same⟩ (fun j H' _ p => SqL.of (p.1 _ _ e6)) ?_ ?_
            · rintro j y H7 H8 hj ⟨s7, e7⟩ ⟨rfl, ey⟩
              rw [List.length_map] at hj
              obtain ⟨q', eq⟩ : ∃ q', ps1[j]? = some q' := ⟨ps1[j], by simp [hj]⟩
              rw [List.getElem?_map, eq] at ey
              cases ey
              obtain ⟨z', ez, hz'⟩ := Paired.get N6' eq
              refine ⟨q', _, rfl, .inl (.inl (s7 _ _ hz')), rfl, _, _, rfl, _, _, rfl, _, _, rfl, rfl, rfl, yesT (iteT ?_)⟩
              refine ⟨_, rfl, _, e7, ?_, fun b u e => ?_, ?_⟩
              · unfold natI
                rw [List.length_map, List.length_map, List.length_map, List.length_take, sizeLine_eq]
                omega
              · rw [upd_ne (ne_of_none e hD)]
                exact s7 _ _ e
              · rw [upd_same, List.take_add_one, ez]
                unfold natI
                simp
            · rintro H7 ⟨s7, e7⟩
              rw [List.length_map, PySem.Paired.length N6', List.take_length, ← ezs] at e7
              have s67 := s6.trans s7
              have sh := PySem.W.ke_shaped_ints zs
              have cl : (PyData.list (zs.map PyData.int)).canLay0 = true := by
                have : ((PyData.list (zs.map PyData.int)).canLay0 && decide ((PyData.list (zs.map PyData.int)).depth ≤ 64)) = true := sh
                exact (Bool.and_eq_true _ _ ▸ this).1
              refine ⟨_, _, .lst (SqL.of (s67 _ _ e5)) (DpAll.ints _), .lst (SqL.of e7) (DpAll.ints _), sh, sh, ?_⟩
              rw [PySem.SeqAt.eqv_refl _ cl]
              let S' : Scn := ⟨(sc' m).day + c, (sc' m).os, rows'⟩
              let sc2 : Nat → Scn := fun k => if k ≤ m then sc' k else S'
              have e1 : ∀ k, k ≤ m → sc2 k = sc' k := fun k hk => if_pos hk
              have e2 : sc2 (m + 1) = S' := if_neg (by omega)
              have e3 : DN sc2 (m + 1) = DN sc' m ++ [(sc' m, S')] := by rw [DN_succ, DN_congr e1, e1 m (Nat.le_refl m), e2]
              have W7 := (W5.same s67).congr (sc' := sc2) (fun k hk => e1 k (by omega))
              refine ⟨_, rfl, iteF ⟨1, sc2, as', ls, ps, pts, Nat.le_refl _, (fun _ => by omega), (fun k hk => (e1 k hk).trans (hsc k hk)), ?_, ?_, _, _, _, _, _, _, _, rfl⟩⟩
              · rw [e2, e3, e1 m (Nat.le_refl m)]
                exact W7
              · rw [e2]
                exact P2'.pass c0 c1 hp
          · exact ⟨e, sc', as', ls, ps, pts, he, (fun z => by have := hec z; omega), hsc, W2, P2, _, _, _, _, _, _, _, rfl⟩
        clear W2 P2 he hec hsc
        rintro σ H2 ⟨e, sc', as', ls, ps, pts, he, hec, hsc, W2, P2, v11, v12, v13, v14, v15, v16, v17, rfl⟩
        have p2l := P2.rl
        have p2d := P2.d1
        refine ⟨fun σ' H' => W15 K C_Book C_LivePost rw a p lt pl sl ns H H' (sc' (m + e)) (DN sc' (m + e)) [] as' ls ps pts sc' qs [(t, sc' m, m)] ∧ σ' = s9 t v v11 v12 v13 v14 v15 v16 v17, ?_, ?_⟩
        · refine ⟨_, rfl, _, rfl, p, _, _, _, pl, ps, pts, rfl, W2.live, W2.pos, W2.ppt, P2.pl, P2.at_, P2.good.left, by omega, by omega, fun H3 s3 => ⟨_, rfl, iteF ⟨W2.same s3, rfl⟩⟩⟩
        clear W2
        rintro σ H2 ⟨W2, rfl⟩
        obtain ⟨dx, sx, d1, u1, ks, kd, ku, h1, _⟩ := W2.live.ex
        refine ⟨_, rfl, p, dx, _, rfl, h1, p, _, _, _, rfl, W2.live, by rw [DN_len]; omega, fun H3 l3 xs s3 f3 e3 lx => ?_⟩
        rw [DN_len] at lx
        have W3 := W2.same s3
        have sn : SeenAt K (Bd rw lt pl sl) H3 t (sc' m) m := W3.seen _ List.mem_cons_self
        obtain ⟨ot, as3, ll, rs, l1, ps1, l2, ps2, g1, _⟩ := sn
        refine ⟨l3, _, rfl, .inl (SqL.of e3), _, rfl, t, _, _, _, rfl, rfl, .inl (.inl g1), rfl, _, _, rfl, rfl, _, rfl, ite2 (fun c => ?_) (fun c => ?_)⟩
        · have e1 : e = 1 := by
            have := of_decide_eq_true c
            rw [lx] at this
            omega
          subst e1
          subst hm
          refine ⟨_, rfl, .inl ⟨rfl, _, SqL.of W3.stp.1⟩, _, rfl, _, rfl, p, _, _, _, rfl, W3.live, by omega, by rw [DN_len]; omega, fun H4 u s4 f4 Sn4 => ?_⟩
          rw [DN_len] at Sn4
          have W4 := W3.saw s4 Sn4
          refine ⟨(by show 2 ≤ sizeLine; decide), fun q hq => ?_⟩
          have s5 := Same.new (o := .tup [.ref t, .ref u]) hq
          have W5 := W4.same s5
          refine ⟨sl, _, _, rfl, rfl, W5.stp.1, by rw [List.length_map, sizeLine_eq]; omega, ?_⟩
          refine ⟨qs.length + 1, sc', as', ls, ps, pts, qs ++ [q], W5.noted F upd_same (by simp) (by simp), (fun k hk => by
            rcases Nat.lt_or_ge k (qs.length + 1) with z | z
            · rw [hsc k (by omega)]
              exact gsc k (by omega)
            · have : k = qs.length + 1 := by omega
              subst this
              exact P2.gs (by omega)), P2, by simp, by omega, _, _, _, _, _, _, _, _, _, _, rfl⟩
        · have e1 : e = 0 := by
            rcases Nat.eq_zero_or_pos e with z | z
            · exact z
            · refine absurd (decide_eq_true ?_) c
              rw [lx]
              omega
          subst e1
          exact ⟨m, sc', as', ls, ps, pts, qs, W3.sub (fun x hx => by cases hx), (fun k hk => by rw [hsc k hk]; exact gsc k hk), P2.succ (by omega), hm, by omega, _, _, _, _, _, _, _, _, _, _, rfl⟩
      · rintro σ' H' ⟨m, sc, as', ls, ps, pts, qs, W, gz, Pz, hm, hm2, z⟩
        exact ⟨m, sc, as', ls, ps, pts, qs, W, gz, hm, by simpa using hm2, z⟩
    clear W1 P0
    rintro σ H1 ⟨m, sc, as', ls, ps, pts, qs, W1, gsc, hq, hm, v8, v9, v10, v11, v12, v13, v14, v15, v16, v17, rfl⟩
    have eqS : ∀ (k n : Nat), k ≤ m → PyData.eqv (seenD (sc k) n) (seenD (sc k) n) = true := fun k n hk => PySem.SeqAt.eqv_refl _ (seenD_lay (gsc k hk).1 (gsc k hk).2.1)
    have shS : ∀ (k n : Nat), k ≤ m → SeqAt.shaped (seenD (sc k) n) = true := fun k n hk => seenD_shaped (gsc k hk).1 (gsc k hk).2.1
    refine ⟨fun σ' H' => W15 K C_Book C_LivePost rw a p lt pl sl ns H H' (sc 0) (DN sc 0) (UN sc m m) as' ls ps pts sc qs [] ∧ ∃ v8 v9 v10 v11 v12 v13 v14 v15 v16 v17, σ' = st pl sl v8 v9 v10 v11 v12 v13 v14 v15 v16 v17, ?_, ?_⟩
    · refine ⟨_, rfl, sl, _, rfl, SqL.of W1.stp.1, fun R hR => ?_⟩
      rw [← List.map_reverse]
      have s2 := Same.new (o := .lst (qs.reverse.map V.ref)) hR
      have eR : (upd H1 R (.lst (qs.reverse.map V.ref))) R = some (.lst (qs.reverse.map V.ref)) := upd_same
      generalize upd H1 R (.lst (qs.reverse.map V.ref)) = H2 at s2 eR
      have W2 := W1.same s2
      clear W1
      refine ⟨R, rfl, ⟨_, SqL.of eR⟩, for_it (walk_list (xs := qs.reverse.map V.ref)) (fun j σ H' => H' R = some (.lst (qs.reverse.map V.ref)) ∧ ∃ k, m = j + k ∧ W15 K C_Book C_LivePost rw a p lt pl sl ns H H' (sc k) (DN sc k) (UN sc m j) as' ls ps pts sc qs [] ∧ ∃ v8 v9 v10 v11 v12 v13 v14 v15 v16 v17, σ = st pl sl v8 v9 v10 v11 v12 v13 v14 v15 v16 v17)
        ⟨eR, m, by omega, W2, _, _, _, _, _, _, _, _, _, _, rfl⟩ (fun j σ H' _ z => SqL.of z.1) ?_ ?_⟩
      · rintro j y σ H3 H3' hj ⟨eR3, k', hk', W3, v8, v9, v10, v11, v12, v13, v14, v15, v16, v17, rfl⟩ ⟨rfl, ey⟩
        rw [List.length_map, List.length_reverse, hq] at hj
        obtain ⟨k, rfl⟩ : ∃ k, k' = k + 1 := ⟨k' - 1, by omega⟩
        have ekq : qs.reverse[j]? = qs[k]? := by rw [List.getElem?_reverse (by omega)]; congr 1; omega
        obtain ⟨q, eq⟩ : ∃ q, qs[k]? = some q := ⟨qs[k]'(by omega), by simp [show k < qs.length by omega]⟩
        rw [List.getElem?_map, ekq, eq] at ey
        cases ey
        obtain ⟨b, c, hqq, Sb, Sc⟩ := W3.stp.2 k q eq
        have hun : UN sc m (j + 1) = UN sc m j ++ [(sc k, sc (k + 1))] := by
          rw [UN_succ, show m - 1 - j = k by omega]
        have W3' : W15 K C_Book C_LivePost rw a p lt pl sl ns H H3' (sc (k + 1)) (DN sc (k + 1)) (UN sc m j) as' ls ps pts sc qs [(b, sc k, k), (c, sc (k + 1), k + 1)] := ⟨W3.s0, W3.row, W3.live, W3.lat, W3.lor, W3.pos, W3.ppt, W3.stp, fun x hx => by
          rcases List.mem_cons.mp hx with rfl | hx
          · exact Sb
          · rcases List.mem_cons.mp hx with rfl | hx
            · exact Sc
            · cases hx⟩
        have gr := (gsc (k + 1) (by omega)).1
        refine ⟨q, _, rfl, .inl (.inl hqq), rfl, _, _, rfl, _, _, rfl, rfl, ?_⟩
        refine ⟨_, rfl, p, _, _, _, rfl, W3'.live, (gsc _ (by omega)).2.2, by rw [DN_len]; omega, fun H4 u s4 f4 Sn4 => ?_⟩
        rw [DN_len] at Sn4
        have W4 := W3'.same s4
        have Sc4 : SeenAt K (Bd rw lt pl sl) H4 c (sc (k + 1)) (k + 1) := W4.seen (c, sc (k + 1), k + 1) (by simp)
        refine ⟨_, rfl, _, _, Sn4.dp, Sc4.dp, shS _ _ (by omega), shS _ _ (by omega), ?_⟩
        rw [eqS _ _ (by omega)]
        obtain ⟨dx, sx, d1, u1, ks, kd, ku, h1, _⟩ := W4.live.ex
        refine ⟨_, rfl, iteF ?_⟩
        refine ⟨_, rfl, p, dx, _, rfl, h1, rfl, ?_⟩
        refine nilT ?_
        refine ⟨p, sc (k + 1), DN sc k, UN sc m j, sc k, sc (k + 1), rfl, by rw [← DN_succ]; exact W4.live, by rw [DN_len]; omega, by rw [UN_len]; omega, fun H5 L5 k5 => ?_⟩
        rw [← hun] at L5
        have W5 := W4.lived F L5 k5
        have Sb5 : SeenAt K (Bd rw lt pl sl) H5 b (sc k) k := W5.seen (b, sc k, k) (by simp)
        have eR5 := k5 _ _ (s4 _ _ eR3) (W4.live.not_lst (s4 _ _ eR3))
        refine ⟨_, rfl, iteF ?_⟩
        refine ⟨_, rfl, p, _, _, _, rfl, W5.live, (gsc _ (by omega)).2.2, by rw [DN_len]; omega, fun H6 u2 s6 f6 Sn6 => ?_⟩
        rw [DN_len] at Sn6
        refine ⟨_, rfl, _, _, Sn6.dp, (Sb5.keep (fun b u e _ => s6 _ _ e) (fun b xs e _ => s6 _ _ e)).dp, shS _ _ (by omega), shS _ _ (by omega), ?_⟩
        rw [eqS _ _ (by omega)]
        refine ⟨_, rfl, iteF ?_⟩
        exact ⟨s6 _ _ eR5, k, by omega, (W5.same s6).sub (fun x hx => by cases hx), _, _, _, _, _, _, _, _, _, _, rfl⟩
      · rintro σ H3 ⟨eR3, k', hk', W3, z⟩
        rw [List.length_map, List.length_reverse, hq] at hk' W3
        have : k' = 0 := by omega
        subst this
        exact ⟨W3, z⟩
    clear W1
    rintro σ H1 ⟨W1, v8, v9, v10, v11, v12, v13, v14, v15, v16, v17, rfl⟩
    refine ⟨fun _ _ => True, ?_, fun σ' H' _ => k _⟩
    refine ⟨_, rfl, sl, rfl, ⟨_, SqL.of W1.stp.1⟩, for_it (walk_list (xs := qs.map V.ref)) (fun j σ H' => ∃ r, m = j + r ∧ W15 K C_Book C_LivePost rw a p lt pl sl ns H H' (sc j) (DN sc j) (UN sc m r) as' ls ps pts sc qs [] ∧ ∃ v8 v9 v10 v11 v12 v13 v14 v15 v16 v17, σ = st pl sl v8 v9 v10 v11 v12 v13 v14 v15 v16 v17)
      ⟨m, by omega, W1, _, _, _, _, _, _, _, _, _, _, rfl⟩ (fun j σ H' _ ⟨_, _, z, _⟩ => SqL.of z.stp.1) ?_ (fun _ _ _ => trivial)⟩
    rintro j y σ H3 H3' hj ⟨r', hk', W3, v8, v9, v10, v11, v12, v13, v14, v15, v16, v17, rfl⟩ ⟨rfl, ey⟩
    rw [List.length_map, hq] at hj
    obtain ⟨r, rfl⟩ : ∃ r, r' = r + 1 := ⟨r' - 1, by omega⟩
    obtain ⟨q, eq⟩ : ∃ q, qs[j]? = some q := ⟨qs[j]'(by omega), by simp [show j < qs.length by omega]⟩
    rw [List.getElem?_map, eq] at ey
    cases ey
    obtain ⟨b, c, hqq, Sb, Sc⟩ := W3.stp.2 j q eq
    have hun : UN sc m (r + 1) = UN sc m r ++ [(sc j, sc (j + 1))] := by
      rw [UN_succ, show m - 1 - r = j by omega]
    have W3' : W15 K C_Book C_LivePost rw a p lt pl sl ns H H3' (sc j) (DN sc j) (UN sc m (r + 1)) as' ls ps pts sc qs [(b, sc j, j), (c, sc (j + 1), j + 1)] := ⟨W3.s0, W3.row, W3.live, W3.lat, W3.lor, W3.pos, W3.ppt, W3.stp, fun x hx => by
      rcases List.mem_cons.mp hx with rfl | hx
      · exact Sb
      · rcases List.mem_cons.mp hx with rfl | hx
        · exact Sc
        · cases hx⟩
    refine ⟨q, _, rfl, .inl (.inl hqq), rfl, _, _, rfl, _, _, rfl, rfl, ?_⟩
    refine ⟨_, rfl, p, _, _, _, rfl, W3'.live, (gsc _ (by omega)).2.2, by rw [DN_len]; omega, fun H4 u s4 f4 Sn4 => ?_⟩
    rw [DN_len] at Sn4
    have W4 := W3'.same s4
    have Sb4 : SeenAt K (Bd rw lt pl sl) H4 b (sc j) j := W4.seen (b, sc j, j) (by simp)
    refine ⟨_, rfl, _, _, Sn4.dp, Sb4.dp, shS _ _ (by omega), shS _ _ (by omega), ?_⟩
    rw [eqS _ _ (by omega)]
    obtain ⟨dx, sx, d1, u1, ks, kd, ku, h1, _⟩ := W4.live.ex
    refine ⟨_, rfl, iteF ?_⟩
    refine ⟨_, rfl, p, dx, _, rfl, h1, rfl, ?_⟩
    refine nilT ?_
    refine ⟨p, sc j, DN sc j, UN sc m r, sc j, sc (j + 1), rfl, by rw [← hun]; exact W4.live, by rw [DN_len]; omega, by rw [UN_len]; omega, fun H5 L5 k5 => ?_⟩
    rw [← DN_succ] at L5
    have W5 := W4.lived F L5 k5
    have Sc5 : SeenAt K (Bd rw lt pl sl) H5 c (sc (j + 1)) (j + 1) := W5.seen (c, sc (j + 1), j + 1) (by simp)
    refine ⟨_, rfl, iteF ?_⟩
    refine ⟨_, rfl, p, _, _, _, rfl, W5.live, (gsc _ (by omega)).2.2, by rw [DN_len]; omega, fun H6 u2 s6 f6 Sn6 => ?_⟩
    rw [DN_len] at Sn6
    refine ⟨_, rfl, _, _, Sn6.dp, (Sc5.keep (fun b u e _ => s6 _ _ e) (fun b xs e _ => s6 _ _ e)).dp, shS _ _ (by omega), shS _ _ (by omega), ?_⟩
    rw [eqS _ _ (by omega)]
    refine ⟨_, rfl, iteF ?_⟩
    exact ⟨r, by omega, (W5.same s6).sub (fun x hx => by cases hx), _, _, _, _, _, _, _, _, _, _, rfl⟩
end

end MF
set_option Elab.async false
set_option linter.all false
set_option maxRecDepth 100000
set_option maxHeartbeats 2000000
set_option pp.maxSteps 600
namespace MF
open PySem PySem.Spec PyProof.Rows L2 StX
theorem all_mk {l : PySem.W.OpenLaw} {w : World} {K : PySem.W.Frag} {h : Heap} {mg : Str → Option Value} {fa C_Book C_Letter C_LivePost f_q0 f_q1 f_q2 f_q3 f_q4 f_q5 f_q6 p_q6 f_q7 f_q8 f_q9 f_q10 f_q11 f_q12 f_q13 f_q14 f_q15 f_q16 f_q17 f_q18 f_q19 f_q20 f_q21 f_q22 p_q22 f_q23 p_q23 f_q24 p_q24 f_q25 p_q25 f_q26 p_q26 f_q27 f_q28 f_q29 f_q30 f_q31 f_q32 f_q33 f_q34 f_q35 f_q36 f_q37 f_q38 f_q39 f_q40 : Addr} (X : K.In h) (G : h.Ns mainGlobals mg) (hfa : mg "law" = some (.ref fa))
    {odq0 anq0 odq1 anq1 odq2 anq2 odq3 anq3 odq4 anq4 odq5 anq5 odq6 anq6 odq7 anq7 odq8 anq8 odq9 anq9 odq10 anq10 odq11 anq11 odq12 anq12 odq13 anq13 odq14 anq14 odq15 anq15 odq16 anq16 odq17 anq17 odq18 anq18 odq19 anq19 odq20 anq20 odq21 anq21 odq22 anq22 odq23 anq23 odq24 anq24 odq25 anq25 odq26 anq26 odq27 anq27 odq28 anq28 odq29 anq29 odq30 anq30 odq31 anq31 odq32 anq32 odq33 anq33 odq34 anq34 odq35 anq35 odq36 anq36 odq37 anq37 odq38 anq38 odq39 anq39 odq40 anq40 : Option Addr} {slq0 slq1 slq2 slq3 slq4 slq5 slq6 slq7 slq8 slq9 slq10 slq11 slq12 slq13 slq14 slq15 slq16 slq17 slq18 slq19 slq20 slq21 slq22 slq23 slq24 slq25 slq26 slq27 slq28 slq29 slq30 slq31 slq32 slq33 slq34 slq35 slq36 slq37 slq38 slq39 slq40 : Array (Option Value)} {ocq0 kVq0 dcq0 pmq0 cdq0 ctq0 ocq1 kVq1 dcq1 pmq1 cdq1 ctq1 ocq2 kVq2 dcq2 pmq2 cdq2 ctq2 ocq3 kVq3 dcq3 pmq3 cdq3 ctq3 ocq4 kVq4 dcq4 pmq4 cdq4 ctq4 ocq5 kVq5 dcq5 pmq5 cdq5 ctq5 ocq6 kVq6 dcq6 pmq6 cdq6 ctq6 ocq7 kVq7 dcq7 pmq7 cdq7 ctq7 ocq8 kVq8 dcq8 pmq8 cdq8 ctq8 ocq9 kVq9 dcq9 pmq9 cdq9 ctq9 ocq10 kVq10 dcq10 pmq10 cdq10 ctq10 ocq11 kVq11 dcq11 pmq11 cdq11 ctq11 ocq12 kVq12 dcq12 pmq12 cdq12 ctq12 ocq13 kVq13 dcq13 pmq13 cdq13 ctq13 ocq14 kVq14 dcq14 pmq14 cdq14 ctq14 ocq15 kVq15 dcq15 pmq15 cdq15 ctq15 ocq16 kVq16 dcq16 pmq16 cdq16 ctq16 ocq17 kVq17 dcq17 pmq17 cdq17 ctq17 ocq18 kVq18 dcq18 pmq18 cdq18 ctq18 ocq19 kVq19 dcq19 pmq19 cdq19 ctq19 ocq20 kVq20 dcq20 pmq20 cdq20 ctq20 ocq21 kVq21 dcq21 pmq21 cdq21 ctq21 ocq22 kVq22 dcq22 pmq22 cdq22 ctq22 ocq23 kVq23 dcq23 pmq23 cdq23 ctq23 ocq24 kVq24 dcq24 pmq24 cdq24 ctq24 ocq25 kVq25 dcq25 pmq25 cdq25 ctq25 ocq26 kVq26 dcq26 pmq26 cdq26 ctq26 ocq27 kVq27 dcq27 pmq27 cdq27 ctq27 ocq28 kVq28 dcq28 pmq28 cdq28 ctq28 ocq29 kVq29 dcq29 pmq29 cdq29 ctq29 ocq30 kVq30 dcq30 pmq30 cdq30 ctq30 ocq31 kVq31 dcq31 pmq31 cdq31 ctq31 ocq32 kVq32 dcq32 pmq32 cdq32 ctq32 ocq33 kVq33 dcq33 pmq33 cdq33 ctq33 ocq34 kVq34 dcq34 pmq34 cdq34 ctq34 ocq35 kVq35 dcq35 pmq35 cdq35 ctq35 ocq36 kVq36 dcq36 pmq36 cdq36 ctq36 ocq37 kVq37 dcq37 pmq37 cdq37 ctq37 ocq38 kVq38 dcq38 pmq38 cdq38 ctq38 ocq39 kVq39 dcq39 pmq39 cdq39 ctq39 ocq40 kVq40 dcq40 pmq40 cdq40 ctq40 : Value} {tg_0 tg_1 tg_2 tg_3 tg_4 tg_5 tg_6 : Tok} {rs_q6 rs_q22 rs_q23 rs_q24 rs_q25 rs_q26 : List Value}
    (aC_Book : PySem.W.nsIn K mainGlobals "Book" = some (some (.ref C_Book)))
    (aC_Letter : PySem.W.nsIn K mainGlobals "Letter" = some (some (.ref C_Letter)))
    (aC_LivePost : PySem.W.nsIn K mainGlobals "LivePost" = some (some (.ref C_LivePost)))
    (aq0 : PySem.W.nsIn K mainGlobals "is_integer" = some (some (.ref f_q0)))
    (lq0 : K.lookup f_q0 = some ⟨ocq0, odq0, .func (PySem.W.fnOf "is_integer" "is_integer" (defArgs s_is_integer) (defBody s_is_integer) (defScope s_is_integer) .none kVq0 dcq0 pmq0 anq0 cdq0 ctq0), slq0⟩)
    (cq0 : PySem.W.codeIn K cdq0 "is_integer" = true)
    (kq0 : PySem.W.keepIn K (.ref f_q0) = true)
    (aq1 : PySem.W.nsIn K mainGlobals "is_address" = some (some (.ref f_q1)))
    (lq1 : K.lookup f_q1 = some ⟨ocq1, odq1, .func (PySem.W.fnOf "is_address" "is_address" (defArgs s_is_address) (defBody s_is_address) (defScope s_is_address) .none kVq1 dcq1 pmq1 anq1 cdq1 ctq1), slq1⟩)
    (cq1 : PySem.W.codeIn K cdq1 "is_address" = true)
    (kq1 : PySem.W.keepIn K (.ref f_q1) = true)
    (aq2 : PySem.W.nsIn K mainGlobals "check_letter" = some (some (.ref f_q2)))
    (lq2 : K.lookup f_q2 = some ⟨ocq2, odq2, .func (PySem.W.fnOf "check_letter" "check_letter" (defArgs s_check_letter) (defBody s_check_letter) (defScope s_check_letter) .none kVq2 dcq2 pmq2 anq2 cdq2 ctq2), slq2⟩)
    (cq2 : PySem.W.codeIn K cdq2 "check_letter" = true)
    (kq2 : PySem.W.keepIn K (.ref f_q2) = true)
    (aq3 : PySem.W.nsIn K mainGlobals "is_order" = some (some (.ref f_q3)))
    (lq3 : K.lookup f_q3 = some ⟨ocq3, odq3, .func (PySem.W.fnOf "is_order" "is_order" (defArgs s_is_order) (defBody s_is_order) (defScope s_is_order) .none kVq3 dcq3 pmq3 anq3 cdq3 ctq3), slq3⟩)
    (cq3 : PySem.W.codeIn K cdq3 "is_order" = true)
    (kq3 : PySem.W.keepIn K (.ref f_q3) = true)
    (aq4 : PySem.W.nsIn K mainGlobals "do_overlap" = some (some (.ref f_q4)))
    (lq4 : K.lookup f_q4 = some ⟨ocq4, odq4, .func (PySem.W.fnOf "do_overlap" "do_overlap" (defArgs s_do_overlap) (defBody s_do_overlap) (defScope s_do_overlap) .none kVq4 dcq4 pmq4 anq4 cdq4 ctq4), slq4⟩)
    (cq4 : PySem.W.codeIn K cdq4 "do_overlap" = true)
    (kq4 : PySem.W.keepIn K (.ref f_q4) = true)
    (aq5 : PySem.W.findIn K (.ref C_Book) "__init__" = some (some (.ref f_q5)))
    (iq5 : PySem.W.isFn K (.ref f_q5) = true)
    (lq5 : K.lookup f_q5 = some ⟨ocq5, odq5, .func (PySem.W.fnOf "__init__" "Book.__init__" (defArgs s_BookX_initX) (defBody s_BookX_initX) (defScope s_BookX_initX) .none kVq5 dcq5 pmq5 anq5 cdq5 ctq5), slq5⟩)
    (cq5 : PySem.W.codeIn K cdq5 "Book.__init__" = true)
    (kq5 : PySem.W.keepIn K (.ref f_q5) = true)
    (aq6 : PySem.W.findIn K (.ref C_Book) "orders" = some (some (.ref p_q6)))
    (pgq6 : PySem.W.specialIn K (.ref p_q6) "__get__" = some (some (.builtin "property.__get__")))
    (ptq6 : PySem.W.takesIn K (.ref p_q6) = some true)
    (prq6 : PySem.W.recIn K p_q6 "property" = some (.ref f_q6 :: rs_q6))
    (lq6 : K.lookup f_q6 = some ⟨ocq6, odq6, .func (PySem.W.fnOf "orders" "Book.orders" (defArgs s_Book_orders) (defBody s_Book_orders) (defScope s_Book_orders) .none kVq6 dcq6 pmq6 anq6 cdq6 ctq6), slq6⟩)
    (cq6 : PySem.W.codeIn K cdq6 "Book.orders" = true)
    (kq6 : PySem.W.keepIn K (.ref f_q6) = true)
    (aq7 : PySem.W.findIn K (.ref C_Book) "__len__" = some (some (.ref f_q7)))
    (iq7 : PySem.W.isFn K (.ref f_q7) = true)
    (lq7 : K.lookup f_q7 = some ⟨ocq7, odq7, .func (PySem.W.fnOf "__len__" "Book.__len__" (defArgs s_BookX_lenX) (defBody s_BookX_lenX) (defScope s_BookX_lenX) .none kVq7 dcq7 pmq7 anq7 cdq7 ctq7), slq7⟩)
    (cq7 : PySem.W.codeIn K cdq7 "Book.__len__" = true)
    (kq7 : PySem.W.keepIn K (.ref f_q7) = true)
    (aq8 : PySem.W.findIn K (.ref C_Book) "__add__" = some (some (.ref f_q8)))
    (iq8 : PySem.W.isFn K (.ref f_q8) = true)
    (lq8 : K.lookup f_q8 = some ⟨ocq8, odq8, .func (PySem.W.fnOf "__add__" "Book.__add__" (defArgs s_BookX_addX) (defBody s_BookX_addX) (defScope s_BookX_addX) .none kVq8 dcq8 pmq8 anq8 cdq8 ctq8), slq8⟩)
    (cq8 : PySem.W.codeIn K cdq8 "Book.__add__" = true)
    (kq8 : PySem.W.keepIn K (.ref f_q8) = true)
    (aq9 : PySem.W.findIn K (.ref C_Book) "order_for" = some (some (.ref f_q9)))
    (iq9 : PySem.W.isFn K (.ref f_q9) = true)
    (lq9 : K.lookup f_q9 = some ⟨ocq9, odq9, .func (PySem.W.fnOf "order_for" "Book.order_for" (defArgs s_Book_order_for) (defBody s_Book_order_for) (defScope s_Book_order_for) .none kVq9 dcq9 pmq9 anq9 cdq9 ctq9), slq9⟩)
    (cq9 : PySem.W.codeIn K cdq9 "Book.order_for" = true)
    (kq9 : PySem.W.keepIn K (.ref f_q9) = true)
    (aq10 : PySem.W.findIn K (.ref C_Book) "next_change" = some (some (.ref f_q10)))
    (iq10 : PySem.W.isFn K (.ref f_q10) = true)
    (lq10 : K.lookup f_q10 = some ⟨ocq10, odq10, .func (PySem.W.fnOf "next_change" "Book.next_change" (defArgs s_Book_next_change) (defBody s_Book_next_change) (defScope s_Book_next_change) .none kVq10 dcq10 pmq10 anq10 cdq10 ctq10), slq10⟩)
    (cq10 : PySem.W.codeIn K cdq10 "Book.next_change" = true)
    (kq10 : PySem.W.keepIn K (.ref f_q10) = true)
    (aq11 : PySem.W.nsIn K mainGlobals "book_of" = some (some (.ref f_q11)))
    (lq11 : K.lookup f_q11 = some ⟨ocq11, odq11, .func (PySem.W.fnOf "book_of" "book_of" (defArgs s_book_of) (defBody s_book_of) (defScope s_book_of) .none kVq11 dcq11 pmq11 anq11 cdq11 ctq11), slq11⟩)
    (cq11 : PySem.W.codeIn K cdq11 "book_of" = true)
    (kq11 : PySem.W.keepIn K (.ref f_q11) = true)
    (aq12 : PySem.W.findIn K (.ref C_Letter) "__init__" = some (some (.ref f_q12)))
    (iq12 : PySem.W.isFn K (.ref f_q12) = true)
    (lq12 : K.lookup f_q12 = some ⟨ocq12, odq12, .func (PySem.W.fnOf "__init__" "Letter.__init__" (defArgs s_LetterX_initX) (defBody s_LetterX_initX) (defScope s_LetterX_initX) .none kVq12 dcq12 pmq12 anq12 cdq12 ctq12), slq12⟩)
    (cq12 : PySem.W.codeIn K cdq12 "Letter.__init__" = true)
    (kq12 : PySem.W.keepIn K (.ref f_q12) = true)
    (aq13 : PySem.W.findIn K (.ref C_Letter) "order_now" = some (some (.ref f_q13)))
    (iq13 : PySem.W.isFn K (.ref f_q13) = true)
    (lq13 : K.lookup f_q13 = some ⟨ocq13, odq13, .func (PySem.W.fnOf "order_now" "Letter.order_now" (defArgs s_Letter_order_now) (defBody s_Letter_order_now) (defScope s_Letter_order_now) .none kVq13 dcq13 pmq13 anq13 cdq13 ctq13), slq13⟩)
    (cq13 : PySem.W.codeIn K cdq13 "Letter.order_now" = true)
    (kq13 : PySem.W.keepIn K (.ref f_q13) = true)
    (aq14 : PySem.W.findIn K (.ref C_Letter) "step" = some (some (.ref f_q14)))
    (iq14 : PySem.W.isFn K (.ref f_q14) = true)
    (lq14 : K.lookup f_q14 = some ⟨ocq14, odq14, .func (PySem.W.fnOf "step" "Letter.step" (defArgs s_Letter_step) (defBody s_Letter_step) (defScope s_Letter_step) .none kVq14 dcq14 pmq14 anq14 cdq14 ctq14), slq14⟩)
    (cq14 : PySem.W.codeIn K cdq14 "Letter.step" = true)
    (kq14 : PySem.W.keepIn K (.ref f_q14) = true)
    (aq15 : PySem.W.findIn K (.ref C_Letter) "skip" = some (some (.ref f_q15)))
    (iq15 : PySem.W.isFn K (.ref f_q15) = true)
    (lq15 : K.lookup f_q15 = some ⟨ocq15, odq15, .func (PySem.W.fnOf "skip" "Letter.skip" (defArgs s_Letter_skip) (defBody s_Letter_skip) (defScope s_Letter_skip) .none kVq15 dcq15 pmq15 anq15 cdq15 ctq15), slq15⟩)
    (cq15 : PySem.W.codeIn K cdq15 "Letter.skip" = true)
    (kq15 : PySem.W.keepIn K (.ref f_q15) = true)
    (aq16 : PySem.W.findIn K (.ref C_Letter) "finish" = some (some (.ref f_q16)))
    (iq16 : PySem.W.isFn K (.ref f_q16) = true)
    (lq16 : K.lookup f_q16 = some ⟨ocq16, odq16, .func (PySem.W.fnOf "finish" "Letter.finish" (defArgs s_Letter_finish) (defBody s_Letter_finish) (defScope s_Letter_finish) .none kVq16 dcq16 pmq16 anq16 cdq16 ctq16), slq16⟩)
    (cq16 : PySem.W.codeIn K cdq16 "Letter.finish" = true)
    (kq16 : PySem.W.keepIn K (.ref f_q16) = true)
    (aq17 : PySem.W.nsIn K mainGlobals "end_of" = some (some (.ref f_q17)))
    (lq17 : K.lookup f_q17 = some ⟨ocq17, odq17, .func (PySem.W.fnOf "end_of" "end_of" (defArgs s_end_of) (defBody s_end_of) (defScope s_end_of) .none kVq17 dcq17 pmq17 anq17 cdq17 ctq17), slq17⟩)
    (cq17 : PySem.W.codeIn K cdq17 "end_of" = true)
    (kq17 : PySem.W.keepIn K (.ref f_q17) = true)
    (aq18 : PySem.W.nsIn K mainGlobals "end" = some (some (.ref f_q18)))
    (lq18 : K.lookup f_q18 = some ⟨ocq18, odq18, .func (PySem.W.fnOf "end" "end" (defArgs s_end) (defBody s_end) (defScope s_end) .none kVq18 dcq18 pmq18 anq18 cdq18 ctq18), slq18⟩)
    (cq18 : PySem.W.codeIn K cdq18 "end" = true)
    (kq18 : PySem.W.keepIn K (.ref f_q18) = true)
    (aq19 : PySem.W.nsIn K mainGlobals "route" = some (some (.ref f_q19)))
    (lq19 : K.lookup f_q19 = some ⟨ocq19, odq19, .func (PySem.W.fnOf "route" "route" (defArgs s_route) (defBody s_route) (defScope s_route) .none kVq19 dcq19 pmq19 anq19 cdq19 ctq19), slq19⟩)
    (cq19 : PySem.W.codeIn K cdq19 "route" = true)
    (kq19 : PySem.W.keepIn K (.ref f_q19) = true)
    (aq20 : PySem.W.nsIn K mainGlobals "sent_on" = some (some (.ref f_q20)))
    (lq20 : K.lookup f_q20 = some ⟨ocq20, odq20, .func (PySem.W.fnOf "sent_on" "sent_on" (defArgs s_sent_on) (defBody s_sent_on) (defScope s_sent_on) .none kVq20 dcq20 pmq20 anq20 cdq20 ctq20), slq20⟩)
    (cq20 : PySem.W.codeIn K cdq20 "sent_on" = true)
    (kq20 : PySem.W.keepIn K (.ref f_q20) = true)
    (aq21 : PySem.W.findIn K (.ref C_LivePost) "__init__" = some (some (.ref f_q21)))
    (iq21 : PySem.W.isFn K (.ref f_q21) = true)
    (lq21 : K.lookup f_q21 = some ⟨ocq21, odq21, .func (PySem.W.fnOf "__init__" "LivePost.__init__" (defArgs s_LivePostX_initX) (defBody s_LivePostX_initX) (defScope s_LivePostX_initX) .none kVq21 dcq21 pmq21 anq21 cdq21 ctq21), slq21⟩)
    (cq21 : PySem.W.codeIn K cdq21 "LivePost.__init__" = true)
    (kq21 : PySem.W.keepIn K (.ref f_q21) = true)
    (aq22 : PySem.W.findIn K (.ref C_LivePost) "today" = some (some (.ref p_q22)))
    (pgq22 : PySem.W.specialIn K (.ref p_q22) "__get__" = some (some (.builtin "property.__get__")))
    (ptq22 : PySem.W.takesIn K (.ref p_q22) = some true)
    (prq22 : PySem.W.recIn K p_q22 "property" = some (.ref f_q22 :: rs_q22))
    (lq22 : K.lookup f_q22 = some ⟨ocq22, odq22, .func (PySem.W.fnOf "today" "LivePost.today" (defArgs s_LivePost_today) (defBody s_LivePost_today) (defScope s_LivePost_today) .none kVq22 dcq22 pmq22 anq22 cdq22 ctq22), slq22⟩)
    (cq22 : PySem.W.codeIn K cdq22 "LivePost.today" = true)
    (kq22 : PySem.W.keepIn K (.ref f_q22) = true)
    (aq23 : PySem.W.findIn K (.ref C_LivePost) "present_book" = some (some (.ref p_q23)))
    (pgq23 : PySem.W.specialIn K (.ref p_q23) "__get__" = some (some (.builtin "property.__get__")))
    (ptq23 : PySem.W.takesIn K (.ref p_q23) = some true)
    (prq23 : PySem.W.recIn K p_q23 "property" = some (.ref f_q23 :: rs_q23))
    (lq23 : K.lookup f_q23 = some ⟨ocq23, odq23, .func (PySem.W.fnOf "present_book" "LivePost.present_book" (defArgs s_LivePost_present_book) (defBody s_LivePost_present_book) (defScope s_LivePost_present_book) .none kVq23 dcq23 pmq23 anq23 cdq23 ctq23), slq23⟩)
    (cq23 : PySem.W.codeIn K cdq23 "LivePost.present_book" = true)
    (kq23 : PySem.W.keepIn K (.ref f_q23) = true)
    (aq24 : PySem.W.findIn K (.ref C_LivePost) "resting" = some (some (.ref p_q24)))
    (pgq24 : PySem.W.specialIn K (.ref p_q24) "__get__" = some (some (.builtin "property.__get__")))
    (ptq24 : PySem.W.takesIn K (.ref p_q24) = some true)
    (prq24 : PySem.W.recIn K p_q24 "property" = some (.ref f_q24 :: rs_q24))
    (lq24 : K.lookup f_q24 = some ⟨ocq24, odq24, .func (PySem.W.fnOf "resting" "LivePost.resting" (defArgs s_LivePost_resting) (defBody s_LivePost_resting) (defScope s_LivePost_resting) .none kVq24 dcq24 pmq24 anq24 cdq24 ctq24), slq24⟩)
    (cq24 : PySem.W.codeIn K cdq24 "LivePost.resting" = true)
    (kq24 : PySem.W.keepIn K (.ref f_q24) = true)
    (aq25 : PySem.W.findIn K (.ref C_LivePost) "under_way" = some (some (.ref p_q25)))
    (pgq25 : PySem.W.specialIn K (.ref p_q25) "__get__" = some (some (.builtin "property.__get__")))
    (ptq25 : PySem.W.takesIn K (.ref p_q25) = some true)
    (prq25 : PySem.W.recIn K p_q25 "property" = some (.ref f_q25 :: rs_q25))
    (lq25 : K.lookup f_q25 = some ⟨ocq25, odq25, .func (PySem.W.fnOf "under_way" "LivePost.under_way" (defArgs s_LivePost_under_way) (defBody s_LivePost_under_way) (defScope s_LivePost_under_way) .none kVq25 dcq25 pmq25 anq25 cdq25 ctq25), slq25⟩)
    (cq25 : PySem.W.codeIn K cdq25 "LivePost.under_way" = true)
    (kq25 : PySem.W.keepIn K (.ref f_q25) = true)
    (aq26 : PySem.W.findIn K (.ref C_LivePost) "history" = some (some (.ref p_q26)))
    (pgq26 : PySem.W.specialIn K (.ref p_q26) "__get__" = some (some (.builtin "property.__get__")))
    (ptq26 : PySem.W.takesIn K (.ref p_q26) = some true)
    (prq26 : PySem.W.recIn K p_q26 "property" = some (.ref f_q26 :: rs_q26))
    (lq26 : K.lookup f_q26 = some ⟨ocq26, odq26, .func (PySem.W.fnOf "history" "LivePost.history" (defArgs s_LivePost_history) (defBody s_LivePost_history) (defScope s_LivePost_history) .none kVq26 dcq26 pmq26 anq26 cdq26 ctq26), slq26⟩)
    (cq26 : PySem.W.codeIn K cdq26 "LivePost.history" = true)
    (kq26 : PySem.W.keepIn K (.ref f_q26) = true)
    (aq27 : PySem.W.findIn K (.ref C_LivePost) "__len__" = some (some (.ref f_q27)))
    (iq27 : PySem.W.isFn K (.ref f_q27) = true)
    (lq27 : K.lookup f_q27 = some ⟨ocq27, odq27, .func (PySem.W.fnOf "__len__" "LivePost.__len__" (defArgs s_LivePostX_lenX) (defBody s_LivePostX_lenX) (defScope s_LivePostX_lenX) .none kVq27 dcq27 pmq27 anq27 cdq27 ctq27), slq27⟩)
    (cq27 : PySem.W.codeIn K cdq27 "LivePost.__len__" = true)
    (kq27 : PySem.W.keepIn K (.ref f_q27) = true)
    (aq28 : PySem.W.findIn K (.ref C_LivePost) "__call__" = some (some (.ref f_q28)))
    (iq28 : PySem.W.isFn K (.ref f_q28) = true)
    (lq28 : K.lookup f_q28 = some ⟨ocq28, odq28, .func (PySem.W.fnOf "__call__" "LivePost.__call__" (defArgs s_LivePostX_callX) (defBody s_LivePostX_callX) (defScope s_LivePostX_callX) .none kVq28 dcq28 pmq28 anq28 cdq28 ctq28), slq28⟩)
    (cq28 : PySem.W.codeIn K cdq28 "LivePost.__call__" = true)
    (kq28 : PySem.W.keepIn K (.ref f_q28) = true)
    (aq29 : PySem.W.findIn K (.ref C_LivePost) "enter" = some (some (.ref f_q29)))
    (iq29 : PySem.W.isFn K (.ref f_q29) = true)
    (lq29 : K.lookup f_q29 = some ⟨ocq29, odq29, .func (PySem.W.fnOf "enter" "LivePost.enter" (defArgs s_LivePost_enter) (defBody s_LivePost_enter) (defScope s_LivePost_enter) .none kVq29 dcq29 pmq29 anq29 cdq29 ctq29), slq29⟩)
    (cq29 : PySem.W.codeIn K cdq29 "LivePost.enter" = true)
    (kq29 : PySem.W.keepIn K (.ref f_q29) = true)
    (aq30 : PySem.W.findIn K (.ref C_LivePost) "post" = some (some (.ref f_q30)))
    (iq30 : PySem.W.isFn K (.ref f_q30) = true)
    (lq30 : K.lookup f_q30 = some ⟨ocq30, odq30, .func (PySem.W.fnOf "post" "LivePost.post" (defArgs s_LivePost_post) (defBody s_LivePost_post) (defScope s_LivePost_post) .none kVq30 dcq30 pmq30 anq30 cdq30 ctq30), slq30⟩)
    (cq30 : PySem.W.codeIn K cdq30 "LivePost.post" = true)
    (kq30 : PySem.W.keepIn K (.ref f_q30) = true)
    (aq31 : PySem.W.findIn K (.ref C_LivePost) "pass_days" = some (some (.ref f_q31)))
    (iq31 : PySem.W.isFn K (.ref f_q31) = true)
    (lq31 : K.lookup f_q31 = some ⟨ocq31, odq31, .func (PySem.W.fnOf "pass_days" "LivePost.pass_days" (defArgs s_LivePost_pass_days) (defBody s_LivePost_pass_days) (defScope s_LivePost_pass_days) .none kVq31 dcq31 pmq31 anq31 cdq31 ctq31), slq31⟩)
    (cq31 : PySem.W.codeIn K cdq31 "LivePost.pass_days" = true)
    (kq31 : PySem.W.keepIn K (.ref f_q31) = true)
    (aq32 : PySem.W.findIn K (.ref C_LivePost) "give" = some (some (.ref f_q32)))
    (iq32 : PySem.W.isFn K (.ref f_q32) = true)
    (lq32 : K.lookup f_q32 = some ⟨ocq32, odq32, .func (PySem.W.fnOf "give" "LivePost.give" (defArgs s_LivePost_give) (defBody s_LivePost_give) (defScope s_LivePost_give) .none kVq32 dcq32 pmq32 anq32 cdq32 ctq32), slq32⟩)
    (cq32 : PySem.W.codeIn K cdq32 "LivePost.give" = true)
    (kq32 : PySem.W.keepIn K (.ref f_q32) = true)
    (aq33 : PySem.W.findIn K (.ref C_LivePost) "undo" = some (some (.ref f_q33)))
    (iq33 : PySem.W.isFn K (.ref f_q33) = true)
    (lq33 : K.lookup f_q33 = some ⟨ocq33, odq33, .func (PySem.W.fnOf "undo" "LivePost.undo" (defArgs s_LivePost_undo) (defBody s_LivePost_undo) (defScope s_LivePost_undo) .none kVq33 dcq33 pmq33 anq33 cdq33 ctq33), slq33⟩)
    (cq33 : PySem.W.codeIn K cdq33 "LivePost.undo" = true)
    (kq33 : PySem.W.keepIn K (.ref f_q33) = true)
    (aq34 : PySem.W.findIn K (.ref C_LivePost) "redo" = some (some (.ref f_q34)))
    (iq34 : PySem.W.isFn K (.ref f_q34) = true)
    (lq34 : K.lookup f_q34 = some ⟨ocq34, odq34, .func (PySem.W.fnOf "redo" "LivePost.redo" (defArgs s_LivePost_redo) (defBody s_LivePost_redo) (defScope s_LivePost_redo) .none kVq34 dcq34 pmq34 anq34 cdq34 ctq34), slq34⟩)
    (cq34 : PySem.W.codeIn K cdq34 "LivePost.redo" = true)
    (kq34 : PySem.W.keepIn K (.ref f_q34) = true)
    (aq35 : PySem.W.nsIn K mainGlobals "_law_taken" = some (some (.ref f_q35)))
    (lq35 : K.lookup f_q35 = some ⟨ocq35, odq35, .func (PySem.W.fnOf "_law_taken" "_law_taken" (defArgs s__law_taken) (defBody s__law_taken) (defScope s__law_taken) .none kVq35 dcq35 pmq35 anq35 cdq35 ctq35), slq35⟩)
    (cq35 : PySem.W.codeIn K cdq35 "_law_taken" = true)
    (kq35 : PySem.W.keepIn K (.ref f_q35) = true)
    (aq36 : PySem.W.nsIn K mainGlobals "_law_orders" = some (some (.ref f_q36)))
    (lq36 : K.lookup f_q36 = some ⟨ocq36, odq36, .func (PySem.W.fnOf "_law_orders" "_law_orders" (defArgs s__law_orders) (defBody s__law_orders) (defScope s__law_orders) .none kVq36 dcq36 pmq36 anq36 cdq36 ctq36), slq36⟩)
    (cq36 : PySem.W.codeIn K cdq36 "_law_orders" = true)
    (kq36 : PySem.W.keepIn K (.ref f_q36) = true)
    (aq37 : PySem.W.nsIn K mainGlobals "_law_book" = some (some (.ref f_q37)))
    (lq37 : K.lookup f_q37 = some ⟨ocq37, odq37, .func (PySem.W.fnOf "_law_book" "_law_book" (defArgs s__law_book) (defBody s__law_book) (defScope s__law_book) .none kVq37 dcq37 pmq37 anq37 cdq37 ctq37), slq37⟩)
    (cq37 : PySem.W.codeIn K cdq37 "_law_book" = true)
    (kq37 : PySem.W.keepIn K (.ref f_q37) = true)
    (aq38 : PySem.W.nsIn K mainGlobals "_law_seen" = some (some (.ref f_q38)))
    (lq38 : K.lookup f_q38 = some ⟨ocq38, odq38, .func (PySem.W.fnOf "_law_seen" "_law_seen" (defArgs s__law_seen) (defBody s__law_seen) (defScope s__law_seen) .none kVq38 dcq38 pmq38 anq38 cdq38 ctq38), slq38⟩)
    (cq38 : PySem.W.codeIn K cdq38 "_law_seen" = true)
    (kq38 : PySem.W.keepIn K (.ref f_q38) = true)
    (aq39 : PySem.W.nsIn K mainGlobals "_law_are_told" = some (some (.ref f_q39)))
    (lq39 : K.lookup f_q39 = some ⟨ocq39, odq39, .func (PySem.W.fnOf "_law_are_told" "_law_are_told" (defArgs s__law_are_told) (defBody s__law_are_told) (defScope s__law_are_told) .none kVq39 dcq39 pmq39 anq39 cdq39 ctq39), slq39⟩)
    (cq39 : PySem.W.codeIn K cdq39 "_law_are_told" = true)
    (kq39 : PySem.W.keepIn K (.ref f_q39) = true)
    (aq40 : PySem.W.nsIn K mainGlobals "law" = some (some (.ref f_q40)))
    (lq40 : K.lookup f_q40 = some ⟨ocq40, odq40, .func (PySem.W.fnOf "law" "law" (defArgs s_law) (defBody s_law) (defScope s_law) .none kVq40 dcq40 pmq40 anq40 cdq40 ctq40), slq40⟩)
    (cq40 : PySem.W.codeIn K cdq40 "law" = true)
    (kq40 : PySem.W.keepIn K (.ref f_q40) = true)
    (fi_q28 : PySem.W.fnIn K f_q28 = true)
    (pg_Book : PySem.W.plainGet K C_Book Str.empty = true)
    (hd_Book : PySem.W.hasDictIn K C_Book = true)
    (po_Book : PySem.W.plainOver K C_Book = true)
    (sa_Book : PySem.W.findIn K (.ref C_Book) "__setattr__" = some (some (.builtin "object.__setattr__")))
    (mk_Book : PySem.W.makesIn K C_Book = true)
    (kc_Book : PySem.W.keepIn K (.ref C_Book) = true)
    (pg_Letter : PySem.W.plainGet K C_Letter Str.empty = true)
    (hd_Letter : PySem.W.hasDictIn K C_Letter = true)
    (po_Letter : PySem.W.plainOver K C_Letter = true)
    (sa_Letter : PySem.W.findIn K (.ref C_Letter) "__setattr__" = some (some (.builtin "object.__setattr__")))
    (mk_Letter : PySem.W.makesIn K C_Letter = true)
    (kc_Letter : PySem.W.keepIn K (.ref C_Letter) = true)
    (pg_LivePost : PySem.W.plainGet K C_LivePost Str.empty = true)
    (hd_LivePost : PySem.W.hasDictIn K C_LivePost = true)
    (po_LivePost : PySem.W.plainOver K C_LivePost = true)
    (sa_LivePost : PySem.W.findIn K (.ref C_LivePost) "__setattr__" = some (some (.builtin "object.__setattr__")))
    (mk_LivePost : PySem.W.makesIn K C_LivePost = true)
    (kc_LivePost : PySem.W.keepIn K (.ref C_LivePost) = true)
    (n_Book_listed : PySem.W.findIn K (.ref C_Book) "listed" = some none)
    (n_Letter_book : PySem.W.findIn K (.ref C_Letter) "book" = some none)
    (n_Letter_address : PySem.W.findIn K (.ref C_Letter) "address" = some none)
    (n_Letter_day : PySem.W.findIn K (.ref C_Letter) "day" = some none)
    (n_Letter_count : PySem.W.findIn K (.ref C_Letter) "count" = some none)
    (n_Letter_known : PySem.W.findIn K (.ref C_Letter) "known" = some none)
    (n_Letter_is_endless : PySem.W.findIn K (.ref C_Letter) "is_endless" = some none)
    (n_Letter_change : PySem.W.findIn K (.ref C_Letter) "change" = some none)
    (n_LivePost_scene : PySem.W.findIn K (.ref C_LivePost) "scene" = some none)
    (n_LivePost_done : PySem.W.findIn K (.ref C_LivePost) "done" = some none)
    (n_LivePost_undone : PySem.W.findIn K (.ref C_LivePost) "undone" = some none)
    (n_LivePost_is_open : PySem.W.findIn K (.ref C_LivePost) "is_open" = some none)
    (n_LivePost_kept_scene : PySem.W.findIn K (.ref C_LivePost) "kept_scene" = some none)
    (n_LivePost_kept_done : PySem.W.findIn K (.ref C_LivePost) "kept_done" = some none)
    (n_LivePost_kept_undone : PySem.W.findIn K (.ref C_LivePost) "kept_undone" = some none)
    (c_LETTERS : PySem.W.nsIn K mainGlobals "LETTERS" = some (some (.str "abcdefghijklmnopqrstuvwxyz" tg_0)))
    (c_MAX_LETTERS : PySem.W.nsIn K mainGlobals "MAX_LETTERS" = some (some (.int 8 tg_1)))
    (c_MAX_ORDERS_books : PySem.W.nsIn K mainGlobals "MAX_ORDERS_books" = some (some (.int 30 tg_2)))
    (c_MAX_DAY : PySem.W.nsIn K mainGlobals "MAX_DAY" = some (some (.int 1000000000000000000 tg_3)))
    (c_MAX_WAY : PySem.W.nsIn K mainGlobals "MAX_WAY" = some (some (.int 30 tg_4)))
    (c_MAX_LISTED : PySem.W.nsIn K mainGlobals "MAX_LISTED" = some (some (.int 1000 tg_5)))
    (c_MAX_PASSED : PySem.W.nsIn K mainGlobals "MAX_PASSED" = some (some (.int 400 tg_6)))
    (b_isinstance : PySem.W.nsIn K mainGlobals "isinstance" = some none)
    (b_int : PySem.W.nsIn K mainGlobals "int" = some none)
    (b_bool : PySem.W.nsIn K mainGlobals "bool" = some none)
    (b_str : PySem.W.nsIn K mainGlobals "str" = some none)
    (b_tuple : PySem.W.nsIn K mainGlobals "tuple" = some none)
    (b_list : PySem.W.nsIn K mainGlobals "list" = some none)
    (b_len : PySem.W.nsIn K mainGlobals "len" = some none)
    (b_all : PySem.W.nsIn K mainGlobals "all" = some none)
    (b_enumerate : PySem.W.nsIn K mainGlobals "enumerate" = some none)
    (b_range : PySem.W.nsIn K mainGlobals "range" = some none)
    (b_min : PySem.W.nsIn K mainGlobals "min" = some none)
    (b_max : PySem.W.nsIn K mainGlobals "max" = some none)
    (b_sorted : PySem.W.nsIn K mainGlobals "sorted" = some none)
    (b_set : PySem.W.nsIn K mainGlobals "set" = some none)
    (sf : PySem.W.selfFirst K C_Book = true) :
    ∃ fd : FuncData, (∀ (s : Shared) (v : Value), BindsTo s fd ⟨[v], []⟩ [("_law_script", v)]) ∧ ∀ base : Heap, K.In base → base.Ns mainGlobals mg → FnOk l.prog w K mg base CX0 10 fa fd ["_law_script"] (spLaw K) := by
  have e := hfa.symm.trans (PySem.W.mg_of X G aq40)
  cases e
  have Fq0 := fun_mk (st := s_is_integer) lq0 cq0 kq0
  have bq0 := Fq0.binds (ps := ["value", "low", "high"]) fun _ _ _ _ _ _ us hl => match us, hl with | [_, _, _], _ => rfl
  have Fq1 := fun_mk (st := s_is_address) lq1 cq1 kq1
  have bq1 := Fq1.binds (ps := ["value"]) fun _ _ _ _ _ _ us hl => match us, hl with | [_], _ => rfl
  have Fq2 := fun_mk (st := s_check_letter) lq2 cq2 kq2
  have bq2 := Fq2.binds (ps := ["address", "day"]) fun _ _ _ _ _ _ us hl => match us, hl with | [_, _], _ => rfl
  have Fq3 := fun_mk (st := s_is_order) lq3 cq3 kq3
  have bq3 := Fq3.binds (ps := ["value"]) fun _ _ _ _ _ _ us hl => match us, hl with | [_], _ => rfl
  have Fq4 := fun_mk (st := s_do_overlap) lq4 cq4 kq4
  have bq4 := Fq4.binds (ps := ["one", "other"]) fun _ _ _ _ _ _ us hl => match us, hl with | [_, _], _ => rfl
  have Fq5 := fun_mk (st := s_BookX_initX) lq5 cq5 kq5
  have Fq6 := fun_mk (st := s_Book_orders) lq6 cq6 kq6
  have bq6 := Fq6.binds (ps := ["self"]) fun _ _ _ _ _ _ us hl => match us, hl with | [_], _ => rfl
  have Fq7 := fun_mk (st := s_BookX_lenX) lq7 cq7 kq7
  have bq7 := Fq7.binds (ps := ["self"]) fun _ _ _ _ _ _ us hl => match us, hl with | [_], _ => rfl
  have Fq8 := fun_mk (st := s_BookX_addX) lq8 cq8 kq8
  have bq8 := Fq8.binds (ps := ["self", "other"]) fun _ _ _ _ _ _ us hl => match us, hl with | [_, _], _ => rfl
  have Fq9 := fun_mk (st := s_Book_order_for) lq9 cq9 kq9
  have bq9 := Fq9.binds (ps := ["self", "address", "day"]) fun _ _ _ _ _ _ us hl => match us, hl with | [_, _, _], _ => rfl
  have Fq10 := fun_mk (st := s_Book_next_change) lq10 cq10 kq10
  have bq10 := Fq10.binds (ps := ["self", "day"]) fun _ _ _ _ _ _ us hl => match us, hl with | [_, _], _ => rfl
  have Fq11 := fun_mk (st := s_book_of) lq11 cq11 kq11
  have bq11 := Fq11.binds (ps := ["orders"]) fun _ _ _ _ _ _ us hl => match us, hl with | [_], _ => rfl
  have Fq12 := fun_mk (st := s_LetterX_initX) lq12 cq12 kq12
  have bq12 := Fq12.binds (ps := ["self", "book", "address", "day"]) fun _ _ _ _ _ _ us hl => match us, hl with | [_, _, _, _], _ => rfl
  have Fq13 := fun_mk (st := s_Letter_order_now) lq13 cq13 kq13
  have bq13 := Fq13.binds (ps := ["self"]) fun _ _ _ _ _ _ us hl => match us, hl with | [_], _ => rfl
  have Fq14 := fun_mk (st := s_Letter_step) lq14 cq14 kq14
  have bq14 := Fq14.binds (ps := ["self"]) fun _ _ _ _ _ _ us hl => match us, hl with | [_], _ => rfl
  have Fq15 := fun_mk (st := s_Letter_skip) lq15 cq15 kq15
  have bq15 := Fq15.binds (ps := ["self"]) fun _ _ _ _ _ _ us hl => match us, hl with | [_], _ => rfl
  have Fq16 := fun_mk (st := s_Letter_finish) lq16 cq16 kq16
  have bq16 := Fq16.binds (ps := ["self"]) fun _ _ _ _ _ _ us hl => match us, hl with | [_], _ => rfl
  have Fq17 := fun_mk (st := s_end_of) lq17 cq17 kq17
  have bq17 := Fq17.binds (ps := ["book", "address", "day"]) fun _ _ _ _ _ _ us hl => match us, hl with | [_, _, _], _ => rfl
  have Fq18 := fun_mk (st := s_end) lq18 cq18 kq18
  have bq18 := Fq18.binds (ps := ["book", "address", "day"]) fun _ _ _ _ _ _ us hl => match us, hl with | [_, _, _], _ => rfl
  have Fq19 := fun_mk (st := s_route) lq19 cq19 kq19
  have bq19 := Fq19.binds (ps := ["book", "address", "day", "count"]) fun _ _ _ _ _ _ us hl => match us, hl with | [_, _, _, _], _ => rfl
  have Fq20 := fun_mk (st := s_sent_on) lq20 cq20 kq20
  have bq20 := Fq20.binds (ps := ["book", "address", "day", "today"]) fun _ _ _ _ _ _ us hl => match us, hl with | [_, _, _, _], _ => rfl
  have Fq21 := fun_mk (st := s_LivePostX_initX) lq21 cq21 kq21
  have bq21 := Fq21.binds (ps := ["self", "book"]) fun _ _ _ _ _ _ us hl => match us, hl with | [_, _], _ => rfl
  have Fq22 := fun_mk (st := s_LivePost_today) lq22 cq22 kq22
  have bq22 := Fq22.binds (ps := ["self"]) fun _ _ _ _ _ _ us hl => match us, hl with | [_], _ => rfl
  have Fq23 := fun_mk (st := s_LivePost_present_book) lq23 cq23 kq23
  have bq23 := Fq23.binds (ps := ["self"]) fun _ _ _ _ _ _ us hl => match us, hl with | [_], _ => rfl
  have Fq24 := fun_mk (st := s_LivePost_resting) lq24 cq24 kq24
  have bq24 := Fq24.binds (ps := ["self"]) fun _ _ _ _ _ _ us hl => match us, hl with | [_], _ => rfl
  have Fq25 := fun_mk (st := s_LivePost_under_way) lq25 cq25 kq25
  have bq25 := Fq25.binds (ps := ["self"]) fun _ _ _ _ _ _ us hl => match us, hl with | [_], _ => rfl
  have Fq26 := fun_mk (st := s_LivePost_history) lq26 cq26 kq26
  have bq26 := Fq26.binds (ps := ["self"]) fun _ _ _ _ _ _ us hl => match us, hl with | [_], _ => rfl
  have Fq27 := fun_mk (st := s_LivePostX_lenX) lq27 cq27 kq27
  have bq27 := Fq27.binds (ps := ["self"]) fun _ _ _ _ _ _ us hl => match us, hl with | [_], _ => rfl
  have Fq28 := fun_mk (st := s_LivePostX_callX) lq28 cq28 kq28
  have bq28 := Fq28.binds (ps := ["self", "letter"]) fun _ _ _ _ _ _ us hl => match us, hl with | [_, _], _ => rfl
  have Fq29 := fun_mk (st := s_LivePost_enter) lq29 cq29 kq29
  have bq29 := Fq29.binds (ps := ["self", "operation", "after"]) fun _ _ _ _ _ _ us hl => match us, hl with | [_, _, _], _ => rfl
  have Fq30 := fun_mk (st := s_LivePost_post) lq30 cq30 kq30
  have bq30 := Fq30.binds (ps := ["self", "address"]) fun _ _ _ _ _ _ us hl => match us, hl with | [_, _], _ => rfl
  have Fq31 := fun_mk (st := s_LivePost_pass_days) lq31 cq31 kq31
  have bq31 := Fq31.binds (ps := ["self", "count"]) fun _ _ _ _ _ _ us hl => match us, hl with | [_, _], _ => rfl
  have Fq32 := fun_mk (st := s_LivePost_give) lq32 cq32 kq32
  have bq32 := Fq32.binds (ps := ["self", "order"]) fun _ _ _ _ _ _ us hl => match us, hl with | [_, _], _ => rfl
  have Fq33 := fun_mk (st := s_LivePost_undo) lq33 cq33 kq33
  have bq33 := Fq33.binds (ps := ["self"]) fun _ _ _ _ _ _ us hl => match us, hl with | [_], _ => rfl
  have Fq34 := fun_mk (st := s_LivePost_redo) lq34 cq34 kq34
  have bq34 := Fq34.binds (ps := ["self"]) fun _ _ _ _ _ _ us hl => match us, hl with | [_], _ => rfl
  have Fq35 := fun_mk (st := s__law_taken) lq35 cq35 kq35
  have bq35 := Fq35.binds (ps := ["_law_row", "_law_many"]) fun _ _ _ _ _ _ us hl => match us, hl with | [_, _], _ => rfl
  have Fq36 := fun_mk (st := s__law_orders) lq36 cq36 kq36
  have bq36 := Fq36.binds (ps := ["_law_row", "_law_most", "_law_long"]) fun _ _ _ _ _ _ us hl => match us, hl with | [_, _, _], _ => rfl
  have Fq37 := fun_mk (st := s__law_book) lq37 cq37 kq37
  have bq37 := Fq37.binds (ps := ["_law_orders_here"]) fun _ _ _ _ _ _ us hl => match us, hl with | [_], _ => rfl
  have Fq38 := fun_mk (st := s__law_seen) lq38 cq38 kq38
  have bq38 := Fq38.binds (ps := ["_law_live"]) fun _ _ _ _ _ _ us hl => match us, hl with | [_], _ => rfl
  have Fq39 := fun_mk (st := s__law_are_told) lq39 cq39 kq39
  have bq39 := Fq39.binds (ps := ["_law_live", "_law_posted"]) fun _ _ _ _ _ _ us hl => match us, hl with | [_, _], _ => rfl
  have Fq40 := fun_mk (st := s_law) lq40 cq40 kq40
  have bq40 := Fq40.binds (ps := ["_law_script"]) fun _ _ _ _ _ _ us hl => match us, hl with | [_], _ => rfl
  have T : Top K mg C_Book C_Letter C_LivePost := ⟨⟨_, _, Fq0, PySem.W.mg_of X G aq0, bq0⟩,
    ⟨_, _, Fq1, PySem.W.mg_of X G aq1, bq1⟩,
    ⟨_, _, Fq2, PySem.W.mg_of X G aq2, bq2⟩,
    ⟨_, _, Fq3, PySem.W.mg_of X G aq3, bq3⟩,
    ⟨_, _, Fq4, PySem.W.mg_of X G aq4, bq4⟩,
    ⟨_, _, Fq5, ⟨mk_Book, aq5, iq5, kc_Book⟩, PySem.W.mg_of X G aC_Book, bind_star1 (B := fun xs => bindArgs _ ⟨xs, []⟩) (fun _ => rfl) (fun _ _ _ => rfl)⟩,
    ⟨_, _, _, Fq6, ⟨aq6, pgq6, ptq6, ⟨_, prq6⟩⟩, bq6⟩,
    ⟨_, _, Fq7, ⟨aq7, iq7, kq7⟩, bq7⟩,
    ⟨_, _, Fq8, ⟨aq8, iq8, kq8⟩, bq8⟩,
    ⟨_, _, Fq9, ⟨aq9, iq9, kq9⟩, bq9⟩,
    ⟨_, _, Fq10, ⟨aq10, iq10, kq10⟩, bq10⟩,
    ⟨_, _, Fq11, PySem.W.mg_of X G aq11, bq11⟩,
    ⟨_, _, Fq12, ⟨mk_Letter, aq12, iq12, kc_Letter⟩, PySem.W.mg_of X G aC_Letter, bq12⟩,
    ⟨_, _, Fq13, ⟨aq13, iq13, kq13⟩, bq13⟩,
    ⟨_, _, Fq14, ⟨aq14, iq14, kq14⟩, bq14⟩,
    ⟨_, _, Fq15, ⟨aq15, iq15, kq15⟩, bq15⟩,
    ⟨_, _, Fq16, ⟨aq16, iq16, kq16⟩, bq16⟩,
    ⟨_, _, Fq17, PySem.W.mg_of X G aq17, bq17⟩,
    ⟨_, _, Fq18, PySem.W.mg_of X G aq18, bq18⟩,
    ⟨_, _, Fq19, PySem.W.mg_of X G aq19, bq19⟩,
    ⟨_, _, Fq20, PySem.W.mg_of X G aq20, bq20⟩,
    ⟨_, _, Fq21, ⟨mk_LivePost, aq21, iq21, kc_LivePost⟩, PySem.W.mg_of X G aC_LivePost, bq21⟩,
    ⟨_, _, _, Fq22, ⟨aq22, pgq22, ptq22, ⟨_, prq22⟩⟩, bq22⟩,
    ⟨_, _, _, Fq23, ⟨aq23, pgq23, ptq23, ⟨_, prq23⟩⟩, bq23⟩,
    ⟨_, _, _, Fq24, ⟨aq24, pgq24, ptq24, ⟨_, prq24⟩⟩, bq24⟩,
    ⟨_, _, _, Fq25, ⟨aq25, pgq25, ptq25, ⟨_, prq25⟩⟩, bq25⟩,
    ⟨_, _, _, Fq26, ⟨aq26, pgq26, ptq26, ⟨_, prq26⟩⟩, bq26⟩,
    ⟨_, _, Fq27, ⟨aq27, iq27, kq27⟩, bq27⟩,
    ⟨_, _, Fq28, ⟨aq28, iq28, kq28⟩, bq28⟩,
    ⟨_, _, Fq29, ⟨aq29, iq29, kq29⟩, bq29⟩,
    ⟨_, _, Fq30, ⟨aq30, iq30, kq30⟩, bq30⟩,
    ⟨_, _, Fq31, ⟨aq31, iq31, kq31⟩, bq31⟩,
    ⟨_, _, Fq32, ⟨aq32, iq32, kq32⟩, bq32⟩,
    ⟨_, _, Fq33, ⟨aq33, iq33, kq33⟩, bq33⟩,
    ⟨_, _, Fq34, ⟨aq34, iq34, kq34⟩, bq34⟩,
    ⟨_, _, Fq35, PySem.W.mg_of X G aq35, bq35⟩,
    ⟨_, _, Fq36, PySem.W.mg_of X G aq36, bq36⟩,
    ⟨_, _, Fq37, PySem.W.mg_of X G aq37, bq37⟩,
    ⟨_, _, Fq38, PySem.W.mg_of X G aq38, bq38⟩,
    ⟨_, _, Fq39, PySem.W.mg_of X G aq39, bq39⟩,
    ⟨_, _, Fq40, PySem.W.mg_of X G aq40, bq40⟩,
    ⟨pg_Book, hd_Book, po_Book, sa_Book⟩,
    ⟨pg_Letter, hd_Letter, po_Letter, sa_Letter⟩,
    ⟨pg_LivePost, hd_LivePost, po_LivePost, sa_LivePost⟩,
    fun f z => by rw [aq28] at z; cases z; exact fi_q28,
    n_Book_listed,
    n_Letter_book,
    n_Letter_address,
    n_Letter_day,
    n_Letter_count,
    n_Letter_known,
    n_Letter_is_endless,
    n_Letter_change,
    n_LivePost_scene,
    n_LivePost_done,
    n_LivePost_undone,
    n_LivePost_is_open,
    n_LivePost_kept_scene,
    n_LivePost_kept_done,
    n_LivePost_kept_undone,
    ⟨_, PySem.W.mg_of X G c_LETTERS⟩,
    ⟨_, PySem.W.mg_of X G c_MAX_LETTERS⟩,
    ⟨_, PySem.W.mg_of X G c_MAX_ORDERS_books⟩,
    ⟨_, PySem.W.mg_of X G c_MAX_DAY⟩,
    ⟨_, PySem.W.mg_of X G c_MAX_WAY⟩,
    ⟨_, PySem.W.mg_of X G c_MAX_LISTED⟩,
    ⟨_, PySem.W.mg_of X G c_MAX_PASSED⟩,
    PySem.W.mg_none_of X G b_isinstance,
    PySem.W.mg_none_of X G b_int,
    PySem.W.mg_none_of X G b_bool,
    PySem.W.mg_none_of X G b_str,
    PySem.W.mg_none_of X G b_tuple,
    PySem.W.mg_none_of X G b_list,
    PySem.W.mg_none_of X G b_len,
    PySem.W.mg_none_of X G b_all,
    PySem.W.mg_none_of X G b_enumerate,
    PySem.W.mg_none_of X G b_range,
    PySem.W.mg_none_of X G b_min,
    PySem.W.mg_none_of X G b_max,
    PySem.W.mg_none_of X G b_sorted,
    PySem.W.mg_none_of X G b_set⟩
  exact ⟨PySem.W.fnOf "law" "law" (defArgs s_law) (defBody s_law) (defScope s_law) .none kVq40 dcq40 pmq40 anq40 cdq40 ctq40, fun s v => .of_eq rfl, fun base _ _ => ok_law T sf Fq40⟩
theorem walk {l : PySem.W.OpenLaw} {q : Program} {loose : List Str} {XP : (Str → Option Value) → Heap → Prop} {YP : World → Heap → Prop} {d : DefRec} {K : Params → PySem.W.Frag} (hn : l.most = some 63) (hdf : d.params.defaults = [])
    (hY : ∀ (w : World) (h : Heap), YP w h → (K w.params).In h)
    (F : ∀ (w : World) (mg : Str → Option Value) (fa : Addr) (h : Heap), (K w.params).In h → h.Ns mainGlobals mg → mg d.name = some (.ref fa) →
      ∃ fd : FuncData, (∀ (s : Shared) (u : Value), BindsTo s fd ⟨[u], []⟩ [("_law_script", u)]) ∧ ∀ base : Heap, (K w.params).In base → base.Ns mainGlobals mg → FnOk l.prog w (K w.params) mg base CX0 10 fa fd ["_law_script"] (spLaw (K w.params))) :
    PySem.W.WalkO q loose XP YP l.row.toRowW d [] (fun f vs => PySem.call f vs) :=
  L2.walk_of (n := 63) (k := 10) (x := "_law_script") (CX := fun _ => CX0) (sp := fun w => spLaw (K w.params)) hn (by decide) hdf ⟨rfl, by decide, by decide⟩ hY F (fun _ _ a ns hl _ hS => ⟨a, ns, rfl, hS, hl, fun _ => rfl⟩) fun _ _ _ _ _ z => z
end MF
open PySem PySem.W PyProof.Rows
set_option maxRecDepth 100000 in
set_option maxHeartbeats 0 in
theorem PySem.Challenge.cw_mailforwards_k15_whole_letters_of_a_post_holds : PySem.Challenge.rw_mailforwards_k15_whole_letters_of_a_post.Holds := by
  w_on; o_law; k_head; (case hw => w_witness2)
  k_fill
  refine MF.walk (l := PySem.Challenge.rw_mailforwards_k15_whole_letters_of_a_post) rfl rfl (fun w h Y => PySem.W.kIn_of Y) ?F
  case F =>
    intro w mg fa h KX G hmg
    refine' MF.all_mk KX G hmg ?aC_Book ?aC_Letter ?aC_LivePost ?aq0 ?lq0 ?cq0 ?kq0 ?aq1 ?lq1 ?cq1 ?kq1 ?aq2 ?lq2 ?cq2 ?kq2 ?aq3 ?lq3 ?cq3 ?kq3 ?aq4 ?lq4 ?cq4 ?kq4 ?aq5 ?iq5 ?lq5 ?cq5 ?kq5 ?aq6 ?pgq6 ?ptq6 ?prq6 ?lq6 ?cq6 ?kq6 ?aq7 ?iq7 ?lq7 ?cq7 ?kq7 ?aq8 ?iq8 ?lq8 ?cq8 ?kq8 ?aq9 ?iq9 ?lq9 ?cq9 ?kq9 ?aq10 ?iq10 ?lq10 ?cq10 ?kq10 ?aq11 ?lq11 ?cq11 ?kq11 ?aq12 ?iq12 ?lq12 ?cq12 ?kq12 ?aq13 ?iq13 ?lq13 ?cq13 ?kq13 ?aq14 ?iq14 ?lq14 ?cq14 ?kq14 ?aq15 ?iq15 ?lq15 ?cq15 ?kq15 ?aq16 ?iq16 ?lq16 ?cq16 ?kq16 ?aq17 ?lq17 ?cq17 ?kq17 ?aq18 ?lq18 ?cq18 ?kq18 ?aq19 ?lq19 ?cq19 ?kq19 ?aq20 ?lq20 ?cq20 ?kq20 ?aq21 ?iq21 ?lq21 ?cq21 ?kq21 ?aq22 ?pgq22 ?ptq22 ?prq22 ?lq22 ?cq22 ?kq22 ?aq23 ?pgq23 ?ptq23 ?prq23 ?lq23 ?cq23 ?kq23 ?aq24 ?pgq24 ?ptq24 ?prq24 ?lq24 ?cq24 ?kq24 ?aq25 ?pgq25 ?ptq25 ?prq25 ?lq25 ?cq25 ?kq25 ?aq26 ?pgq26 ?ptq26 ?prq26 ?lq26 ?cq26 ?kq26 ?aq27 ?iq27 ?lq27 ?cq27 ?kq27 ?aq28 ?iq28 ?lq28 ?cq28 ?kq28 ?aq29 ?iq29 ?lq29 ?cq29 ?kq29 ?aq30 ?iq30 ?lq30 ?cq30 ?kq30 ?aq31 ?iq31 ?lq31 ?cq31 ?kq31 ?aq32 ?iq32 ?lq32 ?cq32 ?kq32 ?aq33 ?iq33 ?lq33 ?cq33 ?kq33 ?aq34 ?iq34 ?lq34 ?cq34 ?kq34 ?aq35 ?lq35 ?cq35 ?kq35 ?aq36 ?lq36 ?cq36 ?kq36 ?aq37 ?lq37 ?cq37 ?kq37 ?aq38 ?lq38 ?cq38 ?kq38 ?aq39 ?lq39 ?cq39 ?kq39 ?aq40 ?lq40 ?cq40 ?kq40 ?fi_q28 ?pg_Book ?hd_Book ?po_Book ?sa_Book ?mk_Book ?kc_Book ?pg_Letter ?hd_Letter ?po_Letter ?sa_Letter ?mk_Letter ?kc_Letter ?pg_LivePost ?hd_LivePost ?po_LivePost ?sa_LivePost ?mk_LivePost ?kc_LivePost ?n_Book_listed ?n_Letter_book ?n_Letter_address ?n_Letter_day ?n_Letter_count ?n_Letter_known ?n_Letter_is_endless ?n_Letter_change ?n_LivePost_scene ?n_LivePost_done ?n_LivePost_undone ?n_LivePost_is_open ?n_LivePost_kept_scene ?n_LivePost_kept_done ?n_LivePost_kept_undone ?c_LETTERS ?c_MAX_LETTERS ?c_MAX_ORDERS_books ?c_MAX_DAY ?c_MAX_WAY ?c_MAX_LISTED ?c_MAX_PASSED ?b_isinstance ?b_int ?b_bool ?b_str ?b_tuple ?b_list ?b_len ?b_all ?b_enumerate ?b_range ?b_min ?b_max ?b_sorted ?b_set ?sf
    (case aC_Book => k_is)
    (case aC_Letter => k_is)
    (case aC_LivePost => k_is)
    (case aq0 => k_is)
    (case lq0 => k_is)
    (case cq0 => k_is)
    (case kq0 => k_is)
    (case aq1 => k_is)
    (case lq1 => k_is)
    (case cq1 => k_is)
    (case kq1 => k_is)
    (case aq2 => k_is)
    (case lq2 => k_is)
    (case cq2 => k_is)
    (case kq2 => k_is)
    (case aq3 => k_is)
    (case lq3 => k_is)
    (case cq3 => k_is)
    (case kq3 => k_is)
    (case aq4 => k_is)
    (case lq4 => k_is)
    (case cq4 => k_is)
    (case kq4 => k_is)
    (case aq5 => k_is)
    (case iq5 => k_is)
    (case lq5 => k_is)
    (case cq5 => k_is)
    (case kq5 => k_is)
    (case aq6 => k_is)
    (case pgq6 => k_is)
    (case ptq6 => k_is)
    (case prq6 => k_is)
    (case lq6 => k_is)
    (case cq6 => k_is)
    (case kq6 => k_is)
    (case aq7 => k_is)
    (case iq7 => k_is)
    (case lq7 => k_is)
    (case cq7 => k_is)
    (case kq7 => k_is)
    (case aq8 => k_is)
    (case iq8 => k_is)
    (case lq8 => k_is)
    (case cq8 => k_is)
    (case kq8 => k_is)
    (case aq9 => k_is)
    (case iq9 => k_is)
    (case lq9 => k_is)
    (case cq9 => k_is)
    (case kq9 => k_is)
    (case aq10 => k_is)
    (case iq10 => k_is)
    (case lq10 => k_is)
    (case cq10 => k_is)
    (case kq10 => k_is)
    (case aq11 => k_is)
    (case lq11 => k_is)
    (case cq11 => k_is)
    (case kq11 => k_is)
    (case aq12 => k_is)
    (case iq12 => k_is)
    (case lq12 => k_is)
    (case cq12 => k_is)
    (case kq12 => k_is)
    (case aq13 => k_is)
    (case iq13 => k_is)
    (case lq13 => k_is)
    (case cq13 => k_is)
    (case kq13 => k_is)
    (case aq14 => k_is)
    (case iq14 => k_is)
    (case lq14 => k_is)
    (case cq14 => k_is)
    (case kq14 => k_is)
    (case aq15 => k_is)
    (case iq15 => k_is)
    (case lq15 => k_is)
    (case cq15 => k_is)
    (case kq15 => k_is)
    (case aq16 => k_is)
    (case iq16 => k_is)
    (case lq16 => k_is)
    (case cq16 => k_is)
    (case kq16 => k_is)
    (case aq17 => k_is)
    (case lq17 => k_is)
    (case cq17 => k_is)
    (case kq17 => k_is)
    (case aq18 => k_is)
    (case lq18 => k_is)
    (case cq18 => k_is)
    (case kq18 => k_is)
    (case aq19 => k_is)
    (case lq19 => k_is)
    (case cq19 => k_is)
    (case kq19 => k_is)
    (case aq20 => k_is)
    (case lq20 => k_is)
    (case cq20 => k_is)
    (case kq20 => k_is)
    (case aq21 => k_is)
    (case iq21 => k_is)
    (case lq21 => k_is)
    (case cq21 => k_is)
    (case kq21 => k_is)
    (case aq22 => k_is)
    (case pgq22 => k_is)
    (case ptq22 => k_is)
    (case prq22 => k_is)
    (case lq22 => k_is)
    (case cq22 => k_is)
    (case kq22 => k_is)
    (case aq23 => k_is)
    (case pgq23 => k_is)
    (case ptq23 => k_is)
    (case prq23 => k_is)
    (case lq23 => k_is)
    (case cq23 => k_is)
    (case kq23 => k_is)
    (case aq24 => k_is)
    (case pgq24 => k_is)
    (case ptq24 => k_is)
    (case prq24 => k_is)
    (case lq24 => k_is)
    (case cq24 => k_is)
    (case kq24 => k_is)
    (case aq25 => k_is)
    (case pgq25 => k_is)
    (case ptq25 => k_is)
    (case prq25 => k_is)
    (case lq25 => k_is)
    (case cq25 => k_is)
    (case kq25 => k_is)
    (case aq26 => k_is)
    (case pgq26 => k_is)
    (case ptq26 => k_is)
    (case prq26 => k_is)
    (case lq26 => k_is)
    (case cq26 => k_is)
    (case kq26 => k_is)
    (case aq27 => k_is)
    (case iq27 => k_is)
    (case lq27 => k_is)
    (case cq27 => k_is)
    (case kq27 => k_is)
    (case aq28 => k_is)
    (case iq28 => k_is)
    (case lq28 => k_is)
    (case cq28 => k_is)
    (case kq28 => k_is)
    (case aq29 => k_is)
    (case iq29 => k_is)
    (case lq29 => k_is)
    (case cq29 => k_is)
    (case kq29 => k_is)
    (case aq30 => k_is)
    (case iq30 => k_is)
    (case lq30 => k_is)
    (case cq30 => k_is)
    (case kq30 => k_is)
    (case aq31 => k_is)
    (case iq31 => k_is)
    (case lq31 => k_is)
    (case cq31 => k_is)
    (case kq31 => k_is)
    (case aq32 => k_is)
    (case iq32 => k_is)
    (case lq32 => k_is)
    (case cq32 => k_is)
    (case kq32 => k_is)
    (case aq33 => k_is)
    (case iq33 => k_is)
    (case lq33 => k_is)
    (case cq33 => k_is)
    (case kq33 => k_is)
    (case aq34 => k_is)
    (case iq34 => k_is)
    (case lq34 => k_is)
    (case cq34 => k_is)
    (case kq34 => k_is)
    (case aq35 => k_is)
    (case lq35 => k_is)
    (case cq35 => k_is)
    (case kq35 => k_is)
    (case aq36 => k_is)
    (case lq36 => k_is)
    (case cq36 => k_is)
    (case kq36 => k_is)
    (case aq37 => k_is)
    (case lq37 => k_is)
    (case cq37 => k_is)
    (case kq37 => k_is)
    (case aq38 => k_is)
    (case lq38 => k_is)
    (case cq38 => k_is)
    (case kq38 => k_is)
    (case aq39 => k_is)
    (case lq39 => k_is)
    (case cq39 => k_is)
    (case kq39 => k_is)
    (case aq40 => k_is)
    (case lq40 => k_is)
    (case cq40 => k_is)
    (case kq40 => k_is)
    (case fi_q28 => k_is)
    (case pg_Book => k_is)
    (case hd_Book => k_is)
    (case po_Book => k_is)
    (case sa_Book => k_is)
    (case mk_Book => k_is)
    (case kc_Book => k_is)
    (case pg_Letter => k_is)
    (case hd_Letter => k_is)
    (case po_Letter => k_is)
    (case sa_Letter => k_is)
    (case mk_Letter => k_is)
    (case kc_Letter => k_is)
    (case pg_LivePost => k_is)
    (case hd_LivePost => k_is)
    (case po_LivePost => k_is)
    (case sa_LivePost => k_is)
    (case mk_LivePost => k_is)
    (case kc_LivePost => k_is)
    (case n_Book_listed => k_is)
    (case n_Letter_book => k_is)
    (case n_Letter_address => k_is)
    (case n_Letter_day => k_is)
    (case n_Letter_count => k_is)
    (case n_Letter_known => k_is)
    (case n_Letter_is_endless => k_is)
    (case n_Letter_change => k_is)
    (case n_LivePost_scene => k_is)
    (case n_LivePost_done => k_is)
    (case n_LivePost_undone => k_is)
    (case n_LivePost_is_open => k_is)
    (case n_LivePost_kept_scene => k_is)
    (case n_LivePost_kept_done => k_is)
    (case n_LivePost_kept_undone => k_is)
    (case c_LETTERS => k_is)
    (case c_MAX_LETTERS => k_is)
    (case c_MAX_ORDERS_books => k_is)
    (case c_MAX_DAY => k_is)
    (case c_MAX_WAY => k_is)
    (case c_MAX_LISTED => k_is)
    (case c_MAX_PASSED => k_is)
    (case b_isinstance => k_is)
    (case b_int => k_is)
    (case b_bool => k_is)
    (case b_str => k_is)
    (case b_tuple => k_is)
    (case b_list => k_is)
    (case b_len => k_is)
    (case b_all => k_is)
    (case b_enumerate => k_is)
    (case b_range => k_is)
    (case b_min => k_is)
    (case b_max => k_is)
    (case b_sorted => k_is)
    (case b_set => k_is)
    (case sf => k_is)
