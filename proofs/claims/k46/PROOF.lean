import PyProof.Rows.All
import Wide.All
import OpenK.AllK
import Wide.FinOn
import HandS.ForMost
import HandS.Star
import HandS.Walk
import KE.GoesMore
import KE.KUnpack
import HandS.More
import HandS.Property
import HandS.ClsMeth
import HandS.IsInst
import HandS.Wide
import HandS.TupAny
import HandS.Codes
import PyProof.FString2
import HandS.FStr
import HandS.Exc
import HandS.ExcOwn
import HandS.ExcInit
import HandS.ExcIs
import HandS.ExcField
import HandS.Small
import HandS.Lambda
import HandS.EndTab
import KE.KDflt
import HandS.SetFor
import PyProof.SeqRoads2
import PyProof.Rows.CountFlat
import HandS.Deep
import KE.KExcInit
import KE.GoesComp
import PySem.Challenge.RW_mailforwards_k46_notation
import HandS.RaiseMore
import HandS.Text
import PyProof.StrOps2
import KE.KEqSeq
import HandS.Style
import HandS.TryOnly
import KE.KNestM
import KE.KLam
set_option Elab.async false
set_option linter.all false
set_option maxRecDepth 100000
set_option maxHeartbeats 1000000
namespace MF
open PySem PySem.Spec PyProof.Rows L2

def gFld (K : PySem.W.Frag) (to : TE) (f : Str) : TG := fun v σ H Q => to σ H fun x H1 => ∃ a C dx fs, x = .ref a ∧ H1 a = some (.ins C dx fs) ∧ Cls K C ∧ NoAttr K C f ∧ fs.length < 1000 ∧ Q σ (upd H1 a (.ins C dx (putF f v fs)))
theorem pg_fld {X : Cx} {o : Expr} {f : Str} {pos : Pos} {to : TE} (ho : PE X o to) : PG X (.Attribute o f pos) (gFld X.K to f) := by
  refine ⟨fun pins s σ H v u Q I r h => ?_⟩
  show wpAny _ _ (do
    let ov ← holding [u] (eval o X.env)
    standAt pos.atName
    holding [u, ov] (setAttr ov f u)
    release [u, ov] []) _ _ _
  refine wpAny_bind (wpAny_holding (thn (ho.run pins s σ H _ I h) fun ov s1 ⟨x, H1, I1, r1, a, C, dx, fs, ex, ea, c, n, l, q⟩ => ?_))
  subst ex
  obtain rfl : ov = Value.ref a := r1
  refine wpAny_bind (wpAny_standAt (wpAny_bind (wpAny_holding (setattr_ok I1 ea c n l r fun s2 I2 => ?_))))
  exact wpAny_release ⟨σ, _, I2, q⟩

theorem notNI {Q : Value → Shared → Prop} {v : V} {u : Value} {s' : Shared} (r : RelV v u) (h : Q u s') : PySem.W.CmpBack Q u s' := by
  cases v with
  | non => cases (show u = Value.none from r); exact h
  | bl b => cases (show u = Value.bool b from r); exact h
  | int i => obtain ⟨t, rfl⟩ := (show ∃ t, u = Value.int i t from r); exact h
  | str x => obtain ⟨t, rfl⟩ := (show ∃ t, u = Value.str x t from r); exact h
  | byt b => obtain ⟨t, rfl⟩ := (show ∃ t, u = Value.bytes b t from r); exact h
  | flt b => obtain ⟨t, rfl⟩ := (show ∃ t, u = Value.float b t from r); exact h
  | ref a => cases (show u = Value.ref a from r); exact h
  | ty n => cases (show u = Value.type n from r); exact h
theorem op_own {X : Cx} {op : Operator} {C f : Addr} {fd : FuncData} {ps : List Str} {CX : CXT} {k : Nat} {sp : Sp} {E : XK} (hc : PySem.W.selfFirst X.K C = true) (hs : PySem.W.findIn X.K (.ref C) (PySem.dunder op.info.2) = some (some (.ref f))) (hf : PySem.W.isFn X.K (.ref f) = true)
    (F : FnOk X.prog X.w X.K X.mg X.base CX k f fd ps sp) (hr : Room k X.A) (hb : Binds X.K fd ps []) (hx : Passes CX X E) :
    OpR X (binaryOp op) (fun x y H Q => ∃ a b dx dy fs gs, x = .ref a ∧ y = .ref b ∧ H a = some (.ins C dx fs) ∧ H b = some (.ins C dy gs) ∧ sp [.ref a, .ref b] H Q E) := by
  rintro pins s σ H x y u v Q I rx ry ⟨a, b, dx, dy, fs, gs, rfl, rfl, ea, eb, h⟩
  obtain rfl : u = Value.ref a := rx
  obtain rfl : v = Value.ref b := ry
  obtain ⟨mA, O, _⟩ := ins_get I.hok ea
  obtain ⟨mB, O', _⟩ := ins_get I.hok eb
  obtain ⟨od, ia, _⟩ := O.look
  obtain ⟨od', ib, _⟩ := O'.look
  obtain ⟨m, fr⟩ := I.fr
  refine PySem.W.binop_K fr I.mod.kin ia ib.type hc hs hf ?_
  refine thn (run_fn (us := [.ref a, .ref b]) (vs := [.ref a, .ref b]) F hr hb (dvs := []) .nil hx I (.cons rfl (.cons rfl .nil)) (by simpa using h)) fun r s' hq => ?_
  obtain ⟨z, H', I', rz, q⟩ := hq
  exact notNI rz ⟨z, H', I', rz, q⟩

theorem meets_enum_newT (t : Addr) (items : Array Value) :
    Meets (Builtin.«enumerate.__new__» ⟨[.type "enumerate", .ref t], []⟩) (fun _ R s => s.heap.IsTuple t items ∧
      R (.ok (.ret (.ref (s.heap.push { cls := .type "tuple_iterator", data := .fields #[.ref t, .int 0 0] }).objs.size))) { s with heap := (s.heap.push { cls := .type "tuple_iterator", data := .fields #[.ref t, .int 0 0] }).push { cls := .type "enumerate", data := .fields #[.none, .bool false, .ref s.heap.objs.size, rawInt 0, .none, .none] } }) :=
  .of_wp fun prog w A R s h => by
    obtain ⟨hp, g, d, tk, os⟩ := s; obtain ⟨h1, h⟩ := h
    have hsub := sub_enumerate
    have q1 : ∀ {A' : Around} {E : Value → Shared → Prop} {Q : Value → Shared → Prop}, Q (.ref hp.objs.size) ⟨hp.push { cls := .type "tuple_iterator", data := .fields #[.ref t, .int 0 0] }, g, d, tk, os⟩ → wpAny (model prog w) A' (pyIter (.ref t)) Q E ⟨hp, g, d, tk, os⟩ :=
      fun q => (begins_tuple t items).iter prog w _ _ ⟨hp, g, d, tk, os⟩ _ h1 q
    wp_walk using q1
    refine wpAny_stack_any fun st => wpAny_pure ?_
    split
    · rename_i c _ _ _ _ _
      cases (c == Value.type "enumerate")
      · wp_walk using q1
        exact ⟨_, rfl, h⟩
      · wp_walk using q1
        exact ⟨_, rfl, h⟩
    · wp_walk using q1
      exact ⟨_, rfl, h⟩
theorem call_enum_tuple {prog : Program} {w : World} {A : Around} {E : Value → Shared → Prop} {s : Shared} {t : Addr} {items : Array Value} {Q : Value → Shared → Prop} (ht : s.heap.IsTuple t items)
    (h : ∀ h', IsEnum h' (s.heap.objs.size + 1) s.heap.objs.size 0 .none → h'.IsTupleIter s.heap.objs.size t 0 → h'.objs.size = s.heap.objs.size + 2 →
      (∀ b o, s.heap.get? b = some o → h'.get? b = some o) → Q (.ref (s.heap.objs.size + 1)) { s with heap := h' }) :
    wpAny (model prog w) A (call (.type "enumerate") [.ref t]) Q E s := by
  refine callType_new F.called_enumerate (by decide) (F.typeCall_enumerate_1 _) (F.newCall_enumerate_1 _) (fun obj => F.args_object_init_2 obj _) F.entry_enumerate_new
    (meets_enum_newT t items) ⟨ht, ?_⟩
  have hz : (s.heap.push { cls := .type "tuple_iterator", data := .fields #[.ref t, .int 0 0] }).objs.size = s.heap.objs.size + 1 := Heap.size_push ..
  show _ ∧ _
  rw [hz]
  have he : IsEnum ((s.heap.push { cls := .type "tuple_iterator", data := .fields #[.ref t, .int 0 0] }).push
      { cls := .type "enumerate", data := .fields #[.none, .bool false, .ref s.heap.objs.size, rawInt 0, .none, .none] }) (s.heap.objs.size + 1) s.heap.objs.size 0 .none := by
    have := Heap.get?_push_size (s.heap.push { cls := .type "tuple_iterator", data := .fields #[.ref t, .int 0 0] })
      (o := { cls := .type "enumerate", data := .fields #[.none, .bool false, .ref s.heap.objs.size, rawInt 0, .none, .none] }) rfl
    rw [hz] at this; exact this
  exact ⟨⟨_, he, rfl⟩, h _ he ⟨_, Heap.get?_push_of_some _ (Heap.get?_push_size _ rfl), rfl, rfl⟩ (by rw [Heap.size_push, hz]) fun b o x => Heap.get?_push_of_some _ (Heap.get?_push_of_some _ x)⟩

def ItE (K : PySem.W.Frag) (a : Addr) : It :=
  ⟨fun i H => ∃ (xs : List V) (x : V), SqT K H a xs ∧ xs[i]? = some x, fun i H v H' => ∃ T x, v = .ref T ∧ H T = none ∧ H' = upd H T (.tup [.int (i : Nat), x]) ∧ ∀ xs, SqT K H a xs → xs[i]? = some x, fun i H => ∃ xs : List V, SqT K H a xs ∧ xs.length = i⟩
theorem turn_enumT {P : Program} {w : World} {K : PySem.W.Frag} {elts : List Expr} {kk : Nat} {tpos : Pos} (a e it : Addr) :
    Turn P w K (.Tuple elts kk tpos) (ItE K a) [e, it] e (fun i h => (∃ old, IsEnum h e it ((i : Nat) : Int) old) ∧ h.IsTupleIter it a i ∧ e ≠ it) where
  mem := by simp
  obj := fun i h st b hb => by
    obtain ⟨⟨old, he⟩, ⟨o, ho, hc, hd⟩, _⟩ := st
    have e' : b = e ∨ b = it := by simpa using hb
    rcases e' with z | z
    · rw [z]; exact ⟨_, he, fun v q => nomatch q⟩
    · rw [z]; exact ⟨o, ho, fun v q => by rw [hd] at q; cases q⟩
  keep := fun i h h' st k => let ⟨⟨old, he⟩, hi, hne⟩ := st; ⟨⟨old, k e (by simp) _ he⟩, hi.at fun o q => k it (by simp) o q, hne⟩
  item := by
    intro X hP hw hK hc i pins s σ H E I hf st hg
    subst hP hw hK
    obtain ⟨⟨old, he⟩, hit, hne⟩ := st
    obtain ⟨xs, x, hq, hx⟩ := hg
    obtain ⟨its, rv, p, hz⟩ := I.tuple hq
    obtain ⟨u, hu, ru⟩ := rv.get hx
    have hel : e < s.heap.objs.size := Heap.lt_size he
    have hil : it < s.heap.objs.size := by obtain ⟨_, q, _⟩ := hit; exact Heap.lt_size q
    have pt : s.heap.IsTuple a its.toArray := p
    have hai : a ≠ it := fun z => by
      subst z
      obtain ⟨o1, e1, c1, _⟩ := pt
      obtain ⟨o2, e2, c2, _⟩ := hit
      rw [e1] at e2; cases e2
      rw [c1] at c2
      exact absurd (Value.type.inj c2) (by decide)
    have hae : a ≠ e := fun z => by
      subst z
      obtain ⟨o1, e1, c1, _⟩ := pt
      rw [he] at e1; cases e1
      exact absurd (Value.type.inj c1) (by decide)
    have hlt : i < its.toArray.size := by
      have := (List.getElem?_eq_some_iff.mp hu).1
      simpa using this
    refine wpAny_pyNext_enum_itemD (Draws.tuple (A := X.A.in1) (by simpa using I.ok.hd hc) it a hai its.toArray) he ⟨hit, pt⟩ hlt hne (by simp [hne, Ne.symm hae]) fun x' h' tk hx' ho st' hT hsz hk => ?_
    have eu : x' = u := by
      have q : its.toArray[i]? = some u := by simpa using hu
      rw [q] at hx'; cases hx'; rfl
    subst eu
    refine ⟨_, rfl, wpAny_letOwnedTupleGo_enum (s := { s with heap := h', toks := tk + 1 }) ho fun h'' he' sb => ?_⟩
    have hT2 : h''.get? s.heap.objs.size = some { cls := .type "tuple", data := .seq #[.int i tk, x'] } := (sb.2 _ (Nat.ne_of_gt hel)).trans hT
    have new : ObjOk X.prog X.w (upd H s.heap.objs.size (.tup [.int (i : Nat), x])) h'' s.heap.objs.size (.tup [.int (i : Nat), x]) :=
      ⟨by show 2 ≤ sizeLine; decide, [.int i tk, x'], .cons ⟨_, rfl⟩ (.cons ru .nil), ⟨_, hT2, rfl, _, rfl⟩⟩
    have I1 : Inv X pins σ (upd H s.heap.objs.size (.tup [.int (i : Nat), x])) { s with heap := h'', toks := tk + 1 } :=
      I.turnedNew (ch := [e, it]) (fun b ob hb q => (sb.2 b (fun z => hb (by simp [z]))).trans (hk b ob (fun z => hb (by simp [z])) (fun z => hb (by simp [z])) q)) hf (Nat.le_refl _) new
    refine ⟨.ref s.heap.objs.size, _, I1, rfl, ⟨_, x, rfl, I.hok.fresh (Nat.le_refl _), rfl, fun ys hy => by rw [I.tuple_inj hy hq]; exact hx⟩, ⟨⟨x', ?_⟩, st'.1.at fun o q => (sb.2 it (Ne.symm hne)).trans q, hne⟩, fun b hb => ?_⟩
    · have e1 : ((i + 1 : Nat) : Int) = (i : Int) + 1 := by omega
      rw [e1]; exact he'
    · have hb' : b < s.heap.objs.size := by
        have e' : b = e ∨ b = it := by simpa using hb
        rcases e' with z | z
        · rw [z]; exact hel
        · rw [z]; exact hil
      rw [upd_ne (Nat.ne_of_lt hb')]
      exact (hf b hb).1
  done := by
    intro X hP hw hK hc i pins s σ H E I hf st hg
    subst hP hw hK
    obtain ⟨⟨old, he⟩, hit, hne⟩ := st
    obtain ⟨xs, hq, hx⟩ := hg
    obtain ⟨its, rv, p, hz⟩ := I.tuple hq
    obtain ⟨f0, f1, f2, f3, f4, f5⟩ := hf it (by simp)
    have pt : s.heap.IsTuple a its.toArray := p
    have hai : a ≠ it := fun z => by
      subst z
      obtain ⟨o1, e1, c1, _⟩ := pt
      obtain ⟨o2, e2, c2, _⟩ := hit
      rw [e1] at e2; cases e2
      rw [c1] at c2
      exact absurd (Value.type.inj c2) (by decide)
    have hl := rv.length
    have en : its.toArray.size = i := by simp; omega
    exact wpAny_pyNext_enum_endD (Draws.tuple (A := X.A.in1) (by simpa using I.ok.hd hc) it a hai its.toArray) he (by rw [en]; exact ⟨hit, pt⟩) fun h' eb => ⟨rfl, I.turned (t' := s.toks) (fun b o hb q => eb b o hb q) f0 f1 f3 f4 f5⟩
  self := fun A i s Q E st h => let ⟨⟨_, he⟩, _⟩ := st; wpAny_pyIter_enum he h
def iEnumT (K : PySem.W.Frag) (ta : TA) : TI := fun σ H R => ta σ H fun vs H1 => ∃ a xs, vs = [.ref a] ∧ SqT K H1 a xs ∧ R (ItE K a) H1
theorem pi_enumT {X : Cx} {e : Expr} {ta : TA} {p pos tpos : Pos} {elts : List Expr} {kk : Nat} (hg : Gl X "enumerate") (hm : X.mg "enumerate" = none) (ha : PA X [e] ta) (hs : starEach [e] X.env = [(false, eval e X.env)] := by rfl) :
    PI X (.Tuple elts kk tpos) (.Call (.Name "enumerate" p) [e] [] pos) (iEnumT X.K ta) := by
  refine ⟨fun pins s σ H R I h => ?_⟩
  refine Call_ (ld_blt I hg hm boot_enumerate (PyProof.Rows.callWith_type1 (thn (ha.run pos pins s σ H _ I h) fun us s1 ⟨vs, H1, I1, r1, q1⟩ => ?_) hs rfl))
  obtain ⟨a, xs, ex, hq, q⟩ := q1
  subst ex
  cases r1 with
  | cons r rr =>
    cases rr
    cases r
    obtain ⟨its, rv, p', hz⟩ := I1.tuple hq
    refine call_enum_tuple (show s1.heap.IsTuple a its.toArray from p') fun h' he hit hsz hk => wpAny_pyIter_enum he ?_
    have I2 : Inv X pins σ H1 { s1 with heap := h' } := I1.kept (t' := s1.toks) hk
    refine ⟨s1.heap.objs.size + 1, [s1.heap.objs.size + 1, s1.heap.objs.size], _, _, H1, rfl, I2, turn_enumT a (s1.heap.objs.size + 1) s1.heap.objs.size, ⟨⟨.none, he⟩, hit, Nat.succ_ne_self _⟩, fun b hb => ?_, q⟩
    have e' : b = s1.heap.objs.size + 1 ∨ b = s1.heap.objs.size := by simpa using hb
    have hle : s1.heap.objs.size ≤ b := by
      rcases e' with z | z
      · rw [z]; exact Nat.le_add_right _ _
      · rw [z]; exact Nat.le_refl _
    exact I1.fpOk hle (I1.hok.fresh hle)
theorem walk_enumT {K : PySem.W.Frag} {a : Addr} {xs : List V} : Walk (ItE K a) xs.length (fun H => SqT K H a xs) (YPair (fun i => some (.int (i : Nat))) (fun i => xs[i]?)) :=
  ⟨fun i H hi hg => ⟨xs, xs[i], hg, by simp [hi]⟩, fun H hg => ⟨xs, hg, rfl⟩, fun i H v H' hi hg ⟨T, x, e1, e2, e3, e4⟩ => ⟨T, _, x, e1, e2, e3, rfl, e4 xs hg⟩⟩


def setAll : List Nat → List V → L2.St → L2.St
  | i :: is, v :: vs, σ => setAll is vs (σ.set i (some v))
  | _, _, σ => σ
inductive Caps (X : Cx) : List Pattern → List Nat → Prop
  | nil : Caps X [] []
  | cons {x : Str} {p : Pos} {ps : List Pattern} {i : Nat} {is : List Nat} (hi : X.N[i]? = some x) (hx : Loc X.env.scope x) (hf : X.fn x = true ∨ X.env.scope.names.lookup x = some .local) (r : Caps X ps is) : Caps X (.MatchAs none (some x) p :: ps) (i :: is)
def capNames : List Pattern → List Str
  | .MatchAs none (some x) _ :: ps => x :: capNames ps
  | _ => []
theorem Caps.len {X : Cx} : ∀ {ps : List Pattern} {is : List Nat}, Caps X ps is → ps.length = is.length
  | _, _, .nil => rfl
  | _, _, .cons _ _ _ r => by simp [r.len]
theorem Caps.each {X : Cx} {A : Around} {E : Value → Shared → Prop} {s : Shared} : ∀ {ps : List Pattern} {is : List Nat} {us : List Value} {Q : Option (List (Str × Value)) → Shared → Prop}, Caps X ps is → us.length = ps.length →
    Q (some ((capNames ps).zip us)) s → wpAny (model X.prog X.w) A (matchEach ps X.env us) Q E s
  | _, _, [], Q, .nil, _, h => wpAny_matchEach_nil h
  | _, _, u :: us, Q, .cons hi hx hf r, hl, h => by
    refine wpAny_matchEach_cons (wpAny_matchPattern_Capture ?_)
    show wpAny _ _ (matchEach _ X.env us) _ _ _
    exact Caps.each r (by simpa using hl) h
theorem Caps.store {X : Cx} {pins : List (Addr × Obj)} {H : Hp} (hN : X.N.Nodup) : ∀ {ps : List Pattern} {is : List Nat} {us : List Value} {vs : List V} {σ : L2.St} {s : Shared} {Q : Unit → Shared → Prop}, Caps X ps is → Vals vs us → us.length = ps.length → Inv X pins σ H s →
    (∀ s', Inv X pins (setAll is vs σ) H s' → Q () s') → wpAny (model X.prog X.w) X.A (assignInOrder (((capNames ps).zip us).map fun (n, _) => bindName X.env n) (((capNames ps).zip us).map (·.2))) Q X.xe s
  | _, _, _, _, σ, s, Q, .nil, .nil, _, I, h => assignInOrder_nil (h s I)
  | _, _, _, _, σ, s, Q, .cons hi hx hf r, .cons rv rr, hl, I, h => by
    refine assignInOrder_cons (wpAny_bindName (store_ok I hN hi hx rv (fun s' I' => ?_) hf))
    exact Caps.store hN r rr (by simpa using hl) I' h
theorem fitL {n : Nat} (h : n ≤ sizeLine) : (n : Int) < 2 ^ 63 := by
  have h2 : n < 2 ^ 63 := Nat.lt_of_le_of_lt h line63
  exact Int.ofNat_lt.mpr h2
def notSeq : V → Bool
  | .non => true
  | .bl _ => true
  | .int _ => true
  | .str _ => true
  | _ => false
def tMatch (K : PySem.W.Frag) (is : List Nat) (te : TE) (tg : TT) (tb tc : TS) : TS := fun D σ H => te σ H fun x H1 =>
  (∃ a vs, x = .ref a ∧ (SqT K H1 a vs ∨ SqL K H1 a vs) ∧ ((vs.length = is.length ∧ tg (setAll is vs σ) H1 fun b H2 => if b = true then tb D (setAll is vs σ) H2 else tc D (setAll is vs σ) H2) ∨ (vs.length ≠ is.length ∧ tc D σ H1))) ∨
  (notSeq x = true ∧ tc D σ H1)
theorem ps_match {X : Cx} {subject g : Expr} {ps : List Pattern} {is : List Nat} {body other : List Stmt} {p1 p2 pos : Pos} {te : TE} {tg : TT} {tb tc : TS} (hc : X.calm = true) (hN : X.N.Nodup) (he : PE X subject te) (hp : Caps X ps is) (hg : PT X g tg) (hb : PSs X body tb) (ho : PSs X other tc)
    (hstar : ps.findIdx? (·.isStar) = none := by rfl) (hwild : (ps.all fun p => p.isWildcard || (p.isStar && p.names.isEmpty)) = false := by rfl) :
    PS X (.Match subject [⟨.MatchSequence ps p1, some g, body⟩, ⟨.MatchAs none none p2, none, other⟩] pos) (tMatch X.K is te tg tb tc) := by
  refine ⟨fun pins s σ H D I h => ?_⟩
  refine wpAny_Match (thn (he.run pins s σ H _ I h) fun u s1 ⟨x, H1, I1, r1, q1⟩ => ?_)
  have last : ∀ {s2 : Shared} {σ2 : L2.St} {H2 : Hp}, Inv X pins σ2 H2 s2 → tc D σ2 H2 → wpAny (model X.prog X.w) X.A (matchCases [⟨.MatchAs none none p2, none, other⟩] X.env u false) (SP X pins D) X.xe s2 := fun {s2 σ2 H2} I2 q2 => by
    refine wpAny_matchCases_cons (wpAny_matchPattern_Capture ?_)
    show wpAny _ _ (assignInOrder [] []) _ _ _
    exact assignInOrder_nil (ho.run pins s2 σ2 H2 D I2 q2)
  refine wpAny_matchCases_cons ?_
  rcases q1 with ⟨a, vs, rfl, hq, q⟩ | ⟨hn, q⟩
  · obtain rfl : u = Value.ref a := r1
    rcases hq with hq | hq
    · obtain ⟨its, rv, p, hz⟩ := I1.tuple hq
      have hl := rv.length
      have fit : (its.toArray.size : Int) < 2 ^ 63 := fitL (by rw [List.size_toArray, ← hl]; exact hz)
      have en : its.toArray.size = vs.length := by rw [List.size_toArray, hl]
      rcases q with ⟨el, q⟩ | ⟨el, q⟩
      · have e0 : ps.length = its.toArray.size := by rw [en, el, hp.len]
        refine matchSeq_tuple_hit p fit e0.symm ?_ hstar hwild
        rw [e0]
        refine unpackItems_tuple (s := { s1 with toks := s1.toks + 1 + 1 }) (I.ok.hd hc) p fun h' hx' => ?_
        have I2 := (I1.tok (s1.toks + 1 + 1)).kept (h' := h') (t' := s1.toks + 1 + 1) fun b o e => hx' b o (Nat.ne_of_lt (Heap.lt_size e)) e
        refine Caps.each hp (by rw [Array.length_toList, e0]) ?_
        refine Caps.store (us := its.toArray.toList) (vs := vs) hN hp (by simpa using rv) (by rw [Array.length_toList, e0]) I2 fun s3 I3 => ?_
        refine thn (hg.run pins s3 _ H1 _ I3 q) fun b s4 ⟨H2, I4, q4⟩ => ?_
        cases b with
        | true => exact hb.run pins s4 _ H2 D I4 (by simpa using q4)
        | false => exact last I4 (by simpa using q4)
      · refine matchSeq_tuple_miss p fit (by rw [en, hp.len]; exact el) ?_ hstar hwild
        exact last (I1.tok _) q
    · obtain ⟨its, rv, p, hz⟩ := I1.list hq
      have hl := rv.length
      have fit : (its.toArray.size : Int) < 2 ^ 63 := fitL (by rw [List.size_toArray, ← hl]; exact hz)
      have en : its.toArray.size = vs.length := by rw [List.size_toArray, hl]
      rcases q with ⟨el, q⟩ | ⟨el, q⟩
      · have e0 : ps.length = its.toArray.size := by rw [en, el, hp.len]
        refine matchSeq_list_hit p.isList fit e0.symm ?_ hstar hwild
        rw [e0]
        refine PySem.W.kun_itemsOf (s := { s1 with toks := s1.toks + 1 + 1 }) (I.ok.hd hc) p.isList fun h' hx' => ?_
        have I2 := (I1.tok (s1.toks + 1 + 1)).kept (h' := h') (t' := s1.toks + 1 + 1) fun b o e => hx' b o (Nat.ne_of_lt (Heap.lt_size e)) e
        refine Caps.each hp (by rw [Array.length_toList, e0]) ?_
        refine Caps.store (us := its.toArray.toList) (vs := vs) hN hp (by simpa using rv) (by rw [Array.length_toList, e0]) I2 fun s3 I3 => ?_
        refine thn (hg.run pins s3 _ H1 _ I3 q) fun b s4 ⟨H2, I4, q4⟩ => ?_
        cases b with
        | true => exact hb.run pins s4 _ H2 D I4 (by simpa using q4)
        | false => exact last I4 (by simpa using q4)
      · refine matchSeq_list_miss p.isList fit (by rw [en, hp.len]; exact el) ?_ hstar hwild
        exact last (I1.tok _) q
  · have miss : ∀ {T : String}, s1.TypeIs u T → flagOfType true (.type T) = pure false → wpAny (model X.prog X.w) X.A (matchPattern (.MatchSequence ps p1) X.env u) (fun r s₁ => match r with
          | none => wpAny (model X.prog X.w) X.A (matchCases [⟨.MatchAs none none p2, none, other⟩] X.env u false) (SP X pins D) X.xe s₁
          | some bs => wpAny (model X.prog X.w) X.A (assignInOrder (bs.map fun (n, _) => bindName X.env n) (bs.map (·.2))) (fun _ s₂ => wpAny (model X.prog X.w) X.A (isTrue g X.env (eval g X.env))
                  (fun ok s₃ => if ok then wpAny (model X.prog X.w) X.A (execs body X.env) (SP X pins D) X.xe s₃ else wpAny (model X.prog X.w) X.A (matchCases [⟨.MatchAs none none p2, none, other⟩] X.env u false) (SP X pins D) X.xe s₃) X.xe s₂) X.xe s₁) X.xe s1 := fun {T} hT hfl => by
      refine wpAny_matchPattern_Sequence (wpAny_collectionFlag hT hfl ?_) hstar hwild
      rw [if_neg (by decide)]
      exact last I1 q
    cases x with
    | non => cases (show u = Value.none from r1); exact miss (T := "NoneType") (by trivial) flag_seq_None
    | bl b => cases (show u = Value.bool b from r1); exact miss (T := "bool") (by trivial) flag_seq_bool
    | int i => obtain ⟨t, rfl⟩ := (show ∃ t, u = Value.int i t from r1); exact miss (T := "int") (by trivial) flag_seq_int
    | str z => obtain ⟨t, rfl⟩ := (show ∃ t, u = Value.str z t from r1); exact miss (T := "str") (by trivial) flag_seq_str
    | byt b => cases hn
    | flt b => cases hn
    | ref a => cases hn
    | ty n => cases hn

end MF
set_option Elab.async false
set_option linter.all false
set_option maxRecDepth 100000
set_option maxHeartbeats 1000000
namespace MF
open PySem PySem.Spec PyProof.Rows L2 StX

structure GFn (P : Program) (w : World) (K : PySem.W.Frag) (mg : Str → Option Value) (base : Heap) (CX : CXT) (k : Nat) (x : Str) (sp : Sp) : Prop where
  ex : ∃ f, FnR P w K mg base CX k f sp ∧ mg x = some (.ref f) ∧ PySem.W.keepIn K (.ref f) = true
structure MFn (P : Program) (w : World) (K : PySem.W.Frag) (mg : Str → Option Value) (base : Heap) (CX : CXT) (k : Nat) (C : Addr) (m : Str) (sp : Sp) : Prop where
  ex : ∃ f, FnR P w K mg base CX k f sp ∧ Meth K C m f
structure IFn (P : Program) (w : World) (K : PySem.W.Frag) (mg : Str → Option Value) (base : Heap) (CX : CXT) (k : Nat) (C : Addr) (x : Str) (sp : Sp) : Prop where
  ex : ∃ f, FnR P w K mg base CX k f sp ∧ Mk K C f ∧ mg x = some (.ref C)
section
variable {P : Program} {w : World} {K : PySem.W.Frag} {mg : Str → Option Value} {base : Heap} {CX : CXT} {j k : Nat} {C : Addr} {x m : Str} {sp sp' : Sp}
theorem GFn.mono (G : GFn P w K mg base CX j x sp) (h : j ≤ k) : GFn P w K mg base CX k x sp := let ⟨f, a, b⟩ := G.ex; ⟨f, a.mono h, b⟩
theorem GFn.imp (G : GFn P w K mg base CX k x sp) (h : ∀ vs H Q E, sp' vs H Q E → sp vs H Q E) : GFn P w K mg base CX k x sp' := let ⟨f, a, b⟩ := G.ex; ⟨f, a.imp h, b⟩
theorem MFn.mono (G : MFn P w K mg base CX j C m sp) (h : j ≤ k) : MFn P w K mg base CX k C m sp := let ⟨f, a, b⟩ := G.ex; ⟨f, a.mono h, b⟩
theorem MFn.imp (G : MFn P w K mg base CX k C m sp) (h : ∀ vs H Q E, sp' vs H Q E → sp vs H Q E) : MFn P w K mg base CX k C m sp' := let ⟨f, a, b⟩ := G.ex; ⟨f, a.imp h, b⟩
end
structure GDef (K : PySem.W.Frag) (mg : Str → Option Value) (x : Str) (st : Stmt) (ps : List Str) : Prop where
  ex : ∃ f fd, Fun K x x st f fd ∧ mg x = some (.ref f) ∧ Binds K fd ps []
structure MDef (K : PySem.W.Frag) (C : Addr) (m qual : Str) (st : Stmt) (ps : List Str) : Prop where
  ex : ∃ f fd, Fun K m qual st f fd ∧ Meth K C m f ∧ Binds K fd ps []
structure IDef (K : PySem.W.Frag) (mg : Str → Option Value) (C : Addr) (x qual : Str) (st : Stmt) (ps : List Str) : Prop where
  ex : ∃ f fd, Fun K "__init__" qual st f fd ∧ Mk K C f ∧ mg x = some (.ref C) ∧ Binds K fd ps []
section
variable {P : Program} {w : World} {K : PySem.W.Frag} {mg : Str → Option Value} {base : Heap} {CX : CXT} {k : Nat} {C : Addr} {x m qual : Str} {st : Stmt} {ps : List Str} {sp : Sp}
theorem raw0 {f : Addr} {fd : FuncData} (F : FnOk P w K mg base CX k f fd ps sp) (hb : Binds K fd ps []) : FnR P w K mg base CX k f sp :=
  (F.raw hb (dvs := []) .nil).imp fun vs H Q E h => by rw [List.append_nil]; exact h
theorem GDef.fn (D : GDef K mg x st ps) (h : ∀ f fd, Fun K x x st f fd → FnOk P w K mg base CX k f fd ps sp) : GFn P w K mg base CX k x sp :=
  let ⟨f, fd, a, b, c⟩ := D.ex
  ⟨f, raw0 (h f fd a) c, b, a.kp⟩
theorem MDef.fn (D : MDef K C m qual st ps) (h : ∀ f fd, Fun K m qual st f fd → FnOk P w K mg base CX k f fd ps sp) : MFn P w K mg base CX k C m sp :=
  let ⟨f, fd, a, b, c⟩ := D.ex
  ⟨f, raw0 (h f fd a) c, b⟩
theorem IDef.fn (D : IDef K mg C x qual st ps) (h : ∀ f fd, Fun K "__init__" qual st f fd → FnOk P w K mg base CX k f fd ps sp) : IFn P w K mg base CX k C x sp :=
  let ⟨f, fd, a, b, c, d⟩ := D.ex
  ⟨f, raw0 (h f fd a) d, b, c⟩
end
section
variable {X : Cx} {CX : CXT} {k : Nat} {C : Addr} {x m : Str} {sp : Sp} {E : XK} {e o : Expr} {es : List Expr} {ta te : TE} {t : TA} {p pos apos sp_ : Pos}
def tG (sp : Sp) (E : XK) (t : TA) : TE := fun σ H Q => t σ H fun vs H1 => sp vs H1 Q E
theorem pe_gX (G : GFn X.prog X.w X.K X.mg X.base CX k x sp) (hr : Room k X.A) (hx : Passes CX X E) (ha : PA X (e :: es) t) (hg : Gl X x := by rfl) (hdb : (x == ("__debug__" : Str)) = false := by decide)
    (he : starEach (e :: es) X.env = (false, eval e X.env) :: starEach es X.env := by rfl) (hpl : (backTo pos (starEach es X.env)).any (·.1) = false := by rfl) :
    PE X (.Call (.Name x p) (e :: es) [] pos) (tG sp E t) := by
  obtain ⟨f, F, hm, hk⟩ := G.ex
  refine ⟨fun pins s σ H Q I h => ?_⟩
  refine wpAny_Call_Name_kw (ld_glob I hg hm ?_ hdb)
  refine PySem.W.callWith_K (h₀ := X.base) I.ok.mod.kin hk (thn (ha.run pos pins s σ H _ I h) fun us s1 ⟨vs, H1, I1, r, q⟩ => ⟨I1.kIn, ?_⟩) he hpl
  exact wpAny_call (run_fnR F hr hx I1 r q)
theorem pe_g (G : GFn X.prog X.w X.K X.mg X.base CX0 k x sp) (hr : Room k X.A) (ha : PA X (e :: es) t) (hg : Gl X x := by rfl) (hdb : (x == ("__debug__" : Str)) = false := by decide)
    (he : starEach (e :: es) X.env = (false, eval e X.env) :: starEach es X.env := by rfl) (hpl : (backTo pos (starEach es X.env)).any (·.1) = false := by rfl) :
    PE X (.Call (.Name x p) (e :: es) [] pos) (tG sp E0 t) := pe_gX G hr pass0 ha hg hdb he hpl
theorem pe_g0X (G : GFn X.prog X.w X.K X.mg X.base CX k x sp) (hr : Room k X.A) (hx : Passes CX X E) (hg : Gl X x := by rfl) (hdb : (x == ("__debug__" : Str)) = false := by decide) :
    PE X (.Call (.Name x p) [] [] pos) (tG sp E tNil) := by
  obtain ⟨f, F, hm, hk⟩ := G.ex
  refine ⟨fun pins s σ H Q I h => ?_⟩
  refine wpAny_Call_Name_kw (ld_glob I hg hm ?_ hdb)
  exact PySem.W.callWith_K0 I.kIn hk (wpAny_call (run_fnR (us := []) F hr hx I .nil h))
theorem pe_gS (G : GFn X.prog X.w X.K X.mg X.base CX k x sp) (hr : Room k X.A) (hx : Passes CX X E) (he : PE X e te) (hg : Gl X x := by rfl) (hdb : (x == ("__debug__" : Str)) = false := by decide)
    (hst : starEach [.Starred e sp_] X.env = [(true, eval e X.env)] := by rfl) :
    PE X (.Call (.Name x p) [.Starred e sp_] [] pos) (tG sp E (tStar X.K te tNil)) := by
  obtain ⟨f, F, hm, hk⟩ := G.ex
  refine ⟨fun pins s σ H Q I h => ?_⟩
  refine wpAny_Call_Name_kw (ld_glob I hg hm ?_ hdb)
  refine PySem.W.callWith_S (h₀ := X.base) I.ok.mod.kin hk (thn (he.run pins s σ H _ I h) fun v s1 ⟨y, H1, I1, ry, a, xs, ey, hxs, q⟩ => ?_) hst
  subst ey
  obtain rfl : v = Value.ref a := ry
  refine star_any I1 hxs fun us s2 I2 rv => ⟨I2.kIn, wpAny_call (run_fnR F hr hx I2 rv ?_)⟩
  have q' : sp (xs ++ []) H1 Q E := q
  rw [List.append_nil] at q'
  exact q'
theorem pe_mkX (G : IFn X.prog X.w X.K X.mg X.base CX k C x sp) (hr : Room (k + 1) X.A) (hx : Passes CX X E) (ha : PA X (e :: es) t) (hg : Gl X x := by rfl) (hdb : (x == ("__debug__" : Str)) = false := by decide)
    (he : starEach (e :: es) X.env = (false, eval e X.env) :: starEach es X.env := by rfl) (hpl : (backTo pos (starEach es X.env)).any (·.1) = false := by rfl) : PE X (.Call (.Name x p) (e :: es) [] pos) (tMakeR C sp E t) := by
  obtain ⟨f, F, M, hm⟩ := G.ex
  exact pe_makeR M F hr hg hm hx ha hdb he hpl
theorem pe_mk0X (G : IFn X.prog X.w X.K X.mg X.base CX k C x sp) (hr : Room (k + 1) X.A) (hx : Passes CX X E) (hg : Gl X x := by rfl) (hdb : (x == ("__debug__" : Str)) = false := by decide) : PE X (.Call (.Name x p) [] [] pos) (tMakeR C sp E tNil) := by
  obtain ⟨f, F, M, hm⟩ := G.ex
  refine ⟨fun pins s σ H Q I h => ?_⟩
  refine wpAny_Call_Name_kw (ld_glob I hg hm ?_ hdb)
  exact PySem.W.callWith_K0 I.kIn M.kp (run_makeR (us := []) M F hr hx I .nil h)
theorem pe_mkS (G : IFn X.prog X.w X.K X.mg X.base CX k C x sp) (hr : Room (k + 1) X.A) (hx : Passes CX X E) (he : PE X e te) (hg : Gl X x := by rfl) (hdb : (x == ("__debug__" : Str)) = false := by decide)
    (hst : starEach [.Starred e sp_] X.env = [(true, eval e X.env)] := by rfl) : PE X (.Call (.Name x p) [.Starred e sp_] [] pos) (tMakeR C sp E (tStar X.K te tNil)) := by
  obtain ⟨f, F, M, hm⟩ := G.ex
  refine ⟨fun pins s σ H Q I h => ?_⟩
  refine wpAny_Call_Name_kw (ld_glob I hg hm ?_ hdb)
  refine PySem.W.callWith_S (h₀ := X.base) I.ok.mod.kin M.kp (thn (he.run pins s σ H _ I h) fun v s1 ⟨y, H1, I1, ry, a, xs, ey, hxs, q⟩ => ?_) hst
  subst ey
  obtain rfl : v = Value.ref a := ry
  refine star_any I1 hxs fun us s2 I2 rv => ⟨I2.kIn, run_makeR M F hr hx I2 rv ?_⟩
  have q' : ∀ x dx, H1 x = none → H1 dx = none → dx ≠ x → sp (V.ref x :: (xs ++ [])) (upd (upd H1 dx (.own x)) x (.ins C dx [])) (fun v H2 => v = .non ∧ Q (.ref x) H2) E := q
  rw [List.append_nil] at q'
  exact q'
theorem pe_mkS2 (G : IFn X.prog X.w X.K X.mg X.base CX k C x sp) (hr : Room (k + 1) X.A) (hx : Passes CX X E) (ha : PA X (e :: es) t) (hg : Gl X x := by rfl) (hdb : (x == ("__debug__" : Str)) = false := by decide)
    (he : starEach (e :: es) X.env = (false, eval e X.env) :: starEach es X.env := by rfl) (hst : (backTo pos (starEach es X.env)).any (·.1) = true := by rfl) : PE X (.Call (.Name x p) (e :: es) [] pos) (tMakeR C sp E t) := by
  obtain ⟨f, F, M, hm⟩ := G.ex
  refine ⟨fun pins s σ H Q I h => ?_⟩
  refine wpAny_Call_Name_kw (ld_glob I hg hm ?_ hdb)
  refine PySem.W.callWith_S2 (h₀ := X.base) I.ok.mod.kin M.kp (thn (ha.run pos pins s σ H _ I h) fun us s1 ⟨vs, H1, I1, r, q⟩ => ⟨I1.kIn, ?_⟩) he hst
  exact run_makeR M F hr hx I1 r q
def tM (C : Addr) (m : Str) (sp : Sp) (E : XK) (ta : TE) (t : TA) : TE := fun σ H Q => ta σ H fun x H1 => ∃ a dx fs, x = .ref a ∧ H1 a = some (.ins C dx fs) ∧ fs.lookup m = none ∧ t σ H1 fun vs H2 => sp (x :: vs) H2 Q E
theorem pe_mX {pl : Sem Bool} (G : MFn X.prog X.w X.K X.mg X.base CX k C m sp) (c : Cls X.K C) (hr : Room k X.A) (hx : Passes CX X E) (he : PE X o ta) (ha : PA X (e :: es) t)
    (hst : starEach (e :: es) X.env = (false, eval e X.env) :: starEach es X.env := by rfl) (hpl : (backTo pos (starEach es X.env)).any (·.1) = false := by rfl)
    (ht : eval (.Call (.Attribute o m apos) (e :: es) [] pos) X.env = (do
      let ov ← eval o X.env
      standAt apos.atName
      let (f, first) ← holding [ov] (getMethod ov m pl)
      callWith pos f first (backTo pos (starEach (e :: es) X.env)) (backToKw pos (keywordEach [] X.env))) := by rfl) :
    PE X (.Call (.Attribute o m apos) (e :: es) [] pos) (tM C m sp E ta t) := by
  obtain ⟨f, F, hm⟩ := G.ex
  refine ⟨fun pins s σ H Q I h => ?_⟩
  refine PySem.W.methodCall_KW (pl := pl) (thn (he.run pins s σ H _ I h) fun u s1 ⟨x, H1, I1, rx, a, dx, fs, ex, ea, l, q⟩ => ?_) ht
  subst ex
  obtain rfl : u = Value.ref a := rx
  refine getmeth_ok I1 ea c hm l ?_
  refine PySem.W.callWith_K (first := [.ref a]) (h₀ := X.base) I.ok.mod.kin hm.kp (thn (ha.run pos pins s1 σ H1 _ I1 q) fun us s2 ⟨vs, H2, I2, r, q2⟩ => ⟨I2.kIn, ?_⟩) hst hpl
  exact wpAny_call (run_fnR (us := .ref a :: us) (vs := .ref a :: vs) F hr hx I2 (.cons rfl r) q2)
theorem pe_m {pl : Sem Bool} (G : MFn X.prog X.w X.K X.mg X.base CX0 k C m sp) (c : Cls X.K C) (hr : Room k X.A) (he : PE X o ta) (ha : PA X (e :: es) t)
    (hst : starEach (e :: es) X.env = (false, eval e X.env) :: starEach es X.env := by rfl) (hpl : (backTo pos (starEach es X.env)).any (·.1) = false := by rfl)
    (ht : eval (.Call (.Attribute o m apos) (e :: es) [] pos) X.env = (do
      let ov ← eval o X.env
      standAt apos.atName
      let (f, first) ← holding [ov] (getMethod ov m pl)
      callWith pos f first (backTo pos (starEach (e :: es) X.env)) (backToKw pos (keywordEach [] X.env))) := by rfl) :
    PE X (.Call (.Attribute o m apos) (e :: es) [] pos) (tM C m sp E0 ta t) := pe_mX G c hr pass0 he ha hst hpl ht
theorem pe_mX0 {pl : Sem Bool} (G : MFn X.prog X.w X.K X.mg X.base CX k C m sp) (c : Cls X.K C) (hr : Room k X.A) (hx : Passes CX X E) (he : PE X o ta)
    (ht : eval (.Call (.Attribute o m apos) [] [] pos) X.env = (do
      let ov ← eval o X.env
      standAt apos.atName
      let (f, first) ← holding [ov] (getMethod ov m pl)
      callWith pos f first (backTo pos (starEach [] X.env)) (backToKw pos (keywordEach [] X.env))) := by rfl) :
    PE X (.Call (.Attribute o m apos) [] [] pos) (tM C m sp E ta tNil) := by
  obtain ⟨f, F, hm⟩ := G.ex
  refine ⟨fun pins s σ H Q I h => ?_⟩
  refine PySem.W.methodCall_KW (pl := pl) (thn (he.run pins s σ H _ I h) fun u s1 ⟨x, H1, I1, rx, a, dx, fs, ex, ea, l, q⟩ => ?_) ht
  subst ex
  obtain rfl : u = Value.ref a := rx
  refine getmeth_ok I1 ea c hm l ?_
  exact PySem.W.callWith_K0 (first := [.ref a]) I1.kIn hm.kp (wpAny_call (run_fnR (us := [.ref a]) (vs := [.ref a]) F hr hx I1 (.cons rfl .nil) q))
theorem pe_m0 {pl : Sem Bool} (G : MFn X.prog X.w X.K X.mg X.base CX0 k C m sp) (c : Cls X.K C) (hr : Room k X.A) (he : PE X o ta)
    (ht : eval (.Call (.Attribute o m apos) [] [] pos) X.env = (do
      let ov ← eval o X.env
      standAt apos.atName
      let (f, first) ← holding [ov] (getMethod ov m pl)
      callWith pos f first (backTo pos (starEach [] X.env)) (backToKw pos (keywordEach [] X.env))) := by rfl) :
    PE X (.Call (.Attribute o m apos) [] [] pos) (tM C m sp E0 ta tNil) := pe_mX0 G c hr pass0 he ht
theorem pe_gint {n : Int} (h : ∃ t, X.mg x = some (.int n t)) (hg : Gl X x := by rfl) (hd : (x == ("__debug__" : Str)) = false := by decide) : PE X (.Name x pos) (tC (.int n)) := by
  obtain ⟨t, h⟩ := h
  exact pe_glob hg h ⟨_, rfl⟩ hd
theorem pe_gstr {z : Str} (h : ∃ t, X.mg x = some (.str z t)) (hg : Gl X x := by rfl) (hd : (x == ("__debug__" : Str)) = false := by decide) : PE X (.Name x pos) (tC (.str z)) := by
  obtain ⟨t, h⟩ := h
  exact pe_glob hg h ⟨_, rfl⟩ hd
end
theorem op_ownR {X : Cx} {op : Operator} {C f : Addr} {m : Str} {CX : CXT} {k : Nat} {sp : Sp} {E : XK} (hc : PySem.W.selfFirst X.K C = true) (M : Meth X.K C m f) (F : FnR X.prog X.w X.K X.mg X.base CX k f sp) (hr : Room k X.A) (hx : Passes CX X E) (hm : PySem.dunder op.info.2 = m := by rfl) :
    OpR X (binaryOp op) (fun x y H Q => ∃ a b dx dy fs gs, x = .ref a ∧ y = .ref b ∧ H a = some (.ins C dx fs) ∧ H b = some (.ins C dy gs) ∧ sp [.ref a, .ref b] H Q E) := by
  subst hm
  rintro pins s σ H x y u v Q I rx ry ⟨a, b, dx, dy, fs, gs, rfl, rfl, ea, eb, h⟩
  obtain rfl : u = Value.ref a := rx
  obtain rfl : v = Value.ref b := ry
  obtain ⟨mA, O, _⟩ := ins_get I.hok ea
  obtain ⟨mB, O', _⟩ := ins_get I.hok eb
  obtain ⟨od, ia, _⟩ := O.look
  obtain ⟨od', ib, _⟩ := O'.look
  obtain ⟨mm, fr⟩ := I.fr
  refine PySem.W.binop_K fr I.mod.kin ia ib.type hc M.at_ M.fn ?_
  refine thn (wpAny_call (run_fnR (us := [.ref a, .ref b]) (vs := [.ref a, .ref b]) F hr hx I (.cons rfl (.cons rfl .nil)) h)) fun r s' hq => ?_
  obtain ⟨z, H', I', rz, q⟩ := hq
  exact notNI rz ⟨z, H', I', rz, q⟩
structure SDef (K : PySem.W.Frag) (mg : Str → Option Value) (C : Addr) (x qual : Str) (st : Stmt) (p1 pv : Str) : Prop where
  ex : ∃ f fd, Fun K "__init__" qual st f fd ∧ Mk K C f ∧ mg x = some (.ref C) ∧ ∀ us rest : List Value, us.length = [p1].length → bindArgs fd ⟨us ++ rest, []⟩ = (newTuple rest >>= fun t => pure ([p1].zip us ++ [(pv, t)]))
theorem SDef.fn0 {P : Program} {w : World} {K : PySem.W.Frag} {mg : Str → Option Value} {base : Heap} {k : Nat} {C : Addr} {x qual p1 pv : Str} {st : Stmt} {N : List Str} {sp : Sp} (D : SDef K mg C x qual st p1 pv) (S : FnScope N [p1, pv] (defScope st))
    (hbody : ∀ (f : Addr) (cdv : Value) (A : Around) (outer : List Env) (s : Shared) (H : Hp) (vs : List V) (Q : VK) (E : XK), Room k (A.deeper (envOfC qual (defScope st) s.heap.objs.size f cdv)) → sp vs H Q E →
      ∃ t, PSs (cxOf CX0 P w K mg base N qual (defScope st) f cdv A outer s H E).nox (defBody st) t ∧ t { nx := fun _ H' => Q .non H', rt := Q } (start N vs) H) :
    IFn P w K mg base CX0 (k + 1) C x (fun vs H Q E => ∃ v rest, vs = v :: rest ∧ rest.length ≤ sizeLine ∧ ∀ p, H p = Option.none → sp [v, V.ref p] (upd H p (.tup rest)) Q E) := by
  obtain ⟨f, fd, F, M, hm, hb⟩ := D.ex
  obtain ⟨oc, od, kV, doc, pm, an, cdv, ct, osl, rfl, lk, hcd⟩ := F.ex
  refine ⟨f, (fn_star (ps := [p1]) (pv := pv) (sp := sp) lk hcd S cxUp_none hb fun A outer s H vs Q E hr hsp => ?_).imp fun vs H Q E h => ?_, M, hm⟩
  · obtain ⟨t, h, q⟩ := hbody f cdv A outer s H vs Q E hr hsp
    exact ⟨t, h.nox, q⟩
  · obtain ⟨v, rest, rfl, hl, q⟩ := h
    exact ⟨[v], rest, rfl, rfl, hl, q⟩
end MF
set_option Elab.async false
set_option linter.all false
set_option maxRecDepth 100000
set_option maxHeartbeats 1000000
namespace MF
open PySem PySem.Spec PyProof.Rows L2 StX ClX
structure PDef (K : PySem.W.Frag) (C : Addr) (m qual : Str) (st : Stmt) (ps : List Str) : Prop where
  ex : ∃ p f fd, Fun K m qual st f fd ∧ PropOf K C m p f ∧ Binds K fd ps []
structure PFn (P : Program) (w : World) (K : PySem.W.Frag) (mg : Str → Option Value) (base : Heap) (CX : CXT) (k : Nat) (C : Addr) (m : Str) (sp : Sp) : Prop where
  ex : ∃ p f fd ps, FnOk P w K mg base CX k f fd ps sp ∧ PropOf K C m p f ∧ Binds K fd ps []
theorem PDef.fn {P : Program} {w : World} {K : PySem.W.Frag} {mg : Str → Option Value} {base : Heap} {CX : CXT} {k : Nat} {C : Addr} {m qual : Str} {st : Stmt} {ps : List Str} {sp : Sp} (D : PDef K C m qual st ps) (h : ∀ f fd, Fun K m qual st f fd → FnOk P w K mg base CX k f fd ps sp) : PFn P w K mg base CX k C m sp :=
  let ⟨p, f, fd, a, b, c⟩ := D.ex
  ⟨p, f, fd, ps, h f fd a, b, c⟩
theorem pe_pr {X : Cx} {k : Nat} {C : Addr} {m : Str} {sp : Sp} {e : Expr} {ta : TE} {pos : Pos} (G : PFn X.prog X.w X.K X.mg X.base CX0 k C m sp) (c : Cls X.K C) (hr : Room (k + 1) X.A) (he : PE X e ta) (hab : attributeBase e m X.env (eval e X.env) = eval e X.env := by rfl) : PE X (.Attribute e m pos) (tProp C sp [] E0 ta) := by
  obtain ⟨p, f, fd, ps, F, hp, hb⟩ := G.ex
  exact pe_prop he c hp F hr hb .nil pass0 hab
structure CDef (K : PySem.W.Frag) (C : Addr) (m qual : Str) (st : Stmt) (ps : List Str) (pv : Str) : Prop where
  ex : ∃ mc p f fd, Fun K m qual st f fd ∧ CRead K C mc ∧ CMet K C mc m p f ∧ ∀ us rest : List Value, us.length = ps.length → bindArgs fd ⟨us ++ rest, []⟩ = (newTuple rest >>= fun t => pure (ps.zip us ++ [(pv, t)]))
structure CFn (P : Program) (w : World) (K : PySem.W.Frag) (mg : Str → Option Value) (base : Heap) (CX : CXT) (k : Nat) (C : Addr) (m : Str) (sp : Sp) : Prop where
  ex : ∃ mc p f, FnR P w K mg base CX k f sp ∧ CRead K C mc ∧ CMet K C mc m p f
theorem CDef.fn0 {P : Program} {w : World} {K : PySem.W.Frag} {mg : Str → Option Value} {base : Heap} {k : Nat} {C : Addr} {m qual pv : Str} {ps : List Str} {st : Stmt} {N : List Str} {sp : Sp} (D : CDef K C m qual st ps pv) (S : FnScope N (ps ++ [pv]) (defScope st))
    (hbody : ∀ (f : Addr) (cdv : Value) (A : Around) (outer : List Env) (s : Shared) (H : Hp) (vs : List V) (Q : VK) (E : XK), Room k (A.deeper (envOfC qual (defScope st) s.heap.objs.size f cdv)) → sp vs H Q E →
      ∃ t, PSs (cxOf CX0 P w K mg base N qual (defScope st) f cdv A outer s H E).nox (defBody st) t ∧ t { nx := fun _ H' => Q .non H', rt := Q } (start N vs) H) :
    CFn P w K mg base CX0 (k + 1) C m (fun vs H Q E => ∃ ws rest, vs = ws ++ rest ∧ ws.length = ps.length ∧ rest.length ≤ sizeLine ∧ ∀ p, H p = Option.none → sp (ws ++ [V.ref p]) (upd H p (.tup rest)) Q E) := by
  obtain ⟨mc, p, f, fd, F, R, M, hb⟩ := D.ex
  obtain ⟨oc, od, kV, doc, pm, an, cdv, ct, osl, rfl, lk, hcd⟩ := F.ex
  refine ⟨mc, p, f, fn_star (ps := ps) (pv := pv) (sp := sp) lk hcd S cxUp_none hb fun A outer s H vs Q E hr hsp => ?_, R, M⟩
  obtain ⟨t, h, q⟩ := hbody f cdv A outer s H vs Q E hr hsp
  exact ⟨t, h.nox, q⟩
theorem bind_star4 {B : List Value → Sem (List (Str × Value))} {p1 p2 p3 p4 pv : Str} (h0 : ∀ a b c d, B [a, b, c, d] = (newTuple [] >>= fun t => pure [(p1, a), (p2, b), (p3, c), (p4, d), (pv, t)])) (h1 : ∀ a b c d r rs, B (a :: b :: c :: d :: r :: rs) = (newTuple (r :: rs) >>= fun t => pure [(p1, a), (p2, b), (p3, c), (p4, d), (pv, t)])) :
    ∀ us rest : List Value, us.length = [p1, p2, p3, p4].length → B (us ++ rest) = (newTuple rest >>= fun t => pure ([p1, p2, p3, p4].zip us ++ [(pv, t)])) := by
  intro us rest hl
  match us, hl with
  | [a, b, c, d], _ =>
    cases rest with
    | nil => exact h0 a b c d
    | cons r rs => exact h1 a b c d r rs
theorem pe_cm {X : Cx} {k : Nat} {C : Addr} {m : Str} {sp : Sp} {o e : Expr} {es : List Expr} {ta : TE} {t : TA} {pos apos : Pos} {pl : Sem Bool} (G : CFn X.prog X.w X.K X.mg X.base CX0 k C m sp) (hr : Room k X.A) (he : PE X o ta) (ha : PA X (e :: es) t)
    (hst : starEach (e :: es) X.env = (false, eval e X.env) :: starEach es X.env := by rfl) (hpl : (backTo pos (starEach es X.env)).any (·.1) = false := by rfl)
    (ht : eval (.Call (.Attribute o m apos) (e :: es) [] pos) X.env = (do
      let ov ← eval o X.env
      standAt apos.atName
      let (f, first) ← holding [ov] (getMethod ov m pl)
      callWith pos f first (backTo pos (starEach (e :: es) X.env)) (backToKw pos (keywordEach [] X.env))) := by rfl) :
    PE X (.Call (.Attribute o m apos) (e :: es) [] pos) (tCMeth C sp E0 ta t) := by
  obtain ⟨mc, p, f, F, R, M⟩ := G.ex
  exact pe_cmeth he R M F hr pass0 ha hst hpl ht
def tMkL (i : Nat) (C : Addr) (sp : Sp) (E : XK) (t : TA) : TE := fun σ H Q => σ[i]? = some (some (.ref C)) ∧ tMakeR C sp E t σ H Q
theorem pe_mkSL {X : Cx} {CX : CXT} {k i : Nat} {C : Addr} {x y : Str} {sp : Sp} {E : XK} {e : Expr} {te : TE} {p pos sp_ : Pos} (G : IFn X.prog X.w X.K X.mg X.base CX k C y sp) (hr : Room (k + 1) X.A) (hx : Passes CX X E) (hN : X.N[i]? = some x) (hv : Vis X.env.scope x) (he : PE X e te)
    (hdb : (x == ("__debug__" : Str)) = false := by decide) (hcd : (x == ("__classdict__" : Str)) = false := by decide)
    (hst : starEach [.Starred e sp_] X.env = [(true, eval e X.env)] := by rfl) : PE X (.Call (.Name x p) [.Starred e sp_] [] pos) (tMkL i C sp E (tStar X.K te tNil)) := by
  obtain ⟨f, F, M, hm⟩ := G.ex
  refine ⟨fun pins s σ H Q I h => ?_⟩
  obtain ⟨hs, ht⟩ := h
  refine wpAny_Call_Name_kw (thn ((pe_var (pos := p) hN hv hdb hcd).run pins s σ H (fun v H1 => v = .ref C ∧ H1 = H) I ⟨.ref C, hs, rfl, rfl⟩) fun u s1 ⟨v, H1, I1, r1, q1⟩ => ?_)
  obtain ⟨rfl, rfl⟩ := q1
  cases r1
  refine PySem.W.callWith_S (h₀ := X.base) I.ok.mod.kin M.kp (thn (he.run pins s1 σ _ _ I1 ht) fun v s1 ⟨y, H1, I1, ry, a, xs, ey, hxs, q⟩ => ?_) hst
  subst ey
  obtain rfl : v = Value.ref a := ry
  refine star_any I1 hxs fun us s2 I2 rv => ⟨I2.kIn, run_makeR M F hr hx I2 rv ?_⟩
  have q' : ∀ x dx, H1 x = none → H1 dx = none → dx ≠ x → sp (V.ref x :: (xs ++ [])) (upd (upd H1 dx (.own x)) x (.ins C dx [])) (fun v H2 => v = .non ∧ Q (.ref x) H2) E := q
  rw [List.append_nil] at q'
  exact q'
end MF
set_option Elab.async false
set_option linter.all false
set_option maxRecDepth 100000
set_option maxHeartbeats 1000000
namespace MF
open PySem PySem.Spec PyProof.Rows L2 StX
section
variable {X : Cx} {pins : List (Addr × Obj)} {σ : L2.St} {H : Hp} {s : Shared} {CX : CXT} {k : Nat} {C f : Addr} {sp : Sp} {E : XK}
theorem run_in1 {us : List Value} {vs : List V} {Q : VK} (F : FnR X.prog X.w X.K X.mg X.base CX k f sp) (hr : Room (k + 1) X.A) (hx : Passes CX X E) (I : Inv X pins σ H s) (r : Vals vs us) (h : sp vs H Q E) : wpAny (model X.prog X.w) X.A.in1 (call (.ref f) us) (EP X pins σ Q) X.xe s := by
  have e0 := I.env0
  refine wpAny_call (codeAny_mono (F X.A.in1 X.stack s H us vs Q E hr.in1 ⟨e0.frames, e0.mod, e0.bs, e0.bsz, e0.funs, e0.frf, e0.hok, e0.bare⟩ r h) fun r s' hq => ?_)
  cases r with
  | error e => exact hx pins σ H s e s' I hq
  | ok fl =>
    cases fl with
    | ret u => exact I.after hq
    | next => exact False.elim hq
    | brk => exact False.elim hq
    | cont => exact False.elim hq
def rLenO (C : Addr) (sp : Sp) (E : XK) : List V → Hp → VK → Prop := fun xs H Q => ∃ a dx fs, xs = [.ref a] ∧ H a = some (.ins C dx fs) ∧ sp [.ref a] H (fun v H' => ∃ n : Nat, v = .int (n : Int) ∧ (n : Int) < 2 ^ 63 ∧ Q (.int (n : Int)) H') E
theorem cr_lenO (M : Meth X.K C "__len__" f) (F : FnR X.prog X.w X.K X.mg X.base CX k f sp) (hr : Room (k + 1) X.A) (hx : Passes CX X E) : CallR X (.builtin "len") (rLenO C sp E) := by
  rintro pins s σ H xs us Q I r ⟨a, dx, fs, rfl, ea, h⟩
  rw [Vals.ref1 r]
  obtain ⟨mA, O, _⟩ := ins_get I.hok ea
  obtain ⟨od, ia, _⟩ := O.look
  obtain ⟨mm, fr⟩ := I.fr
  refine PySem.W.len_K fr I.mod.kin ia M.at_ M.fn ?_
  refine thn (run_in1 (us := [.ref a]) (vs := [.ref a]) F hr hx I (.cons rfl .nil) h) fun r s' hq => ?_
  obtain ⟨z, H', I', rz, n, rfl, hn, q⟩ := hq
  obtain ⟨t, rfl⟩ := rz
  exact ⟨⟨by omega, hn⟩, .int n, H', I'.tok _, ⟨_, rfl⟩, q⟩
def rIxO (C : Addr) (sp : Sp) (E : XK) : R2 := fun x y H Q => ∃ a dx fs, x = .ref a ∧ H a = some (.ins C dx fs) ∧ sp [.ref a, y] H Q E
theorem pe_ixO {a b : Expr} {ta tb : TE} {pos : Pos} (M : Meth X.K C "__getitem__" f) (F : FnR X.prog X.w X.K X.mg X.base CX k f sp) (hr : Room (k + 1) X.A) (hx : Passes CX X E) (hfi : PySem.W.fnIn X.K f = true) (ha : PE X a ta) (hb : PE X b tb)
    (hsl : ∀ o i, subscripted b true o i = runValue (.builtin "lifetime.subscript" ⟨[o, i], []⟩)) : PE X (.Subscript a b pos) (tOp (rIxO C sp E) ta tb) := by
  refine ⟨fun pins s σ H Q I h => ?_⟩
  refine Subscript_ (binT ha hb I h fun v u s2 x y H2 I2 rx ry q => ?_)
  obtain ⟨c, dx, fs, rfl, ec, q⟩ := q
  obtain rfl : v = Value.ref c := rx
  obtain ⟨mA, O, _⟩ := ins_get I2.hok ec
  obtain ⟨od, ia, _⟩ := O.look
  obtain ⟨mm, fr⟩ := I2.fr
  refine PySem.W.sub_K fr I2.mod.kin ia M.at_ hfi M.fn ?_ (hsl _ _)
  exact run_in1 (us := [.ref c, u]) (vs := [.ref c, y]) F hr hx I2 (.cons rfl (.cons ry .nil)) q
end
end MF
set_option Elab.async false
set_option linter.all false
set_option maxRecDepth 100000
set_option maxHeartbeats 1000000
namespace MF
open PySem PySem.Spec PyProof.Rows L2 StX

theorem Same.tup {K : PySem.W.Frag} {H H' : Hp} {a : Addr} {xs : List V} (e : Same H H') (h : SqT K H a xs) : SqT K H' a xs := by
  rcases h with (h | ⟨o, h⟩) | h
  · exact .inl (.inl (e _ _ h))
  · exact .inl (.inr ⟨o, e _ _ h⟩)
  · exact .inr h
theorem Same.upd {H H' : Hp} {p : Addr} {o : HO} (e : Same H H') (h : H' p = none) : Same H (L2.upd H' p o) := fun b u q => by
  rw [upd_ne (ne_of_none (e b u q) h)]
  exact e b u q
theorem Same.new {H : Hp} {p : Addr} {o : HO} (h : H p = none) : Same H (L2.upd H p o) := Same.upd (Same.refl H) h
theorem tyT {K : PySem.W.Frag} {H : Hp} {a : Addr} {xs : List V} (h : SqT K H a xs) : TyX K H (.ref a) (.type "tuple") := by
  rcases h with (h | ⟨o, h⟩) | ⟨o, its, n, e, c, _⟩
  · exact .base (.tup h)
  · exact .fTuple h
  · exact .kTuple e c
theorem tyL {K : PySem.W.Frag} {H : Hp} {a : Addr} {xs : List V} (h : SqL K H a xs) : TyX K H (.ref a) (.type "list") := by
  rcases h with (h | ⟨o, h⟩) | ⟨o, its, n, e, c, _⟩
  · exact .base (.lst h)
  · exact .base (.frz h)
  · exact .kList e c
def tyN : V → String
  | .non => "NoneType"
  | .bl _ => "bool"
  | .int _ => "int"
  | .str _ => "str"
  | _ => ""
theorem ty_flat {K : PySem.W.Frag} {H : Hp} : ∀ {v : V}, notSeq v = true → TyX K H v (.type (tyN v))
  | .non, _ => .base .non
  | .bl b, _ => .base (.bl b)
  | .int i, _ => .base (.int i)
  | .str x, _ => .base (.str x)
theorem isi_flat {K : PySem.W.Frag} {v : V} {T : String} (h : notSeq v = true) (b : Bool) (hb : ∀ w, notSeq w = true → tyN w = tyN v → kitB (tyN w) T = some b) : PySem.W.kitOne K (.type (tyN v)) (.type T) = some b := kit_ty (hb v h rfl)

theorem kt_int_int {K : PySem.W.Frag} : PySem.W.kitOne K (.type "int") (.type "int") = some true := kit_ty (by decide +kernel)
theorem kt_int_bool {K : PySem.W.Frag} : PySem.W.kitOne K (.type "int") (.type "bool") = some false := kit_ty (by decide +kernel)
theorem kt_int_str {K : PySem.W.Frag} : PySem.W.kitOne K (.type "int") (.type "str") = some false := kit_ty (by decide +kernel)
theorem kt_int_tuple {K : PySem.W.Frag} : PySem.W.kitOne K (.type "int") (.type "tuple") = some false := kit_ty (by decide +kernel)
theorem kt_int_list {K : PySem.W.Frag} : PySem.W.kitOne K (.type "int") (.type "list") = some false := kit_ty (by decide +kernel)
theorem kt_bool_int {K : PySem.W.Frag} : PySem.W.kitOne K (.type "bool") (.type "int") = some true := kit_ty (by decide +kernel)
theorem kt_bool_bool {K : PySem.W.Frag} : PySem.W.kitOne K (.type "bool") (.type "bool") = some true := kit_ty (by decide +kernel)
theorem kt_bool_str {K : PySem.W.Frag} : PySem.W.kitOne K (.type "bool") (.type "str") = some false := kit_ty (by decide +kernel)
theorem kt_bool_tuple {K : PySem.W.Frag} : PySem.W.kitOne K (.type "bool") (.type "tuple") = some false := kit_ty (by decide +kernel)
theorem kt_bool_list {K : PySem.W.Frag} : PySem.W.kitOne K (.type "bool") (.type "list") = some false := kit_ty (by decide +kernel)
theorem kt_NoneType_int {K : PySem.W.Frag} : PySem.W.kitOne K (.type "NoneType") (.type "int") = some false := kit_ty (by decide +kernel)
theorem kt_NoneType_bool {K : PySem.W.Frag} : PySem.W.kitOne K (.type "NoneType") (.type "bool") = some false := kit_ty (by decide +kernel)
theorem kt_NoneType_str {K : PySem.W.Frag} : PySem.W.kitOne K (.type "NoneType") (.type "str") = some false := kit_ty (by decide +kernel)
theorem kt_NoneType_tuple {K : PySem.W.Frag} : PySem.W.kitOne K (.type "NoneType") (.type "tuple") = some false := kit_ty (by decide +kernel)
theorem kt_NoneType_list {K : PySem.W.Frag} : PySem.W.kitOne K (.type "NoneType") (.type "list") = some false := kit_ty (by decide +kernel)
theorem kt_str_int {K : PySem.W.Frag} : PySem.W.kitOne K (.type "str") (.type "int") = some false := kit_ty (by decide +kernel)
theorem kt_str_bool {K : PySem.W.Frag} : PySem.W.kitOne K (.type "str") (.type "bool") = some false := kit_ty (by decide +kernel)
theorem kt_str_str {K : PySem.W.Frag} : PySem.W.kitOne K (.type "str") (.type "str") = some true := kit_ty (by decide +kernel)
theorem kt_str_tuple {K : PySem.W.Frag} : PySem.W.kitOne K (.type "str") (.type "tuple") = some false := kit_ty (by decide +kernel)
theorem kt_str_list {K : PySem.W.Frag} : PySem.W.kitOne K (.type "str") (.type "list") = some false := kit_ty (by decide +kernel)
theorem kt_tuple_int {K : PySem.W.Frag} : PySem.W.kitOne K (.type "tuple") (.type "int") = some false := kit_ty (by decide +kernel)
theorem kt_tuple_bool {K : PySem.W.Frag} : PySem.W.kitOne K (.type "tuple") (.type "bool") = some false := kit_ty (by decide +kernel)
theorem kt_tuple_str {K : PySem.W.Frag} : PySem.W.kitOne K (.type "tuple") (.type "str") = some false := kit_ty (by decide +kernel)
theorem kt_tuple_tuple {K : PySem.W.Frag} : PySem.W.kitOne K (.type "tuple") (.type "tuple") = some true := kit_ty (by decide +kernel)
theorem kt_tuple_list {K : PySem.W.Frag} : PySem.W.kitOne K (.type "tuple") (.type "list") = some false := kit_ty (by decide +kernel)
theorem kt_list_int {K : PySem.W.Frag} : PySem.W.kitOne K (.type "list") (.type "int") = some false := kit_ty (by decide +kernel)
theorem kt_list_bool {K : PySem.W.Frag} : PySem.W.kitOne K (.type "list") (.type "bool") = some false := kit_ty (by decide +kernel)
theorem kt_list_str {K : PySem.W.Frag} : PySem.W.kitOne K (.type "list") (.type "str") = some false := kit_ty (by decide +kernel)
theorem kt_list_tuple {K : PySem.W.Frag} : PySem.W.kitOne K (.type "list") (.type "tuple") = some false := kit_ty (by decide +kernel)
theorem kt_list_list {K : PySem.W.Frag} : PySem.W.kitOne K (.type "list") (.type "list") = some true := kit_ty (by decide +kernel)
def isIntB : V → Int → Int → Bool
  | .int i, lo, hi => decide (lo ≤ i) && decide (i ≤ hi)
  | _, _, _ => false
def letters : Str := "abcdefghijklmnopqrstuvwxyz"
def isAddrB : V → Bool
  | .str z => decide (1 ≤ z.length) && decide (z.length ≤ 8) && z.cps.toList.all fun c => decide (c ∈ letters.cps.toList)
  | _ => false
structure Ordr where
  src : Str
  tgt : Str
  first : Int
  last : Int
  way : Int
  deriving DecidableEq
def Ordr.vals (o : Ordr) : List V := [.str o.src, .str o.tgt, .int o.first, .int o.last, .int o.way]
def OrdAt (K : PySem.W.Frag) (H : Hp) (a : Addr) (o : Ordr) : Prop := SqT K H a o.vals
theorem OrdAt.mono {K : PySem.W.Frag} {H H' : Hp} {a : Addr} {o : Ordr} (h : OrdAt K H a o) (e : Same H H') : OrdAt K H' a o := MF.Same.tup e h
def overB (o p : Ordr) : Bool := decide (o.src = p.src) && (decide (o.first ≤ p.last) && decide (p.first ≤ o.last))
def isOrdB : List V → Bool
  | [s, t, f, l, w] => (isAddrB s && isAddrB t && !decide (s = t)) && ((isIntB l 0 1000000000000000000 && (match l with | .int i => isIntB f 0 i | _ => false)) && isIntB w 1 30)
  | _ => false
structure Ordr.Ok (o : Ordr) : Prop where
  as : isAddrB (.str o.src) = true
  at_ : isAddrB (.str o.tgt) = true
  ne : o.src ≠ o.tgt
  f0 : 0 ≤ o.first
  fl : o.first ≤ o.last
  lm : o.last ≤ 1000000000000000000
  w1 : 1 ≤ o.way
  w30 : o.way ≤ 30
theorem Ordr.Ok.b {o : Ordr} (h : o.Ok) : isOrdB o.vals = true := by
  obtain ⟨a, b, c, d, e, f, g, k⟩ := h
  have c' : decide (V.str o.src = V.str o.tgt) = false := decide_eq_false fun q => c (V.str.inj q)
  unfold isOrdB Ordr.vals
  simp only [a, b, c', isIntB, Bool.and_true, Bool.true_and, Bool.not_false]
  simp [d, e, f, g, k]
  omega

theorem iteD {c A B : Prop} [Decidable c] (hc : c) (h : A) : if decide c = true then A else B := by
  rw [if_pos (decide_eq_true hc)]
  exact h
theorem iteDN {c A B : Prop} [Decidable c] (hc : ¬ c) (h : B) : if decide c = true then A else B := by
  rw [if_neg (by rw [decide_eq_false hc]; exact Bool.false_ne_true)]
  exact h
theorem iteND {c A B : Prop} [Decidable c] (hc : c) (h : B) : if (!decide c) = true then A else B := by
  rw [decide_eq_true hc]
  exact iteF h
theorem iteNDN {c A B : Prop} [Decidable c] (hc : ¬ c) (h : A) : if (!decide c) = true then A else B := by
  rw [decide_eq_false hc]
  exact iteT h
theorem yesT {σ : L2.St} {H : Hp} {Q : Bool → Hp → Prop} (h : Q true H) : tYes σ H Q := h
theorem Paired.get {α β : Type} {R : α → β → Prop} : ∀ {l : List α} {r : List β} {i : Nat} {a : α}, Paired R l r → l[i]? = some a → ∃ b, r[i]? = some b ∧ R a b
  | _, _, _, _, .nil, e => by simp at e
  | _, _, 0, _, .cons h _, e => by simp at e; subst e; exact ⟨_, rfl, h⟩
  | _, _, i + 1, _, .cons _ t, e => by
    obtain ⟨b, h1, h2⟩ := Paired.get (i := i) t (by simpa using e)
    exact ⟨b, by simpa using h1, h2⟩
theorem Paired.append {α β : Type} {R : α → β → Prop} : ∀ {l l' : List α} {r r' : List β}, Paired R l r → Paired R l' r' → Paired R (l ++ l') (r ++ r')
  | _, _, _, _, .nil, h => h
  | _, _, _, _, .cons a t, h => .cons a (Paired.append t h)
def OrdsAt (K : PySem.W.Frag) (H : Hp) (as : List Addr) (os : List Ordr) : Prop := Paired (OrdAt K H) as os
theorem OrdsAt.mono {K : PySem.W.Frag} {H H' : Hp} {as : List Addr} {os : List Ordr} (h : OrdsAt K H as os) (e : Same H H') : OrdsAt K H' as os := PySem.Paired.mono (fun _ _ q => OrdAt.mono q e) h
structure Good (os : List Ordr) : Prop where
  len : os.length ≤ 30
  ok : ∀ o ∈ os, o.Ok
  apart : os.Pairwise fun o p => overB o p = false
def BookAt (K : PySem.W.Frag) (C : Addr) (H : Hp) (p : Addr) (os : List Ordr) : Prop :=
  ∃ dx t as, H p = some (.ins C dx [("listed", .ref t)]) ∧ SqT K H t (as.map V.ref) ∧ OrdsAt K H as os
theorem BookAt.mono {K : PySem.W.Frag} {C : Addr} {H H' : Hp} {p : Addr} {os : List Ordr} (h : BookAt K C H p os) (e : Same H H') : BookAt K C H' p os := by
  obtain ⟨dx, t, as, h1, h2, h3⟩ := h
  exact ⟨dx, t, as, e _ _ h1, MF.Same.tup e h2, h3.mono e⟩
theorem cut_take (xs : List V) (i : Nat) (h : i ≤ xs.length) : cutV xs none (some (i : Int)) = xs.take i := by
  unfold cutV
  rw [HT.sIx_none, HT.sIx_nat, Nat.min_eq_left h]
  simp
theorem ix_listK {X : Cx} {K : PySem.W.Frag} (h : X.K = K := by rfl) : IxR X (rIxL K) := h ▸ ix_list
theorem ix_seqK {X : Cx} {K : PySem.W.Frag} (h : X.K = K := by rfl) : IxR X (rIx K) := h ▸ ix_seq
theorem ix_tupK {X : Cx} {K : PySem.W.Frag} (h : X.K = K := by rfl) : IxR X (rIxT K) := h ▸ ix_tup
theorem pe_fldK {X : Cx} {K : PySem.W.Frag} {e : Expr} {ta : TE} {f : Str} {pos : Pos} (he : PE X e ta) (hb : attributeBase e f X.env (eval e X.env) = eval e X.env) (h : X.K = K := by rfl) : PE X (.Attribute e f pos) (tFld K ta f) := h ▸ pe_fld he hb
def spIsInteger : Sp := fun vs H Q _ => ∃ v lo hi, vs = [v, .int lo, .int hi] ∧ notSeq v = true ∧ Q (.bl (isIntB v lo hi)) H
def shortV : V → Prop
  | .str z => z.length ≤ sizeLine
  | _ => True
def spIsAddress : Sp := fun vs H Q _ => ∃ v, vs = [v] ∧ notSeq v = true ∧ shortV v ∧ ∀ H', Same H H' → Q (.bl (isAddrB v)) H'
def spOverlap (K : PySem.W.Frag) : Sp := fun vs H Q _ => ∃ a b o p, vs = [.ref a, .ref b] ∧ OrdAt K H a o ∧ OrdAt K H b p ∧ Q (.bl (overB o p)) H
def spIsOrder (K : PySem.W.Frag) : Sp := fun vs H Q _ => ∃ v b, vs = [v] ∧ ((∃ a xs, v = .ref a ∧ SqT K H a xs ∧ (∀ x ∈ xs, notSeq x = true ∧ shortV x) ∧ b = isOrdB xs) ∨ (∃ a xs, v = .ref a ∧ SqL K H a xs ∧ b = false) ∨ (notSeq v = true ∧ b = false)) ∧ ∀ H', Same H H' → Q (.bl b) H'
end MF
set_option Elab.async false
set_option linter.all false
namespace MF
open PySem PySem.Spec PyProof.Rows L2 StX
theorem newS {H H2 : Hp} {q : Addr} {o : HO} (h : H q = none) (e : L2.upd H q o = H2) : Same H H2 ∧ H2 q = some o := by
  subst e
  exact ⟨Same.new h, upd_same⟩
end MF
set_option Elab.async false
set_option linter.all false
set_option maxRecDepth 100000
set_option maxHeartbeats 2000000
namespace MF
open PySem PySem.Spec PyProof.Rows L2 StX ClX
theorem passE {P : Program} {w : World} {K : PySem.W.Frag} {mg : Str → Option Value} {base : Heap} {N : List Str} {q : Str} {sc : Scope} {f : Addr} {cdv : Value} {A : Around} {outer : List Env} {s : Shared} {H : Hp} {E : XK} :
    Passes (L2.CX P w) (cxOf (L2.CX P w) P w K mg base N q sc f cdv A outer s H E) E := passes_call (W := fun cls d _ H => E cls d H) (takes_of rfl rfl rfl rfl) fun _ _ _ _ h => h
theorem takeE {P : Program} {w : World} {K : PySem.W.Frag} {mg : Str → Option Value} {base : Heap} {N : List Str} {q : Str} {sc : Scope} {f : Addr} {cdv : Value} {A : Around} {outer : List Env} {s : Shared} {H : Hp} {E : XK} :
    Takes (cxOf (L2.CX P w) P w K mg base N q sc f cdv A outer s H E) (fun cls d _ H => E cls d H) := takes_of rfl rfl rfl rfl
def txtOf : V → Str
  | .str y => y
  | .int i => toString i
  | .bl b => if b then "True" else "False"
  | _ => "None"
def FmtOk : V → Prop
  | .str y => y.length ≤ 1000
  | .int i => i.natAbs.log2 < 1920
  | .bl _ => True
  | .non => True
  | _ => False
def tFmtV (te : TE) : TE := fun σ H Q => te σ H fun x H1 => FmtOk x ∧ ∀ y : Str, y.length ≤ 100000 → Q (.str y) H1
theorem int_len (i : Int) (h : i.natAbs.log2 < 1920) : (Str.ofString (toString i)).length ≤ 100000 := by
  have e := int_text_length_le (k := 1920) (by decide) h
  rw [PySem.ofString_length]
  omega
section
variable {X : Cx}
theorem pe_fmtV {e : Expr} {te : TE} {pos : Pos} (he : PE X e te) : PE X (.FormattedValue e (-1) none pos) (tFmtV te) := by
  refine ⟨fun pins s σ H Q I h => ?_⟩
  refine wpAny_FormattedValue_plain (thn (he.run pins s σ H _ I h) fun v s1 hv => ?_)
  obtain ⟨x, H1, I1, r1, hx, q⟩ := hv
  cases x with
  | str y =>
    obtain ⟨t, rfl⟩ := r1
    have hz : y.length ≤ 1000 := hx
    have hz2 : y.length ≤ sizeLine := Nat.le_trans hz (by rw [sizeLine_eq]; omega)
    exact wpAny_formatField_str ⟨.str y, H1, I1, ⟨t, rfl⟩, q y (by omega)⟩ ⟨.str y, H1, I1.tok _, ⟨_, rfl⟩, q y (by omega)⟩ hz2
  | int i =>
    obtain ⟨t, rfl⟩ := r1
    exact wpAny_formatField_int hx ⟨.str (toString i), H1, I1.tok _, ⟨_, rfl⟩, q _ (int_len i hx)⟩
  | bl b =>
    obtain rfl : v = Value.bool b := r1
    refine wpAny_formatField_bool ⟨.str (if b then "True" else "False"), H1, I1.tok _, ⟨_, rfl⟩, q _ ?_⟩
    cases b <;> decide +kernel
  | non =>
    obtain rfl : v = Value.none := r1
    exact wpAny_formatField_none ⟨.str "None", H1, I1.tok _, ⟨_, rfl⟩, q _ (by decide +kernel)⟩
  | _ => exact hx.elim
structure BaseC (K : PySem.W.Frag) (B : Addr) : Prop where
  ex : ∃ mc, CRead K B mc ∧ PySem.W.findCls K (.ref B) mc "__init__" = some (.val (.builtin "ValueError.__init__"))
theorem pe_binit {pl : Sem Bool} {B : Addr} {x : Str} {e : Expr} {es : List Expr} {ta : TA} {p1 p2 pos : Pos} (hg : Gl X x) (hm : X.mg x = some (.ref B)) (b : BaseC X.K B) (ha : PA X (e :: es) ta) (hdb : (x == ("__debug__" : Str)) = false := by decide)
    (hc : eval (.Call (.Attribute (.Name x p1) "__init__" p2) (e :: es) [] pos) X.env = (do
      let ov ← eval (.Name x p1) X.env
      standAt p2.atName
      let (f, first) ← holding [ov] (getMethod ov "__init__" pl)
      callWith pos f first (backTo pos (starEach (e :: es) X.env)) (backToKw pos (keywordEach [] X.env))) := by rfl)
    (he : starEach (e :: es) X.env = (false, eval e X.env) :: starEach es X.env := by rfl) (hpl : (backTo pos (starEach es X.env)).any (·.1) = false := by rfl) :
    PE X (.Call (.Attribute (.Name x p1) "__init__" p2) (e :: es) [] pos) (tVeI X.K ta) := by
  refine ⟨fun pins s σ H Q I h => ?_⟩
  obtain ⟨mc, r, f0⟩ := b.ex
  refine PySem.W.methodCall_KW (ld_glob I hg hm ?_ hdb) hc
  refine PySem.W.method_cls I.kIn r.ga (PySem.W.cls_value I.kIn r.rd f0 rfl ?_)
  show wpAny _ _ (callWith pos (Value.builtin "ValueError.__init__") [] (backTo pos (starEach (e :: es) X.env)) []) _ _ _
  refine PyProof.Rows.callWith_method1 (thn (ha.run pos pins _ σ H _ (I.tok _) h) fun us s1 ⟨vs, H1, I1, r1, a, C, ws, ev, hl, T, ea, q⟩ => ?_) he hpl
  subst ev
  cases r1 with
  | @cons _ u0 _ ur ra rw' =>
    obtain rfl : u0 = Value.ref a := ra
    have hlen : ur.length ≤ sizeLine := by
      rw [← Paired.length rw', sizeLine_eq]
      omega
    exact oinit_ok T I1 ea hlen fun s' J => ⟨.non, H1, J, rfl, q⟩
end
structure EDef0 (K : PySem.W.Frag) (mg : Str → Option Value) (C : Addr) (x : Str) : Prop where
  bm : PySem.W.excIn K C [.type "ValueError", .type "Exception", .type "BaseException", .type "object"] "ValueError.__new__" = true
  gC : mg x = some (.ref C)
  kC : PySem.W.keepIn K (.ref C) = true
  exC : PySem.W.subIn K (.ref C) (.type "BaseException") = some true
  tyC : PySem.W.typeIn K (.ref C) = some (.type "type")
theorem pmk_0 {X : Cx} {C : Addr} {x : Str} {e : Expr} {es : List Expr} {t : TA} {p pos : Pos} (D : EDef0 X.K X.mg C x) (ha : PA X (e :: es) t) (hg : Gl X x := by rfl) (hdb : (x == ("__debug__" : Str)) = false := by decide)
    (he : starEach (e :: es) X.env = (false, eval e X.env) :: starEach es X.env := by rfl) (hpl : (backTo pos (starEach es X.env)).any (·.1) = false := by rfl) :
    PMk X (.Call (.Name x p) (e :: es) [] pos) (fun σ H Q => t σ H fun vs H1 => vs.length ≤ sizeLine ∧ Q (.ref C) none H1) :=
  pmk_ownA F.excBase_ValueError D.bm D.gC D.kC (raises_own D.exC D.tyC) hg ha hdb he hpl
structure EDef (K : PySem.W.Frag) (mg : Str → Option Value) (C : Addr) (x qual : Str) (st : Stmt) (ps : List Str) : Prop where
  ex : ∃ f fd, Fun K "__init__" qual st f fd ∧ PySem.W.findIn K (.ref C) "__init__" = some (some (.ref f)) ∧ PySem.W.typeIn K (.ref f) = some (.type "function") ∧ Binds K fd ps []
  ox : OexC K C
  gC : mg x = some (.ref C)
structure EFn (P : Program) (w : World) (K : PySem.W.Frag) (mg : Str → Option Value) (base : Heap) (CX : CXT) (k : Nat) (C : Addr) (x : Str) (ps : List Str) (sp : Sp) : Prop where
  ex : ∃ f fd, FnOk P w K mg base CX k f fd ps sp ∧ PySem.W.findIn K (.ref C) "__init__" = some (some (.ref f)) ∧ PySem.W.typeIn K (.ref f) = some (.type "function") ∧ Binds K fd ps []
  ox : OexC K C
  gC : mg x = some (.ref C)
theorem EDef.fn {P : Program} {w : World} {K : PySem.W.Frag} {mg : Str → Option Value} {base : Heap} {CX : CXT} {k : Nat} {C : Addr} {x qual : Str} {st : Stmt} {ps : List Str} {sp : Sp} (D : EDef K mg C x qual st ps) (h : ∀ f fd, Fun K "__init__" qual st f fd → FnOk P w K mg base CX k f fd ps sp) : EFn P w K mg base CX k C x ps sp :=
  let ⟨f, fd, a, b, c, d⟩ := D.ex
  ⟨⟨f, fd, h f fd a, b, c, d⟩, D.ox, D.gC⟩
def spE1 (K : PySem.W.Frag) (C : Addr) (n : Str) : Sp := fun vs H Q _ => ∃ a v, vs = [.ref a, v] ∧ FmtOk v ∧ H a = some (exo a C none) ∧ ∀ dx, H dx = none → dx ≠ a → Q .non (upd (upd H dx (exd dx [(n, v)])) a (exo a C (some dx)))
theorem pmk_1 {X : Cx} {k : Nat} {C : Addr} {x : Str} {ps : List Str} {sp : Sp} {e : Expr} {es : List Expr} {t : TA} {p pos : Pos} (D : EFn X.prog X.w X.K X.mg X.base CX0 k C x ps sp) (hr : Room (k + 1) X.A) (ha : PA X (e :: es) t) (hg : Gl X x := by rfl) (hdb : (x == ("__debug__" : Str)) = false := by decide)
    (he : starEach (e :: es) X.env = (false, eval e X.env) :: starEach es X.env := by rfl) (hpl : (backTo pos (starEach es X.env)).any (·.1) = false := by rfl) :
    PMk X (.Call (.Name x p) (e :: es) [] pos) (tMkO C sp [] t) := by
  obtain ⟨f, fd, F1, b, c, d⟩ := D.ex
  exact pmk_oex (p := p) (pos := pos) (dvs := []) (ds := []) D.ox b c F1 hr d .nil pass0 hg D.gC ha hdb he hpl
theorem e1_fin {K : PySem.W.Frag} {C : Addr} {n : Str} {v : V} {H1 : Hp} {Q : XK} (hf : FmtOk v) (h : ∀ d H3, Same H1 H3 → H1 d = none → H3 d = some (.xd [(n, v)]) → Q (.ref C) (some d) H3) :
    [v].length ≤ 1000 ∧ ∀ a, H1 a = none → spE1 K C n (.ref a :: ([v] ++ [])) (upd H1 a (exo a C none))
      (fun v H2 => v = .non ∧ ∃ (d : Addr) (fs : List (Str × V)), H2 a = some (exo a C (some d)) ∧ H2 d = some (exd d fs) ∧ H1 d = none ∧ Q (.ref C) (some d) (upd (del H2 a) d (.xd fs))) (fun _ _ _ => False) := by
  refine ⟨by simp, fun a ha => ⟨a, v, rfl, hf, upd_same, fun dx hd ne => ⟨rfl, dx, [(n, v)], upd_same, ?_, ?_, ?_⟩⟩⟩
  · rw [upd_ne ne, upd_same]
  · rw [upd_ne ne] at hd
    exact hd
  · have hd1 : H1 dx = none := by
      rw [upd_ne ne] at hd
      exact hd
    refine h dx _ (fun b u e => ?_) hd1 upd_same
    rw [upd_ne (ne_of_none e hd1), del_ne (ne_of_none e ha), upd_ne (ne_of_none e ha), upd_ne (ne_of_none e hd1), upd_ne (ne_of_none e ha)]
    exact e
end MF
namespace PySem.W
open PySem PySem.Spec PySem.Calls PyProof.Rows
section
variable {prog : Program} {w : World} {A : Around} {E : Value → Shared → Prop} {s : Shared} {K : Frag} {x D : Addr} {ox : Obj} {od : Option Obj}
theorem mf_findObj {C : Addr} {name : Str} {a g : Value} (hc : (clsIn K C).isSome = true) (ha : findIn K (.ref C) name = some (some a)) (hg : specialIn K a "__get__" = some (some g)) (ht : takesIn K a = some true) : findObj K C od name = some (.bind g a) := by
  cases od with
  | none => exact findObj_dataN hc ha hg ht
  | some od => exact findObj_data hc ha hg ht
theorem mf_classE {Q : Option Value → Shared → Prop} (hga : findIn K (.ref D) "__getattribute__" = some (some (.builtin "BaseException.__getattribute__"))) (hgt : findIn K (.ref D) "__getattr__" = some none) (hsub : subIn K (.ref D) (.type "BaseException") = some true)
    (hdct : hasDictIn K D = true) (ha : findIn K (.ref D) "__class__" = some (some (.builtin "object.__class__")))
    (hn : specialIn K (.builtin "object.__class__") "__get__" = some (some (.builtin "getset_descriptor.__get__"))) (htk : takesIn K (.builtin "object.__class__") = some true) (hm : mroIn K D (.type "object") = some true)
    (X : K.In s.heap) (I : InstAt s.heap x ox D od) (h : Q (some (.ref D)) { s with toks := s.toks + 1 }) : wpAny (model prog w) A (getAttr? (.ref x) "__class__") Q E s := by
  have hf : findObj K D od "__class__" = some (.bind (.builtin "getset_descriptor.__get__") (.builtin "object.__class__")) := mf_findObj (by obtain ⟨cd, hc, _⟩ := any_some hdct; rw [hc]; rfl) ha hn htk
  obtain ⟨hp, g, d, t, os⟩ := s
  have L0 := I.type (M := model prog w)
  have L1 := looks_findIn (M := model prog w) X hga
  have L2 := looks_findIn (M := model prog w) X hgt
  have L3 := looks_find (M := model prog w) X I hf
  have sub : Looks (model prog w) hp (isInstance (.ref x) (.type "BaseException")) true := L0.andThen (looks_subIn X hsub)
  have hx0 : (false && onTheHeap (Value.builtin "BaseException.__getattribute__")) = false := rfl
  have hx2 : (Value.builtin "BaseException.__getattribute__" == Value.builtin "object.__getattribute__") = false := by decide +kernel
  have hx1 : (onTheHeap (Value.ref D) && Value.builtin "BaseException.__getattribute__" == Value.builtin "object.__getattribute__") = false := by rw [hx2]; rfl
  unfold getAttr? getAttrBy? getAttrBy
  refine wpAny_bind (wpAny_mkText (wpAny_bind (wpAny_attempt (wpAny_holding (wpAny_bind (L0.at (wpAny_bind (L1.at ?_))))))))
  show wpAny _ _ (if (onTheHeap (Value.ref D) && Value.builtin "BaseException.__getattribute__" == Value.builtin "object.__getattribute__") = true then _ else _) _ _ _
  rw [hx1, if_neg Bool.false_ne_true]
  unfold getAttrByItsOwn hookBefore
  refine wpAny_bind ?_
  rw [if_pos (show onTheHeap (Value.ref D) = true from rfl)]
  refine L2.at ?_
  refine wpAny_bind (wpAny_attempt (wpAny_holding ?_))
  unfold callGetattribute
  rw [hx0, if_neg Bool.false_ne_true]
  unfold boundAndCalled
  rw [PySem.F.excAttr_ValueError.ga.bind (.ref x)]
  refine wpAny_bind (wpAny_pure ?_)
  show wpAny _ _ (call (.builtin "BaseException.__getattribute__") [.ref x, .str "__class__" t]) _ _ _
  refine wpAny_call (codeAny_call_builtin PySem.F.excAttr_ValueError.ga.plain PySem.F.entry_bexc_ga ?_)
  refine @check_slot (model prog w) _ _ ⟨hp, g, d, t + 1, os⟩ "BaseException.__getattribute__" "BaseException" "__getattribute__" (.ref x) [.str "__class__" t] [] _ (by decide +kernel) (by decide +kernel) sub (PySem.F.args_bexc_ga (.ref x) (.str "__class__" t)) ?_
  unfold Builtin.«object.__getattribute__»
  refine wpAny_bind (wpAny_of_eq (a := ((Value.ref x : Value), [Value.str "__class__" t])) (by first | rfl | (simp only [slotArgs]; rfl)) ?_)
  refine wpAny_bind (wpAny_pure (wpAny_bind (L0.at (wpAny_bind (L3.at ?_)))))
  show wpAny _ _ (holding [Value.builtin "object.__class__"] (call (.builtin "getset_descriptor.__get__") [.builtin "object.__class__", .ref x, .ref D]) >>= ret) _ _ _
  refine wpAny_bind (wpAny_holding (wpAny_call (class_get (s := ⟨hp, g, d, t + 1, os⟩) (ox := ox) (od := od) X I hm ?_)))
  refine wpAny_pure ?_
  show wpAny _ _ (handedOut (.ref D)) _ _ _
  rw [handedOut_of (v := .ref D) rfl]
  first
    | exact wpAny_pure (wpAny_pure h)
    | exact wpAny_pure h
    | exact wpAny_pure (wpAny_bind (wpAny_pure (wpAny_pure h)))
theorem mf_kitx (hga : findIn K (.ref D) "__getattribute__" = some (some (.builtin "BaseException.__getattribute__"))) (hgt : findIn K (.ref D) "__getattr__" = some none) (hsub : subIn K (.ref D) (.type "BaseException") = some true) (hdct : hasDictIn K D = true) (ha : findIn K (.ref D) "__class__" = some (some (.builtin "object.__class__")))
    (hn : specialIn K (.builtin "object.__class__") "__get__" = some (some (.builtin "getset_descriptor.__get__"))) (htk : takesIn K (.builtin "object.__class__") = some true) (hm : mroIn K D (.type "object") = some true) :
    KitX K (.ref x) (.ref D) (fun h => InstAt h x ox D od) where
  ty := fun _ _ _ I => I.type
  it := fun _ _ X _ => by
    obtain ⟨cdD, hcD, _⟩ := any_some hdct
    unfold clsIn at hcD
    split at hcD
    · rename_i c' d' cd' sl' ho
      intro A' Q' E' s' k q
      unfold isType loadHead
      exact wpAny_bind (wpAny_loadPart (k _ _ (X _ _ ho)) (wpAny_pure q))
    · cases hcD
  ne := fun h tp dd its n sl X htp => by
    obtain ⟨cdD, hcD, _⟩ := any_some hdct
    refine Bool.eq_false_iff.mpr fun q => ?_
    have e : D = tp := Value.ref.inj (beq_iff_eq.mp q)
    subst e
    unfold clsIn at hcD
    split at hcD
    · rename_i c' d' cd' sl' ho
      have z := (X _ _ ho).symm.trans htp
      cases z
    · cases hcD
  ca := fun X I k => mf_classE hga hgt hsub hdct ha hn htk hm X I k
end
end PySem.W
namespace MF
open PySem PySem.Spec PyProof.Rows L2 StX ClX
def DictSt (H : Hp) (d : Option Addr) : Prop := ∀ dd, d = some dd → ∃ fs : List (Str × V), H dd = some (.xd fs)
def rIsX (K : PySem.W.Frag) (D a : Addr) (d : Option Addr) : List V → Hp → VK → Prop := fun xs H Q => ∃ (c : V) (cv : Value) (b : Bool), xs = [.ref a, c] ∧ (∀ u, RelV c u → u = cv) ∧ PySem.W.kitOne K (.ref D) cv = some b ∧ DictSt H d ∧ Q (.bl b) H
theorem call_isX {X : Cx} {a D : Addr} {d : Option Addr} {oe : Obj} {pn : List (Addr × Obj)} (C : ExcC X.K D) (hz : Zc (.ref D) d oe) (hf : ∃ vs, oe.data = .fields vs) : CallR (X.suite a ((a, oe) :: pn)) (.builtin "isinstance") (rIsX X.K D a d) := by
  intro pins s σ H xs us Q I r h
  obtain ⟨c, cv, b, rfl, hcv, e, hd, q⟩ := h
  cases r with
  | cons rx rr =>
    cases rr with
    | cons rt rr =>
      cases rr
      cases rx
      have ec := hcv _ rt
      subst ec
      obtain ⟨hget, _⟩ := I.pin (a, oe) (List.mem_append.mpr (.inl List.mem_cons_self))
      obtain ⟨vs, hv⟩ := hf
      have J : ∃ od, PySem.W.InstAt s.heap a oe D od := by
        cases d with
        | none =>
          obtain ⟨oc, odd, oda, osl⟩ := oe
          obtain ⟨h1, h2⟩ := hz
          dsimp only at h1 h2 hv
          subst h1 h2 hv
          exact ⟨none, hget, rfl, rfl, trivial⟩
        | some dd =>
          obtain ⟨fs, hx⟩ := hd dd rfl
          have hx' : ObjOk X.prog X.w H s.heap dd (.xd fs) := I.hok dd _ hx
          obtain ⟨mA, hns, hr⟩ := hx'
          obtain ⟨od, ho, hl⟩ := lookIn_ns hns
          exact ⟨some od, hget, hz.1, by unfold PySem.W.notCls; rw [hv] <;> rfl, by rw [hz.2]; exact ho⟩
      obtain ⟨od, J⟩ := J
      exact PySem.W.kia_one (PySem.W.mf_kitx C.hg C.hk C.hs C.hd C.ha C.hn C.ht C.hm) I.kIn J e (fun z => nomatch z) fun tk => ⟨.bl b, H, I.kept (t' := tk) fun _ _ z => z, rfl, q⟩
end MF
set_option Elab.async false
set_option linter.all false
set_option maxRecDepth 100000
set_option maxHeartbeats 2000000
namespace MF
open PySem PySem.Spec PyProof.Rows L2 StX LamX
abbrev lamFd (q : Str) (params : Arguments) (body : Expr) (scope : Scope) (cl : List (Str × Addr)) (dV doc pm cv ctv : Value) : FuncData := PySem.W.kdv_fn "<lambda>" q params (.expr body) scope cl dV doc pm cv ctv
def LamO (f : Addr) (q : Str) (params : Arguments) (body : Expr) (scope : Scope) (cl : List (Str × Addr)) (dV : Value) (c' : Addr) : HO :=
  .ext fun h => ∃ doc pm ctv : Value, h.get? f = some { cls := .type "function", data := .func (lamFd q params body scope cl dV doc pm (.ref c') ctv) }
def DfO (T : Addr) : HO := .ext fun h => ∃ u : Value, h.get? T = some (PySem.W.kdv_tup [u])
section
variable {P : Program} {w : World} {H : Hp} {h : Heap} {f c' T : Addr} {q : Str} {params : Arguments} {body : Expr} {scope : Scope} {cl : List (Str × Addr)} {dV doc pm ctv u : Value}
theorem lamO_ok (e : h.get? f = some { cls := .type "function", data := .func (lamFd q params body scope cl dV doc pm (.ref c') ctv) }) : ObjOk P w H h f (LamO f q params body scope cl dV c') :=
  ⟨⟨doc, pm, ctv, e⟩, ⟨_, e⟩, fun h1 h2 z k => by
    obtain ⟨d, p, t, a⟩ := z
    exact ⟨d, p, t, k _ a⟩⟩
theorem lamO_ne (ps : Array Value) : LamO f q params body scope cl dV c' ≠ .tbl ps := fun z => by
  unfold LamO at z
  cases z
theorem lamO_at (hok : HOk P w H h) (e : H f = some (LamO f q params body scope cl dV c')) : ∃ doc pm ctv : Value, h.get? f = some { cls := .type "function", data := .func (lamFd q params body scope cl dV doc pm (.ref c') ctv) } := by
  have x : ObjOk P w H h f (LamO f q params body scope cl dV c') := hok f _ e
  exact x.1
theorem dfO_ok (e : h.get? T = some (PySem.W.kdv_tup [u])) : ObjOk P w H h T (DfO T) :=
  ⟨⟨u, e⟩, ⟨_, e⟩, fun h1 h2 z k => by
    obtain ⟨v, a⟩ := z
    exact ⟨v, k _ a⟩⟩
theorem dfO_at (hok : HOk P w H h) (e : H T = some (DfO T)) : ∃ u : Value, h.get? T = some (PySem.W.kdv_tup [u]) := by
  have x : ObjOk P w H h T (DfO T) := hok T _ e
  exact x.1
end
def DflAt (dx : Option Str) (dV : Value) (H : Hp) : Prop := match dx with
  | none => dV = .none
  | some _ => ∃ T, dV = .ref T ∧ H T = some (DfO T)
theorem DflAt.keep {dx : Option Str} {dV : Value} {H H' : Hp} (h : DflAt dx dV H) (e : ∀ b φ, H b = some (.ext φ) → H' b = some (.ext φ)) : DflAt dx dV H' := by
  cases dx with
  | none => exact h
  | some x =>
    obtain ⟨T, e1, e2⟩ := h
    exact ⟨T, e1, e _ _ e2⟩
theorem DflAt.extN {dx : Option Str} {dV : Value} {H H' : Hp} (h : DflAt dx dV H) (e : ExtN H H') : DflAt dx dV H' := h.keep fun b φ z => e _ _ z fun ps y => by cases y
section
variable {X : Cx} {pins : List (Addr × Obj)} {σ : L2.St} {H : Hp} {s : Shared}
theorem lam_tailO {dx : Option Str} {dV : Value} {T : List (Addr × Str)} {c P : Addr} {params : Arguments} {body : Expr} {scope : Scope} {pos : Pos} {E : Value → Shared → Prop} {Q : Value → Shared → Prop} (I : Inv X pins σ H s) (TB : TabB X.base X.mg c P) (hcode : X.env.code = .ref c)
    (hm : (P, X.env.qual ++ "<lambda>") ∈ T) (hu : ∀ p ∈ T, p.1 = P → p.2 = X.env.qual ++ "<lambda>") (hT : Tabs T H) (hfree : ∀ y ∈ scope.names, y.2 = .free → ∃ c, X.env.cells.lookup y.1 = some c) (hD : DflAt dx dV H)
    (h : ∀ (f c' : Addr) (H1 : Hp) (s' : Shared), Inv X pins σ H1 s' → ExtN H H1 → Tabs T H1 → H f = none → H1 f = some (LamO f (X.env.qual ++ "<lambda>") params body scope (cloFrom X.env.cells scope.names []) dV c') → DflAt dx dV H1 → H1 c' = some (CodeO c' (X.env.qual ++ "<lambda>")) → Q (.ref f) s') :
    wpAny (model X.prog X.w) X.A (makeTail "<lambda>" (X.env.qual ++ "<lambda>") params (.expr body) scope X.env dV .none none pos pos.line) Q E s := by
  obtain ⟨ps, hP, ht, ha⟩ := hT _ hm
  have bP : s.heap.BuiltinsAt X.mg P := TB.bm.keeps I.bk
  have hP' : s.heap.get? P = some { cls := .none, data := .fields ps } := I.hok P _ hP
  have step : ∀ (h' : Heap) (tk : Nat) (H1 : Hp) (c' : Addr) (doc ctv : Value), Inv X pins σ H1 { s with heap := h', toks := tk } → s.heap.objs.size ≤ h'.objs.size → ExtN H H1 → Tabs T H1 → H1 c' = some (CodeO c' (X.env.qual ++ "<lambda>")) →
      Q (.ref h'.objs.size) { s with heap := h'.push (PySem.W.kdv_obj "<lambda>" (X.env.qual ++ "<lambda>") params (.expr body) scope (cloFrom X.env.cells scope.names []) dV doc ((X.mg "__name__").getD .none) c' ctv), toks := tk } := by
    intro h' tk H1 c' doc ctv I1 hsz eN T1 hc
    have n1 : H1 h'.objs.size = none := I1.hok.fresh (Nat.le_refl _)
    have J := I1.laid (t' := tk) (a := h'.objs.size) (h' := h'.push (PySem.W.kdv_obj "<lambda>" (X.env.qual ++ "<lambda>") params (.expr body) scope (cloFrom X.env.cells scope.names []) dV doc ((X.mg "__name__").getD .none) c' ctv)) (o := LamO h'.objs.size (X.env.qual ++ "<lambda>") params body scope (cloFrom X.env.cells scope.names []) dV c')
      (fun b o e => Heap.get?_push_of_some _ e) (Nat.le_refl _) (lamO_ok (Heap.get?_push_size _ rfl))
    have e2 : ExtN H1 (upd H1 h'.objs.size (LamO h'.objs.size (X.env.qual ++ "<lambda>") params body scope (cloFrom X.env.cells scope.names []) dV c')) := ExtN.of fun b o e => by rw [upd_ne (ne_of_none e n1)]; exact e
    refine h h'.objs.size c' _ _ J (eN.trans e2) (T1.ext fun b o e => by rw [upd_ne (ne_of_none e n1)]; exact e) (I.hok.fresh hsz) upd_same ((hD.extN eN).extN e2) (by rw [upd_ne (ne_of_none hc n1)]; exact hc)
  cases hc : codeAmong pos ps.toList with
  | none =>
    refine PySem.W.kdv_makeTail (mg := X.mg) (c := c) (P := P) (ps := ps) (closure_ok hfree) I.ok.glob (I.mod.glob.keeps I.bk) hcode (TB.code.keeps I.bk) hP' ht hc TB.gP bP fun c' ctv doc h' tk hx hge hlt hrec htb => ?_
    obtain ⟨c2, oc, vs, t, e2, hoc, hd, hv⟩ := hrec
    cases e2
    have nC : H c' = none := I.hok.fresh hge
    have I1 := inv_table (t' := tk) (q := X.env.qual ++ "<lambda>") (more := #[rawInt pos.line, rawInt pos.col, .ref c']) (h' := h') I hP (fun b o hb e => hx b o hb e) htb hge ⟨oc, vs, t, hoc, hd, hv⟩
    have hE : ExtN H (upd (upd H P (.tbl (ps ++ #[rawInt pos.line, rawInt pos.col, .ref c']))) c' (CodeO c' (X.env.qual ++ "<lambda>"))) := fun b o e n => by
      rw [upd_ne (ne_of_none e nC), upd_ne (fun z => n ps (Option.some.inj (e.symm.trans (by rw [z]; exact hP))))]
      exact e
    have eL : (ps ++ #[rawInt pos.line, rawInt pos.col, .ref c']).toList = ps.toList ++ [rawInt pos.line, rawInt pos.col, .ref c'] := by simp
    refine step h' tk _ c' doc ctv I1 (Nat.le_trans hge (Nat.le_of_lt hlt)) hE (fun p hp => ?_) upd_same
    by_cases hb : p.1 = P
    · rw [hu p hp hb, hb]
      refine ⟨_, by rw [upd_ne (ne_of_none hP nC), upd_same], by rw [eL]; exact PySem.TriplesOk_snoc _ _ _ _ ht, fun p' cv hcv => ?_⟩
      rw [eL] at hcv
      rcases among_app _ ht hcv with z | z
      · obtain ⟨c0, e1, e2⟩ := ha p' cv z
        exact ⟨c0, e1, hE _ _ e2 codeO_ne⟩
      · exact ⟨c', z, upd_same⟩
    · obtain ⟨ps', a1, a2, a3⟩ := hT p hp
      refine ⟨ps', by rw [upd_ne (ne_of_none a1 nC), upd_ne hb]; exact a1, a2, fun p' cv hcv => ?_⟩
      obtain ⟨c0, e1, e2⟩ := a3 p' cv hcv
      exact ⟨c0, e1, hE _ _ e2 codeO_ne⟩
  | some cv =>
    obtain ⟨c', e, hco⟩ := ha pos cv hc
    subst e
    refine PySem.W.kdv_makeTailHit (mg := X.mg) (c := c) (P := P) (ps := ps) (closure_ok hfree) I.ok.glob (I.mod.glob.keeps I.bk) hcode (TB.code.keeps I.bk) hP' ht hc bP fun ctv doc h' tk hx hsz => ?_
    exact step h' tk H c' doc ctv (I.kept (t' := tk) hx) hsz (ExtN.refl H) hT hco
theorem lam_makeO {T : List (Addr × Str)} {c P : Addr} {params : Arguments} {body : Expr} {scope : Scope} {pos : Pos} {E : Value → Shared → Prop} {Q : Value → Shared → Prop} (I : Inv X pins σ H s) (TB : TabB X.base X.mg c P) (hcode : X.env.code = .ref c)
    (hm : (P, X.env.qual ++ "<lambda>") ∈ T) (hu : ∀ p ∈ T, p.1 = P → p.2 = X.env.qual ++ "<lambda>") (hT : Tabs T H) (hdef : defaultsOf params X.env = ([], [])) (hfree : ∀ y ∈ scope.names, y.2 = .free → ∃ c, X.env.cells.lookup y.1 = some c)
    (h : ∀ (f c' : Addr) (H1 : Hp) (s' : Shared), Inv X pins σ H1 s' → ExtN H H1 → Tabs T H1 → H f = none → H1 f = some (LamO f (X.env.qual ++ "<lambda>") params body scope (cloFrom X.env.cells scope.names []) .none c') → H1 c' = some (CodeO c' (X.env.qual ++ "<lambda>")) → Q (.ref f) s') :
    wpAny (model X.prog X.w) X.A (eval (.Lambda params body scope pos) X.env) Q E s := by
  refine PySem.W.kla_eval hdef ?_
  rw [makeFunction_eq]
  simp only [List.zip_nil_right, List.filterMap_nil, List.isEmpty_nil, if_true, pure_bind]
  exact lam_tailO (dx := none) I TB hcode hm hu hT hfree rfl fun f c' H1 s' I1 eN T1 fn hf _ hc => h f c' H1 s' I1 eN T1 fn hf hc
theorem lam_makeD {x : Str} {T : List (Addr × Str)} {c P : Addr} {params : Arguments} {body : Expr} {scope : Scope} {pos p0 : Pos} {i0 : Int} {j0 : Nat} {E : Value → Shared → Prop} {Q : Value → Shared → Prop} (I : Inv X pins σ H s) (TB : TabB X.base X.mg c P) (hcode : X.env.code = .ref c)
    (hm : (P, X.env.qual ++ "<lambda>") ∈ T) (hu : ∀ p ∈ T, p.1 = P → p.2 = X.env.qual ++ "<lambda>") (hT : Tabs T H) (hdef : params.defaults = [.Constant (.int i0) j0 p0]) (hkw : params.kw_defaults = []) (hfree : ∀ y ∈ scope.names, y.2 = .free → ∃ c, X.env.cells.lookup y.1 = some c)
    (h : ∀ (f c' : Addr) (dV : Value) (H1 : Hp) (s' : Shared), Inv X pins σ H1 s' → ExtN H H1 → Tabs T H1 → H f = none → H1 f = some (LamO f (X.env.qual ++ "<lambda>") params body scope (cloFrom X.env.cells scope.names []) dV c') → DflAt (some x) dV H1 → H1 c' = some (CodeO c' (X.env.qual ++ "<lambda>")) → Q (.ref f) s') :
    wpAny (model X.prog X.w) X.A (eval (.Lambda params body scope pos) X.env) Q E s := by
  refine PySem.W.kdv_lam (by rw [hdef]; rfl) hkw ?_
  rw [hdef]
  refine PySem.W.kdv_all1 (wpAny_Constant_int (PySem.W.kdv_all0 ?_))
  rw [makeFunction_eq]
  simp only [List.zip_nil_right, List.filterMap_nil, List.isEmpty_nil, if_true, pure_bind, List.isEmpty_cons, Bool.false_eq_true, if_false]
  refine wpAny_bind (wpAny_newTextTuple ?_)
  have I0 := I.tok (s.toks + 1)
  have n1 : H s.heap.objs.size = none := I.hok.fresh (Nat.le_refl _)
  have sm : ∀ b o, H b = some o → upd H s.heap.objs.size (DfO s.heap.objs.size) b = some o := fun b o e => by rw [upd_ne (ne_of_none e n1)]; exact e
  refine lam_tailO (dx := some x) (H := upd H s.heap.objs.size (DfO s.heap.objs.size)) (I.laid (fun b o e => Heap.get?_push_of_some _ e) (Nat.le_refl _) (dfO_ok (Heap.get?_push_size _ rfl))) TB hcode hm hu (hT.ext sm) hfree ⟨_, rfl, upd_same⟩ fun f c' H1 s' I1 eN T1 fn hf hd hc => ?_
  refine h f c' _ H1 s' I1 ((ExtN.of sm).trans eN) T1 ?_ hf hd hc
  cases z : H f with
  | none => rfl
  | some o => rw [sm _ _ z] at fn; cases fn
end
structure LamSN (N : List Str) (sc scope : Scope) : Prop where
  kind : scope.kind = .function
  co : scope.isCoroutine = false
  gen : scope.isGenerator = false
  cell : ∀ y ∈ scope.names, y.2 ≠ .cell
  loc : ∀ y ∈ scope.names, y.2 = .local → y.1 ∉ N
  free : ∀ y ∈ scope.names, y.2 = .free → sc.names.lookup y.1 = some .cell ∨ sc.names.lookup y.1 = some .free
theorem lamSN_of {N : List Str} {sc scope : Scope} (L : LamS sc scope) : LamSN N sc scope := ⟨L.kind, L.co, L.gen, fun y hy => (L.own y hy).2, fun y hy e => absurd e (L.own y hy).1, L.free⟩
def lamSNB (N : List Str) (sc scope : Scope) : Bool :=
  decide (scope.kind = .function) && (!scope.isCoroutine && (!scope.isGenerator && scope.names.all fun y => match y.2 with
    | .cell => false
    | .local => !N.contains y.1
    | .free => decide (sc.names.lookup y.1 = some .cell) || decide (sc.names.lookup y.1 = some .free)
    | _ => true))
theorem lamSN_by {N : List Str} {sc scope : Scope} (h : lamSNB N sc scope = true) : LamSN N sc scope := by
  unfold lamSNB at h
  simp only [Bool.and_eq_true, Bool.not_eq_true', decide_eq_true_eq, List.all_eq_true] at h
  obtain ⟨h1, h2, h3, h4⟩ := h
  refine ⟨h1, h2, h3, fun y hy e => ?_, fun y hy e z => ?_, fun y hy e => ?_⟩ <;> have := h4 y hy <;> rw [e] at this
  · cases this
  · simp [z] at this
  · simpa using this
theorem LamSN.has {X : Cx} {N : List Str} {scope : Scope} (L : LamSN N X.env.scope scope) (ok : X.Ok) : ∀ y ∈ scope.names, y.2 = .free → ∃ c, X.env.cells.lookup y.1 = some c := fun y hy e => ok.has _ (L.free y hy e)
section
variable {X : Cx} {pins : List (Addr × Obj)} {σ : L2.St} {H HZ : Hp} {s s1 : Shared}
theorem lam_startN {A : Around} {outer : List Env} {E : XK} {scope : Scope} {f c' : Addr} {h₁ : Heap} {tk : Nat} {m : Str → Option Value} (I : Inv X pins σ H s) (L : LamSN X.N X.env.scope scope) (e0 : Env0 X.prog X.w X.K X.mg X.base A outer s1 HZ) (hd : A.handled = none)
    (un : Un (frs X.stack) [] H HZ s.heap s1.heap) (hns : h₁.Ns s1.heap.objs.size m) (kp : ∀ b o, s1.heap.get? b = some o → h₁.get? b = some o) :
    Inv (lamCx X A outer s1 HZ E scope f c') [] σ HZ { s1 with heap := h₁, toks := tk } := by
  have toMaker : ∀ {y c}, (cloFrom X.env.cells scope.names []).lookup y = some c → X.env.cells.lookup y = some c := fun {y c} e => by
    rcases cloFrom_mem (PySem.mem_of_lookup e) with z | ⟨h1, h2⟩
    · cases z
    · obtain ⟨c1, hc⟩ := L.has I.ok _ h1 rfl
      have hc : X.env.cells.lookup y = some c1 := hc
      have e2 : c = c1 := by
        rw [h2, hc] <;> rfl
      exact e2 ▸ hc
  have ofFree : ∀ {y}, scope.names.lookup y = some .free → ∃ c, (cloFrom X.env.cells scope.names []).lookup y = some c := fun {y} hl => mem_lookup (cloFrom_has (cells := X.env.cells) (acc := []) (PySem.mem_of_lookup hl))
  have notCell : ∀ {y : Str}, scope.names.lookup y ≠ some .cell := fun {y} z => L.cell _ (PySem.mem_of_lookup z) rfl
  have cellK : ∀ {c : Addr} {v : Option Value}, H c = none → s.heap.IsCell c v → h₁.IsCell c v := fun {c v} n ⟨o, ho, z⟩ => by
    obtain ⟨sl, q⟩ := un.any ho n (by simp)
    exact ⟨_, kp _ _ q, z⟩
  have noX : ∀ b : Addr, b ∉ (lamCx X A outer s1 HZ E scope f c').ex := fun b z => by
    have z : b ∈ ([] : List Addr) := z
    cases z
  have hasC : ∀ y, scope.names.lookup y = some .cell ∨ scope.names.lookup y = some .free → ∃ c, (cloFrom X.env.cells scope.names []).lookup y = some c := fun y hy => hy.elim (fun z => absurd z notCell) ofFree
  have okL : (lamCx X A outer s1 HZ E scope f c').Ok := ⟨e0.mod, L.kind, rfl, rfl, Nat.le_refl _, fun y z c e1 e2 => I.ok.inj y z c (toMaker e1) (toMaker e2), hasC, fun y c z _ => (by
      have z : false = true := z
      cases z), fun _ => hd, Around.frames_deeper e0.frames, .inr ⟨rfl, rfl⟩, fun b z => absurd z (noX b), e0.bs, e0.bsz, fun b _ _ => noX b, fun b z => absurd z (noX b), e0.funs, e0.frf⟩
  have seen : ∀ (i : Nat) (y : Str) (v : V), X.N[i]? = some y → σ[i]? = some (some v) → Vis scope y → ∃ u, RelV v u ∧ Look (lamEnv X scope s1.heap.objs.size f c') h₁ m y u := fun i y v e1 e2 e3 => by
    rcases e3 with k | k | k
    · exact absurd (List.mem_of_getElem? e1) (L.loc _ (PySem.mem_of_lookup k) rfl)
    · exact absurd k notCell
    · obtain ⟨m', _, hl⟩ := I.loc
      have fr := L.free _ (PySem.mem_of_lookup k) rfl
      obtain ⟨u, r, q⟩ := hl i y v e1 e2 (fr.elim (fun z => .inr (.inl z)) fun z => .inr (.inr z))
      obtain ⟨c2, h2⟩ := ofFree k
      refine ⟨u, r, .inr ⟨.inr k, c2, h2, ?_⟩⟩
      rcases q with ⟨k', _⟩ | ⟨_, c3, e', z⟩
      · have k' : X.env.scope.names.lookup y = some .local := k'
        have fr : X.env.scope.names.lookup y = some .cell ∨ X.env.scope.names.lookup y = some .free := fr
        rw [k'] at fr
        rcases fr with z | z <;> cases z
      · have c1 := toMaker h2
        rw [c1] at e'
        cases e'
        exact cellK (I.freeC y _ c1) z
  refine ⟨okL, rfl, e0.bare, Un.kept kp, ⟨m, hns, seen⟩, fun y c e => ?_, e0.hok.fresh (Nat.le_refl _), fun y c e => ?_, fun q hq => ?_, e0.hok.kept kp, I.len⟩
  · obtain ⟨u, z⟩ := I.cell y c (toMaker e)
    exact ⟨u, cellK (I.freeC y c (toMaker e)) z⟩
  · obtain ⟨v, o, ho, _⟩ := I.cell y c (toMaker e)
    exact un.free c o ho (I.freeC y c (toMaker e)) (by simp)
  · have hq : q ∈ ([] : List (Addr × Obj)) ++ [] := hq
    cases hq
end
def BindL (dx : Option Str) (params : Arguments) (body : Expr) (scope : Scope) : Prop := match dx with
  | none => ∀ (q : Str) (cl : List (Str × Addr)) (doc pm cv ctv : Value), bindArgs (lamFd q params body scope cl .none doc pm cv ctv) ⟨[], []⟩ = pure []
  | some x => scope.names.lookup x = some .local ∧ ∀ (q : Str) (cl : List (Str × Addr)) (T : Addr) (doc pm cv ctv : Value), ∃ k, bindArgs (lamFd q params body scope cl (.ref T) doc pm cv ctv) ⟨[], []⟩ = seqItems? (.ref T) >>= k ∧ ∀ u, k (some #[u]) = pure [(x, u)]
structure LamT (X : Cx) (k : Nat) where
  dx : Option Str
  params : Arguments
  body : Expr
  scope : Scope
  t : XK → TE
  L : LamSN X.N X.env.scope scope
  bind : BindL dx params body scope
  run : ∀ (A : Around) (outer : List Env) (s : Shared) (H : Hp) (E : XK) (f c' : Addr), Room k (A.deeper (lamEnv X scope s.heap.objs.size f c')) → PE (lamCx X A outer s H E scope f c') body (t E)
def LamAt (X : Cx) {k : Nat} (l : LamT X k) (H : Hp) (f : Addr) : Prop := ∃ (c' : Addr) (dV : Value), H f = some (LamO f (X.env.qual ++ "<lambda>") l.params l.body l.scope (cloFrom X.env.cells l.scope.names []) dV c') ∧ DflAt l.dx dV H ∧ H c' = some (CodeO c' (X.env.qual ++ "<lambda>"))
theorem LamAt.keep {X : Cx} {k : Nat} {l : LamT X k} {H H' : Hp} {f : Addr} (h : LamAt X l H f) (e : ∀ b φ, H b = some (.ext φ) → H' b = some (.ext φ)) : LamAt X l H' f := by
  obtain ⟨c', dV, h1, h2, h3⟩ := h
  exact ⟨c', dV, e _ _ h1, h2.keep e, e _ _ h3⟩
def tLamE (T : List (Addr × Str)) (X : Cx) {k : Nat} (l : LamT X k) : TE := fun σ H Q => Tabs T H ∧ ∀ f H1, ExtN H H1 → Tabs T H1 → H f = none → LamAt X l H1 f → Q (.ref f) H1
theorem pe_lamE {X : Cx} {k : Nat} (l : LamT X k) (hx : l.dx = none) {T : List (Addr × Str)} {c P : Addr} {lpos : Pos} (TB : TabB X.base X.mg c P) (hcode : X.env.code = .ref c) (hmT : (P, X.env.qual ++ "<lambda>") ∈ T) (hu : ∀ p ∈ T, p.1 = P → p.2 = X.env.qual ++ "<lambda>")
    (hdef : defaultsOf l.params X.env = ([], [])) : PE X (.Lambda l.params l.body l.scope lpos) (tLamE T X l) := by
  refine ⟨fun pins s σ H Q I h => ?_⟩
  obtain ⟨hT, h⟩ := h
  exact lam_makeO I TB hcode hmT hu hT hdef (l.L.has I.ok) fun f c' H1 s' I1 eN T1 fn hf hc => ⟨.ref f, H1, I1, rfl, h f H1 eN T1 fn ⟨c', _, hf, by rw [hx]; rfl, hc⟩⟩
theorem pe_lamD {X : Cx} {k : Nat} (l : LamT X k) {x : Str} (hx : l.dx = some x) {T : List (Addr × Str)} {c P : Addr} {lpos p0 : Pos} {i0 : Int} {j0 : Nat} (TB : TabB X.base X.mg c P) (hcode : X.env.code = .ref c) (hmT : (P, X.env.qual ++ "<lambda>") ∈ T) (hu : ∀ p ∈ T, p.1 = P → p.2 = X.env.qual ++ "<lambda>")
    (hdef : l.params.defaults = [.Constant (.int i0) j0 p0]) (hkw : l.params.kw_defaults = []) : PE X (.Lambda l.params l.body l.scope lpos) (tLamE T X l) := by
  refine ⟨fun pins s σ H Q I h => ?_⟩
  obtain ⟨hT, h⟩ := h
  exact lam_makeD (x := x) I TB hcode hmT hu hT hdef hkw (l.L.has I.ok) fun f c' dV H1 s' I1 eN T1 fn hf hd hc => ⟨.ref f, H1, I1, rfl, h f H1 eN T1 fn ⟨c', dV, hf, by rw [hx]; exact hd, hc⟩⟩
theorem LamT.binds {X : Cx} {k : Nat} (l : LamT X k) {P : Program} {w : World} {H : Hp} {s : Shared} {q : Str} {cl : List (Str × Addr)} {dV doc pm cv ctv : Value} (hok : HOk P w H s.heap) (hD : DflAt l.dx dV H) :
    ∃ bs : List (Str × Value), (∀ y ∈ bs, l.scope.names.lookup y.1 = some .local) ∧ BindsTo s (lamFd q l.params l.body l.scope cl dV doc pm cv ctv) ⟨[], []⟩ bs := by
  have hb := l.bind
  unfold BindL at hb
  cases hx : l.dx with
  | none =>
    rw [hx] at hb hD
    have hD : dV = .none := hD
    refine ⟨[], fun y hy => (by cases hy), ?_⟩
    subst hD
    exact BindsTo.of_eq (hb q cl doc pm cv ctv)
  | some x =>
    rw [hx] at hb hD
    obtain ⟨T, e1, e2⟩ := hD
    obtain ⟨u, hu⟩ := dfO_at hok e2
    subst e1
    obtain ⟨k, b1, b2⟩ := hb.2 q cl T doc pm cv ctv
    refine ⟨[(x, u)], fun y hy => ?_, BindsTo.of_defaults rfl hu rfl b1 (b2 u)⟩
    rw [List.mem_singleton.mp hy]
    exact hb.1
section
variable {X : Cx} {pins : List (Addr × Obj)} {σ : L2.St} {H : Hp} {s : Shared}
theorem pe_actO {CXg : CXT} {Eg : XK} {Ng : List Str} {qg : Str} {sg : Scope} {g f : Addr} {cdg : Value} {k i : Nat} {a : Str} {pn : List (Addr × Obj)} {xe : Value → Shared → Prop} {W : WX} {p1 p2 : Pos} {l : LamT X k}
    (I : Inv X pins σ H s) (tk : Takes ((cxOf CXg X.prog X.w X.K X.mg X.base Ng qg sg g cdg X.A X.stack s H Eg).tr pn xe) W) (hr : Room (k + 1) (X.A.deeper (envOfC qg sg s.heap.objs.size g cdg)))
    (hN : Ng[i]? = some a) (hv : Vis sg a) (hd : (a == ("__debug__" : Str)) = false := by decide) (hcd : (a == ("__classdict__" : Str)) = false := by decide) :
    PE ((cxOf CXg X.prog X.w X.K X.mg X.base Ng qg sg g cdg X.A X.stack s H Eg).tr pn xe) (.Call (.Name a p1) [] [] p2) (fun σZ HZ Q => σZ[i]? = some (some (.ref f)) ∧ LamAt X l HZ f ∧ ∃ E : XK, (∀ cls d H', E cls d H' → W cls d σZ H') ∧ l.t E σ HZ Q) := by
  refine ⟨fun pinsZ sZ σZ HZ Q IZ h => ?_⟩
  obtain ⟨hs, ⟨c', dV, hfO, hDf, hcO⟩, E, hW, ht⟩ := h
  refine wpAny_Call_Name_kw (thn ((pe_var (pos := p1) (i := i) hN hv hd hcd).run pinsZ sZ σZ HZ (fun v H1 => v = .ref f ∧ H1 = HZ) IZ ⟨.ref f, hs, rfl, rfl⟩) fun u s1 ⟨v, H1, I1, r1, q1⟩ => ?_)
  obtain ⟨ev, eH⟩ := q1
  subst ev
  rw [eH] at I1
  obtain rfl : u = Value.ref f := r1
  obtain ⟨doc, pm, ctv, of1⟩ := lamO_at I1.hok hfO
  refine PySem.W.callWith_F0 ⟨_, _, _, _, of1⟩ ?_
  have un : Un (frs X.stack) [] H HZ s.heap s1.heap := I1.base
  obtain ⟨⟨oc, vs, t, hoc, hdc, hvc⟩, _, _⟩ := I1.hok c' _ hcO
  obtain ⟨bs, hloc, hbs⟩ := l.binds (s := s1) (q := X.env.qual ++ "<lambda>") (cl := cloFrom X.env.cells l.scope.names []) (doc := doc) (pm := pm) (cv := .ref c') (ctv := ctv) I1.hok hDf
  have rc : codeAny (model X.prog X.w) (X.A.deeper (envOfC qg sg s.heap.objs.size g cdg)) (.call (.ref f) ⟨[], []⟩) (CR (L2.CX X.prog X.w) (envOfC qg sg s.heap.objs.size g cdg :: X.stack) X.prog X.w HZ s1 Q E) s1 := by
    refine PySem.W.kla_callFunE hr.depth of1 rfl l.L.co l.L.gen rfl ⟨c', oc, vs, t, rfl, hoc, hdc, hvc⟩ (hbs _ _ _ _ ?_)
    refine wpAny_newFunctionEnv l.L.cell hloc (fun h₁ hns hsb => ⟨I1.nolimit.fresh _ hsb, ?_⟩) l.L.kind
    show codeAny _ _ (.expr l.body (lamEnv X l.scope s1.heap.objs.size f c')) _ _
    have kp : ∀ b o, s1.heap.get? b = some o → h₁.get? b = some o := fun b o e => hsb.extBut b o (Nat.ne_of_lt (Heap.lt_size e)) (Heap.get?_push_of_some _ e)
    have J : Inv (lamCx X (X.A.deeper (envOfC qg sg s.heap.objs.size g cdg)) (envOfC qg sg s.heap.objs.size g cdg :: X.stack) s1 HZ E l.scope f c') [] σ HZ { s1 with heap := h₁, toks := s1.toks + bs.length } :=
      lam_startN I l.L I1.env0 hr.hd un hns kp
    refine PySem.W.kla_codeExpr (wpAny_mono ((l.run _ _ s1 HZ E f c' (hr.deeper _)).run [] _ _ HZ Q J ht) (fun v s' hq => ?_) fun e s' hq => hq)
    obtain ⟨w', H', J', rv, q⟩ := hq
    exact ⟨w', H', J'.os, J'.bare, J'.base, J'.hok, rv, q⟩
  refine wpAny_call (codeAny_mono rc fun r s' hq => ?_)
  cases r with
  | error e => exact tk e s' (XE.of_call I1 (fun cls d H' h => hW cls d H' h) hq)
  | ok fl =>
    cases fl with
    | ret u => exact I1.after hq
    | next => exact False.elim hq
    | brk => exact False.elim hq
    | cont => exact False.elim hq
end
def GivesL (X : Cx) (Ng : List Str) (x : Str) (sg : Scope) (g : Addr) (cdg : Value) (bg : List Stmt) (a : Str) (TT : (XK → Hp → VK → Prop) → Hp → VK → Prop) : Prop :=
  ∀ (f : Addr) (s : Shared) (H : Hp) (Q : VK) (ok : Hp → Prop) (tl : XK → Hp → VK → Prop), (∀ (H H' : Hp), (∀ b φ, H b = some (.ext φ) → H' b = some (.ext φ)) → ok H → ok H') →
    (∀ (W : WX) (pn : List (Addr × Obj)) (xe : Value → Shared → Prop) (p1 p2 : Pos), Takes ((cxOf C8.CX0 X.prog X.w X.K X.mg X.base Ng x sg g cdg X.A X.stack s H C8.E0).tr pn xe) W →
      PE ((cxOf C8.CX0 X.prog X.w X.K X.mg X.base Ng x sg g cdg X.A X.stack s H C8.E0).tr pn xe) (.Call (.Name a p1) [] [] p2) (fun σZ HZ Q => σZ[0]? = some (some (.ref f)) ∧ ok HZ ∧ ∃ E : XK, (∀ cls d H', E cls d H' → W cls d σZ H') ∧ tl E HZ Q)) →
    ok H → TT tl H Q → (X.A.deeper (envOfC x sg s.heap.objs.size g cdg)).units + 65 < cLine →
    ∃ t, PSs (cxOf C8.CX0 X.prog X.w X.K X.mg X.base Ng x sg g cdg X.A X.stack s H C8.E0).nox bg t ∧ t { nx := fun _ H' => Q .non H', rt := Q } (L2.start Ng [.ref f]) H
structure LFn (X : Cx) (x a : Str) (TT : (XK → Hp → VK → Prop) → Hp → VK → Prop) : Prop where
  ex : ∃ (g : Addr) (oc : Value) (od : Option Addr) (pg : Arguments) (bg : List Stmt) (sg : Scope) (dV kV doc pm cdv ct : Value) (an : Option Addr) (osl : Array (Option Value)) (Ng : List Str),
    X.mg x = some (.ref g) ∧ PySem.W.keepIn X.K (.ref g) = true ∧ X.K.lookup g = some ⟨oc, od, .func (PySem.W.fnOf x x pg bg sg dV kV doc pm an cdv ct), osl⟩ ∧ PySem.W.codeIn X.K cdv x = true ∧ L2.Binds X.K (PySem.W.fnOf x x pg bg sg dV kV doc pm an cdv ct) [a] [] ∧ FnScope Ng [a] sg ∧ Ng[0]? = some a ∧ Vis sg a ∧
    GivesL X Ng x sg g cdv bg a TT
section
variable {X : Cx} {pins : List (Addr × Obj)} {σ : L2.St} {H : Hp} {s : Shared}
theorem lam_run {k : Nat} {x a : Str} {TT : (XK → Hp → VK → Prop) → Hp → VK → Prop} {l : LamT X k} {f : Addr} {Q : VK} (D : LFn X x a TT) (hr : Room (k + 2) X.A) (I : Inv X pins σ H s) (hl : LamAt X l H f) (h : TT (fun E H' Q' => l.t E σ H' Q') H Q)
    (hd : (a == ("__debug__" : Str)) = false := by decide) (hcd : (a == ("__classdict__" : Str)) = false := by decide) :
    ∃ g : Addr, X.mg x = some (.ref g) ∧ PySem.W.keepIn X.K (.ref g) = true ∧ codeAny (model X.prog X.w) X.A (.call (.ref g) ⟨[.ref f], []⟩) (CR C8.CX0 X.stack X.prog X.w H s Q C8.E0) s := by
  obtain ⟨g, oc, od, pg, bg, sg, dV, kV, doc, pm, cdv, ct, an, osl, Ng, hm, hk, lk, hcg, hb, Sg, hNg, hva, hG⟩ := D.ex
  refine ⟨g, hm, hk, ?_⟩
  refine run_ofS (N := Ng) (ps := [a]) (us := [.ref f]) (vs := [.ref f]) lk hcg Sg hr I.env0 (hb s [.ref f] I.kIn rfl) (.cons rfl .nil) rfl fun hr' => ?_
  obtain ⟨t', ht', hq'⟩ := hG f s H Q (fun H => LamAt X l H f) (fun E H' Q' => l.t E σ H' Q') (fun H H' e z => z.keep e) (fun W pn xe p1 p2 tk => pe_actO (i := 0) (l := l) I tk hr' hNg hva hd hcd) hl h (by have := hr'.un; omega)
  exact ⟨t', ht'.nox, hq'⟩
def tLamC (X : Cx) (k : Nat) (TT : (XK → Hp → VK → Prop) → Hp → VK → Prop) (te : TE) : TE := fun σ H Q => te σ H fun v H1 => ∃ (l : LamT X k) (f : Addr), v = .ref f ∧ LamAt X l H1 f ∧ TT (fun E H' Q' => l.t E σ H' Q') H1 Q
theorem pe_lamC {k : Nat} {x a : Str} {TT : (XK → Hp → VK → Prop) → Hp → VK → Prop} {e : Expr} {te : TE} {p pos : Pos} (D : LFn X x a TT) (hr : Room (k + 2) X.A) (ha : PA X [e] (tCons te tNil)) (hg : Gl X x := by rfl) (hdb : (x == ("__debug__" : Str)) = false := by decide)
    (hst : starEach (e :: []) X.env = (false, eval e X.env) :: starEach [] X.env := by rfl) (hpl : (backTo pos (starEach [] X.env)).any (·.1) = false := by rfl) (hd : (a == ("__debug__" : Str)) = false := by decide) (hcd : (a == ("__classdict__" : Str)) = false := by decide) :
    PE X (.Call (.Name x p) [e] [] pos) (tLamC X k TT te) := by
  obtain ⟨g0, _, _, _, _, _, _, _, _, _, _, _, _, _, _, hm0, hk0, _⟩ := D.ex
  refine ⟨fun pins s σ H Q I h => ?_⟩
  refine wpAny_Call_Name_kw (ld_glob I hg hm0 ?_ hdb)
  let R : V → Hp → Prop := fun v H1 => ∃ (l : LamT X k) (f : Addr), v = .ref f ∧ LamAt X l H1 f ∧ TT (fun E H' Q' => l.t E σ H' Q') H1 Q
  refine PySem.W.callWith_K (h₀ := X.base) I.ok.mod.kin hk0 (thn (ha.run pos pins s σ H (fun vs H1 => match vs with | [v] => R v H1 | _ => False) I h) fun us s1 hh => ?_) hst hpl
  obtain ⟨vs, H1, I1, r1, hR⟩ := hh
  match vs, r1, hR with
  | [v], r1, hR =>
  obtain ⟨l, f, ef, hl, q⟩ := hR
  subst ef
  refine ⟨I1.kIn, ?_⟩
  cases r1 with
  | cons ru rn =>
    cases rn
    cases ru
    obtain ⟨g, hm, hk, rc⟩ := lam_run D hr I1 hl q hd hcd
    rw [hm0] at hm
    cases hm
    refine wpAny_call (codeAny_mono rc fun r s2 hq => ?_)
    cases r with
    | error e => exact (show False from hq).elim
    | ok fl =>
      cases fl with
      | ret u => exact I1.after hq
      | next => exact False.elim hq
      | brk => exact False.elim hq
      | cont => exact False.elim hq
end
end MF
set_option Elab.async false
set_option linter.all false
set_option maxRecDepth 100000
set_option maxHeartbeats 2000000
namespace MF
open PySem PySem.Spec PyProof.Rows L2 StX LamX
structure BI (X : Cx) (pins : List (Addr × Obj)) (σ : L2.St) (H : Hp) (s : Shared) (fp : List Addr) : Prop where
  inv : Inv X pins σ H s
  fp : ∀ b ∈ fp, FpOk X pins H b ∧ b < s.heap.objs.size
theorem BI.now {X : Cx} {pins pins' : List (Addr × Obj)} {σ σ' : L2.St} {H H' : Hp} {s s' : Shared} {fp : List Addr} {scope : Scope} {cenv : Env} (B : BI X pins σ H s fp) (I : Inv (X.blk s H scope cenv fp) pins' σ' H' s') : Inv X pins σ H' s' :=
  B.inv.call' (ch := fp) I.os I.base I.hok I.bare fun b hb => ⟨(B.fp b hb).1.2.2.2.1, (B.fp b hb).1.2.1, (B.fp b hb).1.2.2.2.2.1, (B.fp b hb).1.2.2.2.2.2⟩
section
variable {X : Cx}
theorem lcI_core {pins : List (Addr × Obj)} {s : Shared} {σ : L2.St} {H : Hp} {Q : VK} {elt tg iter : Expr} {ifs : List Expr} {scope : Scope} {own : List (Str × Nat)} {pos pos' : Pos} {wi : TI} {g : TG} {tt : TT} {te : TE} {use : Option (Value → Sem Unit)} {Qf : Value → Shared → Prop}
    (hc : X.calm = true) (hN : X.N.Nodup) (I : Inv X pins σ H s) (hi : PI X tg iter wi) (ok : BlkOk X.N X.env.scope scope own)
    (hg : ∀ (s : Shared) (H : Hp) (C : Addr) (cl : List (Str × Addr)) (fp : List Addr), PG (X.blk s H scope (compEnvC scope cl C X.env) fp) tg g)
    (ht : ∀ (s : Shared) (H : Hp) (C : Addr) (cl : List (Str × Addr)) (fp : List Addr), BI X pins σ H s fp → PTs (X.blk s H scope (compEnvC scope cl C X.env) fp) ifs tt)
    (he : ∀ (s : Shared) (H : Hp) (C : Addr) (cl : List (Str × Addr)) (fp : List Addr), BI X pins σ H s fp → PE (X.blk s H scope (compEnvC scope cl C X.env) fp) elt te) (hs : ∀ x, foldedSetIterable iter X.env x = pure x)
    (h : tLc wi g tt te (own.map (·.2)) σ H Q)
    (hRR : ∀ D C s' m H', Inv X pins σ H' s' → Q (.ref D) H' → s'.heap.Ns C m → FpOk X pins H' C → compPost (model X.prog X.w) X.A X.xe use Qf (.ref D) C (.ok .next) s') :
    wpAny (model X.prog X.w) X.A (comprehension (.ListComp elt [⟨tg, iter, ifs, 0⟩] scope pos) scope X.env pos' (newList []) false (eval iter X.env) use) Qf X.xe s := by
  have hfree : ∀ y ∈ scope.names, y.2 = .free → ∃ c, X.env.cells.lookup y.1 = some c := fun y hy e => by
    rcases ok.free y hy e with k | k
    · exact I.ok.has _ (.inl k)
    · exact I.ok.has _ (.inr k)
  refine wpAny_comprehension_free (use := use) rfl hs (closure_ok hfree) ok.kind (fun y hy e => by rw [ok.uniq y hy, e])
    (thn (hi.run pins s σ H _ I h) fun xv s1 hx => thn hx fun itv s2 h2 => ?_)
  obtain ⟨it, fp, tn, J, H2, e, I2, T, st2, f2, q⟩ := h2
  subst e
  refine wpAny_newObj_type (newEnv_comp ?_) (by show 0 ≤ sizeLine; decide)
  generalize hD : s2.heap.objs.size = D
  have hDn : H2 D = none := I2.hok.fresh (Nat.le_of_eq hD)
  obtain ⟨W, ⟨m0, w0⟩, turn⟩ := q D hDn
  generalize hs3 : ({ s2 with heap := s2.heap.push { cls := .type "list", data := .seq ([] : List Value).toArray } } : Shared) = s3
  have I3 : Inv X pins σ (upd H2 D (.lst [])) s3 := by
    rw [← hs3]
    refine I2.laid (t' := s2.toks) (fun b o e => Heap.get?_push_of_some _ e) (Nat.le_of_eq hD) ⟨Nat.zero_le _, [], 0, .nil, ?_⟩
    rw [← hD]
    exact Heap.get?_push_size _ rfl
  have h3 : s3.heap = s2.heap.push { cls := .type "list", data := .seq ([] : List Value).toArray } := by rw [← hs3]
  have f3 : ∀ b ∈ fp, FpOk X pins (upd H2 D (.lst [])) b ∧ b < s3.heap.objs.size := fun b hb => by
    obtain ⟨o, e, _⟩ := T.obj _ _ st2 b hb
    have hlt := Heap.lt_size e
    refine ⟨⟨?_, (f2 b hb).2⟩, by rw [h3, Heap.size_push]; exact Nat.lt_succ_of_lt hlt⟩
    rw [upd_ne (by rw [← hD]; exact Nat.ne_of_lt hlt)]
    exact (f2 b hb).1
  have BB : BI X pins σ (upd H2 D (.lst [])) s3 fp := ⟨I3, f3⟩
  have st3 : tn 0 s3.heap := T.keep _ _ _ st2 fun b _ o e => by rw [h3]; exact Heap.get?_push_of_some _ e
  have I4 := block_start I3 ok hN f3
  have pg := hg s3 (upd H2 D (.lst [])) s3.heap.objs.size (cellsFrom (s3.heap.objs.size + 1) scope.names (cloFrom X.env.cells scope.names [])) fp
  have pt := ht s3 (upd H2 D (.lst [])) s3.heap.objs.size (cellsFrom (s3.heap.objs.size + 1) scope.names (cloFrom X.env.cells scope.names [])) fp BB
  have pe := he s3 (upd H2 D (.lst [])) s3.heap.objs.size (cellsFrom (s3.heap.objs.size + 1) scope.names (cloFrom X.env.cells scope.names [])) fp BB
  show codeAny _ _ (.compStart (.ListComp elt [⟨tg, iter, ifs, 0⟩] scope pos) 0 (.ref it) (.ref D) (compEnvC scope (cellsFrom (s3.heap.objs.size + 1) scope.names (cloFrom X.env.cells scope.names [])) s3.heap.objs.size X.env)) (compPost (model X.prog X.w) X.A X.xe use Qf (.ref D) s3.heap.objs.size) { s3 with heap := pushCells (s3.heap.push { cls := .type "dict", data := .dict #[] }) scope.names }
  have nfp : ∀ b ∈ fp, (upd H2 D (.lst [])) b = none := fun b hb => (f3 b hb).1.1
  generalize hce : compEnvC scope (cellsFrom (s3.heap.objs.size + 1) scope.names (cloFrom X.env.cells scope.names [])) s3.heap.objs.size X.env = ce at I4 pg pt pe ⊢
  have cL : ce.locals = s3.heap.objs.size := by subst hce; rfl
  generalize hH3 : upd H2 D (.lst []) = H3 at I3 I4 pg pt pe w0 nfp f3 BB
  generalize hs4 : ({ s3 with heap := pushCells (s3.heap.push { cls := .type "dict", data := .dict #[] }) scope.names } : Shared) = s4 at I4 ⊢
  have st4 : tn 0 s4.heap := T.keep _ _ _ st3 fun b _ o e => by rw [← hs4]; exact pushCells_keeps _ _ _ _ (Heap.get?_push_of_some _ e)
  have stat : ∀ {σ' : L2.St} {H' : Hp} {s' : Shared}, Inv (X.blk s3 H3 scope ce fp) [] σ' H' s' → (∀ b ∈ fp, H' b = none) → ∀ b ∈ fp, FpOk (X.blk s3 H3 scope ce fp) [] H' b := fun {σ' H' s'} I' hn b hb =>
    ⟨hn b hb, (I'.ok.exf b hb).1, I'.ok.exfs b hb, .inl hb, fun x c e => (I'.ok.exf b hb).2 x c e, fun p hp => absurd (show p ∈ ([] : List (Addr × Obj)) ++ [] from hp) (by simp)⟩
  have loop : codeAny (model X.prog X.w) X.A (.compLoop (.ListComp elt [⟨tg, iter, ifs, 0⟩] scope pos) 0 (.ref it) (.ref D) ce) (compPost (model X.prog X.w) X.A X.xe use Qf (.ref D) s3.heap.objs.size) s4 := by
    refine compLoop_any (fun n s' => ∃ i H', Inv (X.blk s3 H3 scope ce fp) [] (wipe σ (own.map (·.2))) H' s' ∧ tn i s'.heap ∧ (∀ b ∈ fp, H' b = none) ∧ W i n H') ?_ m0 ⟨0, H3, I4, st4, nfp, w0⟩
    rintro n s5 ⟨i, H5, I5, st5, n5, w5⟩
    rcases turn i n H5 w5 with ⟨stop, qq⟩ | ⟨go, Nx, hNx, step⟩
    · have td := T.done (X.blk s3 H3 scope ce fp) rfl rfl rfl hc i [] s5 _ H5 (fun _ _ => False) I5 (stat I5 n5) st5 stop
      refine thnF td fun r s6 ⟨hr, I6⟩ => ?_
      subst hr
      have I7 : Inv X pins σ H5 s6 := BB.now I6
      have nC : H5 s3.heap.objs.size = none := by
        have z : H5 ce.locals = none := I6.free
        rw [cL] at z
        exact z
      obtain ⟨m, hn, _⟩ := I6.loc
      have hn : s6.heap.Ns ce.locals m := hn
      rw [cL] at hn
      exact hRR D s3.heap.objs.size s6 m H5 I7 qq hn (I3.fpOk (Nat.le_refl _) nC)
    · have ti := T.item (X.blk s3 H3 scope ce fp) rfl rfl rfl hc i [] s5 _ H5 (fun _ _ => False) I5 (stat I5 n5) st5 go
      refine thnF ti fun r s6 ⟨u, hr, h6⟩ => ?_
      subst hr
      refine thnF h6 fun _ s7 ⟨x, H7, I7, r7, y7, st7, n7⟩ => ?_
      have I7' := I7.pinned (stat I7 n7) (T.obj _ _ st7)
      refine thnF (pg.run _ s7 _ H7 x u _ I7' r7 (step x H7 y7)) fun _ s8 ⟨σ8, H8, I8, hw8, q8⟩ => ?_
      refine thnF (pt.run _ s8 σ8 H8 _ I8 q8) fun b s9 ⟨H9, I9, q9⟩ => ?_
      have fin : ∀ {s' : Shared} {H' : Hp}, Inv (X.blk s3 H3 scope ce fp) ([] ++ pinsAt fp s7.heap) σ8 H' s' → Nx H' → ∃ m, m < n ∧ ∃ i H', Inv (X.blk s3 H3 scope ce fp) [] (wipe σ (own.map (·.2))) H' s' ∧ tn i s'.heap ∧ (∀ b ∈ fp, H' b = none) ∧ W i m H' := fun {s' H'} I' nx => by
        obtain ⟨m', hm, w'⟩ := hNx H' nx
        have pin' : ∀ b ∈ fp, ∀ o, s7.heap.get? b = some o → s'.heap.get? b = some o ∧ H' b = none := fun b hb o e =>
          let z := I'.pin (b, o) (List.mem_append_right _ (List.mem_append_right _ (mem_pinsAt hb e)))
          ⟨z.1, z.2.1⟩
        have hl : (wipe σ (own.map (·.2))).length = σ8.length := by rw [← hw8, wipe_length]
        refine ⟨m', hm, i + 1, H', (I'.unpinned (pins := [])).weak hl (fun j v e => ?_), T.keep _ _ _ st7 fun b hb o e => (pin' b hb o e).1, fun b hb => ?_, w'⟩
        · rw [← hw8] at e
          exact (wipe_some e).1
        · obtain ⟨o, e, _⟩ := T.obj _ _ st7 b hb
          exact (pin' b hb o e).2
      cases b with
      | false =>
        simp only [Bool.false_eq_true, if_false] at q9 ⊢
        exact fin I9 q9
      | true =>
        simp only [if_true] at q9 ⊢
        refine thnF (pe.run _ s9 σ8 H9 _ I9 q9) fun z s10 ⟨yv, H10, I10, r10, acc, hD10, hz10, nx⟩ => ?_
        exact app_ok (X := X.blk s3 H3 scope ce fp) I10 hD10 hz10 r10 fun s11 I11 => fin I11 nx
  exact codeAny_compStart_list loop (T.self X.A 0 _ _ _ st4 loop)
def tLcI (wi : TI) (g : TG) (tt : L2.St → TT) (te : L2.St → TE) (vs : List Nat) : TE := fun σ H Q => tLc wi g (tt σ) (te σ) vs σ H Q
theorem pe_lcI {elt tg iter : Expr} {ifs : List Expr} {scope : Scope} {own : List (Str × Nat)} {pos : Pos} {wi : TI} {g : TG} {tt : L2.St → TT} {te : L2.St → TE} (hc : X.calm = true) (hN : X.N.Nodup) (hi : PI X tg iter wi) (ok : BlkOk X.N X.env.scope scope own)
    (hg : ∀ (s : Shared) (H : Hp) (C : Addr) (cl : List (Str × Addr)) (fp : List Addr), PG (X.blk s H scope (compEnvC scope cl C X.env) fp) tg g)
    (ht : ∀ (pins : List (Addr × Obj)) (σ : L2.St) (s : Shared) (H : Hp) (C : Addr) (cl : List (Str × Addr)) (fp : List Addr), BI X pins σ H s fp → PTs (X.blk s H scope (compEnvC scope cl C X.env) fp) ifs (tt σ))
    (he : ∀ (pins : List (Addr × Obj)) (σ : L2.St) (s : Shared) (H : Hp) (C : Addr) (cl : List (Str × Addr)) (fp : List Addr), BI X pins σ H s fp → PE (X.blk s H scope (compEnvC scope cl C X.env) fp) elt (te σ)) (hs : ∀ x, foldedSetIterable iter X.env x = pure x := by intro _; rfl) :
    PE X (.ListComp elt [⟨tg, iter, ifs, 0⟩] scope pos) (tLcI wi g tt te (own.map (·.2))) := by
  refine ⟨fun pins s σ H Q I h => ?_⟩
  rw [eval_ListComp]
  refine lcI_core hc hN I hi ok hg (ht pins σ) (he pins σ) hs h fun D C s' m H' I' q hn f => ⟨m, hn, fun h'' sb => ?_⟩
  obtain ⟨f0, f1, f2, f3, f4, f5⟩ := f
  exact ⟨.ref D, H', I'.turned (t' := s'.toks) (fun b o hb e => (sb.2 b hb).trans e) f0 f1 f3 f4 f5, rfl, q⟩
def tLamB (X : Cx) (k : Nat) (TT : (XK → Hp → VK → Prop) → Hp → VK → Prop) (te : TE) (σ : L2.St) : TE := fun σ' H Q => te σ' H fun v H1 => ∃ (l : LamT X k) (f : Addr), v = .ref f ∧ LamAt X l H1 f ∧ TT (fun E H' Q' => l.t E σ H' Q') H1 Q
theorem pe_lamB {pins : List (Addr × Obj)} {σ : L2.St} {H0 : Hp} {s0 : Shared} {fp : List Addr} {scope : Scope} {cenv : Env} {k : Nat} {x a : Str} {TT : (XK → Hp → VK → Prop) → Hp → VK → Prop} {e : Expr} {te : TE} {p pos : Pos} (B : BI X pins σ H0 s0 fp) (D : LFn X x a TT) (hr : Room (k + 2) X.A)
    (ha : PA (X.blk s0 H0 scope cenv fp) [e] (tCons te tNil)) (hg : Gl (X.blk s0 H0 scope cenv fp) x := by rfl) (hdb : (x == ("__debug__" : Str)) = false := by decide)
    (hst : starEach (e :: []) cenv = (false, eval e cenv) :: starEach [] cenv := by rfl) (hpl : (backTo pos (starEach [] cenv)).any (·.1) = false := by rfl) (hd : (a == ("__debug__" : Str)) = false := by decide) (hcd : (a == ("__classdict__" : Str)) = false := by decide) :
    PE (X.blk s0 H0 scope cenv fp) (.Call (.Name x p) [e] [] pos) (tLamB X k TT te σ) := by
  obtain ⟨g0, _, _, _, _, _, _, _, _, _, _, _, _, _, _, hm0, hk0, _⟩ := D.ex
  refine ⟨fun pins' s σ' H Q I h => ?_⟩
  refine wpAny_Call_Name_kw (ld_glob I hg hm0 ?_ hdb)
  let R : V → Hp → Prop := fun v H1 => ∃ (l : LamT X k) (f : Addr), v = .ref f ∧ LamAt X l H1 f ∧ TT (fun E H' Q' => l.t E σ H' Q') H1 Q
  refine PySem.W.callWith_K (h₀ := X.base) I.ok.mod.kin hk0 (thn (ha.run pos pins' s σ' H (fun vs H1 => match vs with | [v] => R v H1 | _ => False) I h) fun us s1 hh => ?_) hst hpl
  obtain ⟨vs, H1, I1, r1, hR⟩ := hh
  match vs, r1, hR with
  | [v], r1, hR =>
  obtain ⟨l, f, ef, hl, q⟩ := hR
  subst ef
  refine ⟨I1.kIn, ?_⟩
  cases r1 with
  | cons ru rn =>
    cases rn
    cases ru
    obtain ⟨g, hm, hk, rc⟩ := lam_run D hr (B.now I1) hl q hd hcd
    rw [hm0] at hm
    cases hm
    refine wpAny_call (codeAny_mono rc fun r s2 hq => ?_)
    cases r with
    | error e => exact (show False from hq).elim
    | ok fl =>
      cases fl with
      | ret u => exact I1.after hq
      | next => exact False.elim hq
      | brk => exact False.elim hq
      | cont => exact False.elim hq
end
end MF
set_option Elab.async false
set_option linter.all false
set_option maxRecDepth 100000
set_option maxHeartbeats 1000000
namespace MF
open PySem PySem.Spec PyProof.Rows L2
def eqs (z : Str) (v : Value) : Bool := match v with
  | .str n _ => n.cps.toList == z.cps.toList
  | _ => false
theorem strEq (a b : Str) : (a.cps.toList == b.cps.toList) = (a == b) := by
  rw [Bool.eq_iff_iff, beq_iff_eq, beq_iff_eq]
  constructor
  · intro h
    obtain ⟨x⟩ := a
    obtain ⟨y⟩ := b
    have : x = y := Array.toList_inj.mp h
    rw [this]
  · intro h; rw [h]
theorem eqs_gives {z : Str} {t : Tok} : ∀ {ys : List Str} {us : List Value}, Vals (ys.map V.str) us → ∀ y ∈ us, MeetsSeq.EqGives y (.str z t) (eqs z y)
  | [], _, .nil => fun y hy => by cases hy
  | n :: ys, _, .cons r h => fun y hy => by
    obtain ⟨t', rfl⟩ := r
    rcases List.mem_cons.mp hy with e | e
    · rw [e]
      exact PySem.SeqRoads2.EqGives.str n z t' t
    · exact eqs_gives h y e
theorem eqs_count {z : Str} : ∀ {ys : List Str} {us : List Value}, Vals (ys.map V.str) us → us.countP (eqs z) = ys.count z
  | [], _, .nil => rfl
  | n :: ys, _, .cons r h => by
    obtain ⟨t', rfl⟩ := r
    have ih := eqs_count (z := z) h
    rw [List.countP_cons, List.count_cons, ih, show eqs z (.str n t') = (n == z) from strEq n z]
def rCntS (K : PySem.W.Frag) : V → List V → Hp → VK → Prop := fun x xs H Q => ∃ (p : Addr) (ys : List Str) (z : Str), x = .ref p ∧ xs = [.str z] ∧ SqL K H p (ys.map V.str) ∧ Q (.int (ys.count z : Nat)) H
theorem mt_lcountS {X : Cx} {K : PySem.W.Frag} (hK : X.K = K := by rfl) : MtR X "list.count" (rCntS K) := by
  subst hK
  intro pins s σ H x xs v us Q I rx rxs h
  obtain ⟨p, ns, k, rfl, rfl, hs, q⟩ := h
  cases rx
  obtain ⟨u, rfl, ru⟩ := rxs.one
  obtain ⟨t, rfl⟩ := ru
  obtain ⟨its, rv, ⟨⟨cls, dd, data, sl⟩, n, ho, hc, hdn, hd⟩, hlen⟩ := I.list hs
  simp only at hc hd
  subst hc hd
  refine call_meets PySem.F.slot_list_count ⟨_, ho, rfl⟩ PySem.F.entry_list_count (PySem.F.args_list_count_2 _ _)
    (SeqAt.list_countAt p its.toArray n dd sl (.str k t) (eqs k)) ⟨ho, fun y hy => (eqs_gives rv y (by simpa using hy)).at _ _, ?_⟩
  have ec : its.toArray.toList.countP (eqs k) = ns.count k := eqs_count rv
  refine ⟨.int (ns.count k : Nat), H, I.tok _, ⟨s.toks, ?_⟩, q⟩
  show Value.int ((its.toArray.toList.countP (eqs k) : Nat) : Int) s.toks = Value.int ((ns.count k : Nat) : Int) s.toks
  rw [ec]
theorem pe_bmK {X : Cx} {K : PySem.W.Frag} {o e : Expr} {es : List Expr} {to : TE} {t : TA} {name : Str} {apos cpos : Pos} {T id : String} {r : V → List V → Hp → VK → Prop} (pa : PlainAttrs T) (slot : Slot T name id) (hty : typeOf (.builtin id) = pure (.type "method_descriptor")) (hm : MtR X id r) (ho : PE X o to) (ha : PA X (e :: es) t)
    (hK : X.K = K := by rfl) (hbase : attributeBase o name X.env (eval o X.env) = eval o X.env := by rfl)
    (hfew : ((backTo cpos (starEach (e :: es) X.env)).all (fun x => !x.1) && (backToKw cpos (keywordEach [] X.env)).all (fun x => x.1.isSome)
      && decide ((e :: es).length + ([] : List Keyword).length + (if ([] : List Keyword).isEmpty then 0 else 1) < 30)) = true := by rfl)
    (hline : (apos.endLine == cpos.line) = true := by rfl) (hs : starEach (e :: es) X.env = (false, eval e X.env) :: starEach es X.env := by rfl) (hplain : (backTo cpos (starEach es X.env)).any (·.1) = false := by rfl) :
    PE X (.Call (.Attribute o name apos) (e :: es) [] cpos) (tBM K T r to t) := hK ▸ pe_bm pa slot hty hm ho ha hbase hfew hline hs hplain
end MF
set_option Elab.async false
set_option linter.all false
set_option maxRecDepth 100000
set_option maxHeartbeats 2000000
namespace MF
open PySem PySem.Spec PyProof.Rows L2 StX
theorem eqb_at {k : Bool} : ∀ {ys : List Bool} {us : List Value}, Vals (ys.map V.bl) us → ∀ y ∈ us, ∀ (A : Around) (s : Shared), SeqAt.EqAt A s y (.bool k) (isBoolOf k y)
  | [], _, .nil => fun y hy => by cases hy
  | b :: ys, _, .cons r h => fun y hy A s => by
    cases r
    rcases List.mem_cons.mp hy with e | e
    · rw [e]
      exact SeqAt.EqAt.bool_bool b k
    · exact eqb_at h y e A s
theorem eqb_count {k : Bool} : ∀ {ys : List Bool} {us : List Value}, Vals (ys.map V.bl) us → us.countP (isBoolOf k) = ys.count k
  | [], _, .nil => rfl
  | b :: ys, _, .cons r h => by
    cases r
    have ih := eqb_count (k := k) h
    rw [List.countP_cons, List.count_cons, ih]
    rfl
def rCntB (K : PySem.W.Frag) : V → List V → Hp → VK → Prop := fun x xs H Q => ∃ (p : Addr) (ys : List Bool) (k : Bool), x = .ref p ∧ xs = [.bl k] ∧ SqL K H p (ys.map V.bl) ∧ Q (.int (ys.count k : Nat)) H
theorem mt_lcountB {X : Cx} : MtR X "list.count" (rCntB X.K) := by
  intro pins s σ H x xs v us Q I rx rxs h
  obtain ⟨p, ys, k, rfl, rfl, hs, q⟩ := h
  cases rx
  obtain ⟨u, rfl, ru⟩ := rxs.one
  obtain rfl : u = Value.bool k := ru
  obtain ⟨its, rv, ⟨⟨cls, dd, data, sl⟩, n, ho, hc, hdn, hd⟩, hlen⟩ := I.list hs
  simp only at hc hd
  subst hc hd
  refine call_meets PySem.F.slot_list_count ⟨_, ho, rfl⟩ PySem.F.entry_list_count (PySem.F.args_list_count_2 _ _)
    (SeqAt.list_countAt p its.toArray n dd sl (.bool k) (isBoolOf k)) ⟨ho, fun y hy => eqb_at rv y (by simpa using hy) _ _, ?_⟩
  have ec : its.toArray.toList.countP (isBoolOf k) = ys.count k := eqb_count rv
  refine ⟨.int (ys.count k : Nat), H, I.tok _, ⟨s.toks, ?_⟩, q⟩
  show Value.int ((its.toArray.toList.countP (isBoolOf k) : Nat) : Int) s.toks = Value.int ((ys.count k : Nat) : Int) s.toks
  rw [ec]
theorem mt_lcountBK {X : Cx} {K : PySem.W.Frag} (h : X.K = K := by rfl) : MtR X "list.count" (rCntB K) := h ▸ mt_lcountB
theorem mt_indexDK {X : Cx} {K : PySem.W.Frag} (hu : X.A.units + 65 < cLine) (h : X.K = K := by rfl) : MtR X "list.index" (rIndexD K) := h ▸ mt_indexD hu
def rIsY (K : PySem.W.Frag) (cls : Value) (a : Addr) (d : Option Addr) : List V → Hp → VK → Prop := fun xs H Q => ∃ (D : Addr) (c : V) (cv : Value) (b : Bool), xs = [.ref a, c] ∧ cls = .ref D ∧ ExcC K D ∧ (∀ u, RelV c u → u = cv) ∧ PySem.W.kitOne K (.ref D) cv = some b ∧ DictSt H d ∧ Q (.bl b) H
theorem call_isY {X : Cx} {a : Addr} {cls : Value} {d : Option Addr} {oe : Obj} {pn : List (Addr × Obj)} (hz : Zc cls d oe) (hf : ∃ vs, oe.data = .fields vs) : CallR (X.suite a ((a, oe) :: pn)) (.builtin "isinstance") (rIsY X.K cls a d) := by
  intro pins s σ H xs us Q I r h
  obtain ⟨D, c, cv, b, e1, rfl, hC, hcv, e, hd, q⟩ := h
  exact call_isX hC hz hf pins s σ H xs us Q I r ⟨c, cv, b, e1, hcv, e, hd, q⟩
def tXfY (K : PySem.W.Frag) (a : Addr) (cls : Value) (d : Option Addr) (f : Str) (te : TE) : TE := fun σ H Q => te σ H fun x H1 => x = .ref a ∧ ∃ (C dd : Addr) (fs : List (Str × V)) (v : V), cls = .ref C ∧ XfC K C ∧ PySem.W.findIn K (.ref C) f = some none ∧ d = some dd ∧ H1 dd = some (.xd fs) ∧ fs.lookup f = some v ∧ Q v H1
theorem pe_xfY {X : Cx} {a : Addr} {oe : Obj} {cls : Value} {d : Option Addr} {pn : List (Addr × Obj)} {e : Expr} {te : TE} {pos : Pos} {n : Str}
    (hz : Zc cls d oe) (hf : ∃ vs, oe.data = .fields vs) (he : PE (X.suite a ((a, oe) :: pn)) e te) (hb : attributeBase e n X.env (eval e X.env) = eval e X.env := by rfl) :
    PE (X.suite a ((a, oe) :: pn)) (.Attribute e n pos) (tXfY X.K a cls d n te) := by
  refine ⟨fun pins s σ H Q I h => ?_⟩
  refine attr_of hb (thn (he.run pins s σ H _ I h) fun u s1 hh => ?_)
  obtain ⟨x, H1, I1, rx, ex, C, dd, fs, v, ec, T, hno, ed, ea, l, q⟩ := hh
  subst ex
  obtain rfl : u = Value.ref a := rx
  subst ec
  subst ed
  obtain ⟨ha, _⟩ := I1.pin (a, oe) (List.mem_append_left _ List.mem_cons_self)
  obtain ⟨vs, hd⟩ := hf
  have hx : ObjOk X.prog X.w H1 s1.heap dd (.xd fs) := I1.hok dd _ ea
  obtain ⟨mA, hns, hr⟩ := hx
  obtain ⟨od, ho, hl⟩ := lookIn_ns hns
  obtain ⟨u, hu, ru⟩ := RelO.some_of (v := v) (o := mA n) (by rw [← l]; exact hr n)
  have J : PySem.W.InstAt s1.heap a oe C (some od) := ⟨ha, hz.1, by unfold PySem.W.notCls; rw [hd] <;> rfl, by rw [hz.2]; exact ho⟩
  exact HandSPX.exc_get I1.kIn J T.ga T.gg T.exC (PySem.W.findObj_own T.hdC hno rfl (by rw [hl, hu])) (handed_of ru) ⟨v, H1, I1.tok _, ru, q⟩
structure ErrC (K : PySem.W.Frag) (C M : Addr) : Prop where
  exc : ExcC K C
  exm : PySem.W.exmOne K (.ref C) (.ref M) = some true
  ve : PySem.W.kitOne K (.ref C) (.type "ValueError") = some true
theorem ErrC.xf {K : PySem.W.Frag} {C M : Addr} (h : ErrC K C M) : XfC K C := ⟨h.exc.hg, h.exc.hk, h.exc.hs, h.exc.hd⟩
inductive Err where
  | order (i : V)
  | unknown (i : V)
  | address
  | day
  | number
  | letter (i : V)
  | holding (i : V)
  | operation (i : V)
  | contra
  | count
  | decode (i : V)
  | note (r w : V)
structure Cls5 where
  order : Addr
  unknown : Addr
  address : Addr
  day : Addr
  number : Addr
  letter : Addr
  holding : Addr
  operation : Addr
  contra : Addr
  count : Addr
  decode : Addr
  note : Addr
def ErrAt (c : Cls5) (cls : Value) (d : Option Addr) (H : Hp) : Err → Prop
  | .order v => cls = .ref c.order ∧ ∃ dd, d = some dd ∧ H dd = some (.xd [("index", v)])
  | .unknown v => cls = .ref c.unknown ∧ ∃ dd, d = some dd ∧ H dd = some (.xd [("index", v)])
  | .address => cls = .ref c.address ∧ d = none
  | .day => cls = .ref c.day ∧ d = none
  | .number => cls = .ref c.number ∧ d = none
  | .letter v => cls = .ref c.letter ∧ ∃ dd, d = some dd ∧ H dd = some (.xd [("letter", v)])
  | .holding v => cls = .ref c.holding ∧ ∃ dd, d = some dd ∧ H dd = some (.xd [("index", v)])
  | .operation v => cls = .ref c.operation ∧ ∃ dd, d = some dd ∧ H dd = some (.xd [("index", v)])
  | .contra => cls = .ref c.contra ∧ d = none
  | .count => cls = .ref c.count ∧ d = none
  | .decode v => cls = .ref c.decode ∧ ∃ dd, d = some dd ∧ H dd = some (.xd [("offset", v)])
  | .note r w => cls = .ref c.note ∧ ∃ dd, d = some dd ∧ H dd = some (.xd [("word", w), ("row", r)])
def errV : Err → List V
  | .order v => [.str "order", v]
  | .unknown v => [.str "unknown", v]
  | .address => [.str "address"]
  | .day => [.str "day"]
  | .number => [.str "number"]
  | _ => []
def TRaised (rk : Err → Prop) (c : Cls5) : (XK → Hp → VK → Prop) → Hp → VK → Prop := fun tl H Q =>
  tl (fun cls d H' => ∃ r, rk r ∧ ErrAt c cls d H' r ∧ ∀ p H2, Same H' H2 → H' p = none → H2 p = some (.tup (errV r)) → Q (.ref p) H2) H (fun _ H' => Q .non H')
def errT : Err → Str × List V
  | .order v => ("InvalidOrder", [v])
  | .unknown v => ("UnknownOrder", [v])
  | .address => ("InvalidAddress", [])
  | .day => ("InvalidDay", [])
  | .number => ("InvalidNumber", [])
  | .letter v => ("UnknownLetter", [v])
  | .holding v => ("NotHolding", [v])
  | .operation v => ("InvalidOperation", [v])
  | .contra => ("Contradiction", [])
  | .count => ("InvalidCount", [])
  | .decode v => ("DecodeError", [v])
  | .note r w => ("NotationError", [r, w])
def ToldAt (H : Hp) (p : Addr) (r : Err) : Prop := match (errT r).2 with
  | [] => H p = some (.tup [.str "error", .str (errT r).1])
  | vs => ∃ l, H p = some (.tup [.str "error", .str (errT r).1, .ref l]) ∧ H l = some (.lst vs)
def TTold (rk : Err → Prop) (c : Cls5) : (XK → Hp → VK → Prop) → Hp → VK → Prop := fun tl H Q =>
  tl (fun cls d H' => ∃ r, rk r ∧ ErrAt c cls d H' r ∧ ∀ p H2, Same H' H2 → H' p = none → ToldAt H2 p r → Q (.ref p) H2) H Q
def wordAt : Nat → Str
  | 0 => "order"
  | 1 => "unknown"
  | 2 => "address"
  | 3 => "day"
  | _ => "number"
end MF
set_option Elab.async false
set_option linter.all false
set_option maxRecDepth 100000
set_option maxHeartbeats 2000000
namespace MF
open PySem PySem.Spec PyProof.Rows L2 StX LamX
theorem pss_no {X : Cx} {ss : List Stmt} : PSs X ss (fun _ _ _ => False) := ⟨fun _ _ _ _ _ _ h => h.elim⟩
theorem ps_no {X : Cx} {st : Stmt} : PS X st (fun _ _ _ => False) := ⟨fun _ _ _ _ _ _ h => h.elim⟩
theorem pe_no {X : Cx} {e : Expr} : PE X e (fun _ _ _ => False) := ⟨fun _ _ _ _ _ _ h => h.elim⟩
theorem passM {X : Cx} {A : Around} {outer : List Env} {s : Shared} {H : Hp} {E : XK} {scope : Scope} {f c' : Addr} : Passes (L2.CX X.prog X.w) (lamCx X A outer s H E scope f c') E := passes_call (W := fun cls d _ H => E cls d H) (takes_of rfl rfl rfl rfl) fun _ _ _ _ h => h
theorem passN {X : Cx} : Passes (L2.CX X.prog X.w) X E0 := fun _ _ _ _ _ _ _ h => by
  obtain ⟨_, _, _, _, _, _, _, _, _, _, _, _, z⟩ := h
  exact z.elim
theorem pe_lamX {X : Cx} {k : Nat} {params : Arguments} {body : Expr} {scope : Scope} {t : XK → TE} {T : List (Addr × Str)} {q : Str} {c P : Addr} {lpos : Pos} (TB : TabB X.base X.mg c P) (hmT : (P, q) ∈ T) (hu : ∀ p ∈ T, p.1 = P → p.2 = q) (hq : X.env.qual ++ "<lambda>" = q) (hcode : X.env.code = .ref c)
    (hdef : defaultsOf params X.env = ([], [])) (L : LamS X.env.scope scope) (bind : ∀ (q : Str) (cl : List (Str × Addr)) (doc pm cv ctv : Value), bindArgs (lamFd q params body scope cl .none doc pm cv ctv) ⟨[], []⟩ = pure [])
    (run : ∀ (A : Around) (outer : List Env) (s : Shared) (H : Hp) (E : XK) (f c' : Addr), Room k (A.deeper (lamEnv X scope s.heap.objs.size f c')) → PE (lamCx X A outer s H E scope f c') body (t E)) :
    PE X (.Lambda params body scope lpos) (tLamE T X (k := k) ⟨none, params, body, scope, t, lamSN_of L, bind, run⟩) := by
  subst hq
  exact pe_lamE (k := k) ⟨none, params, body, scope, t, lamSN_of L, bind, run⟩ rfl TB hcode hmT hu hdef
theorem pe_lamXD {X : Cx} {k : Nat} {x : Str} {params : Arguments} {body : Expr} {scope : Scope} {t : XK → TE} {T : List (Addr × Str)} {q : Str} {c P : Addr} {lpos p0 : Pos} {i0 : Int} {j0 : Nat} (TB : TabB X.base X.mg c P) (hmT : (P, q) ∈ T) (hu : ∀ p ∈ T, p.1 = P → p.2 = q) (hq : X.env.qual ++ "<lambda>" = q) (hcode : X.env.code = .ref c)
    (hdef : params.defaults = [.Constant (.int i0) j0 p0]) (hkw : params.kw_defaults = []) (L : LamSN X.N X.env.scope scope) (hl : scope.names.lookup x = some .local) (bind : ∀ (q : Str) (cl : List (Str × Addr)) (T : Addr) (doc pm cv ctv : Value), ∃ k, bindArgs (lamFd q params body scope cl (.ref T) doc pm cv ctv) ⟨[], []⟩ = seqItems? (.ref T) >>= k ∧ ∀ u, k (some #[u]) = pure [(x, u)])
    (run : ∀ (A : Around) (outer : List Env) (s : Shared) (H : Hp) (E : XK) (f c' : Addr), Room k (A.deeper (lamEnv X scope s.heap.objs.size f c')) → PE (lamCx X A outer s H E scope f c') body (t E)) :
    PE X (.Lambda params body scope lpos) (tLamE T X (k := k) ⟨some x, params, body, scope, t, L, ⟨hl, bind⟩, run⟩) := by
  subst hq
  exact pe_lamD (k := k) ⟨some x, params, body, scope, t, L, ⟨hl, bind⟩, run⟩ rfl TB hcode hmT hu hdef hkw
structure FunC (K : PySem.W.Frag) (x qual : Str) (st : Stmt) (f : Addr) (fd : FuncData) (c : Addr) : Prop where
  ex : ∃ (oc : Value) (od : Option Addr) (kV doc pm : Value) (an : Option Addr) (ct : Value) (osl : Array (Option Value)), fd = PySem.W.fnOf x qual (defArgs st) (defBody st) (defScope st) .none kV doc pm an (.ref c) ct ∧ K.lookup f = some ⟨oc, od, .func fd, osl⟩ ∧ PySem.W.codeIn K (.ref c) qual = true
theorem FunC.ok {P : Program} {w : World} {K : PySem.W.Frag} {mg : Str → Option Value} {base : Heap} {x qual : Str} {st : Stmt} {f c : Addr} {fd : FuncData} {N ps : List Str} {k : Nat} {sp : Sp} (F : FunC K x qual st f fd c) (S : FnScope N ps (defScope st)) (len : ∀ vs H Q E, sp vs H Q E → vs.length = ps.length)
    (hbody : ∀ (A : Around) (outer : List Env) (s : Shared) (H : Hp) (vs : List V) (Q : VK) (E : XK), Room k (A.deeper (envOfC qual (defScope st) s.heap.objs.size f (.ref c))) → sp vs H Q E →
      ∃ t, PSs (cxOf CX0 P w K mg base N qual (defScope st) f (.ref c) A outer s H E).nox (defBody st) t ∧ t { nx := fun _ H' => Q .non H', rt := Q } (start N vs) H) : FnOk P w K mg base CX0 (k + 1) f fd ps sp := by
  obtain ⟨oc, od, kV, doc, pm, an, ct, osl, rfl, lk, hcd⟩ := F.ex
  refine fn_of lk hcd S len fun A outer s H vs Q E hr hsp => ?_
  obtain ⟨t, h, q⟩ := hbody A outer s H vs Q E hr hsp
  exact ⟨t, h.nox, q⟩
theorem GDef.fnX {P : Program} {w : World} {K : PySem.W.Frag} {mg : Str → Option Value} {base : Heap} {k : Nat} {x : Str} {st : Stmt} {ps N : List Str} {sp : Sp} (D : GDef K mg x st ps) (S : FnScope N ps (defScope st)) (len : ∀ vs H Q E, sp vs H Q E → vs.length = ps.length)
    (hbody : ∀ (f : Addr) (cdv : Value) (A : Around) (outer : List Env) (s : Shared) (H : Hp) (vs : List V) (Q : VK) (E : XK), Room k (A.deeper (envOfC x (defScope st) s.heap.objs.size f cdv)) → sp vs H Q E →
      ∃ t, PSs (cxOf (L2.CX P w) P w K mg base N x (defScope st) f cdv A outer s H E) (defBody st) t ∧ t { nx := fun _ H' => Q .non H', rt := Q } (start N vs) H) : GFn P w K mg base (L2.CX P w) (k + 1) x sp :=
  D.fn fun f fd F => by
    obtain ⟨oc, od, kV, doc, pm, an, cdv, ct, osl, rfl, lk, hcd⟩ := F.ex
    exact fn_of lk hcd S len fun A outer s H vs Q E hr hsp => hbody f cdv A outer s H vs Q E hr hsp
theorem MDef.fnX {P : Program} {w : World} {K : PySem.W.Frag} {mg : Str → Option Value} {base : Heap} {k : Nat} {C : Addr} {m qual : Str} {st : Stmt} {ps N : List Str} {sp : Sp} (D : MDef K C m qual st ps) (S : FnScope N ps (defScope st)) (len : ∀ vs H Q E, sp vs H Q E → vs.length = ps.length)
    (hbody : ∀ (f : Addr) (cdv : Value) (A : Around) (outer : List Env) (s : Shared) (H : Hp) (vs : List V) (Q : VK) (E : XK), Room k (A.deeper (envOfC qual (defScope st) s.heap.objs.size f cdv)) → sp vs H Q E →
      ∃ t, PSs (cxOf (L2.CX P w) P w K mg base N qual (defScope st) f cdv A outer s H E) (defBody st) t ∧ t { nx := fun _ H' => Q .non H', rt := Q } (start N vs) H) : MFn P w K mg base (L2.CX P w) (k + 1) C m sp :=
  D.fn fun f fd F => by
    obtain ⟨oc, od, kV, doc, pm, an, cdv, ct, osl, rfl, lk, hcd⟩ := F.ex
    exact fn_of lk hcd S len fun A outer s H vs Q E hr hsp => hbody f cdv A outer s H vs Q E hr hsp
def spLawT (K : PySem.W.Frag) (Ps : List Addr) : Sp := fun vs H Q _ => ∃ (a : Addr) (ns : List Int), vs = [.ref a] ∧ SqL K H a (ns.map V.int) ∧ ns.length ≤ 63 ∧ (∀ P ∈ Ps, H P = some (.tbl #[])) ∧ ∀ H', Q (.bl true) H'
theorem op_neDK {X : Cx} {K : PySem.W.Frag} (hu : X.A.units + 64 < cLine) (h : X.K = K := by rfl) : OpR X (compareOp .NotEq) (rNeD K) := h ▸ op_neD hu
theorem op_eqDK {X : Cx} {K : PySem.W.Frag} (hu : X.A.units + 64 < cLine) (h : X.K = K := by rfl) : OpR X (compareOp .Eq) (rEqD K) := h ▸ op_eqD hu
theorem ExtN.ext {H H' : Hp} (e : ExtN H H') : ∀ b φ, H b = some (.ext φ) → H' b = some (.ext φ) := fun b φ h => e _ _ h fun ps z => by cases z
end MF
set_option Elab.async false
set_option linter.all false
set_option maxRecDepth 100000
set_option maxHeartbeats 2000000
namespace MF
open PySem PySem.Spec PyProof.Rows L2 StX LamX
structure GDefC (K : PySem.W.Frag) (mg : Str → Option Value) (x : Str) (st : Stmt) (ps : List Str) (c : Addr) : Prop where
  ex : ∃ f fd, FunC K x x st f fd c ∧ mg x = some (.ref f) ∧ Binds K fd ps [] ∧ PySem.W.keepIn K (.ref f) = true
theorem GDefC.fn {P : Program} {w : World} {K : PySem.W.Frag} {mg : Str → Option Value} {base : Heap} {CX : CXT} {k : Nat} {x : Str} {st : Stmt} {ps : List Str} {sp : Sp} {c : Addr} (D : GDefC K mg x st ps c) (h : ∀ f fd, FunC K x x st f fd c → FnOk P w K mg base CX k f fd ps sp) : GFn P w K mg base CX k x sp :=
  let ⟨f, fd, a, b, d, e⟩ := D.ex
  ⟨f, raw0 (h f fd a) d, b, e⟩
end MF
set_option Elab.async false
set_option linter.all false
set_option maxRecDepth 100000
set_option maxHeartbeats 2000000
namespace MF
open PySem PySem.Spec PyProof.Rows L2 StX
def oexB (K : PySem.W.Frag) (C : Addr) : Bool := match K.lookup C with
  | some ⟨.type "type", _, .cls cd, sl⟩ => (match cd.mro, sl.toList with
    | .ref C' :: bm, [_, _, _, _, some (.builtin n), _] => C' == C && n == "ValueError.__new__" && cd.hasDict && !cd.hasDel && PySem.HandSPX.refsVE bm
    | _, _ => false)
  | _ => false
theorem oex_cls {K : PySem.W.Frag} {C : Addr} (q : oexB K C = true) : ∃ nm q N bs bm sn sub ab col dd k0 k1 k2 k3 k5, K.lookup C = some (excClassObj nm q C N bs bm true sn sub ab col dd k0 k1 k2 k3 k5 "ValueError.__new__") ∧ PySem.HandSPX.refsVE bm = true := by
  unfold oexB at q
  split at q
  · rename_i dd cd sl hk
    split at q
    · rename_i C' bm k0 k1 k2 k3 n k5 hm hs
      simp only [Bool.and_eq_true, Bool.not_eq_true'] at q
      obtain ⟨⟨⟨⟨e1, e2⟩, e3⟩, e4⟩, e5⟩ := q
      obtain rfl : C' = C := beq_iff_eq.mp e1
      obtain rfl : n = "ValueError.__new__" := beq_iff_eq.mp e2
      obtain ⟨nm, bs, mro, N, qn, hdct, sn, sub, ab, col, del⟩ := cd
      simp only at hm e3 e4
      subst hm e3 e4
      have : sl = #[k0, k1, k2, k3, some (.builtin "ValueError.__new__"), k5] := Array.ext' hs
      subst this
      exact ⟨nm, qn, N, bs, bm, sn, sub, ab, col, dd, k0, k1, k2, k3, k5, hk, e5⟩
    · cases q
  · cases q
theorem oex_of {K : PySem.W.Frag} {C : Addr} (q : oexB K C = true) (sa : PySem.W.findIn K (.ref C) "__setattr__" = some (some (.builtin "object.__setattr__"))) (exC : PySem.W.subIn K (.ref C) (.type "BaseException") = some true) (tyC : PySem.W.typeIn K (.ref C) = some (.type "type")) (kC : PySem.W.keepIn K (.ref C) = true) : OexC K C := ⟨oex_cls q, sa, exC, tyC, kC⟩
end MF
set_option Elab.async false
set_option linter.all false
set_option maxRecDepth 100000
set_option maxHeartbeats 2000000
namespace MF
open PySem PySem.Spec PyProof.Rows L2 StX
theorem SDef.fnX {P : Program} {w : World} {K : PySem.W.Frag} {mg : Str → Option Value} {base : Heap} {k : Nat} {C : Addr} {x qual p1 pv : Str} {st : Stmt} {N : List Str} {sp : Sp} (D : SDef K mg C x qual st p1 pv) (S : FnScope N [p1, pv] (defScope st))
    (hbody : ∀ (f : Addr) (cdv : Value) (A : Around) (outer : List Env) (s : Shared) (H : Hp) (vs : List V) (Q : VK) (E : XK), Room k (A.deeper (envOfC qual (defScope st) s.heap.objs.size f cdv)) → sp vs H Q E →
      ∃ t, PSs (cxOf (L2.CX P w) P w K mg base N qual (defScope st) f cdv A outer s H E) (defBody st) t ∧ t { nx := fun _ H' => Q .non H', rt := Q } (start N vs) H) :
    IFn P w K mg base (L2.CX P w) (k + 1) C x (fun vs H Q E => ∃ v rest, vs = v :: rest ∧ rest.length ≤ sizeLine ∧ ∀ p, H p = Option.none → sp [v, V.ref p] (upd H p (.tup rest)) Q E) := by
  obtain ⟨f, fd, F, M, hm, hb⟩ := D.ex
  obtain ⟨oc, od, kV, doc, pm, an, cdv, ct, osl, rfl, lk, hcd⟩ := F.ex
  refine ⟨f, (fn_star (ps := [p1]) (pv := pv) (sp := sp) lk hcd S cxUp hb fun A outer s H vs Q E hr hsp => hbody f cdv A outer s H vs Q E hr hsp).imp fun vs H Q E h => ?_, M, hm⟩
  obtain ⟨v, rest, rfl, hl, q⟩ := h
  exact ⟨[v], rest, rfl, rfl, hl, q⟩
theorem owns_cx {P : Program} {w : World} {K : PySem.W.Frag} {mg : Str → Option Value} {base : Heap} {N : List Str} {qual : Str} {scope : Scope} {f : Addr} {cd : Value} {A : Around} {outer : List Env} {s : Shared} {H : Hp} {E : XK} :
    PassesOwn (model P w) (cxOf (L2.CX P w) P w K mg base N qual scope f cd A outer s H E).A (cxOf (L2.CX P w) P w K mg base N qual scope f cd A outer s H E).env (cxOf (L2.CX P w) P w K mg base N qual scope f cd A outer s H E).xe :=
  passes_of (X := cxOf (L2.CX P w) P w K mg base N qual scope f cd A outer s H E) rfl
end MF
set_option Elab.async false
set_option linter.all false
set_option maxRecDepth 100000
set_option maxHeartbeats 2000000
namespace MF
open PySem PySem.Spec PyProof.Rows L2 StX LamX
def xeB (X : Cx) (ce : Env) : Value → Shared → Prop := notedBy (model X.prog X.w) X.A ce fun e s' => CompFails (model X.prog X.w) X.A X.xe ce e s'
theorem noteFrame_as {e : Value} {a b : Env} (h : a.frame = b.frame) : noteFrame e a = noteFrame e b := by
  unfold PySem.noteFrame PySem.frameOf
  rw [h]
theorem passOn_as {α : Type} {t : String} {e : Value} {a b : Env} (h : a.frame = b.frame) : (PySem.passOn t e a : Sem α) = PySem.passOn t e b := by
  unfold PySem.passOn
  rw [h]
theorem funFrames_but {B B' h h' : Heap} {C : Addr} : ∀ {l : List Env}, h.FunFrames B l → (∀ b, B'.get? b = none ∨ B'.get? b = B.get? b) → (∀ b, b ≠ C → h'.get? b = h.get? b) → C ∉ frs l → h'.FunFrames B' l
  | [], _, _, _, _ => trivial
  | env :: l, hh, hB, k, hC => by
    obtain ⟨hk, ⟨L, o, hf, hn, ho, hd⟩, hr⟩ := hh
    have hL : L ∈ frs (env :: l) := List.mem_filterMap.mpr ⟨env, List.mem_cons_self, hf⟩
    refine ⟨hk, ⟨L, o, hf, ?_, by rw [k L (fun z => hC (z ▸ hL))]; exact ho, hd⟩, funFrames_but hr hB k fun z => hC ?_⟩
    · rcases hB L with z | z
      · exact z
      · rw [z]; exact hn
    · obtain ⟨e, he, q⟩ := List.mem_filterMap.mp z
      exact List.mem_filterMap.mpr ⟨e, List.mem_cons_of_mem _ he, q⟩
section
variable {X : Cx}
theorem passes_blk {pins : List (Addr × Obj)} {σ : L2.St} {H : Hp} {s : Shared} {fp : List Addr} {scope : Scope} {cl : List (Str × Addr)} {C : Addr} {E : XK} (hs : X.stack = X.env :: X.outer) (hf : X.env.frame = some X.env.locals)
    (tk : Takes X fun cls d _ H => E cls d H) (B : BI X pins σ H s fp) (hC : s.heap.objs.size ≤ C) :
    Passes (L2.CX X.prog X.w) ((X.blk s H scope (compEnvC scope cl C X.env) fp).wish (xeB X (compEnvC scope cl C X.env))) E := by
  intro pins' σ' H' s' u s'' I c
  have I1 := I.unwish
  have I2 : Inv X pins σ H' s' := B.now I1
  obtain ⟨m, hnm, _⟩ := I1.loc
  have hnm : s'.heap.Ns C m := hnm
  have hCn : H' C = none := I1.free
  have c' : L2.CX X.prog X.w X.stack H' s' E u s'' := c
  obtain ⟨a, B0, HE, cls, d, rfl, fl, hok, ub, na, os, ag, hE⟩ := c'
  have FC : FpOk X pins HE C := by
    obtain ⟨o, _, _, eo, _⟩ := hnm
    exact B.inv.fpOk hC (ub.free C o eo hCn)
  have stk : C ∉ frs X.stack := fun z => by
    rw [hs] at z
    obtain ⟨e, he, q⟩ := List.mem_filterMap.mp z
    rcases List.mem_cons.mp he with w | w
    · rw [w, hf] at q
      exact FC.2.1 (Option.some.inj q).symm
    · exact FC.2.2.1 (List.mem_filterMap.mpr ⟨e, w, q⟩)
  have hnB : s''.heap.Ns C m := by
    obtain ⟨o, es, ep, eo, r⟩ := hnm
    exact ⟨o, es, ep, fl.1 _ _ (ub.keep C o eo hCn stk), r⟩
  have xx : XE X (fun cls d _ H => (E cls d H ∧ H C = none)) (.ref a) s'' := XE.of_call (E := fun cls d H => E cls d H ∧ H C = none) I2 (fun _ _ _ h => h) ⟨a, B0, HE, cls, d, rfl, fl, hok, ub, na, os, ag, hE, FC.1⟩
  clear fl hok ub na os ag hE hnm
  obtain ⟨a', B1, sI, pinsI, σI, HI, cls, d, ea, II, nb, up, sky, na, os, ag, hE, hIC⟩ := xx
  cases ea
  have II0 : Inv X [] σI HI sI := ⟨II.ok, II.os, II.bare, II.base, II.loc, II.cell, II.free, II.freeC, fun p hp => II.pin p (by
    rw [List.append_nil] at hp
    exact List.mem_append_left _ hp), II.hok, II.len⟩
  have hfr : X.A.frames = some (X.env :: X.outer) := by rw [II.ok.frames, hs]
  have cf : (compEnvC scope cl C X.env).frame = X.env.frame := rfl
  show wpAny (model X.prog X.w) X.A (noteFrame (.ref a) (compEnvC scope cl C X.env)) _ _ _
  rw [noteFrame_as cf]
  have fin : ∀ h3, HandSPX.HeldZ B1 (X.env :: X.outer) a (Zc cls d) X.env.locals h3 → s''.heap.UpToSlots h3 → CompFails (model X.prog X.w) X.A X.xe (compEnvC scope cl C X.env) (.ref a) { s'' with heap := h3 } := by
    intro h3 hh up3
    obtain ⟨k1, k2, k3, oe, vs, T, oT, ts, he, hz, hd, h1, hnT, hTe, hT, hdT, ht3⟩ := hh
    have n3 := up3.ns hnB
    refine ⟨m, n3, fun h' m' hn' sb => ?_⟩
    replace sb : Heap.SameBut C h3 h' := sb
    show wpAny (model X.prog X.w) X.A (PySem.passOn "comprehension.variables-let-go" (.ref a) (compEnvC scope cl C X.env)) _ _ _
    rw [passOn_as cf]
    have noC : ∀ {b o vs}, h3.get? b = some o → o.data = .fields vs → b ≠ C := fun {b o vs} e dd z => by
      obtain ⟨o', es, ep, e', d', _⟩ := n3
      rw [z, e'] at e
      cases e
      rw [d'] at dd
      cases dd
    have aC : a ≠ C := noC he hd
    have TC : T ≠ C := noC hT hdT
    have he' : h'.get? a = some oe := by rw [sb.2 a aC]; exact he
    have hT' : h'.get? T = some oT := by rw [sb.2 T TC]; exact hT
    obtain ⟨B2, g1, g2⟩ := restrict B1 fun b => !decide (b = C)
    have B2in : ∀ b o, B2.get? b = some o → B1.get? b = some o ∧ b ≠ C := fun b o e => by
      by_cases c : b = C
      · rw [g2 b (by simp [c])] at e
        cases e
      · rw [g1 b (by simp [c])] at e
        exact ⟨e, c⟩
    obtain ⟨G, q1, q2⟩ := restrict sI.heap fun b => !decide (b = C)
    have Gin : ∀ b o, G.get? b = some o → sI.heap.get? b = some o ∧ b ≠ C := fun b o e => by
      by_cases c : b = C
      · rw [q2 b (by simp [c])] at e
        cases e
      · rw [q1 b (by simp [c])] at e
        exact ⟨e, c⟩
    have st2 : B2.StaysIn h' := fun b o e => by
      obtain ⟨e1, n⟩ := B2in b o e
      rw [sb.2 b n]
      exact k1 b o e1
    have an2 : B2.get? a = none := by rw [g1 a (by simp [aC])]; exact k2
    have ff2 : h'.FunFrames B2 (X.env :: X.outer) := funFrames_but k3 (fun b => by
      by_cases c : b = C
      · exact .inl (g2 b (by simp [c]))
      · exact .inr (g1 b (by simp [c]))) sb.2 (by rw [← hs]; exact stk)
    have Tn2 : B2.get? T = none := by rw [g1 T (by simp [TC])]; exact hnT
    have tr2 : HandSPX.TracedZ h' B2 a (Zc cls d) (rawInt X.env.locals) := ⟨oe, vs, T, oT, ts, he', hz, hd, h1, Tn2, hTe, hT', hdT, ht3⟩
    unfold PySem.passOn
    refine wpAny_bind (wpAny_field he' hd h1 ?_)
    rw [if_neg (show ¬ ((Value.ref T == Value.none) = true) from by simp)]
    have goOn : wpAny (model X.prog X.w) X.A (setFlight (.ref a) X.env.frame) (fun _ s7 => wpAny (model X.prog X.w) X.A (throw (.ref a) : Sem Value) (fun _ _ => False) X.xe s7) X.xe { s'' with heap := h' } := by
      rw [hf]
      refine HandSPX.setFlight_anyZ (s := { s'' with heap := h' }) (fr := some X.env.locals) st2 ff2 tr2 fun h7 z1 z2 z3 z4 => wpAny_throw (tk _ _ ?_)
      refine ⟨a, B2, { sI with heap := G }, [], σI, HI, cls, d, rfl, ?_, fun b o e hb => ?_, fun b o e hn => ?_, ?_, na, os, ag, hE⟩
      · exact II0.turned (t' := sI.toks) (it := C) (fun b o hb e => by rw [q1 b (by simp [hb])]; exact e) hIC FC.2.1 FC.2.2.2.1 FC.2.2.2.2.1 fun p hp => FC.2.2.2.2.2 p (by
          rw [List.append_nil] at hp
          exact List.mem_append_left _ hp)
      · obtain ⟨e1, n⟩ := Gin b o e
        rw [g1 b (by simp [n])]
        exact nb b o e1 hb
      · obtain ⟨e1, n⟩ := Gin b o e
        obtain ⟨sl, e2⟩ := (up.trans up3) b o e1 hn
        exact z4 b { o with slots := sl } (by rw [sb.2 b n]; exact e2) hn
      · exact .inr (.inr ⟨z1, an2, by rw [hs]; exact z2, z3⟩)
    first
      | exact wpAny_bind (wpAny_pure (wpAny_bind goOn))
      | exact wpAny_bind goOn
  have sky' : Sky B1 (X.env :: X.outer) a (Zc cls d) X.env.locals s''.heap := by rw [← hs]; exact sky
  rcases sky' with ⟨hB, hn, hl, oe, vs, he0, hz, hd, hv1⟩ | fl | hh
  · exact HandSPX.look_newZ Zc.steady hfr hl hf he0 hB hn hd hv1 hz fin
  · exact HandSPX.looks_onZ Zc.steady hfr hf fl fin
  · exact HandSPX.againZ hf hh.2.2.2 (fin s''.heap hh (Heap.UpToSlots.refl _))
theorem lcX_core {pins : List (Addr × Obj)} {s : Shared} {σ : L2.St} {H : Hp} {Q : VK} {elt tg iter : Expr} {ifs : List Expr} {scope : Scope} {own : List (Str × Nat)} {pos pos' : Pos} {wi : TI} {g : TG} {tt : TT} {te : TE} {Qf : Value → Shared → Prop} {E : XK}
    (hc : X.calm = true) (hst : X.stack = X.env :: X.outer) (hfx : X.env.frame = some X.env.locals) (tk : Takes X fun cls d _ H => E cls d H) (hN : X.N.Nodup) (I : Inv X pins σ H s) (hi : PI X tg iter wi) (ok : BlkOk X.N X.env.scope scope own)
    (hg : ∀ (s : Shared) (H : Hp) (C : Addr) (cl : List (Str × Addr)) (fp : List Addr), PG (X.blk s H scope (compEnvC scope cl C X.env) fp) tg g)
    (ht : ∀ (s : Shared) (H : Hp) (C : Addr) (cl : List (Str × Addr)) (fp : List Addr), PTs (X.blk s H scope (compEnvC scope cl C X.env) fp) ifs tt)
    (he : ∀ (s : Shared) (H : Hp) (C : Addr) (cl : List (Str × Addr)) (fp : List Addr), Passes (L2.CX X.prog X.w) ((X.blk s H scope (compEnvC scope cl C X.env) fp).wish (xeB X (compEnvC scope cl C X.env))) E → PE ((X.blk s H scope (compEnvC scope cl C X.env) fp).wish (xeB X (compEnvC scope cl C X.env))) elt te) (hs : ∀ x, foldedSetIterable iter X.env x = pure x)
    (h : tLc wi g tt te (own.map (·.2)) σ H Q)
    (hRR : ∀ D C s' m H', Inv X pins σ H' s' → Q (.ref D) H' → s'.heap.Ns C m → FpOk X pins H' C → ∃ m, s'.heap.Ns C m ∧ ∀ h', Heap.SameBut C s'.heap h' → Qf (.ref D) { s' with heap := h' }) :
    wpAny (model X.prog X.w) X.A (comprehension (.ListComp elt [⟨tg, iter, ifs, 0⟩] scope pos) scope X.env pos' (newList []) false (eval iter X.env) none) Qf X.xe s := by
  have hfree : ∀ y ∈ scope.names, y.2 = .free → ∃ c, X.env.cells.lookup y.1 = some c := fun y hy e => by
    rcases ok.free y hy e with k | k
    · exact I.ok.has _ (.inl k)
    · exact I.ok.has _ (.inr k)
  refine comprehension_at (use := none) rfl hs (closure_ok hfree) ok.kind (fun y hy e => by rw [ok.uniq y hy, e])
    (thn (hi.run pins s σ H _ I h) fun xv s1 hx => thn hx fun itv s2 h2 => ?_)
  obtain ⟨it, fp, tn, J, H2, e, I2, T, st2, f2, q⟩ := h2
  subst e
  refine wpAny_newObj_type (newEnv_comp ?_) (by show 0 ≤ sizeLine; decide)
  generalize hD : s2.heap.objs.size = D
  have hDn : H2 D = none := I2.hok.fresh (Nat.le_of_eq hD)
  obtain ⟨W, ⟨m0, w0⟩, turn⟩ := q D hDn
  generalize hs3 : ({ s2 with heap := s2.heap.push { cls := .type "list", data := .seq ([] : List Value).toArray } } : Shared) = s3
  have I3 : Inv X pins σ (upd H2 D (.lst [])) s3 := by
    rw [← hs3]
    refine I2.laid (t' := s2.toks) (fun b o e => Heap.get?_push_of_some _ e) (Nat.le_of_eq hD) ⟨Nat.zero_le _, [], 0, .nil, ?_⟩
    rw [← hD]
    exact Heap.get?_push_size _ rfl
  have h3 : s3.heap = s2.heap.push { cls := .type "list", data := .seq ([] : List Value).toArray } := by rw [← hs3]
  have f3 : ∀ b ∈ fp, FpOk X pins (upd H2 D (.lst [])) b ∧ b < s3.heap.objs.size := fun b hb => by
    obtain ⟨o, e, _⟩ := T.obj _ _ st2 b hb
    have hlt := Heap.lt_size e
    refine ⟨⟨?_, (f2 b hb).2⟩, by rw [h3, Heap.size_push]; exact Nat.lt_succ_of_lt hlt⟩
    rw [upd_ne (by rw [← hD]; exact Nat.ne_of_lt hlt)]
    exact (f2 b hb).1
  have BB : BI X pins σ (upd H2 D (.lst [])) s3 fp := ⟨I3, f3⟩
  have st3 : tn 0 s3.heap := T.keep _ _ _ st2 fun b _ o e => by rw [h3]; exact Heap.get?_push_of_some _ e
  have I4 := block_start I3 ok hN f3
  have pg := hg s3 (upd H2 D (.lst [])) s3.heap.objs.size (cellsFrom (s3.heap.objs.size + 1) scope.names (cloFrom X.env.cells scope.names [])) fp
  have pt := ht s3 (upd H2 D (.lst [])) s3.heap.objs.size (cellsFrom (s3.heap.objs.size + 1) scope.names (cloFrom X.env.cells scope.names [])) fp
  have pe := he s3 (upd H2 D (.lst [])) s3.heap.objs.size (cellsFrom (s3.heap.objs.size + 1) scope.names (cloFrom X.env.cells scope.names [])) fp (passes_blk hst hfx tk BB (Nat.le_refl _))
  show codeAny _ _ (.compStart (.ListComp elt [⟨tg, iter, ifs, 0⟩] scope pos) 0 (.ref it) (.ref D) (compEnvC scope (cellsFrom (s3.heap.objs.size + 1) scope.names (cloFrom X.env.cells scope.names [])) s3.heap.objs.size X.env)) (compEnds (model X.prog X.w) X.A X.xe none Qf (.ref D) (compEnvC scope (cellsFrom (s3.heap.objs.size + 1) scope.names (cloFrom X.env.cells scope.names [])) s3.heap.objs.size X.env)) { s3 with heap := pushCells (s3.heap.push { cls := .type "dict", data := .dict #[] }) scope.names }
  have nfp : ∀ b ∈ fp, (upd H2 D (.lst [])) b = none := fun b hb => (f3 b hb).1.1
  generalize hce : compEnvC scope (cellsFrom (s3.heap.objs.size + 1) scope.names (cloFrom X.env.cells scope.names [])) s3.heap.objs.size X.env = ce at I4 pg pt pe ⊢
  have cL : ce.locals = s3.heap.objs.size := by subst hce; rfl
  generalize hH3 : upd H2 D (.lst []) = H3 at I3 I4 pg pt pe w0 nfp f3 BB
  generalize hs4 : ({ s3 with heap := pushCells (s3.heap.push { cls := .type "dict", data := .dict #[] }) scope.names } : Shared) = s4 at I4 ⊢
  have st4 : tn 0 s4.heap := T.keep _ _ _ st3 fun b _ o e => by rw [← hs4]; exact pushCells_keeps _ _ _ _ (Heap.get?_push_of_some _ e)
  have stat : ∀ {σ' : L2.St} {H' : Hp} {s' : Shared}, Inv (X.blk s3 H3 scope ce fp) [] σ' H' s' → (∀ b ∈ fp, H' b = none) → ∀ b ∈ fp, FpOk (X.blk s3 H3 scope ce fp) [] H' b := fun {σ' H' s'} I' hn b hb =>
    ⟨hn b hb, (I'.ok.exf b hb).1, I'.ok.exfs b hb, .inl hb, fun x c e => (I'.ok.exf b hb).2 x c e, fun p hp => absurd (show p ∈ ([] : List (Addr × Obj)) ++ [] from hp) (by simp)⟩
  have loop : codeAny (model X.prog X.w) X.A (.compLoop (.ListComp elt [⟨tg, iter, ifs, 0⟩] scope pos) 0 (.ref it) (.ref D) ce) (compEnds (model X.prog X.w) X.A X.xe none Qf (.ref D) ce) s4 := by
    refine compLoop_any (fun n s' => ∃ i H', Inv (X.blk s3 H3 scope ce fp) [] (wipe σ (own.map (·.2))) H' s' ∧ tn i s'.heap ∧ (∀ b ∈ fp, H' b = none) ∧ W i n H') ?_ m0 ⟨0, H3, I4, st4, nfp, w0⟩
    rintro n s5 ⟨i, H5, I5, st5, n5, w5⟩
    rcases turn i n H5 w5 with ⟨stop, qq⟩ | ⟨go, Nx, hNx, step⟩
    · have td := T.done (X.blk s3 H3 scope ce fp) rfl rfl rfl hc i [] s5 _ H5 (fun _ _ => False) I5 (stat I5 n5) st5 stop
      refine thnF td fun r s6 ⟨hr, I6⟩ => ?_
      subst hr
      have I7 : Inv X pins σ H5 s6 := BB.now I6
      have nC : H5 s3.heap.objs.size = none := by
        have z : H5 ce.locals = none := I6.free
        rw [cL] at z
        exact z
      obtain ⟨m, hn, _⟩ := I6.loc
      have hn : s6.heap.Ns ce.locals m := hn
      rw [cL] at hn
      show ∃ m, s6.heap.Ns ce.locals m ∧ _
      rw [cL]
      exact hRR D s3.heap.objs.size s6 m H5 I7 qq hn (I3.fpOk (Nat.le_refl _) nC)
    · have ti := T.item (X.blk s3 H3 scope ce fp) rfl rfl rfl hc i [] s5 _ H5 (fun _ _ => False) I5 (stat I5 n5) st5 go
      refine thnF ti fun r s6 ⟨u, hr, h6⟩ => ?_
      subst hr
      refine thnF h6 fun _ s7 ⟨x, H7, I7, r7, y7, st7, n7⟩ => ?_
      have I7' := I7.pinned (stat I7 n7) (T.obj _ _ st7)
      refine thnF (pg.run _ s7 _ H7 x u _ I7' r7 (step x H7 y7)) fun _ s8 ⟨σ8, H8, I8, hw8, q8⟩ => ?_
      refine thnF (pt.run _ s8 σ8 H8 _ I8 q8) fun b s9 ⟨H9, I9, q9⟩ => ?_
      have fin : ∀ {s' : Shared} {H' : Hp}, Inv (X.blk s3 H3 scope ce fp) ([] ++ pinsAt fp s7.heap) σ8 H' s' → Nx H' → ∃ m, m < n ∧ ∃ i H', Inv (X.blk s3 H3 scope ce fp) [] (wipe σ (own.map (·.2))) H' s' ∧ tn i s'.heap ∧ (∀ b ∈ fp, H' b = none) ∧ W i m H' := fun {s' H'} I' nx => by
        obtain ⟨m', hm, w'⟩ := hNx H' nx
        have pin' : ∀ b ∈ fp, ∀ o, s7.heap.get? b = some o → s'.heap.get? b = some o ∧ H' b = none := fun b hb o e =>
          let z := I'.pin (b, o) (List.mem_append_right _ (List.mem_append_right _ (mem_pinsAt hb e)))
          ⟨z.1, z.2.1⟩
        have hl : (wipe σ (own.map (·.2))).length = σ8.length := by rw [← hw8, wipe_length]
        refine ⟨m', hm, i + 1, H', (I'.unpinned (pins := [])).weak hl (fun j v e => ?_), T.keep _ _ _ st7 fun b hb o e => (pin' b hb o e).1, fun b hb => ?_, w'⟩
        · rw [← hw8] at e
          exact (wipe_some e).1
        · obtain ⟨o, e, _⟩ := T.obj _ _ st7 b hb
          exact (pin' b hb o e).2
      cases b with
      | false =>
        simp only [Bool.false_eq_true, if_false] at q9 ⊢
        exact fin I9 q9
      | true =>
        simp only [if_true] at q9 ⊢
        refine thn (pe.run _ s9 σ8 H9 _ (I9.wish _) q9) fun z s10 ⟨yv, H10, I10', r10, acc, hD10, hz10, nx⟩ => ?_
        have I10 := I10'.unwish
        exact app_ok (X := X.blk s3 H3 scope ce fp) I10 hD10 hz10 r10 fun s11 I11 => fin I11 nx
  exact codeAny_compStart_list loop (T.self X.A 0 _ _ _ st4 loop)
theorem pe_lcX {elt tg iter : Expr} {ifs : List Expr} {scope : Scope} {own : List (Str × Nat)} {pos : Pos} {wi : TI} {g : TG} {tt : TT} {te : TE} {E : XK} (hc : X.calm = true) (hst : X.stack = X.env :: X.outer) (hfx : X.env.frame = some X.env.locals) (tk : Takes X fun cls d _ H => E cls d H) (hN : X.N.Nodup) (hi : PI X tg iter wi) (ok : BlkOk X.N X.env.scope scope own)
    (hg : ∀ (s : Shared) (H : Hp) (C : Addr) (cl : List (Str × Addr)) (fp : List Addr), PG (X.blk s H scope (compEnvC scope cl C X.env) fp) tg g)
    (ht : ∀ (s : Shared) (H : Hp) (C : Addr) (cl : List (Str × Addr)) (fp : List Addr), PTs (X.blk s H scope (compEnvC scope cl C X.env) fp) ifs tt)
    (he : ∀ (s : Shared) (H : Hp) (C : Addr) (cl : List (Str × Addr)) (fp : List Addr), Passes (L2.CX X.prog X.w) ((X.blk s H scope (compEnvC scope cl C X.env) fp).wish (xeB X (compEnvC scope cl C X.env))) E → PE ((X.blk s H scope (compEnvC scope cl C X.env) fp).wish (xeB X (compEnvC scope cl C X.env))) elt te) (hs : ∀ x, foldedSetIterable iter X.env x = pure x := by intro _; rfl) :
    PE X (.ListComp elt [⟨tg, iter, ifs, 0⟩] scope pos) (tLc wi g tt te (own.map (·.2))) := by
  refine ⟨fun pins s σ H Q I h => ?_⟩
  rw [eval_ListComp]
  refine lcX_core hc hst hfx tk hN I hi ok hg ht he hs h fun D C s' m H' I' q hn f => ⟨m, hn, fun h'' sb => ?_⟩
  obtain ⟨f0, f1, f2, f3, f4, f5⟩ := f
  exact ⟨.ref D, H', I'.turned (t' := s'.toks) (fun b o hb e => (sb.2 b hb).trans e) f0 f1 f3 f4 f5, rfl, q⟩
end
end MF
set_option Elab.async false
set_option linter.all false
set_option maxRecDepth 100000
set_option maxHeartbeats 1000000
namespace MF
open PySem PySem.Spec PyProof.Rows L2 StX
theorem IDef.fnX {P : Program} {w : World} {K : PySem.W.Frag} {mg : Str → Option Value} {base : Heap} {k : Nat} {C : Addr} {x qual : Str} {st : Stmt} {ps N : List Str} {sp : Sp} (D : IDef K mg C x qual st ps) (S : FnScope N ps (defScope st)) (len : ∀ vs H Q E, sp vs H Q E → vs.length = ps.length)
    (hbody : ∀ (f : Addr) (cdv : Value) (A : Around) (outer : List Env) (s : Shared) (H : Hp) (vs : List V) (Q : VK) (E : XK), Room k (A.deeper (envOfC qual (defScope st) s.heap.objs.size f cdv)) → sp vs H Q E →
      ∃ t, PSs (cxOf (L2.CX P w) P w K mg base N qual (defScope st) f cdv A outer s H E) (defBody st) t ∧ t { nx := fun _ H' => Q .non H', rt := Q } (start N vs) H) : IFn P w K mg base (L2.CX P w) (k + 1) C x sp :=
  D.fn fun f fd F => by
    obtain ⟨oc, od, kV, doc, pm, an, cdv, ct, osl, rfl, lk, hcd⟩ := F.ex
    exact fn_of lk hcd S len fun A outer s H vs Q E hr hsp => hbody f cdv A outer s H vs Q E hr hsp
theorem call_len_seqK {X : Cx} {K : PySem.W.Frag} (h : X.K = K := by rfl) : CallR X (.builtin "len") (fun xs H Q => ∃ p ys, xs = [.ref p] ∧ (SqL K H p ys ∨ SqT K H p ys) ∧ Q (.int ys.length) H) := h ▸ call_len_seq
theorem bind_star3 {B : List Value → Sem (List (Str × Value))} {p1 p2 p3 pv : Str} (h0 : ∀ a b c, B [a, b, c] = (newTuple [] >>= fun t => pure [(p1, a), (p2, b), (p3, c), (pv, t)])) (h1 : ∀ a b c r rs, B (a :: b :: c :: r :: rs) = (newTuple (r :: rs) >>= fun t => pure [(p1, a), (p2, b), (p3, c), (pv, t)])) :
    ∀ us rest : List Value, us.length = [p1, p2, p3].length → B (us ++ rest) = (newTuple rest >>= fun t => pure ([p1, p2, p3].zip us ++ [(pv, t)])) := by
  intro us rest hl
  match us, hl with
  | [a, b, c], _ =>
    cases rest with
    | nil => exact h0 a b c
    | cons r rs => exact h1 a b c r rs
theorem pe_mkSN {X : Cx} {CX : CXT} {k i : Nat} {C : Addr} {x y : Str} {sp : Sp} {E : XK} {e : Expr} {es : List Expr} {t : TA} {p pos : Pos} (G : IFn X.prog X.w X.K X.mg X.base CX k C y sp) (hr : Room (k + 1) X.A) (hx : Passes CX X E) (hN : X.N[i]? = some x) (hv : Vis X.env.scope x) (ha : PA X (e :: es) t)
    (hdb : (x == ("__debug__" : Str)) = false := by decide) (hcd : (x == ("__classdict__" : Str)) = false := by decide)
    (he : starEach (e :: es) X.env = (false, eval e X.env) :: starEach es X.env := by rfl) (hpl : (backTo pos (starEach es X.env)).any (·.1) = false := by rfl) : PE X (.Call (.Name x p) (e :: es) [] pos) (tMkL i C sp E t) := by
  obtain ⟨f, F, M, hm⟩ := G.ex
  refine ⟨fun pins s σ H Q I h => ?_⟩
  obtain ⟨hs, ht⟩ := h
  refine wpAny_Call_Name_kw (thn ((pe_var (pos := p) hN hv hdb hcd).run pins s σ H (fun v H1 => v = .ref C ∧ H1 = H) I ⟨.ref C, hs, rfl, rfl⟩) fun u s1 ⟨v, H1, I1, r1, q1⟩ => ?_)
  obtain ⟨rfl, rfl⟩ := q1
  cases r1
  refine PySem.W.callWith_K (h₀ := X.base) I.ok.mod.kin M.kp (thn (ha.run pos pins s1 σ _ _ I1 ht) fun us s2 ⟨vs, H2, I2, r, q⟩ => ⟨I2.kIn, ?_⟩) he hpl
  exact run_makeR M F hr hx I2 r q
end MF
set_option Elab.async false
set_option linter.all false
set_option maxRecDepth 100000
set_option maxHeartbeats 2000000
set_option pp.maxSteps 600
namespace MF
open PySem PySem.Spec PyProof.Rows L2 StX
def top (i : Nat) : Stmt := PySem.Challenge.pw_mailforwards_k46_notation.main.body.getD i (.Pass ⟨0, 0, 0, 0⟩)
abbrev s_is_integer : Stmt := top 21
abbrev s_is_address : Stmt := top 22
abbrev s_is_order : Stmt := top 23
abbrev s_do_overlap : Stmt := top 24
abbrev s_BookX_initX : Stmt := inClass (top 25) 1
abbrev s_Book_orders : Stmt := inClass (top 25) 3
abbrev s_BookX_addX : Stmt := inClass (top 25) 10
abbrev s_BookX_lenX : Stmt := inClass (top 25) 5
abbrev s_book_of : Stmt := top 26
abbrev s_is_number : Stmt := top 33
abbrev s_format_book : Stmt := top 34
abbrev s_is_good : Stmt := top 35
abbrev s_order_of : Stmt := top 36
abbrev s_parse_book : Stmt := top 37
abbrev s_InvalidOrderX_initX : Stmt := inClass (top 3) 0
abbrev s_NotationErrorX_initX : Stmt := inClass (top 12) 0
abbrev s__law_dice : Stmt := top 39
abbrev s__law_next : Stmt := top 40
abbrev s__law_pick : Stmt := top 41
abbrev s__law_told : Stmt := top 42
abbrev s__law_fits : Stmt := top 43
abbrev s__law_order : Stmt := top 44
abbrev s__law_orders : Stmt := top 45
abbrev s__law_made : Stmt := top 46
abbrev s__law_is_good : Stmt := top 47
abbrev s__law_parsed : Stmt := top 48
abbrev s_law : Stmt := top 49
theorem sc_is_integer : FnScope ["value", "low", "high"] ["value", "low", "high"] (defScope s_is_integer) := ⟨rfl, rfl, rfl, by decide +kernel, rfl, by decide +kernel, by decide +kernel⟩
theorem sc_is_address : FnScope ["value", "letter"] ["value"] (defScope s_is_address) := ⟨rfl, rfl, rfl, by decide +kernel, rfl, by decide +kernel, by decide +kernel⟩
theorem sc_is_order : FnScope ["value", "source", "target", "first", "last", "way"] ["value"] (defScope s_is_order) := ⟨rfl, rfl, rfl, by decide +kernel, rfl, by decide +kernel, by decide +kernel⟩
theorem sc_do_overlap : FnScope ["one", "other"] ["one", "other"] (defScope s_do_overlap) := ⟨rfl, rfl, rfl, by decide +kernel, rfl, by decide +kernel, by decide +kernel⟩
theorem sc_BookX_initX : FnScope ["self", "orders", "index", "order", "earlier"] ["self", "orders"] (defScope s_BookX_initX) := ⟨rfl, rfl, rfl, by decide +kernel, rfl, by decide +kernel, by decide +kernel⟩
theorem sc_Book_orders : FnScope ["self"] ["self"] (defScope s_Book_orders) := ⟨rfl, rfl, rfl, by decide +kernel, rfl, by decide +kernel, by decide +kernel⟩
theorem sc_BookX_addX : FnScope ["self", "other"] ["self", "other"] (defScope s_BookX_addX) := ⟨rfl, rfl, rfl, by decide +kernel, rfl, by decide +kernel, by decide +kernel⟩
theorem sc_BookX_lenX : FnScope ["self"] ["self"] (defScope s_BookX_lenX) := ⟨rfl, rfl, rfl, by decide +kernel, rfl, by decide +kernel, by decide +kernel⟩
theorem sc_book_of : FnScope ["orders"] ["orders"] (defScope s_book_of) := ⟨rfl, rfl, rfl, by decide +kernel, rfl, by decide +kernel, by decide +kernel⟩
theorem sc_is_number : FnScope ["word", "digit"] ["word"] (defScope s_is_number) := ⟨rfl, rfl, rfl, by decide +kernel, rfl, by decide +kernel, by decide +kernel⟩
theorem sc_format_book : FnScope ["book", "lines", "source", "target", "first", "last", "way"] ["book"] (defScope s_format_book) := ⟨rfl, rfl, rfl, by decide +kernel, rfl, by decide +kernel, by decide +kernel⟩
theorem sc_is_good : FnScope ["place", "word"] ["place", "word"] (defScope s_is_good) := ⟨rfl, rfl, rfl, by decide +kernel, rfl, by decide +kernel, by decide +kernel⟩
theorem sc_order_of : FnScope ["row", "line", "words", "place"] ["row", "line"] (defScope s_order_of) := ⟨rfl, rfl, rfl, by decide +kernel, rfl, by decide +kernel, by decide +kernel⟩
theorem sc_parse_book : FnScope ["text", "lines", "row", "line"] ["text"] (defScope s_parse_book) := ⟨rfl, rfl, rfl, by decide +kernel, rfl, by decide +kernel, by decide +kernel⟩
theorem sc_InvalidOrderX_initX : FnScope ["self", "index"] ["self", "index"] (defScope s_InvalidOrderX_initX) := ⟨rfl, rfl, rfl, by decide +kernel, rfl, by decide +kernel, by decide +kernel⟩
theorem sc_NotationErrorX_initX : FnScope ["self", "row", "word"] ["self", "row", "word"] (defScope s_NotationErrorX_initX) := ⟨rfl, rfl, rfl, by decide +kernel, rfl, by decide +kernel, by decide +kernel⟩
theorem sc__law_dice : FnScope ["_law_script", "_law_mixed", "_law_cell"] ["_law_script"] (defScope s__law_dice) := ⟨rfl, rfl, rfl, by decide +kernel, rfl, by decide +kernel, by decide +kernel⟩
theorem sc__law_next : FnScope ["_law_dice_here", "_law_many", "_law_found", "_law_cell"] ["_law_dice_here", "_law_many"] (defScope s__law_next) := ⟨rfl, rfl, rfl, by decide +kernel, rfl, by decide +kernel, by decide +kernel⟩
theorem sc__law_pick : FnScope ["_law_d", "_law_some"] ["_law_d", "_law_some"] (defScope s__law_pick) := ⟨rfl, rfl, rfl, by decide +kernel, rfl, by decide +kernel, by decide +kernel⟩
theorem sc__law_told : FnScope ["_law_work", "e", "_law_some", "_law_terms", "_law_k"] ["_law_work"] (defScope s__law_told) := ⟨rfl, rfl, rfl, by decide +kernel, rfl, by decide +kernel, by decide +kernel⟩
theorem sc__law_fits : FnScope ["_law_orders_here", "_law_order_here", "_law_one"] ["_law_orders_here", "_law_order_here"] (defScope s__law_fits) := ⟨rfl, rfl, rfl, by decide +kernel, rfl, by decide +kernel, by decide +kernel⟩
theorem sc__law_order : FnScope ["_law_d", "_law_most", "_law_names", "_law_source", "_law_first"] ["_law_d", "_law_most"] (defScope s__law_order) := ⟨rfl, rfl, rfl, by decide +kernel, rfl, by decide +kernel, by decide +kernel⟩
theorem sc__law_orders : FnScope ["_law_d", "_law_many", "_law_most", "_law_found", "_law_k", "_law_order_here"] ["_law_d", "_law_many", "_law_most"] (defScope s__law_orders) := ⟨rfl, rfl, rfl, by decide +kernel, rfl, by decide +kernel, by decide +kernel⟩
theorem sc__law_made : FnScope ["_law_orders_here", "_law_book", "_law_order_here"] ["_law_orders_here"] (defScope s__law_made) := ⟨rfl, rfl, rfl, by decide +kernel, rfl, by decide +kernel, by decide +kernel⟩
theorem sc__law_is_good : FnScope ["_law_place", "_law_word", "_law_c"] ["_law_place", "_law_word"] (defScope s__law_is_good) := ⟨rfl, rfl, rfl, by decide +kernel, rfl, by decide +kernel, by decide +kernel⟩
theorem sc__law_parsed : FnScope ["_law_lines", "_law_k", "_law_j", "_law_found", "_law_source", "_law_target", "_law_first", "_law_last", "_law_way", "_law_order_here", "_law_good", "_law_word"] ["_law_lines"] (defScope s__law_parsed) := ⟨rfl, rfl, rfl, by decide +kernel, rfl, by decide +kernel, by decide +kernel⟩
theorem sc_law : FnScope ["_law_script", "_law_d", "_law_turn", "_law_orders_here", "_law_lines", "_law_k", "_law_j", "_law_pick_here", "_law_odd", "_law_due", "_law_count", "_law_found", "_law_many", "_law_text", "_law_order_here", "_law_part", "_law_line"] ["_law_script"] (defScope s_law) := ⟨rfl, rfl, rfl, by decide +kernel, rfl, by decide +kernel, by decide +kernel⟩
structure Top (K : PySem.W.Frag) (mg : Str → Option Value) (C_Book : Addr) (C_MailError : Addr) (C_InvalidOperation : Addr) (C_InvalidOrder : Addr) (C_UnknownOrder : Addr) (C_NotHolding : Addr) (C_DecodeError : Addr) (C_NotationError : Addr) (C_UnknownLetter : Addr) (C_InvalidAddress : Addr) (C_InvalidDay : Addr) (C_InvalidNumber : Addr) (C_Contradiction : Addr) (C_InvalidCount : Addr) : Prop where
  d_is_integer : GDef K mg "is_integer" s_is_integer ["value", "low", "high"]
  d_is_address : GDef K mg "is_address" s_is_address ["value"]
  d_is_order : GDef K mg "is_order" s_is_order ["value"]
  d_do_overlap : GDef K mg "do_overlap" s_do_overlap ["one", "other"]
  d_BookX_initX : SDef K mg C_Book "Book" "Book.__init__" s_BookX_initX "self" "orders"
  d_Book_orders : PDef K C_Book "orders" "Book.orders" s_Book_orders ["self"]
  d_BookX_addX : MDef K C_Book "__add__" "Book.__add__" s_BookX_addX ["self", "other"]
  d_BookX_lenX : MDef K C_Book "__len__" "Book.__len__" s_BookX_lenX ["self"]
  d_book_of : GDef K mg "book_of" s_book_of ["orders"]
  d_is_number : GDef K mg "is_number" s_is_number ["word"]
  d_format_book : GDef K mg "format_book" s_format_book ["book"]
  d_is_good : GDef K mg "is_good" s_is_good ["place", "word"]
  d_order_of : GDef K mg "order_of" s_order_of ["row", "line"]
  d_parse_book : GDef K mg "parse_book" s_parse_book ["text"]
  d_InvalidOrderX_initX : EDef K mg C_InvalidOrder "InvalidOrder" "InvalidOrder.__init__" s_InvalidOrderX_initX ["self", "index"]
  d_NotationErrorX_initX : EDef K mg C_NotationError "NotationError" "NotationError.__init__" s_NotationErrorX_initX ["self", "row", "word"]
  d__law_dice : GDef K mg "_law_dice" s__law_dice ["_law_script"]
  d__law_next : GDef K mg "_law_next" s__law_next ["_law_dice_here", "_law_many"]
  d__law_pick : GDef K mg "_law_pick" s__law_pick ["_law_d", "_law_some"]
  d__law_told : GDef K mg "_law_told" s__law_told ["_law_work"]
  d__law_fits : GDef K mg "_law_fits" s__law_fits ["_law_orders_here", "_law_order_here"]
  d__law_order : GDef K mg "_law_order" s__law_order ["_law_d", "_law_most"]
  d__law_orders : GDef K mg "_law_orders" s__law_orders ["_law_d", "_law_many", "_law_most"]
  d__law_made : GDef K mg "_law_made" s__law_made ["_law_orders_here"]
  d__law_is_good : GDef K mg "_law_is_good" s__law_is_good ["_law_place", "_law_word"]
  d__law_parsed : GDef K mg "_law_parsed" s__law_parsed ["_law_lines"]
  d_law : GDef K mg "law" s_law ["_law_script"]
  cl_Book : Cls K C_Book
  n_Book_listed : NoAttr K C_Book "listed"
  c_LETTERS : ∃ t, mg "LETTERS" = some (.str "abcdefghijklmnopqrstuvwxyz" t)
  c_MAX_LETTERS : ∃ t, mg "MAX_LETTERS" = some (.int 8 t)
  c_MAX_ORDERS_books : ∃ t, mg "MAX_ORDERS_books" = some (.int 30 t)
  c_MAX_DAY : ∃ t, mg "MAX_DAY" = some (.int 1000000000000000000 t)
  c_MAX_WAY : ∃ t, mg "MAX_WAY" = some (.int 30 t)
  c_WORD : ∃ t, mg "WORD" = some (.str "order" t)
  c_DIGITS : ∃ t, mg "DIGITS" = some (.str "0123456789" t)
  c_MAX_DIGITS : ∃ t, mg "MAX_DIGITS" = some (.int 19 t)
  c_WORDS : ∃ t, mg "WORDS" = some (.int 6 t)
  g_MailError : mg "MailError" = some (.ref C_MailError)
  g_InvalidOperation : mg "InvalidOperation" = some (.ref C_InvalidOperation)
  g_InvalidOrder : mg "InvalidOrder" = some (.ref C_InvalidOrder)
  g_UnknownOrder : mg "UnknownOrder" = some (.ref C_UnknownOrder)
  g_NotHolding : mg "NotHolding" = some (.ref C_NotHolding)
  g_DecodeError : mg "DecodeError" = some (.ref C_DecodeError)
  g_NotationError : mg "NotationError" = some (.ref C_NotationError)
  g_UnknownLetter : mg "UnknownLetter" = some (.ref C_UnknownLetter)
  g_InvalidAddress : mg "InvalidAddress" = some (.ref C_InvalidAddress)
  g_InvalidDay : mg "InvalidDay" = some (.ref C_InvalidDay)
  g_InvalidNumber : mg "InvalidNumber" = some (.ref C_InvalidNumber)
  g_Contradiction : mg "Contradiction" = some (.ref C_Contradiction)
  g_InvalidCount : mg "InvalidCount" = some (.ref C_InvalidCount)
  base_MailError : BaseC K C_MailError
  e_InvalidOrder : ErrC K C_InvalidOrder C_MailError
  k_InvalidOrder_InvalidOperation : PySem.W.kitOne K (.ref C_InvalidOrder) (.ref C_InvalidOperation) = some false
  k_InvalidOrder_InvalidOrder : PySem.W.kitOne K (.ref C_InvalidOrder) (.ref C_InvalidOrder) = some true
  k_InvalidOrder_UnknownOrder : PySem.W.kitOne K (.ref C_InvalidOrder) (.ref C_UnknownOrder) = some false
  k_InvalidOrder_NotHolding : PySem.W.kitOne K (.ref C_InvalidOrder) (.ref C_NotHolding) = some false
  k_InvalidOrder_DecodeError : PySem.W.kitOne K (.ref C_InvalidOrder) (.ref C_DecodeError) = some false
  k_InvalidOrder_NotationError : PySem.W.kitOne K (.ref C_InvalidOrder) (.ref C_NotationError) = some false
  k_InvalidOrder_UnknownLetter : PySem.W.kitOne K (.ref C_InvalidOrder) (.ref C_UnknownLetter) = some false
  k_InvalidOrder_InvalidAddress : PySem.W.kitOne K (.ref C_InvalidOrder) (.ref C_InvalidAddress) = some false
  k_InvalidOrder_InvalidDay : PySem.W.kitOne K (.ref C_InvalidOrder) (.ref C_InvalidDay) = some false
  k_InvalidOrder_InvalidNumber : PySem.W.kitOne K (.ref C_InvalidOrder) (.ref C_InvalidNumber) = some false
  k_InvalidOrder_Contradiction : PySem.W.kitOne K (.ref C_InvalidOrder) (.ref C_Contradiction) = some false
  k_InvalidOrder_InvalidCount : PySem.W.kitOne K (.ref C_InvalidOrder) (.ref C_InvalidCount) = some false
  e_NotationError : ErrC K C_NotationError C_MailError
  k_NotationError_InvalidOperation : PySem.W.kitOne K (.ref C_NotationError) (.ref C_InvalidOperation) = some false
  k_NotationError_InvalidOrder : PySem.W.kitOne K (.ref C_NotationError) (.ref C_InvalidOrder) = some false
  k_NotationError_UnknownOrder : PySem.W.kitOne K (.ref C_NotationError) (.ref C_UnknownOrder) = some false
  k_NotationError_NotHolding : PySem.W.kitOne K (.ref C_NotationError) (.ref C_NotHolding) = some false
  k_NotationError_DecodeError : PySem.W.kitOne K (.ref C_NotationError) (.ref C_DecodeError) = some false
  k_NotationError_NotationError : PySem.W.kitOne K (.ref C_NotationError) (.ref C_NotationError) = some true
  k_NotationError_UnknownLetter : PySem.W.kitOne K (.ref C_NotationError) (.ref C_UnknownLetter) = some false
  k_NotationError_InvalidAddress : PySem.W.kitOne K (.ref C_NotationError) (.ref C_InvalidAddress) = some false
  k_NotationError_InvalidDay : PySem.W.kitOne K (.ref C_NotationError) (.ref C_InvalidDay) = some false
  k_NotationError_InvalidNumber : PySem.W.kitOne K (.ref C_NotationError) (.ref C_InvalidNumber) = some false
  k_NotationError_Contradiction : PySem.W.kitOne K (.ref C_NotationError) (.ref C_Contradiction) = some false
  k_NotationError_InvalidCount : PySem.W.kitOne K (.ref C_NotationError) (.ref C_InvalidCount) = some false
  na_InvalidOrder : PySem.W.findIn K (.ref C_InvalidOrder) "index" = some none
  na_NotationError_row : PySem.W.findIn K (.ref C_NotationError) "row" = some none
  na_NotationError_word : PySem.W.findIn K (.ref C_NotationError) "word" = some none
  b_isinstance : mg "isinstance" = none
  b_int : mg "int" = none
  b_bool : mg "bool" = none
  b_str : mg "str" = none
  b_tuple : mg "tuple" = none
  b_list : mg "list" = none
  b_len : mg "len" = none
  b_all : mg "all" = none
  b_enumerate : mg "enumerate" = none
  b_range : mg "range" = none
  b_min : mg "min" = none
  b_max : mg "max" = none
  b_ValueError : mg "ValueError" = none

end MF
set_option Elab.async false
set_option linter.all false
set_option maxHeartbeats 1000000
namespace MF
open PySem PySem.Spec PyProof.Rows L2 StX
theorem call_str_any {X : Cx} : CallR X (.type "str") (fun xs H Q => (∃ i : Int, xs = [.int i] ∧ i.natAbs.log2 < 1920 ∧ Q (.str (toString i)) H) ∨ ∃ a, xs = [.str a] ∧ Q (.str a) H) := by
  intro pins s σ H xs us Q I r h
  rcases h with h | h
  · exact call_str_int pins s σ H xs us Q I r h
  · exact SkE.call_str_str pins s σ H xs us Q I r h
theorem pe_joinK {X : Cx} {K : PySem.W.Frag} {o e : Expr} {to te : TE} {apos pos : Pos} (ho : PE X o to) (he : PE X e te) (h : X.K = K := by rfl) (hs : starEach [e] X.env = [(false, eval e X.env)] := by rfl) (hbase : attributeBase o "join" X.env (eval o X.env) = eval o X.env := by rfl) (hline : (apos.endLine == pos.line) = true := by rfl) :
    PE X (.Call (.Attribute o "join" apos) [e] [] pos) (tM1 (fun x xs H Q => ∃ a p, ∃ ys : List Str, x = .str a ∧ xs = [.ref p] ∧ (SqL K H p (ys.map V.str) ∨ SqT K H p (ys.map V.str)) ∧
      (ys.map (·.length)).sum + ys.length * a.length ≤ 16777216 ∧ Q (.str (Txt.join a ys)) H) to te) := by
  subst h
  exact pe_join ho he hs hbase hline
theorem pi_tupK {X : Cx} {K : PySem.W.Frag} {tg e : Expr} {te : TE} (he : PE X e te) (h : X.K = K := by rfl) : PI X tg e (iTup K te) := h ▸ pi_tup he
def repS (a : Str) (k : Int) : Str := if k < 1 then Str.empty else if (k == 1 || a.length == 0) = true then a else ⟨(List.replicate k.toNat a.cps).foldl (· ++ ·) #[]⟩
def rRepS : R2 := fun x y H Q => ∃ a k, x = .str a ∧ y = .int k ∧ -1000 ≤ k ∧ k ≤ 1000 ∧ a.length ≤ 1000 ∧ (repS a k).length ≤ sizeLine ∧ Q (.str (repS a k)) H
theorem tooLong46 {n : Nat} (h : n ≤ 1000000) : Builtin.Str.tooLong n = false := by
  exact decide_eq_false (by rw [sizeLine_eq]; omega)
theorem op_repS {X : Cx} : OpR X (binaryOp .Mult) rRepS := by
  intro pins s σ H x y v u Q I rx ry h
  obtain ⟨a, k, rfl, rfl, k0, k1, ha, hr, q⟩ := h
  obtain ⟨t, rfl⟩ := rx
  obtain ⟨t', rfl⟩ := ry
  refine PySem.P.mul_str ?_ ?_ ?_ ?_
  · rw [decide_eq_false (by omega), decide_eq_false (by omega)]
    rfl
  · intro h1 _ h2
    have h3 : (a.length : Int) * k ≤ 1000 * 1000 := Int.mul_le_mul (by omega) k1 (by omega) (by decide)
    have h4 : (a.length : Int) ≤ (2 ^ 63 - 1) / k := Int.le_ediv_of_mul_le (by omega) (by omega)
    omega
  · intro h1 _
    have h3 : a.length * k.toNat ≤ 1000 * 1000 := Nat.mul_le_mul ha (by omega)
    refine tooLong46 (by omega)
  · unfold repS at hr q
    by_cases c1 : k < 1
    · rw [if_pos c1] at hr q ⊢
      exact ⟨hr, .str _, H, I.tok _, ⟨_, rfl⟩, q⟩
    · rw [if_neg c1] at hr q ⊢
      by_cases c2 : (k == 1 || a.length == 0) = true
      · rw [if_pos c2] at hr q ⊢
        exact ⟨.str _, H, I, ⟨_, rfl⟩, q⟩
      · rw [if_neg c2] at hr q ⊢
        exact ⟨hr, .str _, H, I.tok _, ⟨_, rfl⟩, q⟩
end MF
set_option Elab.async false
set_option linter.all false
set_option maxRecDepth 100000
set_option maxHeartbeats 1000000
namespace MF
open PySem PySem.Spec PyProof.Rows L2 StX
section
variable {P : Program} {w : World} {K : PySem.W.Frag} {mg : Str → Option Value} {base : Heap} {k : Nat} {C : Addr} {x m : Str} {f : Addr} {sp sp' : Sp}
theorem FnR.up (F : FnR P w K mg base CX0 k f sp) : FnR P w K mg base (L2.CX P w) k f sp := fun A outer s H us vs Q E hr e0 r hs => codeAny_mono (F A outer s H us vs Q E hr e0 r hs) fun r s' h => by
  unfold CR at h ⊢
  match r, h with
  | .ok (.ret u), h => exact h
  | .ok .next, h => exact h
  | .ok .brk, h => exact h
  | .ok .cont, h => exact h
  | .error e, h => exact False.elim h
theorem FnR.or {CX : CXT} (F : FnR P w K mg base CX k f sp) (F' : FnR P w K mg base CX k f sp') : FnR P w K mg base CX k f (fun vs H Q E => sp vs H Q E ∨ sp' vs H Q E) := fun A outer s H us vs Q E hr e0 r hs => by
  rcases hs with h | h
  · exact F A outer s H us vs Q E hr e0 r h
  · exact F' A outer s H us vs Q E hr e0 r h
theorem GFn.up (G : GFn P w K mg base CX0 k x sp) : GFn P w K mg base (L2.CX P w) k x sp := let ⟨f, a, b⟩ := G.ex; ⟨f, FnR.up a, b⟩
theorem MFn.up (G : MFn P w K mg base CX0 k C m sp) : MFn P w K mg base (L2.CX P w) k C m sp := let ⟨f, a, b⟩ := G.ex; ⟨f, FnR.up a, b⟩
theorem GFn.or {CX : CXT} (G : GFn P w K mg base CX k x sp) (G' : GFn P w K mg base CX k x sp') : GFn P w K mg base CX k x (fun vs H Q E => sp vs H Q E ∨ sp' vs H Q E) := by
  obtain ⟨f, a, b, c⟩ := G.ex
  obtain ⟨f', a', b', c'⟩ := G'.ex
  rw [b] at b'
  cases b'
  exact ⟨f, FnR.or a a', b, c⟩
end
end MF
set_option Elab.async false
set_option linter.all false
set_option maxHeartbeats 1000000
namespace MF
open PySem PySem.Spec PyProof.Rows L2
def figs : Str := "0123456789"
def numB (w : Str) : Bool := (decide (1 ≤ w.length) && decide (w.length ≤ 19)) && (w.cps.toList.all fun c => decide (c ∈ figs.cps.toList)) && (decide (w = "0") || decide (w.cps.toList.head? ≠ some 48))
def goodW (j : Nat) (w : Str) : Bool := if j = 0 then decide (w = "order") else if j < 3 then isAddrB (.str w) else numB w
def badP (ws : List Str) (j : Nat) : Bool := match ws[j]? with
  | some w => !goodW j w
  | none => true
def badAt (ws : List Str) : Option Nat := match (List.range 6).find? (badP ws) with
  | some j => some j
  | none => if 6 < ws.length then some 6 else none
def noteAt : Nat → List (List Str) → Option (Nat × Nat)
  | _, [] => none
  | k, ws :: L => match badAt ws with
    | some j => some (k, j)
    | none => noteAt (k + 1) L
def valW (w : Str) : Int := ((NumText.digitsVal w.cps.toList : Nat) : Int)
def ordW (ws : List Str) : Ordr := ⟨ws.getD 1 "", ws.getD 2 "", valW (ws.getD 3 ""), valW (ws.getD 4 ""), valW (ws.getD 5 "")⟩
def okOrd (o : Ordr) : Bool := decide (o.src ≠ o.tgt) && (decide (o.first ≤ o.last) && decide (o.last ≤ 1000000000000000000)) && (decide (1 ≤ o.way) && decide (o.way ≤ 30))
def badOrd : List Ordr → List Ordr → Option Nat
  | _, [] => none
  | found, o :: os => if found.length = 30 ∨ okOrd o = false ∨ (found.any fun p => overB p o) = true then some found.length else badOrd (found ++ [o]) os
def nLine (ws : List Str) : Str := Txt.join " " ws
def nText (L : List (List Str)) : Str := Txt.join "\n" (L.map nLine)
def rowW (o : Ordr) : List Str := ["order", o.src, o.tgt, toString o.first, toString o.last, toString o.way]
structure WordOk (w : Str) : Prop where
  len : w.length ≤ 20
  sp : 32 ∉ w.cps.toList
  nl : 10 ∉ w.cps.toList
  asc : ∀ c ∈ w.cps.toList, c < 128
structure RowsOk (L : List (List Str)) : Prop where
  len : L.length ≤ 40
  ne : ∀ ws ∈ L, ws ≠ []
  wl : ∀ ws ∈ L, ws.length ≤ 8
  ok : ∀ ws ∈ L, ∀ w ∈ ws, WordOk w
theorem badAt_none {ws : List Str} (h : badAt ws = none) : ws.length = 6 ∧ ∀ j w, ws[j]? = some w → goodW j w = true := by
  unfold badAt at h
  split at h
  · cases h
  next hn =>
  rw [List.find?_eq_none] at hn
  split at h
  · cases h
  next h6 =>
  have l6 : ws.length = 6 := by
    refine Nat.le_antisymm (by omega) (Classical.byContradiction fun c => ?_)
    have := hn ws.length (List.mem_range.mpr (by omega))
    unfold badP at this
    rw [List.getElem?_eq_none (Nat.le_refl _)] at this
    exact this rfl
  refine ⟨l6, fun j w e => ?_⟩
  have hj : j < 6 := by rw [← l6]; exact (List.getElem?_eq_some_iff.mp e).1
  have := hn j (List.mem_range.mpr hj)
  unfold badP at this
  rw [e] at this
  simpa using this
theorem noteAt_none {k : Nat} {L : List (List Str)} (h : noteAt k L = none) : ∀ ws ∈ L, badAt ws = none := by
  induction L generalizing k with
  | nil => intro ws hw; cases hw
  | cons ws L ih =>
    unfold noteAt at h
    split at h
    · cases h
    next hb =>
    intro z hz
    rcases List.mem_cons.mp hz with rfl | hz
    · exact hb
    · exact ih h z hz
theorem noteAt_get {k0 k j : Nat} {L : List (List Str)} (h : noteAt k0 L = some (k, j)) : ∃ i ws, k = k0 + i ∧ L[i]? = some ws ∧ badAt ws = some j ∧ ∀ m z, m < i → L[m]? = some z → badAt z = none := by
  induction L generalizing k0 with
  | nil => cases h
  | cons ws L ih =>
    unfold noteAt at h
    split at h
    · next hb =>
      cases h
      exact ⟨0, ws, rfl, rfl, hb, fun m z hm => absurd hm (Nat.not_lt_zero _)⟩
    · next hb =>
      obtain ⟨i, z, e1, e2, e3, e4⟩ := ih h
      refine ⟨i + 1, z, by omega, by simpa using e2, e3, fun m y hm ey => ?_⟩
      cases m with
      | zero => cases ey; exact hb
      | succ m => exact e4 m y (by omega) (by simpa using ey)
theorem noteAt_first {ws : List Str} {j : Nat} (hb : badAt ws = some j) : ∀ {L : List (List Str)} {i k : Nat}, (∀ m z, m < i → L[m]? = some z → badAt z = none) → L[i]? = some ws → noteAt k L = some (k + i, j)
  | [], _, _, _, e => by simp at e
  | y :: L, 0, k, _, e => by
    cases e
    unfold noteAt
    rw [hb]
    rfl
  | y :: L, i + 1, k, h, e => by
    unfold noteAt
    rw [h 0 y (by omega) rfl]
    have := noteAt_first hb (L := L) (i := i) (k := k + 1) (fun m z hm ez => h (m + 1) z (by omega) (by simpa using ez)) (by simpa using e)
    show noteAt (k + 1) L = _
    rw [this]
    congr 2
    omega
theorem noteAt_all : ∀ {L : List (List Str)} {k : Nat}, (∀ z ∈ L, badAt z = none) → noteAt k L = none
  | [], _, _ => rfl
  | y :: L, k, h => by
    unfold noteAt
    rw [h y (by simp)]
    exact noteAt_all fun z hz => h z (by simp [hz])
theorem ordW_addr {ws : List Str} (h : badAt ws = none) : isAddrB (.str (ordW ws).src) = true ∧ isAddrB (.str (ordW ws).tgt) = true ∧ 0 ≤ (ordW ws).first := by
  obtain ⟨l6, hg⟩ := badAt_none h
  have e1 : ws[1]? = some (ws[1]'(by omega)) := List.getElem?_eq_getElem _
  have e2 : ws[2]? = some (ws[2]'(by omega)) := List.getElem?_eq_getElem _
  have g1 := hg 1 _ e1
  have g2 := hg 2 _ e2
  refine ⟨?_, ?_, ?_⟩
  · show isAddrB (.str (ws.getD 1 "")) = true
    rw [List.getD_eq_getElem?_getD, e1]
    simpa [goodW] using g1
  · show isAddrB (.str (ws.getD 2 "")) = true
    rw [List.getD_eq_getElem?_getD, e2]
    simpa [goodW] using g2
  · show 0 ≤ valW _
    unfold valW
    omega
theorem okOrd_ok {o : Ordr} (h : okOrd o = true) (ha : isAddrB (.str o.src) = true) (hb : isAddrB (.str o.tgt) = true) (h0 : 0 ≤ o.first) : o.Ok := by
  unfold okOrd at h
  simp only [Bool.and_eq_true, decide_eq_true_eq] at h
  obtain ⟨⟨h1, h2, h3⟩, h4, h5⟩ := h
  exact ⟨ha, hb, h1, h0, h2, h3, h4, h5⟩
theorem ok_okOrd {o : Ordr} (h : o.Ok) : okOrd o = true := by
  unfold okOrd
  simp [h.ne, h.fl, h.lm, h.w1, h.w30]
structure RawOk (o : Ordr) : Prop where
  as : isAddrB (.str o.src) = true
  at_ : isAddrB (.str o.tgt) = true
  f0 : 0 ≤ o.first
theorem ordW_raw {ws : List Str} (h : badAt ws = none) : RawOk (ordW ws) := let ⟨a, b, c⟩ := ordW_addr h; ⟨a, b, c⟩
theorem Good.snoc46 {os : List Ordr} {o : Ordr} (g : Good os) (hl : os.length < 30) (ho : o.Ok) (hn : (os.any fun p => overB p o) = false) : Good (os ++ [o]) := by
  refine ⟨by rw [List.length_append]; show os.length + 1 ≤ 30; omega, fun p hp => ?_, List.pairwise_append.mpr ⟨g.apart, by simp, fun p hp q hq => ?_⟩⟩
  · rcases List.mem_append.mp hp with z | z
    · exact g.ok p z
    · rw [List.mem_singleton.mp z]; exact ho
  · rw [List.mem_singleton.mp hq]
    rw [List.any_eq_false] at hn
    simpa using hn p hp
theorem badOrd_none : ∀ {os found : List Ordr}, Good found → (∀ o ∈ os, RawOk o) → badOrd found os = none → Good (found ++ os)
  | [], found, g, _, _ => by rw [List.append_nil]; exact g
  | o :: os, found, g, hr, h => by
    unfold badOrd at h
    split at h
    · cases h
    next hn =>
    rw [not_or, not_or] at hn
    obtain ⟨h1, h2, h3⟩ := hn
    have r := hr o (by simp)
    have g2 : Good (found ++ [o]) := g.snoc46 (by have := g.len; omega) (okOrd_ok (by simpa using h2) r.as r.at_ r.f0) (by simpa using h3)
    have := badOrd_none g2 (fun p hp => hr p (by simp [hp])) h
    simpa using this
theorem badOrd_some : ∀ {os found : List Ordr} {n : Nat}, Good found → (∀ o ∈ os, RawOk o) → badOrd found os = some n → ∃ pre o rest, os = pre ++ o :: rest ∧ Good (found ++ pre) ∧ (found ++ pre).length = n ∧ (n = 30 ∨ okOrd o = false ∨ (okOrd o = true ∧ ((found ++ pre).any fun p => overB p o) = true))
  | [], found, n, _, _, h => by cases h
  | o :: os, found, n, g, hr, h => by
    unfold badOrd at h
    have r := hr o (by simp)
    split at h
    · next hn =>
      cases h
      refine ⟨[], o, os, rfl, by rw [List.append_nil]; exact g, by rw [List.append_nil], ?_⟩
      rw [List.append_nil]
      rcases hn with z | z | z
      · exact .inl z
      · exact .inr (.inl z)
      · cases c : okOrd o with
        | false => exact .inr (.inl rfl)
        | true => exact .inr (.inr ⟨rfl, z⟩)
    next hn =>
    rw [not_or, not_or] at hn
    obtain ⟨h1, h2, h3⟩ := hn
    have g2 : Good (found ++ [o]) := g.snoc46 (by have := g.len; omega) (okOrd_ok (by simpa using h2) r.as r.at_ r.f0) (by simpa using h3)
    obtain ⟨pre, p, rest, e1, e2, e3, e4⟩ := badOrd_some g2 (fun q hq => hr q (by simp [hq])) h
    rw [List.append_assoc] at e2 e3 e4
    exact ⟨o :: pre, p, rest, by rw [e1]; rfl, e2, e3, e4⟩
theorem badOrd_good : ∀ {os found : List Ordr}, Good (found ++ os) → badOrd found os = none
  | [], found, _ => rfl
  | o :: os, found, g => by
    unfold badOrd
    have hl := g.len
    rw [List.length_append, List.length_cons] at hl
    have ho := g.ok o (by simp)
    have ap := (List.pairwise_append.mp g.apart).2.2
    rw [if_neg (by
      rintro (z | z | z)
      · omega
      · rw [ok_okOrd ho] at z; cases z
      · obtain ⟨p, hp, e⟩ := List.any_eq_true.mp z
        rw [ap p hp o (by simp)] at e
        cases e)]
    exact badOrd_good (by simpa using g)
theorem badAt_first {ws : List Str} {i : Nat} (h : ∀ m, m < i → badP ws m = false) (hi : i < 6) (hb : badP ws i = true) : badAt ws = some i := by
  unfold badAt
  rw [List.find?_range_eq_some.mpr ⟨hb, List.mem_range.mpr hi, fun m hm => by rw [h m hm]; rfl⟩]
theorem badAt_rest {ws : List Str} (h : ∀ m, m < 6 → badP ws m = false) : badAt ws = if 6 < ws.length then some 6 else none := by
  unfold badAt
  rw [List.find?_eq_none.mpr fun m hm => by rw [h m (List.mem_range.mp hm)]; simp]
theorem figs_mem {c : Nat} : c ∈ figs.cps.toList ↔ 48 ≤ c ∧ c ≤ 57 := by
  have : figs.cps.toList = [48, 49, 50, 51, 52, 53, 54, 55, 56, 57] := by decide +kernel
  rw [this]
  simp
  omega
theorem numB_int {w : Str} (h : numB w = true) : intText? w = some (valW w) ∧ w.length ≤ 19 := by
  unfold numB at h
  simp only [Bool.and_eq_true, decide_eq_true_eq, List.all_eq_true] at h
  obtain ⟨⟨⟨h1, h2⟩, h3⟩, _⟩ := h
  refine ⟨?_, h2⟩
  have hd : ∀ c ∈ w.cps.toList, 48 ≤ c ∧ c ≤ 57 := fun c hc => figs_mem.mp (h3 c hc)
  have hne : w.cps.toList ≠ [] := fun e => by
    have : w.cps.toList.length = 0 := by rw [e]; rfl
    rw [Array.length_toList] at this
    have : w.length = 0 := this
    omega
  exact intText_digits (x := w) hd hne (by omega)
theorem six {ws : List Str} (h : ws.length = 6) : ∃ a b c d e f, ws = [a, b, c, d, e, f] := by
  match ws, h with
  | [a, b, c, d, e, f], _ => exact ⟨a, b, c, d, e, f, rfl⟩
theorem line_split {ws : List Str} (h : ws ≠ []) (hp : ∀ w ∈ ws, 32 ∉ w.cps.toList) : Txt.split (nLine ws) " " = ws := TL.split_join (s := 32) (S := []) (by decide +kernel) (by decide +kernel) h hp
theorem str_join_len (sep : Str) : ∀ (l : List Str) (k : Nat), (∀ x ∈ l, x.length ≤ k) → (Txt.join sep l).length ≤ l.length * (k + sep.length)
  | [], k, _ => by show (Str.empty).length ≤ _; exact Nat.zero_le _
  | [x], k, h => by
    have := h x (by simp)
    show x.length ≤ 1 * (k + sep.length)
    omega
  | x :: y :: l, k, h => by
    have h1 := str_join_len sep (y :: l) k fun z hz => h z (by simp [hz])
    have h2 := h x (by simp)
    have e : Txt.join sep (x :: y :: l) = x ++ sep ++ Txt.join sep (y :: l) := by
      rw [TL.join_eq, TL.join_eq]
      rfl
    rw [e, Str.length_append, Str.length_append]
    show _ ≤ (l.length + 1 + 1) * (k + sep.length)
    rw [show (l.length + 1 + 1) * (k + sep.length) = (l.length + 1) * (k + sep.length) + (k + sep.length) from by rw [Nat.add_mul]; omega]
    have h1' : (Txt.join sep (y :: l)).length ≤ (l.length + 1) * (k + sep.length) := h1
    omega
theorem tl_join_mem {s : Nat} {y : Str} (hy : s ∉ y.cps.toList) : ∀ {l : List Str}, (∀ x ∈ l, s ∉ x.cps.toList) → s ∉ (Txt.join y l).cps.toList
  | [], _ => by show s ∉ (Str.empty).cps.toList; intro h; cases h
  | [x], h => h x (by simp)
  | x :: z :: l, h => by
    have h1 := tl_join_mem hy (l := z :: l) fun w hw => h w (by simp [hw])
    have e : Txt.join y (x :: z :: l) = x ++ y ++ Txt.join y (z :: l) := by
      rw [TL.join_eq, TL.join_eq]
      rfl
    have et : (Txt.join y (x :: z :: l)).cps.toList = x.cps.toList ++ y.cps.toList ++ (Txt.join y (z :: l)).cps.toList := by
      rw [e]
      show TL.tl _ = TL.tl _ ++ TL.tl _ ++ TL.tl _
      rw [TL.tl_append, TL.tl_append]
    rw [et]
    intro hm
    rcases List.mem_append.mp hm with hm | hm
    · rcases List.mem_append.mp hm with hm | hm
      · exact h x (by simp) hm
      · exact hy hm
    · exact h1 hm
theorem tl_str46 {z : Str} : z.cps.toList = TL.tl z := rfl
theorem row_line (o : Ordr) : nLine (rowW o) = Str.empty ++ ("order" : Str) ++ (" " : Str) ++ o.src ++ (" " : Str) ++ o.tgt ++ (" " : Str) ++ Str.ofString (toString o.first) ++ (" " : Str) ++ Str.ofString (toString o.last) ++ (" " : Str) ++ Str.ofString (toString o.way) := by
  refine TL.ext_tl ?_
  show TL.tl (Txt.join " " [("order" : Str), o.src, o.tgt, Str.ofString (toString o.first), Str.ofString (toString o.last), Str.ofString (toString o.way)]) = _
  rw [TL.join_eq, TL.tl_join]
  simp only [TL.tl_append, List.map_cons, List.map_nil, TL.joinL, List.append_assoc]
  rfl
theorem text_split {L : List (List Str)} (h : L ≠ []) (R : RowsOk L) : Txt.split (nText L) "\n" = L.map nLine := by
  refine TL.split_join (s := 10) (S := []) (by decide +kernel) (by decide +kernel) (fun e => h (List.map_eq_nil_iff.mp e)) fun p hp => ?_
  obtain ⟨ws, hws, rfl⟩ := List.mem_map.mp hp
  exact tl_join_mem (by decide +kernel) fun w hw => (R.ok ws hws w hw).nl
theorem line_len {L : List (List Str)} (R : RowsOk L) {ws : List Str} (h : ws ∈ L) : (nLine ws).length ≤ 168 := by
  have h1 := str_join_len " " ws 20 fun w hw => (R.ok ws h w hw).len
  have h2 := R.wl ws h
  have e : (" " : Str).length = 1 := by decide +kernel
  rw [e] at h1
  show (Txt.join " " ws).length ≤ 168
  refine Nat.le_trans h1 ?_
  omega
theorem text_len {L : List (List Str)} (R : RowsOk L) : (nText L).length ≤ 6760 := by
  have h1 := str_join_len "\n" (L.map nLine) 168 fun x hx => by
    obtain ⟨ws, hws, rfl⟩ := List.mem_map.mp hx
    exact line_len R hws
  have e : ("\n" : Str).length = 1 := by decide +kernel
  rw [e, List.length_map] at h1
  have := R.len
  show (Txt.join "\n" (L.map nLine)).length ≤ 6760
  refine Nat.le_trans h1 ?_
  omega
theorem numL_head : ∀ {n : Nat}, n ≠ 0 → (TL.numL n).head? = some 48 → False := by
  intro n
  induction n using Nat.strongRecOn with
  | _ n ih =>
    intro hn hh
    by_cases c : n < 10
    · rw [TL.numL_lt c] at hh
      have : 48 + n = 48 := by simpa using hh
      omega
    · rw [TL.numL_step (by omega)] at hh
      refine ih (n / 10) (by omega) (by omega) ?_
      have ne := TL.numL_ne (n / 10)
      cases h : TL.numL (n / 10) with
      | nil => exact absurd h ne
      | cons a l => rw [h] at hh; exact hh
theorem sum_le46 {l : List Str} {k : Nat} (h : ∀ x ∈ l, x.length ≤ k) : (l.map (·.length)).sum ≤ l.length * k := by
  induction l with
  | nil => exact Nat.zero_le _
  | cons x l ih =>
    have h1 := ih fun y hy => h y (by simp [hy])
    have h2 := h x (by simp)
    rw [List.map_cons, List.sum_cons, List.length_cons, Nat.add_mul]
    omega
theorem addr_word {z : Str} (h : isAddrB (.str z) = true) : WordOk z := by
  unfold isAddrB at h
  simp only [Bool.and_eq_true, decide_eq_true_eq, List.all_eq_true] at h
  obtain ⟨⟨_, h2⟩, h3⟩ := h
  have e1 : 32 ∉ letters.cps.toList := by decide +kernel
  have e2 : 10 ∉ letters.cps.toList := by decide +kernel
  have e3 : ∀ c ∈ letters.cps.toList, c < 128 := by decide +kernel
  exact ⟨by omega, fun z => e1 (h3 _ z), fun z => e2 (h3 _ z), fun c z => e3 c (h3 _ z)⟩
theorem num_word {x : Int} (h0 : 0 ≤ x) (h1 : x ≤ 1000000000000000000) : WordOk (Str.ofString (toString x)) := by
  obtain ⟨n, rfl⟩ := Int.eq_ofNat_of_zero_le h0
  have e : (Str.ofString (toString ((n : Nat) : Int))).cps.toList = TL.numL n := TL.tl_num n
  refine ⟨?_, ?_, ?_, fun c hc => ?_⟩
  · have : (TL.numL n).length ≤ 19 := TL.numL_len (by decide) (by omega)
    rw [TL.len_tl, TL.tl_num]
    omega
  · rw [e]; exact TL.numL_free (.inl (by decide))
  · rw [e]; exact TL.numL_free (.inl (by decide))
  · rw [e] at hc
    have := TL.numL_digits n c hc
    omega
theorem order_word : WordOk "order" := ⟨by decide +kernel, by decide +kernel, by decide +kernel, by decide +kernel⟩
theorem row_words {o : Ordr} (ok : o.Ok) : ∀ w ∈ rowW o, WordOk w := fun w hw => by
  have f0 := ok.f0
  have fl := ok.fl
  have lm := ok.lm
  have w1 := ok.w1
  have w30 := ok.w30
  replace hw : w ∈ [("order" : Str), o.src, o.tgt, Str.ofString (toString o.first), Str.ofString (toString o.last), Str.ofString (toString o.way)] := hw
  simp only [List.mem_cons, List.not_mem_nil, or_false] at hw
  rcases hw with rfl | rfl | rfl | rfl | rfl | rfl
  · exact order_word
  · exact addr_word ok.as
  · exact addr_word ok.at_
  · exact num_word f0 (by omega)
  · exact num_word (by omega) lm
  · exact num_word (by omega) (by omega)
theorem rows_ok {os : List Ordr} (g : Good os) : RowsOk (os.map rowW) := by
  refine ⟨by rw [List.length_map]; have := g.len; omega, fun ws hw => ?_, fun ws hw => ?_, fun ws hw => ?_⟩
  · obtain ⟨o, _, rfl⟩ := List.mem_map.mp hw
    intro h; cases h
  · obtain ⟨o, _, rfl⟩ := List.mem_map.mp hw
    show 6 ≤ 8; decide
  · obtain ⟨o, ho, rfl⟩ := List.mem_map.mp hw
    exact row_words (g.ok o ho)
theorem numB_num {x : Int} (h0 : 0 ≤ x) (h1 : x ≤ 1000000000000000000) : numB (Str.ofString (toString x)) = true ∧ valW (Str.ofString (toString x)) = x := by
  obtain ⟨n, rfl⟩ := Int.eq_ofNat_of_zero_le h0
  have e : (Str.ofString (toString ((n : Nat) : Int))).cps.toList = TL.numL n := TL.tl_num n
  have hl : (Str.ofString (toString ((n : Nat) : Int))).length = (TL.numL n).length := by rw [TL.len_tl, TL.tl_num]
  have l19 : (TL.numL n).length ≤ 19 := TL.numL_len (by decide) (by omega)
  have l1 : 1 ≤ (TL.numL n).length := List.length_pos_iff.mpr (TL.numL_ne n)
  refine ⟨?_, ?_⟩
  · unfold numB
    simp only [Bool.and_eq_true, decide_eq_true_eq, List.all_eq_true, Bool.or_eq_true]
    refine ⟨⟨⟨by omega, by omega⟩, fun c hc => ?_⟩, ?_⟩
    · rw [e] at hc
      have := TL.numL_digits n c hc
      exact figs_mem.mpr (by omega)
    · rw [e]
      by_cases c : n = 0
      · subst c
        exact .inl (by decide +kernel)
      · refine .inr fun hh => ?_
        exact numL_head c hh
  · unfold valW
    rw [e, TL.numL_val]
theorem row_good {o : Ordr} (ok : o.Ok) : badAt (rowW o) = none := by
  have f0 := ok.f0
  have fl := ok.fl
  have lm := ok.lm
  have w1 := ok.w1
  have w30 := ok.w30
  have n1 := (numB_num (x := o.first) f0 (by omega)).1
  have n2 := (numB_num (x := o.last) (by omega) lm).1
  have n3 := (numB_num (x := o.way) (by omega) (by omega)).1
  rw [badAt_rest fun m hm => ?_]
  · rfl
  · have : m = 0 ∨ m = 1 ∨ m = 2 ∨ m = 3 ∨ m = 4 ∨ m = 5 := by omega
    rcases this with rfl | rfl | rfl | rfl | rfl | rfl
    · show (!decide (("order" : Str) = "order")) = false
      rw [decide_eq_true rfl]; rfl
    · show (!isAddrB (.str o.src)) = false
      rw [ok.as]; rfl
    · show (!isAddrB (.str o.tgt)) = false
      rw [ok.at_]; rfl
    · show (!numB (Str.ofString (toString o.first))) = false
      rw [n1]; rfl
    · show (!numB (Str.ofString (toString o.last))) = false
      rw [n2]; rfl
    · show (!numB (Str.ofString (toString o.way))) = false
      rw [n3]; rfl
theorem row_ord {o : Ordr} (ok : o.Ok) : ordW (rowW o) = o := by
  have f0 := ok.f0
  have fl := ok.fl
  have lm := ok.lm
  have w1 := ok.w1
  have w30 := ok.w30
  show (⟨o.src, o.tgt, valW (Str.ofString (toString o.first)), valW (Str.ofString (toString o.last)), valW (Str.ofString (toString o.way))⟩ : Ordr) = o
  rw [(numB_num (x := o.first) f0 (by omega)).2, (numB_num (x := o.last) (by omega) lm).2, (numB_num (x := o.way) (by omega) (by omega)).2]
theorem rows_back {os : List Ordr} (g : Good os) : noteAt 0 (os.map rowW) = none ∧ (os.map rowW).map ordW = os ∧ badOrd [] os = none := by
  refine ⟨noteAt_all fun z hz => ?_, ?_, badOrd_good g⟩
  · obtain ⟨o, ho, rfl⟩ := List.mem_map.mp hz
    exact row_good (g.ok o ho)
  · rw [List.map_map]
    refine (List.map_congr_left fun o ho => ?_).trans (List.map_id _)
    exact row_ord (g.ok o ho)
theorem join_head {y x : Str} : ∀ {l : List Str}, x.length ≤ (Txt.join y (x :: l)).length
  | [] => Nat.le_refl _
  | z :: l => by
    have e : Txt.join y (x :: z :: l) = x ++ y ++ Txt.join y (z :: l) := by
      rw [TL.join_eq, TL.join_eq]
      rfl
    rw [e, Str.length_append, Str.length_append]
    omega
theorem text_ne {os : List Ordr} (h : os ≠ []) : nText (os.map rowW) ≠ "" := by
  cases os with
  | nil => exact absurd rfl h
  | cons o os =>
    intro e
    have h1 : (nLine (rowW o)).length ≤ (nText ((o :: os).map rowW)).length := join_head
    have h2 : ("order" : Str).length ≤ (nLine (rowW o)).length := join_head
    rw [e] at h1
    have e0 : ("" : Str).length = 0 := by decide +kernel
    have e5 : ("order" : Str).length = 5 := by decide +kernel
    omega
def wordB (w : Str) : Bool := decide (w.length ≤ 20) && w.cps.toList.all fun c => decide (c ≠ 32) && decide (c ≠ 10) && decide (c < 128)
theorem wordB_ok {w : Str} (h : wordB w = true) : WordOk w := by
  unfold wordB at h
  simp only [Bool.and_eq_true, decide_eq_true_eq, List.all_eq_true] at h
  exact ⟨h.1, fun z => (h.2 _ z).1.1 rfl, fun z => (h.2 _ z).1.2 rfl, fun c z => (h.2 c z).2⟩
def oddL : List Str := ["", "0", "31", "01", "order", "-1", "1000000000000000001", "11111111111111111111", "a", "A", "ninesigns"]
theorem oddL_ok : ∀ w ∈ oddL, WordOk w := fun w hw => wordB_ok (by
  have : oddL.all wordB = true := by decide +kernel
  exact List.all_eq_true.mp this w hw)
theorem badOrd_over : ∀ {os found : List Ordr} {o : Ordr} {rest : List Ordr}, Good (found ++ os) → (found ++ os).length = 30 → badOrd found (os ++ o :: rest) = some 30
  | [], found, o, rest, g, h => by
    rw [List.append_nil] at h
    show badOrd found (o :: rest) = _
    unfold badOrd
    rw [if_pos (.inl h), h]
  | p :: os, found, o, rest, g, h => by
    show badOrd found (p :: (os ++ o :: rest)) = _
    unfold badOrd
    have hl := g.len
    rw [List.length_append, List.length_cons] at hl
    have ho := g.ok p (by simp)
    have ap := (List.pairwise_append.mp g.apart).2.2
    rw [if_neg (by
      rintro (z | z | z)
      · omega
      · rw [ok_okOrd ho] at z; cases z
      · obtain ⟨q, hq, e⟩ := List.any_eq_true.mp z
        rw [ap q hq p (by simp)] at e
        cases e)]
    exact badOrd_over (by simpa using g) (by simpa using h)
def oK (k : Nat) : Ordr := ⟨"a", "b", (k : Nat), (k : Nat), 1⟩
def osN (n : Nat) : List Ordr := (List.range n).map oK
theorem oK_ok {k : Nat} (h : k < 100) : (oK k).Ok := ⟨by show isAddrB (.str "a") = true; decide +kernel, by show isAddrB (.str "b") = true; decide +kernel, by show ("a" : Str) ≠ "b"; decide, by show (0 : Int) ≤ (k : Nat); omega, by show ((k : Nat) : Int) ≤ (k : Nat); omega, by show ((k : Nat) : Int) ≤ 1000000000000000000; omega, by show (1 : Int) ≤ 1; decide, by show (1 : Int) ≤ 30; decide⟩
theorem osN_good {n : Nat} (h : n ≤ 30) : Good (osN n) := by
  refine ⟨by unfold osN; rw [List.length_map, List.length_range]; exact h, fun o ho => ?_, ?_⟩
  · obtain ⟨k, hk, rfl⟩ := List.mem_map.mp ho
    exact oK_ok (by have := List.mem_range.mp hk; omega)
  · refine List.pairwise_map.mpr (List.pairwise_lt_range.imp fun {a b} hab => ?_)
    unfold overB oK
    simp
    omega
theorem osN_row (k : Nat) : nLine (rowW (oK k)) = ("order a b " : Str) ++ Str.ofString (toString ((k : Nat) : Int)) ++ (" " : Str) ++ Str.ofString (toString ((k : Nat) : Int)) ++ (" 1" : Str) := by
  rw [row_line]
  have e1 : Str.empty ++ ("order" : Str) ++ (" " : Str) ++ (oK k).src ++ (" " : Str) ++ (oK k).tgt ++ (" " : Str) = ("order a b " : Str) := by
    show Str.empty ++ ("order" : Str) ++ (" " : Str) ++ ("a" : Str) ++ (" " : Str) ++ ("b" : Str) ++ (" " : Str) = _
    decide +kernel
  have e2 : (" " : Str) ++ Str.ofString (toString (oK k).way) = (" 1" : Str) := by
    show (" " : Str) ++ Str.ofString (toString (1 : Int)) = _
    decide +kernel
  rw [e1]
  refine TL.ext_tl ?_
  have e3 := congrArg TL.tl e2
  rw [TL.tl_append] at e3
  simp only [TL.tl_append, List.append_assoc]
  rw [e3]
  rfl
theorem osN_rows {n : Nat} (h : n ≤ 31) : RowsOk ((osN n).map rowW) ∧ noteAt 0 ((osN n).map rowW) = none ∧ ((osN n).map rowW).map ordW = osN n := by
  have ok : ∀ o ∈ osN n, o.Ok := fun o ho => by
    obtain ⟨k, hk, rfl⟩ := List.mem_map.mp ho
    exact oK_ok (by have := List.mem_range.mp hk; omega)
  refine ⟨⟨?_, fun ws hw => ?_, fun ws hw => ?_, fun ws hw => ?_⟩, noteAt_all fun z hz => ?_, ?_⟩
  · unfold osN
    rw [List.length_map, List.length_map, List.length_range]
    omega
  · obtain ⟨o, _, rfl⟩ := List.mem_map.mp hw
    intro h; cases h
  · obtain ⟨o, _, rfl⟩ := List.mem_map.mp hw
    show 6 ≤ 8; decide
  · obtain ⟨o, ho, rfl⟩ := List.mem_map.mp hw
    exact row_words (ok o ho)
  · obtain ⟨o, ho, rfl⟩ := List.mem_map.mp hz
    exact row_good (ok o ho)
  · rw [List.map_map]
    refine (List.map_congr_left fun o ho => ?_).trans (List.map_id _)
    exact row_ord (ok o ho)
theorem osN_30 : badOrd [] (osN 30) = none := badOrd_good (osN_good (Nat.le_refl _))
theorem osN_31 : badOrd [] (osN 31) = some 30 := by
  have : osN 31 = osN 30 ++ oK 30 :: [] := by
    unfold osN
    rw [List.range_succ, List.map_append]
    rfl
  rw [this]
  exact badOrd_over (osN_good (Nat.le_refl _)) (by show (osN 30).length = 30; unfold osN; rw [List.length_map, List.length_range])
theorem osN_ne {n : Nat} (h : 0 < n) : osN n ≠ [] := fun e => by
  have := congrArg List.length e
  unfold osN at this
  rw [List.length_map, List.length_range] at this
  simp at this
  omega
end MF
set_option Elab.async false
set_option linter.all false
set_option maxHeartbeats 1000000
namespace MF
open PySem

def holds (o : Ordr) (x : Str) (d : Int) : Bool := decide (o.src = x) && (decide (o.first ≤ d) && decide (d ≤ o.last))
def ordFor : List Ordr → Str → Int → Option Nat
  | [], _, _ => none
  | o :: os, x, d => if holds o x d = true then some 0 else (ordFor os x d).map (· + 1)
theorem ordFor_some {x : Str} {d : Int} : ∀ {os : List Ordr} {i : Nat}, ordFor os x d = some i → ∃ o, os[i]? = some o ∧ holds o x d = true
  | [], i, h => by cases h
  | o :: os, i, h => by
    unfold ordFor at h
    by_cases q : holds o x d = true
    · rw [if_pos q] at h
      cases h
      exact ⟨o, rfl, q⟩
    · rw [if_neg q] at h
      cases e : ordFor os x d with
      | none => rw [e] at h; cases h
      | some j =>
        rw [e] at h
        cases h
        obtain ⟨p, h1, h2⟩ := ordFor_some e
        exact ⟨p, by simpa using h1, h2⟩
theorem ordFor_is {x : Str} {d : Int} {o : Ordr} : ∀ {os : List Ordr} {i : Nat}, (∀ (j : Nat) p, j < i → os[j]? = some p → holds p x d = false) → os[i]? = some o → holds o x d = true → ordFor os x d = some i
  | [], i, _, h, _ => by simp at h
  | p :: os, 0, _, h, q => by
    simp at h
    subst h
    unfold ordFor
    rw [if_pos q]
  | p :: os, i + 1, hn, h, q => by
    have h0 : holds p x d = false := hn 0 p (Nat.succ_pos _) rfl
    unfold ordFor
    rw [h0, if_neg Bool.false_ne_true, ordFor_is (i := i) (fun j r hj e => hn (j + 1) r (Nat.succ_lt_succ hj) (by simpa using e)) (by simpa using h) q]
    rfl
theorem ordFor_none {x : Str} {d : Int} : ∀ {os : List Ordr}, (∀ p ∈ os, holds p x d = false) → ordFor os x d = none
  | [], _ => rfl
  | p :: os, h => by
    unfold ordFor
    rw [h p (by simp), if_neg Bool.false_ne_true, ordFor_none fun q hq => h q (by simp [hq])]
    rfl
theorem ordFor_none_iff {x : Str} {d : Int} {os : List Ordr} : ordFor os x d = none ↔ ∀ p ∈ os, holds p x d = false := by
  refine ⟨fun h => ?_, ordFor_none⟩
  induction os with
  | nil => intro p hp; cases hp
  | cons o os ih =>
    unfold ordFor at h
    by_cases q : holds o x d = true
    · rw [if_pos q] at h; cases h
    · rw [if_neg q] at h
      have h' : ordFor os x d = none := by
        cases e : ordFor os x d with
        | none => rfl
        | some j => rw [e] at h; cases h
      intro p hp
      rcases List.mem_cons.mp hp with rfl | hp
      · simpa using q
      · exact ih h' p hp
theorem ordFor_congr {x : Str} {d e : Int} : ∀ {os : List Ordr}, (∀ p ∈ os, holds p x d = holds p x e) → ordFor os x d = ordFor os x e
  | [], _ => rfl
  | p :: os, h => by
    unfold ordFor
    rw [h p (by simp), ordFor_congr fun q hq => h q (by simp [hq])]
def changes : List Ordr → Int → List Int
  | [], _ => []
  | o :: os, d => ([o.first, o.last + 1].filter fun c => decide (d < c)) ++ changes os d
theorem mem_changes {d c : Int} : ∀ {os : List Ordr}, c ∈ changes os d ↔ d < c ∧ ∃ o ∈ os, c = o.first ∨ c = o.last + 1
  | [] => by simp [changes]
  | o :: os => by
    unfold changes
    rw [List.mem_append, mem_changes (os := os), List.mem_filter]
    simp only [List.mem_cons, List.not_mem_nil, or_false, decide_eq_true_eq, exists_eq_or_imp]
    constructor
    · rintro (⟨h1, h2⟩ | ⟨h1, o', h2, h3⟩)
      · exact ⟨h2, .inl h1⟩
      · exact ⟨h1, .inr ⟨o', h2, h3⟩⟩
    · rintro ⟨h1, h2 | ⟨o', h2, h3⟩⟩
      · exact .inl ⟨h2, h1⟩
      · exact .inr ⟨h1, o', h2, h3⟩
def leastOf : List Int → Option Int
  | [] => none
  | a :: as => match leastOf as with
    | none => some a
    | some b => some (if a ≤ b then a else b)
theorem leastOf_none {l : List Int} : leastOf l = none ↔ l = [] := by
  cases l with
  | nil => simp [leastOf]
  | cons a as =>
    unfold leastOf
    cases leastOf as <;> simp
theorem leastOf_some : ∀ {l : List Int} {m : Int}, leastOf l = some m ↔ m ∈ l ∧ ∀ c ∈ l, m ≤ c
  | [], m => by simp [leastOf]
  | a :: as, m => by
    unfold leastOf
    cases e : leastOf as with
    | none =>
      have := leastOf_none.mp e
      subst this
      simp only [Option.some.injEq, List.mem_singleton]
      constructor
      · rintro rfl; exact ⟨rfl, fun c hc => by rw [hc]; exact Int.le_refl _⟩
      · rintro ⟨h, _⟩; exact h.symm
    | some b =>
      obtain ⟨hb, hm⟩ := (leastOf_some (l := as) (m := b)).mp e
      simp only [Option.some.injEq, List.mem_cons]
      constructor
      · intro h
        by_cases q : a ≤ b
        · rw [if_pos q] at h
          subst h
          exact ⟨.inl rfl, fun c hc => by
            rcases hc with rfl | hc
            · exact Int.le_refl _
            · have := hm c hc; omega⟩
        · rw [if_neg q] at h
          subst h
          exact ⟨.inr hb, fun c hc => by
            rcases hc with rfl | hc
            · omega
            · exact hm c hc⟩
      · rintro ⟨h1, h2⟩
        have ha := h2 a (.inl rfl)
        have hb' := h2 b (.inr hb)
        rcases h1 with rfl | h1
        · rw [if_pos hb']
        · have := hm m h1
          by_cases q : a ≤ b
          · rw [if_pos q]; omega
          · rw [if_neg q]; omega
def nextCh (os : List Ordr) (d : Int) : Option Int := leastOf (changes os d)
theorem nextCh_gt {os : List Ordr} {d c : Int} (h : nextCh os d = some c) : d < c := (mem_changes.mp (leastOf_some.mp h).1).1
theorem nextCh_const {os : List Ordr} {d e : Int} (hd : d ≤ e) (hc : ∀ c, nextCh os d = some c → e < c) : nextCh os e = nextCh os d := by
  have sub : ∀ c, c ∈ changes os e ↔ c ∈ changes os d := fun c => by
    rw [mem_changes, mem_changes]
    constructor
    · rintro ⟨h1, h2⟩; exact ⟨by omega, h2⟩
    · rintro ⟨h1, h2⟩
      refine ⟨?_, h2⟩
      cases q : nextCh os d with
      | none =>
        have := leastOf_none.mp q
        have hm : c ∈ changes os d := mem_changes.mpr ⟨h1, h2⟩
        rw [this] at hm; cases hm
      | some m =>
        have := (leastOf_some.mp q).2 c (mem_changes.mpr ⟨h1, h2⟩)
        have := hc m q
        omega
  unfold nextCh
  cases q : leastOf (changes os d) with
  | none =>
    have h0 := leastOf_none.mp q
    refine leastOf_none.mpr ?_
    cases r : changes os e with
    | nil => rfl
    | cons a as =>
      have : a ∈ changes os d := (sub a).mp (by rw [r]; simp)
      rw [h0] at this; cases this
  | some m =>
    obtain ⟨h1, h2⟩ := leastOf_some.mp q
    exact leastOf_some.mpr ⟨(sub m).mpr h1, fun c hc' => h2 c ((sub c).mp hc')⟩
theorem ordFor_const {os : List Ordr} {x : Str} {d e : Int} (hd : d ≤ e) (hc : ∀ c ∈ changes os d, e < c) : ordFor os x e = ordFor os x d := by
  refine ordFor_congr fun o ho => ?_
  have h1 : d < o.first → e < o.first := fun h => hc _ (mem_changes.mpr ⟨h, o, ho, .inl rfl⟩)
  have h2 : d < o.last + 1 → e < o.last + 1 := fun h => hc _ (mem_changes.mpr ⟨h, o, ho, .inr rfl⟩)
  have e1 : decide (o.first ≤ e) = decide (o.first ≤ d) := by
    by_cases q : o.first ≤ d
    · rw [decide_eq_true q, decide_eq_true (by omega)]
    · rw [decide_eq_false q, decide_eq_false (by omega)]
  have e2 : decide (e ≤ o.last) = decide (d ≤ o.last) := by
    by_cases q : d ≤ o.last
    · rw [decide_eq_true q, decide_eq_true (by omega)]
    · rw [decide_eq_false q, decide_eq_false (by omega)]
  unfold holds
  rw [e1, e2]

abbrev Pt := Str × Int
def nxt (os : List Ordr) (s : Pt) : Option Pt := (ordFor os s.1 s.2).bind fun i => os[i]?.map fun o => (o.tgt, s.2 + o.way)
inductive Go (os : List Ordr) : Pt → Nat → Pt → Prop
  | refl (s : Pt) : Go os s 0 s
  | step {s s' t : Pt} {n : Nat} (h : nxt os s = some s') (r : Go os s' n t) : Go os s (n + 1) t
def Ends (os : List Ordr) (s : Pt) (n : Nat) (t : Pt) : Prop := Go os s n t ∧ nxt os t = none
theorem nxt_of {os : List Ordr} {x : Str} {d : Int} {i : Nat} {o : Ordr} (h : ordFor os x d = some i) (e : os[i]? = some o) : nxt os (x, d) = some (o.tgt, d + o.way) := by
  unfold nxt
  simp only [h, Option.bind_some, e, Option.map_some]
theorem nxt_none {os : List Ordr} {x : Str} {d : Int} : nxt os (x, d) = none ↔ ordFor os x d = none := by
  unfold nxt
  cases h : ordFor os x d with
  | none => simp
  | some i =>
    obtain ⟨o, e, _⟩ := ordFor_some h
    simp [e]
theorem nxt_some {os : List Ordr} {s s' : Pt} (h : nxt os s = some s') : ∃ i o, ordFor os s.1 s.2 = some i ∧ os[i]? = some o ∧ holds o s.1 s.2 = true ∧ s' = (o.tgt, s.2 + o.way) := by
  obtain ⟨x, d⟩ := s
  unfold nxt at h
  cases q : ordFor os x d with
  | none => simp [q] at h
  | some i =>
    obtain ⟨o, e, ho⟩ := ordFor_some q
    simp [q, e] at h
    exact ⟨i, o, rfl, e, ho, h.symm⟩
theorem Go.trans {os : List Ordr} {s t u : Pt} {n m : Nat} (a : Go os s n t) (b : Go os t m u) : Go os s (n + m) u := by
  induction a with
  | refl s => rw [Nat.zero_add]; exact b
  | step h r ih => rw [Nat.succ_add]; exact .step h (ih b)
theorem Go.one {os : List Ordr} {s t : Pt} (h : nxt os s = some t) : Go os s 1 t := .step h (.refl t)
theorem Go.det {os : List Ordr} {s t u : Pt} {n : Nat} (a : Go os s n t) (b : Go os s n u) : t = u := by
  induction a with
  | refl s => cases b; rfl
  | step h r ih =>
    cases b with
    | step h' r' => rw [h] at h'; cases h'; exact ih r'
theorem Ends.after {os : List Ordr} {s t u : Pt} {n m : Nat} (e : Ends os s n t) (g : Go os s m u) : m ≤ n ∧ Ends os u (n - m) t := by
  induction g generalizing n with
  | refl s => exact ⟨Nat.zero_le _, e⟩
  | step h r ih =>
    obtain ⟨a, b⟩ := e
    cases a with
    | refl => rw [b] at h; cases h
    | step h' r' =>
      rw [h] at h'
      cases h'
      obtain ⟨h1, h2⟩ := ih ⟨r', b⟩
      exact ⟨Nat.succ_le_succ h1, by rw [Nat.succ_sub_succ]; exact h2⟩
theorem Ends.before {os : List Ordr} {s t u : Pt} {n m : Nat} (g : Go os s m u) (e : Ends os u n t) : Ends os s (m + n) t := ⟨g.trans e.1, e.2⟩
theorem Ends.uniq {os : List Ordr} {s t u : Pt} {n m : Nat} (a : Ends os s n t) (b : Ends os s m u) : n = m ∧ t = u := by
  obtain ⟨h1, h2⟩ := a.after b.1
  obtain ⟨h3, h4⟩ := b.after a.1
  have e : n = m := Nat.le_antisymm h3 h1
  subst e
  exact ⟨rfl, a.1.det b.1⟩
structure Fine (os : List Ordr) (M : Int) : Prop where
  way : ∀ o ∈ os, 1 ≤ o.way
  last : ∀ o ∈ os, o.last ≤ M
theorem Good.fine {os : List Ordr} (g : Good os) : Fine os 1000000000000000000 := ⟨fun o h => (g.ok o h).w1, fun o h => (g.ok o h).lm⟩
theorem nxt_day {os : List Ordr} {M : Int} (f : Fine os M) {s s' : Pt} (h : nxt os s = some s') : s.2 < s'.2 ∧ s.2 ≤ M := by
  obtain ⟨i, o, h1, h2, h3, rfl⟩ := nxt_some h
  have ho : o ∈ os := List.mem_of_getElem? h2
  have := f.way o ho
  have := f.last o ho
  simp only [holds, Bool.and_eq_true, decide_eq_true_eq] at h3
  refine ⟨?_, by omega⟩
  show s.2 < s.2 + o.way
  omega
theorem Go.day {os : List Ordr} {M : Int} (f : Fine os M) {s t : Pt} {n : Nat} (g : Go os s n t) : s.2 + (n : Int) ≤ t.2 := by
  induction g with
  | refl s => simp
  | step h r ih =>
    have := (nxt_day f h).1
    push_cast
    omega
theorem ends_ex {os : List Ordr} {M : Int} (f : Fine os M) : ∀ s : Pt, ∃ n t, Ends os s n t := by
  have all : ∀ (k : Nat) (s : Pt), (M + 1 - s.2).toNat ≤ k → ∃ n t, Ends os s n t := by
    intro k
    induction k with
    | zero =>
      intro s hs
      refine ⟨0, s, .refl s, ?_⟩
      cases q : nxt os s with
      | none => rfl
      | some s' => have := nxt_day f q; omega
    | succ k ih =>
      intro s hs
      cases q : nxt os s with
      | none => exact ⟨0, s, .refl s, q⟩
      | some s' =>
        have := nxt_day f q
        obtain ⟨n, t, h1, h2⟩ := ih s' (by omega)
        exact ⟨n + 1, t, .step q h1, h2⟩
  exact fun s => all _ s (Nat.le_refl _)
theorem Go.shift {os : List Ordr} {M : Int} (f : Fine os M) {hi δ : Int} (h0 : 0 ≤ δ) {s t : Pt} {n : Nat} (g : Go os s n t) (hc : ∀ c ∈ changes os s.2, hi < c) (ht : t.2 + δ ≤ hi) : Go os (s.1, s.2 + δ) n (t.1, t.2 + δ) := by
  induction g with
  | refl s => exact .refl _
  | @step s s' t n h r ih =>
    have hd := (nxt_day f h).1
    have hl := r.day f
    have hle : s.2 + δ ≤ hi := by omega
    obtain ⟨i, o, h1, h2, h3, e⟩ := nxt_some h
    have e1 : ordFor os s.1 (s.2 + δ) = some i := by
      rw [← h1]
      exact ordFor_const (by omega) fun c hc' => by have := hc c hc'; omega
    have e2 : nxt os (s.1, s.2 + δ) = some (s'.1, s'.2 + δ) := by
      rw [nxt_of e1 h2, e]
      simp only [Option.some.injEq, Prod.mk.injEq, true_and]
      omega
    refine .step e2 (ih (fun c hc' => hc c ?_) ht)
    obtain ⟨q1, q2⟩ := mem_changes.mp hc'
    exact mem_changes.mpr ⟨by omega, q2⟩
theorem Go.rounds {os : List Ordr} {M : Int} (f : Fine os M) {x : Str} {d d1 hi : Int} {k : Nat} (g : Go os (x, d1) k (x, d)) (hd : d1 ≤ d) (hc : ∀ c ∈ changes os d1, hi < c) : ∀ j : Nat, d + (j : Int) * (d - d1) ≤ hi → Go os (x, d) (j * k) (x, d + (j : Int) * (d - d1))
  | 0, _ => by simp; exact .refl _
  | j + 1, h => by
    have hp : 0 ≤ (j : Int) * (d - d1) := Int.mul_nonneg (Int.natCast_nonneg _) (by omega)
    have e : ((j + 1 : Nat) : Int) * (d - d1) = (j : Int) * (d - d1) + (d - d1) := by
      push_cast
      rw [Int.add_mul, Int.one_mul]
    rw [e] at h ⊢
    have a := Go.rounds f g hd hc j (by omega)
    have b := Go.shift f (δ := (j : Int) * (d - d1) + (d - d1)) (by omega) g hc (by show d + _ ≤ hi; omega)
    have e3 : (x, d1 + ((j : Int) * (d - d1) + (d - d1))) = (x, d + (j : Int) * (d - d1)) := by
      congr 1
      omega
    have b' : Go os (x, d + (j : Int) * (d - d1)) k (x, d + ((j : Int) * (d - d1) + (d - d1))) := by
      rw [← e3]
      exact b
    rw [Nat.succ_mul]
    exact a.trans b'
end MF
set_option Elab.async false
set_option linter.all false
set_option maxRecDepth 100000
set_option maxHeartbeats 2000000
set_option pp.maxSteps 600
namespace MF
open PySem PySem.Spec PyProof.Rows L2 StX
section
variable {P : Program} {w : World} {K : PySem.W.Frag} {mg : Str → Option Value} {base : Heap} {C_Book C_MailError C_InvalidOperation C_InvalidOrder C_UnknownOrder C_NotHolding C_DecodeError C_NotationError C_UnknownLetter C_InvalidAddress C_InvalidDay C_InvalidNumber C_Contradiction C_InvalidCount : Addr}
theorem ok_is_integer (T : Top K mg C_Book C_MailError C_InvalidOperation C_InvalidOrder C_UnknownOrder C_NotHolding C_DecodeError C_NotationError C_UnknownLetter C_InvalidAddress C_InvalidDay C_InvalidNumber C_Contradiction C_InvalidCount) : GFn P w K mg base CX0 1 "is_integer" spIsInteger := by
  refine T.d_is_integer.fn fun f fd F => F.ok sc_is_integer (fun vs H Q E h => ?_) (fun cdv A outer s H vs Q E hr h => ?_)
  · obtain ⟨v, lo, hi, rfl, _⟩ := h
    rfl
  · obtain ⟨v, lo, hi, rfl, hn, k⟩ := h
    refine ⟨_, (pss_one (ps_ret (pe_and (pe_callB call_isi (by rfl) T.b_isinstance (by decide +kernel) (pa_cons (pv 0) (pa_cons (pe_bltn (v := .ty "int") (by rfl) T.b_int (by decide +kernel) rfl) pa_nil))) (pe_and (pe_not (pe_callB call_isi (by rfl) T.b_isinstance (by decide +kernel) (pa_cons (pv 0) (pa_cons (pe_bltn (v := .ty "bool") (by rfl) T.b_bool (by decide +kernel) rfl) pa_nil)))) (pe_one (pe_chain op_le op_le (pv 1) (pv 0) (pv 2))))))), ?_⟩
    cases v with
    | int i =>
      refine ⟨_, rfl, _, _, _, _, true, rfl, .ty "int", ty_flat hn, kt_int_int, true, rfl, iteT ?_⟩
      refine ⟨_, rfl, _, _, _, _, false, rfl, .ty "bool", ty_flat hn, kt_int_bool, false, rfl, true, rfl, iteT ?_⟩
      refine ⟨_, rfl, _, rfl, _, _, rfl, rfl, _, rfl, ?_⟩
      refine ite2 (fun h1 => ?_) (fun h1 => ?_)
      · have h1' : lo ≤ i := of_decide_eq_true h1
        refine ⟨_, rfl, _, _, rfl, rfl, ?_⟩
        simpa [isIntB, h1'] using k
      · have h1' : decide (lo ≤ i) = false := by simpa using h1
        simpa [isIntB, h1'] using k
    | bl b =>
      refine ⟨_, rfl, _, _, _, _, true, rfl, .ty "int", ty_flat hn, kt_bool_int, true, rfl, iteT ?_⟩
      refine ⟨_, rfl, _, _, _, _, true, rfl, .ty "bool", ty_flat hn, kt_bool_bool, true, rfl, false, rfl, iteF ?_⟩
      exact k
    | non =>
      refine ⟨_, rfl, _, _, _, _, false, rfl, .ty "int", ty_flat hn, kt_NoneType_int, false, rfl, iteF ?_⟩
      exact k
    | str x =>
      refine ⟨_, rfl, _, _, _, _, false, rfl, .ty "int", ty_flat hn, kt_str_int, false, rfl, iteF ?_⟩
      exact k
    | byt b => cases hn
    | flt b => cases hn
    | ref a => cases hn
    | ty n => cases hn
theorem ok_do_overlap (T : Top K mg C_Book C_MailError C_InvalidOperation C_InvalidOrder C_UnknownOrder C_NotHolding C_DecodeError C_NotationError C_UnknownLetter C_InvalidAddress C_InvalidDay C_InvalidNumber C_Contradiction C_InvalidCount) : GFn P w K mg base CX0 1 "do_overlap" (spOverlap K) := by
  refine T.d_do_overlap.fn fun f fd F => F.ok sc_do_overlap (fun vs H Q E h => ?_) (fun cdv A outer s H vs Q E hr h => ?_)
  · obtain ⟨a, b, o, p, rfl, _⟩ := h
    rfl
  · obtain ⟨a, b, o, p, rfl, ha, hb, k⟩ := h
    refine ⟨_, (pss_one (ps_ret (pe_and (pe_cmpR op_eq (pe_ix ix_tup (pv 0) pe_int (fun _ _ => rfl)) (pe_ix ix_tup (pv 1) pe_int (fun _ _ => rfl)) (nomark _)) (pe_and (pe_cmpR op_le (pe_ix ix_tup (pv 0) pe_int (fun _ _ => rfl)) (pe_ix ix_tup (pv 1) pe_int (fun _ _ => rfl)) (nomark _)) (pe_one (pe_cmpR op_le (pe_ix ix_tup (pv 1) pe_int (fun _ _ => rfl)) (pe_ix ix_tup (pv 0) pe_int (fun _ _ => rfl)) (nomark _))))))), ?_⟩
    refine ⟨_, rfl, a, _, _, _, rfl, rfl, ha, rfl, _, rfl, b, _, _, _, rfl, rfl, hb, rfl, rfl, _, rfl, ?_⟩
    refine ite2 (fun h1 => ?_) (fun h1 => ?_)
    · have h1' : o.src = p.src := V.str.inj (of_decide_eq_true h1)
      refine ⟨_, rfl, a, _, _, _, rfl, rfl, ha, rfl, _, rfl, b, _, _, _, rfl, rfl, hb, rfl, _, _, rfl, rfl, _, rfl, ?_⟩
      refine ite2 (fun h2 => ?_) (fun h2 => ?_)
      · have h2' : o.first ≤ p.last := of_decide_eq_true h2
        refine ⟨_, rfl, b, _, _, _, rfl, rfl, hb, rfl, _, rfl, a, _, _, _, rfl, rfl, ha, rfl, _, _, rfl, rfl, ?_⟩
        simpa [overB, h1', h2'] using k
      · have h2' : ¬ o.first ≤ p.last := by simpa using h2
        simpa [overB, h1', h2'] using k
    · have h1' : ¬ o.src = p.src := fun q => h1 (decide_eq_true (congrArg V.str q))
      simpa [overB, h1'] using k
end

end MF
set_option Elab.async false
set_option linter.all false
set_option maxRecDepth 100000
set_option maxHeartbeats 2000000
set_option pp.maxSteps 600
namespace MF
open PySem PySem.Spec PyProof.Rows L2 StX
section
variable {P : Program} {w : World} {K : PySem.W.Frag} {mg : Str → Option Value} {base : Heap} {C_Book C_MailError C_InvalidOperation C_InvalidOrder C_UnknownOrder C_NotHolding C_DecodeError C_NotationError C_UnknownLetter C_InvalidAddress C_InvalidDay C_InvalidNumber C_Contradiction C_InvalidCount : Addr}
theorem ok_is_address (T : Top K mg C_Book C_MailError C_InvalidOperation C_InvalidOrder C_UnknownOrder C_NotHolding C_DecodeError C_NotationError C_UnknownLetter C_InvalidAddress C_InvalidDay C_InvalidNumber C_Contradiction C_InvalidCount) : GFn P w K mg base CX0 1 "is_address" spIsAddress := by
  refine T.d_is_address.fn fun f fd F => F.ok sc_is_address (fun vs H Q E h => ?_) (fun cdv A outer s H vs Q E hr h => ?_)
  · obtain ⟨v, rfl, _⟩ := h
    rfl
  · obtain ⟨v, rfl, hn, hs, k⟩ := h
    refine ⟨_, (pss_cons (ps_if (PW.pt (pw_or (pt_not (pt_val (pe_callB call_isi (by rfl) T.b_isinstance (by decide +kernel) (pa_cons (pv 0) (pa_cons (pe_bltn (v := .ty "str") (by rfl) T.b_str (by decide +kernel) rfl) pa_nil))))) (pw_or1 (pt_not (pt_chain op_le op_le pe_int (pe_callB call_len_str (by rfl) T.b_len (by decide +kernel) (pa_cons (pv 0) pa_nil)) (pe_gint T.c_MAX_LETTERS))))))
  (pss_one (ps_ret pe_bl))
  pss_nil)
  (pss_one (ps_ret (pe_callB (cr_all rfl) (by rfl) T.b_all (by decide +kernel) (pa_cons (pe_lc (own := [("letter", 1)]) (g := (gName 1)) (by rfl) sc_is_address.nd (pi_str (pv 0)) (blkOk_by (own := [("letter", 1)]) (N := ["value", "letter"]) (sc := defScope s_is_address) (by decide +kernel)) (fun _ _ _ _ _ => (pg_name (i := 1) sc_is_address.nd rfl (Or.inl rfl))) (fun _ _ _ _ _ => pts_nil) (fun _ _ _ _ _ => (pe_cmpR op_in_sign (pv 1) (pe_gstr T.c_LETTERS) rfl))) pa_nil))))), ?_⟩
    cases v with
    | str z =>
      refine ⟨_, rfl, _, _, _, _, true, rfl, .ty "str", ty_flat hn, kt_str_str, true, rfl, iteF ?_⟩
      refine ⟨_, rfl, z, rfl, hs, _, _, rfl, rfl, _, rfl, ?_⟩
      have h8 : ∀ b, isAddrB (.str z) = b → Q (.bl b) H := fun b e => by rw [← e]; exact k H (Same.refl H)
      refine ite2 (fun h1 => ?_) (fun h1 => ?_)
      · have h1' : 1 ≤ z.length := by have := of_decide_eq_true h1; omega
        refine ⟨_, _, rfl, rfl, _, rfl, ?_⟩
        by_cases h2 : z.length ≤ 8
        · have h2' : decide (((z.length : Nat) : Int) ≤ 8) = true := decide_eq_true (by omega)
          rw [h2']
          refine iteF ?_
          refine ⟨_, rfl, z, rfl, fun D hD => lc_it walk_str (fun i H' => Same H H' ∧ H' D = some (.lst ((z.cps.toList.take i).map fun c => V.bl (decide (c ∈ letters.cps.toList))))) ⟨Same.new hD, upd_same⟩ (fun _ _ _ _ => trivial) ?_ ?_⟩
          · rintro i x H1 H2 hi ⟨s1, l1⟩ ⟨rfl, c, hc, rfl⟩
            have hlt : i < z.cps.size := hi
            have hlen : z.cps.size = z.length := rfl
            refine ⟨rfl, yesT ?_⟩
            refine iteT ?_
            refine ⟨_, rfl, c, _, rfl, rfl, _, l1, ?_, ?_, ?_⟩
            · rw [List.length_map]
              exact Nat.lt_of_le_of_lt (List.length_take_le _ _) (Nat.lt_of_lt_of_le (Nat.lt_of_lt_of_le hlt (hlen ▸ h2)) (by decide))
            · intro b o e
              have nb : b ≠ D := ne_of_none e hD
              rw [upd_ne nb]
              exact s1 b o e
            · rw [upd_same]
              have e1 : z.cps.toList[i]? = some c := by simpa using hc
              rw [List.take_add_one, e1]
              simp [letters]
          · rintro H1 ⟨s1, l1⟩
            have e1 : z.cps.toList.take z.cps.size = z.cps.toList := List.take_of_length_le (by simp)
            rw [e1] at l1
            have e2 : (z.cps.toList.map fun c => V.bl (decide (c ∈ letters.cps.toList))) = (z.cps.toList.map fun c => decide (c ∈ letters.cps.toList)).map V.bl := by rw [List.map_map]; rfl
            rw [e2] at l1
            refine ⟨D, _, rfl, SqL.of l1, ?_⟩
            have e3 : ((z.cps.toList.map fun c => decide (c ∈ letters.cps.toList)).all id) = isAddrB (.str z) := by
              show _ = (decide (1 ≤ z.length) && decide (z.length ≤ 8) && z.cps.toList.all fun c => decide (c ∈ letters.cps.toList))
              rw [decide_eq_true h1', decide_eq_true h2, List.all_map]
              rfl
            rw [e3]
            exact k H1 s1
        · have h2' : decide (((z.length : Nat) : Int) ≤ 8) = false := decide_eq_false (by omega)
          rw [h2']
          exact iteT (h8 _ (by simp [isAddrB, h2]))
      · have h1' : ¬ 1 ≤ z.length := fun q => h1 (decide_eq_true (by omega))
        exact ⟨false, rfl, iteT (h8 _ (by simp [isAddrB, h1']))⟩
    | int i =>
      refine ⟨_, rfl, _, _, _, _, false, rfl, .ty "str", ty_flat hn, kt_int_str, false, rfl, iteT ?_⟩
      exact iteT (k H (Same.refl H))
    | bl b =>
      refine ⟨_, rfl, _, _, _, _, false, rfl, .ty "str", ty_flat hn, kt_bool_str, false, rfl, iteT ?_⟩
      exact iteT (k H (Same.refl H))
    | non =>
      refine ⟨_, rfl, _, _, _, _, false, rfl, .ty "str", ty_flat hn, kt_NoneType_str, false, rfl, iteT ?_⟩
      exact iteT (k H (Same.refl H))
    | byt b => cases hn
    | flt b => cases hn
    | ref a => cases hn
    | ty n => cases hn
end

end MF
set_option Elab.async false
set_option linter.all false
set_option maxRecDepth 100000
set_option maxHeartbeats 2000000
set_option pp.maxSteps 600
namespace MF
open PySem PySem.Spec PyProof.Rows L2 StX
section
variable {P : Program} {w : World} {K : PySem.W.Frag} {mg : Str → Option Value} {base : Heap} {C_Book C_MailError C_InvalidOperation C_InvalidOrder C_UnknownOrder C_NotHolding C_DecodeError C_NotationError C_UnknownLetter C_InvalidAddress C_InvalidDay C_InvalidNumber C_Contradiction C_InvalidCount : Addr}
theorem ok_is_order (T : Top K mg C_Book C_MailError C_InvalidOperation C_InvalidOrder C_UnknownOrder C_NotHolding C_DecodeError C_NotationError C_UnknownLetter C_InvalidAddress C_InvalidDay C_InvalidNumber C_Contradiction C_InvalidCount) : GFn P w K mg base CX0 2 "is_order" (spIsOrder K) := by
  have G_is_address : GFn P w K mg base CX0 1 "is_address" spIsAddress := ok_is_address T
  have G_is_integer : GFn P w K mg base CX0 1 "is_integer" spIsInteger := ok_is_integer T
  refine T.d_is_order.fn fun f fd F => F.ok sc_is_order (fun vs H Q E h => ?_) (fun cdv A outer s H vs Q E hr h => ?_)
  · obtain ⟨v, b, rfl, _⟩ := h
    rfl
  · obtain ⟨v, b, rfl, hv, k⟩ := h
    refine ⟨_, (pss_one (ps_match rfl sc_is_order.nd (pv 0) (Caps.cons (i := 1) rfl (Or.inl rfl) (Or.inl rfl) (Caps.cons (i := 2) rfl (Or.inl rfl) (Or.inl rfl) (Caps.cons (i := 3) rfl (Or.inl rfl) (Or.inl rfl) (Caps.cons (i := 4) rfl (Or.inl rfl) (Or.inl rfl) (Caps.cons (i := 5) rfl (Or.inl rfl) (Or.inl rfl) Caps.nil))))) (pt_val (pe_callB call_isi (by rfl) T.b_isinstance (by decide +kernel) (pa_cons (pv 0) (pa_cons (pe_bltn (v := .ty "tuple") (by rfl) T.b_tuple (by decide +kernel) rfl) pa_nil))))
  (pss_cons (ps_if (PW.pt (pw_or (pt_not (pt_val (pe_g G_is_address (hr.mono (by decide)) (pa_cons (pv 1) pa_nil)))) (pw_or (pt_not (pt_val (pe_g G_is_address (hr.mono (by decide)) (pa_cons (pv 2) pa_nil)))) (pw_or1 (pt_cmpR op_eq (pv 1) (pv 2) (nomark _))))))
  (pss_one (ps_ret pe_bl))
  pss_nil)
  (pss_cons (ps_if (PW.pt (pw_or (pt_not (pt_val (pe_g G_is_integer (hr.mono (by decide)) (pa_cons (pv 4) (pa_cons pe_int (pa_cons (pe_gint T.c_MAX_DAY) pa_nil)))))) (pw_or1 (pt_not (pt_val (pe_g G_is_integer (hr.mono (by decide)) (pa_cons (pv 3) (pa_cons pe_int (pa_cons (pv 4) pa_nil)))))))))
  (pss_one (ps_ret pe_bl))
  pss_nil)
  (pss_one (ps_ret (pe_g G_is_integer (hr.mono (by decide)) (pa_cons (pv 5) (pa_cons pe_int (pa_cons (pe_gint T.c_MAX_WAY) pa_nil))))))))
  (pss_one (ps_ret pe_bl)))), ?_⟩
    rcases hv with ⟨a, xs, rfl, hq, hf, rfl⟩ | ⟨a, xs, rfl, hq, rfl⟩ | ⟨hn, rfl⟩
    · by_cases hl : xs.length = 5
      · obtain ⟨s, t, f, l, y, rfl⟩ : ∃ s t f l y, xs = [s, t, f, l, y] := by
          match xs, hl with
          | [s, t, f, l, y], _ => exact ⟨s, t, f, l, y, rfl⟩
        refine ⟨_, rfl, .inl ⟨a, _, rfl, .inl hq, .inl ⟨rfl, ?_⟩⟩⟩
        refine ⟨_, rfl, _, _, _, _, true, rfl, .ty "tuple", tyT hq, kt_tuple_tuple, true, rfl, iteT ?_⟩
        have hs := hf s (by simp)
        have ht := hf t (by simp)
        have hf1 := hf f (by simp)
        have hl1 := hf l (by simp)
        have hy := hf y (by simp)
        have no : isOrdB [s, t, f, l, y] = false → ∀ H', Same H H' → Q (.bl false) H' := fun e H' q => by
          have := k H' q
          rw [e] at this
          exact this
        have yes : isOrdB [s, t, f, l, y] = true → ∀ H', Same H H' → Q (.bl true) H' := fun e H' q => by
          have := k H' q
          rw [e] at this
          exact this
        refine ⟨_, rfl, s, rfl, hs.1, hs.2, fun H1 e1 => ⟨_, rfl, ?_⟩⟩
        cases h1 : isAddrB s with
        | false => exact iteT (iteT (no (by simp [isOrdB, h1]) H1 e1))
        | true =>
          refine iteF ?_
          refine ⟨_, rfl, t, rfl, ht.1, ht.2, fun H2 e2 => ⟨_, rfl, ?_⟩⟩
          have e12 := e1.trans e2
          cases h2 : isAddrB t with
          | false => exact iteT (iteT (no (by simp [isOrdB, h1, h2]) H2 e12))
          | true =>
            refine iteF ?_
            obtain ⟨zs, rfl⟩ : ∃ z, s = V.str z := by
              cases s with
              | str z => exact ⟨z, rfl⟩
              | _ => cases h1
            obtain ⟨zt, rfl⟩ : ∃ z, t = V.str z := by
              cases t with
              | str z => exact ⟨z, rfl⟩
              | _ => cases h2
            refine ⟨_, rfl, _, rfl, rfl, _, rfl, ?_⟩
            refine ite2 (fun h3 => no ?_ H2 e12) (fun h3 => ?_)
            · simp [isOrdB, of_decide_eq_true h3]
            have h3' : decide (V.str zs = V.str zt) = false := by simpa using h3
            refine ⟨_, rfl, l, _, _, rfl, hl1.1, _, rfl, ?_⟩
            cases h4 : isIntB l 0 1000000000000000000 with
            | false => exact iteT (iteT (no (by simp [isOrdB, h4]) H2 e12))
            | true =>
              refine iteF ?_
              obtain ⟨il, rfl⟩ : ∃ i, l = V.int i := by
                cases l with
                | int i => exact ⟨i, rfl⟩
                | _ => cases h4
              refine ⟨_, rfl, _, rfl, f, _, _, rfl, hf1.1, _, rfl, ?_⟩
              cases h5 : isIntB f 0 il with
              | false => exact iteT (no (by simp [isOrdB, h5]) H2 e12)
              | true =>
                refine iteF ?_
                refine ⟨_, rfl, y, _, _, rfl, hy.1, ?_⟩
                have e6 : isOrdB [V.str zs, V.str zt, f, V.int il, y] = isIntB y 1 30 := by
                  simp only [isOrdB, h1, h2, h3', h4, h5, Bool.not_false, Bool.true_and]
                rw [← e6]
                exact k H2 e12
      · have e : isOrdB xs = false := by
          unfold isOrdB
          split
          · exact absurd rfl hl
          · rfl
        refine ⟨_, rfl, .inl ⟨a, _, rfl, .inl hq, .inr ⟨hl, ?_⟩⟩⟩
        have := k H (Same.refl H)
        rw [e] at this
        exact this
    · by_cases hl : xs.length = 5
      · refine ⟨_, rfl, .inl ⟨a, _, rfl, .inr hq, .inl ⟨hl, ?_⟩⟩⟩
        match xs, hl with
        | [s, t, f, l, y], _ =>
          exact ⟨_, rfl, _, _, _, _, false, rfl, .ty "tuple", tyL hq, kt_list_tuple, false, rfl, iteF (k H (Same.refl H))⟩
      · exact ⟨_, rfl, .inl ⟨a, _, rfl, .inr hq, .inr ⟨hl, k H (Same.refl H)⟩⟩⟩
    · exact ⟨_, rfl, .inr ⟨hn, k H (Same.refl H)⟩⟩
def spCheckOk : Sp := fun vs H Q _ => ∃ z d, vs = [.str z, .int d] ∧ isAddrB (.str z) = true ∧ 0 ≤ d ∧ d ≤ 1000000000000000000 ∧ ∀ H', Same H H' → Q .non H'
theorem isAddr_short {z : Str} (h : isAddrB (.str z) = true) : z.length ≤ 8 := by
  simp only [isAddrB, Bool.and_eq_true, decide_eq_true_eq] at h
  exact h.1.2
end

end MF
set_option Elab.async false
set_option linter.all false
set_option maxRecDepth 100000
set_option maxHeartbeats 2000000
set_option pp.maxSteps 600
namespace MF
open PySem PySem.Spec PyProof.Rows L2 StX
section
variable {P : Program} {w : World} {K : PySem.W.Frag} {mg : Str → Option Value} {base : Heap} {C_Book C_MailError C_InvalidOperation C_InvalidOrder C_UnknownOrder C_NotHolding C_DecodeError C_NotationError C_UnknownLetter C_InvalidAddress C_InvalidDay C_InvalidNumber C_Contradiction C_InvalidCount : Addr}
def spInitIn (K : PySem.W.Frag) (C : Addr) : Sp := fun vs H Q _ => ∃ x dx t as os, vs = [.ref x, .ref t] ∧ H x = some (.ins C dx []) ∧ SqT K H t (as.map V.ref) ∧ OrdsAt K H as os ∧ Good os ∧
  ∀ H', H' x = some (.ins C dx [("listed", .ref t)]) → (∀ b o, H b = some o → b ≠ x → H' b = some o) → Q .non H'
def spBookInit (K : PySem.W.Frag) (C : Addr) : Sp := fun vs H Q E => ∃ v rest, vs = v :: rest ∧ rest.length ≤ sizeLine ∧ ∀ p, H p = Option.none → spInitIn K C [v, V.ref p] (upd H p (.tup rest)) Q E
theorem isOrd_flat {o : Ordr} (h : o.Ok) : ∀ x ∈ o.vals, notSeq x = true ∧ shortV x := by
  intro x hx
  have ls : o.src.length ≤ sizeLine := Nat.le_trans (by have := h.as; simp only [isAddrB, Bool.and_eq_true, decide_eq_true_eq] at this; exact this.1.2) (by decide)
  have lt : o.tgt.length ≤ sizeLine := Nat.le_trans (by have := h.at_; simp only [isAddrB, Bool.and_eq_true, decide_eq_true_eq] at this; exact this.1.2) (by decide)
  simp only [Ordr.vals, List.mem_cons, List.not_mem_nil, or_false] at hx
  rcases hx with rfl | rfl | rfl | rfl | rfl
  · exact ⟨rfl, ls⟩
  · exact ⟨rfl, lt⟩
  · exact ⟨rfl, trivial⟩
  · exact ⟨rfl, trivial⟩
  · exact ⟨rfl, trivial⟩
theorem ok_Book (T : Top K mg C_Book C_MailError C_InvalidOperation C_InvalidOrder C_UnknownOrder C_NotHolding C_DecodeError C_NotationError C_UnknownLetter C_InvalidAddress C_InvalidDay C_InvalidNumber C_Contradiction C_InvalidCount) : IFn P w K mg base CX0 3 C_Book "Book" (spBookInit K C_Book) := by
  have G_is_order : GFn P w K mg base CX0 2 "is_order" (spIsOrder K) := ok_is_order T
  have G_do_overlap : GFn P w K mg base CX0 1 "do_overlap" (spOverlap K) := ok_do_overlap T
  refine T.d_BookX_initX.fn0 (sp := spInitIn K C_Book) sc_BookX_initX fun f cdv A outer s H vs Q E hr h => ?_
  obtain ⟨x, dx, t, as, os, rfl, hx, ht, ho, g, k⟩ := h
  refine ⟨_, (pss_cons (ps_for PassesOwn.never rfl (pi_enumT (by rfl) T.b_enumerate (pa_cons (pv 1) pa_nil)) (pg_tup rfl (pgs_cons (pg_name (i := 2) sc_BookX_initX.nd rfl (Or.inl rfl)) (pgs_cons (pg_name (i := 3) sc_BookX_initX.nd rfl (Or.inl rfl)) pgs_nil)))
  (pss_cons (ps_if (PW.pt (pw_or (pt_cmpR op_eq (pv 2) (pe_gint T.c_MAX_ORDERS_books) (nomark _)) (pw_or1 (pt_not (pt_val (pe_g G_is_order (hr.mono (by decide)) (pa_cons (pv 3) pa_nil)))))))
  (pss_one ps_never)
  pss_nil)
  (pss_one (ps_for PassesOwn.never rfl (pi_tup (pe_slice sl_tup (pv 1) po_none (po_some (pv 2)))) (pg_name (i := 4) sc_BookX_initX.nd rfl (Or.inl rfl))
  (pss_one (ps_if (pt_val (pe_g G_do_overlap (hr.mono (by decide)) (pa_cons (pv 4) (pa_cons (pv 3) pa_nil))))
  (pss_one ps_never)
  pss_nil))))))
  (pss_one (ps_fld (pv 0) (pv 1) rfl))), ?_⟩
  have hl : as.length = os.length := PySem.Paired.length ho
  refine ⟨_, rfl, t, _, rfl, ht, for_it walk_enumT (fun i σ H' => Same H H' ∧ ∃ v2 v3 v4, σ = [some (.ref x), some (.ref t), v2, v3, v4]) ⟨Same.refl H, _, _, _, rfl⟩ (fun i σ H' _ ⟨s1, _⟩ => MF.Same.tup s1 ht) ?_ ?_⟩
  · rintro i y σ H1 H2 hi ⟨s1, v2, v3, v4, rfl⟩ ⟨p, z1, z2, rfl, hp, rfl, e1, e2⟩
    cases e1
    rw [List.length_map] at hi
    obtain ⟨a, ea⟩ : ∃ a, as[i]? = some a := ⟨as[i], by simp [hi]⟩
    replace e2 : (as.map V.ref)[i]? = some z2 := e2
    rw [List.getElem?_map, ea] at e2
    cases e2
    obtain ⟨o, eo, oa⟩ := Paired.get ho ea
    have s2 : Same H (upd H1 p (.tup [.int (i : Nat), .ref a])) := MF.Same.upd s1 hp
    have om : o ∈ os := List.mem_of_getElem? eo
    refine ⟨p, _, rfl, .inl (.inl upd_same), rfl, _, _, rfl, _, _, rfl, rfl, ?_⟩
    refine ⟨_, rfl, rfl, _, rfl, ?_⟩
    have hi30 : i < 30 := Nat.lt_of_lt_of_le (hl ▸ hi) g.len
    have ne30 : decide (V.int ((i : Nat) : Int) = V.int 30) = false := decide_eq_false fun q => by
      have := V.int.inj q
      omega
    rw [ne30]
    refine iteF ?_
    refine ⟨_, rfl, _, true, rfl, .inl ⟨a, _, rfl, oa.mono s2, isOrd_flat (g.ok o om), (g.ok o om).b.symm⟩, fun H3 s3 => ⟨_, rfl, iteF ?_⟩⟩
    have s13 := s2.trans s3
    have tt : SqT K H3 t (as.map V.ref) := MF.Same.tup s13 ht
    refine ⟨_, rfl, _, rfl, _, rfl, t, _, rfl, tt, ?_, fun p2 hp2 => ?_⟩
    · rw [HT.sIx_nat, List.length_map]
      omega
    rw [cut_take _ _ (by rw [List.length_map]; omega)]
    refine ⟨p2, rfl, ⟨_, .inl (.inl upd_same)⟩, for_it (walk_tup (xs := (as.map V.ref).take i)) (fun j σ H' => Same H H' ∧ SqT K H' p2 ((as.map V.ref).take i) ∧ ∃ v4, σ = [some (.ref x), some (.ref t), some (.int (i : Nat)), some (.ref a), v4]) ⟨MF.Same.upd s13 hp2, .inl (.inl upd_same), _, rfl⟩ (fun j σ H' _ ⟨_, q, _⟩ => q) ?_ ?_⟩
    · rintro j y σ H4 H5 hj ⟨s4, q4, v4', rfl⟩ ⟨rfl, ey⟩
      rw [List.length_take, List.length_map] at hj
      have hji : j < i := by omega
      obtain ⟨b, eb⟩ : ∃ b, as[j]? = some b := ⟨as[j]'(by omega), by simp [show j < as.length by omega]⟩
      rw [List.getElem?_take, if_pos hji, List.getElem?_map, eb] at ey
      cases ey
      obtain ⟨o', eo', ob⟩ := Paired.get ho eb
      refine ⟨_, rfl, _, rfl, b, a, o', o, rfl, ob.mono s4, oa.mono s4, ⟨_, rfl, ?_⟩⟩
      have hov : overB o' o = false := by
        have hj' : j < os.length := by omega
        have hi' : i < os.length := by omega
        have := List.pairwise_iff_getElem.mp g.apart j i hj' hi' hji
        rw [List.getElem?_eq_getElem hj'] at eo'
        rw [List.getElem?_eq_getElem hi'] at eo
        cases eo'
        cases eo
        exact this
      rw [hov]
      exact iteF ⟨s4, q4, _, rfl⟩
    · rintro σ H4 ⟨s4, _, v4', rfl⟩
      exact ⟨s4, _, _, _, rfl⟩
  · rintro σ H1 ⟨s1, v2, v3, v4, rfl⟩
    refine ⟨_, rfl, _, rfl, x, C_Book, dx, [], rfl, s1 _ _ hx, T.cl_Book, T.n_Book_listed, (by show 0 < 1000; decide), ?_⟩
    refine k _ upd_same fun b o e hb => ?_
    rw [upd_ne hb]
    exact s1 b o e
theorem book_made' {C : Addr} {H : Hp} {as : List Addr} {os : List Ordr} {R : VK} {E : XK} (h : OrdsAt K H as os) (g : Good os) {x dx : Addr} (hx : H x = none) (hdx : H dx = none) (ne : dx ≠ x) (k : ∀ H', Same H H' → BookAt K C H' x os → R .non H') :
    spBookInit K C (.ref x :: as.map V.ref) (upd (upd H dx (.own x)) x (.ins C dx [])) R E := by
  have hl : as.length = os.length := PySem.Paired.length h
  have s0 : Same H (upd (upd H dx (.own x)) x (.ins C dx [])) := fun b o e => by
    rw [upd_ne (ne_of_none e hx), upd_ne (ne_of_none e hdx)]
    exact e
  refine ⟨_, _, rfl, ?_, fun p hp => ?_⟩
  · rw [List.length_map, hl]
    exact Nat.le_trans g.len (by decide)
  have s1 := s0.trans (Same.new (o := .tup (as.map V.ref)) hp)
  have nxp : x ≠ p := fun q => by
    subst q
    rw [upd_same] at hp
    cases hp
  refine ⟨x, dx, p, as, os, rfl, by rw [upd_ne nxp, upd_same], .inl (.inl upd_same), h.mono s1, g, fun H' hx' kp => ?_⟩
  have s2 : Same H H' := fun b o e => kp b o (s1 b o e) (ne_of_none e hx)
  refine k H' s2 ⟨dx, p, as, hx', .inl (.inl (kp p _ upd_same nxp.symm)), h.mono s2⟩
theorem book_made {C : Addr} {H : Hp} {as : List Addr} {os : List Ordr} {Q : VK} {E : XK} (h : OrdsAt K H as os) (g : Good os) (k : ∀ H' p, Same H H' → H p = none → BookAt K C H' p os → Q (.ref p) H') :
    ∀ x dx, H x = none → H dx = none → dx ≠ x → spBookInit K C (.ref x :: as.map V.ref) (upd (upd H dx (.own x)) x (.ins C dx [])) (fun v H2 => v = .non ∧ Q (.ref x) H2) E := by
  intro x dx hx hdx ne
  exact book_made' h g hx hdx ne fun H' s b => ⟨rfl, k H' x s hx b⟩
def spBookOf (K : PySem.W.Frag) (C : Addr) : Sp := fun vs H Q _ => ∃ t as os, vs = [.ref t] ∧ (SqT K H t (as.map V.ref) ∨ SqL K H t (as.map V.ref)) ∧ OrdsAt K H as os ∧ Good os ∧ ∀ H' p, Same H H' → H p = none → BookAt K C H' p os → Q (.ref p) H'
theorem ok_book_of (T : Top K mg C_Book C_MailError C_InvalidOperation C_InvalidOrder C_UnknownOrder C_NotHolding C_DecodeError C_NotationError C_UnknownLetter C_InvalidAddress C_InvalidDay C_InvalidNumber C_Contradiction C_InvalidCount) : GFn P w K mg base CX0 5 "book_of" (spBookOf K C_Book) := by
  have G_Book : IFn P w K mg base CX0 3 C_Book "Book" (spBookInit K C_Book) := ok_Book T
  refine T.d_book_of.fn fun f fd F => F.ok sc_book_of (fun vs H Q E h => ?_) (fun cdv A outer s H vs Q E hr h => ?_)
  · obtain ⟨t, as, os, rfl, _⟩ := h
    rfl
  · obtain ⟨t, as, os, rfl, ht, ho, g, k⟩ := h
    refine ⟨_, (pss_one (ps_ret (pe_mkS G_Book (hr.mono (by decide)) pass0 (pv 0)))), ?_⟩
    refine ⟨_, rfl, t, _, rfl, ht, ?_⟩
    show ∀ x dx, H x = none → H dx = none → dx ≠ x → spBookInit K C_Book (.ref x :: (as.map V.ref ++ [])) _ _ _
    rw [List.append_nil]
    exact book_made ho g k
def spBookAdd (K : PySem.W.Frag) (C : Addr) : Sp := fun vs H Q _ => ∃ a b os ps, vs = [.ref a, .ref b] ∧ BookAt K C H a os ∧ BookAt K C H b ps ∧ Good (os ++ ps) ∧ ∀ H' p, Same H H' → H p = none → BookAt K C H' p (os ++ ps) → Q (.ref p) H'
theorem ok_Book_add (T : Top K mg C_Book C_MailError C_InvalidOperation C_InvalidOrder C_UnknownOrder C_NotHolding C_DecodeError C_NotationError C_UnknownLetter C_InvalidAddress C_InvalidDay C_InvalidNumber C_Contradiction C_InvalidCount) : MFn P w K mg base CX0 6 C_Book "__add__" (spBookAdd K C_Book) := by
  have G_book_of : GFn P w K mg base CX0 5 "book_of" (spBookOf K C_Book) := ok_book_of T
  refine T.d_BookX_addX.fn fun f fd F => F.ok sc_BookX_addX (fun vs H Q E h => ?_) (fun cdv A outer s H vs Q E hr h => ?_)
  · obtain ⟨a, b, os, ps, rfl, _⟩ := h
    rfl
  · obtain ⟨a, b, os, ps, rfl, ⟨dx, t, as, h1, h2, h3⟩, ⟨dy, u, bs, h4, h5, h6⟩, g, k⟩ := h
    refine ⟨_, (pss_one (ps_ret (pe_g G_book_of (hr.mono (by decide)) (pa_cons (pe_op op_catA (pe_fld (pv 0) rfl) (pe_fld (pv 1) rfl)) pa_nil)))), ?_⟩
    have la : as.length = os.length := PySem.Paired.length h3
    have lb : bs.length = ps.length := PySem.Paired.length h6
    refine ⟨_, rfl, a, C_Book, dx, _, _, rfl, h1, T.cl_Book, T.n_Book_listed, rfl, _, rfl, b, C_Book, dy, _, _, rfl, h4, T.cl_Book, T.n_Book_listed, rfl, t, u, _, _, rfl, rfl, h2, h5, ?_, fun e => ?_, fun _ e => ?_, fun _ _ p hp => ?_⟩
    · rw [List.length_map, List.length_map, la, lb, ← List.length_append]
      exact Nat.le_trans g.len (by decide)
    · have : os = [] := List.eq_nil_of_length_eq_zero (by rw [← la]; simpa using e)
      subst this
      exact ⟨u, bs, ps, rfl, .inl h5, h6, g, k⟩
    · have : ps = [] := List.eq_nil_of_length_eq_zero (by rw [← lb]; simpa using e)
      subst this
      rw [List.append_nil] at g k
      exact ⟨t, as, os, rfl, .inl h2, h3, g, k⟩
    · have s1 := Same.new (o := .tup (as.map V.ref ++ bs.map V.ref)) hp
      refine ⟨p, as ++ bs, os ++ ps, rfl, .inl ?_, Paired.append (OrdsAt.mono h3 s1) (OrdsAt.mono h6 s1), g, fun H' q e1 e2 e3 => k H' q (s1.trans e1) (s1.free e2) e3⟩
      rw [List.map_append]
      exact .inl (.inl upd_same)
end

end MF
set_option Elab.async false
set_option linter.all false
set_option maxRecDepth 100000
set_option maxHeartbeats 2000000
set_option pp.maxSteps 600
namespace MF
open PySem PySem.Spec PyProof.Rows L2 StX
section
variable {P : Program} {w : World} {K : PySem.W.Frag} {mg : Str → Option Value} {base : Heap} {C_Book C_MailError C_InvalidOperation C_InvalidOrder C_UnknownOrder C_NotHolding C_DecodeError C_NotationError C_UnknownLetter C_InvalidAddress C_InvalidDay C_InvalidNumber C_Contradiction C_InvalidCount : Addr}
def optI : Option Nat → V
  | none => .non
  | some i => .int (i : Nat)
def optZ : Option Int → V
  | none => .non
  | some i => .int i
def spOrderFor (K : PySem.W.Frag) (C : Addr) : Sp := fun vs H Q _ => ∃ p os z d, vs = [.ref p, .str z, .int d] ∧ BookAt K C H p os ∧ ∀ H', Same H H' → Q (optI (ordFor os z d)) H'
end

end MF
set_option Elab.async false
set_option linter.all false
set_option maxRecDepth 100000
set_option maxHeartbeats 2000000
set_option pp.maxSteps 600
namespace MF
open PySem PySem.Spec PyProof.Rows L2 StX
section
variable {P : Program} {w : World} {K : PySem.W.Frag} {mg : Str → Option Value} {base : Heap} {C_Book C_MailError C_InvalidOperation C_InvalidOrder C_UnknownOrder C_NotHolding C_DecodeError C_NotationError C_UnknownLetter C_InvalidAddress C_InvalidDay C_InvalidNumber C_Contradiction C_InvalidCount : Addr}
theorem changes_append (d : Int) : ∀ a b : List Ordr, changes (a ++ b) d = changes a d ++ changes b d
  | [], b => rfl
  | o :: a, b => by
    show ([o.first, o.last + 1].filter fun c => decide (d < c)) ++ changes (a ++ b) d = (([o.first, o.last + 1].filter fun c => decide (d < c)) ++ changes a d) ++ changes b d
    rw [changes_append d a b, List.append_assoc]
theorem changes_len (d : Int) : ∀ a : List Ordr, (changes a d).length ≤ 2 * a.length
  | [] => Nat.zero_le _
  | o :: a => by
    unfold changes
    have h1 := List.length_filter_le (fun c => decide (d < c)) [o.first, o.last + 1]
    have h2 := changes_len d a
    rw [List.length_append, List.length_cons]
    simp only [List.length_cons, List.length_nil] at h1
    omega
theorem DpAll.ints {H : Hp} : ∀ ns : List Int, DpAll K H (ns.map V.int) (ns.map PyData.int)
  | [] => .nil
  | n :: ns => .cons (.int n) (DpAll.ints ns)
def spNextChange (K : PySem.W.Frag) (C : Addr) : Sp := fun vs H Q _ => ∃ p os d, vs = [.ref p, .int d] ∧ BookAt K C H p os ∧ os.length ≤ 30 ∧ ∀ H', Same H H' → Q (optZ (nextCh os d)) H'
def tupl : HO → Bool
  | .tup _ => true
  | .frz _ (.tup _) => true
  | _ => false
theorem BookAt.kept {C : Addr} {H H' : Hp} {p : Addr} {os : List Ordr} (h : BookAt K C H p os) (hp : ∀ u, H p = some u → H' p = some u) (ht : ∀ b u, H b = some u → tupl u = true → H' b = some u) : BookAt K C H' p os := by
  obtain ⟨dx, t, as, h1, h2, h3⟩ := h
  have tp : ∀ a xs, SqT K H a xs → SqT K H' a xs := fun a xs z => by
    rcases z with (z | ⟨u, z⟩) | z
    · exact .inl (.inl (ht _ _ z rfl))
    · exact .inl (.inr ⟨u, ht _ _ z rfl⟩)
    · exact .inr z
  exact ⟨dx, t, as, hp _ h1, tp _ _ h2, PySem.Paired.mono (fun a o z => tp a _ z) h3⟩
end

end MF
set_option Elab.async false
set_option linter.all false
set_option maxRecDepth 100000
set_option maxHeartbeats 2000000
set_option pp.maxSteps 600
namespace MF
open PySem PySem.Spec PyProof.Rows L2 StX
section
variable {P : Program} {w : World} {K : PySem.W.Frag} {mg : Str → Option Value} {base : Heap} {C_Book C_MailError C_InvalidOperation C_InvalidOrder C_UnknownOrder C_NotHolding C_DecodeError C_NotationError C_UnknownLetter C_InvalidAddress C_InvalidDay C_InvalidNumber C_Contradiction C_InvalidCount : Addr}
def ScAt (K : PySem.W.Frag) (H : Hp) (rw sc : Addr) (xs : List V) : Prop := (Rd H sc (.lst xs) ∧ sc ≠ rw) ∨
    ∃ (o : Obj) (its : Array Value) (n : Nat), K.lookup sc = some o ∧ o.cls = .type "list" ∧ o.dict = none ∧ o.data = .seq its n ∧ its.size ≤ sizeLine ∧ Vals xs its.toList
theorem ScAt.sq {H : Hp} {rw sc : Addr} {xs : List V} (h : ScAt K H rw sc xs) : SqL K H sc xs := by
  rcases h with ⟨h, _⟩ | h
  · exact .inl h
  · exact .inr h
theorem ScAt.keep {H H' : Hp} {rw sc : Addr} {xs : List V} (h : ScAt K H rw sc xs) (k : ∀ b u, H b = some u → b ≠ rw → H' b = some u) : ScAt K H' rw sc xs := by
  rcases h with ⟨h | ⟨o, h⟩, n⟩ | h
  · exact .inl ⟨.inl (k _ _ h n), n⟩
  · exact .inl ⟨.inr ⟨o, k _ _ h n⟩, n⟩
  · exact .inr h
def RowAt (K : PySem.W.Frag) (H : Hp) (rw sc : Addr) (ns : List Int) : Prop := ∃ j : Nat, ∃ m r, H rw = some (.lst [.ref sc, .int (j : Nat), .int m, .int r]) ∧ ScAt K H rw sc (ns.map V.int) ∧ 0 ≤ m ∧ m < 2147483647
theorem RowAt.keep {H H' : Hp} {rw sc : Addr} {ns : List Int} (h : RowAt K H rw sc ns) (s : Same H H') : RowAt K H' rw sc ns := by
  obtain ⟨j, m, r, h1, h2, h3⟩ := h
  exact ⟨j, m, r, s _ _ h1, h2.keep fun b u e _ => s _ _ e, h3⟩
theorem ScAt.of0 {H H' : Hp} {rw sc : Addr} {xs : List V} (h : SqL K H sc xs) (s : Same H H') (n : H rw = none) : ScAt K H' rw sc xs := by
  rcases h with (z | ⟨o, z⟩) | z
  · exact .inl ⟨.inl (s _ _ z), ne_of_none z n⟩
  · exact .inl ⟨.inr ⟨o, s _ _ z⟩, ne_of_none z n⟩
  · exact .inr z
theorem RowAt.other {H0 H H' : Hp} {rw sc : Addr} {ns : List Int} (h : RowAt K H rw sc ns) (h0 : SqL K H0 sc (ns.map V.int)) (n : H0 rw = none) (s : Same H0 H') (e : ∀ u, H rw = some u → H' rw = some u) : RowAt K H' rw sc ns := by
  obtain ⟨j, m, r, h1, h2, h3⟩ := h
  exact ⟨j, m, r, e _ h1, .of0 h0 s n, h3⟩
def spTaken (K : PySem.W.Frag) : Sp := fun vs H Q _ => ∃ rw sc ns many, vs = [.ref rw, .int many] ∧ RowAt K H rw sc ns ∧ 0 < many ∧ many ≤ 1000000000000000000 ∧
  ∀ v H', 0 ≤ v → v < many → RowAt K H' rw sc ns → (∀ b u, H b = some u → b ≠ rw → H' b = some u) → Q (.int v) H'
theorem pow18 : (10 : Int) ^ (18 : Int).toNat = 1000000000000000000 := by decide
end

end MF
set_option Elab.async false
set_option linter.all false
set_option maxRecDepth 100000
set_option maxHeartbeats 2000000
set_option pp.maxSteps 600
namespace MF
open PySem PySem.Spec PyProof.Rows L2 StX
section
variable {P : Program} {w : World} {K : PySem.W.Frag} {mg : Str → Option Value} {base : Heap} {C_Book C_MailError C_InvalidOperation C_InvalidOrder C_UnknownOrder C_NotHolding C_DecodeError C_NotationError C_UnknownLetter C_InvalidAddress C_InvalidDay C_InvalidNumber C_Contradiction C_InvalidCount : Addr}
theorem Good.take {os : List Ordr} (g : Good os) (i : Nat) : Good (os.take i) :=
  ⟨by have := g.len; rw [List.length_take]; omega, fun o ho => g.ok o (List.mem_of_mem_take ho), g.apart.sublist (List.take_sublist _ _)⟩
theorem Good.one {o : Ordr} (h : o.Ok) : Good [o] := ⟨by show 1 ≤ 30; decide, fun p hp => by rw [List.mem_singleton.mp hp]; exact h, by simp⟩
theorem Good.nil : Good [] := ⟨Nat.zero_le _, (fun p hp => by cases hp), List.Pairwise.nil⟩
def spLawBook (K : PySem.W.Frag) (C : Addr) : Sp := fun vs H Q _ => ∃ l as os, vs = [.ref l] ∧ SqL K H l (as.map V.ref) ∧ OrdsAt K H as os ∧ Good os ∧ ∀ H' p, Same H H' → H p = none → BookAt K C H' p os → Q (.ref p) H'
theorem ok_law_made (T : Top K mg C_Book C_MailError C_InvalidOperation C_InvalidOrder C_UnknownOrder C_NotHolding C_DecodeError C_NotationError C_UnknownLetter C_InvalidAddress C_InvalidDay C_InvalidNumber C_Contradiction C_InvalidCount) (sf : PySem.W.selfFirst K C_Book = true) : GFn P w K mg base CX0 7 "_law_made" (spLawBook K C_Book) := by
  have G_Book : IFn P w K mg base CX0 3 C_Book "Book" (spBookInit K C_Book) := ok_Book T
  obtain ⟨fa, Fa, Ma⟩ := (ok_Book_add (P := P) (w := w) (base := base) T).ex
  refine T.d__law_made.fn fun f fd F => F.ok sc__law_made (fun vs H Q E h => ?_) (fun cdv A outer s H vs Q E hr h => ?_)
  · obtain ⟨l, as, os, rfl, _⟩ := h
    rfl
  · obtain ⟨l, as, os, rfl, hl, ho, g, k⟩ := h
    refine ⟨_, (pss_cons (ps_set (i := 1) sc__law_made.nd rfl (Or.inl rfl) (pe_mk0X G_Book (hr.mono (by decide)) pass0))
  (pss_cons (ps_for PassesOwn.never rfl (pi_list (pv 0)) (pg_name (i := 2) sc__law_made.nd rfl (Or.inl rfl))
  (pss_one (ps_set (i := 1) sc__law_made.nd rfl (Or.inl rfl) (pe_op (op_ownR sf Ma Fa (hr.mono (by decide)) pass0) (pv 1) (pe_mkX G_Book (hr.mono (by decide)) pass0 (pa_cons (pv 2) pa_nil))))))
  (pss_one (ps_ret (pv 1))))), ?_⟩
    have la : as.length = os.length := PySem.Paired.length ho
    intro x0 dx0 hx0 hdx0 ne0
    refine book_made' (as := []) (os := []) .nil Good.nil hx0 hdx0 ne0 (fun H1 s1 B1 => ⟨rfl, ?_⟩)
    refine ⟨_, rfl, l, rfl, ⟨_, s1.seq hl⟩, for_it (walk_list (xs := as.map V.ref)) (fun i σ H' => Same H H' ∧ ∃ p v2, σ = [some (.ref l), some (.ref p), v2] ∧ H p = none ∧ BookAt K C_Book H' p (os.take i)) ⟨s1, x0, _, rfl, hx0, B1⟩ (fun i σ H' _ ⟨s2, _⟩ => s2.seq hl) ?_ ?_⟩
    · rintro i y σ H2 H3 hi ⟨s2, p, v2, rfl, fp, B2⟩ ⟨rfl, ey⟩
      rw [List.length_map] at hi
      obtain ⟨a, ea⟩ : ∃ a, as[i]? = some a := ⟨as[i], by simp [hi]⟩
      rw [List.getElem?_map, ea] at ey
      cases ey
      obtain ⟨o, eo, oa⟩ := Paired.get ho ea
      have om : o ∈ os := List.mem_of_getElem? eo
      have et : os.take (i + 1) = os.take i ++ [o] := by rw [List.take_add_one, eo]; rfl
      refine ⟨_, rfl, _, rfl, ?_⟩
      have oa3 : OrdsAt K H3 [a] [o] := .cons (oa.mono s2) .nil
      intro p4 dx4 hp4 hdx4 ne4
      refine book_made' (as := [a]) (os := [o]) oa3 (Good.one (g.ok o om)) hp4 hdx4 ne4 (fun H4 s4 B4 => ⟨rfl, ?_⟩)
      obtain ⟨dx, t, bs, b1, b2, b3⟩ := id (B2.mono s4)
      obtain ⟨dy, u, cs, c1, c2, c3⟩ := id B4
      refine ⟨p, p4, dx, dy, _, _, rfl, rfl, b1, c1, p, p4, os.take i, [o], rfl, B2.mono s4, B4, by rw [← et]; exact g.take _, fun H5 p5 s5 f5 B5 => ?_⟩
      have s25 := (s2.trans s4).trans s5
      exact ⟨s25, p5, _, rfl, (s2.trans s4).free f5, by rw [et]; exact B5⟩
    · rintro σ H2 ⟨s2, p, v2, rfl, fp, B2⟩
      rw [List.length_map, la, List.take_length] at B2
      exact ⟨_, rfl, k H2 p s2 fp B2⟩
end

end MF
set_option Elab.async false
set_option linter.all false
set_option maxRecDepth 100000
set_option maxHeartbeats 2000000
set_option pp.maxSteps 600
namespace MF
open PySem PySem.Spec PyProof.Rows L2 StX
section
variable {P : Program} {w : World} {K : PySem.W.Frag} {mg : Str → Option Value} {base : Heap} {C_Book C_MailError C_InvalidOperation C_InvalidOrder C_UnknownOrder C_NotHolding C_DecodeError C_NotationError C_UnknownLetter C_InvalidAddress C_InvalidDay C_InvalidNumber C_Contradiction C_InvalidCount : Addr}
theorem kA_tuple : PySem.W.kitAny K (.type "tuple") [.type "tuple", .type "list"] = some true := kitAny_cons kt_tuple_tuple (fun z => by cases z) (fun _ => rfl)
theorem kA_list : PySem.W.kitAny K (.type "list") [.type "tuple", .type "list"] = some true := kitAny_cons kt_list_tuple (fun _ => kitAny_cons kt_list_list (fun z => by cases z) (fun _ => rfl)) (fun z => by cases z)
theorem kA_int : PySem.W.kitAny K (.type "int") [.type "tuple", .type "list"] = some false := kitAny_cons kt_int_tuple (fun _ => kitAny_cons kt_int_list (fun _ => kitAny_nil) (fun z => by cases z)) (fun z => by cases z)
theorem kA_bool : PySem.W.kitAny K (.type "bool") [.type "tuple", .type "list"] = some false := kitAny_cons kt_bool_tuple (fun _ => kitAny_cons kt_bool_list (fun _ => kitAny_nil) (fun z => by cases z)) (fun z => by cases z)
theorem kA_str : PySem.W.kitAny K (.type "str") [.type "tuple", .type "list"] = some false := kitAny_cons kt_str_tuple (fun _ => kitAny_cons kt_str_list (fun _ => kitAny_nil) (fun z => by cases z)) (fun z => by cases z)
theorem kA_none : PySem.W.kitAny K (.type "NoneType") [.type "tuple", .type "list"] = some false := kitAny_cons kt_NoneType_tuple (fun _ => kitAny_cons kt_NoneType_list (fun _ => kitAny_nil) (fun z => by cases z)) (fun z => by cases z)
theorem canLay_mem {d : PyData} : ∀ {ds : List PyData}, PyData.canLayAll0 ds = true → d ∈ ds → d.canLay0 = true
  | [], _, h => by cases h
  | e :: ds, c, h => by
    simp only [PyData.canLayAll0, Bool.and_eq_true] at c
    rcases List.mem_cons.mp h with rfl | h
    · exact c.1
    · exact canLay_mem c.2 h
theorem depth_mem {d : PyData} : ∀ {ds : List PyData}, d ∈ ds → d.depth ≤ PyData.depthAll ds
  | [], h => by cases h
  | e :: ds, h => by
    rw [PyData.depthAll]
    rcases List.mem_cons.mp h with rfl | h
    · exact Nat.le_max_left _ _
    · exact Nat.le_trans (depth_mem h) (Nat.le_max_right _ _)
theorem DpAll.get {H : Hp} : ∀ {xs : List V} {ds : List PyData} {i : Nat} {x : V}, DpAll K H xs ds → xs[i]? = some x → ∃ d, ds[i]? = some d ∧ Dp K H x d
  | _, _, _, _, .nil, e => by simp at e
  | _, _, 0, _, .cons h _, e => by simp at e; subst e; exact ⟨_, rfl, h⟩
  | _, _, i + 1, _, .cons _ t, e => by
    obtain ⟨d, h1, h2⟩ := DpAll.get (i := i) t (by simpa using e)
    exact ⟨d, by simpa using h1, h2⟩
theorem DpAll.len {H : Hp} : ∀ {xs : List V} {ds : List PyData}, DpAll K H xs ds → xs.length = ds.length
  | _, _, .nil => rfl
  | _, _, .cons _ t => by simp [DpAll.len t]
mutual
theorem Dp.mono {H H' : Hp} (s : Same H H') : ∀ {x : V} {d : PyData}, Dp K H x d → Dp K H' x d
  | _, _, .non => .non
  | _, _, .bl b => .bl b
  | _, _, .int i => .int i
  | _, _, .str x => .str x
  | _, _, .lst h a => .lst (s.seq h) (DpAll.mono s a)
  | _, _, .tup h a => .tup (MF.Same.tup s h) (DpAll.mono s a)
theorem DpAll.mono {H H' : Hp} (s : Same H H') : ∀ {xs : List V} {ds : List PyData}, DpAll K H xs ds → DpAll K H' xs ds
  | _, _, .nil => .nil
  | _, _, .cons h t => .cons (Dp.mono s h) (DpAll.mono s t)
end
mutual
def smallD : PyData → Bool
  | .list ds | .tuple ds => decide (ds.length ≤ 1000000) && smallAll ds
  | .none | .bool _ | .int _ | .str _ => true
  | .dict _ => false
def smallAll : List PyData → Bool
  | [] => true
  | d :: ds => smallD d && smallAll ds
end
theorem small_mem {d : PyData} : ∀ {ds : List PyData}, smallAll ds = true → d ∈ ds → smallD d = true
  | [], _, h => by cases h
  | e :: ds, c, h => by
    simp only [smallAll, Bool.and_eq_true] at c
    rcases List.mem_cons.mp h with rfl | h
    · exact c.1
    · exact small_mem c.2 h
def spAlike (K : PySem.W.Frag) (n : Nat) : Sp := fun vs H Q _ => ∃ x y d, vs = [x, y] ∧ Dp K H x d ∧ Dp K H y d ∧ d.canLay0 = true ∧ d.depth ≤ n ∧ smallD d = true ∧ ∀ H', Same H H' → Q (.bl true) H'
def SeqAt' (K : PySem.W.Frag) (H : Hp) (a : Addr) (tp : Bool) (xs : List V) : Prop := if tp = true then SqT K H a xs else SqL K H a xs
theorem SeqAt'.mono {H H' : Hp} {a : Addr} {tp : Bool} {xs : List V} (s : Same H H') (h : SeqAt' K H a tp xs) : SeqAt' K H' a tp xs := by
  cases tp
  · exact s.seq h
  · exact MF.Same.tup s h
theorem SeqAt'.ty {H : Hp} {a : Addr} {tp : Bool} {xs : List V} (h : SeqAt' K H a tp xs) : TyX K H (.ref a) (.type (if tp = true then "tuple" else "list")) := by
  cases tp
  · exact tyL h
  · exact tyT h
theorem SeqAt'.ix {H : Hp} {a : Addr} {tp : Bool} {xs : List V} {i : Nat} {v : V} {Q : VK} (h : SeqAt' K H a tp xs) (e : xs[i]? = some v) (q : Q v H) : rIx K (.ref a) (.int (0 + (i : Int))) H Q := by
  rw [Int.zero_add]
  cases tp
  · exact .inl ⟨a, xs, _, v, rfl, rfl, h, atI_nat e, q⟩
  · exact .inr (.inl ⟨a, xs, _, v, rfl, rfl, h, atI_nat e, q⟩)
theorem SeqAt'.len {H : Hp} {a : Addr} {tp : Bool} {xs : List V} (h : SeqAt' K H a tp xs) : SqL K H a xs ∨ SqT K H a xs := by
  cases tp
  · exact .inl h
  · exact .inr h
theorem kA_seq (tp : Bool) : PySem.W.kitAny K (.type (if tp = true then "tuple" else "list")) [.type "tuple", .type "list"] = some true := by
  cases tp
  · exact kA_list
  · exact kA_tuple
theorem kt_seq (tp : Bool) : PySem.W.kitOne K (.type (if tp = true then "tuple" else "list")) (.type "tuple") = some tp := by
  cases tp
  · exact kt_list_tuple
  · exact kt_tuple_tuple
def spAl (K : PySem.W.Frag) : Nat → Sp
  | 0 => fun _ _ _ _ => False
  | m + 1 => spAlike K m
theorem alike_cases {H : Hp} {x y : V} {d : PyData} {n : Nat} (hx : Dp K H x d) (hy : Dp K H y d) (cl : d.canLay0 = true) (dp : d.depth ≤ n) (sm : smallD d = true) :
    (∃ T1 b, y = x ∧ (∀ H', TyX K H' x (.type T1)) ∧ PySem.W.kitAny K (.type T1) [.type "tuple", .type "list"] = some false ∧ scal x x = true ∧ PySem.W.kitOne K (.type T1) (.type "bool") = some b) ∨
    (∃ a a' tp xs ys ds, x = .ref a ∧ y = .ref a' ∧ SeqAt' K H a tp xs ∧ SeqAt' K H a' tp ys ∧ DpAll K H xs ds ∧ DpAll K H ys ds ∧ PyData.canLayAll0 ds = true ∧ PyData.depthAll ds + 1 ≤ n ∧ ds.length ≤ 1000000 ∧ smallAll ds = true) := by
  cases hx with
  | non => cases hy; exact .inl ⟨"NoneType", _, rfl, fun _ => .base .non, kA_none, rfl, kt_NoneType_bool⟩
  | bl b => cases hy; exact .inl ⟨"bool", _, rfl, fun _ => .base (.bl b), kA_bool, rfl, kt_bool_bool⟩
  | int i => cases hy; exact .inl ⟨"int", _, rfl, fun _ => .base (.int i), kA_int, rfl, kt_int_bool⟩
  | str z => cases hy; exact .inl ⟨"str", _, rfl, fun _ => .base (.str z), kA_str, rfl, kt_str_bool⟩
  | lst h1 a1 =>
    cases hy with
    | lst h2 a2 =>
      simp only [smallD, Bool.and_eq_true, decide_eq_true_eq] at sm
      exact .inr ⟨_, _, false, _, _, _, rfl, rfl, h1, h2, a1, a2, cl, dp, sm.1, sm.2⟩
  | tup h1 a1 =>
    cases hy with
    | tup h2 a2 =>
      simp only [smallD, Bool.and_eq_true, decide_eq_true_eq] at sm
      exact .inr ⟨_, _, true, _, _, _, rfl, rfl, h1, h2, a1, a2, cl, dp, sm.1, sm.2⟩
end

end MF
set_option Elab.async false
set_option linter.all false
set_option maxRecDepth 100000
set_option maxHeartbeats 2000000
set_option pp.maxSteps 600
namespace MF
open PySem PySem.Spec PyProof.Rows L2 StX
section
variable {P : Program} {w : World} {K : PySem.W.Frag} {mg : Str → Option Value} {base : Heap} {C_Book C_MailError C_InvalidOperation C_InvalidOrder C_UnknownOrder C_NotHolding C_DecodeError C_NotationError C_UnknownLetter C_InvalidAddress C_InvalidDay C_InvalidNumber C_Contradiction C_InvalidCount : Addr}
def RK : Err → Prop
  | .order _ => True
  | .note _ _ => True
  | _ => False
end

end MF
set_option Elab.async false
set_option linter.all false
set_option maxRecDepth 100000
set_option maxHeartbeats 2000000
set_option pp.maxSteps 600
namespace MF
open PySem PySem.Spec PyProof.Rows L2 StX
section
variable {P : Program} {w : World} {K : PySem.W.Frag} {mg : Str → Option Value} {base : Heap} {C_Book C_MailError C_InvalidOperation C_InvalidOrder C_UnknownOrder C_NotHolding C_DecodeError C_NotationError C_UnknownLetter C_InvalidAddress C_InvalidDay C_InvalidNumber C_Contradiction C_InvalidCount : Addr}
def letErr (x d : V) : Option Err := if isAddrB x = true then (if isIntB d 0 1000000000000000000 = true then none else some .day) else some .address
end

end MF
set_option Elab.async false
set_option linter.all false
set_option maxRecDepth 100000
set_option maxHeartbeats 2000000
set_option pp.maxSteps 600
namespace MF
open PySem PySem.Spec PyProof.Rows L2 StX
section
variable {P : Program} {w : World} {K : PySem.W.Frag} {mg : Str → Option Value} {base : Heap} {C_Book C_MailError C_InvalidOperation C_InvalidOrder C_UnknownOrder C_NotHolding C_DecodeError C_NotationError C_UnknownLetter C_InvalidAddress C_InvalidDay C_InvalidNumber C_Contradiction C_InvalidCount : Addr}
theorem ok_InvalidOrder (T : Top K mg C_Book C_MailError C_InvalidOperation C_InvalidOrder C_UnknownOrder C_NotHolding C_DecodeError C_NotationError C_UnknownLetter C_InvalidAddress C_InvalidDay C_InvalidNumber C_Contradiction C_InvalidCount) : EFn P w K mg base CX0 1 C_InvalidOrder "InvalidOrder" ["self", "index"] (spE1 K C_InvalidOrder "index") := by
  refine T.d_InvalidOrderX_initX.fn fun f fd F => F.ok sc_InvalidOrderX_initX (fun vs H Q E h => ?_) (fun cdv A outer s H vs Q E hr h => ?_)
  · obtain ⟨a, v, rfl, _⟩ := h
    rfl
  · obtain ⟨a, v, rfl, hf, ha, k⟩ := h
    refine ⟨_, (pss_cons (ps_expr (pe_binit rfl T.g_MailError T.base_MailError (pa_cons (pv 0) (pa_cons (pe_joined (PJ.cons pe_str (PJ.cons (pe_fmtV (pv 1)) PJ.nil))) pa_nil))))
  (pss_one (ps_ost (pv 0) (pv 1)))), ?_⟩
    have ox := T.d_InvalidOrderX_initX.ox
    refine ⟨_, rfl, _, rfl, ?_, _, rfl, hf, fun y hy => ⟨_, rfl, ?_, ?_⟩⟩
    · decide +kernel
    · rw [Str.length_append]
      have : (Str.empty ++ ("invalid order at index " : Str)).length = 23 := by decide +kernel
      rw [this, sizeLine_eq]
      omega
    refine ⟨a, C_InvalidOrder, [.str _], rfl, by simp, ox, ha, ?_⟩
    exact ⟨_, rfl, _, rfl, a, C_InvalidOrder, rfl, ox, T.na_InvalidOrder, .inl ⟨ha, fun dx hd ne => k dx hd ne⟩⟩
def BadV (K : PySem.W.Frag) (H : Hp) (v : V) : Prop := (∃ a xs, v = .ref a ∧ SqT K H a xs ∧ (∀ x ∈ xs, notSeq x = true ∧ shortV x) ∧ isOrdB xs = false) ∨ (∃ a xs, v = .ref a ∧ SqL K H a xs) ∨ notSeq v = true
theorem BadV.mono {H H' : Hp} {v : V} (h : BadV K H v) (s : Same H H') : BadV K H' v := by
  rcases h with ⟨a, xs, h1, h2, h3⟩ | ⟨a, xs, h1, h2⟩ | h
  · exact .inl ⟨a, xs, h1, MF.Same.tup s h2, h3⟩
  · exact .inr (.inl ⟨a, xs, h1, s.seq h2⟩)
  · exact .inr (.inr h)
structure FirstBad (K : PySem.W.Frag) (H : Hp) (xs : List V) (n : Nat) : Prop where
  ex : ∃ as os v rest, xs = as.map V.ref ++ v :: rest ∧ OrdsAt K H as os ∧ (∀ o ∈ os, o.Ok) ∧ (os.Pairwise fun o p => overB o p = false) ∧ as.length = n ∧ n ≤ 30 ∧ (n = 30 ∨ BadV K H v ∨ ∃ a o p, v = .ref a ∧ OrdAt K H a o ∧ o.Ok ∧ p ∈ os ∧ overB p o = true)
theorem FirstBad.mono {H H' : Hp} {xs : List V} {n : Nat} (h : FirstBad K H xs n) (s : Same H H') : FirstBad K H' xs n := by
  obtain ⟨as, os, v, rest, h1, h2, h3, h4, h5, h6, h7⟩ := h.ex
  refine ⟨as, os, v, rest, h1, h2.mono s, h3, h4, h5, h6, ?_⟩
  rcases h7 with h | h | ⟨a, o, p, a1, a2, a3⟩
  · exact .inl h
  · exact .inr (.inl (h.mono s))
  · exact .inr (.inr ⟨a, o, p, a1, a2.mono s, a3⟩)
def spInitX (K : PySem.W.Frag) (c : Cls5) : Sp := fun vs H _ E => ∃ x t xs, ∃ n : Nat, vs = [.ref x, .ref t] ∧ SqT K H t xs ∧ FirstBad K H xs n ∧ ∀ H' cls d, Same H H' → ErrAt c cls d H' (.order (.int (n : Nat))) → E cls d H'
theorem okX_Book (T : Top K mg C_Book C_MailError C_InvalidOperation C_InvalidOrder C_UnknownOrder C_NotHolding C_DecodeError C_NotationError C_UnknownLetter C_InvalidAddress C_InvalidDay C_InvalidNumber C_Contradiction C_InvalidCount) : IFn P w K mg base (L2.CX P w) 3 C_Book "Book" (fun vs H Q E => ∃ v rest, vs = v :: rest ∧ rest.length ≤ sizeLine ∧ ∀ p, H p = Option.none → spInitX K ⟨C_InvalidOrder, C_UnknownOrder, C_InvalidAddress, C_InvalidDay, C_InvalidNumber, C_UnknownLetter, C_NotHolding, C_InvalidOperation, C_Contradiction, C_InvalidCount, C_DecodeError, C_NotationError⟩ [v, V.ref p] (upd H p (.tup rest)) Q E) := by
  have G_is_order : GFn P w K mg base CX0 2 "is_order" (spIsOrder K) := ok_is_order T
  have G_do_overlap : GFn P w K mg base CX0 1 "do_overlap" (spOverlap K) := ok_do_overlap T
  have E_InvalidOrder : EFn P w K mg base CX0 1 C_InvalidOrder "InvalidOrder" ["self", "index"] (spE1 K C_InvalidOrder "index") := ok_InvalidOrder T
  refine T.d_BookX_initX.fnX (sp := spInitX K ⟨C_InvalidOrder, C_UnknownOrder, C_InvalidAddress, C_InvalidDay, C_InvalidNumber, C_UnknownLetter, C_NotHolding, C_InvalidOperation, C_Contradiction, C_InvalidCount, C_DecodeError, C_NotationError⟩) sc_BookX_initX fun f cdv A outer s H vs Q E hr h => ?_
  obtain ⟨x, t, xs, n, rfl, ht, fb, kk⟩ := h
  obtain ⟨as, os, v, rest, rfl, ho, ok, apart, hn, h30, hbad⟩ := fb.ex
  have fmtn : ∀ i : Nat, i ≤ 30 → FmtOk (.int (i : Nat)) := fun i hi => by
    show (i : Int).natAbs.log2 < 1920
    rw [Int.natAbs_natCast]
    have : i.log2 ≤ i := Nat.log2_le_self i
    omega
  refine ⟨_, (pss_cons (ps_for owns_cx rfl (pi_enumT (by rfl) T.b_enumerate (pa_cons (pv 1) pa_nil)) (pg_tup rfl (pgs_cons (pg_name (i := 2) sc_BookX_initX.nd rfl (Or.inl rfl)) (pgs_cons (pg_name (i := 3) sc_BookX_initX.nd rfl (Or.inl rfl)) pgs_nil)))
  (pss_cons (ps_if (PW.pt (pw_or (pt_cmpR op_eq (pv 2) (pe_gint T.c_MAX_ORDERS_books) (nomark _)) (pw_or1 (pt_not (pt_val (pe_g G_is_order (hr.mono (by decide)) (pa_cons (pv 3) pa_nil)))))))
  (pss_one (ps_raise rfl takeE (pmk_1 E_InvalidOrder (hr.mono (by decide)) (pa_cons (pv 2) pa_nil))))
  pss_nil)
  (pss_one (ps_for owns_cx rfl (pi_tup (pe_slice sl_tup (pv 1) po_none (po_some (pv 2)))) (pg_name (i := 4) sc_BookX_initX.nd rfl (Or.inl rfl))
  (pss_one (ps_if (pt_val (pe_g G_do_overlap (hr.mono (by decide)) (pa_cons (pv 4) (pa_cons (pv 3) pa_nil))))
  (pss_one (ps_raise rfl takeE (pmk_1 E_InvalidOrder (hr.mono (by decide)) (pa_cons (pv 2) pa_nil))))
  pss_nil))))))
  (pss_one (ps_fld (pv 0) (pv 1) rfl))), ?_⟩
  have hl : as.length = os.length := PySem.Paired.length ho
  have lx : (as.map V.ref ++ v :: rest).length = n + 1 + rest.length := by rw [List.length_append, List.length_map, hn, List.length_cons]; omega
  refine ⟨_, rfl, t, _, rfl, ht, for_it walk_enumT (fun i σ H' => i ≤ n ∧ Same H H' ∧ ∃ v2 v3 v4, σ = [some (.ref x), some (.ref t), v2, v3, v4]) ⟨Nat.zero_le _, Same.refl H, _, _, _, rfl⟩ (fun i σ H' _ ⟨_, s1, _⟩ => MF.Same.tup s1 ht) ?_ ?_⟩
  · rintro i y σ H1 H2 hi ⟨hin, s1, v2, v3, v4, rfl⟩ ⟨p, z1, z2, rfl, hp, rfl, e1, e2⟩
    cases e1
    replace e2 : (as.map V.ref ++ v :: rest)[i]? = some z2 := e2
    have s2 : Same H (upd H1 p (.tup [.int (i : Nat), z2])) := MF.Same.upd s1 hp
    refine ⟨p, _, rfl, .inl (.inl upd_same), rfl, _, _, rfl, _, _, rfl, rfl, ?_⟩
    generalize upd H1 p (.tup [.int (i : Nat), z2]) = H3 at s2
    refine ⟨_, rfl, rfl, _, rfl, ?_⟩
    by_cases c : i < n
    · have ne30 : decide (V.int ((i : Nat) : Int) = V.int 30) = false := decide_eq_false fun q => by
        have := V.int.inj q
        omega
      rw [ne30]
      refine iteF ?_
      obtain ⟨a, ea⟩ : ∃ a, as[i]? = some a := ⟨as[i], by simp [hn, c]⟩
      rw [List.getElem?_append_left (by rw [List.length_map, hn]; exact c), List.getElem?_map, ea] at e2
      cases e2
      obtain ⟨o, eo, oa⟩ := Paired.get ho ea
      have om : o ∈ os := List.mem_of_getElem? eo
      refine ⟨_, rfl, _, true, rfl, .inl ⟨a, _, rfl, oa.mono s2, isOrd_flat (ok o om), (ok o om).b.symm⟩, fun H4 s4 => ⟨_, rfl, iteF ?_⟩⟩
      have s14 := s2.trans s4
      have tt := MF.Same.tup s14 ht
      refine ⟨_, rfl, _, rfl, _, rfl, t, _, rfl, tt, ?_, fun p2 hp2 => ?_⟩
      · rw [HT.sIx_nat, lx]
        omega
      rw [cut_take _ _ (by rw [lx]; omega), List.take_append_of_le_length (by rw [List.length_map, hn]; omega)]
      refine ⟨p2, rfl, ⟨_, .inl (.inl upd_same)⟩, for_it (walk_tup (xs := (as.map V.ref).take i)) (fun j σ H' => Same H H' ∧ SqT K H' p2 ((as.map V.ref).take i) ∧ ∃ v4, σ = [some (.ref x), some (.ref t), some (.int (i : Nat)), some (.ref a), v4]) ⟨MF.Same.upd s14 hp2, .inl (.inl upd_same), _, rfl⟩ (fun j σ H' _ ⟨_, q, _⟩ => q) ?_ ?_⟩
      · rintro j y σ H4 H5 hj ⟨s4, q4, v4', rfl⟩ ⟨rfl, ey⟩
        rw [List.length_take, List.length_map] at hj
        have hji : j < i := by omega
        obtain ⟨b, eb⟩ : ∃ b, as[j]? = some b := ⟨as[j]'(by omega), by simp [show j < as.length by omega]⟩
        rw [List.getElem?_take, if_pos hji, List.getElem?_map, eb] at ey
        cases ey
        obtain ⟨o', eo', ob⟩ := Paired.get ho eb
        refine ⟨_, rfl, _, rfl, b, a, o', o, rfl, ob.mono s4, oa.mono s4, ⟨_, rfl, ?_⟩⟩
        have hov : overB o' o = false := by
          have hj' : j < os.length := by omega
          have hi' : i < os.length := by omega
          have := List.pairwise_iff_getElem.mp apart j i hj' hi' hji
          rw [List.getElem?_eq_getElem hj'] at eo'
          rw [List.getElem?_eq_getElem hi'] at eo
          cases eo'
          cases eo
          exact this
        rw [hov]
        exact iteF ⟨s4, q4, _, rfl⟩
      · rintro σ H4 ⟨s4, _, v4', rfl⟩
        exact ⟨c, s4, _, _, _, rfl⟩
    · have ein : i = n := by omega
      subst ein
      rw [List.getElem?_append_right (by rw [List.length_map, hn]; exact Nat.le_refl _), List.length_map, hn, Nat.sub_self] at e2
      cases e2
      by_cases c30 : i = 30
      · rw [show decide (V.int ((i : Nat) : Int) = V.int 30) = true from decide_eq_true (by rw [c30]; rfl)]
        refine iteT ?_
        exact ⟨_, rfl, e1_fin (fmtn i h30) fun d H5 s5 fd ed => kk _ _ _ (s2.trans s5) ⟨rfl, d, rfl, ed⟩⟩
      · have ne30 : decide (V.int ((i : Nat) : Int) = V.int 30) = false := decide_eq_false fun q => by
          have := V.int.inj q
          omega
        rw [ne30]
        refine iteF ?_
        rcases hbad with hb | hb | ⟨a, o, q, rfl, oa, oo, qm, qo⟩
        · exact absurd hb c30
        · have hb3 := hb.mono s2
          refine ⟨_, rfl, _, false, rfl, ?_, fun H4 s4 => ⟨_, rfl, iteT ⟨_, rfl, e1_fin (fmtn i h30) fun d H5 s5 fd ed => kk _ _ _ ((s2.trans s4).trans s5) ⟨rfl, d, rfl, ed⟩⟩⟩⟩
          rcases hb3 with ⟨a, xs, h1, h2, h3, h4⟩ | ⟨a, xs, h1, h2⟩ | h
          · exact .inl ⟨a, xs, h1, h2, h3, h4.symm⟩
          · exact .inr (.inl ⟨a, xs, h1, h2, rfl⟩)
          · exact .inr (.inr ⟨h, rfl⟩)
        · refine ⟨_, rfl, _, true, rfl, .inl ⟨a, _, rfl, oa.mono s2, isOrd_flat oo, oo.b.symm⟩, fun H4 s4 => ⟨_, rfl, iteF ?_⟩⟩
          have s14 := s2.trans s4
          have tt := MF.Same.tup s14 ht
          refine ⟨_, rfl, _, rfl, _, rfl, t, _, rfl, tt, ?_, fun p2 hp2 => ?_⟩
          · rw [HT.sIx_nat, lx]
            omega
          rw [cut_take _ _ (by rw [lx]; omega), List.take_append_of_le_length (by rw [List.length_map, hn]; omega)]
          refine ⟨p2, rfl, ⟨_, .inl (.inl upd_same)⟩, for_it (walk_tup (xs := (as.map V.ref).take i)) (fun j σ H' => Same H H' ∧ SqT K H' p2 ((as.map V.ref).take i) ∧ (∀ (m : Nat) q, m < j → os[m]? = some q → overB q o = false) ∧ ∃ v4, σ = [some (.ref x), some (.ref t), some (.int (i : Nat)), some (.ref a), v4]) ⟨MF.Same.upd s14 hp2, .inl (.inl upd_same), (fun m q hm => absurd hm (Nat.not_lt_zero _)), _, rfl⟩ (fun j σ H' _ ⟨_, q, _⟩ => q) ?_ ?_⟩
          · rintro j y σ H4 H5 hj ⟨s4, q4, nov, v4', rfl⟩ ⟨rfl, ey⟩
            rw [List.length_take, List.length_map] at hj
            have hji : j < i := by omega
            obtain ⟨b, eb⟩ : ∃ b, as[j]? = some b := ⟨as[j]'(by omega), by simp [show j < as.length by omega]⟩
            rw [List.getElem?_take, if_pos hji, List.getElem?_map, eb] at ey
            cases ey
            obtain ⟨o', eo', ob⟩ := Paired.get ho eb
            refine ⟨_, rfl, _, rfl, b, a, o', o, rfl, ob.mono s4, oa.mono s4, ⟨_, rfl, ?_⟩⟩
            cases hov : overB o' o with
            | true => exact iteT ⟨_, rfl, e1_fin (fmtn i h30) fun d H5 s5 fd ed => kk _ _ _ (s4.trans s5) ⟨rfl, d, rfl, ed⟩⟩
            | false =>
              refine iteF ⟨s4, q4, fun m q hm em => ?_, _, rfl⟩
              by_cases e : m = j
              · subst e
                rw [eo'] at em
                cases em
                exact hov
              · exact nov m q (by omega) em
          · rintro σ H4 ⟨s4, _, nov, v4', rfl⟩
            exfalso
            obtain ⟨m, hm, em⟩ := List.mem_iff_getElem.mp qm
            have := nov m q (by rw [List.length_take, List.length_map, hn]; omega) (by rw [← em]; simp [hm])
            rw [qo] at this
            cases this
  · rintro σ H1 ⟨hin, s1, v2, v3, v4, rfl⟩
    rw [lx] at hin
    omega
end

end MF
set_option Elab.async false
set_option linter.all false
set_option maxRecDepth 100000
set_option maxHeartbeats 2000000
set_option pp.maxSteps 600
namespace MF
open PySem PySem.Spec PyProof.Rows L2 StX
section
variable {P : Program} {w : World} {K : PySem.W.Frag} {mg : Str → Option Value} {base : Heap} {C_Book C_MailError C_InvalidOperation C_InvalidOrder C_UnknownOrder C_NotHolding C_DecodeError C_NotationError C_UnknownLetter C_InvalidAddress C_InvalidDay C_InvalidNumber C_Contradiction C_InvalidCount : Addr}
def spIsNumber : Sp := fun vs H Q _ => ∃ z, vs = [.str z] ∧ z.length ≤ 1000 ∧ ∀ H', Same H H' → Q (.bl (numB z)) H'
theorem ok_is_number (T : Top K mg C_Book C_MailError C_InvalidOperation C_InvalidOrder C_UnknownOrder C_NotHolding C_DecodeError C_NotationError C_UnknownLetter C_InvalidAddress C_InvalidDay C_InvalidNumber C_Contradiction C_InvalidCount) : GFn P w K mg base CX0 1 "is_number" spIsNumber := by
  refine T.d_is_number.fn fun f fd F => F.ok sc_is_number (fun vs H Q E h => ?_) (fun cdv A outer s H vs Q E hr h => ?_)
  · obtain ⟨z, rfl, _⟩ := h
    rfl
  · obtain ⟨z, rfl, hz, k⟩ := h
    refine ⟨_, (pss_cons (ps_if (PW.pt (pw_or (pt_not (pt_chain op_le op_le pe_int (pe_callB call_len_str (by rfl) T.b_len (by decide +kernel) (pa_cons (pv 0) pa_nil)) (pe_gint T.c_MAX_DIGITS))) (pw_or1 (pt_not (pt_val (pe_callB (cr_all rfl) (by rfl) T.b_all (by decide +kernel) (pa_cons (pe_lc (own := [("digit", 1)]) (g := (gName 1)) (by rfl) sc_is_number.nd (pi_str (pv 0)) (blkOk_by (own := [("digit", 1)]) (N := ["word", "digit"]) (sc := defScope s_is_number) (by decide +kernel)) (fun _ _ _ _ _ => (pg_name (i := 1) sc_is_number.nd rfl (Or.inl rfl))) (fun _ _ _ _ _ => pts_nil) (fun _ _ _ _ _ => (pe_cmpR op_in_sign (pv 1) (pe_gstr T.c_DIGITS) rfl))) pa_nil)))))))
  (pss_one (ps_ret pe_bl))
  pss_nil)
  (pss_one (ps_ret (pe_or (pe_cmpR op_eq (pv 0) pe_str (nomark _)) (pe_one (pe_cmpR op_ne (pe_ix ix_str (pv 0) pe_int (fun _ _ => rfl)) pe_str (nomark _))))))), ?_⟩
    refine ⟨_, rfl, z, rfl, by rw [sizeLine_eq]; omega, _, _, rfl, rfl, _, rfl, ?_⟩
    have hf : numB z = false → Q (.bl false) H := fun e => by rw [← e]; exact k H (Same.refl H)
    refine ite2 (fun h1 => ?_) (fun h1 => ?_)
    · have h1' : 1 ≤ z.length := by have := of_decide_eq_true h1; omega
      refine ⟨_, _, rfl, rfl, _, rfl, ?_⟩
      by_cases h2 : z.length ≤ 19
      · have h2' : decide (((z.length : Nat) : Int) ≤ 19) = true := decide_eq_true (by omega)
        rw [h2']
        refine iteF ?_
        refine ⟨_, rfl, z, rfl, fun D hD => lc_it walk_str (fun i H' => Same H H' ∧ H' D = some (.lst ((z.cps.toList.take i).map fun c => V.bl (decide (c ∈ figs.cps.toList))))) ⟨Same.new hD, upd_same⟩ (fun _ _ _ _ => trivial) ?_ ?_⟩
        · rintro i x H1 H2 hi ⟨s1, l1⟩ ⟨rfl, c, hc, rfl⟩
          have hlt : i < z.cps.size := hi
          have hlen : z.cps.size = z.length := rfl
          refine ⟨rfl, yesT ?_⟩
          refine iteT ?_
          refine ⟨_, rfl, c, _, rfl, rfl, _, l1, ?_, ?_, ?_⟩
          · rw [List.length_map]
            exact Nat.lt_of_le_of_lt (List.length_take_le _ _) (Nat.lt_of_lt_of_le (Nat.lt_of_lt_of_le hlt (hlen ▸ h2)) (by decide))
          · intro b o e
            have nb : b ≠ D := ne_of_none e hD
            rw [upd_ne nb]
            exact s1 b o e
          · rw [upd_same]
            have e1 : z.cps.toList[i]? = some c := by simpa using hc
            rw [List.take_add_one, e1]
            simp [figs]
        · rintro H1 ⟨s1, l1⟩
          have e1 : z.cps.toList.take z.cps.size = z.cps.toList := List.take_of_length_le (by simp)
          rw [e1] at l1
          have e2 : (z.cps.toList.map fun c => V.bl (decide (c ∈ figs.cps.toList))) = (z.cps.toList.map fun c => decide (c ∈ figs.cps.toList)).map V.bl := by rw [List.map_map]; rfl
          rw [e2] at l1
          refine ⟨D, _, rfl, SqL.of l1, ?_⟩
          have e3 : ((z.cps.toList.map fun c => decide (c ∈ figs.cps.toList)).all id) = (z.cps.toList.all fun c => decide (c ∈ figs.cps.toList)) := by
            rw [List.all_map]
            rfl
          rw [e3]
          have nb : numB z = ((z.cps.toList.all fun c => decide (c ∈ figs.cps.toList)) && (decide (z = "0") || decide (z.cps.toList.head? ≠ some 48))) := by
            unfold numB
            rw [decide_eq_true h1', decide_eq_true h2]
            rfl
          cases ca : z.cps.toList.all fun c => decide (c ∈ figs.cps.toList) with
          | false =>
            refine ⟨_, rfl, iteT ?_⟩
            have : numB z = false := by rw [nb, ca]; rfl
            rw [← this]
            exact k H1 s1
          | true =>
            refine ⟨_, rfl, iteF ?_⟩
            rw [ca, Bool.true_and] at nb
            refine ⟨_, rfl, rfl, _, rfl, ?_⟩
            by_cases c0 : z = "0"
            · refine iteD (by rw [c0]) ?_
              have : numB z = true := by rw [nb, decide_eq_true c0]; rfl
              rw [← this]
              exact k H1 s1
            · refine iteDN (fun q => c0 (V.str.inj q)) ?_
              obtain ⟨c, ec⟩ : ∃ c, z.cps.toList[0]? = some c := ⟨_, List.getElem?_eq_getElem (by rw [Array.length_toList]; exact h1')⟩
              refine ⟨_, rfl, z, 0, c, rfl, rfl, by rw [sizeLine_eq]; omega, atI_nat (j := 0) ec, rfl, ?_⟩
              have : numB z = !decide (V.str ⟨#[c]⟩ = V.str "0") := by
                rw [nb, decide_eq_false c0, Bool.false_or, List.head?_eq_getElem?, ec]
                by_cases cc : c = 48
                · subst cc
                  decide +kernel
                · have : ¬ V.str ⟨#[c]⟩ = V.str "0" := fun q => by
                    have h3 := V.str.inj q
                    have h4 : (⟨#[c]⟩ : Str).cps.toList = ("0" : Str).cps.toList := by rw [h3]
                    have h5 : ("0" : Str).cps.toList = [48] := by decide +kernel
                    rw [h5] at h4
                    exact cc (by simpa using h4)
                  rw [decide_eq_false this]
                  simp [cc]
              rw [← this]
              exact k H1 s1
      · have h2' : decide (((z.length : Nat) : Int) ≤ 19) = false := decide_eq_false (by omega)
        rw [h2']
        exact iteT (hf (by simp [numB, h2]))
    · have h1' : ¬ 1 ≤ z.length := fun q => h1 (decide_eq_true (by omega))
      exact ⟨false, rfl, iteT (hf (by simp [numB, h1']))⟩
def spIsGood : Sp := fun vs H Q _ => ∃ (j : Nat) (z : Str), vs = [.int (j : Nat), .str z] ∧ z.length ≤ 1000 ∧ ∀ H', Same H H' → Q (.bl (goodW j z)) H'
theorem ok_is_good (T : Top K mg C_Book C_MailError C_InvalidOperation C_InvalidOrder C_UnknownOrder C_NotHolding C_DecodeError C_NotationError C_UnknownLetter C_InvalidAddress C_InvalidDay C_InvalidNumber C_Contradiction C_InvalidCount) : GFn P w K mg base CX0 2 "is_good" spIsGood := by
  have G_is_address : GFn P w K mg base CX0 1 "is_address" spIsAddress := ok_is_address T
  have G_is_number : GFn P w K mg base CX0 1 "is_number" spIsNumber := ok_is_number T
  refine T.d_is_good.fn fun f fd F => F.ok sc_is_good (fun vs H Q E h => ?_) (fun cdv A outer s H vs Q E hr h => ?_)
  · obtain ⟨j, z, rfl, _⟩ := h
    rfl
  · obtain ⟨j, z, rfl, hz, k⟩ := h
    refine ⟨_, (pss_cons (ps_if (pt_cmpR op_eq (pv 0) pe_int (nomark _))
  (pss_one (ps_ret (pe_cmpR op_eq (pv 1) (pe_gstr T.c_WORD) (nomark _))))
  pss_nil)
  (pss_one (ps_ret (pe_ifExp (pt_cmpR op_lt (pv 0) pe_int (nomark _)) (pe_g G_is_address (hr.mono (by decide)) (pa_cons (pv 1) pa_nil)) (pe_g G_is_number (hr.mono (by decide)) (pa_cons (pv 1) pa_nil)))))), ?_⟩
    refine ⟨_, rfl, rfl, _, rfl, ?_⟩
    by_cases c0 : j = 0
    · subst c0
      refine iteD rfl ?_
      refine ⟨_, rfl, rfl, ?_⟩
      have : decide (V.str z = V.str "order") = goodW 0 z := by
        show _ = decide (z = "order")
        rw [Bool.eq_iff_iff, decide_eq_true_eq, decide_eq_true_eq]
        exact ⟨V.str.inj, fun h => by rw [h]⟩
      rw [this]
      exact k H (Same.refl H)
    · refine iteDN (fun q => c0 (by have := V.int.inj q; omega)) ?_
      refine ⟨_, rfl, _, _, rfl, rfl, _, rfl, ?_⟩
      by_cases c3 : j < 3
      · refine iteD (by show ((j : Nat) : Int) < 3; omega) ?_
        refine ⟨_, rfl, _, rfl, rfl, (by show z.length ≤ sizeLine; rw [sizeLine_eq]; omega), fun H' s' => ?_⟩
        have : isAddrB (.str z) = goodW j z := by unfold goodW; rw [if_neg c0, if_pos c3]
        rw [this]
        exact k H' s'
      · refine iteDN (fun h => c3 (by have : ((j : Nat) : Int) < 3 := h; omega)) ?_
        refine ⟨_, rfl, z, rfl, hz, fun H' s' => ?_⟩
        have : numB z = goodW j z := by unfold goodW; rw [if_neg c0, if_neg c3]
        rw [this]
        exact k H' s'
end

end MF
set_option Elab.async false
set_option linter.all false
set_option maxRecDepth 100000
set_option maxHeartbeats 2000000
set_option pp.maxSteps 600
namespace MF
open PySem PySem.Spec PyProof.Rows L2 StX
section
variable {P : Program} {w : World} {K : PySem.W.Frag} {mg : Str → Option Value} {base : Heap} {C_Book C_MailError C_InvalidOperation C_InvalidOrder C_UnknownOrder C_NotHolding C_DecodeError C_NotationError C_UnknownLetter C_InvalidAddress C_InvalidDay C_InvalidNumber C_Contradiction C_InvalidCount : Addr}
def spE2 (K : PySem.W.Frag) (C : Addr) (n1 n2 : Str) : Sp := fun vs H Q _ => ∃ a v u, vs = [.ref a, v, u] ∧ FmtOk v ∧ FmtOk u ∧ H a = some (exo a C none) ∧ ∀ dx, H dx = none → dx ≠ a → Q .non (upd (upd (upd H dx (exd dx [(n1, v)])) a (exo a C (some dx))) dx (exd dx [(n2, u), (n1, v)]))
theorem e2_fin {C : Addr} {n1 n2 : Str} {v u : V} {H1 : Hp} {Q : XK} (hf : FmtOk v) (hg : FmtOk u) (h : ∀ d H3, Same H1 H3 → H1 d = none → H3 d = some (.xd [(n2, u), (n1, v)]) → Q (.ref C) (some d) H3) :
    [v, u].length ≤ 1000 ∧ ∀ a, H1 a = none → spE2 K C n1 n2 (.ref a :: ([v, u] ++ [])) (upd H1 a (exo a C none))
      (fun v H2 => v = .non ∧ ∃ (d : Addr) (fs : List (Str × V)), H2 a = some (exo a C (some d)) ∧ H2 d = some (exd d fs) ∧ H1 d = none ∧ Q (.ref C) (some d) (upd (del H2 a) d (.xd fs))) (fun _ _ _ => False) := by
  refine ⟨by simp, fun a ha => ⟨a, v, u, rfl, hf, hg, upd_same, fun dx hd ne => ⟨rfl, dx, [(n2, u), (n1, v)], ?_, upd_same, ?_, ?_⟩⟩⟩
  · rw [upd_ne ne.symm, upd_same]
  · rw [upd_ne ne] at hd
    exact hd
  · have hd1 : H1 dx = none := by
      rw [upd_ne ne] at hd
      exact hd
    refine h dx _ (fun b u e => ?_) hd1 upd_same
    rw [upd_ne (ne_of_none e hd1), del_ne (ne_of_none e ha), upd_ne (ne_of_none e hd1), upd_ne (ne_of_none e ha), upd_ne (ne_of_none e hd1), upd_ne (ne_of_none e ha)]
    exact e
theorem ok_NotationError (T : Top K mg C_Book C_MailError C_InvalidOperation C_InvalidOrder C_UnknownOrder C_NotHolding C_DecodeError C_NotationError C_UnknownLetter C_InvalidAddress C_InvalidDay C_InvalidNumber C_Contradiction C_InvalidCount) : EFn P w K mg base CX0 1 C_NotationError "NotationError" ["self", "row", "word"] (spE2 K C_NotationError "row" "word") := by
  refine T.d_NotationErrorX_initX.fn fun f fd F => F.ok sc_NotationErrorX_initX (fun vs H Q E h => ?_) (fun cdv A outer s H vs Q E hr h => ?_)
  · obtain ⟨a, v, u, rfl, _⟩ := h
    rfl
  · obtain ⟨a, v, u, rfl, hf, hg, ha, k⟩ := h
    refine ⟨_, (pss_cons (ps_expr (pe_binit rfl T.g_MailError T.base_MailError (pa_cons (pv 0) (pa_cons (pe_joined (PJ.cons pe_str (PJ.cons (pe_fmtV (pv 2)) (PJ.cons pe_str (PJ.cons (pe_fmtV (pv 1)) PJ.nil))))) pa_nil))))
  (pss_cons (ps_ost (pv 0) (pv 1))
  (pss_one (ps_ost (pv 0) (pv 2))))), ?_⟩
    have ox := T.d_NotationErrorX_initX.ox
    refine ⟨_, rfl, _, rfl, ?_, _, rfl, hg, fun y hy => ⟨_, rfl, ?_, _, rfl, ?_, _, rfl, hf, fun y2 hy2 => ⟨_, rfl, ?_, ?_⟩⟩⟩
    · decide +kernel
    · rw [Str.length_append]
      have : (Str.empty ++ ("invalid word " : Str)).length = 13 := by decide +kernel
      rw [this, sizeLine_eq]
      omega
    · rw [Str.length_append, Str.length_append]
      have : (Str.empty ++ ("invalid word " : Str)).length = 13 := by decide +kernel
      have h2 : (" in row " : Str).length = 8 := by decide +kernel
      rw [this, h2, sizeLine_eq]
      omega
    · rw [Str.length_append, Str.length_append, Str.length_append]
      have : (Str.empty ++ ("invalid word " : Str)).length = 13 := by decide +kernel
      have h2 : (" in row " : Str).length = 8 := by decide +kernel
      rw [this, h2, sizeLine_eq]
      omega
    refine ⟨a, C_NotationError, [.str _], rfl, by simp, ox, ha, ?_⟩
    refine ⟨_, rfl, _, rfl, a, C_NotationError, rfl, ox, T.na_NotationError_row, .inl ⟨ha, fun dx hd ne => ?_⟩⟩
    refine ⟨_, rfl, _, rfl, a, C_NotationError, rfl, ox, T.na_NotationError_word, .inr ⟨dx, [("row", v)], upd_same, by rw [upd_ne ne, upd_same], by simp, k dx hd ne⟩⟩
def LineOk (ws : List Str) : Prop := ws ≠ [] ∧ ws.length ≤ 8 ∧ ∀ w ∈ ws, WordOk w
def spOrderOf (K : PySem.W.Frag) (c : Cls5) : Sp := fun vs H Q E => ∃ (r : Nat) (ws : List Str), vs = [.int (r : Nat), .str (nLine ws)] ∧ r ≤ 100 ∧ LineOk ws ∧
  (badAt ws = none → ∀ H' q, Same H H' → H q = none → OrdAt K H' q (ordW ws) → Q (.ref q) H') ∧
  (∀ j, badAt ws = some j → ∀ H' cls d, Same H H' → ErrAt c cls d H' (.note (.int (r : Nat)) (.int (j : Nat))) → E cls d H')
theorem okX_order_of (T : Top K mg C_Book C_MailError C_InvalidOperation C_InvalidOrder C_UnknownOrder C_NotHolding C_DecodeError C_NotationError C_UnknownLetter C_InvalidAddress C_InvalidDay C_InvalidNumber C_Contradiction C_InvalidCount) : GFn P w K mg base (L2.CX P w) 3 "order_of" (spOrderOf K ⟨C_InvalidOrder, C_UnknownOrder, C_InvalidAddress, C_InvalidDay, C_InvalidNumber, C_UnknownLetter, C_NotHolding, C_InvalidOperation, C_Contradiction, C_InvalidCount, C_DecodeError, C_NotationError⟩) := by
  have G_is_good : GFn P w K mg base CX0 2 "is_good" spIsGood := ok_is_good T
  have E_NotationError : EFn P w K mg base CX0 1 C_NotationError "NotationError" ["self", "row", "word"] (spE2 K C_NotationError "row" "word") := ok_NotationError T
  refine T.d_order_of.fnX sc_order_of (fun vs H Q E h => ?_) (fun f cdv A outer s H vs Q E hr h => ?_)
  · obtain ⟨r, ws, rfl, _⟩ := h
    rfl
  · obtain ⟨r, ws, rfl, r100, ⟨wne, w8, wok⟩, kq, ke⟩ := h
    have fmtn : ∀ i : Nat, i ≤ 100 → FmtOk (.int (i : Nat)) := fun i hi => by
      show (i : Int).natAbs.log2 < 1920
      rw [Int.natAbs_natCast]
      have : i.log2 ≤ i := Nat.log2_le_self i
      omega
    refine ⟨_, (pss_cons (ps_set (i := 2) sc_order_of.nd rfl (Or.inl rfl) (pe_split (pv 1) pe_str))
  (pss_cons (ps_for owns_cx rfl (pi_range1 (by rfl) T.b_range (pa_cons (pe_gint T.c_WORDS) pa_nil)) (pg_name (i := 3) sc_order_of.nd rfl (Or.inl rfl))
  (pss_one (ps_if (PW.pt (pw_or (pt_cmpR op_ge (pv 3) (pe_callB call_len_seq (by rfl) T.b_len (by decide +kernel) (pa_cons (pv 2) pa_nil)) (nomark _)) (pw_or1 (pt_not (pt_val (pe_g G_is_good (hr.mono (by decide)) (pa_cons (pv 3) (pa_cons (pe_ix ix_list (pv 2) (pv 3) (fun _ _ => rfl)) pa_nil))))))))
  (pss_one (ps_raise rfl takeE (pmk_1 E_NotationError (hr.mono (by decide)) (pa_cons (pv 0) (pa_cons (pv 3) pa_nil)))))
  pss_nil)))
  (pss_cons (ps_if (pt_cmpR op_gt (pe_callB call_len_seq (by rfl) T.b_len (by decide +kernel) (pa_cons (pv 2) pa_nil)) (pe_gint T.c_WORDS) (nomark _))
  (pss_one (ps_raise rfl takeE (pmk_1 E_NotationError (hr.mono (by decide)) (pa_cons (pv 0) (pa_cons (pe_gint T.c_WORDS) pa_nil)))))
  pss_nil)
  (pss_one (ps_ret (pe_tup (pa_cons (pe_ix ix_list (pv 2) pe_int (fun _ _ => rfl)) (pa_cons (pe_ix ix_list (pv 2) pe_int (fun _ _ => rfl)) (pa_cons (pe_callTy call_int_str (by rfl) T.b_int (by decide +kernel) (pa_cons (pe_ix ix_list (pv 2) pe_int (fun _ _ => rfl)) pa_nil)) (pa_cons (pe_callTy call_int_str (by rfl) T.b_int (by decide +kernel) (pa_cons (pe_ix ix_list (pv 2) pe_int (fun _ _ => rfl)) pa_nil)) (pa_cons (pe_callTy call_int_str (by rfl) T.b_int (by decide +kernel) (pa_cons (pe_ix ix_list (pv 2) pe_int (fun _ _ => rfl)) pa_nil)) pa_nil))))))))))), ?_⟩
    have ll : (nLine ws).length ≤ 168 := line_len (L := [ws]) ⟨by simp, fun z hz => by rw [List.mem_singleton.mp hz]; exact wne, fun z hz => by rw [List.mem_singleton.mp hz]; exact w8, fun z hz => by rw [List.mem_singleton.mp hz]; exact wok⟩ (by simp)
    have sp := line_split wne fun x hx => (wok x hx).sp
    refine ⟨_, rfl, ⟨_, rfl⟩, _, _, rfl, rfl, (by decide +kernel), by rw [sizeLine_eq]; omega, ?_⟩
    rw [sp]
    intro l hl
    generalize gH1 : L2.upd _ l _ = H1
    obtain ⟨s1, e1⟩ := newS hl gH1
    clear gH1
    refine ⟨6, rfl, (by decide), (by decide), for_it walk_range (fun i σ H' => Same H1 H' ∧ (∀ m, m < i → badP ws m = false) ∧ ∃ v, σ = [some (.int (r : Nat)), some (.str (nLine ws)), some (.ref l), v]) ⟨Same.refl _, (fun m hm => absurd hm (Nat.not_lt_zero _)), _, rfl⟩ (fun _ _ _ _ _ => trivial) ?_ ?_⟩
    · rintro i y σ H2 H2' hi ⟨s2, hm, v, rfl⟩ ⟨rfl, ey⟩
      replace ey : y = .int (i : Nat) := by
        rw [ey]
        show V.int (0 + (i : Nat)) = _
        rw [Int.zero_add]
      subst ey
      have hi6 : i < 6 := hi
      have el := s2 _ _ e1
      refine ⟨_, rfl, _, rfl, l, _, rfl, .inl (SqL.of el), _, _, rfl, rfl, _, rfl, ?_⟩
      rw [List.length_map]
      have bad : badP ws i = true → ∀ H', Same H H' → tMkO C_NotationError (spE2 K C_NotationError "row" "word") [] (tCons (tVar 0) (tCons (tVar 3) tNil)) [some (.int (r : Nat)), some (.str (nLine ws)), some (.ref l), some (.int (i : Nat))] H' fun cls d H' => E cls d H' := fun hb H' s' =>
        ⟨_, rfl, _, rfl, e2_fin (fmtn r r100) (fmtn i (by omega)) fun d H5 s5 fd ed => ke i (badAt_first hm hi6 hb) _ _ _ (s'.trans s5) ⟨rfl, d, rfl, ed⟩⟩
      by_cases c : ws.length ≤ i
      · refine iteD (by show ((ws.length : Nat) : Int) ≤ (i : Nat); omega) ?_
        refine iteT (bad ?_ _ (s1.trans s2))
        unfold badP
        rw [List.getElem?_eq_none c]
      · refine iteDN (fun h => c (by have : ((ws.length : Nat) : Int) ≤ (i : Nat) := h; omega)) ?_
        obtain ⟨x, ex⟩ : ∃ x, ws[i]? = some x := ⟨ws[i], List.getElem?_eq_getElem (by omega)⟩
        refine ⟨_, rfl, _, rfl, _, rfl, l, _, _, _, rfl, rfl, SqL.of el, atI_nat (by rw [List.getElem?_map, ex]; rfl), i, x, rfl, Nat.le_trans (wok x (List.mem_of_getElem? ex)).len (by decide), fun H3 s3 => ⟨_, rfl, ?_⟩⟩
        have hb : badP ws i = !goodW i x := by unfold badP; rw [ex]
        cases cg : goodW i x with
        | true =>
          refine iteF ⟨s2.trans s3, fun m hmi => ?_, _, rfl⟩
          by_cases e : m = i
          · rw [e, hb, cg]; rfl
          · exact hm m (by omega)
        | false => exact iteT (bad (by rw [hb, cg]; rfl) _ ((s1.trans s2).trans s3))
    · rintro σ H2 ⟨s2, hm, v, rfl⟩
      have el := s2 _ _ e1
      have hb := badAt_rest hm
      refine ⟨_, rfl, l, _, rfl, .inl (SqL.of el), _, _, rfl, rfl, _, rfl, ?_⟩
      rw [List.length_map]
      by_cases c : 6 < ws.length
      · refine iteD (by show (6 : Int) < (ws.length : Nat); omega) ?_
        rw [if_pos c] at hb
        exact ⟨_, rfl, e2_fin (fmtn r r100) (fmtn 6 (by decide)) fun d H5 s5 fd ed => ke 6 hb _ _ _ ((s1.trans s2).trans s5) ⟨rfl, d, rfl, ed⟩⟩
      · refine iteDN (fun h => c (by have : (6 : Int) < (ws.length : Nat) := h; omega)) ?_
        rw [if_neg c] at hb
        obtain ⟨l6, hg⟩ := badAt_none hb
        obtain ⟨w0, w1, w2, w3, w4, w5, rfl⟩ := six l6
        have n3 := numB_int (w := w3) (hg 3 _ rfl)
        have n4 := numB_int (w := w4) (hg 4 _ rfl)
        have n5 := numB_int (w := w5) (hg 5 _ rfl)
        have S := SqL.of (K := K) el
        refine ⟨_, rfl, l, _, 1, .str w1, rfl, rfl, S, rfl, _, rfl, l, _, 2, .str w2, rfl, rfl, S, rfl, _, rfl, l, _, 3, .str w3, rfl, rfl, S, rfl, w3, _, rfl, n3.1, by omega, ?_⟩
        refine ⟨_, rfl, l, _, 4, .str w4, rfl, rfl, S, rfl, w4, _, rfl, n4.1, by omega, _, rfl, l, _, 5, .str w5, rfl, rfl, S, rfl, w5, _, rfl, n5.1, by omega, ?_⟩
        refine ⟨(by show 5 ≤ sizeLine; decide), ?_⟩
        intro q hq
        generalize gH3 : L2.upd _ q _ = H3
        obtain ⟨s3, e3⟩ := newS hq gH3
        clear gH3
        exact kq hb H3 q ((s1.trans s2).trans s3) ((s1.trans s2).free hq) (.inl (.inl e3))
end

end MF
set_option Elab.async false
set_option linter.all false
set_option maxRecDepth 100000
set_option maxHeartbeats 2000000
set_option pp.maxSteps 600
namespace MF
open PySem PySem.Spec PyProof.Rows L2 StX
section
variable {P : Program} {w : World} {K : PySem.W.Frag} {mg : Str → Option Value} {base : Heap} {C_Book C_MailError C_InvalidOperation C_InvalidOrder C_UnknownOrder C_NotHolding C_DecodeError C_NotationError C_UnknownLetter C_InvalidAddress C_InvalidDay C_InvalidNumber C_Contradiction C_InvalidCount : Addr}
def nmS (k : Nat) : Str := ⟨#[97 + k]⟩
theorem nmS_inj {i j : Nat} (h : nmS i = nmS j) : i = j := by
  have h1 : (#[97 + i] : Array Nat) = #[97 + j] := congrArg Str.cps h
  have h2 : 97 + i = 97 + j := by simpa using h1
  omega
theorem nmS_addr {k : Nat} (h : k < 6) : isAddrB (.str (nmS k)) = true := by
  have : k = 0 ∨ k = 1 ∨ k = 2 ∨ k = 3 ∨ k = 4 ∨ k = 5 := by omega
  rcases this with rfl | rfl | rfl | rfl | rfl | rfl <;> decide +kernel
def nameT (n : Nat) : Str := cutS "abcdef" none (some ((n : Nat) : Int))
theorem names_at {n : Nat} (h2 : 2 ≤ n) (h6 : n ≤ 6) : (nameT n).length ≤ sizeLine ∧ ∀ k : Nat, k < n → (nameT n).cps.toList[k]? = some (97 + k) := by
  have : n = 2 ∨ n = 3 ∨ n = 4 ∨ n = 5 ∨ n = 6 := by omega
  rcases this with rfl | rfl | rfl | rfl | rfl <;> (refine ⟨by decide +kernel, ?_⟩; decide +kernel)
theorem names_ix {n : Nat} (h2 : 2 ≤ n) (h6 : n ≤ 6) {i : Int} (h0 : 0 ≤ i) (h1 : i < n) : atI (nameT n).cps.toList i = some (97 + i.toNat) := by
  have e : i = ((i.toNat : Nat) : Int) := by omega
  rw [e]
  exact atI_nat ((names_at h2 h6).2 _ (by omega))
theorem ints_ix {l : List Int} {i : Nat} (h : i < l.length) : atI (l.map V.int) (0 + (i : Int)) = some (V.int (l.getD i 0)) := by
  rw [Int.zero_add]
  refine atI_nat ?_
  rw [List.getElem?_map, List.getElem?_eq_getElem h, List.getD_eq_getElem?_getD, List.getElem?_eq_getElem h]
  rfl
def KeepR (rw : Addr) (H H' : Hp) : Prop := ∀ b u, H b = some u → b ≠ rw → H' b = some u
theorem KeepR.trans {rw : Addr} {H H1 H2 : Hp} (a : KeepR rw H H1) (b : KeepR rw H1 H2) : KeepR rw H H2 := fun c u e n => b c u (a c u e n) n
theorem KeepR.of {rw : Addr} {H H' : Hp} (s : Same H H') : KeepR rw H H' := fun b u e _ => s b u e
theorem RowAt.ex {H : Hp} {rw sc : Addr} {ns : List Int} (h : RowAt K H rw sc ns) : ∃ xs, H rw = some (.lst xs) := by
  obtain ⟨j, m, r, h1, _⟩ := h
  exact ⟨_, h1⟩
theorem KeepR.tup {rw sc : Addr} {ns : List Int} {H H' : Hp} (k : KeepR rw H H') (r : RowAt K H rw sc ns) : ∀ b u, H b = some u → tupl u = true → H' b = some u := fun b u e y => k b u e fun z => by
  obtain ⟨xs, h⟩ := r.ex
  rw [z, h] at e
  cases e
  cases y
theorem OrdsAt.keepR {H H' : Hp} {as : List Addr} {os : List Ordr} (h : OrdsAt K H as os) (k : ∀ b u, H b = some u → tupl u = true → H' b = some u) : OrdsAt K H' as os := PySem.Paired.mono (fun a o z => by
    rcases z with (z | ⟨u, z⟩) | z
    · exact .inl (.inl (k _ _ z rfl))
    · exact .inl (.inr ⟨u, k _ _ z rfl⟩)
    · exact .inr z) h
def spLaw (K : PySem.W.Frag) : Sp := fun vs H Q _ => ∃ (a : Addr) (ns : List Int), vs = [.ref a] ∧ SqL K H a (ns.map V.int) ∧ ns.length ≤ 63 ∧ ∀ H', Q (.bl true) H'
theorem row_new {H : Hp} {a rw : Addr} {ns : List Int} (hS : SqL K H a (ns.map V.int)) (h : H rw = none) : RowAt K (upd H rw (.lst [.ref a, .int 0, .int 0, .int 0])) rw a ns :=
  ⟨0, 0, 0, upd_same, .of0 hS (Same.new h) h, by decide, by decide⟩
theorem RowAt.via {H H1 H2 : Hp} {rw sc : Addr} {ns : List Int} (h : RowAt K H rw sc ns) (k : KeepR rw H H2) (h1 : RowAt K H1 rw sc ns) (e : ∀ u, H1 rw = some u → H2 rw = some u) : RowAt K H2 rw sc ns := by
  obtain ⟨j, m, r, a1, a2, a3⟩ := h1
  obtain ⟨j', m', r', b1, b2, b3⟩ := h
  exact ⟨j, m, r, e _ a1, b2.keep k, a3⟩
end

end MF
set_option Elab.async false
set_option linter.all false
set_option maxRecDepth 100000
set_option maxHeartbeats 2000000
set_option pp.maxSteps 600
namespace MF
open PySem PySem.Spec PyProof.Rows L2 StX
section
variable {P : Program} {w : World} {K : PySem.W.Frag} {mg : Str → Option Value} {base : Heap} {C_Book C_MailError C_InvalidOperation C_InvalidOrder C_UnknownOrder C_NotHolding C_DecodeError C_NotationError C_UnknownLetter C_InvalidAddress C_InvalidDay C_InvalidNumber C_Contradiction C_InvalidCount : Addr}
def spBookOfX (K : PySem.W.Frag) (c : Cls5) : Sp := fun vs H _ E => ∃ t xs, ∃ n : Nat, vs = [.ref t] ∧ (SqT K H t xs ∨ SqL K H t xs) ∧ xs.length ≤ sizeLine ∧ FirstBad K H xs n ∧ ∀ H' cls d, Same H H' → ErrAt c cls d H' (.order (.int (n : Nat))) → E cls d H'
theorem okX_book_of (T : Top K mg C_Book C_MailError C_InvalidOperation C_InvalidOrder C_UnknownOrder C_NotHolding C_DecodeError C_NotationError C_UnknownLetter C_InvalidAddress C_InvalidDay C_InvalidNumber C_Contradiction C_InvalidCount) : GFn P w K mg base (L2.CX P w) 5 "book_of" (spBookOfX K ⟨C_InvalidOrder, C_UnknownOrder, C_InvalidAddress, C_InvalidDay, C_InvalidNumber, C_UnknownLetter, C_NotHolding, C_InvalidOperation, C_Contradiction, C_InvalidCount, C_DecodeError, C_NotationError⟩) := by
  have X_Book := okX_Book (P := P) (w := w) (base := base) T
  refine T.d_book_of.fnX sc_book_of (fun vs H Q E h => ?_) (fun f cdv A outer s H vs Q E hr h => ?_)
  · obtain ⟨t, xs, n, rfl, _⟩ := h
    rfl
  · obtain ⟨t, xs, n, rfl, ht, hl, fb, k⟩ := h
    refine ⟨_, pss_one (ps_ret (pe_mkS X_Book (hr.mono (by decide)) passE (pv 0))), ?_⟩
    refine ⟨_, rfl, t, _, rfl, ht, ?_⟩
    intro x dx hx hdx ne
    have fb' : FirstBad K H (xs ++ []) n := by rw [List.append_nil]; exact fb
    refine ⟨_, _, rfl, by rw [List.append_nil]; exact hl, fun p hp => ?_⟩
    have s0 : Same H (upd (upd H dx (.own x)) x (.ins C_Book dx [])) := fun b o e => by
      rw [upd_ne (ne_of_none e hx), upd_ne (ne_of_none e hdx)]
      exact e
    have s1 := s0.trans (Same.new (o := .tup (xs ++ [])) hp)
    exact ⟨x, p, xs ++ [], n, rfl, .inl (.inl upd_same), fb'.mono s1, fun H' cls d s h => k _ _ _ (s1.trans s) h⟩
theorem addr_len46 {z : Str} (h : isAddrB (.str z) = true) : z.length ≤ 8 := by
  unfold isAddrB at h
  simp only [Bool.and_eq_true, decide_eq_true_eq] at h
  exact h.1.2
theorem take46 {α β : Type} {R : α → β → Prop} : ∀ {as : List α} {pre rest : List β}, PySem.Paired R as (pre ++ rest) → PySem.Paired R (as.take pre.length) pre
  | _, [], _, _ => by rw [List.length_nil, List.take_zero]; exact .nil
  | _, _ :: pre, rest, .cons a t => .cons a (take46 (pre := pre) (rest := rest) t)
theorem not_ord46 {o : Ordr} (r : RawOk o) (h : okOrd o = false) : isOrdB o.vals = false := by
  cases c : isOrdB o.vals with
  | false => rfl
  | true =>
    unfold isOrdB Ordr.vals at c
    simp only [isIntB, Bool.and_eq_true, decide_eq_true_eq, Bool.not_eq_true', decide_eq_false_iff_not] at c
    obtain ⟨⟨_, h1⟩, ⟨⟨_, h2⟩, ⟨_, h3⟩⟩, h4, h5⟩ := c
    have : okOrd o = true := by
      unfold okOrd
      simp [h2, h3, h4, h5]
      exact fun z => h1 (by rw [z])
    rw [this] at h
    cases h
theorem FirstBad.rows {H : Hp} {as : List Addr} {os : List Ordr} {n : Nat} (ho : OrdsAt K H as os) (hr : ∀ o ∈ os, RawOk o) (h : badOrd [] os = some n) (hs : ∀ o ∈ os, o.src.length ≤ 1000 ∧ o.tgt.length ≤ 1000) : FirstBad K H (as.map V.ref) n := by
  obtain ⟨pre, o, rest, rfl, g, hl, hb⟩ := badOrd_some ⟨by simp, by simp, .nil⟩ hr h
  rw [List.nil_append] at g hl hb
  have la := PySem.Paired.length ho
  rw [List.length_append, List.length_cons] at la
  obtain ⟨a, ea⟩ : ∃ a, as[pre.length]? = some a := ⟨as[pre.length]'(by omega), List.getElem?_eq_getElem _⟩
  obtain ⟨o', eo, oa⟩ := Paired.get ho ea
  rw [List.getElem?_append_right (Nat.le_refl _), Nat.sub_self] at eo
  cases eo
  have ha : as = as.take pre.length ++ a :: as.drop (pre.length + 1) := by
    have := List.take_append_drop pre.length as
    have hd : as.drop pre.length = a :: as.drop (pre.length + 1) := by
      rw [List.drop_eq_getElem_cons (by omega)]
      congr 1
      rw [List.getElem?_eq_getElem (by omega)] at ea
      exact Option.some.inj ea
    rw [hd] at this
    exact this.symm
  have hp : OrdsAt K H (as.take pre.length) pre := by
    exact take46 ho
  refine ⟨as.take pre.length, pre, .ref a, (as.drop (pre.length + 1)).map V.ref, ?_, hp, g.ok, g.apart, by rw [List.length_take]; omega, by have := g.len; omega, ?_⟩
  · conv => lhs; rw [ha]
    rw [List.map_append]
    rfl
  · rcases hb with z | z | ⟨z1, z2⟩
    · exact .inl z
    · refine .inr (.inl (.inl ⟨a, _, rfl, oa, fun x hx => ?_, ?_⟩))
      · have hs' := hs o (by simp)
        replace hx : x ∈ [V.str o.src, .str o.tgt, .int o.first, .int o.last, .int o.way] := hx
        simp only [List.mem_cons, List.not_mem_nil, or_false] at hx
        rcases hx with rfl | rfl | rfl | rfl | rfl
        · exact ⟨rfl, by show o.src.length ≤ _; rw [sizeLine_eq]; omega⟩
        · exact ⟨rfl, by show o.tgt.length ≤ _; rw [sizeLine_eq]; omega⟩
        · exact ⟨rfl, trivial⟩
        · exact ⟨rfl, trivial⟩
        · exact ⟨rfl, trivial⟩
      · exact not_ord46 (hr o (by simp)) z
    · have r := hr o (by simp)
      obtain ⟨p, hp, e⟩ := List.any_eq_true.mp z2
      exact .inr (.inr ⟨a, o, p, rfl, oa, okOrd_ok z1 r.as r.at_ r.f0, hp, e⟩)
def spBookB (K : PySem.W.Frag) (C : Addr) (c : Cls5) : Sp := fun vs H Q E => spBookOf K C vs H Q E ∨ spBookOfX K c vs H Q E
theorem ok_book_both (T : Top K mg C_Book C_MailError C_InvalidOperation C_InvalidOrder C_UnknownOrder C_NotHolding C_DecodeError C_NotationError C_UnknownLetter C_InvalidAddress C_InvalidDay C_InvalidNumber C_Contradiction C_InvalidCount) : GFn P w K mg base (L2.CX P w) 5 "book_of" (spBookB K C_Book ⟨C_InvalidOrder, C_UnknownOrder, C_InvalidAddress, C_InvalidDay, C_InvalidNumber, C_UnknownLetter, C_NotHolding, C_InvalidOperation, C_Contradiction, C_InvalidCount, C_DecodeError, C_NotationError⟩) := GFn.or (GFn.up (ok_book_of T)) (okX_book_of T)
def spParse (K : PySem.W.Frag) (CB : Addr) (c : Cls5) : Sp := fun vs H Q E => ∃ z : Str, vs = [.str z] ∧
  ((z = "" ∧ ∀ H' p, Same H H' → H p = none → BookAt K CB H' p [] → Q (.ref p) H') ∨
   ∃ L, RowsOk L ∧ L ≠ [] ∧ z = nText L ∧ z ≠ "" ∧
    (∀ k j, noteAt 0 L = some (k, j) → ∀ H' cls d, Same H H' → ErrAt c cls d H' (.note (.int (k : Nat)) (.int (j : Nat))) → E cls d H') ∧
    (noteAt 0 L = none → ∀ n, badOrd [] (L.map ordW) = some n → ∀ H' cls d, Same H H' → ErrAt c cls d H' (.order (.int (n : Nat))) → E cls d H') ∧
    (noteAt 0 L = none → badOrd [] (L.map ordW) = none → ∀ H' p, Same H H' → H p = none → BookAt K CB H' p (L.map ordW) → Q (.ref p) H'))
theorem okX_parse (T : Top K mg C_Book C_MailError C_InvalidOperation C_InvalidOrder C_UnknownOrder C_NotHolding C_DecodeError C_NotationError C_UnknownLetter C_InvalidAddress C_InvalidDay C_InvalidNumber C_Contradiction C_InvalidCount) : GFn P w K mg base (L2.CX P w) 6 "parse_book" (spParse K C_Book ⟨C_InvalidOrder, C_UnknownOrder, C_InvalidAddress, C_InvalidDay, C_InvalidNumber, C_UnknownLetter, C_NotHolding, C_InvalidOperation, C_Contradiction, C_InvalidCount, C_DecodeError, C_NotationError⟩) := by
  have X_order_of : GFn P w K mg base (L2.CX P w) 3 "order_of" (spOrderOf K ⟨C_InvalidOrder, C_UnknownOrder, C_InvalidAddress, C_InvalidDay, C_InvalidNumber, C_UnknownLetter, C_NotHolding, C_InvalidOperation, C_Contradiction, C_InvalidCount, C_DecodeError, C_NotationError⟩) := okX_order_of T
  have X_book_of : GFn P w K mg base (L2.CX P w) 5 "book_of" (spBookB K C_Book ⟨C_InvalidOrder, C_UnknownOrder, C_InvalidAddress, C_InvalidDay, C_InvalidNumber, C_UnknownLetter, C_NotHolding, C_InvalidOperation, C_Contradiction, C_InvalidCount, C_DecodeError, C_NotationError⟩) := ok_book_both T
  refine T.d_parse_book.fnX sc_parse_book (fun vs H Q E h => ?_) (fun f cdv A outer s H vs Q E hr h => ?_)
  · obtain ⟨z, rfl, _⟩ := h
    rfl
  · obtain ⟨z, rfl, h⟩ := h
    refine ⟨_, (pss_cons (ps_set (i := 1) sc_parse_book.nd rfl (Or.inl rfl) (pe_ifExp (pt_cmpR op_ne (pv 0) pe_str (nomark _)) (pe_split (pv 0) pe_str) (pe_lst pa_nil)))
  (pss_one (ps_ret (pe_gX X_book_of (hr.mono (by decide)) passE (pa_cons (pe_lcX (own := [("row", 2), ("line", 3)]) (g := (gTup K 2 (gCons (gName 2) (gCons (gName 3) gNil)))) rfl rfl rfl takeE sc_parse_book.nd (pi_enum (by rfl) T.b_enumerate (pa_cons (pv 1) pa_nil)) (blkOk_by (own := [("row", 2), ("line", 3)]) (N := ["text", "lines", "row", "line"]) (sc := defScope s_parse_book) (by decide +kernel)) (fun _ _ _ _ _ => (pg_tup rfl (pgs_cons (pg_name (i := 2) sc_parse_book.nd rfl (Or.inl rfl)) (pgs_cons (pg_name (i := 3) sc_parse_book.nd rfl (Or.inl rfl)) pgs_nil)))) (fun _ _ _ _ _ => pts_nil) (fun _ _ _ _ _ hp => (pe_gX X_order_of (hr.mono (by decide)) hp (pa_cons (pv 2) (pa_cons (pv 3) pa_nil))))) pa_nil))))), ?_⟩
    refine ⟨_, rfl, rfl, _, rfl, ?_⟩
    rcases h with ⟨rfl, k⟩ | ⟨L, R, Ln, rfl, zn, kn, ko, kq⟩
    · refine iteND rfl ?_
      refine ⟨Nat.zero_le _, ?_⟩
      intro l hl
      generalize gH1 : L2.upd _ l _ = H1
      obtain ⟨s1, e1⟩ := newS hl gH1
      clear gH1
      refine ⟨_, rfl, l, _, rfl, SqL.of e1, fun D hD => ?_⟩
      refine lc_it (walk_enum (xs := [])) (fun j H' => Same H1 H' ∧ H' D = some (.lst [])) ⟨Same.new hD, upd_same⟩ (fun j H' _ p => SqL.of (p.1 _ _ e1)) (fun j y H2 H3 hj => absurd hj (Nat.not_lt_zero _)) ?_
      rintro H2 ⟨s2, e2⟩
      refine .inl ⟨D, [], [], rfl, .inr (SqL.of e2), .nil, ⟨by simp, by simp, .nil⟩, fun H' p s' hp b => k H' p ((s1.trans s2).trans s') ((s1.trans s2).free hp) b⟩
    · refine iteNDN (fun e => zn (V.str.inj e)) ?_
      refine ⟨_, rfl, ⟨_, rfl⟩, _, _, rfl, rfl, (by decide +kernel), by have := text_len R; rw [sizeLine_eq]; omega, ?_⟩
      rw [text_split Ln R]
      intro l hl
      generalize gH1 : L2.upd _ l _ = H1
      obtain ⟨s1, e1⟩ := newS hl gH1
      clear gH1
      refine ⟨_, rfl, l, _, rfl, SqL.of e1, fun D hD => ?_⟩
      refine lc_it (walk_enum (xs := (L.map nLine).map V.str)) (fun i H' => Same H1 H' ∧ (∀ m z, m < i → L[m]? = some z → badAt z = none) ∧ ∃ as : List Addr, H' D = some (.lst (as.map V.ref)) ∧ OrdsAt K H' as ((L.take i).map ordW)) ⟨Same.new hD, (fun m z hm => absurd hm (Nat.not_lt_zero _)), [], upd_same, .nil⟩ (fun i H' _ p => SqL.of (p.1 _ _ e1)) ?_ ?_
      · rintro i y H2 H3 hi ⟨s2, hm, as, e2, O2⟩ ⟨q, z1, z2, rfl, hq, rfl, ez1, ez2⟩
        cases ez1
        rw [List.length_map, List.length_map] at hi
        obtain ⟨ws, ew⟩ : ∃ ws, L[i]? = some ws := ⟨L[i], List.getElem?_eq_getElem hi⟩
        replace ez2 : ((L.map nLine).map V.str)[i]? = some z2 := ez2
        rw [List.getElem?_map, List.getElem?_map, ew] at ez2
        cases ez2
        have wm : ws ∈ L := List.mem_of_getElem? ew
        refine ⟨q, _, rfl, .inl (.inl upd_same), rfl, _, _, rfl, _, _, rfl, rfl, rfl, yesT (iteT ?_)⟩
        generalize gH3 : L2.upd _ q _ = H3
        obtain ⟨s3, e3⟩ := newS hq gH3
        clear gH3
        have s13 := s2.trans s3
        have e23 := s3 _ _ e2
        have O3 := O2.mono s3
        have R' := R.len
        refine ⟨_, rfl, _, rfl, i, ws, rfl, by omega, ⟨R.ne ws wm, R.wl ws wm, R.ok ws wm⟩, fun hb H4 t s4 ht o4 => ?_, fun j hb H4 cls d s4 er => ?_⟩
        · have la := PySem.Paired.length O3
          rw [List.length_map, List.length_take] at la
          have up : ∀ b u, H4 b = some u → b ≠ D → (upd H4 D (.lst (as.map V.ref ++ [.ref t]))) b = some u := fun b u e nb => by rw [upd_ne nb]; exact e
          have e4 := s4 _ _ e23
          have kt : ∀ b u, H4 b = some u → tupl u = true → (upd H4 D (.lst (as.map V.ref ++ [.ref t]))) b = some u := fun b u e y => up b u e fun w => by
            rw [w, e4] at e
            cases e
            cases y
          refine ⟨_, e4, by rw [List.length_map, sizeLine_eq]; omega, fun b u e => up b u ((s13.trans s4) b u e) (ne_of_none e hD), fun m z hmi ez => ?_, as ++ [t], by rw [upd_same, List.map_append]; rfl, ?_⟩
          · by_cases c : m = i
            · rw [c, ew] at ez
              cases ez
              exact hb
            · exact hm m z (by omega) ez
          · rw [List.take_add_one, ew, List.map_append]
            exact Paired.append (OrdsAt.keepR (O3.mono s4) kt) (OrdsAt.keepR (as := [t]) (os := [ordW ws]) (.cons o4 .nil) kt)
        · have := noteAt_first hb (k := 0) hm ew
          rw [Nat.zero_add] at this
          exact kn i j this _ _ _ ((s1.trans s13).trans s4) er
      · rintro H2 ⟨s2, hm, as, e2, O2⟩
        rw [List.length_map, List.length_map] at hm O2
        rw [List.take_length] at O2
        have hall : ∀ z ∈ L, badAt z = none := fun z hz => by
          obtain ⟨m, em⟩ := List.mem_iff_getElem?.mp hz
          exact hm m z (List.getElem?_eq_some_iff.mp em).1 em
        have nn : noteAt 0 L = none := noteAt_all hall
        have raw : ∀ o ∈ L.map ordW, RawOk o := fun o ho => by
          obtain ⟨ws, hw, rfl⟩ := List.mem_map.mp ho
          exact ordW_raw (hall ws hw)
        have la := PySem.Paired.length O2
        rw [List.length_map] at la
        cases hb : badOrd [] (L.map ordW) with
        | none =>
          have g := badOrd_none (found := []) ⟨by simp, by simp, .nil⟩ raw hb
          exact .inl ⟨D, as, _, rfl, .inr (SqL.of e2), O2, g, fun H' p s' hp b => kq nn hb H' p ((s1.trans s2).trans s') ((s1.trans s2).free hp) b⟩
        | some n =>
          refine .inr ⟨D, as.map V.ref, n, rfl, .inr (SqL.of e2), by rw [List.length_map, sizeLine_eq]; have := R.len; omega, FirstBad.rows O2 raw hb fun o ho => ?_, fun H' cls d s' er => ko nn n hb _ _ _ ((s1.trans s2).trans s') er⟩
          have r := raw o ho
          have l1 := addr_len46 r.as
          have l2 := addr_len46 r.at_
          omega
end

end MF
set_option Elab.async false
set_option linter.all false
set_option maxRecDepth 100000
set_option maxHeartbeats 2000000
set_option pp.maxSteps 600
namespace MF
open PySem PySem.Spec PyProof.Rows L2 StX
section
variable {P : Program} {w : World} {K : PySem.W.Frag} {mg : Str → Option Value} {base : Heap} {C_Book C_MailError C_InvalidOperation C_InvalidOrder C_UnknownOrder C_NotHolding C_DecodeError C_NotationError C_UnknownLetter C_InvalidAddress C_InvalidDay C_InvalidNumber C_Contradiction C_InvalidCount : Addr}
def spOrdersP (K : PySem.W.Frag) (C : Addr) : Sp := fun vs H Q _ => ∃ p os, vs = [.ref p] ∧ BookAt K C H p os ∧ ∀ t as, SqT K H t (as.map V.ref) → OrdsAt K H as os → Q (.ref t) H
theorem ok_ordersP (T : Top K mg C_Book C_MailError C_InvalidOperation C_InvalidOrder C_UnknownOrder C_NotHolding C_DecodeError C_NotationError C_UnknownLetter C_InvalidAddress C_InvalidDay C_InvalidNumber C_Contradiction C_InvalidCount) : PFn P w K mg base CX0 1 C_Book "orders" (spOrdersP K C_Book) := by
  refine T.d_Book_orders.fn fun f fd F => F.ok sc_Book_orders (fun vs H Q E h => ?_) (fun cdv A outer s H vs Q E hr h => ?_)
  · obtain ⟨p, os, rfl, _⟩ := h
    rfl
  · obtain ⟨p, os, rfl, ⟨dx, t, as, h1, h2, h3⟩, kk⟩ := h
    refine ⟨_, (pss_one (ps_ret (pe_fld (pv 0) rfl))), ?_⟩
    exact ⟨_, rfl, p, C_Book, dx, _, _, rfl, h1, T.cl_Book, T.n_Book_listed, rfl, kk t as h2 h3⟩
end

end MF
set_option Elab.async false
set_option linter.all false
set_option maxRecDepth 100000
set_option maxHeartbeats 2000000
set_option pp.maxSteps 600
namespace MF
open PySem PySem.Spec PyProof.Rows L2 StX
section
variable {P : Program} {w : World} {K : PySem.W.Frag} {mg : Str → Option Value} {base : Heap} {C_Book C_MailError C_InvalidOperation C_InvalidOrder C_UnknownOrder C_NotHolding C_DecodeError C_NotationError C_UnknownLetter C_InvalidAddress C_InvalidDay C_InvalidNumber C_Contradiction C_InvalidCount : Addr}
def spFormat (K : PySem.W.Frag) (CB : Addr) : Sp := fun vs H Q _ => ∃ bk os, vs = [.ref bk] ∧ BookAt K CB H bk os ∧ Good os ∧ ∀ H', Same H H' → Q (.str (nText (os.map rowW))) H'
theorem ok_format (T : Top K mg C_Book C_MailError C_InvalidOperation C_InvalidOrder C_UnknownOrder C_NotHolding C_DecodeError C_NotationError C_UnknownLetter C_InvalidAddress C_InvalidDay C_InvalidNumber C_Contradiction C_InvalidCount) : GFn P w K mg base CX0 4 "format_book" (spFormat K C_Book) := by
  have PR_Book_orders : PFn P w K mg base CX0 1 C_Book "orders" (spOrdersP K C_Book) := ok_ordersP T
  refine T.d_format_book.fn fun f fd F => F.ok sc_format_book (fun vs H Q E h => ?_) (fun cdv A outer s H vs Q E hr h => ?_)
  · obtain ⟨bk, os, rfl, _⟩ := h
    rfl
  · obtain ⟨bk, os, rfl, B, g, k⟩ := h
    refine ⟨_, (pss_cons (ps_set (i := 1) sc_format_book.nd rfl (Or.inl rfl) (pe_lst pa_nil))
  (pss_cons (ps_for PassesOwn.never rfl (pi_tup (pe_pr PR_Book_orders T.cl_Book (hr.mono (by decide)) (pv 0))) (pg_tup rfl (pgs_cons (pg_name (i := 2) sc_format_book.nd rfl (Or.inl rfl)) (pgs_cons (pg_name (i := 3) sc_format_book.nd rfl (Or.inl rfl)) (pgs_cons (pg_name (i := 4) sc_format_book.nd rfl (Or.inl rfl)) (pgs_cons (pg_name (i := 5) sc_format_book.nd rfl (Or.inl rfl)) (pgs_cons (pg_name (i := 6) sc_format_book.nd rfl (Or.inl rfl)) pgs_nil))))))
  (pss_one (ps_expr (pe_bm PySem.F.plainAttrs_list PySem.F.slot_list_append PySem.F.type_list_append mt_append (pv 1) (pa_cons (pe_joined (PJ.cons (pe_fmt (pe_gstr T.c_WORD)) (PJ.cons pe_str (PJ.cons (pe_fmt (pv 2)) (PJ.cons pe_str (PJ.cons (pe_fmt (pv 3)) (PJ.cons pe_str (PJ.cons (pe_fmt (pv 4)) (PJ.cons pe_str (PJ.cons (pe_fmt (pv 5)) (PJ.cons pe_str (PJ.cons (pe_fmt (pv 6)) PJ.nil)))))))))))) pa_nil)))))
  (pss_one (ps_ret (pe_join pe_str (pv 1)))))), ?_⟩
    refine ⟨Nat.zero_le _, ?_⟩
    intro l hl
    generalize gH1 : L2.upd _ l _ = H1
    obtain ⟨s1, e1⟩ := newS hl gH1
    clear gH1
    obtain ⟨dx, cd, st, hp, _⟩ := id B
    refine ⟨_, rfl, bk, dx, _, rfl, s1 _ _ hp, bk, os, rfl, B.mono s1, fun t as ht ho => ?_⟩
    have hl30 := g.len
    have la := PySem.Paired.length ho
    refine ⟨t, rfl, ⟨_, ht⟩, for_it (walk_tup (xs := as.map V.ref)) (fun i σ H' => (∀ b u, H1 b = some u → b ≠ l → H' b = some u) ∧ H' l = some (.lst (((os.take i).map fun o => nLine (rowW o)).map V.str)) ∧ ∃ v2 v3 v4 v5 v6, σ = [some (.ref bk), some (.ref l), v2, v3, v4, v5, v6]) ⟨fun b u e _ => e, e1, _, _, _, _, _, rfl⟩ (fun i σ H' _ p => ?_) ?_ ?_⟩
    · rcases ht with (h | ⟨u, h⟩) | h
      · exact .inl (.inl (p.1 _ _ h (fun w => by rw [w, e1] at h; cases h)))
      · exact .inl (.inr ⟨u, p.1 _ _ h (fun w => by rw [w, e1] at h; cases h)⟩)
      · exact .inr h
    · rintro i y σ H2 H2' hi ⟨k2, e2, v2, v3, v4, v5, v6, rfl⟩ ⟨rfl, ey⟩
      rw [List.length_map] at hi
      obtain ⟨a, ea⟩ : ∃ a, as[i]? = some a := ⟨as[i], List.getElem?_eq_getElem hi⟩
      rw [List.getElem?_map, ea] at ey
      cases ey
      obtain ⟨o, eo, oa⟩ := Paired.get ho ea
      have oa2 : OrdsAt K H2' [a] [o] := OrdsAt.keepR (as := [a]) (os := [o]) (.cons oa .nil) fun b u e y => k2 _ _ e fun w => by
        rw [w, e1] at e
        cases e
        cases y
      have ok := g.ok o (List.mem_of_getElem? eo)
      have la1 := addr_len46 ok.as
      have la2 := addr_len46 ok.at_
      have f0 := ok.f0
      have fl := ok.fl
      have lm := ok.lm
      have w1 := ok.w1
      have w30 := ok.w30
      cases oa2 with
      | cons oa2 _ =>
      refine ⟨a, _, rfl, oa2, rfl, _, _, rfl, _, _, rfl, _, _, rfl, _, _, rfl, _, _, rfl, rfl, ?_⟩
      have lg : ∀ x : Int, 0 ≤ x → x ≤ 1000000000000000000 → x.natAbs.log2 < 1920 ∧ (Str.ofString (toString x)).length ≤ 19 := fun x h0 h1 => by
        obtain ⟨n, rfl⟩ := Int.eq_ofNat_of_zero_le h0
        refine ⟨?_, ?_⟩
        · rw [Int.natAbs_natCast]
          have := (Nat.log2_le_self n)
          have h2 : n < 2 ^ 60 := by omega
          by_cases c : n = 0
          · subst c; decide
          · have := (Nat.log2_lt (n := n) (k := 60) c).mpr h2
            omega
        · have : (TL.numL n).length ≤ 19 := TL.numL_len (by decide) (by omega)
          rw [TL.len_tl, TL.tl_num]
          exact this
      obtain ⟨g1, z1⟩ := lg o.first f0 (by omega)
      obtain ⟨g2, z2⟩ := lg o.last (by omega) lm
      obtain ⟨g3, z3⟩ := lg o.way (by omega) (by omega)
      have q0 : Str.empty.length = 0 := rfl
      have q1 : ("order" : Str).length = 5 := by decide +kernel
      have q2 : (" " : Str).length = 1 := by decide +kernel
      have sl := sizeLine_eq
      refine ⟨_, rfl, .inl ⟨rfl, _, SqL.of e2⟩, .inl ⟨_, rfl, by omega, _, rfl, by simp only [Str.length_append]; omega, ?_⟩⟩
      refine ⟨_, rfl, by simp only [Str.length_append]; omega, _, rfl, .inl ⟨_, rfl, by omega, _, rfl, by simp only [Str.length_append]; omega, ?_⟩⟩
      refine ⟨_, rfl, by simp only [Str.length_append]; omega, _, rfl, .inl ⟨_, rfl, by omega, _, rfl, by simp only [Str.length_append]; omega, ?_⟩⟩
      refine ⟨_, rfl, by simp only [Str.length_append]; omega, _, rfl, .inr ⟨_, rfl, g1, _, rfl, by simp only [Str.length_append]; omega, ?_⟩⟩
      refine ⟨_, rfl, by simp only [Str.length_append]; omega, _, rfl, .inr ⟨_, rfl, g2, _, rfl, by simp only [Str.length_append]; omega, ?_⟩⟩
      refine ⟨_, rfl, by simp only [Str.length_append]; omega, _, rfl, .inr ⟨_, rfl, g3, _, rfl, by simp only [Str.length_append]; omega, ?_⟩⟩
      rw [← row_line]
      refine ⟨l, _, _, rfl, rfl, e2, by rw [List.length_map, List.length_map, List.length_take]; omega, ?_⟩
      refine ⟨fun b u e nb => by rw [upd_ne nb]; exact k2 b u e nb, ?_, _, _, _, _, _, rfl⟩
      rw [upd_same, List.take_add_one, eo, List.map_append, List.map_append]
      rfl
    · rintro σ H2 ⟨k2, e2, v2, v3, v4, v5, v6, rfl⟩
      rw [List.length_map, la, List.take_length] at e2
      refine ⟨⟨_, rfl⟩, _, rfl, "\n", l, os.map fun o => nLine (rowW o), rfl, rfl, .inl (SqL.of e2), ?_, ?_⟩
      · have q2 : ("\n" : Str).length = 1 := by decide +kernel
        have := sum_le46 (l := os.map fun o => nLine (rowW o)) (k := 168) fun x hx => by
          obtain ⟨o, hm, rfl⟩ := List.mem_map.mp hx
          exact line_len (rows_ok g) (List.mem_map.mpr ⟨o, hm, rfl⟩)
        rw [q2]
        rw [List.length_map] at this ⊢
        omega
      · have := k H2 fun b u e => k2 _ _ (s1 _ _ e) (ne_of_none e hl)
        unfold nText at this
        rw [List.map_map] at this
        exact this
end

end MF
set_option Elab.async false
set_option linter.all false
set_option maxRecDepth 100000
set_option maxHeartbeats 2000000
set_option pp.maxSteps 600
namespace MF
open PySem PySem.Spec PyProof.Rows L2 StX
section
variable {P : Program} {w : World} {K : PySem.W.Frag} {mg : Str → Option Value} {base : Heap} {C_Book C_MailError C_InvalidOperation C_InvalidOrder C_UnknownOrder C_NotHolding C_DecodeError C_NotationError C_UnknownLetter C_InvalidAddress C_InvalidDay C_InvalidNumber C_Contradiction C_InvalidCount : Addr}
def spBookLen (K : PySem.W.Frag) (C : Addr) : Sp := fun vs H Q _ => ∃ p os, vs = [.ref p] ∧ BookAt K C H p os ∧ Q (.int (os.length : Nat)) H
theorem ok_book_len (T : Top K mg C_Book C_MailError C_InvalidOperation C_InvalidOrder C_UnknownOrder C_NotHolding C_DecodeError C_NotationError C_UnknownLetter C_InvalidAddress C_InvalidDay C_InvalidNumber C_Contradiction C_InvalidCount) : MFn P w K mg base CX0 1 C_Book "__len__" (spBookLen K C_Book) := by
  refine T.d_BookX_lenX.fn fun f fd F => F.ok sc_BookX_lenX (fun vs H Q E h => ?_) (fun cdv A outer s H vs Q E hr h => ?_)
  · obtain ⟨p, os, rfl, _⟩ := h
    rfl
  · obtain ⟨p, os, rfl, ⟨dx, t, as, h1, h2, h3⟩, k⟩ := h
    refine ⟨_, (pss_one (ps_ret (pe_callB call_len_seq (by rfl) T.b_len (by decide +kernel) (pa_cons (pe_fld (pv 0) rfl) pa_nil)))), ?_⟩
    have hl : as.length = os.length := PySem.Paired.length h3
    refine ⟨_, rfl, p, C_Book, dx, _, _, rfl, h1, T.cl_Book, T.n_Book_listed, rfl, t, _, rfl, .inr h2, ?_⟩
    rw [List.length_map, hl]
    exact k
def spBookAt (K : PySem.W.Frag) (C : Addr) : Sp := fun vs H Q _ => ∃ p os o, ∃ i : Nat, vs = [.ref p, .int (i : Nat)] ∧ BookAt K C H p os ∧ os[i]? = some o ∧ ∀ a, OrdAt K H a o → Q (.ref a) H
def spCheckOrd (K : PySem.W.Frag) (C : Addr) : Sp := fun vs H Q _ => ∃ p os, ∃ i : Nat, vs = [.ref p, .int (i : Nat)] ∧ BookAt K C H p os ∧ i < os.length ∧ Q .non H
end

end MF
set_option Elab.async false
set_option linter.all false
set_option maxRecDepth 100000
set_option maxHeartbeats 2000000
set_option pp.maxSteps 600
namespace MF
open PySem PySem.Spec PyProof.Rows L2 StX
section
theorem strOk_addr {z : Str} (h : isAddrB (.str z) = true) : PyData.strOk z = true := by
  simp only [isAddrB, Bool.and_eq_true, decide_eq_true_eq, List.all_eq_true] at h
  unfold PyData.strOk
  rw [← Array.all_toList, List.all_eq_true]
  intro c hc
  have hl : ∀ c ∈ letters.cps.toList, c < 1114112 := by decide
  exact decide_eq_true (hl c (by have := h.2 c hc; simpa using this))
theorem shaped_pt {z : Str} {d : Int} (h : isAddrB (.str z) = true) : SeqAt.shaped (.tuple [.str z, .int d]) = true := by
  have : (PyData.tuple [.str z, .int d]).canLay0 = true := by
    simp only [PyData.canLay0, PyData.canLayAll0, strOk_addr h, Bool.and_true]
  unfold SeqAt.shaped
  rw [this]
  rfl
theorem eqv_pt (A B : Pt) : PyData.eqv (.tuple [.str A.1, .int A.2]) (.tuple [.str B.1, .int B.2]) = decide (A = B) := by
  obtain ⟨a, b⟩ := A
  obtain ⟨c, d⟩ := B
  simp only [PyData.eqv, PyData.eqvAll, Bool.and_true]
  rw [Bool.eq_iff_iff]
  simp
end

end MF
set_option Elab.async false
set_option linter.all false
set_option maxRecDepth 100000
set_option maxHeartbeats 2000000
set_option pp.maxSteps 600
namespace MF
open PySem PySem.Spec PyProof.Rows L2 StX
section
variable {P : Program} {w : World} {K : PySem.W.Frag} {mg : Str → Option Value} {base : Heap} {C_Book C_MailError C_InvalidOperation C_InvalidOrder C_UnknownOrder C_NotHolding C_DecodeError C_NotationError C_UnknownLetter C_InvalidAddress C_InvalidDay C_InvalidNumber C_Contradiction C_InvalidCount : Addr}
theorem dp_strs {H : Hp} : ∀ ys : List Str, DpAll K H (ys.map V.str) (ys.map PyData.str)
  | [] => .nil
  | y :: ys => .cons (.str y) (dp_strs ys)
theorem eqv_strs : ∀ a b : List Str, PyData.eqvAll (a.map PyData.str) (b.map PyData.str) = decide (a = b)
  | [], [] => by simp [PyData.eqvAll]
  | [], b :: bs => by simp [PyData.eqvAll]
  | a :: as, [] => by simp [PyData.eqvAll]
  | a :: as, b :: bs => by
    rw [List.map_cons, List.map_cons, PyData.eqvAll, eqv_strs as bs]
    by_cases c : a = b
    · subst c
      simp [PyData.eqv]
    · simp [PyData.eqv, c]
theorem lay_strs {ys : List Str} (h : ∀ y ∈ ys, isAddrB (.str y) = true) : PyData.canLayAll0 (ys.map PyData.str) = true := by
  induction ys with
  | nil => simp [PyData.canLayAll0]
  | cons y ys ih =>
    rw [List.map_cons]
    simp only [PyData.canLayAll0, PyData.canLay0, ih fun z hz => h z (by simp [hz]), strOk_addr (h y (by simp)), Bool.and_self]
theorem depth_strs : ∀ ys : List Str, PyData.depthAll (ys.map PyData.str) ≤ 1
  | [] => by simp [PyData.depthAll]
  | y :: ys => by
    have := depth_strs ys
    rw [List.map_cons]
    simp only [PyData.depthAll, PyData.depth]
    omega
theorem shaped_strs {ys : List Str} (h : ∀ y ∈ ys, isAddrB (.str y) = true) : SeqAt.shaped (.list (ys.map PyData.str)) = true := by
  show ((PyData.list (ys.map PyData.str)).canLay0 && decide ((PyData.list (ys.map PyData.str)).depth ≤ 64)) = true
  rw [Bool.and_eq_true]
  refine ⟨?_, decide_eq_true ?_⟩
  · simp only [PyData.canLay0]
    exact lay_strs h
  · have := depth_strs ys
    simp only [PyData.depth]
    omega
end

end MF
set_option Elab.async false
set_option linter.all false
set_option maxRecDepth 100000
set_option maxHeartbeats 2000000
set_option pp.maxSteps 600
namespace MF
open PySem PySem.Spec PyProof.Rows L2 StX
section
variable {P : Program} {w : World} {K : PySem.W.Frag} {mg : Str → Option Value} {base : Heap} {C_Book C_MailError C_InvalidOperation C_InvalidOrder C_UnknownOrder C_NotHolding C_DecodeError C_NotationError C_UnknownLetter C_InvalidAddress C_InvalidDay C_InvalidNumber C_Contradiction C_InvalidCount : Addr}
theorem sl_listK {X : Cx} {K : PySem.W.Frag} (h : X.K = K := by rfl) : SlR X (rSlL K) := h ▸ sl_list
structure DK (n : Nat) (d : PyData) : Prop where
  lay : d.canLay0 = true
  dep : d.depth ≤ n
  sm : smallD d = true
theorem dk_lay : ∀ {ds : List PyData}, (∀ d ∈ ds, d.canLay0 = true) → PyData.canLayAll0 ds = true
  | [], _ => by simp [PyData.canLayAll0]
  | d :: ds, h => by simp only [PyData.canLayAll0, h d List.mem_cons_self, dk_lay fun e he => h e (List.mem_cons_of_mem _ he), Bool.and_self]
theorem dk_dep {n : Nat} : ∀ {ds : List PyData}, (∀ d ∈ ds, d.depth ≤ n) → PyData.depthAll ds ≤ n
  | [], _ => by simp [PyData.depthAll]
  | d :: ds, h => by
    rw [PyData.depthAll]
    exact Nat.max_le.mpr ⟨h d List.mem_cons_self, dk_dep fun e he => h e (List.mem_cons_of_mem _ he)⟩
theorem dk_small : ∀ {ds : List PyData}, (∀ d ∈ ds, smallD d = true) → smallAll ds = true
  | [], _ => rfl
  | d :: ds, h => by simp only [smallAll, h d List.mem_cons_self, dk_small fun e he => h e (List.mem_cons_of_mem _ he), Bool.and_self]
theorem DK.list {n : Nat} {ds : List PyData} (h : ∀ d ∈ ds, DK n d) (hl : ds.length ≤ 1000000) : DK (n + 1) (.list ds) :=
  ⟨by simp only [PyData.canLay0]; exact dk_lay fun d hd => (h d hd).lay, by simp only [PyData.depth]; have := dk_dep fun d hd => (h d hd).dep; omega, by simp only [smallD, Bool.and_eq_true]; exact ⟨decide_eq_true hl, dk_small fun d hd => (h d hd).sm⟩⟩
theorem DK.tuple {n : Nat} {ds : List PyData} (h : ∀ d ∈ ds, DK n d) (hl : ds.length ≤ 1000000) : DK (n + 1) (.tuple ds) :=
  ⟨by simp only [PyData.canLay0]; exact dk_lay fun d hd => (h d hd).lay, by simp only [PyData.depth]; have := dk_dep fun d hd => (h d hd).dep; omega, by simp only [smallD, Bool.and_eq_true]; exact ⟨decide_eq_true hl, dk_small fun d hd => (h d hd).sm⟩⟩
theorem DK.int (n : Nat) (i : Int) : DK n (.int i) := ⟨by simp only [PyData.canLay0], by simp only [PyData.depth]; omega, rfl⟩
theorem DK.bl (n : Nat) (b : Bool) : DK n (.bool b) := ⟨by simp only [PyData.canLay0], by simp only [PyData.depth]; omega, rfl⟩
theorem DK.non (n : Nat) : DK n .none := ⟨by simp only [PyData.canLay0], by simp only [PyData.depth]; omega, rfl⟩
theorem DK.strk (n : Nat) {z : Str} (h : PyData.strOk z = true) : DK n (.str z) := ⟨by simp only [PyData.canLay0, h], by simp only [PyData.depth]; omega, rfl⟩
theorem DK.str (n : Nat) {z : Str} (h : isAddrB (.str z) = true) : DK n (.str z) := DK.strk n (strOk_addr h)
theorem DK.le {n m : Nat} {d : PyData} (h : DK n d) (hm : n ≤ m) : DK m d := ⟨h.lay, Nat.le_trans h.dep hm, h.sm⟩
theorem DK.cons {n : Nat} {d : PyData} {ds : List PyData} (h : DK n d) (t : ∀ e ∈ ds, DK n e) : ∀ e ∈ d :: ds, DK n e := fun e he => by
  rcases List.mem_cons.mp he with rfl | he
  · exact h
  · exact t e he
theorem DK.nil {n : Nat} : ∀ e ∈ ([] : List PyData), DK n e := fun e he => by cases he
theorem DK.map {α : Type} {n : Nat} {f : α → PyData} {l : List α} (h : ∀ x ∈ l, DK n (f x)) : ∀ d ∈ l.map f, DK n d := fun d hd => by
  obtain ⟨x, hx, rfl⟩ := List.mem_map.mp hd
  exact h x hx
theorem DK.rep {n k : Nat} {d : PyData} (h : DK n d) : ∀ e ∈ List.replicate k d, DK n e := fun e he => by
  rw [(List.mem_replicate.mp he).2]
  exact h
theorem DK.shaped {n : Nat} {d : PyData} (h : DK n d) (hn : n ≤ 64) : SeqAt.shaped d = true := by
  unfold SeqAt.shaped
  rw [h.lay, Bool.true_and]
  exact decide_eq_true (Nat.le_trans h.dep hn)
theorem dkMap {H : Hp} {α : Type} {f : α → V} {g : α → PyData} (h : ∀ x, Dp K H (f x) (g x)) : ∀ l : List α, DpAll K H (l.map f) (l.map g)
  | [] => .nil
  | x :: l => .cons (h x) (dkMap h l)
theorem dkMem {H : Hp} {f : V → PyData} : ∀ l : List V, (∀ x ∈ l, Dp K H x (f x)) → DpAll K H l (l.map f)
  | [], _ => .nil
  | x :: l, h => .cons (h x List.mem_cons_self) (dkMem l fun y hy => h y (List.mem_cons_of_mem _ hy))
theorem dkPair {H : Hp} {α β : Type} {R : α → β → Prop} {f : α → V} {g : β → PyData} (h : ∀ a b, R a b → Dp K H (f a) (g b)) : ∀ {as : List α} {bs : List β}, Paired R as bs → DpAll K H (as.map f) (bs.map g)
  | _, _, .nil => .nil
  | _, _, .cons a t => .cons (h _ _ a) (dkPair h t)
theorem dkRep {H : Hp} {v : V} {d : PyData} (h : Dp K H v d) : ∀ n, DpAll K H (List.replicate n v) (List.replicate n d)
  | 0 => .nil
  | n + 1 => .cons h (dkRep h n)
theorem eqvMap {α : Type} [DecidableEq α] {f : α → PyData} (h : ∀ a b, PyData.eqv (f a) (f b) = decide (a = b)) : ∀ l l' : List α, PyData.eqvAll (l.map f) (l'.map f) = decide (l = l')
  | [], [] => by simp [PyData.eqvAll]
  | [], b :: bs => by simp [PyData.eqvAll]
  | a :: as, [] => by simp [PyData.eqvAll]
  | a :: as, b :: bs => by
    rw [List.map_cons, List.map_cons, PyData.eqvAll, eqvMap h as bs, h]
    by_cases c : a = b
    · subst c
      simp
    · simp [c]
def ordDK (o : Ordr) : PyData := .tuple [.str o.src, .str o.tgt, .int o.first, .int o.last, .int o.way]
theorem DK.ord {o : Ordr} (h : o.Ok) : DK 1 (ordDK o) := .tuple (.cons (.str 0 h.as) (.cons (.str 0 h.at_) (.cons (.int 0 _) (.cons (.int 0 _) (.cons (.int 0 _) .nil))))) (by show 5 ≤ _; decide)
theorem dkOrds {H : Hp} {as : List Addr} {os : List Ordr} (h : OrdsAt K H as os) : DpAll K H (as.map V.ref) (os.map ordDK) :=
  dkPair (R := OrdAt K H) (fun a o oa => .tup oa (.cons (.str _) (.cons (.str _) (.cons (.int _) (.cons (.int _) (.cons (.int _) .nil)))))) h
theorem eqvOrd (o p : Ordr) : PyData.eqv (ordDK o) (ordDK p) = decide (o = p) := by
  obtain ⟨a, b, c, d, e⟩ := o
  obtain ⟨a', b', c', d', e'⟩ := p
  unfold ordDK
  simp only [PyData.eqv, PyData.eqvAll, Bool.and_true]
  rw [Bool.eq_iff_iff]
  simp
theorem eqvOrds (l l' : List Ordr) : PyData.eqvAll (l.map ordDK) (l'.map ordDK) = decide (l = l') := eqvMap eqvOrd l l'
theorem eqvInt (i j : Int) : PyData.eqv (.int i) (.int j) = decide (i = j) := rfl
end

end MF
set_option Elab.async false
set_option linter.all false
set_option maxRecDepth 100000
set_option maxHeartbeats 2000000
set_option pp.maxSteps 600
namespace MF
open PySem PySem.Spec PyProof.Rows L2 StX
section
variable {P : Program} {w : World} {K : PySem.W.Frag} {mg : Str → Option Value} {base : Heap} {C_Book C_MailError C_InvalidOperation C_InvalidOrder C_UnknownOrder C_NotHolding C_DecodeError C_NotationError C_UnknownLetter C_InvalidAddress C_InvalidDay C_InvalidNumber C_Contradiction C_InvalidCount : Addr}
def spDice (K : PySem.W.Frag) : Sp := fun vs H Q _ => ∃ sc ns, vs = [.ref sc] ∧ SqL K H sc ((ns : List Int).map V.int) ∧ ns.length ≤ 63 ∧ ∀ H' rw, Same H H' → H rw = none → RowAt K H' rw sc ns → Q (.ref rw) H'
theorem ok_dice (T : Top K mg C_Book C_MailError C_InvalidOperation C_InvalidOrder C_UnknownOrder C_NotHolding C_DecodeError C_NotationError C_UnknownLetter C_InvalidAddress C_InvalidDay C_InvalidNumber C_Contradiction C_InvalidCount) : GFn P w K mg base CX0 1 "_law_dice" (spDice K) := by
  refine T.d__law_dice.fn fun f fd F => F.ok sc__law_dice (fun vs H Q E h => ?_) (fun cdv A outer s H vs Q E hr h => ?_)
  · obtain ⟨sc, ns, rfl, _⟩ := h
    rfl
  · obtain ⟨sc, ns, rfl, hS, hl, k⟩ := h
    refine ⟨_, (pss_cons (ps_set (i := 1) sc__law_dice.nd rfl (Or.inl rfl) pe_int)
  (pss_cons (ps_for PassesOwn.never rfl (pi_list (pv 0)) (pg_name (i := 2) sc__law_dice.nd rfl (Or.inl rfl))
  (pss_one (ps_set (i := 1) sc__law_dice.nd rfl (Or.inl rfl) (pe_op op_mod (pe_callTy call_int1 (by rfl) T.b_int (by decide +kernel) (pa_cons (pe_op op_add (pe_op op_add (pe_op op_mul (pv 1) pe_int) (pe_op op_mul (pe_op op_mod (pe_callTy call_int1 (by rfl) T.b_int (by decide +kernel) (pa_cons (pv 2) pa_nil)) pe_int) pe_int)) pe_int) pa_nil)) pe_int))))
  (pss_one (ps_ret (pe_lst (pa_cons (pv 0) (pa_cons pe_int (pa_cons (pe_op op_mul (pv 1) (pe_callTy call_int1 (by rfl) T.b_int (by decide +kernel) (pa_cons (pe_cmpR op_gt (pe_callB call_len_seq (by rfl) T.b_len (by decide +kernel) (pa_cons (pv 0) pa_nil)) pe_int (nomark _)) pa_nil))) (pa_cons pe_int pa_nil))))))))), ?_⟩
    refine ⟨_, rfl, sc, rfl, ⟨_, hS⟩, for_it (walk_list (xs := ns.map V.int)) (fun i σ H' => Same H H' ∧ ∃ m v2, σ = [some (.ref sc), some (.int m), v2] ∧ 0 ≤ m ∧ m < 2147483647) ⟨Same.refl _, 0, _, rfl, by decide, by decide⟩ (fun i σ H' _ p => p.1.seq hS) ?_ ?_⟩
    · rintro i y σ Hx H2 hi ⟨s2, m, v2, rfl, m0, m1⟩ ⟨rfl, ey⟩
      rw [List.length_map] at hi
      rw [List.getElem?_map, List.getElem?_eq_getElem hi] at ey
      cases ey
      generalize ns[i] = c
      have c0 : 0 ≤ c % 2147483647 := Int.emod_nonneg _ (by decide)
      have c1 : c % 2147483647 < 2147483647 := Int.emod_lt_of_pos _ (by decide)
      refine ⟨_, rfl, _, _, rfl, rfl, .inl ⟨by omega, by omega⟩, _, rfl, .inl ⟨_, rfl, _, _, rfl, rfl, (by show (0 : Int) < 2147483647; decide), _, _, rfl, rfl, .inl ⟨by omega, by omega⟩, _, _, rfl, rfl, _, _, rfl, rfl, .inl ⟨_, rfl, _, _, rfl, rfl, (by show (0 : Int) < 2147483647; decide), ?_⟩⟩⟩
      exact ⟨s2, _, _, rfl, Int.emod_nonneg _ (by decide), Int.emod_lt_of_pos _ (by decide)⟩
    · rintro σ H2 ⟨s2, m, v2, rfl, m0, m1⟩
      refine ⟨_, rfl, _, rfl, _, rfl, sc, _, rfl, .inl (s2.seq hS), _, _, rfl, rfl, .inr ⟨_, rfl, ?_⟩⟩
      generalize (decide ((2 : Int) < ((ns.map V.int).length : Nat))) = b
      refine ⟨_, _, rfl, rfl, .inl ⟨by omega, by omega⟩, (by show 4 ≤ sizeLine; decide), fun q hq => ?_⟩
      refine k _ q (s2.trans (Same.new hq)) (s2.free hq) ⟨0, m * (if b = true then 1 else 0), 0, upd_same, .of0 hS (s2.trans (Same.new hq)) (s2.free hq), ?_, ?_⟩
      · cases b <;> simp <;> omega
      · cases b <;> simp <;> omega
theorem ok_next (T : Top K mg C_Book C_MailError C_InvalidOperation C_InvalidOrder C_UnknownOrder C_NotHolding C_DecodeError C_NotationError C_UnknownLetter C_InvalidAddress C_InvalidDay C_InvalidNumber C_Contradiction C_InvalidCount) : GFn P w K mg base CX0 1 "_law_next" (spTaken K) := by
  refine T.d__law_next.fn fun f fd F => F.ok sc__law_next (fun vs H Q E h => ?_) (fun cdv A outer s H vs Q E hr h => ?_)
  · obtain ⟨rw, sc, ns, many, rfl, _⟩ := h
    rfl
  · obtain ⟨rw', sc, ns, many, rfl, ⟨j, m, r, h1, h2, m0, m1⟩, p0, p1, k⟩ := h
    refine ⟨_, (pss_cons (ps_if (pt_cmpR op_gt (pe_ix ix_list (pv 0) pe_int (fun _ _ => rfl)) pe_int (nomark _))
  (pss_cons (ps_set (i := 2) sc__law_next.nd rfl (Or.inl rfl) (pe_op op_mod (pe_callTy call_int1 (by rfl) T.b_int (by decide +kernel) (pa_cons (pe_ix ix_list (pv 0) pe_int (fun _ _ => rfl)) pa_nil)) (pv 1)))
  (pss_cons (ps_asg (pe_op op_fdivW (pe_ix ix_list (pv 0) pe_int (fun _ _ => rfl)) (pv 1)) (pg_sub (pv 0) pe_int set_list))
  (pss_one (ps_ret (pv 2)))))
  pss_nil)
  (pss_cons (ps_asg (pe_op op_add (pe_ix ix_list (pv 0) pe_int (fun _ _ => rfl)) pe_int) (pg_sub (pv 0) pe_int set_list))
  (pss_cons (ps_if (pt_cmpR op_le (pe_ix ix_list (pv 0) pe_int (fun _ _ => rfl)) (pe_callB call_len_seq (by rfl) T.b_len (by decide +kernel) (pa_cons (pe_ix ix_list (pv 0) pe_int (fun _ _ => rfl)) pa_nil)) (nomark _))
  (pss_cons (ps_set (i := 3) sc__law_next.nd rfl (Or.inl rfl) (pe_ix ix_list (pe_ix ix_list (pv 0) pe_int (fun _ _ => rfl)) (pe_op op_sub (pe_ix ix_list (pv 0) pe_int (fun _ _ => rfl)) pe_int) (fun _ _ => rfl)))
  (pss_cons (ps_asg (pe_ifExp (pt_cmpR op_ge (pv 3) (pe_op op_pow pe_int pe_int) (nomark _)) (pe_op op_fdivW (pv 3) (pv 1)) pe_int) (pg_sub (pv 0) pe_int set_list))
  (pss_one (ps_ret (pe_op op_mod (pe_callTy call_int1 (by rfl) T.b_int (by decide +kernel) (pa_cons (pv 3) pa_nil)) (pv 1))))))
  pss_nil)
  (pss_cons (ps_asg (pe_op op_mod (pe_callTy call_int1 (by rfl) T.b_int (by decide +kernel) (pa_cons (pe_op op_mul (pe_ix ix_list (pv 0) pe_int (fun _ _ => rfl)) pe_int) pa_nil)) pe_int) (pg_sub (pv 0) pe_int set_list))
  (pss_one (ps_ret (pe_op op_mod (pe_callTy call_int1 (by rfl) T.b_int (by decide +kernel) (pa_cons (pe_op op_fdivW (pe_ix ix_list (pv 0) pe_int (fun _ _ => rfl)) pe_int) pa_nil)) (pv 1)))))))), ?_⟩
    have S1 := SqL.of (K := K) h1
    have dv : ∀ x, CDivW x many := fun x => ⟨p0, by
      have : many.natAbs < 2 ^ 60 := by omega
      have := (Nat.log2_lt (n := many.natAbs) (k := 60) (by omega)).mpr this
      omega⟩
    have mod0 : ∀ x : Int, 0 ≤ x % many ∧ x % many < many := fun x => ⟨Int.emod_nonneg _ (by omega), Int.emod_lt_of_pos _ p0⟩
    have fr : ∀ (o : HO) b u, H b = some u → b ≠ rw' → upd H rw' o b = some u := fun o b u e nb => by rw [upd_ne nb]; exact e
    refine ⟨_, rfl, rw', _, _, _, rfl, rfl, S1, rfl, _, _, rfl, rfl, _, rfl, ?_⟩
    refine ite2 (fun c1 => ?_) (fun c1 => ?_)
    · refine ⟨_, rfl, rw', _, _, _, rfl, rfl, S1, rfl, .inl ⟨_, rfl, _, rfl, _, _, rfl, rfl, p0, ?_⟩⟩
      refine ⟨_, rfl, rw', _, _, _, rfl, rfl, S1, rfl, _, rfl, _, _, rfl, rfl, dv _, _, rfl, rw', _, _, 3, rfl, rfl, h1, rfl, ?_⟩
      refine ⟨_, rfl, k _ _ (mod0 r).1 (mod0 r).2 ?_ (fr _)⟩
      exact ⟨j, m, r / many, upd_same, h2.keep (fr _), m0, m1⟩
    · refine ⟨_, rfl, rw', _, _, _, rfl, rfl, S1, rfl, _, _, rfl, rfl, _, rfl, rw', _, _, 1, rfl, rfl, h1, rfl, ?_⟩
      have h1' : upd H rw' (.lst ([.ref sc, .int (j : Nat), .int m, .int r].set 1 (.int ((j : Nat) + 1)))) rw' = some (.lst [.ref sc, .int ((j : Nat) + 1), .int m, .int r]) := upd_same
      have h2' := h2.keep (H' := upd H rw' (.lst ([.ref sc, .int (j : Nat), .int m, .int r].set 1 (.int ((j : Nat) + 1))))) (fr _)
      have fr1 := fr (.lst ([.ref sc, .int (j : Nat), .int m, .int r].set 1 (.int ((j : Nat) + 1))))
      generalize upd H rw' _ = H1 at h1' h2' fr1
      have S2 := SqL.of (K := K) h1'
      have fr2 : ∀ (o : HO) b u, H b = some u → b ≠ rw' → upd H1 rw' o b = some u := fun o b u e nb => by rw [upd_ne nb]; exact fr1 b u e nb
      have fr3 : ∀ (o : HO) b u, H1 b = some u → b ≠ rw' → upd H1 rw' o b = some u := fun o b u e nb => by rw [upd_ne nb]; exact e
      have modm : ∀ x : Int, 0 ≤ x % 2147483647 ∧ x % 2147483647 < 2147483647 := fun x => ⟨Int.emod_nonneg _ (by omega), Int.emod_lt_of_pos _ (by omega)⟩
      refine ⟨_, rfl, rw', _, _, _, rfl, rfl, S2, rfl, _, rfl, rw', _, _, _, rfl, rfl, S2, rfl, sc, _, rfl, .inl h2'.sq, _, _, rfl, rfl, _, rfl, ?_⟩
      refine ite2 (fun c2 => ?_) (fun c2 => ?_)
      · have c2' : (j : Int) + 1 ≤ ((ns.map V.int).length : Int) := of_decide_eq_true c2
        rw [List.length_map] at c2'
        have hj : j < ns.length := by omega
        have at1 : atI (ns.map V.int) ((j : Int) + 1 - 1) = some (V.int ns[j]) := by
          have : (j : Int) + 1 - 1 = (j : Int) := by omega
          rw [this]
          exact atI_nat (by simp [hj])
        refine ⟨_, rfl, rw', _, _, _, rfl, rfl, S2, rfl, _, rfl, rw', _, _, _, rfl, rfl, S2, rfl, _, _, rfl, rfl, sc, _, _, _, rfl, rfl, h2'.sq, at1, ?_⟩
        generalize ns[j] = cell
        have fin : ∀ z : Int, tRet (tOp (rI (fun _ j => 0 < j) fun i j => V.int (i % j)) (tCB (fun xs H Q => (∃ i, xs = [V.int i] ∧ Q (V.int i) H) ∨ ∃ k, xs = [V.bl k] ∧ Q (V.int (if k = true then 1 else 0)) H) (tCons (tVar 3) tNil)) (tVar 1)) { nx := fun _ _ => False, rt := Q } [some (.ref rw'), some (.int many), none, some (.int cell)] (upd H1 rw' (.lst [.ref sc, .int ((j : Nat) + 1), .int m, .int z])) := fun z => by
          refine ⟨_, rfl, .inl ⟨_, rfl, _, rfl, _, _, rfl, rfl, p0, ?_⟩⟩
          exact k _ _ (mod0 _).1 (mod0 _).2 ⟨j + 1, m, z, upd_same, h2'.keep (fr3 _), m0, m1⟩ (fr2 _)
        refine ⟨_, rfl, _, _, rfl, rfl, ⟨by decide, by decide, by decide⟩, _, _, rfl, rfl, _, rfl, ?_⟩
        refine ite2 (fun c3 => ?_) (fun c3 => ?_)
        · exact ⟨_, rfl, _, rfl, _, _, rfl, rfl, dv _, _, rfl, rw', _, _, 3, rfl, rfl, h1', rfl, fin _⟩
        · exact ⟨_, rfl, rw', _, _, 3, rfl, rfl, h1', rfl, fin _⟩
      · refine ⟨_, rfl, rw', _, _, _, rfl, rfl, S2, rfl, _, _, rfl, rfl, .inl ⟨by omega, by omega⟩, .inl ⟨_, rfl, _, _, rfl, rfl, (by show (0 : Int) < 2147483647; decide), _, rfl, rw', _, _, 2, rfl, rfl, h1', rfl, ?_⟩⟩
        refine ⟨_, rfl, rw', _, _, _, rfl, rfl, SqL.of upd_same, rfl, _, _, rfl, rfl, ⟨by decide, by decide⟩, .inl ⟨_, rfl, _, rfl, _, _, rfl, rfl, p0, ?_⟩⟩
        exact k _ _ (mod0 _).1 (mod0 _).2 ⟨j + 1, _, r, upd_same, h2'.keep (fr3 _), (modm _).1, (modm _).2⟩ (fr2 _)
def spPick (K : PySem.W.Frag) : Sp := fun vs H Q _ => ∃ rw sc ns l, ∃ xs : List V, vs = [.ref rw, .ref l] ∧ RowAt K H rw sc ns ∧ H l = some (.lst xs) ∧ l ≠ rw ∧ 0 < xs.length ∧ xs.length ≤ 1000000 ∧ ∀ (i : Nat) v H', xs[i]? = some v → RowAt K H' rw sc ns → KeepR rw H H' → Q v H'
theorem ok_pick (T : Top K mg C_Book C_MailError C_InvalidOperation C_InvalidOrder C_UnknownOrder C_NotHolding C_DecodeError C_NotationError C_UnknownLetter C_InvalidAddress C_InvalidDay C_InvalidNumber C_Contradiction C_InvalidCount) : GFn P w K mg base CX0 2 "_law_pick" (spPick K) := by
  have G__law_next : GFn P w K mg base CX0 1 "_law_next" (spTaken K) := ok_next T
  refine T.d__law_pick.fn fun f fd F => F.ok sc__law_pick (fun vs H Q E h => ?_) (fun cdv A outer s H vs Q E hr h => ?_)
  · obtain ⟨rw, sc, ns, l, xs, rfl, _⟩ := h
    rfl
  · obtain ⟨rw, sc, ns, l, xs, rfl, R, hl, nl, x0, x1, k⟩ := h
    refine ⟨_, (pss_one (ps_ret (pe_ix ix_list (pv 1) (pe_g G__law_next (hr.mono (by decide)) (pa_cons (pv 0) (pa_cons (pe_callB call_len_seq (by rfl) T.b_len (by decide +kernel) (pa_cons (pv 1) pa_nil)) pa_nil))) (fun _ _ => rfl)))), ?_⟩
    refine ⟨_, rfl, _, rfl, _, rfl, l, _, rfl, .inl (SqL.of hl), rw, sc, ns, _, rfl, R, by omega, by omega, fun v H1 v0 v1 R1 k1 => ?_⟩
    obtain ⟨i, rfl⟩ := Int.eq_ofNat_of_zero_le v0
    have hi : i < xs.length := by omega
    have e : xs[i]? = some xs[i] := List.getElem?_eq_getElem hi
    exact ⟨l, xs, _, _, rfl, rfl, SqL.of (k1 _ _ hl nl), atI_nat e, k i _ H1 e R1 k1⟩
end

end MF
set_option Elab.async false
set_option linter.all false
set_option maxRecDepth 100000
set_option maxHeartbeats 2000000
set_option pp.maxSteps 600
namespace MF
open PySem PySem.Spec PyProof.Rows L2 StX
section
variable {P : Program} {w : World} {K : PySem.W.Frag} {mg : Str → Option Value} {base : Heap} {C_Book C_MailError C_InvalidOperation C_InvalidOrder C_UnknownOrder C_NotHolding C_DecodeError C_NotationError C_UnknownLetter C_InvalidAddress C_InvalidDay C_InvalidNumber C_Contradiction C_InvalidCount : Addr}
structure DrawnOs (most long : Nat) (os : List Ordr) : Prop where
  good : Good os
  len : os.length ≤ most
  names : ∀ o ∈ os, ∃ i j, i < 6 ∧ j < 6 ∧ o.src = nmS i ∧ o.tgt = nmS j
  tight : ∀ o ∈ os, o.last < (most : Int) * (14 + max 12 (long : Int))
  lasts : ∀ o ∈ os, o.last < (most : Int) * (27 + long)
  ways : ∀ o ∈ os, o.way ≤ 14
  spans : ∀ o ∈ os, o.last - o.first < max 12 (long : Int)
structure DrawnSo (B : Int) (i : Nat) (os : List Ordr) (kvs : List (Key × V)) : Prop where
  len : os.length ≤ i
  klen : kvs.length ≤ i
  ok : ∀ o ∈ os, o.Ok
  apart : os.Pairwise fun o p => overB o p = false
  names : ∀ o ∈ os, ∃ i j, i < 6 ∧ j < 6 ∧ o.src = nmS i ∧ o.tgt = nmS j
  ways : ∀ o ∈ os, o.way ≤ 14
  vals : ∀ s v, valV kvs (.inr s : Key) = some v → ∃ z : Int, v = .int z ∧ 0 ≤ z ∧ z ≤ i * B
  free : ∀ o ∈ os, ∃ z : Int, valV kvs (.inr o.src : Key) = some (.int z) ∧ o.last < z
  spans : ∀ o ∈ os, o.last - o.first < B - 14
theorem DrawnSo.nil (B : Int) : DrawnSo B 0 [] [] := ⟨Nat.le_refl _, Nat.le_refl _, (fun _ z => by cases z), .nil, (fun _ z => by cases z), (fun _ z => by cases z), (fun _ _ z => by cases z), (fun _ z => by cases z), (fun _ z => by cases z)⟩
theorem DrawnSo.skip {B : Int} {i : Nat} {os : List Ordr} {kvs : List (Key × V)} (b0 : 0 ≤ B) (D : DrawnSo B i os kvs) : DrawnSo B (i + 1) os kvs :=
  ⟨by have := D.len; omega, by have := D.klen; omega, D.ok, D.apart, D.names, D.ways, fun s v h => by
    obtain ⟨z, a, b, c⟩ := D.vals s v h
    refine ⟨z, a, b, ?_⟩
    push_cast
    rw [Int.add_mul, Int.one_mul]
    omega, D.free, D.spans⟩
theorem DrawnSo.snoc {B : Int} {i : Nat} {os : List Ordr} {kvs : List (Key × V)} (b0 : 0 ≤ B) (hB : (i : Int) * B ≤ 1000000) (hb : B ≤ 1000000) (D : DrawnSo B i os kvs) {a b : Nat} (ha : a < 6) (hb' : b < 6) (hne : nmS a ≠ nmS b) {f l w z : Int} (hz : (valV kvs (.inr (nmS a) : Key)).getD (.int 0) = .int z)
    (f0 : z ≤ f) (fl : f ≤ l) (lB : l + 1 ≤ z + B) (lf : l - f < B - 14) (w1 : 1 ≤ w) (w14 : w ≤ 14) : DrawnSo B (i + 1) (os ++ [⟨nmS a, nmS b, f, l, w⟩]) (putK kvs (.inr (nmS a)) (.int (l + 1))) := by
  have z0 : 0 ≤ z ∧ z ≤ i * B := by
    cases q : valV kvs (.inr (nmS a) : Key) with
    | none =>
      rw [q] at hz
      cases hz
      exact ⟨Int.le_refl _, Int.mul_nonneg (Int.natCast_nonneg _) b0⟩
    | some v =>
      obtain ⟨z', e1, e2, e3⟩ := D.vals _ _ q
      rw [q, e1] at hz
      cases hz
      exact ⟨e2, e3⟩
  have mem : ∀ {o}, o ∈ os ++ [(⟨nmS a, nmS b, f, l, w⟩ : Ordr)] → o ∈ os ∨ o = ⟨nmS a, nmS b, f, l, w⟩ := fun {o} h => by
    rcases List.mem_append.mp h with h | h
    · exact .inl h
    · exact .inr (List.mem_singleton.mp h)
  have eB : ((i + 1 : Nat) : Int) * B = i * B + B := by
    push_cast
    rw [Int.add_mul, Int.one_mul]
  refine ⟨?_, ?_, ?_, ?_, ?_, ?_, ?_, ?_, ?_⟩
  · rw [List.length_append]
    have := D.len
    show os.length + 1 ≤ i + 1
    omega
  · have := length_putK kvs (.inr (nmS a)) (.int (l + 1))
    have := D.klen
    omega
  · intro o h
    rcases mem h with h | rfl
    · exact D.ok o h
    · exact ⟨nmS_addr ha, nmS_addr hb', hne, by show 0 ≤ f; omega, fl, by show l ≤ _; omega, w1, by show w ≤ 30; omega⟩
  · refine List.pairwise_append.mpr ⟨D.apart, by simp, fun o ho p hp => ?_⟩
    rw [List.mem_singleton.mp hp]
    by_cases q : o.src = nmS a
    · obtain ⟨z', e1, e2⟩ := D.free o ho
      rw [q] at e1
      rw [e1] at hz
      cases hz
      have : ¬ f ≤ o.last := by omega
      show (_ && (_ && decide (f ≤ o.last))) = false
      rw [decide_eq_false this, Bool.and_false, Bool.and_false]
    · show (decide (o.src = nmS a) && _) = false
      rw [decide_eq_false q, Bool.false_and]
  · intro o h
    rcases mem h with h | rfl
    · exact D.names o h
    · exact ⟨a, b, ha, hb', rfl, rfl⟩
  · intro o h
    rcases mem h with h | rfl
    · exact D.ways o h
    · exact w14
  · intro s v h
    rw [valV_put] at h
    rw [eB]
    by_cases ea : (Sum.inr s : Key) = Sum.inr (nmS a)
    · rw [if_pos ea] at h
      cases h
      exact ⟨l + 1, rfl, by omega, by omega⟩
    · rw [if_neg ea] at h
      obtain ⟨z', e1, e2, e3⟩ := D.vals s v h
      exact ⟨z', e1, e2, by omega⟩
  · intro o h
    rw [valV_put]
    rcases mem h with h | rfl
    · by_cases ea : (Sum.inr o.src : Key) = Sum.inr (nmS a)
      · rw [if_pos ea]
        refine ⟨l + 1, rfl, ?_⟩
        obtain ⟨z', e1, e2⟩ := D.free o h
        rw [ea] at e1
        rw [e1] at hz
        cases hz
        omega
      · rw [if_neg ea]
        exact D.free o h
    · rw [if_pos rfl]
      exact ⟨l + 1, rfl, by show l < l + 1; omega⟩
  · intro o h
    rcases mem h with h | rfl
    · exact D.spans o h
    · exact lf
theorem overB_comm (o p : Ordr) : overB o p = overB p o := by
  unfold overB
  by_cases e : o.src = p.src
  · rw [decide_eq_true e, decide_eq_true e.symm, Bool.true_and, Bool.true_and, Bool.and_comm]
  · rw [decide_eq_false e, decide_eq_false (show ¬ p.src = o.src from fun z => e z.symm), Bool.false_and, Bool.false_and]
theorem DrawnSo.done {most long i t : Nat} {os : List Ordr} {kvs : List (Key × V)} (D : DrawnSo (14 + max 12 (long : Int)) i os kvs) (hi : i ≤ most) (hm : most ≤ 30) : DrawnOs most long (os.drop t ++ os.take t) := by
  have mem : ∀ {o}, o ∈ os.drop t ++ os.take t → o ∈ os := fun {o} h => by
    rcases List.mem_append.mp h with h | h
    · exact List.mem_of_mem_drop h
    · exact List.mem_of_mem_take h
  have el : (os.drop t ++ os.take t).length = os.length := by
    rw [List.length_append, List.length_drop, List.length_take]
    omega
  have hl := D.len
  have ap : (os.take t ++ os.drop t).Pairwise fun o p => overB o p = false := by
    rw [List.take_append_drop]
    exact D.apart
  obtain ⟨a1, a2, a3⟩ := List.pairwise_append.mp ap
  have tg : ∀ o ∈ os.drop t ++ os.take t, o.last < (most : Int) * (14 + max 12 (long : Int)) := fun o h => by
    obtain ⟨z, e1, e2⟩ := D.free o (mem h)
    obtain ⟨z', e3, e4, e5⟩ := D.vals _ _ e1
    cases e3
    have : (i : Int) * (14 + max 12 (long : Int)) ≤ (most : Int) * (14 + max 12 (long : Int)) := Int.mul_le_mul_of_nonneg_right (by omega) (by omega)
    omega
  refine ⟨⟨by omega, fun o h => D.ok o (mem h), ?_⟩, by omega, fun o h => D.names o (mem h), tg, fun o h => ?_, fun o h => D.ways o (mem h), fun o h => by have := D.spans o (mem h); omega⟩
  · exact List.pairwise_append.mpr ⟨a2, a1, fun o ho p hp => by rw [overB_comm]; exact a3 p hp o ho⟩
  · have h1 := tg o h
    have h2 : (most : Int) * (14 + max 12 (long : Int)) ≤ (most : Int) * (27 + long) := Int.mul_le_mul_of_nonneg_left (by omega) (by omega)
    omega
theorem cut_drop (xs : List V) (i : Nat) (h : i ≤ xs.length) : cutV xs (some (i : Int)) none = xs.drop i := by
  unfold cutV
  rw [HT.sIx_none, HT.sIx_nat, Nat.min_eq_left h, List.take_of_length_le (by rw [List.length_drop]; omega)]
theorem pairedDrop {α β : Type} {r : α → β → Prop} : ∀ {as : List α} {bs : List β} (n : Nat), PySem.Paired r as bs → PySem.Paired r (as.drop n) (bs.drop n)
  | _, _, 0, h => h
  | _, _, n + 1, .nil => .nil
  | _, _, n + 1, .cons _ h => pairedDrop n h
theorem pairedTake {α β : Type} {r : α → β → Prop} : ∀ {as : List α} {bs : List β} (n : Nat), PySem.Paired r as bs → PySem.Paired r (as.take n) (bs.take n)
  | _, _, 0, h => .nil
  | _, _, n + 1, .nil => .nil
  | _, _, n + 1, .cons h1 h => .cons h1 (pairedTake n h)
structure OSt (K : PySem.W.Frag) (H0 H : Hp) (rw sc : Addr) (ns : List Int) (lf df : Addr) (as : List Addr) (os : List Ordr) (kvs : List (Key × V)) (B : Int) (i : Nat) : Prop where
  kr : KeepR rw H0 H
  row : RowAt K H rw sc ns
  hl : H lf = some (.lst (as.map V.ref))
  hd : H df = some (.dK kvs)
  ords : OrdsAt K H as os
  D : DrawnSo B i os kvs
  nl : H0 lf = none
  nd : H0 df = none
  lr : lf ≠ rw
  dr : df ≠ rw
section
variable {H0 H H' : Hp} {rw sc lf df : Addr} {ns : List Int} {as : List Addr} {os : List Ordr} {kvs : List (Key × V)} {B : Int} {i : Nat}
theorem OSt.taken (S : OSt K H0 H rw sc ns lf df as os kvs B i) (R : RowAt K H' rw sc ns) (k : KeepR rw H H') : OSt K H0 H' rw sc ns lf df as os kvs B i :=
  ⟨S.kr.trans k, R, k _ _ S.hl S.lr, k _ _ S.hd S.dr, S.ords.keepR (k.tup S.row), S.D, S.nl, S.nd, S.lr, S.dr⟩
theorem OSt.same (S : OSt K H0 H rw sc ns lf df as os kvs B i) (s : Same H H') : OSt K H0 H' rw sc ns lf df as os kvs B i := S.taken (S.row.keep s) (KeepR.of s)
end
theorem pick3 {a b c v : Int} (h0 : 0 ≤ v) (h3 : v < 3) : ∃ z, atI [V.int a, .int b, .int c] v = some (.int z) ∧ (z = a ∨ z = b ∨ z = c) := by
  have : v = 0 ∨ v = 1 ∨ v = 2 := by omega
  rcases this with rfl | rfl | rfl
  · exact ⟨a, rfl, .inl rfl⟩
  · exact ⟨b, rfl, .inr (.inl rfl)⟩
  · exact ⟨c, rfl, .inr (.inr rfl)⟩
def spOrders (K : PySem.W.Frag) : Sp := fun vs H Q _ => ∃ rw sc ns, ∃ most long : Nat, vs = [.ref rw, .int (most : Nat), .int (long : Nat)] ∧ RowAt K H rw sc ns ∧ most ≤ 20 ∧ 1 ≤ long ∧ long ≤ 200 ∧
  ∀ H' l as os, KeepR rw H H' → H l = none → RowAt K H' rw sc ns → H' l = some (.lst (as.map V.ref)) → OrdsAt K H' as os → DrawnOs most long os → Q (.ref l) H'
end

end MF
set_option Elab.async false
set_option linter.all false
set_option maxRecDepth 100000
set_option maxHeartbeats 2000000
set_option pp.maxSteps 600
namespace MF
open PySem PySem.Spec PyProof.Rows L2 StX
section
variable {P : Program} {w : World} {K : PySem.W.Frag} {mg : Str → Option Value} {base : Heap} {C_Book C_MailError C_InvalidOperation C_InvalidOrder C_UnknownOrder C_NotHolding C_DecodeError C_NotationError C_UnknownLetter C_InvalidAddress C_InvalidDay C_InvalidNumber C_Contradiction C_InvalidCount : Addr}
theorem abc_len : Str.length "abcdef" ≤ sizeLine := by decide +kernel
theorem abc_ix {i : Int} (h0 : 0 ≤ i) (h1 : i < 6) : atI (Str.cps "abcdef").toList i = some (97 + i.toNat) := by
  have : i = 0 ∨ i = 1 ∨ i = 2 ∨ i = 3 ∨ i = 4 ∨ i = 5 := by omega
  rcases this with rfl | rfl | rfl | rfl | rfl | rfl <;> decide +kernel
theorem KeepR.free {rw sc t : Addr} {ns : List Int} {H H' : Hp} (k : KeepR rw H H') (r : RowAt K H' rw sc ns) (h : H' t = none) : H t = none := by
  cases q : H t with
  | none => rfl
  | some u =>
    by_cases z : t = rw
    · obtain ⟨xs, e⟩ := r.ex
      rw [z, e] at h
      cases h
    · rw [k t u q z] at h
      cases h
end

end MF
set_option Elab.async false
set_option linter.all false
set_option maxRecDepth 100000
set_option maxHeartbeats 2000000
set_option pp.maxSteps 600
namespace MF
open PySem PySem.Spec PyProof.Rows L2 StX
section
variable {P : Program} {w : World} {K : PySem.W.Frag} {mg : Str → Option Value} {base : Heap} {C_Book C_MailError C_InvalidOperation C_InvalidOrder C_UnknownOrder C_NotHolding C_DecodeError C_NotationError C_UnknownLetter C_InvalidAddress C_InvalidDay C_InvalidNumber C_Contradiction C_InvalidCount : Addr}
structure PS (K : PySem.W.Frag) (H0 H : Hp) (rw sc : Addr) (ns : List Int) (l : Addr) (as : List Addr) (os : List Ordr) : Prop where
  s0 : Same H0 H
  row : RowAt K H rw sc ns
  el : H l = some (.lst (as.map V.ref))
  ords : OrdsAt K H as os
  nl : l ≠ rw
theorem PS.same {H0 H H' : Hp} {rw sc : Addr} {ns : List Int} {l : Addr} {as : List Addr} {os : List Ordr} (S : PS K H0 H rw sc ns l as os) (s : Same H H') : PS K H0 H' rw sc ns l as os := ⟨S.s0.trans s, S.row.keep s, s _ _ S.el, S.ords.mono s, S.nl⟩
theorem PS.keepR {H0 H H' : Hp} {rw sc : Addr} {ns : List Int} {l : Addr} {as : List Addr} {os : List Ordr} (S : PS K H0 H rw sc ns l as os) (h0 : H0 rw = none) (r : RowAt K H' rw sc ns) (k : KeepR rw H H') : PS K H0 H' rw sc ns l as os :=
  ⟨fun b u e => k b u (S.s0 b u e) (ne_of_none e h0), r, k _ _ S.el S.nl, S.ords.keepR (k.tup S.row), S.nl⟩
theorem BookAt.keepR {C rw sc : Addr} {ns : List Int} {H H' : Hp} {bk : Addr} {os : List Ordr} (B : BookAt K C H bk os) (nb : bk ≠ rw) (R : RowAt K H rw sc ns) (k : KeepR rw H H') : BookAt K C H' bk os := B.kept (fun u e => k _ _ e nb) (k.tup R)
theorem RowAt.fresh {H : Hp} {rw sc p : Addr} {ns : List Int} (R : RowAt K H rw sc ns) (h : H p = none) : p ≠ rw := by
  obtain ⟨xs, q⟩ := R.ex
  exact (ne_of_none q h).symm
def farO (f l w : Int) : Ordr := ⟨"a", "g", f, l, w⟩
theorem far_good {most long : Nat} {os : List Ordr} {f l w : Int} (D : DrawnOs most long os) (hm : most ≤ 29) (hf : (most : Int) * (14 + max 12 (long : Int)) ≤ f) (h0 : 0 ≤ f) (hl : f ≤ l) (hl' : l ≤ 1000000000000000000) (hw : 1 ≤ w) (hw' : w ≤ 30) : Good (os ++ [farO f l w]) := by
  refine ⟨?_, fun o ho => ?_, ?_⟩
  · have := D.len
    rw [List.length_append]
    simp only [List.length_cons, List.length_nil]
    omega
  · rcases List.mem_append.mp ho with z | z
    · exact D.good.ok o z
    · rw [List.mem_singleton.mp z]
      exact ⟨by show isAddrB (.str "a") = true; decide, by show isAddrB (.str "g") = true; decide, by show ("a" : Str) ≠ "g"; decide, h0, hl, hl', hw, hw'⟩
  · refine List.pairwise_append.mpr ⟨D.good.apart, by simp, fun o ho p hp => ?_⟩
    rw [List.mem_singleton.mp hp]
    unfold overB
    have := D.tight o ho
    have : ¬ (farO f l w).first ≤ o.last := by
      show ¬ f ≤ o.last
      omega
    rw [decide_eq_false this, Bool.and_false, Bool.and_false]
end

end MF
set_option Elab.async false
set_option linter.all false
set_option maxRecDepth 100000
set_option maxHeartbeats 2000000
set_option pp.maxSteps 600
namespace MF
open PySem PySem.Spec PyProof.Rows L2 StX
section
variable {P : Program} {w : World} {K : PySem.W.Frag} {mg : Str → Option Value} {base : Heap} {C_Book C_MailError C_InvalidOperation C_InvalidOrder C_UnknownOrder C_NotHolding C_DecodeError C_NotationError C_UnknownLetter C_InvalidAddress C_InvalidDay C_InvalidNumber C_Contradiction C_InvalidCount : Addr}
theorem tabs_keepR {T : List (Addr × Str)} {H H' : Hp} {rw sc : Addr} {ns : List Int} (R : RowAt K H rw sc ns) (t : LamX.Tabs T H) (k : KeepR rw H H') : LamX.Tabs T H' := fun p hp => by
  obtain ⟨xs, hr⟩ := R.ex
  obtain ⟨ps, h1, h2, h3⟩ := t p hp
  have ne : ∀ {b : Addr} {o : HO}, H b = some o → (∀ l, o ≠ .lst l) → H' b = some o := fun {b o} e n => k _ _ e fun z => by
    rw [z, hr] at e
    cases e
    exact n _ rfl
  refine ⟨ps, ne h1 (fun l z => by cases z), h2, fun pos cv hc => ?_⟩
  obtain ⟨c, e1, e2⟩ := h3 pos cv hc
  exact ⟨c, e1, ne e2 (fun l z => by cases z)⟩
theorem row_nil {H : Hp} {rw sc r : Addr} {ns : List Int} (R : RowAt K H rw sc ns) (z : H r = none) : r ≠ rw := fun e => by
  obtain ⟨xs, q⟩ := R.ex
  rw [← e, z] at q
  cases q
theorem row_extN {H H' : Hp} {rw sc : Addr} {ns : List Int} (R : RowAt K H rw sc ns) (e : LamX.ExtN H H') : RowAt K H' rw sc ns := by
  obtain ⟨j, m, r, h1, h2, h3⟩ := R
  refine ⟨j, m, r, e _ _ h1 (fun ps z => by cases z), ?_, h3⟩
  rcases h2 with ⟨h | ⟨o, h⟩, n⟩ | h
  · exact .inl ⟨.inl (e _ _ h (fun ps z => by cases z)), n⟩
  · exact .inl ⟨.inr ⟨o, e _ _ h (fun ps z => by cases z)⟩, n⟩
  · exact .inr h
theorem book_extN {C : Addr} {H H' : Hp} {p : Addr} {os : List Ordr} (h : BookAt K C H p os) (e : LamX.ExtN H H') : BookAt K C H' p os := by
  have h0 := h
  obtain ⟨dx, t, as, h1, _, _⟩ := h0
  refine h.kept (fun u hu => e _ _ hu (fun ps z => ?_)) (fun b u hu y => e _ _ hu (fun ps z => by rw [z] at y; cases y))
  rw [h1, Option.some.injEq] at hu
  rw [← hu] at z
  cases z
theorem tabs_but {T : List (Addr × Str)} {H H' : Hp} {lw : Addr} {xs : List V} (hr : H lw = some (.lst xs)) (t : LamX.Tabs T H) (k : ∀ b u, H b = some u → b ≠ lw → H' b = some u) : LamX.Tabs T H' := fun p hp => by
  obtain ⟨ps, h1, h2, h3⟩ := t p hp
  have ne : ∀ {b : Addr} {o : HO}, H b = some o → (∀ l, o ≠ .lst l) → H' b = some o := fun {b o} e n => k _ _ e fun z => by
    rw [z, hr] at e
    cases e
    exact n _ rfl
  refine ⟨ps, ne h1 (fun l z => by cases z), h2, fun pos cv hc => ?_⟩
  obtain ⟨c, e1, e2⟩ := h3 pos cv hc
  exact ⟨c, e1, ne e2 (fun l z => by cases z)⟩
theorem updS {H H2 : Hp} {q : Addr} {o : HO} (e : L2.upd H q o = H2) : (∀ b u, H b = some u → b ≠ q → H2 b = some u) ∧ H2 q = some o := by
  subst e
  exact ⟨fun b u h n => by rw [upd_ne n]; exact h, upd_same⟩
theorem upT {H H2 : Hp} {q : Addr} {xs : List V} (hq : H q = some (.lst xs)) (up : ∀ b u, H b = some u → b ≠ q → H2 b = some u) : ∀ b u, H b = some u → tupl u = true → H2 b = some u := fun b u e y => up _ _ e fun z => by
  rw [z, hq] at e
  cases e
  cases y
theorem keepR_ord {H H' : Hp} {rw sc : Addr} {ns : List Int} (R : RowAt K H rw sc ns) (k : ∀ b u, H b = some u → b ≠ rw → H' b = some u) {q : Addr} {o : Ordr} (h : OrdAt K H q o) : OrdAt K H' q o := by
  have : OrdsAt K H [q] [o] := .cons h .nil
  cases this.keepR (KeepR.tup k R) with
  | cons a _ => exact a
theorem ord_but {H H' : Hp} {q : Addr} {o : Ordr} (h : OrdAt K H q o) (k : ∀ b u, H b = some u → tupl u = true → H' b = some u) : OrdAt K H' q o := by
  have : OrdsAt K H [q] [o] := .cons h .nil
  cases this.keepR k with
  | cons a _ => exact a
theorem sq_extN {H H' : Hp} {l : Addr} {xs : List V} (h : SqL K H l xs) (e : LamX.ExtN H H') : SqL K H' l xs := by
  rcases h with (h | ⟨o, h⟩) | h
  · exact .inl (.inl (e _ _ h fun ps z => by cases z))
  · exact .inl (.inr ⟨o, e _ _ h fun ps z => by cases z⟩)
  · exact .inr h
theorem ords_extN {H H' : Hp} {as : List Addr} {os : List Ordr} (h : OrdsAt K H as os) (e : LamX.ExtN H H') : OrdsAt K H' as os := h.keepR fun b u hu y => e _ _ hu fun ps z => by rw [z] at y; cases y
def lawQ : Str := "law.<locals>.<lambda>"
end

end MF
set_option Elab.async false
set_option linter.all false
set_option maxRecDepth 100000
set_option maxHeartbeats 2000000
set_option pp.maxSteps 600
namespace MF
open PySem PySem.Spec PyProof.Rows L2 StX
section
variable {P : Program} {w : World} {K : PySem.W.Frag} {mg : Str → Option Value} {base : Heap} {C_Book C_MailError C_InvalidOperation C_InvalidOrder C_UnknownOrder C_NotHolding C_DecodeError C_NotationError C_UnknownLetter C_InvalidAddress C_InvalidDay C_InvalidNumber C_Contradiction C_InvalidCount : Addr}
def D4 : List Str := ["a", "b", "c", "dd"]
theorem D4_addr : ∀ z ∈ D4, isAddrB (.str z) = true := by decide +kernel
structure OD (most : Int) (o : Ordr) : Prop where
  src : o.src ∈ D4
  tgt : o.tgt ∈ D4
  ne : o.src ≠ o.tgt
  f0 : 0 ≤ o.first
  fm : o.first < most
  fl : o.first ≤ o.last
  lm : o.last < o.first + most
  w1 : 1 ≤ o.way
  w5 : o.way ≤ 5
theorem OD.ok {most : Int} {o : Ordr} (h : OD most o) (hm : most ≤ 1000) : o.Ok := ⟨D4_addr _ h.src, D4_addr _ h.tgt, h.ne, h.f0, h.fl, by have := h.lm; have := h.fm; omega, h.w1, by have := h.w5; omega⟩
def spOrderD (K : PySem.W.Frag) : Sp := fun vs H Q _ => ∃ rw sc ns most, vs = [.ref rw, .int most] ∧ RowAt K H rw sc ns ∧ 1 ≤ most ∧ most ≤ 1000 ∧ ∀ H' q o, KeepR rw H H' → H q = none → RowAt K H' rw sc ns → OrdAt K H' q o → OD most o → Q (.ref q) H'
theorem ok_orderD (T : Top K mg C_Book C_MailError C_InvalidOperation C_InvalidOrder C_UnknownOrder C_NotHolding C_DecodeError C_NotationError C_UnknownLetter C_InvalidAddress C_InvalidDay C_InvalidNumber C_Contradiction C_InvalidCount) : GFn P w K mg base CX0 3 "_law_order" (spOrderD K) := by
  have G__law_next : GFn P w K mg base CX0 1 "_law_next" (spTaken K) := ok_next T
  have G__law_pick : GFn P w K mg base CX0 2 "_law_pick" (spPick K) := ok_pick T
  refine T.d__law_order.fn fun f fd F => F.ok sc__law_order (fun vs H Q E h => ?_) (fun cdv A outer s H vs Q E hr h => ?_)
  · obtain ⟨rw, sc, ns, most, rfl, _⟩ := h
    rfl
  · obtain ⟨rw, sc, ns, most, rfl, R, m1, m2, k⟩ := h
    refine ⟨_, (pss_cons (ps_set (i := 2) sc__law_order.nd rfl (Or.inl rfl) (pe_lst (pa_cons pe_str (pa_cons pe_str (pa_cons pe_str (pa_cons pe_str pa_nil))))))
  (pss_cons (ps_set (i := 3) sc__law_order.nd rfl (Or.inl rfl) (pe_bm PySem.F.plainAttrs_list PySem.F.slot_list_pop PySem.F.type_list_pop mt_popAt (pv 2) (pa_cons (pe_g G__law_next (hr.mono (by decide)) (pa_cons (pv 0) (pa_cons pe_int pa_nil))) pa_nil)))
  (pss_cons (ps_set (i := 4) sc__law_order.nd rfl (Or.inl rfl) (pe_g G__law_next (hr.mono (by decide)) (pa_cons (pv 0) (pa_cons (pv 1) pa_nil))))
  (pss_one (ps_ret (pe_tup (pa_cons (pv 3) (pa_cons (pe_g G__law_pick (hr.mono (by decide)) (pa_cons (pv 0) (pa_cons (pv 2) pa_nil))) (pa_cons (pv 4) (pa_cons (pe_op op_add (pv 4) (pe_g G__law_next (hr.mono (by decide)) (pa_cons (pv 0) (pa_cons (pv 1) pa_nil)))) (pa_cons (pe_op op_add pe_int (pe_g G__law_next (hr.mono (by decide)) (pa_cons (pv 0) (pa_cons (pe_ix ix_list (pe_lst (pa_cons pe_int (pa_cons pe_int pa_nil))) (pe_g G__law_next (hr.mono (by decide)) (pa_cons (pv 0) (pa_cons pe_int pa_nil))) (fun _ _ => rfl)) pa_nil)))) pa_nil))))))))))), ?_⟩
    refine ⟨(by show 4 ≤ sizeLine; decide), ?_⟩
    intro ln hln
    generalize gH1 : L2.upd _ ln _ = H1
    obtain ⟨s1, e1⟩ := newS hln gH1
    clear gH1
    have R1 := R.keep s1
    have nl : ln ≠ rw := fun e => by obtain ⟨xs, q⟩ := R.ex; rw [← e, hln] at q; cases q
    refine ⟨_, rfl, .inl ⟨rfl, _, SqL.of e1⟩, _, rfl, rw, sc, ns, 4, rfl, R1, by decide, by decide, fun v H2 v0 v1 R2 k2 => ?_⟩
    have e2 : H2 ln = some (.lst (D4.map V.str)) := k2 _ _ e1 nl
    obtain ⟨i, rfl⟩ := Int.eq_ofNat_of_zero_le v0
    have i4 : i < 4 := by omega
    have sI : ∀ i : Nat, i < 4 → seqIndex? ((i : Nat) : Int) (D4.map V.str).length = some i := by decide
    have si : ∃ z, D4[i]? = some z := ⟨D4[i], List.getElem?_eq_getElem i4⟩
    obtain ⟨z, ez⟩ := si
    refine ⟨ln, _, _, i, .str z, rfl, rfl, e2, by omega, by omega, sI i i4, by rw [List.getElem?_map, ez]; rfl, ?_⟩
    have er : (D4.map V.str).eraseIdx i = (D4.eraseIdx i).map V.str := by rcases i with _ | _ | _ | _ | i <;> first | rfl | omega
    rw [er]
    generalize gH3 : L2.upd H2 ln _ = H3
    obtain ⟨up3, e3⟩ := updS gH3
    clear gH3
    have kr3 : KeepR rw H H3 := fun b u e n => up3 _ _ (k2 _ _ (s1 _ _ e) n) (ne_of_none e hln)
    have R3 : RowAt K H3 rw sc ns := R.via kr3 R2 fun u e => up3 _ _ e nl.symm
    refine ⟨_, rfl, _, rfl, rw, sc, ns, most, rfl, R3, by omega, by omega, fun f H4 f0 f1 R4 k4 => ?_⟩
    have e4 := k4 _ _ e3 nl
    have lD : (D4.eraseIdx i).length = 3 := by rw [List.length_eraseIdx_of_lt i4]; rfl
    refine ⟨_, rfl, _, rfl, _, rfl, rw, sc, ns, ln, _, rfl, R4, e4, nl, by rw [List.length_map]; omega, by rw [List.length_map]; omega, fun j v H5 ej R5 k5 => ?_⟩
    rw [List.getElem?_map] at ej
    obtain ⟨y, ey, rfl⟩ := Option.map_eq_some_iff.mp ej
    have nd : ∀ i : Nat, i < 4 → ∀ z, D4[i]? = some z → z ∉ D4.eraseIdx i := by decide
    have yz : z ≠ y := fun w => nd i i4 z ez (by rw [w]; exact List.mem_of_getElem? ey)
    refine ⟨_, rfl, _, rfl, _, rfl, _, rfl, rw, sc, ns, most, rfl, R5, by omega, by omega, fun g H6 g0 g1 R6 k6 => ?_⟩
    refine ⟨_, _, rfl, rfl, _, rfl, (by show 2 ≤ sizeLine; decide), ?_⟩
    intro q2 hq2
    generalize gH7 : L2.upd _ q2 _ = H7
    obtain ⟨s7, e7⟩ := newS hq2 gH7
    clear gH7
    have R7 := R6.keep s7
    have nq : q2 ≠ rw := fun e => by obtain ⟨xs, q⟩ := R6.ex; rw [← e, hq2] at q; cases q
    refine ⟨_, rfl, rw, sc, ns, 2, rfl, R7, by decide, by decide, fun v H8 v0 v1 R8 k8 => ?_⟩
    have e8 := k8 _ _ e7 nq
    have kr8 : KeepR rw H H8 := fun b u e n => k8 _ _ (s7 _ _ (k6 _ _ (k5 _ _ (k4 _ _ (kr3 _ _ e n) n) n) n)) n
    have fin : ∀ (u : Int) (H9 : Hp), 0 ≤ u → u < 5 → RowAt K H9 rw sc ns → KeepR rw H8 H9 → ∀ q, H9 q = none → Q (.ref q) (upd H9 q (.tup [.str z, .str y, .int f, .int (f + g), .int (1 + u)])) := fun u H9 u0 u1 R9 k9 q hq => by
      have hq0 : H q = none := by
        cases w : H q with
        | none => rfl
        | some o =>
          by_cases c : q = rw
          · obtain ⟨xs, z⟩ := R9.ex
            rw [← c, hq] at z
            cases z
          · have := k9 _ _ (kr8 _ _ w c) c
            rw [hq] at this
            cases this
      exact k _ q ⟨z, y, f, f + g, 1 + u⟩ (fun b o e n => by rw [upd_ne (ne_of_none (k9 _ _ (kr8 _ _ e n) n) hq)]; exact k9 _ _ (kr8 _ _ e n) n) hq0 (R9.keep (Same.new hq)) (.inl (.inl upd_same)) ⟨List.mem_of_getElem? ez, List.mem_of_mem_eraseIdx (List.mem_of_getElem? ey), yz, f0, f1, by show f ≤ f + g; omega, by show f + g < f + most; omega, by show 1 ≤ 1 + u; omega, by show 1 + u ≤ 5; omega⟩
    have v01 : v = 0 ∨ v = 1 := by omega
    rcases v01 with rfl | rfl
    · refine ⟨q2, _, _, _, rfl, rfl, SqL.of e8, rfl, rw, sc, ns, 2, rfl, R8, by decide, by decide, fun u H9 u0 u1 R9 k9 => ?_⟩
      exact ⟨_, _, rfl, rfl, (by show 5 ≤ sizeLine; decide), fin u H9 u0 (by omega) R9 k9⟩
    · refine ⟨q2, _, _, _, rfl, rfl, SqL.of e8, rfl, rw, sc, ns, 5, rfl, R8, by decide, by decide, fun u H9 u0 u1 R9 k9 => ?_⟩
      exact ⟨_, _, rfl, rfl, (by show 5 ≤ sizeLine; decide), fin u H9 u0 u1 R9 k9⟩
def fitsB (os : List Ordr) (o : Ordr) : Bool := !os.any fun p => overB p o
def spFits (K : PySem.W.Frag) : Sp := fun vs H Q _ => ∃ l as os q o, vs = [.ref l, .ref q] ∧ SqL K H l (as.map V.ref) ∧ OrdsAt K H as os ∧ os.length ≤ 1000 ∧ OrdAt K H q o ∧ ∀ H', Same H H' → Q (.bl (fitsB os o)) H'
theorem ok_fits (T : Top K mg C_Book C_MailError C_InvalidOperation C_InvalidOrder C_UnknownOrder C_NotHolding C_DecodeError C_NotationError C_UnknownLetter C_InvalidAddress C_InvalidDay C_InvalidNumber C_Contradiction C_InvalidCount) : GFn P w K mg base CX0 1 "_law_fits" (spFits K) := by
  refine T.d__law_fits.fn fun f fd F => F.ok sc__law_fits (fun vs H Q E h => ?_) (fun cdv A outer s H vs Q E hr h => ?_)
  · obtain ⟨l, as, os, q, o, rfl, _⟩ := h
    rfl
  · obtain ⟨l, as, os, q, o, rfl, hl, ol, l1, oq, k⟩ := h
    have l1' := PySem.Paired.length ol
    refine ⟨_, (pss_one (ps_ret (pe_cmpR (op_eqD hr.units) (pe_lc (own := [("_law_one", 2)]) (g := (gName 2)) (by rfl) sc__law_fits.nd (pi_list (pv 0)) (blkOk_by (own := [("_law_one", 2)]) (N := ["_law_orders_here", "_law_order_here", "_law_one"]) (sc := defScope s__law_fits) (by decide +kernel)) (fun _ _ _ _ _ => (pg_name (i := 2) sc__law_fits.nd rfl (Or.inl rfl))) (fun _ _ _ _ _ => (pts_one (PW.pt (pw_and (pt_cmpR op_eq (pe_ix (ix_tupK (K := K)) (pv 2) pe_int (fun _ _ => rfl)) (pe_ix (ix_tupK (K := K)) (pv 1) pe_int (fun _ _ => rfl)) (nomark _)) (pw_and (pt_cmpR op_le (pe_ix (ix_tupK (K := K)) (pv 2) pe_int (fun _ _ => rfl)) (pe_ix (ix_tupK (K := K)) (pv 1) pe_int (fun _ _ => rfl)) (nomark _)) (pw_and1 (pt_cmpR op_le (pe_ix (ix_tupK (K := K)) (pv 1) pe_int (fun _ _ => rfl)) (pe_ix (ix_tupK (K := K)) (pv 2) pe_int (fun _ _ => rfl)) (nomark _)))))))) (fun _ _ _ _ _ => pe_int)) (pe_lst pa_nil) (nomark _)))), ?_⟩
    refine ⟨_, rfl, l, rfl, ⟨_, hl⟩, fun D hD => ?_⟩
    refine lc_it (walk_list (xs := as.map V.ref)) (fun i H' => Same H H' ∧ ∃ m : Nat, m ≤ i ∧ H' D = some (.lst (List.replicate m (V.int 1))) ∧ (m = 0 ↔ (os.take i).any (fun p => overB p o) = false)) ⟨Same.new hD, 0, Nat.le_refl _, upd_same, by simp⟩ (fun i H' _ p => p.1.seq hl) ?_ ?_
    · rintro i y Hx H3 hi ⟨s3, m, hm, e3, hz⟩ ⟨rfl, ey⟩
      rw [List.length_map] at hi
      obtain ⟨a, ea⟩ : ∃ a, as[i]? = some a := ⟨as[i], by simp [hi]⟩
      rw [List.getElem?_map, ea] at ey
      cases ey
      obtain ⟨p, ep, oa⟩ := Paired.get (ol.mono s3) ea
      have oq3 := oq.mono s3
      have ek : (os.take (i + 1)).any (fun p => overB p o) = ((os.take i).any (fun p => overB p o) || overB p o) := by
        rw [List.take_add_one, ep, List.any_append]
        simp
      rw [ek]
      refine ⟨rfl, _, rfl, a, _, _, _, rfl, rfl, oa, rfl, _, rfl, q, _, _, _, rfl, rfl, oq3, rfl, rfl, _, rfl, ?_⟩
      have no : overB p o = false → Same H H3 ∧ ∃ m, m ≤ i + 1 ∧ H3 D = some (HO.lst (List.replicate m (V.int 1))) ∧ (m = 0 ↔ ((List.take i os).any (fun p => overB p o) || overB p o) = false) := fun z => ⟨s3, m, by omega, e3, by rw [hz, z, Bool.or_false]⟩
      by_cases c1 : p.src = o.src
      · refine iteD (by rw [c1]) ?_
        refine ⟨_, rfl, a, _, _, _, rfl, rfl, oa, rfl, _, rfl, q, _, _, _, rfl, rfl, oq3, rfl, _, _, rfl, rfl, _, rfl, ?_⟩
        by_cases c2 : p.first ≤ o.last
        · refine iteD c2 ?_
          refine ⟨_, rfl, q, _, _, _, rfl, rfl, oq3, rfl, _, rfl, a, _, _, _, rfl, rfl, oa, rfl, _, _, rfl, rfl, _, rfl, ?_⟩
          by_cases c3 : o.first ≤ p.last
          · refine iteD c3 ?_
            refine ⟨_, e3, by rw [List.length_replicate, sizeLine_eq]; omega, fun b u e => ?_, m + 1, by omega, by rw [upd_same, List.replicate_succ'], ?_⟩
            · rw [upd_ne (ne_of_none e hD)]
              exact s3 _ _ e
            · have : overB p o = true := by
                unfold overB
                rw [decide_eq_true c1, decide_eq_true c2, decide_eq_true c3]
                rfl
              rw [this, Bool.or_true]
              simp
          · refine iteDN c3 (no ?_)
            unfold overB
            rw [decide_eq_false c3, Bool.and_false, Bool.and_false]
        · refine iteDN c2 (no ?_)
          unfold overB
          rw [decide_eq_false c2, Bool.false_and, Bool.and_false]
      · refine iteDN (fun z => c1 (V.str.inj z)) (no ?_)
        unfold overB
        rw [decide_eq_false c1, Bool.false_and]
    · rintro H3 ⟨s3, m, hm, e3, hz⟩
      have et : os.take (as.map V.ref).length = os := by rw [List.length_map, l1', List.take_length]
      rw [et] at hz
      rw [List.length_map] at hm
      refine ⟨Nat.zero_le _, ?_⟩
      intro z hz4
      generalize gH4 : L2.upd _ z _ = H4
      obtain ⟨s4, e4⟩ := newS hz4 gH4
      clear gH4
      have dk : DK 2 (.list ((List.replicate m ()).map fun _ => PyData.int 1)) := .list (DK.map fun _ _ => .int 1 _) (by rw [List.length_map, List.length_replicate]; omega)
      have er : List.replicate m (V.int 1) = (List.replicate m ()).map fun _ => V.int 1 := by rw [List.map_replicate]
      rw [er] at e3
      refine ⟨.list ((List.replicate m ()).map fun _ => PyData.int 1), .list [], .lst (SqL.of (s4 _ _ e3)) (dkMap (fun _ => .int _) _), .lst (SqL.of e4) .nil, dk.shaped (by decide), by decide +kernel, ?_⟩
      have : PyData.eqv (.list ((List.replicate m ()).map fun _ => PyData.int 1)) (.list []) = fitsB os o := by
        unfold fitsB
        cases m with
        | zero => rw [hz.mp rfl]; simp [PyData.eqv, PyData.eqvAll]
        | succ m =>
          have : os.any (fun p => overB p o) = true := by
            cases q : os.any (fun p => overB p o) with
            | true => rfl
            | false => exact absurd (hz.mpr q) (by omega)
          rw [this]
          simp [PyData.eqv, PyData.eqvAll, List.replicate_succ]
      rw [this]
      exact k _ (s3.trans s4)
end

end MF
set_option Elab.async false
set_option linter.all false
set_option maxRecDepth 100000
set_option maxHeartbeats 2000000
set_option pp.maxSteps 600
namespace MF
open PySem PySem.Spec PyProof.Rows L2 StX
section
variable {P : Program} {w : World} {K : PySem.W.Frag} {mg : Str → Option Value} {base : Heap} {C_Book C_MailError C_InvalidOperation C_InvalidOrder C_UnknownOrder C_NotHolding C_DecodeError C_NotationError C_UnknownLetter C_InvalidAddress C_InvalidDay C_InvalidNumber C_Contradiction C_InvalidCount : Addr}
def outC (lo hi : Nat) (l : List Nat) : List Nat := l.filter fun c => !(decide (lo ≤ c) && decide (c ≤ hi))
theorem outC_nil {lo hi : Nat} {l : List Nat} : outC lo hi l = [] ↔ ∀ c ∈ l, lo ≤ c ∧ c ≤ hi := by
  unfold outC
  rw [List.filter_eq_nil_iff]
  simp
theorem sgn_le (c d : Nat) : (!decide ((⟨#[d]⟩ : Str).cps.toList < (⟨#[c]⟩ : Str).cps.toList)) = decide (c ≤ d) := by
  show (!decide ([d] < [c])) = _
  rw [Bool.eq_iff_iff]
  simp [List.cons_lt_cons_iff]
theorem lets_mem {c : Nat} : c ∈ letters.cps.toList ↔ 97 ≤ c ∧ c ≤ 122 := by
  have : letters.cps.toList = [97, 98, 99, 100, 101, 102, 103, 104, 105, 106, 107, 108, 109, 110, 111, 112, 113, 114, 115, 116, 117, 118, 119, 120, 121, 122] := by decide +kernel
  rw [this]
  simp
  omega
def sgnS (l : List Nat) : List Str := l.map fun c => (⟨#[c]⟩ : Str)
theorem sgn_shaped {l : List Nat} (h : ∀ c ∈ l, c < 128) (hl : l.length ≤ 1000) : SeqAt.shaped (.list ((sgnS l).map PyData.str)) = true := by
  have : DK 2 (.list ((sgnS l).map PyData.str)) := .list (DK.map fun z hz => .strk 1 (by
    obtain ⟨c, hc, rfl⟩ := List.mem_map.mp hz
    have := h c hc
    unfold PyData.strOk
    simp
    omega)) (by rw [List.length_map]; unfold sgnS; rw [List.length_map]; omega)
  exact this.shaped (by decide)
theorem sgn_eqv (l : List Nat) : PyData.eqv (.list ((sgnS l).map PyData.str)) (.list []) = decide (l = []) := by
  cases l <;> simp [sgnS, PyData.eqv, PyData.eqvAll]
def spGoodL : Sp := fun vs H Q _ => ∃ (j : Nat) (z : Str), vs = [.int (j : Nat), .str z] ∧ z.length ≤ 1000 ∧ (∀ c ∈ z.cps.toList, c < 128) ∧ ∀ H', Same H H' → Q (.bl (goodW j z)) H'
theorem ok_goodL (T : Top K mg C_Book C_MailError C_InvalidOperation C_InvalidOrder C_UnknownOrder C_NotHolding C_DecodeError C_NotationError C_UnknownLetter C_InvalidAddress C_InvalidDay C_InvalidNumber C_Contradiction C_InvalidCount) : GFn P w K mg base CX0 1 "_law_is_good" spGoodL := by
  refine T.d__law_is_good.fn fun f fd F => F.ok sc__law_is_good (fun vs H Q E h => ?_) (fun cdv A outer s H vs Q E hr h => ?_)
  · obtain ⟨j, z, rfl, _⟩ := h
    rfl
  · obtain ⟨j, z, rfl, hz, asc, k⟩ := h
    refine ⟨_, (pss_cons (ps_if (pt_cmpR op_eq (pv 0) pe_int (nomark _))
  (pss_one (ps_ret (pe_cmpR op_eq (pv 1) pe_str (nomark _))))
  pss_nil)
  (pss_cons (ps_if (pt_cmpR op_lt (pv 0) pe_int (nomark _))
  (pss_one (ps_ret (pe_and (pe_chain op_le op_le pe_int (pe_callB call_len_str (by rfl) T.b_len (by decide +kernel) (pa_cons (pv 1) pa_nil)) pe_int) (pe_one (pe_cmpR (op_eqD hr.units) (pe_lc (own := [("_law_c", 2)]) (g := (gName 2)) (by rfl) sc__law_is_good.nd (pi_str (pv 1)) (blkOk_by (own := [("_law_c", 2)]) (N := ["_law_place", "_law_word", "_law_c"]) (sc := defScope s__law_is_good) (by decide +kernel)) (fun _ _ _ _ _ => (pg_name (i := 2) sc__law_is_good.nd rfl (Or.inl rfl))) (fun _ _ _ _ _ => (pts_one (pt_not (pt_chain op_le_str op_le_str pe_str (pv 2) pe_str)))) (fun _ _ _ _ _ => (pv 2))) (pe_lst pa_nil) (nomark _))))))
  pss_nil)
  (pss_cons (ps_if (PW.pt (pw_or (pt_not (pt_chain op_le op_le pe_int (pe_callB call_len_str (by rfl) T.b_len (by decide +kernel) (pa_cons (pv 1) pa_nil)) pe_int)) (pw_or1 (pt_cmpR (op_neD hr.units) (pe_lc (own := [("_law_c", 2)]) (g := (gName 2)) (by rfl) sc__law_is_good.nd (pi_str (pv 1)) (blkOk_by (own := [("_law_c", 2)]) (N := ["_law_place", "_law_word", "_law_c"]) (sc := defScope s__law_is_good) (by decide +kernel)) (fun _ _ _ _ _ => (pg_name (i := 2) sc__law_is_good.nd rfl (Or.inl rfl))) (fun _ _ _ _ _ => (pts_one (pt_not (pt_chain op_le_str op_le_str pe_str (pv 2) pe_str)))) (fun _ _ _ _ _ => (pv 2))) (pe_lst pa_nil) (nomark _)))))
  (pss_one (ps_ret pe_bl))
  pss_nil)
  (pss_one (ps_ret (pe_or (pe_cmpR op_eq (pv 1) pe_str (nomark _)) (pe_one (pe_cmpR op_ne (pe_ix ix_str (pv 1) pe_int (fun _ _ => rfl)) pe_str (nomark _))))))))), ?_⟩
    have k0 : ∀ b, goodW j z = b → Q (.bl b) H := fun b e => by rw [← e]; exact k H (Same.refl H)
    refine ⟨_, rfl, rfl, _, rfl, ?_⟩
    by_cases c0 : j = 0
    · subst c0
      refine iteD rfl ?_
      refine ⟨_, rfl, rfl, k0 _ ?_⟩
      show decide (z = "order") = _
      rw [Bool.eq_iff_iff, decide_eq_true_eq, decide_eq_true_eq]
      exact ⟨fun h => by rw [h], V.str.inj⟩
    · refine iteDN (fun q => c0 (by have := V.int.inj q; omega)) ?_
      refine ⟨_, rfl, _, _, rfl, rfl, _, rfl, ?_⟩
      by_cases c3 : j < 3
      · refine iteD (by show ((j : Nat) : Int) < 3; omega) ?_
        have eg : goodW j z = isAddrB (.str z) := by unfold goodW; rw [if_neg c0, if_pos c3]
        refine ⟨_, rfl, z, rfl, by rw [sizeLine_eq]; omega, _, _, rfl, rfl, _, rfl, ?_⟩
        refine ite2 (fun h1 => ?_) (fun h1 => ?_)
        · have h1' : 1 ≤ z.length := by have := of_decide_eq_true h1; omega
          refine ⟨_, _, rfl, rfl, _, rfl, ?_⟩
          by_cases h2 : z.length ≤ 8
          · refine iteD (by show ((z.length : Nat) : Int) ≤ 8; omega) ?_
            refine ⟨_, rfl, z, rfl, fun D hD => ?_⟩
            refine lc_it walk_str (fun i H' => Same H H' ∧ H' D = some (.lst ((sgnS (outC 97 122 (z.cps.toList.take i))).map V.str))) ⟨Same.new hD, upd_same⟩ (fun _ _ _ _ => trivial) ?_ ?_
            · rintro i x H1 H2 hi ⟨s1, l1⟩ ⟨rfl, c, hc, rfl⟩
              have hlt : i < z.cps.size := hi
              have hlen : z.cps.size = z.length := rfl
              have e1 : z.cps.toList[i]? = some c := by simpa using hc
              have ek : outC 97 122 (z.cps.toList.take (i + 1)) = outC 97 122 (z.cps.toList.take i) ++ if (decide (97 ≤ c) && decide (c ≤ 122)) = true then [] else [c] := by
                unfold outC
                rw [List.take_add_one, e1, List.filter_append]
                congr 1
                show List.filter _ [c] = _
                rw [List.filter_cons, List.filter_nil]
                generalize (decide (97 ≤ c) && decide (c ≤ 122)) = b
                cases b <;> rfl
              have ll : (outC 97 122 (z.cps.toList.take i)).length ≤ 1000 := Nat.le_trans (List.length_filter_le _ _) (by rw [List.length_take]; omega)
              rw [ek]
              have no : (if (decide (97 ≤ c) && decide (c ≤ 122)) = true then ([] : List Nat) else [c]) = [c] → ∃ acc, H2 D = some (.lst acc) ∧ acc.length < sizeLine ∧ Same H (upd H2 D (.lst (acc ++ [V.str ⟨#[c]⟩]))) ∧ (upd H2 D (.lst (acc ++ [V.str ⟨#[c]⟩]))) D = some (.lst ((sgnS (outC 97 122 (z.cps.toList.take i) ++ if (decide (97 ≤ c) && decide (c ≤ 122)) = true then [] else [c])).map V.str)) := fun ec => by
                refine ⟨_, l1, by unfold sgnS; rw [List.length_map, List.length_map, sizeLine_eq]; omega, fun b o e => ?_, ?_⟩
                · rw [upd_ne (ne_of_none e hD)]
                  exact s1 b o e
                · rw [upd_same, ec]
                  simp [sgnS]
              refine ⟨rfl, ?_⟩
              refine ⟨_, rfl, _, _, rfl, rfl, ?_⟩
              rw [show (!decide ((⟨#[c]⟩ : Str).cps.toList < ("a" : Str).cps.toList)) = decide (97 ≤ c) from sgn_le 97 c]
              refine ⟨_, rfl, ?_⟩
              by_cases ca : 97 ≤ c
              · rw [decide_eq_true ca] at no ⊢
                refine iteT ⟨_, _, rfl, rfl, ?_⟩
                rw [show (!decide (("z" : Str).cps.toList < (⟨#[c]⟩ : Str).cps.toList)) = decide (c ≤ 122) from sgn_le c 122]
                refine ⟨_, rfl, ?_⟩
                by_cases cb : c ≤ 122
                · rw [decide_eq_true cb]
                  refine iteF ?_
                  rw [if_pos (show (true && true) = true from rfl), List.append_nil]
                  exact ⟨s1, l1⟩
                · rw [decide_eq_false cb] at no ⊢
                  exact iteT ⟨_, rfl, no rfl⟩
              · rw [decide_eq_false ca] at no ⊢
                exact iteF ⟨_, rfl, iteT ⟨_, rfl, no rfl⟩⟩
            rintro H1 ⟨s1, l1⟩
            have e1 : z.cps.toList.take z.cps.size = z.cps.toList := List.take_of_length_le (by simp)
            rw [e1] at l1
            refine ⟨Nat.zero_le _, ?_⟩
            intro q hq
            generalize gH2 : L2.upd _ q _ = H2
            obtain ⟨s2, e2⟩ := newS hq gH2
            clear gH2
            have s12 := s1.trans s2
            have asc2 : ∀ c ∈ outC 97 122 z.cps.toList, c < 128 := fun c hc => asc c (List.mem_filter.mp hc).1
            have lo2 : (outC 97 122 z.cps.toList).length ≤ 1000 := Nat.le_trans (List.length_filter_le _ _) (by rw [Array.length_toList]; exact hz)
            refine ⟨.list ((sgnS (outC 97 122 z.cps.toList)).map PyData.str), .list [], .lst (SqL.of (s2 _ _ l1)) (dp_strs _), .lst (SqL.of e2) .nil, sgn_shaped asc2 lo2, by decide +kernel, ?_⟩
            rw [sgn_eqv]
            have eb : isAddrB (.str z) = decide (outC 97 122 z.cps.toList = []) := by
              show (decide (1 ≤ z.length) && decide (z.length ≤ 8) && z.cps.toList.all fun c => decide (c ∈ letters.cps.toList)) = _
              rw [decide_eq_true h1', decide_eq_true h2, Bool.true_and, Bool.true_and, Bool.eq_iff_iff, decide_eq_true_eq, outC_nil, List.all_eq_true]
              exact ⟨fun h c hc => lets_mem.mp (of_decide_eq_true (h c hc)), fun h c hc => decide_eq_true (lets_mem.mpr (h c hc))⟩
            rw [← eb, ← eg]
            exact k _ s12
          · refine iteDN (fun h => h2 (by have : ((z.length : Nat) : Int) ≤ 8 := h; omega)) (k0 _ ?_)
            rw [eg]
            simp [isAddrB, h2]
        · have h1' : ¬ 1 ≤ z.length := fun q => h1 (decide_eq_true (by omega))
          refine ⟨_, rfl, iteF (k0 _ ?_)⟩
          rw [eg]
          simp [isAddrB, h1']
      · refine iteDN (fun h => c3 (by have : ((j : Nat) : Int) < 3 := h; omega)) ?_
        have eg : goodW j z = numB z := by unfold goodW; rw [if_neg c0, if_neg c3]
        refine ⟨_, rfl, z, rfl, by rw [sizeLine_eq]; omega, _, _, rfl, rfl, _, rfl, ?_⟩
        refine ite2 (fun h1 => ?_) (fun h1 => ?_)
        · have h1' : 1 ≤ z.length := by have := of_decide_eq_true h1; omega
          refine ⟨_, _, rfl, rfl, _, rfl, ?_⟩
          by_cases h2 : z.length ≤ 19
          · rw [show decide (((z.length : Nat) : Int) ≤ 19) = true from decide_eq_true (by omega)]
            refine iteF ?_
            refine ⟨_, rfl, z, rfl, fun D hD => ?_⟩
            refine lc_it walk_str (fun i H' => Same H H' ∧ H' D = some (.lst ((sgnS (outC 48 57 (z.cps.toList.take i))).map V.str))) ⟨Same.new hD, upd_same⟩ (fun _ _ _ _ => trivial) ?_ ?_
            · rintro i x H1 H2 hi ⟨s1, l1⟩ ⟨rfl, c, hc, rfl⟩
              have hlt : i < z.cps.size := hi
              have hlen : z.cps.size = z.length := rfl
              have e1 : z.cps.toList[i]? = some c := by simpa using hc
              have ek : outC 48 57 (z.cps.toList.take (i + 1)) = outC 48 57 (z.cps.toList.take i) ++ if (decide (48 ≤ c) && decide (c ≤ 57)) = true then [] else [c] := by
                unfold outC
                rw [List.take_add_one, e1, List.filter_append]
                congr 1
                show List.filter _ [c] = _
                rw [List.filter_cons, List.filter_nil]
                generalize (decide (48 ≤ c) && decide (c ≤ 57)) = b
                cases b <;> rfl
              have ll : (outC 48 57 (z.cps.toList.take i)).length ≤ 1000 := Nat.le_trans (List.length_filter_le _ _) (by rw [List.length_take]; omega)
              rw [ek]
              have no : (if (decide (48 ≤ c) && decide (c ≤ 57)) = true then ([] : List Nat) else [c]) = [c] → ∃ acc, H2 D = some (.lst acc) ∧ acc.length < sizeLine ∧ Same H (upd H2 D (.lst (acc ++ [V.str ⟨#[c]⟩]))) ∧ (upd H2 D (.lst (acc ++ [V.str ⟨#[c]⟩]))) D = some (.lst ((sgnS (outC 48 57 (z.cps.toList.take i) ++ if (decide (48 ≤ c) && decide (c ≤ 57)) = true then [] else [c])).map V.str)) := fun ec => by
                refine ⟨_, l1, by unfold sgnS; rw [List.length_map, List.length_map, sizeLine_eq]; omega, fun b o e => ?_, ?_⟩
                · rw [upd_ne (ne_of_none e hD)]
                  exact s1 b o e
                · rw [upd_same, ec]
                  simp [sgnS]
              refine ⟨rfl, ?_⟩
              refine ⟨_, rfl, _, _, rfl, rfl, ?_⟩
              rw [show (!decide ((⟨#[c]⟩ : Str).cps.toList < ("0" : Str).cps.toList)) = decide (48 ≤ c) from sgn_le 48 c]
              refine ⟨_, rfl, ?_⟩
              by_cases ca : 48 ≤ c
              · rw [decide_eq_true ca] at no ⊢
                refine iteT ⟨_, _, rfl, rfl, ?_⟩
                rw [show (!decide (("9" : Str).cps.toList < (⟨#[c]⟩ : Str).cps.toList)) = decide (c ≤ 57) from sgn_le c 57]
                refine ⟨_, rfl, ?_⟩
                by_cases cb : c ≤ 57
                · rw [decide_eq_true cb]
                  refine iteF ?_
                  rw [if_pos (show (true && true) = true from rfl), List.append_nil]
                  exact ⟨s1, l1⟩
                · rw [decide_eq_false cb] at no ⊢
                  exact iteT ⟨_, rfl, no rfl⟩
              · rw [decide_eq_false ca] at no ⊢
                exact iteF ⟨_, rfl, iteT ⟨_, rfl, no rfl⟩⟩
            rintro H1 ⟨s1, l1⟩
            have e1 : z.cps.toList.take z.cps.size = z.cps.toList := List.take_of_length_le (by simp)
            rw [e1] at l1
            refine ⟨Nat.zero_le _, ?_⟩
            intro q hq
            generalize gH2 : L2.upd _ q _ = H2
            obtain ⟨s2, e2⟩ := newS hq gH2
            clear gH2
            have s12 := s1.trans s2
            have asc2 : ∀ c ∈ outC 48 57 z.cps.toList, c < 128 := fun c hc => asc c (List.mem_filter.mp hc).1
            have lo2 : (outC 48 57 z.cps.toList).length ≤ 1000 := Nat.le_trans (List.length_filter_le _ _) (by rw [Array.length_toList]; exact hz)
            refine ⟨.list ((sgnS (outC 48 57 z.cps.toList)).map PyData.str), .list [], .lst (SqL.of (s2 _ _ l1)) (dp_strs _), .lst (SqL.of e2) .nil, sgn_shaped asc2 lo2, by decide +kernel, ?_⟩
            rw [sgn_eqv]
            have nb : numB z = (decide (outC 48 57 z.cps.toList = []) && (decide (z = "0") || decide (z.cps.toList.head? ≠ some 48))) := by
              unfold numB
              rw [decide_eq_true h1', decide_eq_true h2]
              congr 1
              rw [Bool.true_and, Bool.true_and, Bool.eq_iff_iff, decide_eq_true_eq, outC_nil, List.all_eq_true]
              exact ⟨fun h c hc => figs_mem.mp (of_decide_eq_true (h c hc)), fun h c hc => decide_eq_true (figs_mem.mpr (h c hc))⟩
            have fin : ∀ b, goodW j z = b → Q (.bl b) H2 := fun b e => by rw [← e]; exact k _ s12
            by_cases cn : outC 48 57 z.cps.toList = []
            · rw [decide_eq_true cn, Bool.true_and] at nb
              rw [decide_eq_true cn]
              refine ⟨_, rfl, iteF ?_⟩
              refine ⟨_, rfl, rfl, _, rfl, ?_⟩
              by_cases c00 : z = "0"
              · refine iteD (by rw [c00]) (fin _ ?_)
                rw [eg, nb, decide_eq_true c00]
                rfl
              · refine iteDN (fun q => c00 (V.str.inj q)) ?_
                obtain ⟨c, ec⟩ : ∃ c, z.cps.toList[0]? = some c := ⟨_, List.getElem?_eq_getElem (by rw [Array.length_toList]; exact h1')⟩
                refine ⟨_, rfl, z, 0, c, rfl, rfl, by rw [sizeLine_eq]; omega, atI_nat (j := 0) ec, rfl, fin _ ?_⟩
                rw [eg, nb, decide_eq_false c00, Bool.false_or, List.head?_eq_getElem?, ec]
                by_cases cc : c = 48
                · subst cc
                  decide +kernel
                · have : ¬ V.str ⟨#[c]⟩ = V.str "0" := fun q => by
                    have h3 := V.str.inj q
                    have h4 : (⟨#[c]⟩ : Str).cps.toList = ("0" : Str).cps.toList := by rw [h3]
                    have h5 : ("0" : Str).cps.toList = [48] := by decide +kernel
                    rw [h5] at h4
                    exact cc (by simpa using h4)
                  rw [decide_eq_false this]
                  simp [cc]
            · rw [decide_eq_false cn] at nb ⊢
              exact ⟨_, rfl, iteT (fin _ (by rw [eg, nb]; rfl))⟩
          · rw [show decide (((z.length : Nat) : Int) ≤ 19) = false from decide_eq_false (by omega)]
            refine iteT (k0 _ ?_)
            rw [eg]
            simp [numB, h2]
        · have h1' : ¬ 1 ≤ z.length := fun q => h1 (decide_eq_true (by omega))
          refine ⟨_, rfl, iteT (k0 _ ?_)⟩
          rw [eg]
          simp [numB, h1']
end

end MF
set_option Elab.async false
set_option linter.all false
set_option maxRecDepth 100000
set_option maxHeartbeats 2000000
set_option pp.maxSteps 600
namespace MF
open PySem PySem.Spec PyProof.Rows L2 StX
section
variable {P : Program} {w : World} {K : PySem.W.Frag} {mg : Str → Option Value} {base : Heap} {C_Book C_MailError C_InvalidOperation C_InvalidOrder C_UnknownOrder C_NotHolding C_DecodeError C_NotationError C_UnknownLetter C_InvalidAddress C_InvalidDay C_InvalidNumber C_Contradiction C_InvalidCount : Addr}
def terms12 : List Str := ["InvalidOperation", "InvalidOrder", "UnknownOrder", "NotHolding", "DecodeError", "NotationError", "UnknownLetter", "InvalidAddress", "InvalidDay", "InvalidNumber", "Contradiction", "InvalidCount"]
def FldAt (K : PySem.W.Frag) (H : Hp) (D : Addr) (d : Option Addr) (j : Nat) (vs : List V) : Prop :=
  if j < 4 then ∃ v dd, d = some dd ∧ H dd = some (.xd [("index", v)]) ∧ PySem.W.findIn K (.ref D) "index" = some none ∧ vs = [v]
  else if j = 4 then ∃ v dd, d = some dd ∧ H dd = some (.xd [("offset", v)]) ∧ PySem.W.findIn K (.ref D) "offset" = some none ∧ vs = [v]
  else if j = 5 then ∃ r c dd, d = some dd ∧ H dd = some (.xd [("word", c), ("row", r)]) ∧ PySem.W.findIn K (.ref D) "row" = some none ∧ PySem.W.findIn K (.ref D) "word" = some none ∧ vs = [r, c]
  else if j = 6 then ∃ v dd, d = some dd ∧ H dd = some (.xd [("letter", v)]) ∧ PySem.W.findIn K (.ref D) "letter" = some none ∧ vs = [v]
  else d = none ∧ vs = []
def b12 (j : Nat) : List Bool := (List.range 12).map fun i => decide (i = j)
theorem b12_count : ∀ j, j < 12 → (b12 j).count true = 1 := by decide
theorem ok_told {X : Cx} (hK : X.K = K) (hm : X.mg = mg) (T : Top K mg C_Book C_MailError C_InvalidOperation C_InvalidOrder C_UnknownOrder C_NotHolding C_DecodeError C_NotationError C_UnknownLetter C_InvalidAddress C_InvalidDay C_InvalidNumber C_Contradiction C_InvalidCount) : LFn X "_law_told" "_law_work" (TTold RK ⟨C_InvalidOrder, C_UnknownOrder, C_InvalidAddress, C_InvalidDay, C_InvalidNumber, C_UnknownLetter, C_NotHolding, C_InvalidOperation, C_Contradiction, C_InvalidCount, C_DecodeError, C_NotationError⟩) := by
  subst hK
  subst hm
  obtain ⟨g, fd, F, hm, hb⟩ := T.d__law_told.ex
  obtain ⟨oc, od, kV, doc, pm, an, cdv, ct, osl, rfl, lk, hcd⟩ := F.ex
  refine ⟨⟨g, oc, od, defArgs s__law_told, defBody s__law_told, defScope s__law_told, .none, kV, doc, pm, cdv, ct, an, osl, ["_law_work", "e", "_law_some", "_law_terms", "_law_k"], hm, F.kp, lk, hcd, hb, sc__law_told, rfl, by first | exact .inl rfl | exact .inr (.inl rfl), ?_⟩⟩
  intro f s H Q ok tl hkeep act hok h hE65
  refine ⟨_, pss_one (ps_try_as (i := 1) (c := .ref C_MailError) (Wout := fun _ _ _ _ => False) rfl rfl sc__law_told.nd rfl rfl ⟨rfl, by decide, .inl T.g_MailError⟩ LamX.takes0 (fun W pn xe tk _ => pss_one (ps_ret (act W pn xe _ _ tk))) (fun a oe cls d pn hz hf =>
    (pss_cons (ps_set (i := 2) sc__law_told.nd rfl (Or.inl rfl) (pe_lst (pa_cons (pe_callB (call_isY hz hf) (by rfl) T.b_isinstance (by decide +kernel) (pa_cons (pv 1) (pa_cons (pe_glob (v := V.ref C_InvalidOperation) rfl T.g_InvalidOperation rfl) pa_nil))) (pa_cons (pe_callB (call_isY hz hf) (by rfl) T.b_isinstance (by decide +kernel) (pa_cons (pv 1) (pa_cons (pe_glob (v := V.ref C_InvalidOrder) rfl T.g_InvalidOrder rfl) pa_nil))) (pa_cons (pe_callB (call_isY hz hf) (by rfl) T.b_isinstance (by decide +kernel) (pa_cons (pv 1) (pa_cons (pe_glob (v := V.ref C_UnknownOrder) rfl T.g_UnknownOrder rfl) pa_nil))) pa_nil)))))
  (pss_cons (ps_set (i := 2) sc__law_told.nd rfl (Or.inl rfl) (pe_op op_cat (pv 2) (pe_lst (pa_cons (pe_callB (call_isY hz hf) (by rfl) T.b_isinstance (by decide +kernel) (pa_cons (pv 1) (pa_cons (pe_glob (v := V.ref C_NotHolding) rfl T.g_NotHolding rfl) pa_nil))) (pa_cons (pe_callB (call_isY hz hf) (by rfl) T.b_isinstance (by decide +kernel) (pa_cons (pv 1) (pa_cons (pe_glob (v := V.ref C_DecodeError) rfl T.g_DecodeError rfl) pa_nil))) (pa_cons (pe_callB (call_isY hz hf) (by rfl) T.b_isinstance (by decide +kernel) (pa_cons (pv 1) (pa_cons (pe_glob (v := V.ref C_NotationError) rfl T.g_NotationError rfl) pa_nil))) pa_nil))))))
  (pss_cons (ps_set (i := 2) sc__law_told.nd rfl (Or.inl rfl) (pe_op op_cat (pv 2) (pe_lst (pa_cons (pe_callB (call_isY hz hf) (by rfl) T.b_isinstance (by decide +kernel) (pa_cons (pv 1) (pa_cons (pe_glob (v := V.ref C_UnknownLetter) rfl T.g_UnknownLetter rfl) pa_nil))) (pa_cons (pe_callB (call_isY hz hf) (by rfl) T.b_isinstance (by decide +kernel) (pa_cons (pv 1) (pa_cons (pe_glob (v := V.ref C_InvalidAddress) rfl T.g_InvalidAddress rfl) pa_nil))) (pa_cons (pe_callB (call_isY hz hf) (by rfl) T.b_isinstance (by decide +kernel) (pa_cons (pv 1) (pa_cons (pe_glob (v := V.ref C_InvalidDay) rfl T.g_InvalidDay rfl) pa_nil))) pa_nil))))))
  (pss_cons (ps_set (i := 2) sc__law_told.nd rfl (Or.inl rfl) (pe_op op_cat (pv 2) (pe_lst (pa_cons (pe_callB (call_isY hz hf) (by rfl) T.b_isinstance (by decide +kernel) (pa_cons (pv 1) (pa_cons (pe_glob (v := V.ref C_InvalidNumber) rfl T.g_InvalidNumber rfl) pa_nil))) (pa_cons (pe_callB (call_isY hz hf) (by rfl) T.b_isinstance (by decide +kernel) (pa_cons (pv 1) (pa_cons (pe_glob (v := V.ref C_Contradiction) rfl T.g_Contradiction rfl) pa_nil))) (pa_cons (pe_callB (call_isY hz hf) (by rfl) T.b_isinstance (by decide +kernel) (pa_cons (pv 1) (pa_cons (pe_glob (v := V.ref C_InvalidCount) rfl T.g_InvalidCount rfl) pa_nil))) pa_nil))))))
  (pss_cons (ps_set (i := 3) sc__law_told.nd rfl (Or.inl rfl) (pe_lst (pa_cons pe_str (pa_cons pe_str (pa_cons pe_str (pa_cons pe_str (pa_cons pe_str (pa_cons pe_str pa_nil))))))))
  (pss_cons (ps_set (i := 3) sc__law_told.nd rfl (Or.inl rfl) (pe_op op_cat (pv 3) (pe_lst (pa_cons pe_str (pa_cons pe_str (pa_cons pe_str (pa_cons pe_str (pa_cons pe_str pa_nil))))))))
  (pss_cons (ps_set (i := 3) sc__law_told.nd rfl (Or.inl rfl) (pe_op op_cat (pv 3) (pe_lst (pa_cons pe_str (pa_cons pe_str pa_nil)))))
  (pss_cons (ps_set (i := 4) sc__law_told.nd rfl (Or.inl rfl) (pe_ifExp (PW.pt (pw_and (pt_cmpR op_eq (pe_bmK (K := X.K) PySem.F.plainAttrs_list PySem.F.slot_list_count PySem.F.type_list_count (mt_lcountBK (K := X.K)) (pv 2) (pa_cons pe_bl pa_nil)) pe_int (nomark _)) (pw_and1 (pt_val (pe_callB (call_isY hz hf) (by rfl) T.b_isinstance (by decide +kernel) (pa_cons (pv 1) (pa_cons (pe_bltn (v := .ty "ValueError") (by rfl) T.b_ValueError (by decide +kernel) rfl) pa_nil))))))) (pe_bmK (K := X.K) PySem.F.plainAttrs_list PySem.F.slot_list_index PySem.F.type_list_index (mt_indexDK (K := X.K) hE65) (pv 2) (pa_cons pe_bl pa_nil)) pe_int))
  (pss_cons (ps_if (pt_cmpR op_lt (pv 4) pe_int (nomark _))
  (pss_one (ps_ret (pe_tup (pa_cons pe_str (pa_cons (pe_ix (ix_listK (K := X.K)) (pv 3) (pv 4) (fun _ _ => rfl)) (pa_cons (pe_lst (pa_cons (pe_xfY hz hf (pv 1)) pa_nil)) pa_nil))))))
  pss_nil)
  (pss_cons (ps_if (pt_cmpR op_lt (pv 4) pe_int (nomark _))
  (pss_one (ps_ret (pe_tup (pa_cons pe_str (pa_cons (pe_ix (ix_listK (K := X.K)) (pv 3) (pv 4) (fun _ _ => rfl)) (pa_cons (pe_ifExp (pt_cmpR op_eq (pv 4) pe_int (nomark _)) (pe_lst (pa_cons (pe_xfY hz hf (pv 1)) pa_nil)) (pe_ifExp (pt_cmpR op_eq (pv 4) pe_int (nomark _)) (pe_lst (pa_cons (pe_xfY hz hf (pv 1)) (pa_cons (pe_xfY hz hf (pv 1)) pa_nil))) (pe_lst (pa_cons (pe_xfY hz hf (pv 1)) pa_nil)))) pa_nil))))))
  pss_nil)
  (pss_one (ps_ret (pe_tup (pa_cons pe_str (pa_cons (pe_ix (ix_listK (K := X.K)) (pv 3) (pv 4) (fun _ _ => rfl)) pa_nil))))))))))))))))), ?_⟩
  refine ⟨rfl, hok, _, fun cls d H' ⟨r, hrk, hr, hk⟩ => ?_, h⟩
  have fin : ∃ (D : Addr) (j : Nat) (vs : List V), cls = .ref D ∧ ErrC X.K D C_MailError ∧ j < 12 ∧ PySem.W.kitOne X.K (.ref D) (.ref C_InvalidOperation) = some (decide (0 = j)) ∧ PySem.W.kitOne X.K (.ref D) (.ref C_InvalidOrder) = some (decide (1 = j)) ∧ PySem.W.kitOne X.K (.ref D) (.ref C_UnknownOrder) = some (decide (2 = j)) ∧ PySem.W.kitOne X.K (.ref D) (.ref C_NotHolding) = some (decide (3 = j)) ∧ PySem.W.kitOne X.K (.ref D) (.ref C_DecodeError) = some (decide (4 = j)) ∧ PySem.W.kitOne X.K (.ref D) (.ref C_NotationError) = some (decide (5 = j)) ∧ PySem.W.kitOne X.K (.ref D) (.ref C_UnknownLetter) = some (decide (6 = j)) ∧ PySem.W.kitOne X.K (.ref D) (.ref C_InvalidAddress) = some (decide (7 = j)) ∧ PySem.W.kitOne X.K (.ref D) (.ref C_InvalidDay) = some (decide (8 = j)) ∧ PySem.W.kitOne X.K (.ref D) (.ref C_InvalidNumber) = some (decide (9 = j)) ∧ PySem.W.kitOne X.K (.ref D) (.ref C_Contradiction) = some (decide (10 = j)) ∧ PySem.W.kitOne X.K (.ref D) (.ref C_InvalidCount) = some (decide (11 = j)) ∧ DictSt H' d ∧ FldAt X.K H' D d j vs ∧ terms12[j]? = some (errT r).1 ∧ (errT r).2 = vs := by
    cases r with
    | order i =>
      obtain ⟨h1, dd, h2, h3⟩ := hr
      exact ⟨C_InvalidOrder, 1, _, h1, T.e_InvalidOrder, by decide, T.k_InvalidOrder_InvalidOperation, T.k_InvalidOrder_InvalidOrder, T.k_InvalidOrder_UnknownOrder, T.k_InvalidOrder_NotHolding, T.k_InvalidOrder_DecodeError, T.k_InvalidOrder_NotationError, T.k_InvalidOrder_UnknownLetter, T.k_InvalidOrder_InvalidAddress, T.k_InvalidOrder_InvalidDay, T.k_InvalidOrder_InvalidNumber, T.k_InvalidOrder_Contradiction, T.k_InvalidOrder_InvalidCount, (fun d2 e => by rw [h2] at e; cases e; exact ⟨_, h3⟩), ⟨i, dd, h2, h3, T.na_InvalidOrder, rfl⟩, rfl, rfl⟩
    | unknown i =>
      exact (show False from hrk).elim
    | address =>
      exact (show False from hrk).elim
    | day =>
      exact (show False from hrk).elim
    | number =>
      exact (show False from hrk).elim
    | letter i =>
      exact (show False from hrk).elim
    | holding i =>
      exact (show False from hrk).elim
    | operation i =>
      exact (show False from hrk).elim
    | contra =>
      exact (show False from hrk).elim
    | count =>
      exact (show False from hrk).elim
    | decode i =>
      exact (show False from hrk).elim
    | note r w =>
      obtain ⟨h1, dd, h2, h3⟩ := hr
      exact ⟨C_NotationError, 5, _, h1, T.e_NotationError, by decide, T.k_NotationError_InvalidOperation, T.k_NotationError_InvalidOrder, T.k_NotationError_UnknownOrder, T.k_NotationError_NotHolding, T.k_NotationError_DecodeError, T.k_NotationError_NotationError, T.k_NotationError_UnknownLetter, T.k_NotationError_InvalidAddress, T.k_NotationError_InvalidDay, T.k_NotationError_InvalidNumber, T.k_NotationError_Contradiction, T.k_NotationError_InvalidCount, (fun d2 e => by rw [h2] at e; cases e; exact ⟨_, h3⟩), ⟨r, w, dd, h2, h3, T.na_NotationError_row, T.na_NotationError_word, rfl⟩, rfl, rfl⟩
  obtain ⟨D, j, vs, hcls, EC, hj, k0, k1, k2, k3, k4, k5, k6, k7, k8, k9, k10, k11, hd, hfl, hnm, hvs⟩ := fin
  refine ⟨true, by rw [hcls]; exact EC.exm, fun _ a ha => ?_, fun z => by cases z⟩
  have ask : ∀ {H1 : Hp}, Same H' H1 → DictSt H1 d := fun s dd e => by
    obtain ⟨fs, z⟩ := hd dd e
    exact ⟨fs, s _ _ z⟩
  refine ⟨_, rfl, D, _, _, _, rfl, hcls, EC.exc, (fun u z => z), k0, ask (Same.refl _), _, rfl, D, _, _, _, rfl, hcls, EC.exc, (fun u z => z), k1, ask (Same.refl _), _, rfl, D, _, _, _, rfl, hcls, EC.exc, (fun u z => z), k2, ask (Same.refl _), (by show 3 ≤ sizeLine; decide), ?_⟩
  intro p1 h1
  generalize gH1 : L2.upd _ p1 _ = H1
  obtain ⟨s1, e1⟩ := newS h1 gH1
  clear gH1
  refine ⟨_, rfl, _, rfl, D, _, _, _, rfl, hcls, EC.exc, (fun u z => z), k3, ask s1, _, rfl, D, _, _, _, rfl, hcls, EC.exc, (fun u z => z), k4, ask s1, _, rfl, D, _, _, _, rfl, hcls, EC.exc, (fun u z => z), k5, ask s1, (by show 3 ≤ sizeLine; decide), ?_⟩
  intro p2 h2
  generalize gH2 : L2.upd _ p2 _ = H2
  obtain ⟨s2, e2⟩ := newS h2 gH2
  clear gH2
  have s02 := s1.trans s2
  refine ⟨p1, p2, _, _, rfl, rfl, s2 _ _ e1, e2, (by show 6 ≤ sizeLine; decide), ?_⟩
  intro p3 h3
  generalize gH3 : L2.upd _ p3 _ = H3
  obtain ⟨s3, e3⟩ := newS h3 gH3
  clear gH3
  have s03 := s02.trans s3
  refine ⟨_, rfl, _, rfl, D, _, _, _, rfl, hcls, EC.exc, (fun u z => z), k6, ask s03, _, rfl, D, _, _, _, rfl, hcls, EC.exc, (fun u z => z), k7, ask s03, _, rfl, D, _, _, _, rfl, hcls, EC.exc, (fun u z => z), k8, ask s03, (by show 3 ≤ sizeLine; decide), ?_⟩
  intro p4 h4
  generalize gH4 : L2.upd _ p4 _ = H4
  obtain ⟨s4, e4⟩ := newS h4 gH4
  clear gH4
  have s04 := s03.trans s4
  refine ⟨p3, p4, _, _, rfl, rfl, s4 _ _ e3, e4, (by show 9 ≤ sizeLine; decide), ?_⟩
  intro p5 h5
  generalize gH5 : L2.upd _ p5 _ = H5
  obtain ⟨s5, e5⟩ := newS h5 gH5
  clear gH5
  have s05 := s04.trans s5
  refine ⟨_, rfl, _, rfl, D, _, _, _, rfl, hcls, EC.exc, (fun u z => z), k9, ask s05, _, rfl, D, _, _, _, rfl, hcls, EC.exc, (fun u z => z), k10, ask s05, _, rfl, D, _, _, _, rfl, hcls, EC.exc, (fun u z => z), k11, ask s05, (by show 3 ≤ sizeLine; decide), ?_⟩
  intro p6 h6
  generalize gH6 : L2.upd _ p6 _ = H6
  obtain ⟨s6, e6⟩ := newS h6 gH6
  clear gH6
  have s06 := s05.trans s6
  refine ⟨p5, p6, _, _, rfl, rfl, s6 _ _ e5, e6, (by show 12 ≤ sizeLine; decide), ?_⟩
  intro p7 h7
  generalize gH7 : L2.upd _ p7 _ = H7
  obtain ⟨s7, e7⟩ := newS h7 gH7
  clear gH7
  have s07 := s06.trans s7
  have e7' : H7 p7 = some (.lst ((b12 j).map V.bl)) := e7
  clear e1 e2 e3 e4 e5 e6 e7 s02 s03 s04 s05 s06
  refine ⟨(by show 6 ≤ sizeLine; decide), ?_⟩
  intro q1 g1
  generalize gK1 : L2.upd _ q1 _ = K1
  obtain ⟨t1, f1⟩ := newS g1 gK1
  clear gK1
  refine ⟨_, rfl, (by show 5 ≤ sizeLine; decide), ?_⟩
  intro q2 g2
  generalize gK2 : L2.upd _ q2 _ = K2
  obtain ⟨t2, f2⟩ := newS g2 gK2
  clear gK2
  refine ⟨q1, q2, _, _, rfl, rfl, t2 _ _ f1, f2, (by show 11 ≤ sizeLine; decide), ?_⟩
  intro q3 g3
  generalize gK3 : L2.upd _ q3 _ = K3
  obtain ⟨t3, f3⟩ := newS g3 gK3
  clear gK3
  refine ⟨_, rfl, (by show 2 ≤ sizeLine; decide), ?_⟩
  intro q4 g4
  generalize gK4 : L2.upd _ q4 _ = K4
  obtain ⟨t4, f4⟩ := newS g4 gK4
  clear gK4
  refine ⟨q3, q4, _, _, rfl, rfl, t4 _ _ f3, f4, (by show 13 ≤ sizeLine; decide), ?_⟩
  intro q5 g5
  generalize gK5 : L2.upd _ q5 _ = K5
  obtain ⟨t5, f5⟩ := newS g5 gK5
  clear gK5
  have t15 := ((((t1.trans t2).trans t3).trans t4).trans t5)
  have s15 := s07.trans t15
  have ek := t15 _ _ e7'
  have f5' : K5 q5 = some (.lst ((terms12 ++ [("other" : Str)]).map V.str)) := f5
  clear f1 f2 f3 f4 f5 t1 t2 t3 t4 t5 t15 s07 e7'
  refine ⟨_, rfl, .inl ⟨rfl, _, SqL.of ek⟩, p7, b12 j, true, rfl, rfl, SqL.of ek, ?_⟩
  rw [b12_count j hj]
  refine ⟨rfl, _, rfl, iteD rfl ?_⟩
  refine ⟨_, rfl, D, _, _, true, rfl, hcls, EC.exc, (fun u z => z), EC.ve, ask s15, _, rfl, ?_⟩
  refine iteT ?_
  have hz : ((b12 j).map PyData.bool)[j]? = some (.bool true) := by
    unfold b12
    rw [List.getElem?_map, List.getElem?_map, List.getElem?_range hj]
    simp
  have hb' : ∀ m, m < j → (b12 j)[m]? = some false := fun m hm => by
    unfold b12
    rw [List.getElem?_map, List.getElem?_range (by omega)]
    simp; omega
  have sh : ∀ j, j < 12 → SeqAt.shaped (.list ((b12 j).map PyData.bool)) = true := by decide +kernel
  have dpb : ∀ l : List Bool, DpAll X.K K5 (l.map V.bl) (l.map PyData.bool) := fun l => by
    induction l with
    | nil => exact .nil
    | cons b l ih => exact .cons (.bl b) ih
  refine ⟨_, rfl, .inl ⟨rfl, _, SqL.of ek⟩, p7, _, .bool true, (b12 j).map PyData.bool, j, .bool true, rfl, rfl, .lst (SqL.of ek) (dpb _), .bl true, sh j hj, by decide +kernel, hz, by decide +kernel, fun m z' hm ez => ?_, ?_⟩
  · rw [List.getElem?_map, hb' m hm] at ez
    cases ez
    decide +kernel
  have hat : atI ((terms12 ++ [("other" : Str)]).map V.str) ((j : Nat) : Int) = some (.str (errT r).1) := atI_nat (by rw [List.getElem?_map, List.getElem?_append_left (by show j < 12; exact hj), hnm]; rfl)
  have xd : ∀ {dd : Addr} {fs : List (Str × V)}, H' dd = some (.xd fs) → K5 dd = some (.xd fs) := fun h => s15 _ _ h
  unfold FldAt at hfl
  have fin1 : ∀ (u : V), vs = [u] → ∀ K6 l, Same K5 K6 → K6 l = some (.lst [u]) → ∀ p, K6 p = none → Q (.ref p) (upd K6 p (.tup [.str "error", .str (errT r).1, .ref l])) := fun u hu K6 l s6 e6 p hp => by
    refine hk p _ ((s15.trans s6).trans (Same.new hp)) ((s15.trans s6).free hp) ?_
    unfold ToldAt
    rw [hvs, hu]
    exact ⟨l, upd_same, by rw [upd_ne (ne_of_none e6 hp)]; exact e6⟩
  refine ⟨_, rfl, _, _, rfl, rfl, _, rfl, ite2 (fun c => ?_) (fun c => ?_)⟩
  · have c' : j < 4 := by
      have : ((j : Nat) : Int) < 4 := of_decide_eq_true c
      omega
    rw [if_pos c'] at hfl
    obtain ⟨v, dd, ed, hx, hno, rfl⟩ := hfl
    refine ⟨_, rfl, _, rfl, q5, _, _, _, rfl, rfl, SqL.of f5', hat, _, rfl, rfl, D, dd, _, v, hcls, EC.xf, hno, ed, xd hx, (by simp [List.lookup]), (by show 1 ≤ sizeLine; decide), ?_⟩
    intro l6 hl6
    generalize gK6 : L2.upd _ l6 _ = K6
    obtain ⟨t6, f6⟩ := newS hl6 gK6
    clear gK6
    exact ⟨(by show 3 ≤ sizeLine; decide), fin1 v rfl K6 l6 t6 f6⟩
  have c4 : ¬ j < 4 := fun z => c (decide_eq_true (by show ((j : Nat) : Int) < 4; omega))
  rw [if_neg c4] at hfl
  refine ⟨_, rfl, _, _, rfl, rfl, _, rfl, ite2 (fun c => ?_) (fun c => ?_)⟩
  · have c' : j < 7 := by
      have : ((j : Nat) : Int) < 7 := of_decide_eq_true c
      omega
    refine ⟨_, rfl, _, rfl, q5, _, _, _, rfl, rfl, SqL.of f5', hat, ?_⟩
    by_cases j4 : j = 4
    · subst j4
      rw [if_pos rfl] at hfl
      obtain ⟨v, dd, ed, hx, hno, rfl⟩ := hfl
      refine ⟨_, rfl, rfl, _, rfl, iteD rfl ?_⟩
      refine ⟨_, rfl, rfl, D, dd, _, v, hcls, EC.xf, hno, ed, xd hx, (by simp [List.lookup]), (by show 1 ≤ sizeLine; decide), ?_⟩
      intro l6 hl6
      generalize gK6 : L2.upd _ l6 _ = K6
      obtain ⟨t6, f6⟩ := newS hl6 gK6
      clear gK6
      exact ⟨(by show 3 ≤ sizeLine; decide), fin1 v rfl K6 l6 t6 f6⟩
    rw [if_neg j4] at hfl
    refine ⟨_, rfl, rfl, _, rfl, iteDN (fun z => j4 (by have := V.int.inj z; omega)) ?_⟩
    by_cases j5 : j = 5
    · subst j5
      rw [if_pos rfl] at hfl
      obtain ⟨r1, c1, dd, ed, hx, hno, hno2, rfl⟩ := hfl
      refine ⟨_, rfl, rfl, _, rfl, iteD rfl ?_⟩
      refine ⟨_, rfl, rfl, D, dd, _, r1, hcls, EC.xf, hno, ed, xd hx, (by simp [List.lookup, show (("row" : Str) == "word") = false from by decide]), _, rfl, rfl, D, dd, _, c1, hcls, EC.xf, hno2, ed, xd hx, (by simp [List.lookup]), (by show 2 ≤ sizeLine; decide), ?_⟩
      intro l6 hl6
      generalize gK6 : L2.upd _ l6 _ = K6
      obtain ⟨t6, f6⟩ := newS hl6 gK6
      clear gK6
      refine ⟨(by show 3 ≤ sizeLine; decide), fun p hp => ?_⟩
      refine hk p _ ((s15.trans t6).trans (Same.new hp)) ((s15.trans t6).free hp) ?_
      unfold ToldAt
      rw [hvs]
      exact ⟨l6, upd_same, by rw [upd_ne (ne_of_none f6 hp)]; exact f6⟩
    rw [if_neg j5] at hfl
    have j6 : j = 6 := by omega
    rw [if_pos j6] at hfl
    obtain ⟨v, dd, ed, hx, hno, rfl⟩ := hfl
    refine ⟨_, rfl, rfl, _, rfl, iteDN (fun z => j5 (by have := V.int.inj z; omega)) ?_⟩
    refine ⟨_, rfl, rfl, D, dd, _, v, hcls, EC.xf, hno, ed, xd hx, (by simp [List.lookup]), (by show 1 ≤ sizeLine; decide), ?_⟩
    intro l6 hl6
    generalize gK6 : L2.upd _ l6 _ = K6
    obtain ⟨t6, f6⟩ := newS hl6 gK6
    clear gK6
    exact ⟨(by show 3 ≤ sizeLine; decide), fin1 v rfl K6 l6 t6 f6⟩
  · have c7 : ¬ j < 7 := fun z => c (decide_eq_true (by show ((j : Nat) : Int) < 7; omega))
    rw [if_neg (by omega), if_neg (by omega), if_neg (by omega)] at hfl
    obtain ⟨_, rfl⟩ := hfl
    refine ⟨_, rfl, _, rfl, q5, _, _, _, rfl, rfl, SqL.of f5', hat, (by show 2 ≤ sizeLine; decide), fun p hp => ?_⟩
    refine hk p _ (s15.trans (Same.new hp)) (s15.free hp) ?_
    unfold ToldAt
    rw [hvs]
    exact upd_same
end

end MF
set_option Elab.async false
set_option linter.all false
set_option maxRecDepth 100000
set_option maxHeartbeats 2000000
set_option pp.maxSteps 600
namespace MF
open PySem PySem.Spec PyProof.Rows L2 StX
section
variable {P : Program} {w : World} {K : PySem.W.Frag} {mg : Str → Option Value} {base : Heap} {C_Book C_MailError C_InvalidOperation C_InvalidOrder C_UnknownOrder C_NotHolding C_DecodeError C_NotationError C_UnknownLetter C_InvalidAddress C_InvalidDay C_InvalidNumber C_Contradiction C_InvalidCount : Addr}
def RowsAt (H : Hp) (as : List Addr) (L : List (List Str)) : Prop := PySem.Paired (fun a (ws : List Str) => H a = some (.lst (ws.map V.str))) as L
theorem RowsAt.mono {H H' : Hp} {as : List Addr} {L : List (List Str)} (h : RowsAt H as L) (s : Same H H') : RowsAt H' as L := PySem.Paired.mono (fun _ _ e => s _ _ e) h
theorem Paired.get' {α β : Type} {R : α → β → Prop} : ∀ {as : List α} {bs : List β} {i : Nat} {b : β}, PySem.Paired R as bs → bs[i]? = some b → ∃ a, as[i]? = some a ∧ R a b
  | _, _, _, _, .nil, h => by simp at h
  | _, _, 0, _, .cons r t, h => by cases h; exact ⟨_, rfl, r⟩
  | _, _, i + 1, _, .cons r t, h => by
    obtain ⟨a, e, x⟩ := Paired.get' t (by simpa using h)
    exact ⟨a, by simpa using e, x⟩
def spParsed (K : PySem.W.Frag) : Sp := fun vs H Q _ => ∃ lt as L, vs = [.ref lt] ∧ H lt = some (.lst ((as : List Addr).map V.ref)) ∧ RowsAt H as L ∧ RowsOk L ∧
    (∀ k j, noteAt 0 L = some (k, j) → ∀ H' p, Same H H' → ToldAt H' p (.note (.int (k : Nat)) (.int (j : Nat))) → Q (.ref p) H') ∧
    (noteAt 0 L = none → ∀ n, badOrd [] (L.map ordW) = some n → ∀ H' p, Same H H' → ToldAt H' p (.order (.int (n : Nat))) → Q (.ref p) H') ∧
    (noteAt 0 L = none → badOrd [] (L.map ordW) = none → ∀ H' t bs, Same H H' → H' t = some (.tup ((bs : List Addr).map V.ref)) → OrdsAt K H' bs (L.map ordW) → Q (.ref t) H')
theorem ok_parsed (T : Top K mg C_Book C_MailError C_InvalidOperation C_InvalidOrder C_UnknownOrder C_NotHolding C_DecodeError C_NotationError C_UnknownLetter C_InvalidAddress C_InvalidDay C_InvalidNumber C_Contradiction C_InvalidCount) : GFn P w K mg base CX0 3 "_law_parsed" (spParsed K) := by
  have G__law_is_good : GFn P w K mg base CX0 1 "_law_is_good" spGoodL := ok_goodL T
  have G__law_fits : GFn P w K mg base CX0 1 "_law_fits" (spFits K) := ok_fits T
  refine T.d__law_parsed.fn fun f fd F => F.ok sc__law_parsed (fun vs H Q E h => ?_) (fun cdv A outer s H vs Q E hr h => ?_)
  · obtain ⟨lt, as, L, rfl, _⟩ := h
    rfl
  · obtain ⟨lt, as, L, rfl, hlt, RA, R, kn, ko, kq⟩ := h
    refine ⟨_, (C8.pss_cut (ps_for PassesOwn.never rfl (pi_range1 (by rfl) T.b_range (pa_cons (pe_callB call_len_seq (by rfl) T.b_len (by decide +kernel) (pa_cons (pv 0) pa_nil)) pa_nil)) (pg_name (i := 1) sc__law_parsed.nd rfl (Or.inl rfl))
  (pss_cons (ps_for PassesOwn.never rfl (pi_range1 (by rfl) T.b_range (pa_cons pe_int pa_nil)) (pg_name (i := 2) sc__law_parsed.nd rfl (Or.inl rfl))
  (pss_one (ps_if (PW.pt (pw_or (pt_cmpR op_ge (pv 2) (pe_callB call_len_seq (by rfl) T.b_len (by decide +kernel) (pa_cons (pe_ix ix_list (pv 0) (pv 1) (fun _ _ => rfl)) pa_nil)) (nomark _)) (pw_or1 (pt_not (pt_val (pe_g G__law_is_good (hr.mono (by decide)) (pa_cons (pv 2) (pa_cons (pe_ix ix_list (pe_ix ix_list (pv 0) (pv 1) (fun _ _ => rfl)) (pv 2) (fun _ _ => rfl)) pa_nil))))))))
  (pss_one (ps_ret (pe_tup (pa_cons pe_str (pa_cons pe_str (pa_cons (pe_lst (pa_cons (pv 1) (pa_cons (pv 2) pa_nil))) pa_nil))))))
  pss_nil)))
  (pss_one (ps_if (pt_cmpR op_gt (pe_callB call_len_seq (by rfl) T.b_len (by decide +kernel) (pa_cons (pe_ix ix_list (pv 0) (pv 1) (fun _ _ => rfl)) pa_nil)) pe_int (nomark _))
  (pss_one (ps_ret (pe_tup (pa_cons pe_str (pa_cons pe_str (pa_cons (pe_lst (pa_cons (pv 1) (pa_cons pe_int pa_nil))) pa_nil))))))
  pss_nil))))
  (C8.pss_cut (ps_set (i := 3) sc__law_parsed.nd rfl (Or.inl rfl) (pe_lst pa_nil))
  (C8.pss_cut (ps_for PassesOwn.never rfl (pi_range1 (by rfl) T.b_range (pa_cons (pe_callB call_len_seq (by rfl) T.b_len (by decide +kernel) (pa_cons (pv 0) pa_nil)) pa_nil)) (pg_name (i := 1) sc__law_parsed.nd rfl (Or.inl rfl))
  (C8.pss_cut (ps_asg (pe_slice sl_list (pe_ix ix_list (pv 0) (pv 1) (fun _ _ => rfl)) (po_some pe_int) (po_some pe_int)) (pg_lst rfl (pgs_cons (pg_name (i := 4) sc__law_parsed.nd rfl (Or.inl rfl)) (pgs_cons (pg_name (i := 5) sc__law_parsed.nd rfl (Or.inl rfl)) pgs_nil))))
  (C8.pss_cut (ps_asg (pe_lc (own := [("_law_word", 11)]) (g := (gName 11)) (by rfl) sc__law_parsed.nd (pi_list (pe_slice sl_list (pe_ix ix_list (pv 0) (pv 1) (fun _ _ => rfl)) (po_some pe_int) po_none)) (blkOk_by (own := [("_law_word", 11)]) (N := ["_law_lines", "_law_k", "_law_j", "_law_found", "_law_source", "_law_target", "_law_first", "_law_last", "_law_way", "_law_order_here", "_law_good", "_law_word"]) (sc := defScope s__law_parsed) (by decide +kernel)) (fun _ _ _ _ _ => (pg_name (i := 11) sc__law_parsed.nd rfl (Or.inl rfl))) (fun _ _ _ _ _ => pts_nil) (fun _ _ _ _ _ => (pe_callTy call_int_str (by rfl) T.b_int (by decide +kernel) (pa_cons (pv 11) pa_nil)))) (pg_lst rfl (pgs_cons (pg_name (i := 6) sc__law_parsed.nd rfl (Or.inl rfl)) (pgs_cons (pg_name (i := 7) sc__law_parsed.nd rfl (Or.inl rfl)) (pgs_cons (pg_name (i := 8) sc__law_parsed.nd rfl (Or.inl rfl)) pgs_nil)))))
  (C8.pss_cut (ps_set (i := 9) sc__law_parsed.nd rfl (Or.inl rfl) (pe_tup (pa_cons (pv 4) (pa_cons (pv 5) (pa_cons (pv 6) (pa_cons (pv 7) (pa_cons (pv 8) pa_nil)))))))
  (C8.pss_cut (ps_set (i := 10) sc__law_parsed.nd rfl (Or.inl rfl) (pe_and (pe_cmpR op_ne (pv 4) (pv 5) (nomark _)) (pe_and (pe_chain op_le op_le (pv 6) (pv 7) (pe_op op_pow pe_int pe_int)) (pe_one (pe_chain op_le op_le pe_int (pv 8) pe_int)))))
  (pss_cons (ps_if (PW.pt (pw_or (pt_cmpR op_eq (pv 1) pe_int (nomark _)) (pw_or (pt_not (pt_val (pv 10))) (pw_or1 (pt_not (pt_val (pe_g G__law_fits (hr.mono (by decide)) (pa_cons (pv 3) (pa_cons (pv 9) pa_nil)))))))))
  (pss_one (ps_ret (pe_tup (pa_cons pe_str (pa_cons pe_str (pa_cons (pe_lst (pa_cons (pv 1) pa_nil)) pa_nil))))))
  pss_nil)
  (pss_one (ps_expr (pe_bm PySem.F.plainAttrs_list PySem.F.slot_list_append PySem.F.type_list_append mt_append (pv 3) (pa_cons (pv 9) pa_nil))))))))))
  (pss_one (ps_ret (pe_callTy call_tuple_of (by rfl) T.b_tuple (by decide +kernel) (pa_cons (pv 3) pa_nil))))))), ?_⟩
    let tl (v1 v2 v3 v4 v5 v6 v7 v8 v9 v10 v11 : Option V) : L2.St := [some (.ref lt), v1, v2, v3, v4, v5, v6, v7, v8, v9, v10, v11]
    have la := PySem.Paired.length RA
    have l40 := R.len
    refine ⟨fun σ' H' => Same H H' ∧ (∀ z ∈ L, badAt z = none) ∧ ∃ v1 v2 v3 v4 v5 v6 v7 v8 v9 v10 v11, σ' = tl v1 v2 v3 v4 v5 v6 v7 v8 v9 v10 v11, ?_, ?_⟩
    · refine ⟨_, rfl, lt, _, rfl, .inl (SqL.of hlt), ?_⟩
      refine ⟨_, rfl, (by rw [List.length_map]; omega), (by rw [List.length_map]; omega), for_it walk_range (fun i σ H' => Same H H' ∧ (∀ m z, m < i → L[m]? = some z → badAt z = none) ∧ ∃ v1 v2 v3 v4 v5 v6 v7 v8 v9 v10 v11, σ = tl v1 v2 v3 v4 v5 v6 v7 v8 v9 v10 v11) ⟨Same.refl _, (fun m z hm => absurd hm (Nat.not_lt_zero _)), _, _, _, _, _, _, _, _, _, _, _, rfl⟩ (fun _ _ _ _ _ => trivial) ?_ ?_⟩
      · rintro i y σ H2 H2' hi ⟨s2, hm, w1, w2, w3, w4, w5, w6, w7, w8, w9, w10, w11, rfl⟩ ⟨rfl, ey⟩
        replace ey : y = .int (i : Nat) := by
          rw [ey]
          show V.int (0 + (i : Nat)) = _
          rw [Int.zero_add]
        subst ey
        have hiL : i < L.length := by
          have : i < (((as.map V.ref).length : Nat) : Int).toNat := hi
          rw [List.length_map] at this
          omega
        obtain ⟨ws, ew⟩ : ∃ ws, L[i]? = some ws := ⟨L[i], List.getElem?_eq_getElem hiL⟩
        obtain ⟨a, ea, eaw⟩ := Paired.get' RA ew
        have wm : ws ∈ L := List.mem_of_getElem? ew
        have w8 := R.wl ws wm
        have hx : atI (as.map V.ref) ((i : Nat) : Int) = some (V.ref a) := atI_nat (by rw [List.getElem?_map, ea]; rfl)
        refine ⟨6, rfl, (by decide), (by decide), for_it walk_range (fun j σ H' => Same H H' ∧ (∀ m, m < j → badP ws m = false) ∧ ∃ v2 v3 v4 v5 v6 v7 v8 v9 v10 v11, σ = tl (some (.int (i : Nat))) v2 v3 v4 v5 v6 v7 v8 v9 v10 v11) ⟨s2, (fun m hm => absurd hm (Nat.not_lt_zero _)), _, _, _, _, _, _, _, _, _, _, rfl⟩ (fun _ _ _ _ _ => trivial) ?_ ?_⟩
        · rintro j y σ H3 H3' hj ⟨s3, hb, w2, w3, w4, w5, w6, w7, w8, w9, w10, w11, rfl⟩ ⟨rfl, ey⟩
          replace ey : y = .int (j : Nat) := by
            rw [ey]
            show V.int (0 + (j : Nat)) = _
            rw [Int.zero_add]
          subst ey
          have j6 : j < 6 := hj
          have S0 := SqL.of (K := K) (s3 _ _ hlt)
          have S1 := SqL.of (K := K) (s3 _ _ eaw)
          have bad : badP ws j = true → ∀ H', Same H H' → tRet (tTup (tCons (tC (V.str "error")) (tCons (tC (V.str "NotationError")) (tCons (tLst (tCons (tVar 1) (tCons (tVar 2) tNil))) tNil)))) { nx := fun _ _ => False, rt := Q } (tl (some (.int (i : Nat))) (some (.int (j : Nat))) w3 w4 w5 w6 w7 w8 w9 w10 w11) H' := fun hbj H' s' => by
            refine ⟨_, rfl, _, rfl, (by show 2 ≤ sizeLine; decide), ?_⟩
            intro l hl
            generalize gH4 : L2.upd _ l _ = H4
            obtain ⟨s4, e4⟩ := newS hl gH4
            clear gH4
            refine ⟨(by show 3 ≤ sizeLine; decide), ?_⟩
            intro q hq
            generalize gH5 : L2.upd _ q _ = H5
            obtain ⟨s5, e5⟩ := newS hq gH5
            clear gH5
            have := noteAt_first (badAt_first hb j6 hbj) (k := 0) hm ew
            rw [Nat.zero_add] at this
            exact kn i j this H5 q ((s'.trans s4).trans s5) ⟨l, e5, s5 _ _ e4⟩
          refine ⟨_, rfl, _, rfl, _, rfl, lt, _, _, _, rfl, rfl, S0, hx, a, _, rfl, .inl S1, _, _, rfl, rfl, _, rfl, ?_⟩
          rw [List.length_map]
          by_cases c : ws.length ≤ j
          · refine iteD (by show ((ws.length : Nat) : Int) ≤ (j : Nat); omega) ?_
            refine iteT (bad ?_ _ s3)
            unfold badP
            rw [List.getElem?_eq_none c]
          · refine iteDN (fun h => c (by have : ((ws.length : Nat) : Int) ≤ (j : Nat) := h; omega)) ?_
            obtain ⟨x, ex⟩ : ∃ x, ws[j]? = some x := ⟨ws[j], List.getElem?_eq_getElem (by omega)⟩
            have wx := R.ok ws wm x (List.mem_of_getElem? ex)
            refine ⟨_, rfl, _, rfl, _, rfl, lt, _, _, _, rfl, rfl, S0, hx, _, rfl, a, _, _, _, rfl, rfl, S1, atI_nat (by rw [List.getElem?_map, ex]; rfl), j, x, rfl, Nat.le_trans wx.len (by decide), wx.asc, fun H4 s4 => ⟨_, rfl, ?_⟩⟩
            have hbx : badP ws j = !goodW j x := by unfold badP; rw [ex]
            cases cg : goodW j x with
            | true =>
              refine iteF ⟨s3.trans s4, fun m hmi => ?_, _, _, _, _, _, _, _, _, _, _, rfl⟩
              by_cases e : m = j
              · rw [e, hbx, cg]; rfl
              · exact hb m (by omega)
            | false => exact iteT (bad (by rw [hbx, cg]; rfl) _ (s3.trans s4))
        · rintro σ H3 ⟨s3, hb, w2, w3, w4, w5, w6, w7, w8, w9, w10, w11, rfl⟩
          have hr := badAt_rest hb
          have S0 := SqL.of (K := K) (s3 _ _ hlt)
          have S1 := SqL.of (K := K) (s3 _ _ eaw)
          refine ⟨_, rfl, _, rfl, lt, _, _, _, rfl, rfl, S0, hx, a, _, rfl, .inl S1, _, _, rfl, rfl, _, rfl, ?_⟩
          rw [List.length_map]
          by_cases c : 6 < ws.length
          · refine iteD (by show (6 : Int) < (ws.length : Nat); omega) ?_
            rw [if_pos c] at hr
            refine ⟨_, rfl, (by show 2 ≤ sizeLine; decide), ?_⟩
            intro l hl
            generalize gH4 : L2.upd _ l _ = H4
            obtain ⟨s4, e4⟩ := newS hl gH4
            clear gH4
            refine ⟨(by show 3 ≤ sizeLine; decide), ?_⟩
            intro q hq
            generalize gH5 : L2.upd _ q _ = H5
            obtain ⟨s5, e5⟩ := newS hq gH5
            clear gH5
            have := noteAt_first hr (k := 0) hm ew
            rw [Nat.zero_add] at this
            exact kn i 6 this H5 q ((s3.trans s4).trans s5) ⟨l, e5, s5 _ _ e4⟩
          · refine iteDN (fun h => c (by have : (6 : Int) < (ws.length : Nat) := h; omega)) ?_
            rw [if_neg c] at hr
            refine ⟨s3, fun m z hmi ez => ?_, _, _, _, _, _, _, _, _, _, _, _, rfl⟩
            by_cases e : m = i
            · rw [e, ew] at ez
              cases ez
              exact hr
            · exact hm m z (by omega) ez
      · rintro σ H2 ⟨s2, hm, w1, w2, w3, w4, w5, w6, w7, w8, w9, w10, w11, rfl⟩
        refine ⟨s2, fun z hz => ?_, _, _, _, _, _, _, _, _, _, _, _, rfl⟩
        obtain ⟨m, em⟩ := List.mem_iff_getElem?.mp hz
        refine hm m z ?_ em
        show m < (((as.map V.ref).length : Nat) : Int).toNat
        rw [List.length_map]
        have := (List.getElem?_eq_some_iff.mp em).1
        omega
    rintro σ H1 ⟨s1, hall, w1, w2, w3, w4, w5, w6, w7, w8, w9, w10, w11, rfl⟩
    have nn : noteAt 0 L = none := noteAt_all hall
    have raw : ∀ o ∈ L.map ordW, RawOk o := fun o ho => by
      obtain ⟨ws, hw, rfl⟩ := List.mem_map.mp ho
      exact ordW_raw (hall ws hw)
    refine ⟨fun σ' H' => Same H H' ∧ ∃ lf, H lf = none ∧ H' lf = some (.lst []) ∧ ∃ v1 v2 v4 v5 v6 v7 v8 v9 v10 v11, σ' = tl v1 v2 (some (.ref lf)) v4 v5 v6 v7 v8 v9 v10 v11, ?_, ?_⟩
    · refine ⟨Nat.zero_le _, ?_⟩
      intro lf hlf
      generalize gH2 : L2.upd _ lf _ = H2
      obtain ⟨s2, e2⟩ := newS hlf gH2
      clear gH2
      exact ⟨s1.trans s2, lf, s1.free hlf, e2, _, _, _, _, _, _, _, _, _, _, rfl⟩
    clear s1
    rintro σ H1 ⟨s1, lf, hlf, elf, w1, w2, w4, w5, w6, w7, w8, w9, w10, w11, rfl⟩
    let found (i : Nat) : List Ordr := (L.take i).map ordW
    refine ⟨fun σ' H' => badOrd [] (L.map ordW) = none ∧ Same H H' ∧ ∃ bs : List Addr, H' lf = some (.lst (bs.map V.ref)) ∧ OrdsAt K H' bs (L.map ordW) ∧ ∃ v1 v2 v4 v5 v6 v7 v8 v9 v10 v11, σ' = tl v1 v2 (some (.ref lf)) v4 v5 v6 v7 v8 v9 v10 v11, ?_, ?_⟩
    · refine ⟨_, rfl, lt, _, rfl, .inl (SqL.of (s1 _ _ hlt)), ?_⟩
      refine ⟨_, rfl, (by rw [List.length_map]; omega), (by rw [List.length_map]; omega), for_it walk_range (fun i σ H' => badOrd [] (L.map ordW) = badOrd (found i) ((L.drop i).map ordW) ∧ Same H H' ∧ ∃ bs : List Addr, H' lf = some (.lst (bs.map V.ref)) ∧ OrdsAt K H' bs (found i) ∧ ∃ v1 v2 v4 v5 v6 v7 v8 v9 v10 v11, σ = tl v1 v2 (some (.ref lf)) v4 v5 v6 v7 v8 v9 v10 v11) ⟨rfl, s1, [], elf, .nil, _, _, _, _, _, _, _, _, _, _, rfl⟩ (fun _ _ _ _ _ => trivial) ?_ ?_⟩
      · rintro i y σ H2 H2' hi ⟨eb, s2, bs, e2, O2, w1, w2, w4, w5, w6, w7, w8, w9, w10, w11, rfl⟩ ⟨rfl, ey⟩
        replace ey : y = .int (i : Nat) := by
          rw [ey]
          show V.int (0 + (i : Nat)) = _
          rw [Int.zero_add]
        subst ey
        have hiL : i < L.length := by
          have : i < (((as.map V.ref).length : Nat) : Int).toNat := hi
          rw [List.length_map] at this
          omega
        obtain ⟨ws, ew⟩ : ∃ ws, L[i]? = some ws := ⟨L[i], List.getElem?_eq_getElem hiL⟩
        obtain ⟨a, ea, eaw⟩ := Paired.get' RA ew
        have wm : ws ∈ L := List.mem_of_getElem? ew
        have hx : atI (as.map V.ref) ((i : Nat) : Int) = some (V.ref a) := atI_nat (by rw [List.getElem?_map, ea]; rfl)
        have hbw := hall ws wm
        obtain ⟨l6, hg⟩ := badAt_none hbw
        obtain ⟨w0, x1, x2, x3, x4, x5, rfl⟩ := six l6
        have n3 := numB_int (w := x3) (hg 3 _ rfl)
        have n4 := numB_int (w := x4) (hg 4 _ rfl)
        have n5 := numB_int (w := x5) (hg 5 _ rfl)
        have fi : found (i + 1) = found i ++ [ordW [w0, x1, x2, x3, x4, x5]] := by
          show (L.take (i + 1)).map ordW = _
          rw [List.take_add_one, ew, List.map_append]
          rfl
        have di : (L.drop i).map ordW = ordW [w0, x1, x2, x3, x4, x5] :: (L.drop (i + 1)).map ordW := by
          rw [List.drop_eq_getElem_cons hiL, List.map_cons]
          rw [List.getElem?_eq_getElem hiL] at ew
          rw [Option.some.inj ew]
        have lfi : (found i).length = i := by
          show ((L.take i).map ordW).length = i
          rw [List.length_map, List.length_take]
          omega
        have lbs := PySem.Paired.length O2
        refine ⟨fun σ' H' => Same H H' ∧ H' lf = some (.lst (bs.map V.ref)) ∧ OrdsAt K H' bs (found i) ∧ ∃ v2 v6 v7 v8 v9 v10 v11, σ' = tl (some (.int (i : Nat))) v2 (some (.ref lf)) (some (.str x1)) (some (.str x2)) v6 v7 v8 v9 v10 v11, ?_, ?_⟩
        · refine ⟨_, rfl, _, rfl, lt, _, _, _, rfl, rfl, SqL.of (s2 _ _ hlt), hx, _, rfl, _, rfl, a, _, rfl, SqL.of (s2 _ _ eaw), ?_⟩
          intro l1 hl1
          generalize gH3 : L2.upd _ l1 _ = H3
          obtain ⟨s3, e3⟩ := newS hl1 gH3
          clear gH3
          replace e3 : H3 l1 = some (.lst [.str x1, .str x2]) := e3
          refine ⟨l1, _, rfl, SqL.of e3, rfl, _, _, rfl, _, _, rfl, rfl, ?_⟩
          exact ⟨s2.trans s3, s3 _ _ e2, O2.mono s3, _, _, _, _, _, _, _, rfl⟩
        clear s2 e2 O2
        rintro σ H2 ⟨s2, e2, O2, w2, w6, w7, w8, w9, w10, w11, rfl⟩
        refine ⟨fun σ' H' => Same H H' ∧ H' lf = some (.lst (bs.map V.ref)) ∧ OrdsAt K H' bs (found i) ∧ ∃ v2 v9 v10 v11, σ' = tl (some (.int (i : Nat))) v2 (some (.ref lf)) (some (.str x1)) (some (.str x2)) (some (.int (valW x3))) (some (.int (valW x4))) (some (.int (valW x5))) v9 v10 v11, ?_, ?_⟩
        · refine ⟨_, rfl, _, rfl, lt, _, _, _, rfl, rfl, SqL.of (s2 _ _ hlt), hx, _, rfl, a, _, rfl, SqL.of (s2 _ _ eaw), ?_⟩
          intro l1 hl1
          generalize gH3 : L2.upd _ l1 _ = H3
          obtain ⟨s3, e3⟩ := newS hl1 gH3
          clear gH3
          replace e3 : H3 l1 = some (.lst ([x3, x4, x5].map V.str)) := e3
          refine ⟨l1, rfl, ⟨_, SqL.of e3⟩, fun D hD => ?_⟩
          refine lc_it (walk_list (xs := [x3, x4, x5].map V.str)) (fun m H' => Same H3 H' ∧ H' D = some (.lst ((([x3, x4, x5].take m).map valW).map V.int))) ⟨Same.new hD, upd_same⟩ (fun m H' _ q => SqL.of (q.1 _ _ e3)) ?_ ?_
          · rintro m y Hx H4 hm ⟨s4, e4⟩ ⟨rfl, ey⟩
            have hm3 : m < 3 := hm
            obtain ⟨z, ez⟩ : ∃ z, [x3, x4, x5][m]? = some z := ⟨[x3, x4, x5][m], List.getElem?_eq_getElem (by show m < 3; exact hm3)⟩
            rw [List.getElem?_map, ez] at ey
            cases ey
            have hz : intText? z = some (valW z) ∧ z.length ≤ 19 := by
              have : z ∈ [x3, x4, x5] := List.mem_of_getElem? ez
              simp only [List.mem_cons, List.not_mem_nil, or_false] at this
              rcases this with rfl | rfl | rfl
              · exact n3
              · exact n4
              · exact n5
            refine ⟨rfl, yesT (iteT ?_)⟩
            refine ⟨_, rfl, z, _, rfl, hz.1, by omega, _, e4, ?_, fun b u e => ?_, ?_⟩
            · rw [List.length_map, List.length_map, List.length_take, sizeLine_eq]
              omega
            · rw [upd_ne (ne_of_none e hD)]
              exact s4 _ _ e
            · rw [upd_same, List.take_add_one, ez, List.map_append, List.map_append]
              rfl
          · rintro H4 ⟨s4, e4⟩
            replace e4 : H4 D = some (.lst [.int (valW x3), .int (valW x4), .int (valW x5)]) := e4
            have s34 := s3.trans s4
            refine ⟨D, _, rfl, SqL.of e4, rfl, _, _, rfl, _, _, rfl, _, _, rfl, rfl, ?_⟩
            exact ⟨s2.trans s34, s34 _ _ e2, O2.mono s34, _, _, _, _, rfl⟩
        clear s2 e2 O2
        rintro σ H2 ⟨s2, e2, O2, w2, w9, w10, w11, rfl⟩
        let o : Ordr := ordW [w0, x1, x2, x3, x4, x5]
        refine ⟨fun σ' H' => Same H H' ∧ H' lf = some (.lst (bs.map V.ref)) ∧ OrdsAt K H' bs (found i) ∧ ∃ q, OrdAt K H' q o ∧ ∃ v2 v10 v11, σ' = tl (some (.int (i : Nat))) v2 (some (.ref lf)) (some (.str x1)) (some (.str x2)) (some (.int (valW x3))) (some (.int (valW x4))) (some (.int (valW x5))) (some (.ref q)) v10 v11, ?_, ?_⟩
        · refine ⟨_, rfl, _, rfl, _, rfl, _, rfl, _, rfl, (by show 5 ≤ sizeLine; decide), ?_⟩
          intro q hq
          generalize gH3 : L2.upd _ q _ = H3
          obtain ⟨s3, e3⟩ := newS hq gH3
          clear gH3
          exact ⟨s2.trans s3, s3 _ _ e2, O2.mono s3, q, .inl (.inl e3), _, _, _, rfl⟩
        clear s2 e2 O2
        rintro σ H2 ⟨s2, e2, O2, q, oq, w2, w10, w11, rfl⟩
        refine ⟨fun σ' H' => H' = H2 ∧ ∃ v2 v4 v5 v6 v7 v8 v11, σ' = tl (some (.int (i : Nat))) v2 (some (.ref lf)) v4 v5 v6 v7 v8 (some (.ref q)) (some (.bl (okOrd o))) v11, ?_, ?_⟩
        · have eo : okOrd o = (decide (x1 ≠ x2) && (decide (valW x3 ≤ valW x4) && decide (valW x4 ≤ 1000000000000000000)) && (decide (1 ≤ valW x5) && decide (valW x5 ≤ 30))) := rfl
          refine ⟨_, rfl, _, rfl, rfl, _, rfl, ?_⟩
          by_cases c1 : x1 = x2
          · refine iteND (by rw [c1]) ?_
            rw [show okOrd o = false from by rw [eo]; simp [c1]]
            exact ⟨rfl, _, _, _, _, _, _, _, rfl⟩
          · refine iteNDN (fun e => c1 (V.str.inj e)) ?_
            refine ⟨_, rfl, _, rfl, _, _, rfl, rfl, _, rfl, ?_⟩
            by_cases c2 : valW x3 ≤ valW x4
            · refine iteD c2 ?_
              refine ⟨_, _, rfl, rfl, ⟨by decide, by decide, by decide⟩, _, _, rfl, rfl, _, rfl, ?_⟩
              rw [pow18]
              by_cases c3 : valW x4 ≤ 1000000000000000000
              · refine iteD c3 ?_
                refine ⟨_, rfl, _, _, rfl, rfl, _, rfl, ?_⟩
                by_cases c4 : 1 ≤ valW x5
                · refine iteD c4 ?_
                  refine ⟨_, _, rfl, rfl, ?_⟩
                  rw [show okOrd o = decide (valW x5 ≤ 30) from by rw [eo]; simp [c1, c2, c3, c4]]
                  exact ⟨rfl, _, _, _, _, _, _, _, rfl⟩
                · refine iteDN c4 ?_
                  rw [show okOrd o = false from by rw [eo]; simp [c4]]
                  exact ⟨rfl, _, _, _, _, _, _, _, rfl⟩
              · refine iteDN c3 ?_
                rw [show okOrd o = false from by rw [eo]; simp [c3]]
                exact ⟨rfl, _, _, _, _, _, _, _, rfl⟩
            · refine iteDN c2 ?_
              refine ⟨_, rfl, iteF ?_⟩
              rw [show okOrd o = false from by rw [eo]; simp [c2]]
              exact ⟨rfl, _, _, _, _, _, _, _, rfl⟩
        rintro σ H3 ⟨rfl, w2, w4, w5, w6, w7, w8, w11, rfl⟩
        have step : ∀ r, (if (found i).length = 30 ∨ okOrd o = false ∨ ((found i).any fun p => overB p o) = true then some (found i).length else badOrd (found i ++ [o]) ((L.drop (i + 1)).map ordW)) = r → badOrd [] (L.map ordW) = r := fun r e => by
          rw [eb, di, ← e]
          rfl
        have bad : ((found i).length = 30 ∨ okOrd o = false ∨ ((found i).any fun p => overB p o) = true) → ∀ {σ : L2.St} {H' : Hp}, σ[1]? = some (some (.int (i : Nat))) → Same H H' → tRet (tTup (tCons (tC (V.str "error")) (tCons (tC (V.str "InvalidOrder")) (tCons (tLst (tCons (tVar 1) tNil)) tNil)))) { nx := fun _ _ => False, rt := Q } σ H' := fun hb σ H' hσ s' => by
          refine ⟨_, hσ, (by show 1 ≤ sizeLine; decide), ?_⟩
          intro l hl
          generalize gH4 : L2.upd _ l _ = H4
          obtain ⟨s4, e4⟩ := newS hl gH4
          clear gH4
          refine ⟨(by show 3 ≤ sizeLine; decide), ?_⟩
          intro q2 hq2
          generalize gH5 : L2.upd _ q2 _ = H5
          obtain ⟨s5, e5⟩ := newS hq2 gH5
          clear gH5
          have := step _ (if_pos hb)
          rw [lfi] at this
          exact ko nn i this H5 q2 ((s'.trans s4).trans s5) ⟨l, e5, s5 _ _ e4⟩
        refine ⟨_, rfl, rfl, _, rfl, ?_⟩
        by_cases c30 : i = 30
        · refine iteD (by rw [c30]; rfl) ?_
          exact iteT (bad (.inl (by rw [lfi]; exact c30)) rfl s2)
        · refine iteDN (fun e => c30 (by have := V.int.inj e; omega)) ?_
          refine ⟨_, rfl, _, rfl, ?_⟩
          cases cg : okOrd o with
          | false => exact iteT (iteT (bad (.inr (.inl cg)) rfl s2))
          | true =>
            refine iteF ?_
            refine ⟨_, rfl, _, rfl, lf, bs, found i, q, o, rfl, SqL.of e2, O2, by omega, oq, fun H4 s4 => ⟨_, rfl, ?_⟩⟩
            unfold fitsB
            cases cf : (found i).any fun p => overB p o with
            | true => exact iteT (bad (.inr (.inr cf)) rfl (s2.trans s4))
            | false =>
              refine iteF ?_
              have e4 := s4 _ _ e2
              refine ⟨_, rfl, .inl ⟨rfl, _, SqL.of e4⟩, _, rfl, lf, _, _, rfl, rfl, e4, by rw [List.length_map, sizeLine_eq]; omega, ?_⟩
              have up : ∀ b u, H4 b = some u → b ≠ lf → (upd H4 lf (.lst (bs.map V.ref ++ [.ref q]))) b = some u := fun b u e nb => by rw [upd_ne nb]; exact e
              have kt : ∀ b u, H4 b = some u → tupl u = true → (upd H4 lf (.lst (bs.map V.ref ++ [.ref q]))) b = some u := fun b u e y => up b u e fun w => by
                rw [w, e4] at e
                cases e
                cases y
              refine ⟨step _ ?_, fun b u e => up b u ((s2.trans s4) b u e) (ne_of_none e hlf), bs ++ [q], by rw [upd_same, List.map_append]; rfl, ?_, _, _, _, _, _, _, _, _, _, _, rfl⟩
              · rw [if_neg (by
                  rintro (z | z | z)
                  · exact c30 (by rw [lfi] at z; exact z)
                  · rw [cg] at z; cases z
                  · rw [cf] at z; cases z), fi]
              · rw [fi]
                exact Paired.append (OrdsAt.keepR (O2.mono s4) kt) (OrdsAt.keepR (as := [q]) (os := [o]) (.cons (OrdAt.mono oq s4) .nil) kt)
      · rintro σ H2 ⟨eb, s2, bs, e2, O2, w1, w2, w4, w5, w6, w7, w8, w9, w10, w11, rfl⟩
        have el : (((as.map V.ref).length : Nat) : Int).toNat = L.length := by rw [List.length_map]; omega
        rw [el] at eb O2
        replace O2 : OrdsAt K H2 bs ((L.take L.length).map ordW) := O2
        rw [List.take_length] at O2
        rw [List.drop_length] at eb
        exact ⟨eb, s2, bs, e2, O2, _, _, _, _, _, _, _, _, _, _, rfl⟩
    rintro σ H2 ⟨nb, s2, bs, e2, O2, w1, w2, w4, w5, w6, w7, w8, w9, w10, w11, rfl⟩
    refine ⟨_, rfl, lf, _, rfl, .inl ⟨SqL.of e2, fun q hq => ?_⟩⟩
    have s3 := Same.new (o := .tup (bs.map V.ref)) hq
    exact kq nn nb _ q bs (s2.trans s3) upd_same (O2.mono s3)
end

end MF
set_option Elab.async false
set_option linter.all false
set_option maxRecDepth 100000
set_option maxHeartbeats 2000000
set_option pp.maxSteps 600
namespace MF
open PySem PySem.Spec PyProof.Rows L2 StX
section
variable {P : Program} {w : World} {K : PySem.W.Frag} {mg : Str → Option Value} {base : Heap} {C_Book C_MailError C_InvalidOperation C_InvalidOrder C_UnknownOrder C_NotHolding C_DecodeError C_NotationError C_UnknownLetter C_InvalidAddress C_InvalidDay C_InvalidNumber C_Contradiction C_InvalidCount : Addr}
structure ODs (most : Int) (os : List Ordr) : Prop where
  all : ∀ o ∈ os, OD most o
  apart : os.Pairwise fun o p => overB o p = false
theorem ODs.good {most : Int} {os : List Ordr} (h : ODs most os) (hm : most ≤ 1000) (hl : os.length ≤ 30) : Good os := ⟨hl, fun o ho => (h.all o ho).ok hm, h.apart⟩
theorem ODs.nil {most : Int} : ODs most [] := ⟨(fun _ z => by cases z), .nil⟩
theorem ODs.snoc {most : Int} {os : List Ordr} (h : ODs most os) {o : Ordr} (ho : OD most o) (hf : fitsB os o = true) : ODs most (os ++ [o]) := by
  refine ⟨fun p hp => ?_, List.pairwise_append.mpr ⟨h.apart, by simp, fun p hp q hq => ?_⟩⟩
  · rcases List.mem_append.mp hp with z | z
    · exact h.all p z
    · rw [List.mem_singleton.mp z]; exact ho
  · rw [List.mem_singleton.mp hq]
    cases c : overB p o with
    | false => rfl
    | true =>
      have : os.any (fun p => overB p o) = true := List.any_eq_true.mpr ⟨p, hp, c⟩
      unfold fitsB at hf
      rw [this] at hf
      cases hf
def spOrdersD (K : PySem.W.Frag) : Sp := fun vs H Q _ => ∃ rw sc ns, ∃ many : Nat, ∃ most, vs = [.ref rw, .int (many : Nat), .int most] ∧ RowAt K H rw sc ns ∧ many ≤ 29 ∧ 1 ≤ most ∧ most ≤ 1000 ∧
  ∀ H' l as os, KeepR rw H H' → H l = none → RowAt K H' rw sc ns → H' l = some (.lst (as.map V.ref)) → OrdsAt K H' as os → os.length ≤ many → ODs most os → Q (.ref l) H'
theorem ok_ordersD (T : Top K mg C_Book C_MailError C_InvalidOperation C_InvalidOrder C_UnknownOrder C_NotHolding C_DecodeError C_NotationError C_UnknownLetter C_InvalidAddress C_InvalidDay C_InvalidNumber C_Contradiction C_InvalidCount) : GFn P w K mg base CX0 4 "_law_orders" (spOrdersD K) := by
  have G__law_next : GFn P w K mg base CX0 1 "_law_next" (spTaken K) := ok_next T
  have G__law_order : GFn P w K mg base CX0 3 "_law_order" (spOrderD K) := ok_orderD T
  have G__law_fits : GFn P w K mg base CX0 1 "_law_fits" (spFits K) := ok_fits T
  refine T.d__law_orders.fn fun f fd F => F.ok sc__law_orders (fun vs H Q E h => ?_) (fun cdv A outer s H vs Q E hr h => ?_)
  · obtain ⟨rw, sc, ns, many, most, rfl, _⟩ := h
    rfl
  · obtain ⟨rw, sc, ns, many, most, rfl, R, hm, m1, m2, k⟩ := h
    refine ⟨_, (pss_cons (ps_set (i := 3) sc__law_orders.nd rfl (Or.inl rfl) (pe_lst pa_nil))
  (pss_cons (ps_for PassesOwn.never rfl (pi_range1 (by rfl) T.b_range (pa_cons (pe_g G__law_next (hr.mono (by decide)) (pa_cons (pv 0) (pa_cons (pe_op op_add (pv 1) pe_int) pa_nil))) pa_nil)) (pg_name (i := 4) sc__law_orders.nd rfl (Or.inl rfl))
  (pss_cons (ps_set (i := 5) sc__law_orders.nd rfl (Or.inl rfl) (pe_g G__law_order (hr.mono (by decide)) (pa_cons (pv 0) (pa_cons (pv 2) pa_nil))))
  (pss_one (ps_set (i := 3) sc__law_orders.nd rfl (Or.inl rfl) (pe_op op_cat (pv 3) (pe_ifExp (pt_val (pe_g G__law_fits (hr.mono (by decide)) (pa_cons (pv 3) (pa_cons (pv 5) pa_nil)))) (pe_lst (pa_cons (pv 5) pa_nil)) (pe_lst pa_nil)))))))
  (pss_one (ps_ret (pv 3))))), ?_⟩
    refine ⟨Nat.zero_le _, ?_⟩
    intro l0 hl0
    generalize gH1 : L2.upd _ l0 _ = H1
    obtain ⟨s1, e1⟩ := newS hl0 gH1
    clear gH1
    have R1 := R.keep s1
    have nl : l0 ≠ rw := R.fresh hl0
    refine ⟨_, rfl, _, rfl, _, _, rfl, rfl, rw, sc, ns, _, rfl, R1, by omega, by omega, fun v H2 v0 v1 R2 k2 => ?_⟩
    have e2 := k2 _ _ e1 nl
    refine ⟨v, rfl, by omega, by omega, for_it walk_range (fun i σ H' => KeepR rw H H' ∧ RowAt K H' rw sc ns ∧ ∃ l as os v4 v5, σ = [some (.ref rw), some (.int (many : Nat)), some (.int most), some (.ref l), v4, v5] ∧ H l = none ∧ l ≠ rw ∧ H' l = some (.lst ((as : List Addr).map V.ref)) ∧ OrdsAt K H' as os ∧ os.length ≤ i ∧ ODs most os)
      ⟨fun b u e n => k2 _ _ (s1 _ _ e) n, R2, l0, [], [], _, _, rfl, hl0, nl, e2, .nil, Nat.le_refl _, .nil⟩ (fun _ _ _ _ _ => trivial) ?_ ?_⟩
    · rintro i y σ Hx H3 hi ⟨kr, R3, l, as, os, v4, v5, rfl, fl, nl, el, ol, li, od⟩ ⟨rfl, rfl⟩
      have hi2 : i < v.toNat := hi
      have li' := PySem.Paired.length ol
      refine ⟨_, rfl, _, rfl, rw, sc, ns, most, rfl, R3, m1, m2, fun H4 q o kr4 fq R4 oq odo => ?_⟩
      have e4 := kr4 _ _ el nl
      have ol4 := ol.keepR (kr4.tup R3)
      refine ⟨_, rfl, _, rfl, _, rfl, l, as, os, q, o, rfl, SqL.of e4, ol4, by omega, oq, fun H5 s5 => ⟨_, rfl, ?_⟩⟩
      have fresh : ∀ {p : Addr} {H6 : Hp}, Same H4 H6 → H6 p = none → H p = none ∧ p ≠ rw := fun {p H6} s h => by
        have np : p ≠ rw := fun z => by
          obtain ⟨xs, w⟩ := R4.ex
          rw [← z] at w
          rw [s _ _ w] at h
          cases h
        refine ⟨?_, np⟩
        cases w : H p with
        | none => rfl
        | some u => rw [s _ _ (kr4 _ _ (kr _ _ w np) np)] at h; cases h
      cases hf : fitsB os o with
      | true =>
        refine iteT ?_
        refine ⟨_, rfl, (by show 1 ≤ sizeLine; decide), ?_⟩
        intro z hz
        generalize gH6 : L2.upd _ z _ = H6
        obtain ⟨s6, e6⟩ := newS hz gH6
        clear gH6
        have s56 := s5.trans s6
        refine ⟨l, z, _, _, rfl, rfl, s56 _ _ e4, e6, by rw [List.length_map, sizeLine_eq]; show as.length + 1 ≤ _; omega, ?_⟩
        intro l7 hl7
        generalize gH7 : L2.upd _ l7 _ = H7
        obtain ⟨s7, e7⟩ := newS hl7 gH7
        clear gH7
        have s47 := s56.trans s7
        refine ⟨fun b u e n => s47 _ _ (kr4 _ _ (kr _ _ e n) n), R4.keep s47, l7, as ++ [q], os ++ [o], _, _, rfl, (fresh s56 hl7).1, (fresh s56 hl7).2, by rw [e7, List.map_append]; rfl, Paired.append (ol4.mono s47) (.cons (oq.mono s47) .nil), by rw [List.length_append]; show os.length + 1 ≤ i + 1; omega, od.snoc odo hf⟩
      | false =>
        refine iteF ?_
        refine ⟨Nat.zero_le _, ?_⟩
        intro z hz
        generalize gH6 : L2.upd _ z _ = H6
        obtain ⟨s6, e6⟩ := newS hz gH6
        clear gH6
        have s56 := s5.trans s6
        refine ⟨l, z, _, _, rfl, rfl, s56 _ _ e4, e6, by rw [List.length_map, sizeLine_eq]; show as.length + 0 ≤ _; omega, ?_⟩
        intro l7 hl7
        generalize gH7 : L2.upd _ l7 _ = H7
        obtain ⟨s7, e7⟩ := newS hl7 gH7
        clear gH7
        have s47 := s56.trans s7
        refine ⟨fun b u e n => s47 _ _ (kr4 _ _ (kr _ _ e n) n), R4.keep s47, l7, as, os, _, _, rfl, (fresh s56 hl7).1, (fresh s56 hl7).2, by rw [e7, List.append_nil], ol4.mono s47, by omega, od⟩
    · rintro σ H3 ⟨kr, R3, l, as, os, v4, v5, rfl, fl, nl, el, ol, li, od⟩
      have li2 : os.length ≤ v.toNat := li
      exact ⟨_, rfl, k _ l as os kr fl R3 el ol (by omega) od⟩
end

end MF
set_option Elab.async false
set_option linter.all false
set_option maxRecDepth 100000
set_option maxHeartbeats 2000000
set_option pp.maxSteps 600
namespace MF
open PySem PySem.Spec PyProof.Rows L2 StX
section
variable {P : Program} {w : World} {K : PySem.W.Frag} {mg : Str → Option Value} {base : Heap} {C_Book C_MailError C_InvalidOperation C_InvalidOrder C_UnknownOrder C_NotHolding C_DecodeError C_NotationError C_UnknownLetter C_InvalidAddress C_InvalidDay C_InvalidNumber C_Contradiction C_InvalidCount : Addr}
def RowsR (rw : Addr) (H : Hp) (as : List Addr) (L : List (List Str)) : Prop := PySem.Paired (fun a (ws : List Str) => H a = some (.lst (ws.map V.str)) ∧ a ≠ rw) as L
theorem RowsR.mono {rw : Addr} {H H' : Hp} {as : List Addr} {L : List (List Str)} (h : RowsR rw H as L) (s : Same H H') : RowsR rw H' as L := PySem.Paired.mono (fun _ _ e => ⟨s _ _ e.1, e.2⟩) h
theorem RowsR.keepR {rw : Addr} {H H' : Hp} {as : List Addr} {L : List (List Str)} (h : RowsR rw H as L) (k : KeepR rw H H') : RowsR rw H' as L := PySem.Paired.mono (fun _ _ e => ⟨k _ _ e.1 e.2, e.2⟩) h
theorem RowsR.but {rw D : Addr} {u : HO} {H : Hp} {as : List Addr} {L : List (List Str)} (h : RowsR rw H as L) (nD : ∀ a ∈ as, a ≠ D) : RowsR rw (upd H D u) as L := by
  induction h with
  | nil => exact .nil
  | cons e t ih => exact .cons ⟨by rw [upd_ne (nD _ (by simp))]; exact e.1, e.2⟩ (ih fun a ha => nD a (by simp [ha]))
theorem RowsR.at {rw : Addr} {H : Hp} {as : List Addr} {L : List (List Str)} (h : RowsR rw H as L) : RowsAt H as L := PySem.Paired.mono (fun _ _ e => e.1) h
theorem rset46 {rw : Addr} {H : Hp} {ws : List Str} {nb : Addr} (e : H nb = some (.lst (ws.map V.str)) ∧ nb ≠ rw) : ∀ {as : List Addr} {L : List (List Str)} {k : Nat}, RowsR rw H as L → RowsR rw H (as.set k nb) (L.set k ws)
  | _, _, _, .nil => .nil
  | _, _, 0, .cons _ t => .cons e t
  | _, _, k + 1, .cons x t => .cons x (rset46 e t)
theorem rtake46 {rw : Addr} {H : Hp} : ∀ {as : List Addr} {L : List (List Str)} (k : Nat), RowsR rw H as L → RowsR rw H (as.take k) (L.take k)
  | _, _, 0, _ => by rw [List.take_zero, List.take_zero]; exact .nil
  | _, _, _ + 1, .nil => .nil
  | _, _, k + 1, .cons x t => .cons x (rtake46 k t)
theorem rdrop46 {rw : Addr} {H : Hp} : ∀ {as : List Addr} {L : List (List Str)} (k : Nat), RowsR rw H as L → RowsR rw H (as.drop k) (L.drop k)
  | _, _, 0, h => h
  | _, _, _ + 1, .nil => .nil
  | _, _, k + 1, .cons _ t => rdrop46 k t
theorem ixN46 {n j : Nat} (hj : j < n) : ixN n (j : Int) = some j := by
  unfold ixN
  rw [if_pos (by omega), if_pos (by omega)]
  simp
theorem cut_hi46 (xs : List V) (c : Nat) : cutV xs none (some (c : Int)) = xs.take c := by
  unfold cutV
  rw [HT.sIx_nat, HT.sIx_none]
  simp
theorem cut_lo46 (xs : List V) {c : Nat} (h : c ≤ xs.length) : cutV xs (some (c : Int)) none = xs.drop c := by
  unfold cutV
  rw [HT.sIx_nat, HT.sIx_none, Nat.min_eq_left h]
  exact List.take_of_length_le (by rw [List.length_drop]; omega)
theorem strs_refs {ws : List Str} {al : List Addr} (h : ws.map V.str = al.map V.ref) (ne : al ≠ []) : False := by
  cases al with
  | nil => exact ne rfl
  | cons a al =>
    cases ws with
    | nil => cases h
    | cons w ws => cases h
theorem ints_refs {ws : List Int} {al : List Addr} (h : ws.map V.int = al.map V.ref) (ne : al ≠ []) : False := by
  cases al with
  | nil => exact ne rfl
  | cons a al =>
    cases ws with
    | nil => cases h
    | cons w ws => cases h
theorem row_but46 {H H' : Hp} {rw sc ll : Addr} {ns : List Int} {al : List Addr} (R : RowAt K H rw sc ns) (e : H ll = some (.lst (al.map V.ref))) (ne : al ≠ []) (nl : ll ≠ rw) (up : ∀ b u, H b = some u → b ≠ ll → H' b = some u) : RowAt K H' rw sc ns := by
  obtain ⟨j, m, r, h1, h2, h3⟩ := R
  refine ⟨j, m, r, up _ _ h1 nl.symm, ?_, h3⟩
  rcases h2 with ⟨h | ⟨o, h⟩, n⟩ | h
  · refine .inl ⟨.inl (up _ _ h fun w => ?_), n⟩
    rw [w, e] at h
    exact ints_refs (HO.lst.inj (Option.some.inj h)).symm ne
  · refine .inl ⟨.inr ⟨o, up _ _ h fun w => ?_⟩, n⟩
    rw [w, e] at h
    cases h
  · exact .inr h
def fixW (ws : List Str) : List Str := if ws = [] then [""] else ws
theorem fixW_ne (ws : List Str) : fixW ws ≠ [] := by
  unfold fixW
  split
  · simp
  · assumption
def DueN (K : PySem.W.Frag) (H : Hp) (t : Addr) (L : List (List Str)) : Prop := (nText L = "" ∧ H t = some (.tup [])) ∨ (nText L ≠ "" ∧ ((∃ k j : Nat, noteAt 0 L = some (k, j) ∧ ToldAt H t (.note (.int (k : Nat)) (.int (j : Nat)))) ∨ (noteAt 0 L = none ∧ ∃ n : Nat, badOrd [] (L.map ordW) = some n ∧ ToldAt H t (.order (.int (n : Nat)))) ∨
  (noteAt 0 L = none ∧ badOrd [] (L.map ordW) = none ∧ ∃ bs : List Addr, H t = some (.tup (bs.map V.ref)) ∧ OrdsAt K H bs (L.map ordW))))
def oL (v : Int) : Ordr := ⟨"longname", "x", v, 1000000000000000000, 30⟩
theorem oL_ok {v : Int} (h0 : 0 ≤ v) (h1 : v < 1000000000000000000) : (oL v).Ok := ⟨by show isAddrB (.str "longname") = true; decide +kernel, by show isAddrB (.str "x") = true; decide +kernel, by show ("longname" : Str) ≠ "x"; decide, h0, by show v ≤ 1000000000000000000; omega, by show (1000000000000000000 : Int) ≤ _; decide, by show (1 : Int) ≤ 30; decide, by show (30 : Int) ≤ 30; decide⟩
theorem oL_good {os : List Ordr} {v : Int} (h : ODs 9 os) (hl : os.length ≤ 6) (h0 : 0 ≤ v) (h1 : v < 1000000000000000000) : Good (os ++ [oL v]) := by
  have g := h.good (by decide) (by omega)
  refine g.snoc46 (by omega) (oL_ok h0 h1) (List.any_eq_false.mpr fun p hp => ?_)
  have hs := (h.all p hp).src
  unfold overB
  have : ¬ p.src = ("longname" : Str) := fun e => by
    rw [e] at hs
    revert hs
    decide +kernel
  simp [oL, this]
theorem ToldAt.ext46 {H H' : Hp} {p : Addr} {r : Err} (h : ToldAt H p r) (e : LamX.ExtN H H') : ToldAt H' p r := by
  cases r <;> first
    | exact e _ _ h (fun ps z => by cases z)
    | (obtain ⟨l, h1, h2⟩ := h; exact ⟨l, e _ _ h1 (fun ps z => by cases z), e _ _ h2 (fun ps z => by cases z)⟩)
theorem DueN.ext {H H' : Hp} {t : Addr} {L : List (List Str)} (h : DueN K H t L) (e : LamX.ExtN H H') : DueN K H' t L := by
  rcases h with ⟨c, h⟩ | ⟨c, ⟨k, j, n, h⟩ | ⟨nn, n, b, h⟩ | ⟨nn, b, bs, h1, h2⟩⟩
  · exact .inl ⟨c, e _ _ h (fun ps z => by cases z)⟩
  · exact .inr ⟨c, .inl ⟨k, j, n, h.ext46 e⟩⟩
  · exact .inr ⟨c, .inr (.inl ⟨nn, n, b, h.ext46 e⟩)⟩
  · exact .inr ⟨c, .inr (.inr ⟨nn, b, bs, e _ _ h1 (fun ps z => by cases z), OrdsAt.keepR h2 fun b u hu y => e _ _ hu (fun ps z => by rw [z] at y; cases y)⟩)⟩
def noteD (k j : Nat) : PyData := .tuple [.str "error", .str "NotationError", .list [.int (k : Nat), .int (j : Nat)]]
def ordD46 (n : Nat) : PyData := .tuple [.str "error", .str "InvalidOrder", .list [.int (n : Nat)]]
theorem noteD_dp {H : Hp} {p : Addr} {k j : Nat} (h : ToldAt H p (.note (.int (k : Nat)) (.int (j : Nat)))) : Dp K H (.ref p) (noteD k j) := by
  obtain ⟨l, h1, h2⟩ := h
  exact .tup (.inl (.inl h1)) (.cons (.str _) (.cons (.str _) (.cons (.lst (SqL.of h2) (.cons (.int _) (.cons (.int _) .nil))) .nil)))
theorem ordD_dp46 {H : Hp} {p : Addr} {n : Nat} (h : ToldAt H p (.order (.int (n : Nat)))) : Dp K H (.ref p) (ordD46 n) := by
  obtain ⟨l, h1, h2⟩ := h
  exact .tup (.inl (.inl h1)) (.cons (.str _) (.cons (.str _) (.cons (.lst (SqL.of h2) (.cons (.int _) .nil)) .nil)))
theorem noteD_dk (k j : Nat) : DK 3 (noteD k j) := .tuple (.cons (.strk 2 (by decide +kernel)) (.cons (.strk 2 (by decide +kernel)) (.cons (.list (.cons (.int 1 _) (.cons (.int 1 _) .nil)) (by show 2 ≤ _; decide)) .nil))) (by show 3 ≤ _; decide)
theorem ordD_dk46 (n : Nat) : DK 3 (ordD46 n) := .tuple (.cons (.strk 2 (by decide +kernel)) (.cons (.strk 2 (by decide +kernel)) (.cons (.list (.cons (.int 1 _) .nil) (by show 1 ≤ _; decide)) .nil))) (by show 3 ≤ _; decide)
theorem ok_law (T : Top K mg C_Book C_MailError C_InvalidOperation C_InvalidOrder C_UnknownOrder C_NotHolding C_DecodeError C_NotationError C_UnknownLetter C_InvalidAddress C_InvalidDay C_InvalidNumber C_Contradiction C_InvalidCount) (sf : PySem.W.selfFirst K C_Book = true) {f : Addr} {fd : FuncData} {cL PL : Addr} (F : FunC K "law" "law" s_law f fd cL) (TBL : LamX.TabB base mg cL PL) : FnOk P w K mg base CX0 13 f fd ["_law_script"] (spLawT K [PL]) := by
  let TT : List (Addr × Str) := [(PL, lawQ)]
  have HTM : (PL, lawQ) ∈ TT := by simp [TT]
  have HTU : ∀ p ∈ TT, p.1 = PL → p.2 = lawQ := fun p hp h => by
    simp [TT] at hp
    rw [hp]
  have G__law_dice : GFn P w K mg base CX0 1 "_law_dice" (spDice K) := ok_dice T
  have G__law_next : GFn P w K mg base CX0 1 "_law_next" (spTaken K) := ok_next T
  have G__law_pick : GFn P w K mg base CX0 2 "_law_pick" (spPick K) := ok_pick T
  have G__law_orders : GFn P w K mg base CX0 4 "_law_orders" (spOrdersD K) := ok_ordersD T
  have G__law_made : GFn P w K mg base CX0 7 "_law_made" (spLawBook K C_Book) := ok_law_made T sf
  have G__law_parsed : GFn P w K mg base CX0 3 "_law_parsed" (spParsed K) := ok_parsed T
  have G_format_book : GFn P w K mg base CX0 4 "format_book" (spFormat K C_Book) := ok_format T
  have X_parse_book : GFn P w K mg base (L2.CX P w) 6 "parse_book" (spParse K C_Book ⟨C_InvalidOrder, C_UnknownOrder, C_InvalidAddress, C_InvalidDay, C_InvalidNumber, C_UnknownLetter, C_NotHolding, C_InvalidOperation, C_Contradiction, C_InvalidCount, C_DecodeError, C_NotationError⟩) := okX_parse T
  have PR_Book_orders : PFn P w K mg base CX0 1 C_Book "orders" (spOrdersP K C_Book) := ok_ordersP T
  have G_Book : IFn P w K mg base CX0 3 C_Book "Book" (spBookInit K C_Book) := ok_Book T
  obtain ⟨fl, LF_Book, LM_Book⟩ := (ok_book_len (P := P) (w := w) (base := base) T).ex
  refine F.ok sc_law (fun vs H Q E h => ?_) (fun A outer s H vs Q E hr h => ?_)
  · obtain ⟨a, ns, rfl, _⟩ := h
    rfl
  · obtain ⟨a, ns, rfl, hS, hlen, hP, k⟩ := h
    have hu := hu_of hr
    have hE65 : (A.deeper (envOfC "law" (defScope s_law) s.heap.objs.size f (.ref cL))).units + 65 < cLine := by have := hr.un; omega
    refine ⟨_, (pss_cons (ps_set (i := 1) sc_law.nd rfl (Or.inl rfl) (pe_g G__law_dice (hr.mono (by decide)) (pa_cons (pv 0) pa_nil)))
  (pss_cons (ps_for PassesOwn.never rfl (pi_range1 (by rfl) T.b_range (pa_cons pe_int pa_nil)) (pg_name (i := 2) sc_law.nd rfl (Or.inl rfl))
  (C8.pss_cut (ps_set (i := 3) sc_law.nd rfl (Or.inl rfl) (pe_op op_cat (pe_g G__law_orders (hr.mono (by decide)) (pa_cons (pv 1) (pa_cons pe_int (pa_cons pe_int pa_nil)))) (pe_lst (pa_cons (pe_tup (pa_cons pe_str (pa_cons pe_str (pa_cons (pe_g G__law_next (hr.mono (by decide)) (pa_cons (pv 1) (pa_cons (pe_op op_pow pe_int pe_int) pa_nil))) (pa_cons (pe_op op_pow pe_int pe_int) (pa_cons pe_int pa_nil)))))) pa_nil))))
  (C8.pss_cut (ps_setLc (i := 4) (own := [("_law_order_here", 14)]) (g := (gName 14)) (by rfl) sc_law.nd rfl rfl (sw_true rfl rfl rfl (by decide +kernel)) (pi_list (pv 3)) (blkOk_by (own := [("_law_order_here", 14)]) (N := ["_law_script", "_law_d", "_law_turn", "_law_orders_here", "_law_lines", "_law_k", "_law_j", "_law_pick_here", "_law_odd", "_law_due", "_law_count", "_law_found", "_law_many", "_law_text", "_law_order_here", "_law_part", "_law_line"]) (sc := defScope s_law) (by decide +kernel)) (fun _ _ _ _ _ => (pg_name (i := 14) sc_law.nd rfl (Or.inl rfl))) (fun _ _ _ _ _ => pts_nil) (fun _ _ _ _ _ => (pe_op op_cat (pe_lst (pa_cons pe_str pa_nil)) (pe_lc (own := [("_law_part", 15)]) (g := (gName 15)) (by rfl) sc_law.nd (pi_tupK (K := K) (pv 14)) (blkOk_by (own := [("_law_part", 15)]) (N := ["_law_script", "_law_d", "_law_turn", "_law_orders_here", "_law_lines", "_law_k", "_law_j", "_law_pick_here", "_law_odd", "_law_due", "_law_count", "_law_found", "_law_many", "_law_text", "_law_order_here", "_law_part", "_law_line"]) (sc := _) (by kernel_rfl)) (fun _ _ _ _ _ => (pg_name (i := 15) sc_law.nd rfl (Or.inl rfl))) (fun _ _ _ _ _ => pts_nil) (fun _ _ _ _ _ => (pe_callTy call_str_any (by rfl) T.b_str (by decide +kernel) (pa_cons (pv 15) pa_nil)))))))
  (C8.pss_cut (ps_set (i := 13) sc_law.nd rfl (Or.inr rfl) (pe_join pe_str (pe_lc (own := [("_law_line", 16)]) (g := (gName 16)) (by rfl) sc_law.nd (pi_list (pv 4)) (blkOk_by (own := [("_law_line", 16)]) (N := ["_law_script", "_law_d", "_law_turn", "_law_orders_here", "_law_lines", "_law_k", "_law_j", "_law_pick_here", "_law_odd", "_law_due", "_law_count", "_law_found", "_law_many", "_law_text", "_law_order_here", "_law_part", "_law_line"]) (sc := defScope s_law) (by decide +kernel)) (fun _ _ _ _ _ => (pg_name (i := 16) sc_law.nd rfl (Or.inl rfl))) (fun _ _ _ _ _ => pts_nil) (fun _ _ _ _ _ => (pe_joinK (K := K) pe_str (pv 16))))))
  (C8.pss_cut (ps_if (PW.pt (pw_or (pt_cmpR op_ne (pe_g G_format_book (hr.mono (by decide)) (pa_cons (pe_g G__law_made (hr.mono (by decide)) (pa_cons (pv 3) pa_nil)) pa_nil)) (pv 13) (nomark _)) (pw_or1 (pt_cmpR (op_neD hr.units) (pe_pr PR_Book_orders T.cl_Book (hr.mono (by decide)) (pe_gX X_parse_book (hr.mono (by decide)) passN (pa_cons (pv 13) pa_nil))) (pe_callTy call_tuple_of (by rfl) T.b_tuple (by decide +kernel) (pa_cons (pv 3) pa_nil)) (nomark _)))))
  (pss_one (ps_ret pe_bl))
  pss_nil)
  (C8.pss_cut (ps_set (i := 5) sc_law.nd rfl (Or.inl rfl) (pe_g G__law_next (hr.mono (by decide)) (pa_cons (pv 1) (pa_cons (pe_callB call_len_seq (by rfl) T.b_len (by decide +kernel) (pa_cons (pv 4) pa_nil)) pa_nil))))
  (C8.pss_cut (ps_par (i := 6) (j := 7) (by rfl) sc_law.nd rfl rfl (by decide) rfl rfl (pa_cons (pe_g G__law_next (hr.mono (by decide)) (pa_cons (pv 1) (pa_cons (pe_op op_add (pe_callB call_len_seq (by rfl) T.b_len (by decide +kernel) (pa_cons (pe_ix ix_list (pv 4) (pv 5) (fun _ _ => rfl)) pa_nil)) pe_int) pa_nil))) (pa_cons (pe_g G__law_next (hr.mono (by decide)) (pa_cons (pv 1) (pa_cons pe_int pa_nil))) pa_nil)) (by rfl))
  (C8.pss_cut (ps_set (i := 8) sc_law.nd rfl (Or.inl rfl) (pe_lst (pa_cons pe_str (pa_cons pe_str (pa_cons pe_str (pa_cons pe_str (pa_cons pe_str (pa_cons pe_str (pa_cons pe_str (pa_cons (pe_op op_repS pe_str pe_int) (pa_cons pe_str (pa_cons pe_str (pa_cons pe_str pa_nil)))))))))))))
  (C8.pss_cut (ps_set (i := 8) sc_law.nd rfl (Or.inl rfl) (pe_g G__law_pick (hr.mono (by decide)) (pa_cons (pv 1) (pa_cons (pv 8) pa_nil))))
  (C8.pss_cut (ps_if (pt_cmpR op_eq (pv 7) pe_int (nomark _))
  (pss_one (ps_asg (pe_slice sl_list (pe_ix ix_list (pv 4) (pv 5) (fun _ _ => rfl)) po_none (po_some (pv 6))) (pg_sub (pv 4) (pv 5) set_list)))
  (pss_one (ps_if (pt_cmpR op_eq (pv 7) pe_int (nomark _))
  (pss_one (ps_asg (pe_op op_cat (pe_op op_cat (pe_slice sl_list (pe_ix ix_list (pv 4) (pv 5) (fun _ _ => rfl)) po_none (po_some (pv 6))) (pe_lst (pa_cons (pv 8) pa_nil))) (pe_slice sl_list (pe_ix ix_list (pv 4) (pv 5) (fun _ _ => rfl)) (po_some (pe_op op_add (pv 6) pe_int)) po_none)) (pg_sub (pv 4) (pv 5) set_list)))
  (pss_one (ps_if (pt_cmpR op_eq (pv 7) pe_int (nomark _))
  (pss_one (ps_asg (pe_op op_cat (pe_op op_cat (pe_slice sl_list (pe_ix ix_list (pv 4) (pv 5) (fun _ _ => rfl)) po_none (po_some (pv 6))) (pe_lst (pa_cons (pv 8) pa_nil))) (pe_slice sl_list (pe_ix ix_list (pv 4) (pv 5) (fun _ _ => rfl)) (po_some (pv 6)) po_none)) (pg_sub (pv 4) (pv 5) set_list)))
  (pss_one (ps_set (i := 4) sc_law.nd rfl (Or.inl rfl) (pe_op op_cat (pe_op op_cat (pe_slice sl_list (pv 4) po_none (po_some (pv 5))) (pe_lst (pa_cons (pe_callTy call_list_of (by rfl) T.b_list (by decide +kernel) (pa_cons (pe_g G__law_pick (hr.mono (by decide)) (pa_cons (pv 1) (pa_cons (pv 4) pa_nil))) pa_nil)) pa_nil))) (pe_slice sl_list (pv 4) (po_some (pv 5)) po_none)))))))))
  (C8.pss_cut (ps_setLc (i := 4) (own := [("_law_line", 16)]) (g := (gName 16)) (by rfl) sc_law.nd rfl rfl (sw_true rfl rfl rfl (by decide +kernel)) (pi_list (pv 4)) (blkOk_by (own := [("_law_line", 16)]) (N := ["_law_script", "_law_d", "_law_turn", "_law_orders_here", "_law_lines", "_law_k", "_law_j", "_law_pick_here", "_law_odd", "_law_due", "_law_count", "_law_found", "_law_many", "_law_text", "_law_order_here", "_law_part", "_law_line"]) (sc := defScope s_law) (by decide +kernel)) (fun _ _ _ _ _ => (pg_name (i := 16) sc_law.nd rfl (Or.inl rfl))) (fun _ _ _ _ _ => pts_nil) (fun _ _ _ _ _ => (pe_ifExp (pt_cmpR (op_neDK (K := K) hr.units) (pv 16) (pe_lst pa_nil) (nomark _)) (pv 16) (pe_lst (pa_cons pe_str pa_nil)))))
  (C8.pss_cut (ps_set (i := 13) sc_law.nd rfl (Or.inr rfl) (pe_join pe_str (pe_lc (own := [("_law_line", 16)]) (g := (gName 16)) (by rfl) sc_law.nd (pi_list (pv 4)) (blkOk_by (own := [("_law_line", 16)]) (N := ["_law_script", "_law_d", "_law_turn", "_law_orders_here", "_law_lines", "_law_k", "_law_j", "_law_pick_here", "_law_odd", "_law_due", "_law_count", "_law_found", "_law_many", "_law_text", "_law_order_here", "_law_part", "_law_line"]) (sc := defScope s_law) (by decide +kernel)) (fun _ _ _ _ _ => (pg_name (i := 16) sc_law.nd rfl (Or.inl rfl))) (fun _ _ _ _ _ => pts_nil) (fun _ _ _ _ _ => (pe_joinK (K := K) pe_str (pv 16))))))
  (C8.pss_cut (ps_set (i := 9) sc_law.nd rfl (Or.inl rfl) (pe_ifExp (pt_cmpR op_ne (pv 13) pe_str (nomark _)) (pe_g G__law_parsed (hr.mono (by decide)) (pa_cons (pv 4) pa_nil)) (pe_tup pa_nil)))
  (pss_one (ps_if (pt_cmpR (op_neD hr.units) (pe_lamC (k := 10) (ok_told rfl rfl T) (hr.mono (by decide)) (by exact (pa_cons (pe_lamX (X := (cxOf CX0 P w K mg base ["_law_script", "_law_d", "_law_turn", "_law_orders_here", "_law_lines", "_law_k", "_law_j", "_law_pick_here", "_law_odd", "_law_due", "_law_count", "_law_found", "_law_many", "_law_text", "_law_order_here", "_law_part", "_law_line"] "law" (defScope s_law) f (.ref cL) A outer s H E).nox) (k := 10) TBL HTM HTU (by kernel_rfl) rfl rfl (LamX.lamS_by (sc := defScope s_law) (by decide +kernel)) (fun _ _ _ _ _ _ => rfl) (fun A outer s H E f c' hrL => (pe_pr PR_Book_orders T.cl_Book (hrL.mono (by decide)) (pe_gX X_parse_book (hrL.mono (by decide)) passM (pa_cons (pv 13) pa_nil))))) pa_nil))) (pv 9) (nomark _))
  (pss_one (ps_ret pe_bl))
  pss_nil)))))))))))))))
  (C8.pss_cut (ps_set (i := 10) sc_law.nd rfl (Or.inl rfl) (pe_op op_add pe_int (pe_g G__law_next (hr.mono (by decide)) (pa_cons (pv 1) (pa_cons pe_int pa_nil)))))
  (C8.pss_cut (ps_set (i := 12) sc_law.nd rfl (Or.inr rfl) (pe_join pe_str (pe_lc (own := [("_law_k", 5)]) (g := (gName 5)) (by rfl) sc_law.nd (pi_range1 (by rfl) T.b_range (pa_cons (pv 10) pa_nil)) (blkOk_by (own := [("_law_k", 5)]) (N := ["_law_script", "_law_d", "_law_turn", "_law_orders_here", "_law_lines", "_law_k", "_law_j", "_law_pick_here", "_law_odd", "_law_due", "_law_count", "_law_found", "_law_many", "_law_text", "_law_order_here", "_law_part", "_law_line"]) (sc := defScope s_law) (by decide +kernel)) (fun _ _ _ _ _ => (pg_name (i := 5) sc_law.nd rfl (Or.inl rfl))) (fun _ _ _ _ _ => pts_nil) (fun _ _ _ _ _ => (pe_op op_add_str (pe_op op_add_str (pe_op op_add_str (pe_op op_add_str pe_str (pe_callTy call_str_any (by rfl) T.b_str (by decide +kernel) (pa_cons (pv 5) pa_nil))) pe_str) (pe_callTy call_str_any (by rfl) T.b_str (by decide +kernel) (pa_cons (pv 5) pa_nil))) pe_str)))))
  (C8.pss_cut (ps_set (i := 11) sc_law.nd rfl (Or.inl rfl) (pe_lamC (k := 10) (ok_told rfl rfl T) (hr.mono (by decide)) (by exact (pa_cons (pe_lamXD (X := (cxOf CX0 P w K mg base ["_law_script", "_law_d", "_law_turn", "_law_orders_here", "_law_lines", "_law_k", "_law_j", "_law_pick_here", "_law_odd", "_law_due", "_law_count", "_law_found", "_law_many", "_law_text", "_law_order_here", "_law_part", "_law_line"] "law" (defScope s_law) f (.ref cL) A outer s H E).nox) (k := 10) (x := "_law_a") TBL HTM HTU (by kernel_rfl) rfl rfl rfl (lamSN_by (N := ["_law_script", "_law_d", "_law_turn", "_law_orders_here", "_law_lines", "_law_k", "_law_j", "_law_pick_here", "_law_odd", "_law_due", "_law_count", "_law_found", "_law_many", "_law_text", "_law_order_here", "_law_part", "_law_line"]) (sc := defScope s_law) (by decide +kernel)) rfl (fun _ _ _ _ _ _ _ => ⟨_, rfl, fun _ => rfl⟩) (fun A outer s H E f c' hrL => (pe_callB (cr_lenO LM_Book LF_Book (hrL.mono (by decide)) pass0) (by rfl) T.b_len (by decide +kernel) (pa_cons (pe_gX X_parse_book (hrL.mono (by decide)) passM (pa_cons (pv 12) pa_nil)) pa_nil)))) pa_nil))))
  (pss_one (ps_ret (pe_and (pe_cmpR (op_eqD hr.units) (pv 11) (pe_ifExp (pt_cmpR op_eq (pv 10) pe_int (nomark _)) pe_int (pe_tup (pa_cons pe_str (pa_cons pe_str (pa_cons (pe_lst (pa_cons pe_int pa_nil)) pa_nil))))) (nomark _)) (pe_one (pe_cmpR op_eq (pe_g G_format_book (hr.mono (by decide)) (pa_cons (pe_mk0X G_Book (hr.mono (by decide)) pass0) pa_nil)) pe_str (nomark _))))))))))), ?_⟩
    refine ⟨_, rfl, a, ns, rfl, hS, hlen, fun H1 rw s1 frw R1 => ?_⟩
    have T1 : LamX.Tabs TT H1 := fun p hp => by
      simp [TT] at hp
      rw [hp]
      exact LamX.TabS.nil (s1 _ _ (hP PL (by simp)))
    clear hP
    let tl (v2 v3 v4 v5 v6 v7 v8 v9 v10 v11 v12 v13 v14 v15 v16 : Option V) : L2.St := [some (.ref a), some (.ref rw), v2, v3, v4, v5, v6, v7, v8, v9, v10, v11, v12, v13, v14, v15, v16]
    refine ⟨6, rfl, (by decide), (by decide), for_it walk_range (fun i σ H' => LamX.Tabs TT H' ∧ RowAt K H' rw a ns ∧ ∃ v2 v3 v4 v5 v6 v7 v8 v9 v10 v11 v12 v13 v14 v15 v16, σ = tl v2 v3 v4 v5 v6 v7 v8 v9 v10 v11 v12 v13 v14 v15 v16) ⟨T1, R1, _, _, _, _, _, _, _, _, _, _, _, _, _, _, _, rfl⟩ (fun _ _ _ _ _ => trivial) ?_ ?_⟩
    · clear T1 R1 s1
      rintro i y σ H1 H1' hi' ⟨T1, R1, w2, w3, w4, w5, w6, w7, w8, w9, w10, w11, w12, w13, w14, w15, w16, rfl⟩ ⟨rfl, rfl⟩
      refine ⟨fun σ' H' => LamX.Tabs TT H' ∧ RowAt K H' rw a ns ∧ ∃ l as os, H' l = some (.lst ((as : List Addr).map V.ref)) ∧ OrdsAt K H' as os ∧ Good os ∧ os ≠ [] ∧ os.length ≤ 7 ∧ l ≠ rw ∧ ∃ v2 v4 v5 v6 v7 v8 v9 v10 v11 v12 v13 v14 v15 v16, σ' = tl v2 (some (.ref l)) v4 v5 v6 v7 v8 v9 v10 v11 v12 v13 v14 v15 v16, ?_, ?_⟩
      · refine ⟨_, rfl, rw, a, ns, 6, 9, rfl, R1, by decide, by decide, by decide, fun H5 l5 as5 os5 k5 f5 R5 e5 o5 l6 od => ?_⟩
        have T5 := tabs_keepR R1 T1 k5
        have n5 := R1.fresh f5
        refine ⟨_, rfl, _, _, rfl, rfl, ⟨by decide, by decide, by decide⟩, ?_⟩
        refine ⟨rw, a, ns, 1000000000000000000, congrArg (fun z => [V.ref rw, V.int z]) pow18, R5, by decide, by decide, fun v H6 v0 v1 R6 k6 => ?_⟩
        have T6 := tabs_keepR R5 T5 k6
        have e6 := k6 _ _ e5 n5
        have o6 := o5.keepR (KeepR.tup k6 R5)
        refine ⟨_, _, rfl, rfl, ⟨by decide, by decide, by decide⟩, ?_⟩
        refine ⟨(by show 5 ≤ sizeLine; decide), ?_⟩
        intro q hq
        generalize gH7 : L2.upd _ q _ = H7
        obtain ⟨s7, e7⟩ := newS hq gH7
        clear gH7
        replace e7 : H7 q = some (.tup [.str "longname", .str "x", .int v, .int ((10 : Int) ^ (18 : Int).toNat), .int 30]) := e7
        rw [pow18] at e7
        refine ⟨(by show 1 ≤ sizeLine; decide), ?_⟩
        intro q2 hq2
        generalize gH8 : L2.upd _ q2 _ = H8
        obtain ⟨s8, e8⟩ := newS hq2 gH8
        clear gH8
        have s68 := s7.trans s8
        have l5l := PySem.Paired.length o5
        refine ⟨l5, q2, _, _, rfl, rfl, s68 _ _ e6, e8, by rw [List.length_map, sizeLine_eq]; show as5.length + 1 ≤ _; omega, ?_⟩
        intro l hl
        generalize gH9 : L2.upd _ l _ = H9
        obtain ⟨s9, e9⟩ := newS hl gH9
        clear gH9
        have s69 := s68.trans s9
        refine ⟨T6.ext s69, R6.keep s69, l, as5 ++ [q], os5 ++ [oL v], by rw [e9, List.map_append]; rfl, Paired.append (o6.mono s69) (.cons (.inl (.inl (s9 _ _ (s8 _ _ e7)))) .nil), oL_good od l6 v0 v1, by simp, by rw [List.length_append]; show os5.length + 1 ≤ 7; omega, (R6.keep s68).fresh hl, _, _, _, _, _, _, _, _, _, _, _, _, _, _, rfl⟩
      clear T1 R1
      rintro σ H1 ⟨T1, R1, l, as, os, hl, ol, g, one, l7, nl, w2, w4, w5, w6, w7, w8, w9, w10, w11, w12, w13, w14, w15, w16, rfl⟩
      have lo := PySem.Paired.length ol
      have RO := rows_ok g
      refine ⟨fun σ' H' => Same H1 H' ∧ ∃ ll al, H' ll = some (.lst ((al : List Addr).map V.ref)) ∧ ll ≠ rw ∧ RowsR rw H' al (os.map rowW) ∧ ∃ v2 v5 v6 v7 v8 v9 v10 v11 v12 v13 v14 v15 v16, σ' = tl v2 (some (.ref l)) (some (.ref ll)) v5 v6 v7 v8 v9 v10 v11 v12 v13 v14 v15 v16, ?_, ?_⟩
      · refine ⟨_, rfl, l, rfl, ⟨_, SqL.of hl⟩, fun D hD => ?_⟩
        refine lc_it (walk_list (xs := as.map V.ref)) (fun m H' => Same H1 H' ∧ ∃ bs : List Addr, H' D = some (.lst (bs.map V.ref)) ∧ RowsR rw H' bs ((os.take m).map rowW) ∧ ∀ b ∈ bs, b ≠ D) ⟨Same.new hD, [], upd_same, .nil, (fun _ h => by cases h)⟩ (fun m H' _ q => SqL.of (q.1 _ _ hl)) ?_ ?_
        · rintro m y Hx H2 hm ⟨s2, bs, e2, RB, nbs⟩ ⟨rfl, ey⟩
          rw [List.length_map] at hm
          obtain ⟨b, eb⟩ : ∃ b, as[m]? = some b := ⟨as[m], List.getElem?_eq_getElem hm⟩
          rw [List.getElem?_map, eb] at ey
          cases ey
          obtain ⟨o, eo, ob⟩ := Paired.get ol eb
          have ok := g.ok o (List.mem_of_getElem? eo)
          refine ⟨rfl, yesT (iteT ?_)⟩
          refine ⟨(by show 1 ≤ sizeLine; decide), ?_⟩
          intro q0 hq0
          generalize gH3 : L2.upd _ q0 _ = H3
          obtain ⟨s3, e3⟩ := newS hq0 gH3
          clear gH3
          have s13 := Same.trans s2 s3
          have ob3 := OrdAt.mono ob s13
          refine ⟨_, rfl, b, rfl, ⟨_, ob3⟩, fun D2 hD2 => ?_⟩
          refine lc_it (walk_tup (xs := o.vals)) (fun n H' => Same H3 H' ∧ H' D2 = some (.lst ((((rowW o).drop 1).take n).map V.str))) ⟨Same.new hD2, upd_same⟩ (fun n H' _ q => MF.Same.tup q.1 ob3) ?_ ?_
          · rintro n y Hy H4 hn ⟨s4, e4⟩ ⟨rfl, ey⟩
            have n5 : n < 5 := hn
            have fin : ∀ x : Str, ((rowW o).drop 1)[n]? = some x → ∃ acc, H4 D2 = some (.lst acc) ∧ acc.length < sizeLine ∧ Same H3 (upd H4 D2 (.lst (acc ++ [V.str x]))) ∧ (upd H4 D2 (.lst (acc ++ [V.str x]))) D2 = some (.lst ((((rowW o).drop 1).take (n + 1)).map V.str)) := fun x ex => by
              refine ⟨_, e4, by rw [List.length_map, List.length_take, sizeLine_eq]; omega, fun b u e => ?_, ?_⟩
              · rw [upd_ne (ne_of_none e hD2)]
                exact s4 _ _ e
              · rw [upd_same, List.take_add_one, ex, List.map_append]
                rfl
            have lg : ∀ x : Int, 0 ≤ x → x ≤ 1000000000000000000 → x.natAbs.log2 < 1920 := fun x h0 h1 => by
              obtain ⟨n, rfl⟩ := Int.eq_ofNat_of_zero_le h0
              rw [Int.natAbs_natCast]
              by_cases c : n = 0
              · subst c; decide
              · have := (Nat.log2_lt (n := n) (k := 60) c).mpr (by omega)
                omega
            have f0 := ok.f0
            have fl := ok.fl
            have lm := ok.lm
            have w1 := ok.w1
            have w30 := ok.w30
            refine ⟨rfl, yesT (iteT ?_)⟩
            refine ⟨_, rfl, ?_⟩
            have n5' : n = 0 ∨ n = 1 ∨ n = 2 ∨ n = 3 ∨ n = 4 := by omega
            rcases n5' with rfl | rfl | rfl | rfl | rfl
            · have : y = .str o.src := (Option.some.inj ey).symm
              subst this
              exact .inr ⟨_, rfl, fin _ rfl⟩
            · have : y = .str o.tgt := (Option.some.inj ey).symm
              subst this
              exact .inr ⟨_, rfl, fin _ rfl⟩
            · have : y = .int o.first := (Option.some.inj ey).symm
              subst this
              exact .inl ⟨_, rfl, lg _ f0 (by omega), fin _ rfl⟩
            · have : y = .int o.last := (Option.some.inj ey).symm
              subst this
              exact .inl ⟨_, rfl, lg _ (by omega) lm, fin _ rfl⟩
            · have : y = .int o.way := (Option.some.inj ey).symm
              subst this
              exact .inl ⟨_, rfl, lg _ (by omega) (by omega), fin _ rfl⟩
          · rintro H4 ⟨s4, e4⟩
            have e3' := s4 _ _ e3
            have lbs := PySem.Paired.length RB
            rw [List.length_map, List.length_take] at lbs
            refine ⟨q0, D2, _, _, rfl, rfl, e3', e4, by rw [List.length_map, sizeLine_eq]; show 1 + 5 ≤ 16777216; decide, ?_⟩
            intro q hq
            generalize gH5 : L2.upd _ q _ = H5
            obtain ⟨s5, e5⟩ := newS hq gH5
            clear gH5
            have s25 := (s3.trans s4).trans s5
            have s15 := s2.trans s25
            have nqD : q ≠ D := fun w => by rw [w, (s3.trans s4) _ _ e2] at hq; cases hq
            have e5' : H5 q = some (.lst ((rowW o).map V.str)) := e5
            refine ⟨_, s25 _ _ e2, by rw [List.length_map, sizeLine_eq]; omega, fun b u e => ?_, bs ++ [q], by rw [upd_same, List.map_append]; rfl, ?_, ?_⟩
            · rw [upd_ne (ne_of_none e hD)]
              exact s15 _ _ e
            · rw [List.take_add_one, eo, List.map_append]
              exact Paired.append ((RB.mono s25).but nbs) (RowsR.but (as := [q]) (L := [rowW o]) (.cons ⟨e5', (R1.keep (s2.trans (s3.trans s4))).fresh hq⟩ .nil) fun a ha => by rw [List.mem_singleton.mp ha]; exact nqD)
            · intro b hb
              rcases List.mem_append.mp hb with h | h
              · exact nbs b h
              · rw [List.mem_singleton.mp h]; exact nqD
        · rintro H2 ⟨s2, bs, e2, RB, _⟩
          rw [List.length_map, lo, List.take_length] at RB
          exact ⟨s2, D, bs, e2, R1.fresh hD, RB, _, _, _, _, _, _, _, _, _, _, _, _, _, rfl⟩
      rintro σ H2 ⟨s2, ll, al, ell, nll, RL, w2, w5, w6, w7, w8, w9, w10, w11, w12, w13, w14, w15, w16, rfl⟩
      have R2 := R1.keep s2
      have T2 := T1.ext s2
      have hl2 := s2 _ _ hl
      have ol2 := ol.mono s2
      clear T1 R1 hl ol s2
      refine ⟨fun σ' H' => Same H2 H' ∧ ∃ v2 v5 v6 v7 v8 v9 v10 v11 v12 v14 v15 v16, σ' = tl v2 (some (.ref l)) (some (.ref ll)) v5 v6 v7 v8 v9 v10 v11 v12 (some (.str (nText (os.map rowW)))) v14 v15 v16, ?_, ?_⟩
      · refine ⟨⟨_, rfl⟩, _, rfl, ll, rfl, ⟨_, SqL.of ell⟩, fun D hD => ?_⟩
        refine lc_it (walk_list (xs := al.map V.ref)) (fun m H' => Same H2 H' ∧ H' D = some (.lst ((((os.map rowW).take m).map nLine).map V.str))) ⟨Same.new hD, upd_same⟩ (fun m H' _ q => SqL.of (q.1 _ _ ell)) ?_ ?_
        · rintro m y Hx H4 hm ⟨s4, e4⟩ ⟨rfl, ey⟩
          rw [List.length_map] at hm
          obtain ⟨b, eb⟩ : ∃ b, al[m]? = some b := ⟨al[m], List.getElem?_eq_getElem hm⟩
          rw [List.getElem?_map, eb] at ey
          cases ey
          obtain ⟨ws, ew, hb⟩ := Paired.get RL eb
          have wm := List.mem_of_getElem? ew
          have wl := RO.wl ws wm
          have ln := RO.len
          have sm := sum_le46 (l := ws) (k := 20) fun x hx => (RO.ok ws wm x hx).len
          have q2 : (" " : Str).length = 1 := by decide +kernel
          have lal := PySem.Paired.length RL
          refine ⟨rfl, yesT (iteT ?_)⟩
          refine ⟨⟨_, rfl⟩, _, rfl, " ", b, ws, rfl, rfl, .inl (SqL.of (s4 _ _ hb.1)), by rw [q2]; omega, _, e4, ?_, fun b u e => ?_, ?_⟩
          · rw [List.length_map, List.length_map, List.length_take, sizeLine_eq]
            omega
          · rw [upd_ne (ne_of_none e hD)]
            exact s4 _ _ e
          · rw [upd_same, List.take_add_one, ew, List.map_append, List.map_append]
            rfl
        rintro H4 ⟨s4, e4⟩
        rw [List.length_map, PySem.Paired.length RL, List.take_length] at e4
        have sm := sum_le46 (l := (os.map rowW).map nLine) (k := 168) fun x hx => by
          obtain ⟨ws, hw, rfl⟩ := List.mem_map.mp hx
          exact line_len RO hw
        have ln := RO.len
        have q2 : ("\n" : Str).length = 1 := by decide +kernel
        refine ⟨"\n", D, (os.map rowW).map nLine, rfl, rfl, .inl (SqL.of e4), by rw [q2]; rw [List.length_map] at sm ⊢; omega, ?_⟩
        exact ⟨s4, _, _, _, _, _, _, _, _, _, _, _, _, rfl⟩
      rintro σ H3 ⟨s3, w2, w5, w6, w7, w8, w9, w10, w11, w12, w14, w15, w16, rfl⟩
      have R3 := R2.keep s3
      have T3 := T2.ext s3
      have hl3 := s3 _ _ hl2
      have ol3 := ol2.mono s3
      have ell3 := s3 _ _ ell
      have RL3 := RL.mono s3
      clear T2 R2 hl2 ol2 ell RL s3
      obtain ⟨rb1, rb2, rb3⟩ := rows_back g
      refine ⟨fun σ' H' => Same H3 H' ∧ ∃ v2 v5 v6 v7 v8 v9 v10 v11 v12 v13 v14 v15 v16, σ' = tl v2 (some (.ref l)) (some (.ref ll)) v5 v6 v7 v8 v9 v10 v11 v12 v13 v14 v15 v16, ?_, ?_⟩
      · refine ⟨_, rfl, l, as, os, rfl, SqL.of hl3, ol3, g, fun H4 bk s4 f4 B4 => ⟨bk, os, rfl, B4, g, fun H5 s5 => ⟨_, rfl, rfl, _, rfl, ?_⟩⟩⟩
        refine iteND rfl ?_
        have s35 := Same.trans s4 s5
        refine ⟨_, rfl, nText (os.map rowW), rfl, .inr ⟨os.map rowW, RO, by intro e; exact one (List.map_eq_nil_iff.mp e), rfl, text_ne one, (fun k j e => by rw [rb1] at e; cases e), (fun _ n e => by rw [rb2, rb3] at e; cases e), fun _ _ H6 p s6 fp B6 => ?_⟩⟩
        rw [rb2] at B6
        obtain ⟨dx, td, ad, hp, _⟩ := id B6
        refine ⟨p, dx, _, rfl, hp, p, os, rfl, B6, fun t bs ht hb => ?_⟩
        have s36 := s35.trans s6
        refine ⟨_, rfl, l, _, rfl, .inl ⟨SqL.of (s36 _ _ hl3), fun q hq => ?_⟩⟩
        generalize gH7 : L2.upd _ q _ = H7
        obtain ⟨s7, e7⟩ := newS hq gH7
        clear gH7
        have s37 := s36.trans s7
        have dk : DK 2 (.tuple (os.map ordDK)) := .tuple (DK.map fun o ho => .ord (g.ok o ho)) (by rw [List.length_map]; omega)
        refine ⟨_, _, .tup (MF.Same.tup s7 ht) (dkOrds (hb.mono s7)), .tup (.inl (.inl e7)) (dkOrds (ol3.mono s37)), dk.shaped (by decide), dk.shaped (by decide), ?_⟩
        rw [PySem.SeqAt.eqv_refl _ dk.lay]
        exact ⟨_, rfl, iteF ⟨s37, _, _, _, _, _, _, _, _, _, _, _, _, _, rfl⟩⟩
      rintro σ H4 ⟨s4, w2, w5, w6, w7, w8, w9, w10, w11, w12, w13, w14, w15, w16, rfl⟩
      have R4 := R3.keep s4
      have T4 := T3.ext s4
      have ell4 := s4 _ _ ell3
      have RL4 := RL3.mono s4
      clear T3 R3 hl3 ol3 ell3 RL3 s4
      have l7L : (os.map rowW).length ≤ 7 := by rw [List.length_map]; exact l7
      have Lne : (os.map rowW) ≠ [] := fun e => one (List.map_eq_nil_iff.mp e)
      have r6 : ∀ ws ∈ os.map rowW, ws.length ≤ 6 ∧ ∀ w ∈ ws, WordOk w := fun ws hw => by
        obtain ⟨o, ho, rfl⟩ := List.mem_map.mp hw
        exact ⟨Nat.le_refl 6, row_words (g.ok o ho)⟩
      clear rb1 rb2 rb3 one RO
      generalize os.map rowW = L at RL4 l7L Lne r6
      clear g lo l7
      let St (H' : Hp) (ll : Addr) (al : List Addr) (L : List (List Str)) : Prop := LamX.Tabs TT H' ∧ RowAt K H' rw a ns ∧ H' ll = some (.lst (al.map V.ref)) ∧ RowsR rw H' al L ∧ ll ≠ rw
      have SS : ∀ {H' H'' : Hp} {ll : Addr} {al : List Addr} {L : List (List Str)}, St H' ll al L → Same H' H'' → St H'' ll al L := fun ⟨z1, z2, z3, z4, z5⟩ s => ⟨z1.ext s, z2.keep s, s _ _ z3, z4.mono s, z5⟩
      have SR : ∀ {H' H'' : Hp} {ll : Addr} {al : List Addr} {L : List (List Str)}, St H' ll al L → RowAt K H'' rw a ns → KeepR rw H' H'' → St H'' ll al L := fun ⟨z1, z2, z3, z4, z5⟩ r k => ⟨tabs_keepR z2 z1 k, r, k _ _ z3 z5, z4.keepR k, z5⟩
      have S4 : St H4 ll al L := ⟨T4, R4, ell4, RL4, nll⟩
      clear T4 R4 ell4 RL4
      have lal : al.length = L.length := PySem.Paired.length S4.2.2.2.1
      refine ⟨fun σ' H' => St H' ll al L ∧ ∃ kk : Nat, kk < L.length ∧ ∃ v2 v3 v6 v7 v8 v9 v10 v11 v12 v13 v14 v15 v16, σ' = tl v2 v3 (some (.ref ll)) (some (.int (kk : Nat))) v6 v7 v8 v9 v10 v11 v12 v13 v14 v15 v16, ?_, ?_⟩
      · refine ⟨_, rfl, _, rfl, ll, _, rfl, .inl (SqL.of S4.2.2.1), rw, a, ns, _, rfl, S4.2.1, ?_, ?_, fun v H5 v0 v1 R5 k5 => ?_⟩
        · rw [List.length_map, lal]
          have := List.length_pos_iff.mpr Lne
          omega
        · rw [List.length_map]
          omega
        rw [List.length_map, lal] at v1
        obtain ⟨kk, rfl⟩ := Int.eq_ofNat_of_zero_le v0
        exact ⟨SR S4 R5 k5, kk, by omega, _, _, _, _, _, _, _, _, _, _, _, _, _, rfl⟩
      clear S4
      rintro σ H5 ⟨S5, kk, hkk, w2, w3, w6, w7, w8, w9, w10, w11, w12, w13, w14, w15, w16, rfl⟩
      obtain ⟨ws, ews⟩ : ∃ ws, L[kk]? = some ws := ⟨L[kk], List.getElem?_eq_getElem hkk⟩
      obtain ⟨b, eb, _⟩ := Paired.get' S5.2.2.2.1 ews
      have hx : atI (al.map V.ref) ((kk : Nat) : Int) = some (V.ref b) := atI_nat (by rw [List.getElem?_map, eb]; rfl)
      have Sb : ∀ {H' : Hp}, St H' ll al L → H' b = some (.lst (ws.map V.str)) := fun S => by
        obtain ⟨b', eb', e, _⟩ := Paired.get' S.2.2.2.1 ews
        rw [eb] at eb'
        cases eb'
        exact e
      obtain ⟨w6, wok⟩ := r6 ws (List.mem_of_getElem? ews)
      refine ⟨fun σ' H' => St H' ll al L ∧ ∃ jj pk : Nat, jj ≤ ws.length ∧ pk < 4 ∧ ∃ v2 v3 v8 v9 v10 v11 v12 v13 v14 v15 v16, σ' = tl v2 v3 (some (.ref ll)) (some (.int (kk : Nat))) (some (.int (jj : Nat))) (some (.int (pk : Nat))) v8 v9 v10 v11 v12 v13 v14 v15 v16, ?_, ?_⟩
      · refine ⟨_, rfl, _, rfl, _, rfl, ll, _, _, _, rfl, rfl, SqL.of S5.2.2.1, hx, b, _, rfl, .inl (SqL.of (Sb S5)), _, _, rfl, rfl, rw, a, ns, _, rfl, S5.2.1, ?_, ?_, fun v H6 v0 v1 R6 k6 => ?_⟩
        · omega
        · rw [List.length_map]; omega
        rw [List.length_map] at v1
        have S6 := SR S5 R6 k6
        obtain ⟨jj, rfl⟩ := Int.eq_ofNat_of_zero_le v0
        refine ⟨_, rfl, rw, a, ns, 4, rfl, R6, by decide, by decide, fun v H7 u0 u1 R7 k7 => ?_⟩
        obtain ⟨pk, rfl⟩ := Int.eq_ofNat_of_zero_le u0
        exact ⟨_, _, rfl, SR S6 R7 k7, jj, pk, by omega, by omega, _, _, _, _, _, _, _, _, _, _, _, rfl⟩
      clear S5
      rintro σ H6 ⟨S6, jj, pk, hjj, hpk, w2, w3, w8, w9, w10, w11, w12, w13, w14, w15, w16, rfl⟩
      refine ⟨fun σ' H' => St H' ll al L ∧ ∃ lo, H' lo = some (.lst (oddL.map V.str)) ∧ lo ≠ rw ∧ ∃ v2 v3 v9 v10 v11 v12 v13 v14 v15 v16, σ' = tl v2 v3 (some (.ref ll)) (some (.int (kk : Nat))) (some (.int (jj : Nat))) (some (.int (pk : Nat))) (some (.ref lo)) v9 v10 v11 v12 v13 v14 v15 v16, ?_, ?_⟩
      · refine ⟨_, _, rfl, rfl, by decide, by decide, by decide +kernel, by decide +kernel, ?_⟩
        rw [show repS "1" 20 = "11111111111111111111" from by decide +kernel]
        refine ⟨(by show 11 ≤ sizeLine; decide), ?_⟩
        intro lo hlo
        generalize gH7 : L2.upd _ lo _ = H7
        obtain ⟨s7, e7⟩ := newS hlo gH7
        clear gH7
        exact ⟨SS S6 s7, lo, e7, S6.2.1.fresh hlo, _, _, _, _, _, _, _, _, _, _, rfl⟩
      clear S6
      rintro σ H7 ⟨S7, lo, elo, nlo, w2, w3, w9, w10, w11, w12, w13, w14, w15, w16, rfl⟩
      refine ⟨fun σ' H' => St H' ll al L ∧ ∃ od : Str, WordOk od ∧ ∃ v2 v3 v9 v10 v11 v12 v13 v14 v15 v16, σ' = tl v2 v3 (some (.ref ll)) (some (.int (kk : Nat))) (some (.int (jj : Nat))) (some (.int (pk : Nat))) (some (.str od)) v9 v10 v11 v12 v13 v14 v15 v16, ?_, ?_⟩
      · refine ⟨_, rfl, _, rfl, rw, a, ns, lo, _, rfl, S7.2.1, elo, nlo, by decide, by decide, fun i v H8 ev R8 k8 => ?_⟩
        rw [List.getElem?_map] at ev
        obtain ⟨od, eod, rfl⟩ := Option.map_eq_some_iff.mp ev
        exact ⟨SR S7 R8 k8, od, oddL_ok od (List.mem_of_getElem? eod), _, _, _, _, _, _, _, _, _, _, rfl⟩
      clear S7 elo nlo
      rintro σ H8 ⟨S8, od, hod, w2, w3, w9, w10, w11, w12, w13, w14, w15, w16, rfl⟩
      have alne : al ≠ [] := fun e => by rw [e] at lal; simp at lal; omega
      have S8' : ∀ {H' : Hp}, Same H8 H' → H' b = some (.lst (ws.map V.str)) := fun s => Sb (SS S8 s)
      have setS : ∀ {H' : Hp} {nb : Addr} {ws' : List Str}, Same H8 H' → H' nb = some (.lst (ws'.map V.str)) → nb ≠ rw → St (upd H' ll (.lst ((al.map V.ref).set kk (.ref nb)))) ll (al.set kk nb) (L.set kk ws') := fun {H' nb ws'} s en nn => by
        obtain ⟨z1, z2, z3, z4, z5⟩ := SS S8 s
        have up : ∀ b u, H' b = some u → b ≠ ll → (upd H' ll (.lst ((al.map V.ref).set kk (.ref nb)))) b = some u := fun b u e n => by rw [upd_ne n]; exact e
        refine ⟨tabs_but z3 z1 up, row_but46 z2 z3 alne z5 up, by rw [upd_same, List.map_set], ?_, z5⟩
        have := rset46 (k := kk) ⟨en, nn⟩ z4
        refine PySem.Paired.mono (fun c x hc => ⟨up _ _ hc.1 fun w => ?_, hc.2⟩) this
        have h1 := hc.1
        rw [w, z3] at h1
        exact strs_refs (HO.lst.inj (Option.some.inj h1)).symm alne
      let Ok7 (L : List (List Str)) : Prop := L.length ≤ 8 ∧ L ≠ [] ∧ ∀ ws ∈ L, ws.length ≤ 7 ∧ ∀ w ∈ ws, WordOk w
      have okSet : ∀ {ws' : List Str}, ws'.length ≤ 7 → (∀ w ∈ ws', WordOk w) → Ok7 (L.set kk ws') := fun {ws'} h1 h2 => by
        refine ⟨by rw [List.length_set]; omega, fun e => Lne (by have := congrArg List.length e; rw [List.length_set] at this; exact List.length_eq_zero_iff.mp this), fun x hx => ?_⟩
        rcases List.mem_or_eq_of_mem_set hx with h | rfl
        · have := r6 x h
          exact ⟨by omega, this.2⟩
        · exact ⟨h1, h2⟩
      refine ⟨fun σ' H' => ∃ ll al L, St H' ll al L ∧ Ok7 L ∧ ∃ v2 v3 v5 v6 v7 v8 v9 v10 v11 v12 v13 v14 v15 v16, σ' = tl v2 v3 (some (.ref ll)) v5 v6 v7 v8 v9 v10 v11 v12 v13 v14 v15 v16, ?_, ?_⟩
      · refine ⟨_, rfl, rfl, _, rfl, ?_⟩
        by_cases c0 : pk = 0
        · refine iteD (by rw [c0]; rfl) ?_
          refine ⟨_, rfl, _, rfl, ll, _, _, _, rfl, rfl, SqL.of S8.2.2.1, hx, _, rfl, _, rfl, b, _, rfl, SqL.of (S8' (Same.refl _)), ?_⟩
          intro nb hnb
          generalize gH9 : L2.upd _ nb _ = H9
          obtain ⟨s9, e9⟩ := newS hnb gH9
          clear gH9
          refine ⟨_, rfl, _, rfl, ll, _, _, kk, rfl, rfl, (SS S8 s9).2.2.1, by rw [List.length_map]; exact ixN46 (by omega), ?_⟩
          rw [cut_hi46, ← List.map_take] at e9
          exact ⟨ll, _, _, setS s9 e9 (S8.2.1.fresh hnb), okSet (by rw [List.length_take]; omega) fun w hw => wok w (List.mem_of_mem_take hw), _, _, _, _, _, _, _, _, _, _, _, _, _, _, rfl⟩
        refine iteDN (fun e => c0 (by have := V.int.inj e; omega)) ?_
        refine ⟨_, rfl, rfl, _, rfl, ?_⟩
        by_cases c1 : pk = 1
        · refine iteD (by rw [c1]; rfl) ?_
          refine ⟨_, rfl, _, rfl, ll, _, _, _, rfl, rfl, SqL.of S8.2.2.1, hx, _, rfl, _, rfl, b, _, rfl, SqL.of (S8' (Same.refl _)), ?_⟩
          intro n1 hn1
          generalize gH9 : L2.upd _ n1 _ = H9
          obtain ⟨s9, e9⟩ := newS hn1 gH9
          clear gH9
          rw [cut_hi46, ← List.map_take] at e9
          refine ⟨_, rfl, (by show 1 ≤ sizeLine; decide), ?_⟩
          intro n2 hn2
          generalize gH10 : L2.upd _ n2 _ = H10
          obtain ⟨s10, e10⟩ := newS hn2 gH10
          clear gH10
          have s810 := s9.trans s10
          refine ⟨n1, n2, _, _, rfl, rfl, s10 _ _ e9, e10, by rw [List.length_map, List.length_take, sizeLine_eq]; show min jj ws.length + 1 ≤ _; omega, ?_⟩
          intro n3 hn3
          generalize gH11 : L2.upd _ n3 _ = H11
          obtain ⟨s11, e11⟩ := newS hn3 gH11
          clear gH11
          have s811 := s810.trans s11
          refine ⟨_, rfl, _, rfl, ll, _, _, _, rfl, rfl, SqL.of (SS S8 s811).2.2.1, hx, _, rfl, _, _, rfl, rfl, _, rfl, b, _, rfl, SqL.of (S8' s811), ?_⟩
          intro n4 hn4
          generalize gH12 : L2.upd _ n4 _ = H12
          obtain ⟨s12, e12⟩ := newS hn4 gH12
          clear gH12
          replace e12 : H12 n4 = some (.lst (cutV (ws.map V.str) (some ((jj + 1 : Nat) : Int)) none)) := e12
          have e12' : H12 n4 = some (.lst ((ws.drop (jj + 1)).map V.str)) := by
            rw [e12]
            by_cases cz : jj + 1 ≤ ws.length
            · rw [cut_lo46 _ (by rw [List.length_map]; exact cz), ← List.map_drop]
            · rw [List.drop_of_length_le (by omega)]
              unfold cutV
              rw [HT.sIx_nat, HT.sIx_none, List.drop_of_length_le (by rw [List.length_map]; omega)]
              simp
          refine ⟨n3, n4, _, _, rfl, rfl, s12 _ _ e11, e12', by rw [List.length_append, List.length_map, List.length_map, List.length_take, List.length_drop, sizeLine_eq]; show min jj ws.length + 1 + _ ≤ _; omega, ?_⟩
          intro nb hnb
          generalize gH13 : L2.upd _ nb _ = H13
          obtain ⟨s13, e13⟩ := newS hnb gH13
          clear gH13
          have s813 := (s811.trans s12).trans s13
          have e13' : H13 nb = some (.lst ((ws.take jj ++ [od] ++ ws.drop (jj + 1)).map V.str)) := by rw [e13, List.map_append, List.map_append]; rfl
          refine ⟨_, rfl, _, rfl, ll, _, _, kk, rfl, rfl, (SS S8 s813).2.2.1, by rw [List.length_map]; exact ixN46 (by omega), ?_⟩
          refine ⟨ll, _, _, setS s813 e13' ((SS S8 (s811.trans s12)).2.1.fresh hnb), okSet ?_ fun w hw => ?_, _, _, _, _, _, _, _, _, _, _, _, _, _, _, rfl⟩
          · rw [List.length_append, List.length_append, List.length_take, List.length_drop]
            show min jj ws.length + 1 + _ ≤ 7
            omega
          · rcases List.mem_append.mp hw with h | h
            · rcases List.mem_append.mp h with h | h
              · exact wok w (List.mem_of_mem_take h)
              · rw [List.mem_singleton.mp h]; exact hod
            · exact wok w (List.mem_of_mem_drop h)
        refine iteDN (fun e => c1 (by have := V.int.inj e; omega)) ?_
        refine ⟨_, rfl, rfl, _, rfl, ?_⟩
        by_cases c2 : pk = 2
        · refine iteD (by rw [c2]; rfl) ?_
          refine ⟨_, rfl, _, rfl, ll, _, _, _, rfl, rfl, SqL.of S8.2.2.1, hx, _, rfl, _, rfl, b, _, rfl, SqL.of (S8' (Same.refl _)), ?_⟩
          intro n1 hn1
          generalize gH9 : L2.upd _ n1 _ = H9
          obtain ⟨s9, e9⟩ := newS hn1 gH9
          clear gH9
          rw [cut_hi46, ← List.map_take] at e9
          refine ⟨_, rfl, (by show 1 ≤ sizeLine; decide), ?_⟩
          intro n2 hn2
          generalize gH10 : L2.upd _ n2 _ = H10
          obtain ⟨s10, e10⟩ := newS hn2 gH10
          clear gH10
          have s810 := s9.trans s10
          refine ⟨n1, n2, _, _, rfl, rfl, s10 _ _ e9, e10, by rw [List.length_map, List.length_take, sizeLine_eq]; show min jj ws.length + 1 ≤ _; omega, ?_⟩
          intro n3 hn3
          generalize gH11 : L2.upd _ n3 _ = H11
          obtain ⟨s11, e11⟩ := newS hn3 gH11
          clear gH11
          have s811 := s810.trans s11
          refine ⟨_, rfl, _, rfl, ll, _, _, _, rfl, rfl, SqL.of (SS S8 s811).2.2.1, hx, _, rfl, _, rfl, b, _, rfl, SqL.of (S8' s811), ?_⟩
          intro n4 hn4
          generalize gH12 : L2.upd _ n4 _ = H12
          obtain ⟨s12, e12⟩ := newS hn4 gH12
          clear gH12
          replace e12 : H12 n4 = some (.lst (cutV (ws.map V.str) (some ((jj : Nat) : Int)) none)) := e12
          have e12' : H12 n4 = some (.lst ((ws.drop (jj)).map V.str)) := by
            rw [e12]
            by_cases cz : jj ≤ ws.length
            · rw [cut_lo46 _ (by rw [List.length_map]; exact cz), ← List.map_drop]
            · rw [List.drop_of_length_le (by omega)]
              unfold cutV
              rw [HT.sIx_nat, HT.sIx_none, List.drop_of_length_le (by rw [List.length_map]; omega)]
              simp
          refine ⟨n3, n4, _, _, rfl, rfl, s12 _ _ e11, e12', by rw [List.length_append, List.length_map, List.length_map, List.length_take, List.length_drop, sizeLine_eq]; show min jj ws.length + 1 + _ ≤ _; omega, ?_⟩
          intro nb hnb
          generalize gH13 : L2.upd _ nb _ = H13
          obtain ⟨s13, e13⟩ := newS hnb gH13
          clear gH13
          have s813 := (s811.trans s12).trans s13
          have e13' : H13 nb = some (.lst ((ws.take jj ++ [od] ++ ws.drop (jj)).map V.str)) := by rw [e13, List.map_append, List.map_append]; rfl
          refine ⟨_, rfl, _, rfl, ll, _, _, kk, rfl, rfl, (SS S8 s813).2.2.1, by rw [List.length_map]; exact ixN46 (by omega), ?_⟩
          refine ⟨ll, _, _, setS s813 e13' ((SS S8 (s811.trans s12)).2.1.fresh hnb), okSet ?_ fun w hw => ?_, _, _, _, _, _, _, _, _, _, _, _, _, _, _, rfl⟩
          · rw [List.length_append, List.length_append, List.length_take, List.length_drop]
            show min jj ws.length + 1 + _ ≤ 7
            omega
          · rcases List.mem_append.mp hw with h | h
            · rcases List.mem_append.mp h with h | h
              · exact wok w (List.mem_of_mem_take h)
              · rw [List.mem_singleton.mp h]; exact hod
            · exact wok w (List.mem_of_mem_drop h)
        refine iteDN (fun e => c2 (by have := V.int.inj e; omega)) ?_
        refine ⟨_, rfl, _, rfl, _, rfl, ll, _, rfl, SqL.of S8.2.2.1, ?_⟩
        intro n1 hn1
        generalize gH9 : L2.upd _ n1 _ = H9
        obtain ⟨s9, e9⟩ := newS hn1 gH9
        clear gH9
        rw [cut_hi46, ← List.map_take] at e9
        have S9 := SS S8 s9
        have nn1 : n1 ≠ rw := S8.2.1.fresh hn1
        refine ⟨_, rfl, _, rfl, rw, a, ns, ll, _, rfl, S9.2.1, S9.2.2.1, S9.2.2.2.2, by rw [List.length_map]; omega, by rw [List.length_map]; omega, fun i v H10 ev R10 k10 => ?_⟩
        rw [List.getElem?_map] at ev
        obtain ⟨c, ec, rfl⟩ := Option.map_eq_some_iff.mp ev
        have S10 := SR S9 R10 k10
        have e10 := k10 _ _ e9 nn1
        obtain ⟨xs, exs, hc⟩ := Paired.get S10.2.2.2.1 ec
        have rx := r6 xs (List.mem_of_getElem? exs)
        refine ⟨c, _, rfl, .inl (SqL.of hc.1), ?_⟩
        intro n2 hn2
        generalize gH11 : L2.upd _ n2 _ = H11
        obtain ⟨s11, e11⟩ := newS hn2 gH11
        clear gH11
        refine ⟨(by show 1 ≤ sizeLine; decide), ?_⟩
        intro n3 hn3
        generalize gH12 : L2.upd _ n3 _ = H12
        obtain ⟨s12, e12⟩ := newS hn3 gH12
        clear gH12
        have s1x := s11.trans s12
        refine ⟨n1, n3, _, _, rfl, rfl, s1x _ _ e10, e12, by rw [List.length_map, List.length_take, sizeLine_eq]; show min kk al.length + 1 ≤ _; omega, ?_⟩
        intro n4 hn4
        generalize gH13 : L2.upd _ n4 _ = H13
        obtain ⟨s13, e13⟩ := newS hn4 gH13
        clear gH13
        have s103 := s1x.trans s13
        have S13 := SS S10 s103
        refine ⟨_, rfl, _, rfl, _, rfl, ll, _, rfl, SqL.of S13.2.2.1, ?_⟩
        intro n5 hn5
        generalize gH14 : L2.upd _ n5 _ = H14
        obtain ⟨s14, e14⟩ := newS hn5 gH14
        clear gH14
        rw [cut_lo46 _ (by rw [List.length_map]; omega), ← List.map_drop] at e14
        refine ⟨n4, n5, _, _, rfl, rfl, s14 _ _ e13, e14, by rw [List.length_append, List.length_map, List.length_map, List.length_take, List.length_drop, sizeLine_eq]; show min kk al.length + 1 + _ ≤ _; omega, ?_⟩
        intro n6 hn6
        generalize gH15 : L2.upd _ n6 _ = H15
        obtain ⟨s15, e15⟩ := newS hn6 gH15
        clear gH15
        have s145 := s14.trans s15
        have S15 := SS S13 s145
        have rn2 : H15 n2 = some (.lst (xs.map V.str)) ∧ n2 ≠ rw := ⟨s145 _ _ (s13 _ _ (s12 _ _ e11)), R10.fresh hn2⟩
        refine ⟨n6, al.take kk ++ [n2] ++ al.drop kk, L.take kk ++ [xs] ++ L.drop kk, ⟨S15.1, S15.2.1, by rw [e15, List.map_append, List.map_append]; rfl, ?_, S13.2.1.keep s14 |>.fresh hn6⟩, ⟨?_, by simp, fun x hx => ?_⟩, _, _, _, _, _, _, _, _, _, _, _, _, _, _, rfl⟩
        · exact Paired.append (Paired.append (rtake46 kk S15.2.2.2.1) (.cons rn2 .nil)) (rdrop46 kk S15.2.2.2.1)
        · rw [List.length_append, List.length_append, List.length_take, List.length_drop]
          show min kk L.length + 1 + _ ≤ 8
          omega
        · have hm : x ∈ L := by
            rcases List.mem_append.mp hx with h | h
            · rcases List.mem_append.mp h with h | h
              · exact List.mem_of_mem_take h
              · rw [List.mem_singleton.mp h]; exact List.mem_of_getElem? exs
            · exact List.mem_of_mem_drop h
          have := r6 x hm
          exact ⟨by omega, this.2⟩
      clear S8 S8' setS okSet hx Sb ews eb wok w6 r6 Lne l7L lal alne hod hjj hpk hkk
      rintro σ H9 ⟨ll, al, L, S9, ⟨L8, Lne, r7⟩, w2, w3, w5, w6, w7, w8, w9, w10, w11, w12, w13, w14, w15, w16, rfl⟩
      have lal : al.length = L.length := PySem.Paired.length S9.2.2.2.1
      let Lz : List (List Str) := L.map fixW
      have RO : RowsOk Lz := by
        refine ⟨by show (L.map fixW).length ≤ 40; rw [List.length_map]; omega, fun ws hw => ?_, fun ws hw => ?_, fun ws hw => ?_⟩
        · obtain ⟨x, hx, rfl⟩ := List.mem_map.mp hw
          exact fixW_ne x
        · obtain ⟨x, hx, rfl⟩ := List.mem_map.mp hw
          have := (r7 x hx).1
          unfold fixW
          split
          · show 1 ≤ 8; decide
          · omega
        · obtain ⟨x, hx, rfl⟩ := List.mem_map.mp hw
          intro w hw2
          unfold fixW at hw2
          split at hw2
          · rw [List.mem_singleton.mp hw2]
            exact wordB_ok (by decide +kernel)
          · exact (r7 x hx).2 w hw2
      refine ⟨fun σ' H' => ∃ l2 al2, St H' l2 al2 Lz ∧ ∃ v2 v3 v5 v6 v7 v8 v9 v10 v11 v12 v13 v14 v15 v16, σ' = tl v2 v3 (some (.ref l2)) v5 v6 v7 v8 v9 v10 v11 v12 v13 v14 v15 v16, ?_, ?_⟩
      · refine ⟨_, rfl, ll, rfl, ⟨_, SqL.of S9.2.2.1⟩, fun D hD => ?_⟩
        refine lc_it (walk_list (xs := al.map V.ref)) (fun m H' => Same H9 H' ∧ ∃ bs : List Addr, H' D = some (.lst (bs.map V.ref)) ∧ RowsR rw H' bs ((L.take m).map fixW) ∧ ∀ b ∈ bs, b ≠ D) ⟨Same.new hD, [], upd_same, .nil, (fun _ h => by cases h)⟩ (fun m H' _ q => SqL.of (q.1 _ _ S9.2.2.1)) ?_ ?_
        · rintro m y Hx H10 hm ⟨s10, bs, e10, RB, nbs⟩ ⟨rfl, ey⟩
          rw [List.length_map] at hm
          obtain ⟨b, eb⟩ : ∃ b, al[m]? = some b := ⟨al[m], List.getElem?_eq_getElem hm⟩
          rw [List.getElem?_map, eb] at ey
          cases ey
          obtain ⟨ws, ew, hb⟩ := Paired.get S9.2.2.2.1 eb
          have rx := r7 ws (List.mem_of_getElem? ew)
          have lbs := PySem.Paired.length RB
          rw [List.length_map, List.length_take] at lbs
          have push : ∀ {H' : Hp} {c : Addr}, Same H10 H' → H' c = some (.lst ((fixW ws).map V.str)) → c ≠ rw → c ≠ D → ∃ acc, H' D = some (.lst acc) ∧ acc.length < sizeLine ∧ Same H9 (upd H' D (.lst (acc ++ [V.ref c]))) ∧ ∃ bs : List Addr, (upd H' D (.lst (acc ++ [V.ref c]))) D = some (.lst (bs.map V.ref)) ∧ RowsR rw (upd H' D (.lst (acc ++ [V.ref c]))) bs ((L.take (m + 1)).map fixW) ∧ ∀ b ∈ bs, b ≠ D := fun {H' c} s ec nc nD => by
            refine ⟨_, s _ _ e10, by rw [List.length_map, sizeLine_eq]; omega, fun b u e => ?_, bs ++ [c], by rw [upd_same, List.map_append]; rfl, ?_, ?_⟩
            · rw [upd_ne (ne_of_none e hD)]
              exact s _ _ (s10 _ _ e)
            · rw [List.take_add_one, ew, List.map_append]
              exact Paired.append ((RB.mono s).but nbs) (RowsR.but (as := [c]) (L := [fixW ws]) (.cons ⟨ec, nc⟩ .nil) fun a ha => by rw [List.mem_singleton.mp ha]; exact nD)
            · intro b hb
              rcases List.mem_append.mp hb with h | h
              · exact nbs b h
              · rw [List.mem_singleton.mp h]; exact nD
          have hb10 := s10 _ _ hb.1
          have nbD : b ≠ D := ne_of_none hb.1 hD
          refine ⟨rfl, yesT (iteT ?_)⟩
          refine ⟨_, rfl, Nat.zero_le _, ?_⟩
          intro q hq
          generalize gH11 : L2.upd _ q _ = H11
          obtain ⟨s11, e11⟩ := newS hq gH11
          clear gH11
          have dk : DK 2 (.list (ws.map PyData.str)) := .list (DK.map fun z hz => .strk 1 (by
            have := (rx.2 z hz).asc
            unfold PyData.strOk
            rw [← Array.all_toList, List.all_eq_true]
            exact fun c hc => decide_eq_true (by have := this c hc; omega))) (by rw [List.length_map]; omega)
          refine ⟨.list (ws.map PyData.str), .list [], .lst (SqL.of (s11 _ _ hb10)) (dp_strs _), .lst (SqL.of e11) .nil, dk.shaped (by decide), by decide +kernel, ?_⟩
          have eqv : PyData.eqv (.list (ws.map PyData.str)) (.list []) = decide (ws = []) := by cases ws <;> simp [PyData.eqv, PyData.eqvAll]
          rw [eqv]
          refine ⟨_, rfl, ?_⟩
          by_cases c : ws = []
          · refine iteND c ?_
            refine ⟨(by show 1 ≤ sizeLine; decide), ?_⟩
            intro q2 hq2
            generalize gH12 : L2.upd _ q2 _ = H12
            obtain ⟨s12, e12⟩ := newS hq2 gH12
            clear gH12
            refine push (s11.trans s12) ?_ ((S9.2.1.keep (s10.trans s11)).fresh hq2) (fun w => by rw [w, s11 _ _ e10] at hq2; cases hq2)
            rw [e12]
            unfold fixW
            rw [if_pos c]
            rfl
          · refine iteNDN c ?_
            refine ⟨_, rfl, push s11 ?_ hb.2 nbD⟩
            rw [s11 _ _ hb10]
            unfold fixW
            rw [if_neg c]
        · rintro H10 ⟨s10, bs, e10, RB, _⟩
          rw [List.length_map, lal, List.take_length] at RB
          have S10 := SS S9 s10
          exact ⟨D, bs, ⟨S10.1, S10.2.1, e10, RB, S9.2.1.fresh hD⟩, _, _, _, _, _, _, _, _, _, _, _, _, _, _, rfl⟩
      clear S9 lal
      have Lzlen : Lz.length ≤ 8 := by show (L.map fixW).length ≤ 8; rw [List.length_map]; exact L8
      have Lzne : Lz ≠ [] := fun e => Lne (List.map_eq_nil_iff.mp e)
      clear L8 Lne r7
      generalize Lz = Lz at RO Lzlen Lzne
      rintro σ H10 ⟨ll, al, S10, w2, w3, w5, w6, w7, w8, w9, w10, w11, w12, w13, w14, w15, w16, rfl⟩
      have lal : al.length = Lz.length := PySem.Paired.length S10.2.2.2.1
      refine ⟨fun σ' H' => Same H10 H' ∧ ∃ v2 v3 v5 v6 v7 v8 v9 v10 v11 v12 v14 v15 v16, σ' = tl v2 v3 (some (.ref ll)) v5 v6 v7 v8 v9 v10 v11 v12 (some (.str (nText Lz))) v14 v15 v16, ?_, ?_⟩
      · refine ⟨⟨_, rfl⟩, _, rfl, ll, rfl, ⟨_, SqL.of S10.2.2.1⟩, fun D hD => ?_⟩
        refine lc_it (walk_list (xs := al.map V.ref)) (fun m H' => Same H10 H' ∧ H' D = some (.lst (((Lz.take m).map nLine).map V.str))) ⟨Same.new hD, upd_same⟩ (fun m H' _ q => SqL.of (q.1 _ _ S10.2.2.1)) ?_ ?_
        · rintro m y Hx H4 hm ⟨s4, e4⟩ ⟨rfl, ey⟩
          rw [List.length_map] at hm
          obtain ⟨b, eb⟩ : ∃ b, al[m]? = some b := ⟨al[m], List.getElem?_eq_getElem hm⟩
          rw [List.getElem?_map, eb] at ey
          cases ey
          obtain ⟨ws, ew, hb⟩ := Paired.get S10.2.2.2.1 eb
          have wm := List.mem_of_getElem? ew
          have wl := RO.wl ws wm
          have ln := RO.len
          have sm := sum_le46 (l := ws) (k := 20) fun x hx => (RO.ok ws wm x hx).len
          have q2 : (" " : Str).length = 1 := by decide +kernel
          have lal := PySem.Paired.length S10.2.2.2.1
          refine ⟨rfl, yesT (iteT ?_)⟩
          refine ⟨⟨_, rfl⟩, _, rfl, " ", b, ws, rfl, rfl, .inl (SqL.of (s4 _ _ hb.1)), by rw [q2]; omega, _, e4, ?_, fun b u e => ?_, ?_⟩
          · rw [List.length_map, List.length_map, List.length_take, sizeLine_eq]
            omega
          · rw [upd_ne (ne_of_none e hD)]
            exact s4 _ _ e
          · rw [upd_same, List.take_add_one, ew, List.map_append, List.map_append]
            rfl
        rintro H4 ⟨s4, e4⟩
        rw [List.length_map, PySem.Paired.length S10.2.2.2.1, List.take_length] at e4
        have sm := sum_le46 (l := Lz.map nLine) (k := 168) fun x hx => by
          obtain ⟨ws, hw, rfl⟩ := List.mem_map.mp hx
          exact line_len RO hw
        have ln := RO.len
        have q2 : ("\n" : Str).length = 1 := by decide +kernel
        refine ⟨"\n", D, Lz.map nLine, rfl, rfl, .inl (SqL.of e4), by rw [q2]; rw [List.length_map] at sm ⊢; omega, ?_⟩
        exact ⟨s4, _, _, _, _, _, _, _, _, _, _, _, _, _, rfl⟩
      rintro σ H11 ⟨s11, w2, w3, w5, w6, w7, w8, w9, w10, w11, w12, w14, w15, w16, rfl⟩
      have S11 := SS S10 s11
      clear S10 s11
      refine ⟨fun σ' H' => St H' ll al Lz ∧ ∃ dt, DueN K H' dt Lz ∧ ∃ v2 v3 v5 v6 v7 v8 v10 v11 v12 v14 v15 v16, σ' = tl v2 v3 (some (.ref ll)) v5 v6 v7 v8 (some (.ref dt)) v10 v11 v12 (some (.str (nText Lz))) v14 v15 v16, ?_, ?_⟩
      · refine ⟨_, rfl, rfl, _, rfl, ?_⟩
        by_cases c : nText Lz = ""
        · refine iteND (by rw [c]) ?_
          refine ⟨Nat.zero_le _, ?_⟩
          intro q hq
          generalize gH12 : L2.upd _ q _ = H12
          obtain ⟨s12, e12⟩ := newS hq gH12
          clear gH12
          exact ⟨SS S11 s12, q, .inl ⟨c, e12⟩, _, _, _, _, _, _, _, _, _, _, _, _, rfl⟩
        · refine iteNDN (fun e => c (V.str.inj e)) ?_
          refine ⟨_, rfl, ll, al, Lz, rfl, S11.2.2.1, S11.2.2.2.1.at, RO, fun k j e H' p s' td => ?_, fun nn n e H' p s' td => ?_, fun nn e H' t bs s' et ob => ?_⟩
          · exact ⟨SS S11 s', p, .inr ⟨c, .inl ⟨k, j, e, td⟩⟩, _, _, _, _, _, _, _, _, _, _, _, _, rfl⟩
          · exact ⟨SS S11 s', p, .inr ⟨c, .inr (.inl ⟨nn, n, e, td⟩)⟩, _, _, _, _, _, _, _, _, _, _, _, _, rfl⟩
          · exact ⟨SS S11 s', t, .inr ⟨c, .inr (.inr ⟨nn, e, bs, et, ob⟩)⟩, _, _, _, _, _, _, _, _, _, _, _, _, rfl⟩
      clear S11
      rintro σ H12 ⟨S12, dt, du, w2, w3, w5, w6, w7, w8, w10, w11, w12, w14, w15, w16, rfl⟩
      refine ⟨S12.1, fun f1 Ha xa Ta fna LM1 => ?_⟩
      have Ra := row_extN S12.2.1 xa
      have da := du.ext xa
      clear S12 du
      have fin : ∀ {H' : Hp}, Same Ha H' → (LamX.Tabs TT H' ∧ RowAt K H' rw a ns ∧ ∃ v2 v3 v4 v5 v6 v7 v8 v9 v10 v11 v12 v13 v14 v15 v16, tl w2 w3 (some (.ref ll)) w5 w6 w7 w8 (some (.ref dt)) w10 w11 w12 (some (.str (nText Lz))) w14 w15 w16 = tl v2 v3 v4 v5 v6 v7 v8 v9 v10 v11 v12 v13 v14 v15 v16) := fun {H'} s => ⟨Ta.ext s, Ra.keep s, _, _, _, _, _, _, _, _, _, _, _, _, _, _, _, rfl⟩
      have same : ∀ {H' : Hp} {x : Addr} {d : PyData} {m : Nat}, Same Ha H' → Dp K H' (.ref x) d → Dp K H' (.ref dt) d → DK m d → m ≤ 64 → rNeD K (.ref x) (.ref dt) H' fun x H' => ∃ c, x = V.bl c ∧ if c = true then tRet (tC (V.bl false)) { nx := fun _ _ => False, rt := Q } (tl w2 w3 (some (.ref ll)) w5 w6 w7 w8 (some (.ref dt)) w10 w11 w12 (some (.str (nText Lz))) w14 w15 w16) H' else (LamX.Tabs TT H' ∧ RowAt K H' rw a ns ∧ ∃ v2 v3 v4 v5 v6 v7 v8 v9 v10 v11 v12 v13 v14 v15 v16, tl w2 w3 (some (.ref ll)) w5 w6 w7 w8 (some (.ref dt)) w10 w11 w12 (some (.str (nText Lz))) w14 w15 w16 = tl v2 v3 v4 v5 v6 v7 v8 v9 v10 v11 v12 v13 v14 v15 v16) := fun {H' x d m} s h1 h2 dk hm => by
        refine ⟨d, d, h1, h2, dk.shaped hm, dk.shaped hm, ?_⟩
        rw [PySem.SeqAt.eqv_refl _ dk.lay]
        exact ⟨_, rfl, iteF (fin s)⟩
      refine ⟨_, f1, rfl, LM1, ?_⟩
      refine ⟨_, rfl, nText Lz, rfl, ?_⟩
      rcases da with ⟨c, h⟩ | ⟨c, h⟩
      · refine .inl ⟨c, fun H13 p s13 fp B13 => ?_⟩
        obtain ⟨dx, td, ad, hp, _⟩ := id B13
        refine ⟨p, dx, _, rfl, hp, p, [], rfl, B13, fun t bs ht hb => ⟨_, rfl, ?_⟩⟩
        cases hb
        exact same s13 (.tup ht .nil) (.tup (.inl (.inl (s13 _ _ h))) .nil) (.tuple (n := 0) .nil (by decide)) (by decide)
      · refine .inr ⟨Lz, RO, Lzne, rfl, c, fun k' j' e' H13 cls d s13 er => ?_, fun nn n' e' H13 cls d s13 er => ?_, fun nn e' H13 p s13 fp B13 => ?_⟩
        · rcases h with ⟨kx, j, e, td⟩ | ⟨nn, _⟩ | ⟨nn, _⟩
          · rw [e] at e'
            obtain ⟨rfl, rfl⟩ := Prod.mk.inj (Option.some.inj e')
            refine ⟨.note (.int (kx : Nat)) (.int (j : Nat)), True.intro, er, fun r H14 s14 fr tr => ⟨_, rfl, ?_⟩⟩
            have s134 := s13.trans s14
            exact same s134 (noteD_dp tr) (noteD_dp (td.ext46 (LamX.ExtN.of s134))) (noteD_dk kx j) (by decide)
          · rw [nn] at e'; cases e'
          · rw [nn] at e'; cases e'
        · rcases h with ⟨kx, j, e, td⟩ | ⟨_, n, e, td⟩ | ⟨_, e, _⟩
          · rw [nn] at e; cases e
          · rw [e] at e'
            obtain rfl := Option.some.inj e'
            refine ⟨.order (.int (n : Nat)), True.intro, er, fun r H14 s14 fr tr => ⟨_, rfl, ?_⟩⟩
            have s134 := s13.trans s14
            exact same s134 (ordD_dp46 tr) (ordD_dp46 (td.ext46 (LamX.ExtN.of s134))) (ordD_dk46 n) (by decide)
          · rw [e] at e'; cases e'
        · rcases h with ⟨kx, j, e, td⟩ | ⟨_, n, e, td⟩ | ⟨_, e, bs, h1, h2⟩
          · rw [nn] at e; cases e
          · rw [e] at e'; cases e'
          · obtain ⟨dx, td, ad, hp, _⟩ := id B13
            refine ⟨p, dx, _, rfl, hp, p, _, rfl, B13, fun t cs ht hc => ⟨_, rfl, ?_⟩⟩
            have raw : ∀ o ∈ Lz.map ordW, RawOk o := fun o ho => by
              obtain ⟨ws, hw, rfl⟩ := List.mem_map.mp ho
              exact ordW_raw (noteAt_none nn ws hw)
            have g := badOrd_none (found := []) ⟨by simp, by simp, .nil⟩ raw e
            rw [List.nil_append] at g
            have dk : DK 2 (.tuple ((Lz.map ordW).map ordDK)) := .tuple (DK.map fun o ho => .ord (g.ok o ho)) (by rw [List.length_map]; have := g.len; omega)
            exact same s13 (.tup ht (dkOrds hc)) (.tup (.inl (.inl (s13 _ _ h1))) (dkOrds (h2.mono s13))) dk (by decide)
    · clear T1 R1
      rintro σ H1 ⟨T1, R1, w2, w3, w4, w5, w6, w7, w8, w9, w10, w11, w12, w13, w14, w15, w16, rfl⟩
      refine ⟨fun σ' H' => LamX.Tabs TT H' ∧ RowAt K H' rw a ns ∧ ∃ cn : Nat, (cn = 30 ∨ cn = 31) ∧ ∃ v2 v3 v4 v5 v6 v7 v8 v9 v11 v12 v13 v14 v15 v16, σ' = tl v2 v3 v4 v5 v6 v7 v8 v9 (some (.int (cn : Nat))) v11 v12 v13 v14 v15 v16, ?_, ?_⟩
      · refine ⟨_, rfl, rw, a, ns, 2, rfl, R1, by decide, by decide, fun v H2 v0 v1 R2 k2 => ⟨_, _, rfl, rfl, ?_⟩⟩
        obtain ⟨m, rfl⟩ := Int.eq_ofNat_of_zero_le v0
        exact ⟨tabs_keepR R1 T1 k2, R2, 30 + m, by omega, _, _, _, _, _, _, _, _, _, _, _, _, _, _, rfl⟩
      clear T1 R1
      rintro σ H1 ⟨T1, R1, cn, hcn, w2, w3, w4, w5, w6, w7, w8, w9, w11, w12, w13, w14, w15, w16, rfl⟩
      obtain ⟨ro, rn, rb⟩ := osN_rows (n := cn) (by omega)
      refine ⟨fun σ' H' => Same H1 H' ∧ ∃ v2 v3 v4 v5 v6 v7 v8 v9 v11 v13 v14 v15 v16, σ' = tl v2 v3 v4 v5 v6 v7 v8 v9 (some (.int (cn : Nat))) v11 (some (.str (nText ((osN cn).map rowW)))) v13 v14 v15 v16, ?_, ?_⟩
      · refine ⟨⟨_, rfl⟩, _, rfl, (cn : Nat), rfl, by omega, by omega, fun D hD => ?_⟩
        refine lc_it walk_range (fun m H' => Same H1 H' ∧ H' D = some (.lst (((List.range m).map fun i => nLine (rowW (oK i))).map V.str))) ⟨Same.new hD, upd_same⟩ (fun _ _ _ _ => trivial) ?_ ?_
        · rintro m y Hx H2 hm ⟨s2, e2⟩ ⟨rfl, ey⟩
          replace ey : y = .int (m : Nat) := by
            rw [ey]
            show V.int (0 + (m : Nat)) = _
            rw [Int.zero_add]
          subst ey
          have hm2 : m < cn := hm
          have lg : ((m : Nat) : Int).natAbs.log2 < 1920 := by
            rw [Int.natAbs_natCast]
            have : m.log2 ≤ m := Nat.log2_le_self m
            omega
          have lz : (Str.ofString (toString ((m : Nat) : Int))).length ≤ 2 := by
            have : (TL.numL m).length ≤ 2 := TL.numL_len (by decide) (by omega)
            rw [TL.len_tl, TL.tl_num]
            exact this
          have q1 : ("order a b " : Str).length = 10 := by decide +kernel
          have q2 : (" " : Str).length = 1 := by decide +kernel
          have q3 : (" 1" : Str).length = 2 := by decide +kernel
          have sl := sizeLine_eq
          refine ⟨rfl, yesT (iteT ?_)⟩
          refine ⟨_, rfl, .inl ⟨_, rfl, lg, _, _, rfl, rfl, by omega, _, _, rfl, rfl, by simp only [Str.length_append]; omega, _, rfl, .inl ⟨_, rfl, lg, _, _, rfl, rfl, by simp only [Str.length_append]; omega, _, _, rfl, rfl, by simp only [Str.length_append]; omega, ?_⟩⟩⟩
          rw [← osN_row]
          refine ⟨_, e2, by rw [List.length_map, List.length_map, List.length_range]; omega, fun b u e => ?_, ?_⟩
          · rw [upd_ne (ne_of_none e hD)]
            exact s2 _ _ e
          · rw [upd_same, List.range_succ, List.map_append, List.map_append]
            rfl
        · rintro H2 ⟨s2, e2⟩
          rw [show (((cn : Nat) : Int)).toNat = cn from by omega] at e2
          have sm := sum_le46 (l := ((osN cn).map rowW).map nLine) (k := 168) fun x hx => by
            obtain ⟨ws, hw, rfl⟩ := List.mem_map.mp hx
            exact line_len ro hw
          have ln := ro.len
          have q2 : ("\n" : Str).length = 1 := by decide +kernel
          have e2' : H2 D = some (.lst ((((osN cn).map rowW).map nLine).map V.str)) := by
            rw [e2]
            unfold osN
            simp only [List.map_map]
            rfl
          refine ⟨"\n", D, ((osN cn).map rowW).map nLine, rfl, rfl, .inl (SqL.of e2'), by rw [q2]; rw [List.length_map] at sm ⊢; omega, ?_⟩
          exact ⟨s2, _, _, _, _, _, _, _, _, _, _, _, _, _, rfl⟩
      rintro σ H2 ⟨s2, w2, w3, w4, w5, w6, w7, w8, w9, w11, w13, w14, w15, w16, rfl⟩
      have T2 := T1.ext s2
      clear T1 R1 s2
      refine ⟨fun σ' H' => ∃ dv, (cn = 30 → dv = .int 30) ∧ (cn = 31 → ∃ t, dv = .ref t ∧ ToldAt H' t (.order (.int (30 : Nat)))) ∧ ∃ v2 v3 v4 v5 v6 v7 v8 v9 v12 v13 v14 v15 v16, σ' = tl v2 v3 v4 v5 v6 v7 v8 v9 (some (.int (cn : Nat))) (some (dv)) v12 v13 v14 v15 v16, ?_, ?_⟩
      · refine ⟨T2, fun f1 Ha xa Ta fna LM1 => ?_⟩
        refine ⟨_, f1, rfl, LM1, ?_⟩
        refine ⟨_, rfl, nText ((osN cn).map rowW), rfl, .inr ⟨(osN cn).map rowW, ro, fun e => osN_ne (n := cn) (by omega) (List.map_eq_nil_iff.mp e), rfl, text_ne (osN_ne (by omega)), fun k' j' e' H3 cls d s3 er => ?_, fun nn n' e' H3 cls d s3 er => ?_, fun nn e' H3 p s3 fp B3 => ?_⟩⟩
        · rw [rn] at e'; cases e'
        · rw [rb] at e'
          rcases hcn with rfl | rfl
          · rw [osN_30] at e'; cases e'
          · rw [osN_31] at e'
            obtain rfl := Option.some.inj e'
            refine ⟨.order (.int (30 : Nat)), True.intro, er, fun r H4 s4 fr tr => ?_⟩
            exact ⟨_, fun h => absurd h (by decide), fun _ => ⟨r, rfl, tr⟩, _, _, _, _, _, _, _, _, _, _, _, _, _, rfl⟩
        · rw [rb] at e' B3
          rcases hcn with rfl | rfl
          · obtain ⟨dx, td, ad, hp, _⟩ := id B3
            have e30 : (osN 30).length = 30 := by unfold osN; rw [List.length_map, List.length_range]
            refine ⟨p, dx, _, rfl, hp, p, _, rfl, B3, _, rfl, (by rw [e30]; decide), ?_⟩
            have e31 : V.int (((osN 30).length : Nat) : Int) = .int 30 := by rw [e30]; rfl
            exact ⟨_, fun _ => e31, fun h => absurd h (by decide), _, _, _, _, _, _, _, _, _, _, _, _, _, rfl⟩
          · rw [osN_31] at e'; cases e'
      rintro σ H3 ⟨dv, d30, d31, w2, w3, w4, w5, w6, w7, w8, w9, w12, w13, w14, w15, w16, rfl⟩
      have fin : ∀ H', tOp rEq (tG (spFormat K C_Book) E0 (tCons (tMakeR C_Book (spBookInit K C_Book) E0 tNil) tNil)) (tC (V.str "")) (tl w2 w3 w4 w5 w6 w7 w8 w9 (some (.int (cn : Nat))) (some dv) w12 w13 w14 w15 w16) H' Q := fun H' => by
        intro x0 dx0 hx0 hdx0 ne0
        refine book_made' (as := []) (os := []) .nil Good.nil hx0 hdx0 ne0 (fun H1 s1 B1 => ⟨rfl, ?_⟩)
        refine ⟨x0, [], rfl, B1, Good.nil, fun H5 s5 => ?_⟩
        refine ⟨rfl, ?_⟩
        rw [show nText (([] : List Ordr).map rowW) = "" from by decide +kernel, decide_eq_true rfl]
        exact k _
      rcases hcn with rfl | rfl
      · obtain rfl := d30 rfl
        refine ⟨_, rfl, _, rfl, rfl, _, rfl, iteD rfl ?_⟩
        refine ⟨.int 30, .int 30, .int _, .int _, by decide +kernel, by decide +kernel, ?_⟩
        rw [show PyData.eqv (.int 30) (.int 30) = true from by decide +kernel]
        exact ⟨_, rfl, iteT (fin _)⟩
      · obtain ⟨t, rfl, td⟩ := d31 rfl
        refine ⟨_, rfl, _, rfl, rfl, _, rfl, iteDN (by decide) ?_⟩
        refine ⟨(by show 1 ≤ sizeLine; decide), ?_⟩
        intro l1 hl1
        generalize gH4 : L2.upd _ l1 _ = H4
        obtain ⟨s4, e4⟩ := newS hl1 gH4
        clear gH4
        refine ⟨(by show 3 ≤ sizeLine; decide), ?_⟩
        intro l2 hl2
        generalize gH5 : L2.upd _ l2 _ = H5
        obtain ⟨s5, e5⟩ := newS hl2 gH5
        clear gH5
        have dk := ordD_dk46 30
        refine ⟨ordD46 30, ordD46 30, ordD_dp46 (td.ext46 (LamX.ExtN.of (s4.trans s5))), ordD_dp46 ⟨l1, e5, s5 _ _ e4⟩, dk.shaped (by decide), dk.shaped (by decide), ?_⟩
        rw [PySem.SeqAt.eqv_refl _ dk.lay]
        exact ⟨_, rfl, iteT (fin _)⟩
end

end MF
set_option Elab.async false
set_option linter.all false
set_option maxRecDepth 100000
set_option maxHeartbeats 2000000
set_option pp.maxSteps 600
namespace MF
open PySem PySem.Spec PyProof.Rows L2 StX
theorem all_mk {l : PySem.W.OpenLaw} {w : World} {K : PySem.W.Frag} {h : Heap} {mg : Str → Option Value} {fa C_Book C_MailError C_InvalidOperation C_InvalidOrder C_UnknownOrder C_NotHolding C_DecodeError C_NotationError C_UnknownLetter C_InvalidAddress C_InvalidDay C_InvalidNumber C_Contradiction C_InvalidCount cL_q26 PL_q26 f_q0 f_q1 f_q2 f_q3 f_q4 f_q5 p_q5 f_q6 f_q7 f_q8 f_q9 f_q10 f_q11 f_q12 f_q13 f_q14 f_q15 f_q16 f_q17 f_q18 f_q19 f_q20 f_q21 f_q22 f_q23 f_q24 f_q25 f_q26 : Addr} (X : K.In h) (G : h.Ns mainGlobals mg) (hfa : mg "law" = some (.ref fa))
    {odq0 anq0 odq1 anq1 odq2 anq2 odq3 anq3 odq4 anq4 odq5 anq5 odq6 anq6 odq7 anq7 odq8 anq8 odq9 anq9 odq10 anq10 odq11 anq11 odq12 anq12 odq13 anq13 odq14 anq14 odq15 anq15 odq16 anq16 odq17 anq17 odq18 anq18 odq19 anq19 odq20 anq20 odq21 anq21 odq22 anq22 odq23 anq23 odq24 anq24 odq25 anq25 odq26 anq26 : Option Addr} {slq0 slq1 slq2 slq3 slq4 slq5 slq6 slq7 slq8 slq9 slq10 slq11 slq12 slq13 slq14 slq15 slq16 slq17 slq18 slq19 slq20 slq21 slq22 slq23 slq24 slq25 slq26 : Array (Option Value)} {ocq0 kVq0 dcq0 pmq0 cdq0 ctq0 ocq1 kVq1 dcq1 pmq1 cdq1 ctq1 ocq2 kVq2 dcq2 pmq2 cdq2 ctq2 ocq3 kVq3 dcq3 pmq3 cdq3 ctq3 ocq4 kVq4 dcq4 pmq4 cdq4 ctq4 ocq5 kVq5 dcq5 pmq5 cdq5 ctq5 ocq6 kVq6 dcq6 pmq6 cdq6 ctq6 ocq7 kVq7 dcq7 pmq7 cdq7 ctq7 ocq8 kVq8 dcq8 pmq8 cdq8 ctq8 ocq9 kVq9 dcq9 pmq9 cdq9 ctq9 ocq10 kVq10 dcq10 pmq10 cdq10 ctq10 ocq11 kVq11 dcq11 pmq11 cdq11 ctq11 ocq12 kVq12 dcq12 pmq12 cdq12 ctq12 ocq13 kVq13 dcq13 pmq13 cdq13 ctq13 ocq14 kVq14 dcq14 pmq14 cdq14 ctq14 ocq15 kVq15 dcq15 pmq15 cdq15 ctq15 ocq16 kVq16 dcq16 pmq16 cdq16 ctq16 ocq17 kVq17 dcq17 pmq17 cdq17 ctq17 ocq18 kVq18 dcq18 pmq18 cdq18 ctq18 ocq19 kVq19 dcq19 pmq19 cdq19 ctq19 ocq20 kVq20 dcq20 pmq20 cdq20 ctq20 ocq21 kVq21 dcq21 pmq21 cdq21 ctq21 ocq22 kVq22 dcq22 pmq22 cdq22 ctq22 ocq23 kVq23 dcq23 pmq23 cdq23 ctq23 ocq24 kVq24 dcq24 pmq24 cdq24 ctq24 ocq25 kVq25 dcq25 pmq25 cdq25 ctq25 ocq26 kVq26 dcq26 pmq26 ctq26 mcB : Value} {tg_0 tg_1 tg_2 tg_3 tg_4 tg_5 tg_6 tg_7 tg_8 : Tok} {rs_q5 : List Value}
    (aC_Book : PySem.W.nsIn K mainGlobals "Book" = some (some (.ref C_Book)))
    (ge_MailError : PySem.W.nsIn K mainGlobals "MailError" = some (some (.ref C_MailError)))
    (ge_InvalidOperation : PySem.W.nsIn K mainGlobals "InvalidOperation" = some (some (.ref C_InvalidOperation)))
    (ge_InvalidOrder : PySem.W.nsIn K mainGlobals "InvalidOrder" = some (some (.ref C_InvalidOrder)))
    (ge_UnknownOrder : PySem.W.nsIn K mainGlobals "UnknownOrder" = some (some (.ref C_UnknownOrder)))
    (ge_NotHolding : PySem.W.nsIn K mainGlobals "NotHolding" = some (some (.ref C_NotHolding)))
    (ge_DecodeError : PySem.W.nsIn K mainGlobals "DecodeError" = some (some (.ref C_DecodeError)))
    (ge_NotationError : PySem.W.nsIn K mainGlobals "NotationError" = some (some (.ref C_NotationError)))
    (ge_UnknownLetter : PySem.W.nsIn K mainGlobals "UnknownLetter" = some (some (.ref C_UnknownLetter)))
    (ge_InvalidAddress : PySem.W.nsIn K mainGlobals "InvalidAddress" = some (some (.ref C_InvalidAddress)))
    (ge_InvalidDay : PySem.W.nsIn K mainGlobals "InvalidDay" = some (some (.ref C_InvalidDay)))
    (ge_InvalidNumber : PySem.W.nsIn K mainGlobals "InvalidNumber" = some (some (.ref C_InvalidNumber)))
    (ge_Contradiction : PySem.W.nsIn K mainGlobals "Contradiction" = some (some (.ref C_Contradiction)))
    (ge_InvalidCount : PySem.W.nsIn K mainGlobals "InvalidCount" = some (some (.ref C_InvalidCount)))
    (ob_InvalidOrder : oexB K C_InvalidOrder = true)
    (sa_InvalidOrder : PySem.W.findIn K (.ref C_InvalidOrder) "__setattr__" = some (some (.builtin "object.__setattr__")))
    (xs_InvalidOrder : PySem.W.subIn K (.ref C_InvalidOrder) (.type "BaseException") = some true)
    (xt_InvalidOrder : PySem.W.typeIn K (.ref C_InvalidOrder) = some (.type "type"))
    (xk_InvalidOrder : PySem.W.keepIn K (.ref C_InvalidOrder) = true)
    (ob_NotationError : oexB K C_NotationError = true)
    (sa_NotationError : PySem.W.findIn K (.ref C_NotationError) "__setattr__" = some (some (.builtin "object.__setattr__")))
    (xs_NotationError : PySem.W.subIn K (.ref C_NotationError) (.type "BaseException") = some true)
    (xt_NotationError : PySem.W.typeIn K (.ref C_NotationError) = some (.type "type"))
    (xk_NotationError : PySem.W.keepIn K (.ref C_NotationError) = true)
    (aq0 : PySem.W.nsIn K mainGlobals "is_integer" = some (some (.ref f_q0)))
    (lq0 : K.lookup f_q0 = some ⟨ocq0, odq0, .func (PySem.W.fnOf "is_integer" "is_integer" (defArgs s_is_integer) (defBody s_is_integer) (defScope s_is_integer) .none kVq0 dcq0 pmq0 anq0 cdq0 ctq0), slq0⟩)
    (cq0 : PySem.W.codeIn K cdq0 "is_integer" = true)
    (kq0 : PySem.W.keepIn K (.ref f_q0) = true)
    (aq1 : PySem.W.nsIn K mainGlobals "is_address" = some (some (.ref f_q1)))
    (lq1 : K.lookup f_q1 = some ⟨ocq1, odq1, .func (PySem.W.fnOf "is_address" "is_address" (defArgs s_is_address) (defBody s_is_address) (defScope s_is_address) .none kVq1 dcq1 pmq1 anq1 cdq1 ctq1), slq1⟩)
    (cq1 : PySem.W.codeIn K cdq1 "is_address" = true)
    (kq1 : PySem.W.keepIn K (.ref f_q1) = true)
    (aq2 : PySem.W.nsIn K mainGlobals "is_order" = some (some (.ref f_q2)))
    (lq2 : K.lookup f_q2 = some ⟨ocq2, odq2, .func (PySem.W.fnOf "is_order" "is_order" (defArgs s_is_order) (defBody s_is_order) (defScope s_is_order) .none kVq2 dcq2 pmq2 anq2 cdq2 ctq2), slq2⟩)
    (cq2 : PySem.W.codeIn K cdq2 "is_order" = true)
    (kq2 : PySem.W.keepIn K (.ref f_q2) = true)
    (aq3 : PySem.W.nsIn K mainGlobals "do_overlap" = some (some (.ref f_q3)))
    (lq3 : K.lookup f_q3 = some ⟨ocq3, odq3, .func (PySem.W.fnOf "do_overlap" "do_overlap" (defArgs s_do_overlap) (defBody s_do_overlap) (defScope s_do_overlap) .none kVq3 dcq3 pmq3 anq3 cdq3 ctq3), slq3⟩)
    (cq3 : PySem.W.codeIn K cdq3 "do_overlap" = true)
    (kq3 : PySem.W.keepIn K (.ref f_q3) = true)
    (aq4 : PySem.W.findIn K (.ref C_Book) "__init__" = some (some (.ref f_q4)))
    (iq4 : PySem.W.isFn K (.ref f_q4) = true)
    (lq4 : K.lookup f_q4 = some ⟨ocq4, odq4, .func (PySem.W.fnOf "__init__" "Book.__init__" (defArgs s_BookX_initX) (defBody s_BookX_initX) (defScope s_BookX_initX) .none kVq4 dcq4 pmq4 anq4 cdq4 ctq4), slq4⟩)
    (cq4 : PySem.W.codeIn K cdq4 "Book.__init__" = true)
    (kq4 : PySem.W.keepIn K (.ref f_q4) = true)
    (aq5 : PySem.W.findIn K (.ref C_Book) "orders" = some (some (.ref p_q5)))
    (pgq5 : PySem.W.specialIn K (.ref p_q5) "__get__" = some (some (.builtin "property.__get__")))
    (ptq5 : PySem.W.takesIn K (.ref p_q5) = some true)
    (prq5 : PySem.W.recIn K p_q5 "property" = some (.ref f_q5 :: rs_q5))
    (lq5 : K.lookup f_q5 = some ⟨ocq5, odq5, .func (PySem.W.fnOf "orders" "Book.orders" (defArgs s_Book_orders) (defBody s_Book_orders) (defScope s_Book_orders) .none kVq5 dcq5 pmq5 anq5 cdq5 ctq5), slq5⟩)
    (cq5 : PySem.W.codeIn K cdq5 "Book.orders" = true)
    (kq5 : PySem.W.keepIn K (.ref f_q5) = true)
    (aq6 : PySem.W.findIn K (.ref C_Book) "__add__" = some (some (.ref f_q6)))
    (iq6 : PySem.W.isFn K (.ref f_q6) = true)
    (lq6 : K.lookup f_q6 = some ⟨ocq6, odq6, .func (PySem.W.fnOf "__add__" "Book.__add__" (defArgs s_BookX_addX) (defBody s_BookX_addX) (defScope s_BookX_addX) .none kVq6 dcq6 pmq6 anq6 cdq6 ctq6), slq6⟩)
    (cq6 : PySem.W.codeIn K cdq6 "Book.__add__" = true)
    (kq6 : PySem.W.keepIn K (.ref f_q6) = true)
    (aq7 : PySem.W.findIn K (.ref C_Book) "__len__" = some (some (.ref f_q7)))
    (iq7 : PySem.W.isFn K (.ref f_q7) = true)
    (lq7 : K.lookup f_q7 = some ⟨ocq7, odq7, .func (PySem.W.fnOf "__len__" "Book.__len__" (defArgs s_BookX_lenX) (defBody s_BookX_lenX) (defScope s_BookX_lenX) .none kVq7 dcq7 pmq7 anq7 cdq7 ctq7), slq7⟩)
    (cq7 : PySem.W.codeIn K cdq7 "Book.__len__" = true)
    (kq7 : PySem.W.keepIn K (.ref f_q7) = true)
    (aq8 : PySem.W.nsIn K mainGlobals "book_of" = some (some (.ref f_q8)))
    (lq8 : K.lookup f_q8 = some ⟨ocq8, odq8, .func (PySem.W.fnOf "book_of" "book_of" (defArgs s_book_of) (defBody s_book_of) (defScope s_book_of) .none kVq8 dcq8 pmq8 anq8 cdq8 ctq8), slq8⟩)
    (cq8 : PySem.W.codeIn K cdq8 "book_of" = true)
    (kq8 : PySem.W.keepIn K (.ref f_q8) = true)
    (aq9 : PySem.W.nsIn K mainGlobals "is_number" = some (some (.ref f_q9)))
    (lq9 : K.lookup f_q9 = some ⟨ocq9, odq9, .func (PySem.W.fnOf "is_number" "is_number" (defArgs s_is_number) (defBody s_is_number) (defScope s_is_number) .none kVq9 dcq9 pmq9 anq9 cdq9 ctq9), slq9⟩)
    (cq9 : PySem.W.codeIn K cdq9 "is_number" = true)
    (kq9 : PySem.W.keepIn K (.ref f_q9) = true)
    (aq10 : PySem.W.nsIn K mainGlobals "format_book" = some (some (.ref f_q10)))
    (lq10 : K.lookup f_q10 = some ⟨ocq10, odq10, .func (PySem.W.fnOf "format_book" "format_book" (defArgs s_format_book) (defBody s_format_book) (defScope s_format_book) .none kVq10 dcq10 pmq10 anq10 cdq10 ctq10), slq10⟩)
    (cq10 : PySem.W.codeIn K cdq10 "format_book" = true)
    (kq10 : PySem.W.keepIn K (.ref f_q10) = true)
    (aq11 : PySem.W.nsIn K mainGlobals "is_good" = some (some (.ref f_q11)))
    (lq11 : K.lookup f_q11 = some ⟨ocq11, odq11, .func (PySem.W.fnOf "is_good" "is_good" (defArgs s_is_good) (defBody s_is_good) (defScope s_is_good) .none kVq11 dcq11 pmq11 anq11 cdq11 ctq11), slq11⟩)
    (cq11 : PySem.W.codeIn K cdq11 "is_good" = true)
    (kq11 : PySem.W.keepIn K (.ref f_q11) = true)
    (aq12 : PySem.W.nsIn K mainGlobals "order_of" = some (some (.ref f_q12)))
    (lq12 : K.lookup f_q12 = some ⟨ocq12, odq12, .func (PySem.W.fnOf "order_of" "order_of" (defArgs s_order_of) (defBody s_order_of) (defScope s_order_of) .none kVq12 dcq12 pmq12 anq12 cdq12 ctq12), slq12⟩)
    (cq12 : PySem.W.codeIn K cdq12 "order_of" = true)
    (kq12 : PySem.W.keepIn K (.ref f_q12) = true)
    (aq13 : PySem.W.nsIn K mainGlobals "parse_book" = some (some (.ref f_q13)))
    (lq13 : K.lookup f_q13 = some ⟨ocq13, odq13, .func (PySem.W.fnOf "parse_book" "parse_book" (defArgs s_parse_book) (defBody s_parse_book) (defScope s_parse_book) .none kVq13 dcq13 pmq13 anq13 cdq13 ctq13), slq13⟩)
    (cq13 : PySem.W.codeIn K cdq13 "parse_book" = true)
    (kq13 : PySem.W.keepIn K (.ref f_q13) = true)
    (aq14 : PySem.W.findIn K (.ref C_InvalidOrder) "__init__" = some (some (.ref f_q14)))
    (iq14 : PySem.W.typeIn K (.ref f_q14) = some (.type "function"))
    (lq14 : K.lookup f_q14 = some ⟨ocq14, odq14, .func (PySem.W.fnOf "__init__" "InvalidOrder.__init__" (defArgs s_InvalidOrderX_initX) (defBody s_InvalidOrderX_initX) (defScope s_InvalidOrderX_initX) .none kVq14 dcq14 pmq14 anq14 cdq14 ctq14), slq14⟩)
    (cq14 : PySem.W.codeIn K cdq14 "InvalidOrder.__init__" = true)
    (kq14 : PySem.W.keepIn K (.ref f_q14) = true)
    (aq15 : PySem.W.findIn K (.ref C_NotationError) "__init__" = some (some (.ref f_q15)))
    (iq15 : PySem.W.typeIn K (.ref f_q15) = some (.type "function"))
    (lq15 : K.lookup f_q15 = some ⟨ocq15, odq15, .func (PySem.W.fnOf "__init__" "NotationError.__init__" (defArgs s_NotationErrorX_initX) (defBody s_NotationErrorX_initX) (defScope s_NotationErrorX_initX) .none kVq15 dcq15 pmq15 anq15 cdq15 ctq15), slq15⟩)
    (cq15 : PySem.W.codeIn K cdq15 "NotationError.__init__" = true)
    (kq15 : PySem.W.keepIn K (.ref f_q15) = true)
    (aq16 : PySem.W.nsIn K mainGlobals "_law_dice" = some (some (.ref f_q16)))
    (lq16 : K.lookup f_q16 = some ⟨ocq16, odq16, .func (PySem.W.fnOf "_law_dice" "_law_dice" (defArgs s__law_dice) (defBody s__law_dice) (defScope s__law_dice) .none kVq16 dcq16 pmq16 anq16 cdq16 ctq16), slq16⟩)
    (cq16 : PySem.W.codeIn K cdq16 "_law_dice" = true)
    (kq16 : PySem.W.keepIn K (.ref f_q16) = true)
    (aq17 : PySem.W.nsIn K mainGlobals "_law_next" = some (some (.ref f_q17)))
    (lq17 : K.lookup f_q17 = some ⟨ocq17, odq17, .func (PySem.W.fnOf "_law_next" "_law_next" (defArgs s__law_next) (defBody s__law_next) (defScope s__law_next) .none kVq17 dcq17 pmq17 anq17 cdq17 ctq17), slq17⟩)
    (cq17 : PySem.W.codeIn K cdq17 "_law_next" = true)
    (kq17 : PySem.W.keepIn K (.ref f_q17) = true)
    (aq18 : PySem.W.nsIn K mainGlobals "_law_pick" = some (some (.ref f_q18)))
    (lq18 : K.lookup f_q18 = some ⟨ocq18, odq18, .func (PySem.W.fnOf "_law_pick" "_law_pick" (defArgs s__law_pick) (defBody s__law_pick) (defScope s__law_pick) .none kVq18 dcq18 pmq18 anq18 cdq18 ctq18), slq18⟩)
    (cq18 : PySem.W.codeIn K cdq18 "_law_pick" = true)
    (kq18 : PySem.W.keepIn K (.ref f_q18) = true)
    (aq19 : PySem.W.nsIn K mainGlobals "_law_told" = some (some (.ref f_q19)))
    (lq19 : K.lookup f_q19 = some ⟨ocq19, odq19, .func (PySem.W.fnOf "_law_told" "_law_told" (defArgs s__law_told) (defBody s__law_told) (defScope s__law_told) .none kVq19 dcq19 pmq19 anq19 cdq19 ctq19), slq19⟩)
    (cq19 : PySem.W.codeIn K cdq19 "_law_told" = true)
    (kq19 : PySem.W.keepIn K (.ref f_q19) = true)
    (aq20 : PySem.W.nsIn K mainGlobals "_law_fits" = some (some (.ref f_q20)))
    (lq20 : K.lookup f_q20 = some ⟨ocq20, odq20, .func (PySem.W.fnOf "_law_fits" "_law_fits" (defArgs s__law_fits) (defBody s__law_fits) (defScope s__law_fits) .none kVq20 dcq20 pmq20 anq20 cdq20 ctq20), slq20⟩)
    (cq20 : PySem.W.codeIn K cdq20 "_law_fits" = true)
    (kq20 : PySem.W.keepIn K (.ref f_q20) = true)
    (aq21 : PySem.W.nsIn K mainGlobals "_law_order" = some (some (.ref f_q21)))
    (lq21 : K.lookup f_q21 = some ⟨ocq21, odq21, .func (PySem.W.fnOf "_law_order" "_law_order" (defArgs s__law_order) (defBody s__law_order) (defScope s__law_order) .none kVq21 dcq21 pmq21 anq21 cdq21 ctq21), slq21⟩)
    (cq21 : PySem.W.codeIn K cdq21 "_law_order" = true)
    (kq21 : PySem.W.keepIn K (.ref f_q21) = true)
    (aq22 : PySem.W.nsIn K mainGlobals "_law_orders" = some (some (.ref f_q22)))
    (lq22 : K.lookup f_q22 = some ⟨ocq22, odq22, .func (PySem.W.fnOf "_law_orders" "_law_orders" (defArgs s__law_orders) (defBody s__law_orders) (defScope s__law_orders) .none kVq22 dcq22 pmq22 anq22 cdq22 ctq22), slq22⟩)
    (cq22 : PySem.W.codeIn K cdq22 "_law_orders" = true)
    (kq22 : PySem.W.keepIn K (.ref f_q22) = true)
    (aq23 : PySem.W.nsIn K mainGlobals "_law_made" = some (some (.ref f_q23)))
    (lq23 : K.lookup f_q23 = some ⟨ocq23, odq23, .func (PySem.W.fnOf "_law_made" "_law_made" (defArgs s__law_made) (defBody s__law_made) (defScope s__law_made) .none kVq23 dcq23 pmq23 anq23 cdq23 ctq23), slq23⟩)
    (cq23 : PySem.W.codeIn K cdq23 "_law_made" = true)
    (kq23 : PySem.W.keepIn K (.ref f_q23) = true)
    (aq24 : PySem.W.nsIn K mainGlobals "_law_is_good" = some (some (.ref f_q24)))
    (lq24 : K.lookup f_q24 = some ⟨ocq24, odq24, .func (PySem.W.fnOf "_law_is_good" "_law_is_good" (defArgs s__law_is_good) (defBody s__law_is_good) (defScope s__law_is_good) .none kVq24 dcq24 pmq24 anq24 cdq24 ctq24), slq24⟩)
    (cq24 : PySem.W.codeIn K cdq24 "_law_is_good" = true)
    (kq24 : PySem.W.keepIn K (.ref f_q24) = true)
    (aq25 : PySem.W.nsIn K mainGlobals "_law_parsed" = some (some (.ref f_q25)))
    (lq25 : K.lookup f_q25 = some ⟨ocq25, odq25, .func (PySem.W.fnOf "_law_parsed" "_law_parsed" (defArgs s__law_parsed) (defBody s__law_parsed) (defScope s__law_parsed) .none kVq25 dcq25 pmq25 anq25 cdq25 ctq25), slq25⟩)
    (cq25 : PySem.W.codeIn K cdq25 "_law_parsed" = true)
    (kq25 : PySem.W.keepIn K (.ref f_q25) = true)
    (aq26 : PySem.W.nsIn K mainGlobals "law" = some (some (.ref f_q26)))
    (lq26 : K.lookup f_q26 = some ⟨ocq26, odq26, .func (PySem.W.fnOf "law" "law" (defArgs s_law) (defBody s_law) (defScope s_law) .none kVq26 dcq26 pmq26 anq26 (.ref cL_q26) ctq26), slq26⟩)
    (cq26 : PySem.W.codeIn K (.ref cL_q26) "law" = true)
    (kq26 : PySem.W.keepIn K (.ref f_q26) = true)
    (pg_Book : PySem.W.plainGet K C_Book Str.empty = true)
    (hd_Book : PySem.W.hasDictIn K C_Book = true)
    (po_Book : PySem.W.plainOver K C_Book = true)
    (sa_Book : PySem.W.findIn K (.ref C_Book) "__setattr__" = some (some (.builtin "object.__setattr__")))
    (mk_Book : PySem.W.makesIn K C_Book = true)
    (kc_Book : PySem.W.keepIn K (.ref C_Book) = true)
    (n_Book_listed : PySem.W.findIn K (.ref C_Book) "listed" = some none)
    (c_LETTERS : PySem.W.nsIn K mainGlobals "LETTERS" = some (some (.str "abcdefghijklmnopqrstuvwxyz" tg_0)))
    (c_MAX_LETTERS : PySem.W.nsIn K mainGlobals "MAX_LETTERS" = some (some (.int 8 tg_1)))
    (c_MAX_ORDERS_books : PySem.W.nsIn K mainGlobals "MAX_ORDERS_books" = some (some (.int 30 tg_2)))
    (c_MAX_DAY : PySem.W.nsIn K mainGlobals "MAX_DAY" = some (some (.int 1000000000000000000 tg_3)))
    (c_MAX_WAY : PySem.W.nsIn K mainGlobals "MAX_WAY" = some (some (.int 30 tg_4)))
    (c_WORD : PySem.W.nsIn K mainGlobals "WORD" = some (some (.str "order" tg_5)))
    (c_DIGITS : PySem.W.nsIn K mainGlobals "DIGITS" = some (some (.str "0123456789" tg_6)))
    (c_MAX_DIGITS : PySem.W.nsIn K mainGlobals "MAX_DIGITS" = some (some (.int 19 tg_7)))
    (c_WORDS : PySem.W.nsIn K mainGlobals "WORDS" = some (some (.int 6 tg_8)))
    (taB : PySem.W.typeIn K (.ref C_MailError) = some mcB)
    (raB : PySem.W.readsIn K C_MailError mcB = true)
    (rbB : PySem.W.specialIn K (.ref C_MailError) "__getattribute__" = some (some (.builtin "type.__getattribute__")))
    (fcB : PySem.W.findCls K (.ref C_MailError) mcB "__init__" = some (.val (.builtin "ValueError.__init__")))
    (eg_InvalidOrder : PySem.W.findIn K (.ref C_InvalidOrder) "__getattribute__" = some (some (.builtin "BaseException.__getattribute__")))
    (ek_InvalidOrder : PySem.W.findIn K (.ref C_InvalidOrder) "__getattr__" = some none)
    (es_InvalidOrder : PySem.W.subIn K (.ref C_InvalidOrder) (.type "BaseException") = some true)
    (ed_InvalidOrder : PySem.W.hasDictIn K C_InvalidOrder = true)
    (ea_InvalidOrder : PySem.W.findIn K (.ref C_InvalidOrder) "__class__" = some (some (.builtin "object.__class__")))
    (en_InvalidOrder : PySem.W.specialIn K (.builtin "object.__class__") "__get__" = some (some (.builtin "getset_descriptor.__get__")))
    (et_InvalidOrder : PySem.W.takesIn K (.builtin "object.__class__") = some true)
    (em_InvalidOrder : PySem.W.mroIn K C_InvalidOrder (.type "object") = some true)
    (ex_InvalidOrder : PySem.W.exmOne K (.ref C_InvalidOrder) (.ref C_MailError) = some true)
    (ev_InvalidOrder : PySem.W.kitOne K (.ref C_InvalidOrder) (.type "ValueError") = some true)
    (kt_InvalidOrder_InvalidOperation : PySem.W.kitOne K (.ref C_InvalidOrder) (.ref C_InvalidOperation) = some false)
    (kt_InvalidOrder_InvalidOrder : PySem.W.kitOne K (.ref C_InvalidOrder) (.ref C_InvalidOrder) = some true)
    (kt_InvalidOrder_UnknownOrder : PySem.W.kitOne K (.ref C_InvalidOrder) (.ref C_UnknownOrder) = some false)
    (kt_InvalidOrder_NotHolding : PySem.W.kitOne K (.ref C_InvalidOrder) (.ref C_NotHolding) = some false)
    (kt_InvalidOrder_DecodeError : PySem.W.kitOne K (.ref C_InvalidOrder) (.ref C_DecodeError) = some false)
    (kt_InvalidOrder_NotationError : PySem.W.kitOne K (.ref C_InvalidOrder) (.ref C_NotationError) = some false)
    (kt_InvalidOrder_UnknownLetter : PySem.W.kitOne K (.ref C_InvalidOrder) (.ref C_UnknownLetter) = some false)
    (kt_InvalidOrder_InvalidAddress : PySem.W.kitOne K (.ref C_InvalidOrder) (.ref C_InvalidAddress) = some false)
    (kt_InvalidOrder_InvalidDay : PySem.W.kitOne K (.ref C_InvalidOrder) (.ref C_InvalidDay) = some false)
    (kt_InvalidOrder_InvalidNumber : PySem.W.kitOne K (.ref C_InvalidOrder) (.ref C_InvalidNumber) = some false)
    (kt_InvalidOrder_Contradiction : PySem.W.kitOne K (.ref C_InvalidOrder) (.ref C_Contradiction) = some false)
    (kt_InvalidOrder_InvalidCount : PySem.W.kitOne K (.ref C_InvalidOrder) (.ref C_InvalidCount) = some false)
    (eg_NotationError : PySem.W.findIn K (.ref C_NotationError) "__getattribute__" = some (some (.builtin "BaseException.__getattribute__")))
    (ek_NotationError : PySem.W.findIn K (.ref C_NotationError) "__getattr__" = some none)
    (es_NotationError : PySem.W.subIn K (.ref C_NotationError) (.type "BaseException") = some true)
    (ed_NotationError : PySem.W.hasDictIn K C_NotationError = true)
    (ea_NotationError : PySem.W.findIn K (.ref C_NotationError) "__class__" = some (some (.builtin "object.__class__")))
    (en_NotationError : PySem.W.specialIn K (.builtin "object.__class__") "__get__" = some (some (.builtin "getset_descriptor.__get__")))
    (et_NotationError : PySem.W.takesIn K (.builtin "object.__class__") = some true)
    (em_NotationError : PySem.W.mroIn K C_NotationError (.type "object") = some true)
    (ex_NotationError : PySem.W.exmOne K (.ref C_NotationError) (.ref C_MailError) = some true)
    (ev_NotationError : PySem.W.kitOne K (.ref C_NotationError) (.type "ValueError") = some true)
    (kt_NotationError_InvalidOperation : PySem.W.kitOne K (.ref C_NotationError) (.ref C_InvalidOperation) = some false)
    (kt_NotationError_InvalidOrder : PySem.W.kitOne K (.ref C_NotationError) (.ref C_InvalidOrder) = some false)
    (kt_NotationError_UnknownOrder : PySem.W.kitOne K (.ref C_NotationError) (.ref C_UnknownOrder) = some false)
    (kt_NotationError_NotHolding : PySem.W.kitOne K (.ref C_NotationError) (.ref C_NotHolding) = some false)
    (kt_NotationError_DecodeError : PySem.W.kitOne K (.ref C_NotationError) (.ref C_DecodeError) = some false)
    (kt_NotationError_NotationError : PySem.W.kitOne K (.ref C_NotationError) (.ref C_NotationError) = some true)
    (kt_NotationError_UnknownLetter : PySem.W.kitOne K (.ref C_NotationError) (.ref C_UnknownLetter) = some false)
    (kt_NotationError_InvalidAddress : PySem.W.kitOne K (.ref C_NotationError) (.ref C_InvalidAddress) = some false)
    (kt_NotationError_InvalidDay : PySem.W.kitOne K (.ref C_NotationError) (.ref C_InvalidDay) = some false)
    (kt_NotationError_InvalidNumber : PySem.W.kitOne K (.ref C_NotationError) (.ref C_InvalidNumber) = some false)
    (kt_NotationError_Contradiction : PySem.W.kitOne K (.ref C_NotationError) (.ref C_Contradiction) = some false)
    (kt_NotationError_InvalidCount : PySem.W.kitOne K (.ref C_NotationError) (.ref C_InvalidCount) = some false)
    (na_InvalidOrder : PySem.W.findIn K (.ref C_InvalidOrder) "index" = some none)
    (na_NotationError_row : PySem.W.findIn K (.ref C_NotationError) "row" = some none)
    (na_NotationError_word : PySem.W.findIn K (.ref C_NotationError) "word" = some none)
    (b_isinstance : PySem.W.nsIn K mainGlobals "isinstance" = some none)
    (b_int : PySem.W.nsIn K mainGlobals "int" = some none)
    (b_bool : PySem.W.nsIn K mainGlobals "bool" = some none)
    (b_str : PySem.W.nsIn K mainGlobals "str" = some none)
    (b_tuple : PySem.W.nsIn K mainGlobals "tuple" = some none)
    (b_list : PySem.W.nsIn K mainGlobals "list" = some none)
    (b_len : PySem.W.nsIn K mainGlobals "len" = some none)
    (b_all : PySem.W.nsIn K mainGlobals "all" = some none)
    (b_enumerate : PySem.W.nsIn K mainGlobals "enumerate" = some none)
    (b_range : PySem.W.nsIn K mainGlobals "range" = some none)
    (b_min : PySem.W.nsIn K mainGlobals "min" = some none)
    (b_max : PySem.W.nsIn K mainGlobals "max" = some none)
    (b_ValueError : PySem.W.nsIn K mainGlobals "ValueError" = some none)
    (sf : PySem.W.selfFirst K C_Book = true)
    (hTb : ∀ P ∈ [PL_q26], h.get? P = some (PySem.W.tabObj #[]))
    (hnP_PL_q26 : K.lookup PL_q26 = none)
    (hcH_PL_q26 : PySem.W.codeHdIn K cL_q26 PL_q26 = true) :
    LamX.LawAtS l w K CX0 13 63 "_law_script" mg fa h := by
  have e := hfa.symm.trans (PySem.W.mg_of X G aq26)
  cases e
  have Fq0 := fun_mk (st := s_is_integer) lq0 cq0 kq0
  have bq0 := Fq0.binds (ps := ["value", "low", "high"]) fun _ _ _ _ _ _ us hl => match us, hl with | [_, _, _], _ => rfl
  have Fq1 := fun_mk (st := s_is_address) lq1 cq1 kq1
  have bq1 := Fq1.binds (ps := ["value"]) fun _ _ _ _ _ _ us hl => match us, hl with | [_], _ => rfl
  have Fq2 := fun_mk (st := s_is_order) lq2 cq2 kq2
  have bq2 := Fq2.binds (ps := ["value"]) fun _ _ _ _ _ _ us hl => match us, hl with | [_], _ => rfl
  have Fq3 := fun_mk (st := s_do_overlap) lq3 cq3 kq3
  have bq3 := Fq3.binds (ps := ["one", "other"]) fun _ _ _ _ _ _ us hl => match us, hl with | [_, _], _ => rfl
  have Fq4 := fun_mk (st := s_BookX_initX) lq4 cq4 kq4
  have Fq5 := fun_mk (st := s_Book_orders) lq5 cq5 kq5
  have bq5 := Fq5.binds (ps := ["self"]) fun _ _ _ _ _ _ us hl => match us, hl with | [_], _ => rfl
  have Fq6 := fun_mk (st := s_BookX_addX) lq6 cq6 kq6
  have bq6 := Fq6.binds (ps := ["self", "other"]) fun _ _ _ _ _ _ us hl => match us, hl with | [_, _], _ => rfl
  have Fq7 := fun_mk (st := s_BookX_lenX) lq7 cq7 kq7
  have bq7 := Fq7.binds (ps := ["self"]) fun _ _ _ _ _ _ us hl => match us, hl with | [_], _ => rfl
  have Fq8 := fun_mk (st := s_book_of) lq8 cq8 kq8
  have bq8 := Fq8.binds (ps := ["orders"]) fun _ _ _ _ _ _ us hl => match us, hl with | [_], _ => rfl
  have Fq9 := fun_mk (st := s_is_number) lq9 cq9 kq9
  have bq9 := Fq9.binds (ps := ["word"]) fun _ _ _ _ _ _ us hl => match us, hl with | [_], _ => rfl
  have Fq10 := fun_mk (st := s_format_book) lq10 cq10 kq10
  have bq10 := Fq10.binds (ps := ["book"]) fun _ _ _ _ _ _ us hl => match us, hl with | [_], _ => rfl
  have Fq11 := fun_mk (st := s_is_good) lq11 cq11 kq11
  have bq11 := Fq11.binds (ps := ["place", "word"]) fun _ _ _ _ _ _ us hl => match us, hl with | [_, _], _ => rfl
  have Fq12 := fun_mk (st := s_order_of) lq12 cq12 kq12
  have bq12 := Fq12.binds (ps := ["row", "line"]) fun _ _ _ _ _ _ us hl => match us, hl with | [_, _], _ => rfl
  have Fq13 := fun_mk (st := s_parse_book) lq13 cq13 kq13
  have bq13 := Fq13.binds (ps := ["text"]) fun _ _ _ _ _ _ us hl => match us, hl with | [_], _ => rfl
  have Fq14 := fun_mk (st := s_InvalidOrderX_initX) lq14 cq14 kq14
  have bq14 := Fq14.binds (ps := ["self", "index"]) fun _ _ _ _ _ _ us hl => match us, hl with | [_, _], _ => rfl
  have Fq15 := fun_mk (st := s_NotationErrorX_initX) lq15 cq15 kq15
  have bq15 := Fq15.binds (ps := ["self", "row", "word"]) fun _ _ _ _ _ _ us hl => match us, hl with | [_, _, _], _ => rfl
  have Fq16 := fun_mk (st := s__law_dice) lq16 cq16 kq16
  have bq16 := Fq16.binds (ps := ["_law_script"]) fun _ _ _ _ _ _ us hl => match us, hl with | [_], _ => rfl
  have Fq17 := fun_mk (st := s__law_next) lq17 cq17 kq17
  have bq17 := Fq17.binds (ps := ["_law_dice_here", "_law_many"]) fun _ _ _ _ _ _ us hl => match us, hl with | [_, _], _ => rfl
  have Fq18 := fun_mk (st := s__law_pick) lq18 cq18 kq18
  have bq18 := Fq18.binds (ps := ["_law_d", "_law_some"]) fun _ _ _ _ _ _ us hl => match us, hl with | [_, _], _ => rfl
  have Fq19 := fun_mk (st := s__law_told) lq19 cq19 kq19
  have bq19 := Fq19.binds (ps := ["_law_work"]) fun _ _ _ _ _ _ us hl => match us, hl with | [_], _ => rfl
  have Fq20 := fun_mk (st := s__law_fits) lq20 cq20 kq20
  have bq20 := Fq20.binds (ps := ["_law_orders_here", "_law_order_here"]) fun _ _ _ _ _ _ us hl => match us, hl with | [_, _], _ => rfl
  have Fq21 := fun_mk (st := s__law_order) lq21 cq21 kq21
  have bq21 := Fq21.binds (ps := ["_law_d", "_law_most"]) fun _ _ _ _ _ _ us hl => match us, hl with | [_, _], _ => rfl
  have Fq22 := fun_mk (st := s__law_orders) lq22 cq22 kq22
  have bq22 := Fq22.binds (ps := ["_law_d", "_law_many", "_law_most"]) fun _ _ _ _ _ _ us hl => match us, hl with | [_, _, _], _ => rfl
  have Fq23 := fun_mk (st := s__law_made) lq23 cq23 kq23
  have bq23 := Fq23.binds (ps := ["_law_orders_here"]) fun _ _ _ _ _ _ us hl => match us, hl with | [_], _ => rfl
  have Fq24 := fun_mk (st := s__law_is_good) lq24 cq24 kq24
  have bq24 := Fq24.binds (ps := ["_law_place", "_law_word"]) fun _ _ _ _ _ _ us hl => match us, hl with | [_, _], _ => rfl
  have Fq25 := fun_mk (st := s__law_parsed) lq25 cq25 kq25
  have bq25 := Fq25.binds (ps := ["_law_lines"]) fun _ _ _ _ _ _ us hl => match us, hl with | [_], _ => rfl
  have Fq26 := fun_mk (st := s_law) lq26 cq26 kq26
  have bq26 := Fq26.binds (ps := ["_law_script"]) fun _ _ _ _ _ _ us hl => match us, hl with | [_], _ => rfl
  have FC : FunC K "law" "law" s_law _ _ cL_q26 := ⟨⟨_, _, _, _, _, _, _, _, rfl, lq26, cq26⟩⟩
  have T : Top K mg C_Book C_MailError C_InvalidOperation C_InvalidOrder C_UnknownOrder C_NotHolding C_DecodeError C_NotationError C_UnknownLetter C_InvalidAddress C_InvalidDay C_InvalidNumber C_Contradiction C_InvalidCount := ⟨⟨_, _, Fq0, PySem.W.mg_of X G aq0, bq0⟩,
    ⟨_, _, Fq1, PySem.W.mg_of X G aq1, bq1⟩,
    ⟨_, _, Fq2, PySem.W.mg_of X G aq2, bq2⟩,
    ⟨_, _, Fq3, PySem.W.mg_of X G aq3, bq3⟩,
    ⟨_, _, Fq4, ⟨mk_Book, aq4, iq4, kc_Book⟩, PySem.W.mg_of X G aC_Book, bind_star1 (B := fun xs => bindArgs _ ⟨xs, []⟩) (fun _ => rfl) (fun _ _ _ => rfl)⟩,
    ⟨_, _, _, Fq5, ⟨aq5, pgq5, ptq5, ⟨_, prq5⟩⟩, bq5⟩,
    ⟨_, _, Fq6, ⟨aq6, iq6, kq6⟩, bq6⟩,
    ⟨_, _, Fq7, ⟨aq7, iq7, kq7⟩, bq7⟩,
    ⟨_, _, Fq8, PySem.W.mg_of X G aq8, bq8⟩,
    ⟨_, _, Fq9, PySem.W.mg_of X G aq9, bq9⟩,
    ⟨_, _, Fq10, PySem.W.mg_of X G aq10, bq10⟩,
    ⟨_, _, Fq11, PySem.W.mg_of X G aq11, bq11⟩,
    ⟨_, _, Fq12, PySem.W.mg_of X G aq12, bq12⟩,
    ⟨_, _, Fq13, PySem.W.mg_of X G aq13, bq13⟩,
    ⟨⟨_, _, Fq14, aq14, iq14, bq14⟩, oex_of ob_InvalidOrder sa_InvalidOrder xs_InvalidOrder xt_InvalidOrder xk_InvalidOrder, PySem.W.mg_of X G ge_InvalidOrder⟩,
    ⟨⟨_, _, Fq15, aq15, iq15, bq15⟩, oex_of ob_NotationError sa_NotationError xs_NotationError xt_NotationError xk_NotationError, PySem.W.mg_of X G ge_NotationError⟩,
    ⟨_, _, Fq16, PySem.W.mg_of X G aq16, bq16⟩,
    ⟨_, _, Fq17, PySem.W.mg_of X G aq17, bq17⟩,
    ⟨_, _, Fq18, PySem.W.mg_of X G aq18, bq18⟩,
    ⟨_, _, Fq19, PySem.W.mg_of X G aq19, bq19⟩,
    ⟨_, _, Fq20, PySem.W.mg_of X G aq20, bq20⟩,
    ⟨_, _, Fq21, PySem.W.mg_of X G aq21, bq21⟩,
    ⟨_, _, Fq22, PySem.W.mg_of X G aq22, bq22⟩,
    ⟨_, _, Fq23, PySem.W.mg_of X G aq23, bq23⟩,
    ⟨_, _, Fq24, PySem.W.mg_of X G aq24, bq24⟩,
    ⟨_, _, Fq25, PySem.W.mg_of X G aq25, bq25⟩,
    ⟨_, _, Fq26, PySem.W.mg_of X G aq26, bq26⟩,
    ⟨pg_Book, hd_Book, po_Book, sa_Book⟩,
    n_Book_listed,
    ⟨_, PySem.W.mg_of X G c_LETTERS⟩,
    ⟨_, PySem.W.mg_of X G c_MAX_LETTERS⟩,
    ⟨_, PySem.W.mg_of X G c_MAX_ORDERS_books⟩,
    ⟨_, PySem.W.mg_of X G c_MAX_DAY⟩,
    ⟨_, PySem.W.mg_of X G c_MAX_WAY⟩,
    ⟨_, PySem.W.mg_of X G c_WORD⟩,
    ⟨_, PySem.W.mg_of X G c_DIGITS⟩,
    ⟨_, PySem.W.mg_of X G c_MAX_DIGITS⟩,
    ⟨_, PySem.W.mg_of X G c_WORDS⟩,
    PySem.W.mg_of X G ge_MailError,
    PySem.W.mg_of X G ge_InvalidOperation,
    PySem.W.mg_of X G ge_InvalidOrder,
    PySem.W.mg_of X G ge_UnknownOrder,
    PySem.W.mg_of X G ge_NotHolding,
    PySem.W.mg_of X G ge_DecodeError,
    PySem.W.mg_of X G ge_NotationError,
    PySem.W.mg_of X G ge_UnknownLetter,
    PySem.W.mg_of X G ge_InvalidAddress,
    PySem.W.mg_of X G ge_InvalidDay,
    PySem.W.mg_of X G ge_InvalidNumber,
    PySem.W.mg_of X G ge_Contradiction,
    PySem.W.mg_of X G ge_InvalidCount,
    ⟨⟨_, ⟨raB, rbB⟩, fcB⟩⟩,
    ⟨⟨eg_InvalidOrder, ek_InvalidOrder, es_InvalidOrder, ed_InvalidOrder, ea_InvalidOrder, en_InvalidOrder, et_InvalidOrder, em_InvalidOrder⟩, ex_InvalidOrder, ev_InvalidOrder⟩,
    kt_InvalidOrder_InvalidOperation,
    kt_InvalidOrder_InvalidOrder,
    kt_InvalidOrder_UnknownOrder,
    kt_InvalidOrder_NotHolding,
    kt_InvalidOrder_DecodeError,
    kt_InvalidOrder_NotationError,
    kt_InvalidOrder_UnknownLetter,
    kt_InvalidOrder_InvalidAddress,
    kt_InvalidOrder_InvalidDay,
    kt_InvalidOrder_InvalidNumber,
    kt_InvalidOrder_Contradiction,
    kt_InvalidOrder_InvalidCount,
    ⟨⟨eg_NotationError, ek_NotationError, es_NotationError, ed_NotationError, ea_NotationError, en_NotationError, et_NotationError, em_NotationError⟩, ex_NotationError, ev_NotationError⟩,
    kt_NotationError_InvalidOperation,
    kt_NotationError_InvalidOrder,
    kt_NotationError_UnknownOrder,
    kt_NotationError_NotHolding,
    kt_NotationError_DecodeError,
    kt_NotationError_NotationError,
    kt_NotationError_UnknownLetter,
    kt_NotationError_InvalidAddress,
    kt_NotationError_InvalidDay,
    kt_NotationError_InvalidNumber,
    kt_NotationError_Contradiction,
    kt_NotationError_InvalidCount,
    na_InvalidOrder,
    na_NotationError_row,
    na_NotationError_word,
    PySem.W.mg_none_of X G b_isinstance,
    PySem.W.mg_none_of X G b_int,
    PySem.W.mg_none_of X G b_bool,
    PySem.W.mg_none_of X G b_str,
    PySem.W.mg_none_of X G b_tuple,
    PySem.W.mg_none_of X G b_list,
    PySem.W.mg_none_of X G b_len,
    PySem.W.mg_none_of X G b_all,
    PySem.W.mg_none_of X G b_enumerate,
    PySem.W.mg_none_of X G b_range,
    PySem.W.mg_none_of X G b_min,
    PySem.W.mg_none_of X G b_max,
    PySem.W.mg_none_of X G b_ValueError⟩
  refine ⟨_, [(cL_q26, PL_q26)], spLawT K [PL_q26], fun p hp => (by simp only [List.mem_cons, List.not_mem_nil, or_false] at hp; rw [hp]; exact hTb PL_q26 (by simp)), fun p hp => (by simp only [List.mem_cons, List.not_mem_nil, or_false] at hp; rw [hp]; exact hnP_PL_q26), fun p hp => (by simp only [List.mem_cons, List.not_mem_nil, or_false] at hp; rw [hp]; exact PySem.W.codeHd_of_K X hcH_PL_q26), fun s v => ?_, fun H a ns hl hb hH hS => ⟨a, ns, rfl, hS, hl, fun p hp => (by simp only [List.mem_cons, List.not_mem_nil, or_false] at hp; rw [hp]; exact hH (cL_q26, PL_q26) (by simp)), fun _ => rfl⟩, fun base _ _ tb => ok_law T sf FC (tb (cL_q26, PL_q26) (by simp))⟩
  exact .of_eq rfl
end MF
open PySem PySem.W PyProof.Rows
set_option maxRecDepth 100000 in
set_option maxHeartbeats 0 in
theorem PySem.Challenge.cw_mailforwards_k46_notation_holds : PySem.Challenge.rw_mailforwards_k46_notation.Holds := by
  w_on; o_law; k_head; (case hw => w_witness2)
  k_fill
  refine LamX.walk_ofTs (l := PySem.Challenge.rw_mailforwards_k46_notation) (n := 63) (k := 13) (x := "_law_script") (CX := fun _ => C8.CX0) rfl (by decide) rfl ⟨rfl, by decide, by decide⟩ (fun w h Y => PySem.W.km_in_of Y) ?F (fun _ _ _ _ _ z => z)
  case F =>
    intro w mg fa h Y KX G hmg
    refine' MF.all_mk KX G hmg ?aC_Book ?ge_MailError ?ge_InvalidOperation ?ge_InvalidOrder ?ge_UnknownOrder ?ge_NotHolding ?ge_DecodeError ?ge_NotationError ?ge_UnknownLetter ?ge_InvalidAddress ?ge_InvalidDay ?ge_InvalidNumber ?ge_Contradiction ?ge_InvalidCount ?ob_InvalidOrder ?sa_InvalidOrder ?xs_InvalidOrder ?xt_InvalidOrder ?xk_InvalidOrder ?ob_NotationError ?sa_NotationError ?xs_NotationError ?xt_NotationError ?xk_NotationError ?aq0 ?lq0 ?cq0 ?kq0 ?aq1 ?lq1 ?cq1 ?kq1 ?aq2 ?lq2 ?cq2 ?kq2 ?aq3 ?lq3 ?cq3 ?kq3 ?aq4 ?iq4 ?lq4 ?cq4 ?kq4 ?aq5 ?pgq5 ?ptq5 ?prq5 ?lq5 ?cq5 ?kq5 ?aq6 ?iq6 ?lq6 ?cq6 ?kq6 ?aq7 ?iq7 ?lq7 ?cq7 ?kq7 ?aq8 ?lq8 ?cq8 ?kq8 ?aq9 ?lq9 ?cq9 ?kq9 ?aq10 ?lq10 ?cq10 ?kq10 ?aq11 ?lq11 ?cq11 ?kq11 ?aq12 ?lq12 ?cq12 ?kq12 ?aq13 ?lq13 ?cq13 ?kq13 ?aq14 ?iq14 ?lq14 ?cq14 ?kq14 ?aq15 ?iq15 ?lq15 ?cq15 ?kq15 ?aq16 ?lq16 ?cq16 ?kq16 ?aq17 ?lq17 ?cq17 ?kq17 ?aq18 ?lq18 ?cq18 ?kq18 ?aq19 ?lq19 ?cq19 ?kq19 ?aq20 ?lq20 ?cq20 ?kq20 ?aq21 ?lq21 ?cq21 ?kq21 ?aq22 ?lq22 ?cq22 ?kq22 ?aq23 ?lq23 ?cq23 ?kq23 ?aq24 ?lq24 ?cq24 ?kq24 ?aq25 ?lq25 ?cq25 ?kq25 ?aq26 ?lq26 ?cq26 ?kq26 ?pg_Book ?hd_Book ?po_Book ?sa_Book ?mk_Book ?kc_Book ?n_Book_listed ?c_LETTERS ?c_MAX_LETTERS ?c_MAX_ORDERS_books ?c_MAX_DAY ?c_MAX_WAY ?c_WORD ?c_DIGITS ?c_MAX_DIGITS ?c_WORDS ?taB ?raB ?rbB ?fcB ?eg_InvalidOrder ?ek_InvalidOrder ?es_InvalidOrder ?ed_InvalidOrder ?ea_InvalidOrder ?en_InvalidOrder ?et_InvalidOrder ?em_InvalidOrder ?ex_InvalidOrder ?ev_InvalidOrder ?kt_InvalidOrder_InvalidOperation ?kt_InvalidOrder_InvalidOrder ?kt_InvalidOrder_UnknownOrder ?kt_InvalidOrder_NotHolding ?kt_InvalidOrder_DecodeError ?kt_InvalidOrder_NotationError ?kt_InvalidOrder_UnknownLetter ?kt_InvalidOrder_InvalidAddress ?kt_InvalidOrder_InvalidDay ?kt_InvalidOrder_InvalidNumber ?kt_InvalidOrder_Contradiction ?kt_InvalidOrder_InvalidCount ?eg_NotationError ?ek_NotationError ?es_NotationError ?ed_NotationError ?ea_NotationError ?en_NotationError ?et_NotationError ?em_NotationError ?ex_NotationError ?ev_NotationError ?kt_NotationError_InvalidOperation ?kt_NotationError_InvalidOrder ?kt_NotationError_UnknownOrder ?kt_NotationError_NotHolding ?kt_NotationError_DecodeError ?kt_NotationError_NotationError ?kt_NotationError_UnknownLetter ?kt_NotationError_InvalidAddress ?kt_NotationError_InvalidDay ?kt_NotationError_InvalidNumber ?kt_NotationError_Contradiction ?kt_NotationError_InvalidCount ?na_InvalidOrder ?na_NotationError_row ?na_NotationError_word ?b_isinstance ?b_int ?b_bool ?b_str ?b_tuple ?b_list ?b_len ?b_all ?b_enumerate ?b_range ?b_min ?b_max ?b_ValueError ?sf ?hTb ?hnP_PL_q26 ?hcH_PL_q26
    (case aC_Book => k_is)
    (case ge_MailError => k_is)
    (case ge_InvalidOperation => k_is)
    (case ge_InvalidOrder => k_is)
    (case ge_UnknownOrder => k_is)
    (case ge_NotHolding => k_is)
    (case ge_DecodeError => k_is)
    (case ge_NotationError => k_is)
    (case ge_UnknownLetter => k_is)
    (case ge_InvalidAddress => k_is)
    (case ge_InvalidDay => k_is)
    (case ge_InvalidNumber => k_is)
    (case ge_Contradiction => k_is)
    (case ge_InvalidCount => k_is)
    (case ob_InvalidOrder => first | kernel_rfl | kit_is | rfl)
    (case sa_InvalidOrder => k_is)
    (case xs_InvalidOrder => k_is)
    (case xt_InvalidOrder => k_is)
    (case xk_InvalidOrder => k_is)
    (case ob_NotationError => first | kernel_rfl | kit_is | rfl)
    (case sa_NotationError => k_is)
    (case xs_NotationError => k_is)
    (case xt_NotationError => k_is)
    (case xk_NotationError => k_is)
    (case aq0 => k_is)
    (case lq0 => k_is)
    (case cq0 => k_is)
    (case kq0 => k_is)
    (case aq1 => k_is)
    (case lq1 => k_is)
    (case cq1 => k_is)
    (case kq1 => k_is)
    (case aq2 => k_is)
    (case lq2 => k_is)
    (case cq2 => k_is)
    (case kq2 => k_is)
    (case aq3 => k_is)
    (case lq3 => k_is)
    (case cq3 => k_is)
    (case kq3 => k_is)
    (case aq4 => k_is)
    (case iq4 => k_is)
    (case lq4 => k_is)
    (case cq4 => k_is)
    (case kq4 => k_is)
    (case aq5 => k_is)
    (case pgq5 => k_is)
    (case ptq5 => k_is)
    (case prq5 => k_is)
    (case lq5 => k_is)
    (case cq5 => k_is)
    (case kq5 => k_is)
    (case aq6 => k_is)
    (case iq6 => k_is)
    (case lq6 => k_is)
    (case cq6 => k_is)
    (case kq6 => k_is)
    (case aq7 => k_is)
    (case iq7 => k_is)
    (case lq7 => k_is)
    (case cq7 => k_is)
    (case kq7 => k_is)
    (case aq8 => k_is)
    (case lq8 => k_is)
    (case cq8 => k_is)
    (case kq8 => k_is)
    (case aq9 => k_is)
    (case lq9 => k_is)
    (case cq9 => k_is)
    (case kq9 => k_is)
    (case aq10 => k_is)
    (case lq10 => k_is)
    (case cq10 => k_is)
    (case kq10 => k_is)
    (case aq11 => k_is)
    (case lq11 => k_is)
    (case cq11 => k_is)
    (case kq11 => k_is)
    (case aq12 => k_is)
    (case lq12 => k_is)
    (case cq12 => k_is)
    (case kq12 => k_is)
    (case aq13 => k_is)
    (case lq13 => k_is)
    (case cq13 => k_is)
    (case kq13 => k_is)
    (case aq14 => k_is)
    (case iq14 => k_is)
    (case lq14 => k_is)
    (case cq14 => k_is)
    (case kq14 => k_is)
    (case aq15 => k_is)
    (case iq15 => k_is)
    (case lq15 => k_is)
    (case cq15 => k_is)
    (case kq15 => k_is)
    (case aq16 => k_is)
    (case lq16 => k_is)
    (case cq16 => k_is)
    (case kq16 => k_is)
    (case aq17 => k_is)
    (case lq17 => k_is)
    (case cq17 => k_is)
    (case kq17 => k_is)
    (case aq18 => k_is)
    (case lq18 => k_is)
    (case cq18 => k_is)
    (case kq18 => k_is)
    (case aq19 => k_is)
    (case lq19 => k_is)
    (case cq19 => k_is)
    (case kq19 => k_is)
    (case aq20 => k_is)
    (case lq20 => k_is)
    (case cq20 => k_is)
    (case kq20 => k_is)
    (case aq21 => k_is)
    (case lq21 => k_is)
    (case cq21 => k_is)
    (case kq21 => k_is)
    (case aq22 => k_is)
    (case lq22 => k_is)
    (case cq22 => k_is)
    (case kq22 => k_is)
    (case aq23 => k_is)
    (case lq23 => k_is)
    (case cq23 => k_is)
    (case kq23 => k_is)
    (case aq24 => k_is)
    (case lq24 => k_is)
    (case cq24 => k_is)
    (case kq24 => k_is)
    (case aq25 => k_is)
    (case lq25 => k_is)
    (case cq25 => k_is)
    (case kq25 => k_is)
    (case aq26 => k_is)
    (case lq26 => k_is)
    (case cq26 => k_is)
    (case kq26 => k_is)
    (case pg_Book => k_is)
    (case hd_Book => k_is)
    (case po_Book => k_is)
    (case sa_Book => k_is)
    (case mk_Book => k_is)
    (case kc_Book => k_is)
    (case n_Book_listed => k_is)
    (case c_LETTERS => k_is)
    (case c_MAX_LETTERS => k_is)
    (case c_MAX_ORDERS_books => k_is)
    (case c_MAX_DAY => k_is)
    (case c_MAX_WAY => k_is)
    (case c_WORD => k_is)
    (case c_DIGITS => k_is)
    (case c_MAX_DIGITS => k_is)
    (case c_WORDS => k_is)
    (case taB => k_is)
    (case raB => k_is)
    (case rbB => k_is)
    (case fcB => k_is)
    (case eg_InvalidOrder => k_is)
    (case ek_InvalidOrder => k_is)
    (case es_InvalidOrder => k_is)
    (case ed_InvalidOrder => k_is)
    (case ea_InvalidOrder => k_is)
    (case en_InvalidOrder => k_is)
    (case et_InvalidOrder => k_is)
    (case em_InvalidOrder => k_is)
    (case ex_InvalidOrder => first | kernel_rfl | kit_is | rfl)
    (case ev_InvalidOrder => first | kernel_rfl | kit_is | rfl)
    (case kt_InvalidOrder_InvalidOperation => first | kernel_rfl | kit_is | rfl)
    (case kt_InvalidOrder_InvalidOrder => first | kernel_rfl | kit_is | rfl)
    (case kt_InvalidOrder_UnknownOrder => first | kernel_rfl | kit_is | rfl)
    (case kt_InvalidOrder_NotHolding => first | kernel_rfl | kit_is | rfl)
    (case kt_InvalidOrder_DecodeError => first | kernel_rfl | kit_is | rfl)
    (case kt_InvalidOrder_NotationError => first | kernel_rfl | kit_is | rfl)
    (case kt_InvalidOrder_UnknownLetter => first | kernel_rfl | kit_is | rfl)
    (case kt_InvalidOrder_InvalidAddress => first | kernel_rfl | kit_is | rfl)
    (case kt_InvalidOrder_InvalidDay => first | kernel_rfl | kit_is | rfl)
    (case kt_InvalidOrder_InvalidNumber => first | kernel_rfl | kit_is | rfl)
    (case kt_InvalidOrder_Contradiction => first | kernel_rfl | kit_is | rfl)
    (case kt_InvalidOrder_InvalidCount => first | kernel_rfl | kit_is | rfl)
    (case eg_NotationError => k_is)
    (case ek_NotationError => k_is)
    (case es_NotationError => k_is)
    (case ed_NotationError => k_is)
    (case ea_NotationError => k_is)
    (case en_NotationError => k_is)
    (case et_NotationError => k_is)
    (case em_NotationError => k_is)
    (case ex_NotationError => first | kernel_rfl | kit_is | rfl)
    (case ev_NotationError => first | kernel_rfl | kit_is | rfl)
    (case kt_NotationError_InvalidOperation => first | kernel_rfl | kit_is | rfl)
    (case kt_NotationError_InvalidOrder => first | kernel_rfl | kit_is | rfl)
    (case kt_NotationError_UnknownOrder => first | kernel_rfl | kit_is | rfl)
    (case kt_NotationError_NotHolding => first | kernel_rfl | kit_is | rfl)
    (case kt_NotationError_DecodeError => first | kernel_rfl | kit_is | rfl)
    (case kt_NotationError_NotationError => first | kernel_rfl | kit_is | rfl)
    (case kt_NotationError_UnknownLetter => first | kernel_rfl | kit_is | rfl)
    (case kt_NotationError_InvalidAddress => first | kernel_rfl | kit_is | rfl)
    (case kt_NotationError_InvalidDay => first | kernel_rfl | kit_is | rfl)
    (case kt_NotationError_InvalidNumber => first | kernel_rfl | kit_is | rfl)
    (case kt_NotationError_Contradiction => first | kernel_rfl | kit_is | rfl)
    (case kt_NotationError_InvalidCount => first | kernel_rfl | kit_is | rfl)
    (case na_InvalidOrder => k_is)
    (case na_NotationError_row => k_is)
    (case na_NotationError_word => k_is)
    (case b_isinstance => k_is)
    (case b_int => k_is)
    (case b_bool => k_is)
    (case b_str => k_is)
    (case b_tuple => k_is)
    (case b_list => k_is)
    (case b_len => k_is)
    (case b_all => k_is)
    (case b_enumerate => k_is)
    (case b_range => k_is)
    (case b_min => k_is)
    (case b_max => k_is)
    (case b_ValueError => k_is)
    (case sf => k_is)
    (case hTb => exact PySem.W.km_tabs_of Y)
    (case hnP_PL_q26 => first | kernel_rfl | rfl)
    (case hcH_PL_q26 => first | kernel_rfl | rfl)
