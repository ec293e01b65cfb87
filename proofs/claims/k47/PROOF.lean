import PyProof.Rows.All
import Wide.All
import OpenK.AllK
import Wide.FinOn
import HandS.ForMost
import HandS.Star
import HandS.Walk
import KE.GoesMore
import KE.KUnpack
import HandS.More
import HandS.GenOver
import HandS.GenList
import HandS.IsInst
import HandS.Wide
import HandS.TupAny
import HandS.Codes
import HandS.Property
import HandS.ClsMeth
import HandS.FStr
import PyProof.Rows.StrIntSpec
import KE.KxField
import PyProof.FString2
import HandS.Exc
import HandS.ExcOwn
import HandS.ExcInit
import HandS.ExcIs
import HandS.ExcField
import HandS.Small
import HandS.Lambda
import HandS.EndTab
import KE.KDflt
import HandS.SetFor
import PyProof.SeqRoads2
import PyProof.Rows.CountFlat
import HandS.Deep
import KE.KExcInit
import KE.GoesComp
import PySem.Challenge.RW_mailforwards_k47_travel_lists
import HandS.RaiseMore
import HandS.Text
import PyProof.StrOps2
import KE.KEqSeq
import HandS.Style
import HandS.Comp
import HandS.TryOnly
import KE.KNestM
import KE.KLam
set_option Elab.async false
set_option linter.all false
set_option maxRecDepth 100000
set_option maxHeartbeats 1000000
namespace MF
open PySem PySem.Spec PyProof.Rows L2

def gFld (K : PySem.W.Frag) (to : TE) (f : Str) : TG := fun v σ H Q => to σ H fun x H1 => ∃ a C dx fs, x = .ref a ∧ H1 a = some (.ins C dx fs) ∧ Cls K C ∧ NoAttr K C f ∧ fs.length < 1000 ∧ Q σ (upd H1 a (.ins C dx (putF f v fs)))
theorem pg_fld {X : Cx} {o : Expr} {f : Str} {pos : Pos} {to : TE} (ho : PE X o to) : PG X (.Attribute o f pos) (gFld X.K to f) := by
  refine ⟨fun pins s σ H v u Q I r h => ?_⟩
  show wpAny _ _ (do
    let ov ← holding [u] (eval o X.env)
    standAt pos.atName
    holding [u, ov] (setAttr ov f u)
    release [u, ov] []) _ _ _
  refine wpAny_bind (wpAny_holding (thn (ho.run pins s σ H _ I h) fun ov s1 ⟨x, H1, I1, r1, a, C, dx, fs, ex, ea, c, n, l, q⟩ => ?_))
  subst ex
  obtain rfl : ov = Value.ref a := r1
  refine wpAny_bind (wpAny_standAt (wpAny_bind (wpAny_holding (setattr_ok I1 ea c n l r fun s2 I2 => ?_))))
  exact wpAny_release ⟨σ, _, I2, q⟩

theorem notNI {Q : Value → Shared → Prop} {v : V} {u : Value} {s' : Shared} (r : RelV v u) (h : Q u s') : PySem.W.CmpBack Q u s' := by
  cases v with
  | non => cases (show u = Value.none from r); exact h
  | bl b => cases (show u = Value.bool b from r); exact h
  | int i => obtain ⟨t, rfl⟩ := (show ∃ t, u = Value.int i t from r); exact h
  | str x => obtain ⟨t, rfl⟩ := (show ∃ t, u = Value.str x t from r); exact h
  | byt b => obtain ⟨t, rfl⟩ := (show ∃ t, u = Value.bytes b t from r); exact h
  | flt b => obtain ⟨t, rfl⟩ := (show ∃ t, u = Value.float b t from r); exact h
  | ref a => cases (show u = Value.ref a from r); exact h
  | ty n => cases (show u = Value.type n from r); exact h
theorem op_own {X : Cx} {op : Operator} {C f : Addr} {fd : FuncData} {ps : List Str} {CX : CXT} {k : Nat} {sp : Sp} {E : XK} (hc : PySem.W.selfFirst X.K C = true) (hs : PySem.W.findIn X.K (.ref C) (PySem.dunder op.info.2) = some (some (.ref f))) (hf : PySem.W.isFn X.K (.ref f) = true)
    (F : FnOk X.prog X.w X.K X.mg X.base CX k f fd ps sp) (hr : Room k X.A) (hb : Binds X.K fd ps []) (hx : Passes CX X E) :
    OpR X (binaryOp op) (fun x y H Q => ∃ a b dx dy fs gs, x = .ref a ∧ y = .ref b ∧ H a = some (.ins C dx fs) ∧ H b = some (.ins C dy gs) ∧ sp [.ref a, .ref b] H Q E) := by
  rintro pins s σ H x y u v Q I rx ry ⟨a, b, dx, dy, fs, gs, rfl, rfl, ea, eb, h⟩
  obtain rfl : u = Value.ref a := rx
  obtain rfl : v = Value.ref b := ry
  obtain ⟨mA, O, _⟩ := ins_get I.hok ea
  obtain ⟨mB, O', _⟩ := ins_get I.hok eb
  obtain ⟨od, ia, _⟩ := O.look
  obtain ⟨od', ib, _⟩ := O'.look
  obtain ⟨m, fr⟩ := I.fr
  refine PySem.W.binop_K fr I.mod.kin ia ib.type hc hs hf ?_
  refine thn (run_fn (us := [.ref a, .ref b]) (vs := [.ref a, .ref b]) F hr hb (dvs := []) .nil hx I (.cons rfl (.cons rfl .nil)) (by simpa using h)) fun r s' hq => ?_
  obtain ⟨z, H', I', rz, q⟩ := hq
  exact notNI rz ⟨z, H', I', rz, q⟩

theorem meets_enum_newT (t : Addr) (items : Array Value) :
    Meets (Builtin.«enumerate.__new__» ⟨[.type "enumerate", .ref t], []⟩) (fun _ R s => s.heap.IsTuple t items ∧
      R (.ok (.ret (.ref (s.heap.push { cls := .type "tuple_iterator", data := .fields #[.ref t, .int 0 0] }).objs.size))) { s with heap := (s.heap.push { cls := .type "tuple_iterator", data := .fields #[.ref t, .int 0 0] }).push { cls := .type "enumerate", data := .fields #[.none, .bool false, .ref s.heap.objs.size, rawInt 0, .none, .none] } }) :=
  .of_wp fun prog w A R s h => by
    obtain ⟨hp, g, d, tk, os⟩ := s; obtain ⟨h1, h⟩ := h
    have hsub := sub_enumerate
    have q1 : ∀ {A' : Around} {E : Value → Shared → Prop} {Q : Value → Shared → Prop}, Q (.ref hp.objs.size) ⟨hp.push { cls := .type "tuple_iterator", data := .fields #[.ref t, .int 0 0] }, g, d, tk, os⟩ → wpAny (model prog w) A' (pyIter (.ref t)) Q E ⟨hp, g, d, tk, os⟩ :=
      fun q => (begins_tuple t items).iter prog w _ _ ⟨hp, g, d, tk, os⟩ _ h1 q
    wp_walk using q1
    refine wpAny_stack_any fun st => wpAny_pure ?_
    split
    · rename_i c _ _ _ _ _
      cases (c == Value.type "enumerate")
      · wp_walk using q1
        exact ⟨_, rfl, h⟩
      · wp_walk using q1
        exact ⟨_, rfl, h⟩
    · wp_walk using q1
      exact ⟨_, rfl, h⟩
theorem call_enum_tuple {prog : Program} {w : World} {A : Around} {E : Value → Shared → Prop} {s : Shared} {t : Addr} {items : Array Value} {Q : Value → Shared → Prop} (ht : s.heap.IsTuple t items)
    (h : ∀ h', IsEnum h' (s.heap.objs.size + 1) s.heap.objs.size 0 .none → h'.IsTupleIter s.heap.objs.size t 0 → h'.objs.size = s.heap.objs.size + 2 →
      (∀ b o, s.heap.get? b = some o → h'.get? b = some o) → Q (.ref (s.heap.objs.size + 1)) { s with heap := h' }) :
    wpAny (model prog w) A (call (.type "enumerate") [.ref t]) Q E s := by
  refine callType_new F.called_enumerate (by decide) (F.typeCall_enumerate_1 _) (F.newCall_enumerate_1 _) (fun obj => F.args_object_init_2 obj _) F.entry_enumerate_new
    (meets_enum_newT t items) ⟨ht, ?_⟩
  have hz : (s.heap.push { cls := .type "tuple_iterator", data := .fields #[.ref t, .int 0 0] }).objs.size = s.heap.objs.size + 1 := Heap.size_push ..
  show _ ∧ _
  rw [hz]
  have he : IsEnum ((s.heap.push { cls := .type "tuple_iterator", data := .fields #[.ref t, .int 0 0] }).push
      { cls := .type "enumerate", data := .fields #[.none, .bool false, .ref s.heap.objs.size, rawInt 0, .none, .none] }) (s.heap.objs.size + 1) s.heap.objs.size 0 .none := by
    have := Heap.get?_push_size (s.heap.push { cls := .type "tuple_iterator", data := .fields #[.ref t, .int 0 0] })
      (o := { cls := .type "enumerate", data := .fields #[.none, .bool false, .ref s.heap.objs.size, rawInt 0, .none, .none] }) rfl
    rw [hz] at this; exact this
  exact ⟨⟨_, he, rfl⟩, h _ he ⟨_, Heap.get?_push_of_some _ (Heap.get?_push_size _ rfl), rfl, rfl⟩ (by rw [Heap.size_push, hz]) fun b o x => Heap.get?_push_of_some _ (Heap.get?_push_of_some _ x)⟩

def ItE (K : PySem.W.Frag) (a : Addr) : It :=
  ⟨fun i H => ∃ (xs : List V) (x : V), SqT K H a xs ∧ xs[i]? = some x, fun i H v H' => ∃ T x, v = .ref T ∧ H T = none ∧ H' = upd H T (.tup [.int (i : Nat), x]) ∧ ∀ xs, SqT K H a xs → xs[i]? = some x, fun i H => ∃ xs : List V, SqT K H a xs ∧ xs.length = i⟩
theorem turn_enumT {P : Program} {w : World} {K : PySem.W.Frag} {elts : List Expr} {kk : Nat} {tpos : Pos} (a e it : Addr) :
    Turn P w K (.Tuple elts kk tpos) (ItE K a) [e, it] e (fun i h => (∃ old, IsEnum h e it ((i : Nat) : Int) old) ∧ h.IsTupleIter it a i ∧ e ≠ it) where
  mem := by simp
  obj := fun i h st b hb => by
    obtain ⟨⟨old, he⟩, ⟨o, ho, hc, hd⟩, _⟩ := st
    have e' : b = e ∨ b = it := by simpa using hb
    rcases e' with z | z
    · rw [z]; exact ⟨_, he, fun v q => nomatch q⟩
    · rw [z]; exact ⟨o, ho, fun v q => by rw [hd] at q; cases q⟩
  keep := fun i h h' st k => let ⟨⟨old, he⟩, hi, hne⟩ := st; ⟨⟨old, k e (by simp) _ he⟩, hi.at fun o q => k it (by simp) o q, hne⟩
  item := by
    intro X hP hw hK hc i pins s σ H E I hf st hg
    subst hP hw hK
    obtain ⟨⟨old, he⟩, hit, hne⟩ := st
    obtain ⟨xs, x, hq, hx⟩ := hg
    obtain ⟨its, rv, p, hz⟩ := I.tuple hq
    obtain ⟨u, hu, ru⟩ := rv.get hx
    have hel : e < s.heap.objs.size := Heap.lt_size he
    have hil : it < s.heap.objs.size := by obtain ⟨_, q, _⟩ := hit; exact Heap.lt_size q
    have pt : s.heap.IsTuple a its.toArray := p
    have hai : a ≠ it := fun z => by
      subst z
      obtain ⟨o1, e1, c1, _⟩ := pt
      obtain ⟨o2, e2, c2, _⟩ := hit
      rw [e1] at e2; cases e2
      rw [c1] at c2
      exact absurd (Value.type.inj c2) (by decide)
    have hae : a ≠ e := fun z => by
      subst z
      obtain ⟨o1, e1, c1, _⟩ := pt
      rw [he] at e1; cases e1
      exact absurd (Value.type.inj c1) (by decide)
    have hlt : i < its.toArray.size := by
      have := (List.getElem?_eq_some_iff.mp hu).1
      simpa using this
    refine wpAny_pyNext_enum_itemD (Draws.tuple (A := X.A.in1) (by simpa using I.ok.hd hc) it a hai its.toArray) he ⟨hit, pt⟩ hlt hne (by simp [hne, Ne.symm hae]) fun x' h' tk hx' ho st' hT hsz hk => ?_
    have eu : x' = u := by
      have q : its.toArray[i]? = some u := by simpa using hu
      rw [q] at hx'; cases hx'; rfl
    subst eu
    refine ⟨_, rfl, wpAny_letOwnedTupleGo_enum (s := { s with heap := h', toks := tk + 1 }) ho fun h'' he' sb => ?_⟩
    have hT2 : h''.get? s.heap.objs.size = some { cls := .type "tuple", data := .seq #[.int i tk, x'] } := (sb.2 _ (Nat.ne_of_gt hel)).trans hT
    have new : ObjOk X.prog X.w (upd H s.heap.objs.size (.tup [.int (i : Nat), x])) h'' s.heap.objs.size (.tup [.int (i : Nat), x]) :=
      ⟨by show 2 ≤ sizeLine; decide, [.int i tk, x'], .cons ⟨_, rfl⟩ (.cons ru .nil), ⟨_, hT2, rfl, _, rfl⟩⟩
    have I1 : Inv X pins σ (upd H s.heap.objs.size (.tup [.int (i : Nat), x])) { s with heap := h'', toks := tk + 1 } :=
      I.turnedNew (ch := [e, it]) (fun b ob hb q => (sb.2 b (fun z => hb (by simp [z]))).trans (hk b ob (fun z => hb (by simp [z])) (fun z => hb (by simp [z])) q)) hf (Nat.le_refl _) new
    refine ⟨.ref s.heap.objs.size, _, I1, rfl, ⟨_, x, rfl, I.hok.fresh (Nat.le_refl _), rfl, fun ys hy => by rw [I.tuple_inj hy hq]; exact hx⟩, ⟨⟨x', ?_⟩, st'.1.at fun o q => (sb.2 it (Ne.symm hne)).trans q, hne⟩, fun b hb => ?_⟩
    · have e1 : ((i + 1 : Nat) : Int) = (i : Int) + 1 := by omega
      rw [e1]; exact he'
    · have hb' : b < s.heap.objs.size := by
        have e' : b = e ∨ b = it := by simpa using hb
        rcases e' with z | z
        · rw [z]; exact hel
        · rw [z]; exact hil
      rw [upd_ne (Nat.ne_of_lt hb')]
      exact (hf b hb).1
  done := by
    intro X hP hw hK hc i pins s σ H E I hf st hg
    subst hP hw hK
    obtain ⟨⟨old, he⟩, hit, hne⟩ := st
    obtain ⟨xs, hq, hx⟩ := hg
    obtain ⟨its, rv, p, hz⟩ := I.tuple hq
    obtain ⟨f0, f1, f2, f3, f4, f5⟩ := hf it (by simp)
    have pt : s.heap.IsTuple a its.toArray := p
    have hai : a ≠ it := fun z => by
      subst z
      obtain ⟨o1, e1, c1, _⟩ := pt
      obtain ⟨o2, e2, c2, _⟩ := hit
      rw [e1] at e2; cases e2
      rw [c1] at c2
      exact absurd (Value.type.inj c2) (by decide)
    have hl := rv.length
    have en : its.toArray.size = i := by simp; omega
    exact wpAny_pyNext_enum_endD (Draws.tuple (A := X.A.in1) (by simpa using I.ok.hd hc) it a hai its.toArray) he (by rw [en]; exact ⟨hit, pt⟩) fun h' eb => ⟨rfl, I.turned (t' := s.toks) (fun b o hb q => eb b o hb q) f0 f1 f3 f4 f5⟩
  self := fun A i s Q E st h => let ⟨⟨_, he⟩, _⟩ := st; wpAny_pyIter_enum he h
def iEnumT (K : PySem.W.Frag) (ta : TA) : TI := fun σ H R => ta σ H fun vs H1 => ∃ a xs, vs = [.ref a] ∧ SqT K H1 a xs ∧ R (ItE K a) H1
theorem pi_enumT {X : Cx} {e : Expr} {ta : TA} {p pos tpos : Pos} {elts : List Expr} {kk : Nat} (hg : Gl X "enumerate") (hm : X.mg "enumerate" = none) (ha : PA X [e] ta) (hs : starEach [e] X.env = [(false, eval e X.env)] := by rfl) :
    PI X (.Tuple elts kk tpos) (.Call (.Name "enumerate" p) [e] [] pos) (iEnumT X.K ta) := by
  refine ⟨fun pins s σ H R I h => ?_⟩
  refine Call_ (ld_blt I hg hm boot_enumerate (PyProof.Rows.callWith_type1 (thn (ha.run pos pins s σ H _ I h) fun us s1 ⟨vs, H1, I1, r1, q1⟩ => ?_) hs rfl))
  obtain ⟨a, xs, ex, hq, q⟩ := q1
  subst ex
  cases r1 with
  | cons r rr =>
    cases rr
    cases r
    obtain ⟨its, rv, p', hz⟩ := I1.tuple hq
    refine call_enum_tuple (show s1.heap.IsTuple a its.toArray from p') fun h' he hit hsz hk => wpAny_pyIter_enum he ?_
    have I2 : Inv X pins σ H1 { s1 with heap := h' } := I1.kept (t' := s1.toks) hk
    refine ⟨s1.heap.objs.size + 1, [s1.heap.objs.size + 1, s1.heap.objs.size], _, _, H1, rfl, I2, turn_enumT a (s1.heap.objs.size + 1) s1.heap.objs.size, ⟨⟨.none, he⟩, hit, Nat.succ_ne_self _⟩, fun b hb => ?_, q⟩
    have e' : b = s1.heap.objs.size + 1 ∨ b = s1.heap.objs.size := by simpa using hb
    have hle : s1.heap.objs.size ≤ b := by
      rcases e' with z | z
      · rw [z]; exact Nat.le_add_right _ _
      · rw [z]; exact Nat.le_refl _
    exact I1.fpOk hle (I1.hok.fresh hle)
theorem walk_enumT {K : PySem.W.Frag} {a : Addr} {xs : List V} : Walk (ItE K a) xs.length (fun H => SqT K H a xs) (YPair (fun i => some (.int (i : Nat))) (fun i => xs[i]?)) :=
  ⟨fun i H hi hg => ⟨xs, xs[i], hg, by simp [hi]⟩, fun H hg => ⟨xs, hg, rfl⟩, fun i H v H' hi hg ⟨T, x, e1, e2, e3, e4⟩ => ⟨T, _, x, e1, e2, e3, rfl, e4 xs hg⟩⟩


def setAll : List Nat → List V → L2.St → L2.St
  | i :: is, v :: vs, σ => setAll is vs (σ.set i (some v))
  | _, _, σ => σ
inductive Caps (X : Cx) : List Pattern → List Nat → Prop
  | nil : Caps X [] []
  | cons {x : Str} {p : Pos} {ps : List Pattern} {i : Nat} {is : List Nat} (hi : X.N[i]? = some x) (hx : Loc X.env.scope x) (hf : X.fn x = true ∨ X.env.scope.names.lookup x = some .local) (r : Caps X ps is) : Caps X (.MatchAs none (some x) p :: ps) (i :: is)
def capNames : List Pattern → List Str
  | .MatchAs none (some x) _ :: ps => x :: capNames ps
  | _ => []
theorem Caps.len {X : Cx} : ∀ {ps : List Pattern} {is : List Nat}, Caps X ps is → ps.length = is.length
  | _, _, .nil => rfl
  | _, _, .cons _ _ _ r => by simp [r.len]
theorem Caps.each {X : Cx} {A : Around} {E : Value → Shared → Prop} {s : Shared} : ∀ {ps : List Pattern} {is : List Nat} {us : List Value} {Q : Option (List (Str × Value)) → Shared → Prop}, Caps X ps is → us.length = ps.length →
    Q (some ((capNames ps).zip us)) s → wpAny (model X.prog X.w) A (matchEach ps X.env us) Q E s
  | _, _, [], Q, .nil, _, h => wpAny_matchEach_nil h
  | _, _, u :: us, Q, .cons hi hx hf r, hl, h => by
    refine wpAny_matchEach_cons (wpAny_matchPattern_Capture ?_)
    show wpAny _ _ (matchEach _ X.env us) _ _ _
    exact Caps.each r (by simpa using hl) h
theorem Caps.store {X : Cx} {pins : List (Addr × Obj)} {H : Hp} (hN : X.N.Nodup) : ∀ {ps : List Pattern} {is : List Nat} {us : List Value} {vs : List V} {σ : L2.St} {s : Shared} {Q : Unit → Shared → Prop}, Caps X ps is → Vals vs us → us.length = ps.length → Inv X pins σ H s →
    (∀ s', Inv X pins (setAll is vs σ) H s' → Q () s') → wpAny (model X.prog X.w) X.A (assignInOrder (((capNames ps).zip us).map fun (n, _) => bindName X.env n) (((capNames ps).zip us).map (·.2))) Q X.xe s
  | _, _, _, _, σ, s, Q, .nil, .nil, _, I, h => assignInOrder_nil (h s I)
  | _, _, _, _, σ, s, Q, .cons hi hx hf r, .cons rv rr, hl, I, h => by
    refine assignInOrder_cons (wpAny_bindName (store_ok I hN hi hx rv (fun s' I' => ?_) hf))
    exact Caps.store hN r rr (by simpa using hl) I' h
theorem fitL {n : Nat} (h : n ≤ sizeLine) : (n : Int) < 2 ^ 63 := by
  have h2 : n < 2 ^ 63 := Nat.lt_of_le_of_lt h line63
  exact Int.ofNat_lt.mpr h2
def notSeq : V → Bool
  | .non => true
  | .bl _ => true
  | .int _ => true
  | .str _ => true
  | _ => false
def tMatch (K : PySem.W.Frag) (is : List Nat) (te : TE) (tg : TT) (tb tc : TS) : TS := fun D σ H => te σ H fun x H1 =>
  (∃ a vs, x = .ref a ∧ (SqT K H1 a vs ∨ SqL K H1 a vs) ∧ ((vs.length = is.length ∧ tg (setAll is vs σ) H1 fun b H2 => if b = true then tb D (setAll is vs σ) H2 else tc D (setAll is vs σ) H2) ∨ (vs.length ≠ is.length ∧ tc D σ H1))) ∨
  (notSeq x = true ∧ tc D σ H1)
theorem ps_match {X : Cx} {subject g : Expr} {ps : List Pattern} {is : List Nat} {body other : List Stmt} {p1 p2 pos : Pos} {te : TE} {tg : TT} {tb tc : TS} (hc : X.calm = true) (hN : X.N.Nodup) (he : PE X subject te) (hp : Caps X ps is) (hg : PT X g tg) (hb : PSs X body tb) (ho : PSs X other tc)
    (hstar : ps.findIdx? (·.isStar) = none := by rfl) (hwild : (ps.all fun p => p.isWildcard || (p.isStar && p.names.isEmpty)) = false := by rfl) :
    PS X (.Match subject [⟨.MatchSequence ps p1, some g, body⟩, ⟨.MatchAs none none p2, none, other⟩] pos) (tMatch X.K is te tg tb tc) := by
  refine ⟨fun pins s σ H D I h => ?_⟩
  refine wpAny_Match (thn (he.run pins s σ H _ I h) fun u s1 ⟨x, H1, I1, r1, q1⟩ => ?_)
  have last : ∀ {s2 : Shared} {σ2 : L2.St} {H2 : Hp}, Inv X pins σ2 H2 s2 → tc D σ2 H2 → wpAny (model X.prog X.w) X.A (matchCases [⟨.MatchAs none none p2, none, other⟩] X.env u false) (SP X pins D) X.xe s2 := fun {s2 σ2 H2} I2 q2 => by
    refine wpAny_matchCases_cons (wpAny_matchPattern_Capture ?_)
    show wpAny _ _ (assignInOrder [] []) _ _ _
    exact assignInOrder_nil (ho.run pins s2 σ2 H2 D I2 q2)
  refine wpAny_matchCases_cons ?_
  rcases q1 with ⟨a, vs, rfl, hq, q⟩ | ⟨hn, q⟩
  · obtain rfl : u = Value.ref a := r1
    rcases hq with hq | hq
    · obtain ⟨its, rv, p, hz⟩ := I1.tuple hq
      have hl := rv.length
      have fit : (its.toArray.size : Int) < 2 ^ 63 := fitL (by rw [List.size_toArray, ← hl]; exact hz)
      have en : its.toArray.size = vs.length := by rw [List.size_toArray, hl]
      rcases q with ⟨el, q⟩ | ⟨el, q⟩
      · have e0 : ps.length = its.toArray.size := by rw [en, el, hp.len]
        refine matchSeq_tuple_hit p fit e0.symm ?_ hstar hwild
        rw [e0]
        refine unpackItems_tuple (s := { s1 with toks := s1.toks + 1 + 1 }) (I.ok.hd hc) p fun h' hx' => ?_
        have I2 := (I1.tok (s1.toks + 1 + 1)).kept (h' := h') (t' := s1.toks + 1 + 1) fun b o e => hx' b o (Nat.ne_of_lt (Heap.lt_size e)) e
        refine Caps.each hp (by rw [Array.length_toList, e0]) ?_
        refine Caps.store (us := its.toArray.toList) (vs := vs) hN hp (by simpa using rv) (by rw [Array.length_toList, e0]) I2 fun s3 I3 => ?_
        refine thn (hg.run pins s3 _ H1 _ I3 q) fun b s4 ⟨H2, I4, q4⟩ => ?_
        cases b with
        | true => exact hb.run pins s4 _ H2 D I4 (by simpa using q4)
        | false => exact last I4 (by simpa using q4)
      · refine matchSeq_tuple_miss p fit (by rw [en, hp.len]; exact el) ?_ hstar hwild
        exact last (I1.tok _) q
    · obtain ⟨its, rv, p, hz⟩ := I1.list hq
      have hl := rv.length
      have fit : (its.toArray.size : Int) < 2 ^ 63 := fitL (by rw [List.size_toArray, ← hl]; exact hz)
      have en : its.toArray.size = vs.length := by rw [List.size_toArray, hl]
      rcases q with ⟨el, q⟩ | ⟨el, q⟩
      · have e0 : ps.length = its.toArray.size := by rw [en, el, hp.len]
        refine matchSeq_list_hit p.isList fit e0.symm ?_ hstar hwild
        rw [e0]
        refine PySem.W.kun_itemsOf (s := { s1 with toks := s1.toks + 1 + 1 }) (I.ok.hd hc) p.isList fun h' hx' => ?_
        have I2 := (I1.tok (s1.toks + 1 + 1)).kept (h' := h') (t' := s1.toks + 1 + 1) fun b o e => hx' b o (Nat.ne_of_lt (Heap.lt_size e)) e
        refine Caps.each hp (by rw [Array.length_toList, e0]) ?_
        refine Caps.store (us := its.toArray.toList) (vs := vs) hN hp (by simpa using rv) (by rw [Array.length_toList, e0]) I2 fun s3 I3 => ?_
        refine thn (hg.run pins s3 _ H1 _ I3 q) fun b s4 ⟨H2, I4, q4⟩ => ?_
        cases b with
        | true => exact hb.run pins s4 _ H2 D I4 (by simpa using q4)
        | false => exact last I4 (by simpa using q4)
      · refine matchSeq_list_miss p.isList fit (by rw [en, hp.len]; exact el) ?_ hstar hwild
        exact last (I1.tok _) q
  · have miss : ∀ {T : String}, s1.TypeIs u T → flagOfType true (.type T) = pure false → wpAny (model X.prog X.w) X.A (matchPattern (.MatchSequence ps p1) X.env u) (fun r s₁ => match r with
          | none => wpAny (model X.prog X.w) X.A (matchCases [⟨.MatchAs none none p2, none, other⟩] X.env u false) (SP X pins D) X.xe s₁
          | some bs => wpAny (model X.prog X.w) X.A (assignInOrder (bs.map fun (n, _) => bindName X.env n) (bs.map (·.2))) (fun _ s₂ => wpAny (model X.prog X.w) X.A (isTrue g X.env (eval g X.env))
                  (fun ok s₃ => if ok then wpAny (model X.prog X.w) X.A (execs body X.env) (SP X pins D) X.xe s₃ else wpAny (model X.prog X.w) X.A (matchCases [⟨.MatchAs none none p2, none, other⟩] X.env u false) (SP X pins D) X.xe s₃) X.xe s₂) X.xe s₁) X.xe s1 := fun {T} hT hfl => by
      refine wpAny_matchPattern_Sequence (wpAny_collectionFlag hT hfl ?_) hstar hwild
      rw [if_neg (by decide)]
      exact last I1 q
    cases x with
    | non => cases (show u = Value.none from r1); exact miss (T := "NoneType") (by trivial) flag_seq_None
    | bl b => cases (show u = Value.bool b from r1); exact miss (T := "bool") (by trivial) flag_seq_bool
    | int i => obtain ⟨t, rfl⟩ := (show ∃ t, u = Value.int i t from r1); exact miss (T := "int") (by trivial) flag_seq_int
    | str z => obtain ⟨t, rfl⟩ := (show ∃ t, u = Value.str z t from r1); exact miss (T := "str") (by trivial) flag_seq_str
    | byt b => cases hn
    | flt b => cases hn
    | ref a => cases hn
    | ty n => cases hn

end MF
set_option Elab.async false
set_option linter.all false
set_option maxRecDepth 100000
set_option maxHeartbeats 1000000
namespace MF
open PySem PySem.Spec PyProof.Rows L2 StX

structure GFn (P : Program) (w : World) (K : PySem.W.Frag) (mg : Str → Option Value) (base : Heap) (CX : CXT) (k : Nat) (x : Str) (sp : Sp) : Prop where
  ex : ∃ f, FnR P w K mg base CX k f sp ∧ mg x = some (.ref f) ∧ PySem.W.keepIn K (.ref f) = true
structure MFn (P : Program) (w : World) (K : PySem.W.Frag) (mg : Str → Option Value) (base : Heap) (CX : CXT) (k : Nat) (C : Addr) (m : Str) (sp : Sp) : Prop where
  ex : ∃ f, FnR P w K mg base CX k f sp ∧ Meth K C m f
structure IFn (P : Program) (w : World) (K : PySem.W.Frag) (mg : Str → Option Value) (base : Heap) (CX : CXT) (k : Nat) (C : Addr) (x : Str) (sp : Sp) : Prop where
  ex : ∃ f, FnR P w K mg base CX k f sp ∧ Mk K C f ∧ mg x = some (.ref C)
section
variable {P : Program} {w : World} {K : PySem.W.Frag} {mg : Str → Option Value} {base : Heap} {CX : CXT} {j k : Nat} {C : Addr} {x m : Str} {sp sp' : Sp}
theorem GFn.mono (G : GFn P w K mg base CX j x sp) (h : j ≤ k) : GFn P w K mg base CX k x sp := let ⟨f, a, b⟩ := G.ex; ⟨f, a.mono h, b⟩
theorem GFn.imp (G : GFn P w K mg base CX k x sp) (h : ∀ vs H Q E, sp' vs H Q E → sp vs H Q E) : GFn P w K mg base CX k x sp' := let ⟨f, a, b⟩ := G.ex; ⟨f, a.imp h, b⟩
theorem MFn.mono (G : MFn P w K mg base CX j C m sp) (h : j ≤ k) : MFn P w K mg base CX k C m sp := let ⟨f, a, b⟩ := G.ex; ⟨f, a.mono h, b⟩
theorem MFn.imp (G : MFn P w K mg base CX k C m sp) (h : ∀ vs H Q E, sp' vs H Q E → sp vs H Q E) : MFn P w K mg base CX k C m sp' := let ⟨f, a, b⟩ := G.ex; ⟨f, a.imp h, b⟩
end
structure GDef (K : PySem.W.Frag) (mg : Str → Option Value) (x : Str) (st : Stmt) (ps : List Str) : Prop where
  ex : ∃ f fd, Fun K x x st f fd ∧ mg x = some (.ref f) ∧ Binds K fd ps []
structure MDef (K : PySem.W.Frag) (C : Addr) (m qual : Str) (st : Stmt) (ps : List Str) : Prop where
  ex : ∃ f fd, Fun K m qual st f fd ∧ Meth K C m f ∧ Binds K fd ps []
structure IDef (K : PySem.W.Frag) (mg : Str → Option Value) (C : Addr) (x qual : Str) (st : Stmt) (ps : List Str) : Prop where
  ex : ∃ f fd, Fun K "__init__" qual st f fd ∧ Mk K C f ∧ mg x = some (.ref C) ∧ Binds K fd ps []
section
variable {P : Program} {w : World} {K : PySem.W.Frag} {mg : Str → Option Value} {base : Heap} {CX : CXT} {k : Nat} {C : Addr} {x m qual : Str} {st : Stmt} {ps : List Str} {sp : Sp}
theorem raw0 {f : Addr} {fd : FuncData} (F : FnOk P w K mg base CX k f fd ps sp) (hb : Binds K fd ps []) : FnR P w K mg base CX k f sp :=
  (F.raw hb (dvs := []) .nil).imp fun vs H Q E h => by rw [List.append_nil]; exact h
theorem GDef.fn (D : GDef K mg x st ps) (h : ∀ f fd, Fun K x x st f fd → FnOk P w K mg base CX k f fd ps sp) : GFn P w K mg base CX k x sp :=
  let ⟨f, fd, a, b, c⟩ := D.ex
  ⟨f, raw0 (h f fd a) c, b, a.kp⟩
theorem MDef.fn (D : MDef K C m qual st ps) (h : ∀ f fd, Fun K m qual st f fd → FnOk P w K mg base CX k f fd ps sp) : MFn P w K mg base CX k C m sp :=
  let ⟨f, fd, a, b, c⟩ := D.ex
  ⟨f, raw0 (h f fd a) c, b⟩
theorem IDef.fn (D : IDef K mg C x qual st ps) (h : ∀ f fd, Fun K "__init__" qual st f fd → FnOk P w K mg base CX k f fd ps sp) : IFn P w K mg base CX k C x sp :=
  let ⟨f, fd, a, b, c, d⟩ := D.ex
  ⟨f, raw0 (h f fd a) d, b, c⟩
end
section
variable {X : Cx} {CX : CXT} {k : Nat} {C : Addr} {x m : Str} {sp : Sp} {E : XK} {e o : Expr} {es : List Expr} {ta te : TE} {t : TA} {p pos apos sp_ : Pos}
def tG (sp : Sp) (E : XK) (t : TA) : TE := fun σ H Q => t σ H fun vs H1 => sp vs H1 Q E
theorem pe_gX (G : GFn X.prog X.w X.K X.mg X.base CX k x sp) (hr : Room k X.A) (hx : Passes CX X E) (ha : PA X (e :: es) t) (hg : Gl X x := by rfl) (hdb : (x == ("__debug__" : Str)) = false := by decide)
    (he : starEach (e :: es) X.env = (false, eval e X.env) :: starEach es X.env := by rfl) (hpl : (backTo pos (starEach es X.env)).any (·.1) = false := by rfl) :
    PE X (.Call (.Name x p) (e :: es) [] pos) (tG sp E t) := by
  obtain ⟨f, F, hm, hk⟩ := G.ex
  refine ⟨fun pins s σ H Q I h => ?_⟩
  refine wpAny_Call_Name_kw (ld_glob I hg hm ?_ hdb)
  refine PySem.W.callWith_K (h₀ := X.base) I.ok.mod.kin hk (thn (ha.run pos pins s σ H _ I h) fun us s1 ⟨vs, H1, I1, r, q⟩ => ⟨I1.kIn, ?_⟩) he hpl
  exact wpAny_call (run_fnR F hr hx I1 r q)
theorem pe_g (G : GFn X.prog X.w X.K X.mg X.base CX0 k x sp) (hr : Room k X.A) (ha : PA X (e :: es) t) (hg : Gl X x := by rfl) (hdb : (x == ("__debug__" : Str)) = false := by decide)
    (he : starEach (e :: es) X.env = (false, eval e X.env) :: starEach es X.env := by rfl) (hpl : (backTo pos (starEach es X.env)).any (·.1) = false := by rfl) :
    PE X (.Call (.Name x p) (e :: es) [] pos) (tG sp E0 t) := pe_gX G hr pass0 ha hg hdb he hpl
theorem pe_g0X (G : GFn X.prog X.w X.K X.mg X.base CX k x sp) (hr : Room k X.A) (hx : Passes CX X E) (hg : Gl X x := by rfl) (hdb : (x == ("__debug__" : Str)) = false := by decide) :
    PE X (.Call (.Name x p) [] [] pos) (tG sp E tNil) := by
  obtain ⟨f, F, hm, hk⟩ := G.ex
  refine ⟨fun pins s σ H Q I h => ?_⟩
  refine wpAny_Call_Name_kw (ld_glob I hg hm ?_ hdb)
  exact PySem.W.callWith_K0 I.kIn hk (wpAny_call (run_fnR (us := []) F hr hx I .nil h))
theorem pe_gS (G : GFn X.prog X.w X.K X.mg X.base CX k x sp) (hr : Room k X.A) (hx : Passes CX X E) (he : PE X e te) (hg : Gl X x := by rfl) (hdb : (x == ("__debug__" : Str)) = false := by decide)
    (hst : starEach [.Starred e sp_] X.env = [(true, eval e X.env)] := by rfl) :
    PE X (.Call (.Name x p) [.Starred e sp_] [] pos) (tG sp E (tStar X.K te tNil)) := by
  obtain ⟨f, F, hm, hk⟩ := G.ex
  refine ⟨fun pins s σ H Q I h => ?_⟩
  refine wpAny_Call_Name_kw (ld_glob I hg hm ?_ hdb)
  refine PySem.W.callWith_S (h₀ := X.base) I.ok.mod.kin hk (thn (he.run pins s σ H _ I h) fun v s1 ⟨y, H1, I1, ry, a, xs, ey, hxs, q⟩ => ?_) hst
  subst ey
  obtain rfl : v = Value.ref a := ry
  refine star_any I1 hxs fun us s2 I2 rv => ⟨I2.kIn, wpAny_call (run_fnR F hr hx I2 rv ?_)⟩
  have q' : sp (xs ++ []) H1 Q E := q
  rw [List.append_nil] at q'
  exact q'
theorem pe_mkX (G : IFn X.prog X.w X.K X.mg X.base CX k C x sp) (hr : Room (k + 1) X.A) (hx : Passes CX X E) (ha : PA X (e :: es) t) (hg : Gl X x := by rfl) (hdb : (x == ("__debug__" : Str)) = false := by decide)
    (he : starEach (e :: es) X.env = (false, eval e X.env) :: starEach es X.env := by rfl) (hpl : (backTo pos (starEach es X.env)).any (·.1) = false := by rfl) : PE X (.Call (.Name x p) (e :: es) [] pos) (tMakeR C sp E t) := by
  obtain ⟨f, F, M, hm⟩ := G.ex
  exact pe_makeR M F hr hg hm hx ha hdb he hpl
theorem pe_mk0X (G : IFn X.prog X.w X.K X.mg X.base CX k C x sp) (hr : Room (k + 1) X.A) (hx : Passes CX X E) (hg : Gl X x := by rfl) (hdb : (x == ("__debug__" : Str)) = false := by decide) : PE X (.Call (.Name x p) [] [] pos) (tMakeR C sp E tNil) := by
  obtain ⟨f, F, M, hm⟩ := G.ex
  refine ⟨fun pins s σ H Q I h => ?_⟩
  refine wpAny_Call_Name_kw (ld_glob I hg hm ?_ hdb)
  exact PySem.W.callWith_K0 I.kIn M.kp (run_makeR (us := []) M F hr hx I .nil h)
theorem pe_mkS (G : IFn X.prog X.w X.K X.mg X.base CX k C x sp) (hr : Room (k + 1) X.A) (hx : Passes CX X E) (he : PE X e te) (hg : Gl X x := by rfl) (hdb : (x == ("__debug__" : Str)) = false := by decide)
    (hst : starEach [.Starred e sp_] X.env = [(true, eval e X.env)] := by rfl) : PE X (.Call (.Name x p) [.Starred e sp_] [] pos) (tMakeR C sp E (tStar X.K te tNil)) := by
  obtain ⟨f, F, M, hm⟩ := G.ex
  refine ⟨fun pins s σ H Q I h => ?_⟩
  refine wpAny_Call_Name_kw (ld_glob I hg hm ?_ hdb)
  refine PySem.W.callWith_S (h₀ := X.base) I.ok.mod.kin M.kp (thn (he.run pins s σ H _ I h) fun v s1 ⟨y, H1, I1, ry, a, xs, ey, hxs, q⟩ => ?_) hst
  subst ey
  obtain rfl : v = Value.ref a := ry
  refine star_any I1 hxs fun us s2 I2 rv => ⟨I2.kIn, run_makeR M F hr hx I2 rv ?_⟩
  have q' : ∀ x dx, H1 x = none → H1 dx = none → dx ≠ x → sp (V.ref x :: (xs ++ [])) (upd (upd H1 dx (.own x)) x (.ins C dx [])) (fun v H2 => v = .non ∧ Q (.ref x) H2) E := q
  rw [List.append_nil] at q'
  exact q'
theorem pe_mkS2 (G : IFn X.prog X.w X.K X.mg X.base CX k C x sp) (hr : Room (k + 1) X.A) (hx : Passes CX X E) (ha : PA X (e :: es) t) (hg : Gl X x := by rfl) (hdb : (x == ("__debug__" : Str)) = false := by decide)
    (he : starEach (e :: es) X.env = (false, eval e X.env) :: starEach es X.env := by rfl) (hst : (backTo pos (starEach es X.env)).any (·.1) = true := by rfl) : PE X (.Call (.Name x p) (e :: es) [] pos) (tMakeR C sp E t) := by
  obtain ⟨f, F, M, hm⟩ := G.ex
  refine ⟨fun pins s σ H Q I h => ?_⟩
  refine wpAny_Call_Name_kw (ld_glob I hg hm ?_ hdb)
  refine PySem.W.callWith_S2 (h₀ := X.base) I.ok.mod.kin M.kp (thn (ha.run pos pins s σ H _ I h) fun us s1 ⟨vs, H1, I1, r, q⟩ => ⟨I1.kIn, ?_⟩) he hst
  exact run_makeR M F hr hx I1 r q
def tM (C : Addr) (m : Str) (sp : Sp) (E : XK) (ta : TE) (t : TA) : TE := fun σ H Q => ta σ H fun x H1 => ∃ a dx fs, x = .ref a ∧ H1 a = some (.ins C dx fs) ∧ fs.lookup m = none ∧ t σ H1 fun vs H2 => sp (x :: vs) H2 Q E
theorem pe_mX {pl : Sem Bool} (G : MFn X.prog X.w X.K X.mg X.base CX k C m sp) (c : Cls X.K C) (hr : Room k X.A) (hx : Passes CX X E) (he : PE X o ta) (ha : PA X (e :: es) t)
    (hst : starEach (e :: es) X.env = (false, eval e X.env) :: starEach es X.env := by rfl) (hpl : (backTo pos (starEach es X.env)).any (·.1) = false := by rfl)
    (ht : eval (.Call (.Attribute o m apos) (e :: es) [] pos) X.env = (do
      let ov ← eval o X.env
      standAt apos.atName
      let (f, first) ← holding [ov] (getMethod ov m pl)
      callWith pos f first (backTo pos (starEach (e :: es) X.env)) (backToKw pos (keywordEach [] X.env))) := by rfl) :
    PE X (.Call (.Attribute o m apos) (e :: es) [] pos) (tM C m sp E ta t) := by
  obtain ⟨f, F, hm⟩ := G.ex
  refine ⟨fun pins s σ H Q I h => ?_⟩
  refine PySem.W.methodCall_KW (pl := pl) (thn (he.run pins s σ H _ I h) fun u s1 ⟨x, H1, I1, rx, a, dx, fs, ex, ea, l, q⟩ => ?_) ht
  subst ex
  obtain rfl : u = Value.ref a := rx
  refine getmeth_ok I1 ea c hm l ?_
  refine PySem.W.callWith_K (first := [.ref a]) (h₀ := X.base) I.ok.mod.kin hm.kp (thn (ha.run pos pins s1 σ H1 _ I1 q) fun us s2 ⟨vs, H2, I2, r, q2⟩ => ⟨I2.kIn, ?_⟩) hst hpl
  exact wpAny_call (run_fnR (us := .ref a :: us) (vs := .ref a :: vs) F hr hx I2 (.cons rfl r) q2)
theorem pe_m {pl : Sem Bool} (G : MFn X.prog X.w X.K X.mg X.base CX0 k C m sp) (c : Cls X.K C) (hr : Room k X.A) (he : PE X o ta) (ha : PA X (e :: es) t)
    (hst : starEach (e :: es) X.env = (false, eval e X.env) :: starEach es X.env := by rfl) (hpl : (backTo pos (starEach es X.env)).any (·.1) = false := by rfl)
    (ht : eval (.Call (.Attribute o m apos) (e :: es) [] pos) X.env = (do
      let ov ← eval o X.env
      standAt apos.atName
      let (f, first) ← holding [ov] (getMethod ov m pl)
      callWith pos f first (backTo pos (starEach (e :: es) X.env)) (backToKw pos (keywordEach [] X.env))) := by rfl) :
    PE X (.Call (.Attribute o m apos) (e :: es) [] pos) (tM C m sp E0 ta t) := pe_mX G c hr pass0 he ha hst hpl ht
theorem pe_mX0 {pl : Sem Bool} (G : MFn X.prog X.w X.K X.mg X.base CX k C m sp) (c : Cls X.K C) (hr : Room k X.A) (hx : Passes CX X E) (he : PE X o ta)
    (ht : eval (.Call (.Attribute o m apos) [] [] pos) X.env = (do
      let ov ← eval o X.env
      standAt apos.atName
      let (f, first) ← holding [ov] (getMethod ov m pl)
      callWith pos f first (backTo pos (starEach [] X.env)) (backToKw pos (keywordEach [] X.env))) := by rfl) :
    PE X (.Call (.Attribute o m apos) [] [] pos) (tM C m sp E ta tNil) := by
  obtain ⟨f, F, hm⟩ := G.ex
  refine ⟨fun pins s σ H Q I h => ?_⟩
  refine PySem.W.methodCall_KW (pl := pl) (thn (he.run pins s σ H _ I h) fun u s1 ⟨x, H1, I1, rx, a, dx, fs, ex, ea, l, q⟩ => ?_) ht
  subst ex
  obtain rfl : u = Value.ref a := rx
  refine getmeth_ok I1 ea c hm l ?_
  exact PySem.W.callWith_K0 (first := [.ref a]) I1.kIn hm.kp (wpAny_call (run_fnR (us := [.ref a]) (vs := [.ref a]) F hr hx I1 (.cons rfl .nil) q))
theorem pe_m0 {pl : Sem Bool} (G : MFn X.prog X.w X.K X.mg X.base CX0 k C m sp) (c : Cls X.K C) (hr : Room k X.A) (he : PE X o ta)
    (ht : eval (.Call (.Attribute o m apos) [] [] pos) X.env = (do
      let ov ← eval o X.env
      standAt apos.atName
      let (f, first) ← holding [ov] (getMethod ov m pl)
      callWith pos f first (backTo pos (starEach [] X.env)) (backToKw pos (keywordEach [] X.env))) := by rfl) :
    PE X (.Call (.Attribute o m apos) [] [] pos) (tM C m sp E0 ta tNil) := pe_mX0 G c hr pass0 he ht
theorem pe_gint {n : Int} (h : ∃ t, X.mg x = some (.int n t)) (hg : Gl X x := by rfl) (hd : (x == ("__debug__" : Str)) = false := by decide) : PE X (.Name x pos) (tC (.int n)) := by
  obtain ⟨t, h⟩ := h
  exact pe_glob hg h ⟨_, rfl⟩ hd
theorem pe_gstr {z : Str} (h : ∃ t, X.mg x = some (.str z t)) (hg : Gl X x := by rfl) (hd : (x == ("__debug__" : Str)) = false := by decide) : PE X (.Name x pos) (tC (.str z)) := by
  obtain ⟨t, h⟩ := h
  exact pe_glob hg h ⟨_, rfl⟩ hd
end
theorem op_ownR {X : Cx} {op : Operator} {C f : Addr} {m : Str} {CX : CXT} {k : Nat} {sp : Sp} {E : XK} (hc : PySem.W.selfFirst X.K C = true) (M : Meth X.K C m f) (F : FnR X.prog X.w X.K X.mg X.base CX k f sp) (hr : Room k X.A) (hx : Passes CX X E) (hm : PySem.dunder op.info.2 = m := by rfl) :
    OpR X (binaryOp op) (fun x y H Q => ∃ a b dx dy fs gs, x = .ref a ∧ y = .ref b ∧ H a = some (.ins C dx fs) ∧ H b = some (.ins C dy gs) ∧ sp [.ref a, .ref b] H Q E) := by
  subst hm
  rintro pins s σ H x y u v Q I rx ry ⟨a, b, dx, dy, fs, gs, rfl, rfl, ea, eb, h⟩
  obtain rfl : u = Value.ref a := rx
  obtain rfl : v = Value.ref b := ry
  obtain ⟨mA, O, _⟩ := ins_get I.hok ea
  obtain ⟨mB, O', _⟩ := ins_get I.hok eb
  obtain ⟨od, ia, _⟩ := O.look
  obtain ⟨od', ib, _⟩ := O'.look
  obtain ⟨mm, fr⟩ := I.fr
  refine PySem.W.binop_K fr I.mod.kin ia ib.type hc M.at_ M.fn ?_
  refine thn (wpAny_call (run_fnR (us := [.ref a, .ref b]) (vs := [.ref a, .ref b]) F hr hx I (.cons rfl (.cons rfl .nil)) h)) fun r s' hq => ?_
  obtain ⟨z, H', I', rz, q⟩ := hq
  exact notNI rz ⟨z, H', I', rz, q⟩
structure SDef (K : PySem.W.Frag) (mg : Str → Option Value) (C : Addr) (x qual : Str) (st : Stmt) (p1 pv : Str) : Prop where
  ex : ∃ f fd, Fun K "__init__" qual st f fd ∧ Mk K C f ∧ mg x = some (.ref C) ∧ ∀ us rest : List Value, us.length = [p1].length → bindArgs fd ⟨us ++ rest, []⟩ = (newTuple rest >>= fun t => pure ([p1].zip us ++ [(pv, t)]))
theorem SDef.fn0 {P : Program} {w : World} {K : PySem.W.Frag} {mg : Str → Option Value} {base : Heap} {k : Nat} {C : Addr} {x qual p1 pv : Str} {st : Stmt} {N : List Str} {sp : Sp} (D : SDef K mg C x qual st p1 pv) (S : FnScope N [p1, pv] (defScope st))
    (hbody : ∀ (f : Addr) (cdv : Value) (A : Around) (outer : List Env) (s : Shared) (H : Hp) (vs : List V) (Q : VK) (E : XK), Room k (A.deeper (envOfC qual (defScope st) s.heap.objs.size f cdv)) → sp vs H Q E →
      ∃ t, PSs (cxOf CX0 P w K mg base N qual (defScope st) f cdv A outer s H E).nox (defBody st) t ∧ t { nx := fun _ H' => Q .non H', rt := Q } (start N vs) H) :
    IFn P w K mg base CX0 (k + 1) C x (fun vs H Q E => ∃ v rest, vs = v :: rest ∧ rest.length ≤ sizeLine ∧ ∀ p, H p = Option.none → sp [v, V.ref p] (upd H p (.tup rest)) Q E) := by
  obtain ⟨f, fd, F, M, hm, hb⟩ := D.ex
  obtain ⟨oc, od, kV, doc, pm, an, cdv, ct, osl, rfl, lk, hcd⟩ := F.ex
  refine ⟨f, (fn_star (ps := [p1]) (pv := pv) (sp := sp) lk hcd S cxUp_none hb fun A outer s H vs Q E hr hsp => ?_).imp fun vs H Q E h => ?_, M, hm⟩
  · obtain ⟨t, h, q⟩ := hbody f cdv A outer s H vs Q E hr hsp
    exact ⟨t, h.nox, q⟩
  · obtain ⟨v, rest, rfl, hl, q⟩ := h
    exact ⟨[v], rest, rfl, rfl, hl, q⟩
end MF
set_option Elab.async false
set_option linter.all false
set_option maxRecDepth 100000
set_option maxHeartbeats 1000000
namespace MF
open PySem PySem.Spec PyProof.Rows L2 StX
section
variable {X : Cx} {pins : List (Addr × Obj)} {σ : L2.St} {H : Hp} {s : Shared} {CX : CXT} {k : Nat} {C f : Addr} {sp : Sp} {E : XK}
theorem run_in1 {us : List Value} {vs : List V} {Q : VK} (F : FnR X.prog X.w X.K X.mg X.base CX k f sp) (hr : Room (k + 1) X.A) (hx : Passes CX X E) (I : Inv X pins σ H s) (r : Vals vs us) (h : sp vs H Q E) : wpAny (model X.prog X.w) X.A.in1 (call (.ref f) us) (EP X pins σ Q) X.xe s := by
  have e0 := I.env0
  refine wpAny_call (codeAny_mono (F X.A.in1 X.stack s H us vs Q E hr.in1 ⟨e0.frames, e0.mod, e0.bs, e0.bsz, e0.funs, e0.frf, e0.hok, e0.bare⟩ r h) fun r s' hq => ?_)
  cases r with
  | error e => exact hx pins σ H s e s' I hq
  | ok fl =>
    cases fl with
    | ret u => exact I.after hq
    | next => exact False.elim hq
    | brk => exact False.elim hq
    | cont => exact False.elim hq
def rLenO (C : Addr) (sp : Sp) (E : XK) : List V → Hp → VK → Prop := fun xs H Q => ∃ a dx fs, xs = [.ref a] ∧ H a = some (.ins C dx fs) ∧ sp [.ref a] H (fun v H' => ∃ n : Nat, v = .int (n : Int) ∧ (n : Int) < 2 ^ 63 ∧ Q (.int (n : Int)) H') E
theorem cr_lenO (M : Meth X.K C "__len__" f) (F : FnR X.prog X.w X.K X.mg X.base CX k f sp) (hr : Room (k + 1) X.A) (hx : Passes CX X E) : CallR X (.builtin "len") (rLenO C sp E) := by
  rintro pins s σ H xs us Q I r ⟨a, dx, fs, rfl, ea, h⟩
  rw [Vals.ref1 r]
  obtain ⟨mA, O, _⟩ := ins_get I.hok ea
  obtain ⟨od, ia, _⟩ := O.look
  obtain ⟨mm, fr⟩ := I.fr
  refine PySem.W.len_K fr I.mod.kin ia M.at_ M.fn ?_
  refine thn (run_in1 (us := [.ref a]) (vs := [.ref a]) F hr hx I (.cons rfl .nil) h) fun r s' hq => ?_
  obtain ⟨z, H', I', rz, n, rfl, hn, q⟩ := hq
  obtain ⟨t, rfl⟩ := rz
  exact ⟨⟨by omega, hn⟩, .int n, H', I'.tok _, ⟨_, rfl⟩, q⟩
def rIxO (C : Addr) (sp : Sp) (E : XK) : R2 := fun x y H Q => ∃ a dx fs, x = .ref a ∧ H a = some (.ins C dx fs) ∧ sp [.ref a, y] H Q E
theorem pe_ixO {a b : Expr} {ta tb : TE} {pos : Pos} (M : Meth X.K C "__getitem__" f) (F : FnR X.prog X.w X.K X.mg X.base CX k f sp) (hr : Room (k + 1) X.A) (hx : Passes CX X E) (hfi : PySem.W.fnIn X.K f = true) (ha : PE X a ta) (hb : PE X b tb)
    (hsl : ∀ o i, subscripted b true o i = runValue (.builtin "lifetime.subscript" ⟨[o, i], []⟩)) : PE X (.Subscript a b pos) (tOp (rIxO C sp E) ta tb) := by
  refine ⟨fun pins s σ H Q I h => ?_⟩
  refine Subscript_ (binT ha hb I h fun v u s2 x y H2 I2 rx ry q => ?_)
  obtain ⟨c, dx, fs, rfl, ec, q⟩ := q
  obtain rfl : v = Value.ref c := rx
  obtain ⟨mA, O, _⟩ := ins_get I2.hok ec
  obtain ⟨od, ia, _⟩ := O.look
  obtain ⟨mm, fr⟩ := I2.fr
  refine PySem.W.sub_K fr I2.mod.kin ia M.at_ hfi M.fn ?_ (hsl _ _)
  exact run_in1 (us := [.ref c, u]) (vs := [.ref c, y]) F hr hx I2 (.cons rfl (.cons ry .nil)) q
end
end MF
set_option Elab.async false
set_option linter.all false
set_option maxRecDepth 100000
set_option maxHeartbeats 1000000
namespace MF
open PySem PyProof.Rows
open Sem (wp)
def trapOf : GenState → GenState
  | .suspended _ l c p fs cl => .suspended (fun _ => .unsupported "") l c p fs cl
  | x => x
def isSusp : GenState → Bool
  | .suspended .. => true
  | _ => false
def noGen : GenState → Prop
  | .suspended _ _ _ _ fs _ => splitAtGen fs = none
  | _ => True
def endNoGen : End → Prop
  | .ret _ => True
  | .susp _ _ _ _ _ _ fs => splitAtGen fs = none
theorem endNoGen.gs {e : End} (h : endNoGen e) : noGen e.genState := by
  cases e with
  | ret r => exact trivial
  | susp v g l k c p fs => exact h
theorem trapOf_seen (x : GenState) : (trapOf x).seen = x.seen := by cases x <;> rfl
theorem trapOf_bare (x : GenState) : (trapOf x).bare = x.bare := by cases x <;> rfl
structure RelG (T : Nat → Option GenState) (G0 G1 : Array GenState) : Prop where
  size : G0.size = G1.size
  tr : ∀ i r, T i = some r → G1[i]? = some r ∧ G0[i]? = some (trapOf r) ∧ isSusp r = true
  eq : ∀ i, T i = none → G0[i]? = G1[i]?
  ng : ∀ i st, T i = none → G1[i]? = some st → noGen st
theorem RelG.set {T : Nat → Option GenState} {G0 G1 : Array GenState} (h : RelG T G0 G1) {g : Nat} (hg : T g = none) {x : GenState} (hx : noGen x) : RelG T (G0.setIfInBounds g x) (G1.setIfInBounds g x) := by
  refine ⟨by simp [h.size], fun i r hi => ?_, fun i hi => ?_, fun i st hi e => ?_⟩
  · have ne : g ≠ i := fun z => by rw [z, hi] at hg; cases hg
    rw [Array.getElem?_setIfInBounds_ne ne, Array.getElem?_setIfInBounds_ne ne]
    exact h.tr i r hi
  · by_cases c : g = i
    · subst c
      rw [Array.getElem?_setIfInBounds, Array.getElem?_setIfInBounds, h.size, if_pos rfl, if_pos rfl]
    · rw [Array.getElem?_setIfInBounds_ne c, Array.getElem?_setIfInBounds_ne c]
      exact h.eq i hi
  · by_cases c : g = i
    · subst c
      rw [Array.getElem?_setIfInBounds, if_pos rfl] at e
      split at e
      · cases e; exact hx
      · cases e
    · rw [Array.getElem?_setIfInBounds_ne c] at e
      exact h.ng i st hi e
theorem RelG.push {T : Nat → Option GenState} {G0 G1 : Array GenState} (h : RelG T G0 G1) {x : GenState} (hx : noGen x) : RelG T (G0.push x) (G1.push x) := by
  refine ⟨by simp [h.size], fun i r hi => ?_, fun i hi => ?_, fun i st hi e => ?_⟩
  · obtain ⟨a, b, c⟩ := h.tr i r hi
    obtain ⟨l1, e1⟩ := Array.getElem?_eq_some_iff.mp a
    obtain ⟨l0, e0⟩ := Array.getElem?_eq_some_iff.mp b
    refine ⟨?_, ?_, c⟩
    · rw [Array.getElem?_push, if_neg (by omega)]; exact a
    · rw [Array.getElem?_push, if_neg (by omega)]; exact b
  · rw [Array.getElem?_push, Array.getElem?_push, h.size, h.eq i hi]
  · rw [Array.getElem?_push] at e
    split at e
    · cases e; exact hx
    · exact h.ng i st hi e
theorem RelG.notT {T : Nat → Option GenState} {G0 G1 : Array GenState} (h : RelG T G0 G1) {g : Nat} {x : GenState} (e : G0[g]? = some x) (n : isSusp x = false) : T g = none := by
  cases q : T g with
  | none => rfl
  | some r =>
    obtain ⟨_, b, c⟩ := h.tr g r q
    rw [e] at b
    cases b
    cases r <;> simp_all [isSusp, trapOf]
theorem split_app {fs fs' : List Frame} (h : splitAtGen fs = none) (h' : splitAtGen fs' = none) : splitAtGen (fs ++ fs') = none := by
  induction fs with
  | nil => exact h'
  | cons f fs ih =>
    cases f with
    | gen => simp [splitAtGen] at h
    | ret =>
      have h2 : (splitAtGen fs).map _ = none := h
      show (splitAtGen (fs ++ fs')).map _ = none
      rw [ih (by simpa using h2)]
      rfl
theorem split_tail {k : Result → Sem PySem.Fin} {h : Option Value} {g : Bool} {l kp : List Value} {c : Code} {p : Pos} {fs : List Frame} (e : splitAtGen (.ret k h g l c p kp :: fs) = none) : splitAtGen fs = none := by
  have e2 : (splitAtGen fs).map _ = none := e
  simpa using e2
theorem no_unsup {M : Model} {Γ : Ctx} {p : Pos} {x : String} {fs : List Frame} {s s' : Shared} {e : End} (h : Runs M Γ p (.unsupported x) fs s e s') : False := by
  cases h with
  | segRet h1 _ => cases h1
  | segGen h1 _ => cases h1
  | segSuspOut _ h1 => cases h1
  | segSuspGen _ h1 _ _ => cases h1
abbrev wg (s : Shared) (G : Array GenState) : Shared := { s with gens := G }
theorem wg_setGen (s : Shared) (G : Array GenState) (g : Nat) (x : GenState) : (wg s G).setGen g x = wg s (G.setIfInBounds g x) := rfl
theorem swapped {M : Model} {T : Nat → Option GenState} {Γ : Ctx} {p : Pos} {t : Sem PySem.Fin} {fs : List Frame} {s s' : Shared} {e : End} (h : Runs M Γ p t fs s e s') :
    splitAtGen fs = none → ∀ G1, RelG T s.gens G1 → endNoGen e ∧ ∃ G1', RelG T s'.gens G1' ∧ Runs M Γ p t fs (wg s G1) e (wg s' G1') := by
  induction h with
  | done => intro _ G1 r; exact ⟨trivial, G1, r, .done⟩
  | raise => intro _ G1 r; exact ⟨trivial, G1, r, .raise⟩
  | again hq _ ih => intro f G1 r; obtain ⟨a, G, b, c⟩ := ih f G1 r; exact ⟨a, G, b, .again hq c⟩
  | rule _ ih => intro f G1 r; obtain ⟨a, G, b, c⟩ := ih f G1 r; exact ⟨a, G, b, .rule c⟩
  | «at» _ ih => intro f G1 r; obtain ⟨a, G, b, c⟩ := ih f G1 r; exact ⟨a, G, b, .at c⟩
  | load ho _ ih => intro f G1 r; obtain ⟨a, G, b, c⟩ := ih f G1 r; exact ⟨a, G, b, .load ho c⟩
  | update ho _ ih => intro f G1 r; obtain ⟨a, G, b, c⟩ := ih f G1 r; exact ⟨a, G, b, .update ho c⟩
  | loadIfAlive _ ih => intro f G1 r; obtain ⟨a, G, b, c⟩ := ih f G1 r; exact ⟨a, G, b, .loadIfAlive c⟩
  | point _ ih => intro f G1 r; obtain ⟨a, G, b, c⟩ := ih f G1 r; exact ⟨a, G, b, .point c⟩
  | alloc _ ih => intro f G1 r; obtain ⟨a, G, b, c⟩ := ih f G1 r; exact ⟨a, G, b, .alloc c⟩
  | fresh _ ih => intro f G1 r; obtain ⟨a, G, b, c⟩ := ih f G1 r; exact ⟨a, G, b, .fresh c⟩
  | ask _ ih => intro f G1 r; obtain ⟨a, G, b, c⟩ := ih f G1 r; exact ⟨a, G, b, .ask c⟩
  | choose hn _ ih => intro f G1 r; obtain ⟨a, G, b, c⟩ := ih f G1 r; exact ⟨a, G, b, .choose hn c⟩
  | os _ ih => intro f G1 r; obtain ⟨a, G, b, c⟩ := ih f G1 r; exact ⟨a, G, b, .os c⟩
  | handled _ ih => intro f G1 r; obtain ⟨a, G, b, c⟩ := ih f G1 r; exact ⟨a, G, b, .handled c⟩
  | genState hg _ ih =>
    intro f G1 r
    obtain ⟨a, G, b, c⟩ := ih f G1 r
    have key : ∀ {g : Nat} {st : GenState} {Gz : Array GenState}, RelG T Gz G1 → Gz[g]? = some st → ∃ st', G1[g]? = some st' ∧ st'.seen = st.seen := fun {g st Gz} r hg => by
      cases q : T g with
      | none => exact ⟨st, by rw [← r.eq g q]; exact hg, rfl⟩
      | some x =>
        obtain ⟨q1, q2, _⟩ := r.tr g x q
        rw [hg] at q2
        cases q2
        exact ⟨x, q1, (trapOf_seen x).symm⟩
    obtain ⟨st', k1, k2⟩ := key r hg
    rw [← k2] at c
    exact ⟨a, G, b, .genState (st := st') k1 c⟩
  | stack _ ih => intro f G1 r; obtain ⟨a, G, b, c⟩ := ih f G1 r; exact ⟨a, G, b, .stack c⟩
  | thread _ ih => intro f G1 r; obtain ⟨a, G, b, c⟩ := ih f G1 r; exact ⟨a, G, b, .thread c⟩
  | newGen _ ih =>
    intro f G1 r
    obtain ⟨a, G, b, c⟩ := ih f _ (r.push trivial)
    refine ⟨a, G, b, .newGen ?_⟩
    rw [r.size] at c
    exact c
  | call _ _ ih1 ih2 =>
    intro f G1 r
    obtain ⟨_, G, b, c⟩ := ih1 rfl G1 r
    obtain ⟨a, G', b', c'⟩ := ih2 rfl G b
    exact ⟨a, G', b', .call c c'⟩
  | callSusp _ ih =>
    intro f G1 r
    obtain ⟨a, G, b, c⟩ := ih rfl G1 r
    exact ⟨split_app a rfl, G, b, .callSusp c⟩
  | yield => intro f G1 r; exact ⟨rfl, G1, r, .yield⟩
  | resumeFresh hg _ hq _ ih1 ih2 =>
    intro f G1 r
    have q := r.notT hg rfl
    obtain ⟨a, G, b, c⟩ := ih1 rfl _ (r.set (x := .running) q trivial)
    obtain ⟨a', G', b', c'⟩ := ih2 rfl _ (b.set q a.gs)
    exact ⟨a', G', b', .resumeFresh (by show G1[_]? = _; rw [← r.eq _ q]; exact hg) c hq c'⟩
  | @resumeSuspended Γ p g r0 l k s k₀ l₀ c₀ p₀ fs cl e₁ s₁ e s' hg h1 hq h2 ih1 ih2 =>
    intro f G1 r
    cases q : T g with
    | none =>
      have e1 : G1[g]? = some (.suspended k₀ l₀ c₀ p₀ fs cl) := by rw [← r.eq _ q]; exact hg
      obtain ⟨a, G, b, c⟩ := ih1 (r.ng g _ q e1) _ (r.set (x := .running) q trivial)
      obtain ⟨a', G', b', c'⟩ := ih2 rfl _ (b.set q a.gs)
      exact ⟨a', G', b', .resumeSuspended e1 c hq c'⟩
    | some x =>
      obtain ⟨_, q2, q3⟩ := r.tr g x q
      rw [hg] at q2
      cases x with
      | suspended k1 l1 c1 p1 fs1 cl1 =>
        have q2' := Option.some.inj q2
        unfold trapOf at q2'
        cases q2'
        exact (no_unsup h1).elim
      | _ => cases q3
  | resumeJustStarted hg hv _ ih =>
    intro f G1 r
    have q := r.notT hg rfl
    obtain ⟨a, G, b, c⟩ := ih f G1 r
    exact ⟨a, G, b, .resumeJustStarted (by show G1[_]? = _; rw [← r.eq _ q]; exact hg) hv c⟩
  | resumeThrowFresh hg _ ih =>
    intro f G1 r
    have q := r.notT hg rfl
    obtain ⟨a, G, b, c⟩ := ih f _ (r.set (x := .finished) q trivial)
    exact ⟨a, G, b, .resumeThrowFresh (by show G1[_]? = _; rw [← r.eq _ q]; exact hg) c⟩
  | resumeRunning hg _ ih =>
    intro f G1 r
    have q := r.notT hg rfl
    obtain ⟨a, G, b, c⟩ := ih f G1 r
    exact ⟨a, G, b, .resumeRunning (by show G1[_]? = _; rw [← r.eq _ q]; exact hg) c⟩
  | resumeFinished hg _ ih =>
    intro f G1 r
    have q := r.notT hg rfl
    obtain ⟨a, G, b, c⟩ := ih f G1 r
    exact ⟨a, G, b, .resumeFinished (by show G1[_]? = _; rw [← r.eq _ q]; exact hg) c⟩
  | segRet _ _ ih1 ih2 =>
    intro f G1 r
    obtain ⟨_, G, b, c⟩ := ih1 rfl G1 r
    obtain ⟨a, G', b', c'⟩ := ih2 (split_tail f) G b
    exact ⟨a, G', b', .segRet c c'⟩
  | segGen _ _ _ _ => intro f; simp [splitAtGen] at f
  | segSuspOut hs _ ih =>
    intro f G1 r
    obtain ⟨a, G, b, c⟩ := ih rfl G1 r
    exact ⟨split_app a hs, G, b, .segSuspOut hs c⟩
  | segSuspGen hs _ _ _ _ _ => intro f; rw [f] at hs; cases hs
theorem wakes_swapped {M : Model} {T : Nat → Option GenState} {Γ : Ctx} {p : Pos} {g : Nat} {r0 : Resume} {s s' : Shared} {res : GenResult} (h : Wakes M Γ p g r0 s res s') (G1 : Array GenState) (r : RelG T s.gens G1) :
    ∃ G1', RelG T s'.gens G1' ∧ Wakes M Γ p g r0 (wg s G1) res (wg s' G1') := by
  unfold Wakes at h ⊢
  cases hg : s.gens[g]? with
  | none => rw [hg] at h; exact h.elim
  | some st =>
    rw [hg] at h
    cases st with
    | suspended k₀ l₀ c₀ p₀ fs cl =>
      obtain ⟨e₁, s₁, h1, hq, e1, e2⟩ := h
      cases q : T g with
      | none =>
        have e1' : (wg s G1).gens[g]? = some (.suspended k₀ l₀ c₀ p₀ fs cl) := by show G1[g]? = _; rw [← r.eq _ q]; exact hg
        obtain ⟨a, G, b, c⟩ := swapped h1 (r.ng g _ q e1') _ (r.set (x := .running) q trivial)
        rw [e1']
        refine ⟨G.setIfInBounds g e₁.genState, by rw [e2]; exact b.set q a.gs, e₁, wg s₁ G, c, hq, e1, by rw [e2]; rfl⟩
      | some x =>
        obtain ⟨_, q2, q3⟩ := r.tr g x q
        rw [hg] at q2
        cases x with
        | suspended k1 l1 c1 p1 fs1 cl1 =>
          have q2' := Option.some.inj q2
          unfold trapOf at q2'
          cases q2'
          exact (no_unsup h1).elim
        | _ => cases q3
    | fresh c =>
      have q := r.notT hg rfl
      have e1' : (wg s G1).gens[g]? = some (.fresh c) := by show G1[g]? = _; rw [← r.eq _ q]; exact hg
      rw [e1']
      cases r0 with
      | send v =>
        cases v with
        | none =>
          obtain ⟨e₁, s₁, h1, hq, e1, e2⟩ := h
          obtain ⟨a, G, b, c⟩ := swapped h1 rfl _ (r.set (x := .running) q trivial)
          exact ⟨G.setIfInBounds g e₁.genState, by rw [e2]; exact b.set q a.gs, e₁, wg s₁ G, c, hq, e1, by rw [e2]; rfl⟩
        | _ =>
          obtain ⟨h1, h2⟩ := h
          exact ⟨G1, by rw [h2]; exact r, h1, by rw [h2]⟩
      | throw x =>
        obtain ⟨h1, h2⟩ := h
        exact ⟨G1.setIfInBounds g .finished, by rw [h2]; exact r.set q trivial, h1, by rw [h2]; rfl⟩
    | running =>
      have q := r.notT hg rfl
      have e1' : (wg s G1).gens[g]? = some .running := by show G1[g]? = _; rw [← r.eq _ q]; exact hg
      rw [e1']
      exact ⟨G1, by rw [h.2]; exact r, h.1, by rw [h.2]⟩
    | finished =>
      have q := r.notT hg rfl
      have e1' : (wg s G1).gens[g]? = some .finished := by show G1[g]? = _; rw [← r.eq _ q]; exact hg
      rw [e1']
      exact ⟨G1, by rw [h.2]; exact r, h.1, by rw [h.2]⟩
theorem wp_swapped {α : Type} (M : Model) (T : Nat → Option GenState) (Γ : Ctx) (t : Sem α) : ∀ (Q : α → Pos → Shared → Prop) (E : Value → Pos → Shared → Prop) (p : Pos) (s : Shared) (G1 : Array GenState), RelG T s.gens G1 → wp M Γ t Q E p s →
    wp M Γ t (fun a p' s' => ∃ G0, RelG T G0 s'.gens ∧ Q a p' (wg s' G0)) (fun e p' s' => ∃ G0, RelG T G0 s'.gens ∧ E e p' (wg s' G0)) p (wg s G1) := by
  induction t with
  | pure a => intro Q E p s G1 r h; exact ⟨s.gens, r, h⟩
  | raise e => intro Q E p s G1 r h; exact ⟨s.gens, r, h⟩
  | unsupported _ => intro Q E p s _ _ h; exact h
  | finish _ => intro Q E p s _ _ h; exact h
  | rule _ k ih => intro Q E p s G1 r h; exact ih () Q E p s G1 r h
  | «at» p' k ih => intro Q E p s G1 r h; exact ih () Q E p' s G1 r h
  | load a _ k ih => intro Q E p s G1 r h; obtain ⟨o, ho, h⟩ := h; exact ⟨o, ho, ih o Q E p s G1 r h⟩
  | update a _ f k ih => intro Q E p s G1 r h; exact ⟨h.1, ih () Q E p { s with heap := s.heap.update a f } G1 r h.2⟩
  | loadIfAlive a k ih => intro Q E p s G1 r h; exact ih _ Q E p s G1 r h
  | point _ k ih => intro Q E p s G1 r h; exact ih () Q E p s G1 r h
  | register _ _ => intro Q E p s _ _ h; exact h
  | alloc o k ih => intro Q E p s G1 r h; exact ih _ Q E p { s with heap := s.heap.push o } G1 r h
  | fresh k ih => intro Q E p s G1 r h; exact ih _ Q E p { s with toks := s.toks + 1 } G1 r h
  | ask k ih => intro Q E p s G1 r h; exact ih _ Q E p s G1 r h
  | choose src m k ih => intro Q E p s G1 r h; exact ⟨h.1, ih _ Q E p { s with drawn := s.drawn.bump src } G1 r h.2⟩
  | os q _ k ih => intro Q E p s G1 r h; exact ih _ Q E p { s with os := (Os.step s.os q).1 } G1 r h
  | call c hd _ _ k ih =>
    intro Q E p s G1 r h
    obtain ⟨x, s', hr, h⟩ := h
    obtain ⟨_, G, b, c⟩ := swapped hr rfl G1 r
    exact ⟨x, wg s' G, c, ih x Q E p s' G b h⟩
  | handled own k ih => intro Q E p s G1 r h; exact ih _ Q E p s G1 r h
  | genState g k ih =>
    intro Q E p s G1 r h
    obtain ⟨st, hs, h⟩ := h
    cases q : T g with
    | none => exact ⟨st, by show G1[g]? = some st; rw [← r.eq g q]; exact hs, ih _ Q E p s G1 r h⟩
    | some x =>
      obtain ⟨q1, q2, _⟩ := r.tr g x q
      rw [hs] at q2
      cases q2
      rw [trapOf_seen] at h
      exact ⟨x, q1, ih _ Q E p s G1 r h⟩
  | newGen c k ih =>
    intro Q E p s G1 r h
    have := ih _ Q E p { s with gens := s.gens.push (.fresh c) } _ (r.push (x := .fresh c) trivial) h
    have e : (wg s G1).gens.size = s.gens.size := r.size.symm
    show wp M Γ (k (wg s G1).gens.size) _ _ p _
    rw [e]
    exact this
  | resume g r0 _ k ih =>
    intro Q E p s G1 r h
    obtain ⟨res, s', hw, h⟩ := h
    obtain ⟨G, b, c⟩ := wakes_swapped hw G1 r
    exact ⟨res, wg s' G, c, ih res Q E p s' G b h⟩
  | yield _ _ _ _ => intro Q E p s _ _ h; exact h
  | stack k ih => intro Q E p s G1 r h; exact ih _ Q E p s G1 r h
  | fork _ _ => intro Q E p s _ _ h; exact h
  | thread k ih => intro Q E p s G1 r h; exact ih _ Q E p s G1 r h
  | await _ _ _ _ _ => intro Q E p s _ _ h; exact h
theorem wpAny_swapped {α : Type} {M : Model} {A : Around} {T : Nat → Option GenState} {s : Shared} {t : Sem α} {Q : α → Shared → Prop} {E : Value → Shared → Prop} {G0 : Array GenState} (r : RelG T G0 s.gens) (h : wpAny M A t Q E (wg s G0)) :
    wpAny M A t (fun a s' => ∃ G, RelG T G s'.gens ∧ Q a (wg s' G)) (fun e s' => ∃ G, RelG T G s'.gens ∧ E e (wg s' G)) s :=
  fun Γ p hΓ => wp_swapped M T Γ t _ _ p (wg s G0) s.gens r (h Γ p hΓ)
def trapsT (G : Array GenState) (i : Nat) : Option GenState := match G[i]? with
  | some x => if isSusp x = true then some x else none
  | none => none
theorem relG_traps (G : Array GenState) : RelG (trapsT G) (G.map trapOf) G := by
  refine ⟨by simp, fun i r h => ?_, fun i h => ?_, fun i st h e => ?_⟩
  · unfold trapsT at h
    cases q : G[i]? with
    | none => rw [q] at h; cases h
    | some x =>
      rw [q] at h
      simp only at h
      split at h
      · rename_i hs
        cases h
        exact ⟨rfl, by rw [Array.getElem?_map, q]; rfl, hs⟩
      · cases h
  · rw [Array.getElem?_map]
    cases q : G[i]? with
    | none => rfl
    | some x =>
      unfold trapsT at h
      rw [q] at h
      cases x with
      | suspended => simp [isSusp] at h
      | _ => rfl
  · unfold trapsT at h
    rw [e] at h
    cases st with
    | suspended => simp [isSusp] at h
    | _ => exact trivial
theorem bare_traps {G : Array GenState} (h : AllBare G) : AllBare (G.map trapOf) := fun y hy => by
  obtain ⟨x, hx, e⟩ := Array.mem_map.mp hy
  rw [← e, trapOf_bare]
  exact h x hx
theorem RelG.bare {T : Nat → Option GenState} {G0 G1 : Array GenState} (r : RelG T G0 G1) (h : AllBare G0) : AllBare G1 := fun y hy => by
  obtain ⟨i, hi, e⟩ := Array.mem_iff_getElem.mp hy
  have e1 : G1[i]? = some y := by rw [← e]; exact Array.getElem?_eq_getElem hi
  cases q : T i with
  | none =>
    have e0 := r.eq i q
    rw [e1] at e0
    exact h y (Array.mem_of_getElem? e0)
  | some x =>
    obtain ⟨a, b, _⟩ := r.tr i x q
    rw [e1] at a
    cases a
    have := h _ (Array.mem_of_getElem? b)
    rw [trapOf_bare] at this
    exact this
end MF
set_option Elab.async false
set_option linter.all false
set_option maxRecDepth 100000
set_option maxHeartbeats 1000000
namespace MF
open PySem PyProof.Rows L2
section
variable {prog : Program} {w : World} {A : Around} {R : GenEnd} {Y : Protocol} {n : Nat} {s₀ : Shared} {c : Code} {fs : List Frame} {s : Shared} {env : Env}
  {K : Flow → Sem PySem.Fin} {H : Value → Sem PySem.Fin} {gd : Bool → Bool} {lv : List Value → List Value}
def noX : Value → Shared → Prop := fun _ _ => False
theorem seg_For {target iter : Expr} {body : List Stmt} {pos : Pos} (hs : ∀ x, foldedSetIterable iter env x = pure x)
    (h : wpAny (model prog w) (A.over c fs) (eval iter env) (fun x s₁ => wpAny (model prog w) (A.over c fs) (pyIter x) (fun it s₂ => ∀ p lv',
      Seg (model prog w) A R Y n s₀ (.forLoop target it body [] env) ((model prog w).den (.forLoop target it body [] env))
        (.ret (fun r => ((match r with | .ok f => (.pure f : Sem Flow) | .error e => .raise e).onRaise (cameBack env)).wrap K H gd lv) none (gd false) lv' c p [] :: fs) s₂) noX s₁) noX s) :
    Seg (model prog w) A R Y n s₀ c ((exec (.For target iter body [] pos) env).wrap K H gd lv) fs s := by
  rw [exec_For]
  show Seg _ A R Y n s₀ c (.at pos fun _ => ((eval iter env >>= fun v => foldedSetIterable iter env v >>= fun x => standAt iter.pos >>= fun _ => holding [x] (pyIter x) >>= fun it => runOwn (.forLoop target it body [] env) env)).wrap K H gd lv) fs s
  refine seg_at ?_
  rw [Sem.bind_eq_wrap', Sem.wrap_wrap]
  refine seg_wrap (wpAny_mono h (fun v s1 h1 => ?_) fun _ _ z => z.elim)
  rw [hs v]
  show Seg _ A R Y n s₀ c (.at iter.pos fun _ => ((holding [v] (pyIter v) >>= fun it => runOwn (.forLoop target it body [] env) env)).wrap K H gd lv) fs s1
  refine seg_at ?_
  rw [Sem.bind_eq_wrap', Sem.wrap_wrap]
  refine seg_wrap (wpAny_holding (wpAny_mono h1 (fun it s2 h2 => ?_) fun _ _ z => z.elim))
  exact seg_call fun p => h2 p _
theorem seg_forLoop {target : Expr} {it : Value} {body : List Stmt}
    (h : wpAny (model prog w) (A.over (.forLoop target it body [] env) fs) (pyNext it) (fun r s₁ => match r with
        | none => Seg (model prog w) A R Y n s₀ (.block [] env) (leafOf (.ok .next)) fs s₁
        | some v => wpAny (model prog w) (A.over (.forLoop target it body [] env) fs) (letOwnedTupleGo target it v) (fun _ s₂ => wpAny (model prog w) (A.over (.forLoop target it body [] env) fs) (assign target env v) (fun _ s₃ =>
            Seg (model prog w) A R Y n s₀ (.forLoop target it body [] env) ((execs body env).wrap (fun f => match f with
              | .next | .cont => .pure (.again (.forLoop target it body [] env))
              | .brk => .pure (.done .next)
              | .ret v => .pure (.done (.ret v))) (fun e => (do noteFrame e env; theTreesLotGoes e : Sem Unit).wrap (fun _ => .raise e) .raise id id) id id) fs s₃) noX s₂) noX s₁) noX s) :
    Seg (model prog w) A R Y n s₀ (.forLoop target it body [] env) ((model prog w).den (.forLoop target it body [] env)) fs s := by
  show Seg _ A R Y n s₀ _ ((forTurn target it body [] env).onRaise (fun x => do noteFrame x env; theTreesLotGoes x)) fs s
  unfold forTurn
  rw [Sem.onRaise_eq_wrap]
  show Seg _ A R Y n s₀ _ (.at target.pos fun _ => (((pyNext it).onRaise (fun _ => standAt { target.pos with line := 0 }) >>= _).wrap _ _ _ _)) fs s
  refine seg_at ?_
  rw [Sem.bind_eq_wrap', Sem.wrap_wrap]
  refine seg_wrap (wpAny_onRaise (wpAny_mono h (fun r s1 h1 => ?_) fun _ _ z => z.elim))
  cases r with
  | none =>
    refine seg_again rfl ?_
    exact h1
  | some v =>
    show Seg _ A R Y n s₀ _ ((letOwnedTupleGo target it v >>= fun _ => assign target env v >>= fun _ => execs body env >>= _).wrap _ _ _ _) fs s1
    rw [Sem.bind_eq_wrap', Sem.wrap_wrap]
    refine seg_wrap (wpAny_mono h1 (fun _ s2 h2 => ?_) fun _ _ z => z.elim)
    rw [Sem.bind_eq_wrap', Sem.wrap_wrap]
    refine seg_wrap (wpAny_mono h2 (fun _ s3 h3 => ?_) fun _ _ z => z.elim)
    rw [Sem.bind_eq_wrap', Sem.wrap_wrap]
    rw [Sem.wrap_congr (execs body env) _ _ (K' := fun f => match f with
          | .next | .cont => .pure (.again (.forLoop target it body [] env))
          | .brk => .pure (.done .next)
          | .ret v => .pure (.done (.ret v))) (H' := (fun e => (do noteFrame e env; theTreesLotGoes e : Sem Unit).wrap (fun _ => .raise e) .raise id id))
      (fun f => by cases f <;> rfl)
      (fun e => by first | exact Sem.bind_eq_wrap _ _ | (show (do noteFrame e env; theTreesLotGoes e : Sem Unit).bind (fun _ => .raise e) = _; rw [Sem.bind_eq_wrap]))]
    exact h3
end
end MF
set_option Elab.async false
set_option linter.all false
set_option maxRecDepth 100000
set_option maxHeartbeats 1000000
namespace MF
open PySem PySem.Spec PyProof.Rows L2 StX

theorem Same.tup {K : PySem.W.Frag} {H H' : Hp} {a : Addr} {xs : List V} (e : Same H H') (h : SqT K H a xs) : SqT K H' a xs := by
  rcases h with (h | ⟨o, h⟩) | h
  · exact .inl (.inl (e _ _ h))
  · exact .inl (.inr ⟨o, e _ _ h⟩)
  · exact .inr h
theorem Same.upd {H H' : Hp} {p : Addr} {o : HO} (e : Same H H') (h : H' p = none) : Same H (L2.upd H' p o) := fun b u q => by
  rw [upd_ne (ne_of_none (e b u q) h)]
  exact e b u q
theorem Same.new {H : Hp} {p : Addr} {o : HO} (h : H p = none) : Same H (L2.upd H p o) := Same.upd (Same.refl H) h
theorem tyT {K : PySem.W.Frag} {H : Hp} {a : Addr} {xs : List V} (h : SqT K H a xs) : TyX K H (.ref a) (.type "tuple") := by
  rcases h with (h | ⟨o, h⟩) | ⟨o, its, n, e, c, _⟩
  · exact .base (.tup h)
  · exact .fTuple h
  · exact .kTuple e c
theorem tyL {K : PySem.W.Frag} {H : Hp} {a : Addr} {xs : List V} (h : SqL K H a xs) : TyX K H (.ref a) (.type "list") := by
  rcases h with (h | ⟨o, h⟩) | ⟨o, its, n, e, c, _⟩
  · exact .base (.lst h)
  · exact .base (.frz h)
  · exact .kList e c
def tyN : V → String
  | .non => "NoneType"
  | .bl _ => "bool"
  | .int _ => "int"
  | .str _ => "str"
  | _ => ""
theorem ty_flat {K : PySem.W.Frag} {H : Hp} : ∀ {v : V}, notSeq v = true → TyX K H v (.type (tyN v))
  | .non, _ => .base .non
  | .bl b, _ => .base (.bl b)
  | .int i, _ => .base (.int i)
  | .str x, _ => .base (.str x)
theorem isi_flat {K : PySem.W.Frag} {v : V} {T : String} (h : notSeq v = true) (b : Bool) (hb : ∀ w, notSeq w = true → tyN w = tyN v → kitB (tyN w) T = some b) : PySem.W.kitOne K (.type (tyN v)) (.type T) = some b := kit_ty (hb v h rfl)

theorem kt_int_int {K : PySem.W.Frag} : PySem.W.kitOne K (.type "int") (.type "int") = some true := kit_ty (by decide +kernel)
theorem kt_int_bool {K : PySem.W.Frag} : PySem.W.kitOne K (.type "int") (.type "bool") = some false := kit_ty (by decide +kernel)
theorem kt_int_str {K : PySem.W.Frag} : PySem.W.kitOne K (.type "int") (.type "str") = some false := kit_ty (by decide +kernel)
theorem kt_int_tuple {K : PySem.W.Frag} : PySem.W.kitOne K (.type "int") (.type "tuple") = some false := kit_ty (by decide +kernel)
theorem kt_int_list {K : PySem.W.Frag} : PySem.W.kitOne K (.type "int") (.type "list") = some false := kit_ty (by decide +kernel)
theorem kt_bool_int {K : PySem.W.Frag} : PySem.W.kitOne K (.type "bool") (.type "int") = some true := kit_ty (by decide +kernel)
theorem kt_bool_bool {K : PySem.W.Frag} : PySem.W.kitOne K (.type "bool") (.type "bool") = some true := kit_ty (by decide +kernel)
theorem kt_bool_str {K : PySem.W.Frag} : PySem.W.kitOne K (.type "bool") (.type "str") = some false := kit_ty (by decide +kernel)
theorem kt_bool_tuple {K : PySem.W.Frag} : PySem.W.kitOne K (.type "bool") (.type "tuple") = some false := kit_ty (by decide +kernel)
theorem kt_bool_list {K : PySem.W.Frag} : PySem.W.kitOne K (.type "bool") (.type "list") = some false := kit_ty (by decide +kernel)
theorem kt_NoneType_int {K : PySem.W.Frag} : PySem.W.kitOne K (.type "NoneType") (.type "int") = some false := kit_ty (by decide +kernel)
theorem kt_NoneType_bool {K : PySem.W.Frag} : PySem.W.kitOne K (.type "NoneType") (.type "bool") = some false := kit_ty (by decide +kernel)
theorem kt_NoneType_str {K : PySem.W.Frag} : PySem.W.kitOne K (.type "NoneType") (.type "str") = some false := kit_ty (by decide +kernel)
theorem kt_NoneType_tuple {K : PySem.W.Frag} : PySem.W.kitOne K (.type "NoneType") (.type "tuple") = some false := kit_ty (by decide +kernel)
theorem kt_NoneType_list {K : PySem.W.Frag} : PySem.W.kitOne K (.type "NoneType") (.type "list") = some false := kit_ty (by decide +kernel)
theorem kt_str_int {K : PySem.W.Frag} : PySem.W.kitOne K (.type "str") (.type "int") = some false := kit_ty (by decide +kernel)
theorem kt_str_bool {K : PySem.W.Frag} : PySem.W.kitOne K (.type "str") (.type "bool") = some false := kit_ty (by decide +kernel)
theorem kt_str_str {K : PySem.W.Frag} : PySem.W.kitOne K (.type "str") (.type "str") = some true := kit_ty (by decide +kernel)
theorem kt_str_tuple {K : PySem.W.Frag} : PySem.W.kitOne K (.type "str") (.type "tuple") = some false := kit_ty (by decide +kernel)
theorem kt_str_list {K : PySem.W.Frag} : PySem.W.kitOne K (.type "str") (.type "list") = some false := kit_ty (by decide +kernel)
theorem kt_tuple_int {K : PySem.W.Frag} : PySem.W.kitOne K (.type "tuple") (.type "int") = some false := kit_ty (by decide +kernel)
theorem kt_tuple_bool {K : PySem.W.Frag} : PySem.W.kitOne K (.type "tuple") (.type "bool") = some false := kit_ty (by decide +kernel)
theorem kt_tuple_str {K : PySem.W.Frag} : PySem.W.kitOne K (.type "tuple") (.type "str") = some false := kit_ty (by decide +kernel)
theorem kt_tuple_tuple {K : PySem.W.Frag} : PySem.W.kitOne K (.type "tuple") (.type "tuple") = some true := kit_ty (by decide +kernel)
theorem kt_tuple_list {K : PySem.W.Frag} : PySem.W.kitOne K (.type "tuple") (.type "list") = some false := kit_ty (by decide +kernel)
theorem kt_list_int {K : PySem.W.Frag} : PySem.W.kitOne K (.type "list") (.type "int") = some false := kit_ty (by decide +kernel)
theorem kt_list_bool {K : PySem.W.Frag} : PySem.W.kitOne K (.type "list") (.type "bool") = some false := kit_ty (by decide +kernel)
theorem kt_list_str {K : PySem.W.Frag} : PySem.W.kitOne K (.type "list") (.type "str") = some false := kit_ty (by decide +kernel)
theorem kt_list_tuple {K : PySem.W.Frag} : PySem.W.kitOne K (.type "list") (.type "tuple") = some false := kit_ty (by decide +kernel)
theorem kt_list_list {K : PySem.W.Frag} : PySem.W.kitOne K (.type "list") (.type "list") = some true := kit_ty (by decide +kernel)
def isIntB : V → Int → Int → Bool
  | .int i, lo, hi => decide (lo ≤ i) && decide (i ≤ hi)
  | _, _, _ => false
def letters : Str := "abcdefghijklmnopqrstuvwxyz"
def isAddrB : V → Bool
  | .str z => decide (1 ≤ z.length) && decide (z.length ≤ 8) && z.cps.toList.all fun c => decide (c ∈ letters.cps.toList)
  | _ => false
structure Ordr where
  src : Str
  tgt : Str
  first : Int
  last : Int
  way : Int
  deriving DecidableEq
def Ordr.vals (o : Ordr) : List V := [.str o.src, .str o.tgt, .int o.first, .int o.last, .int o.way]
def OrdAt (K : PySem.W.Frag) (H : Hp) (a : Addr) (o : Ordr) : Prop := SqT K H a o.vals
theorem OrdAt.mono {K : PySem.W.Frag} {H H' : Hp} {a : Addr} {o : Ordr} (h : OrdAt K H a o) (e : Same H H') : OrdAt K H' a o := MF.Same.tup e h
def overB (o p : Ordr) : Bool := decide (o.src = p.src) && (decide (o.first ≤ p.last) && decide (p.first ≤ o.last))
def isOrdB : List V → Bool
  | [s, t, f, l, w] => (isAddrB s && isAddrB t && !decide (s = t)) && ((isIntB l 0 1000000000000000000 && (match l with | .int i => isIntB f 0 i | _ => false)) && isIntB w 1 30)
  | _ => false
structure Ordr.Ok (o : Ordr) : Prop where
  as : isAddrB (.str o.src) = true
  at_ : isAddrB (.str o.tgt) = true
  ne : o.src ≠ o.tgt
  f0 : 0 ≤ o.first
  fl : o.first ≤ o.last
  lm : o.last ≤ 1000000000000000000
  w1 : 1 ≤ o.way
  w30 : o.way ≤ 30
theorem Ordr.Ok.b {o : Ordr} (h : o.Ok) : isOrdB o.vals = true := by
  obtain ⟨a, b, c, d, e, f, g, k⟩ := h
  have c' : decide (V.str o.src = V.str o.tgt) = false := decide_eq_false fun q => c (V.str.inj q)
  unfold isOrdB Ordr.vals
  simp only [a, b, c', isIntB, Bool.and_true, Bool.true_and, Bool.not_false]
  simp [d, e, f, g, k]
  omega

theorem iteD {c A B : Prop} [Decidable c] (hc : c) (h : A) : if decide c = true then A else B := by
  rw [if_pos (decide_eq_true hc)]
  exact h
theorem iteDN {c A B : Prop} [Decidable c] (hc : ¬ c) (h : B) : if decide c = true then A else B := by
  rw [if_neg (by rw [decide_eq_false hc]; exact Bool.false_ne_true)]
  exact h
theorem iteND {c A B : Prop} [Decidable c] (hc : c) (h : B) : if (!decide c) = true then A else B := by
  rw [decide_eq_true hc]
  exact iteF h
theorem iteNDN {c A B : Prop} [Decidable c] (hc : ¬ c) (h : A) : if (!decide c) = true then A else B := by
  rw [decide_eq_false hc]
  exact iteT h
theorem yesT {σ : L2.St} {H : Hp} {Q : Bool → Hp → Prop} (h : Q true H) : tYes σ H Q := h
theorem Paired.get {α β : Type} {R : α → β → Prop} : ∀ {l : List α} {r : List β} {i : Nat} {a : α}, Paired R l r → l[i]? = some a → ∃ b, r[i]? = some b ∧ R a b
  | _, _, _, _, .nil, e => by simp at e
  | _, _, 0, _, .cons h _, e => by simp at e; subst e; exact ⟨_, rfl, h⟩
  | _, _, i + 1, _, .cons _ t, e => by
    obtain ⟨b, h1, h2⟩ := Paired.get (i := i) t (by simpa using e)
    exact ⟨b, by simpa using h1, h2⟩
theorem Paired.append {α β : Type} {R : α → β → Prop} : ∀ {l l' : List α} {r r' : List β}, Paired R l r → Paired R l' r' → Paired R (l ++ l') (r ++ r')
  | _, _, _, _, .nil, h => h
  | _, _, _, _, .cons a t, h => .cons a (Paired.append t h)
def OrdsAt (K : PySem.W.Frag) (H : Hp) (as : List Addr) (os : List Ordr) : Prop := Paired (OrdAt K H) as os
theorem OrdsAt.mono {K : PySem.W.Frag} {H H' : Hp} {as : List Addr} {os : List Ordr} (h : OrdsAt K H as os) (e : Same H H') : OrdsAt K H' as os := PySem.Paired.mono (fun _ _ q => OrdAt.mono q e) h
structure Good (os : List Ordr) : Prop where
  len : os.length ≤ 30
  ok : ∀ o ∈ os, o.Ok
  apart : os.Pairwise fun o p => overB o p = false
def BookAt (K : PySem.W.Frag) (C : Addr) (H : Hp) (p : Addr) (os : List Ordr) : Prop :=
  ∃ dx t as, H p = some (.ins C dx [("listed", .ref t)]) ∧ SqT K H t (as.map V.ref) ∧ OrdsAt K H as os
theorem BookAt.mono {K : PySem.W.Frag} {C : Addr} {H H' : Hp} {p : Addr} {os : List Ordr} (h : BookAt K C H p os) (e : Same H H') : BookAt K C H' p os := by
  obtain ⟨dx, t, as, h1, h2, h3⟩ := h
  exact ⟨dx, t, as, e _ _ h1, MF.Same.tup e h2, h3.mono e⟩
theorem cut_take (xs : List V) (i : Nat) (h : i ≤ xs.length) : cutV xs none (some (i : Int)) = xs.take i := by
  unfold cutV
  rw [HT.sIx_none, HT.sIx_nat, Nat.min_eq_left h]
  simp
theorem ix_listK {X : Cx} {K : PySem.W.Frag} (h : X.K = K := by rfl) : IxR X (rIxL K) := h ▸ ix_list
theorem ix_seqK {X : Cx} {K : PySem.W.Frag} (h : X.K = K := by rfl) : IxR X (rIx K) := h ▸ ix_seq
theorem ix_tupK {X : Cx} {K : PySem.W.Frag} (h : X.K = K := by rfl) : IxR X (rIxT K) := h ▸ ix_tup
theorem pe_fldK {X : Cx} {K : PySem.W.Frag} {e : Expr} {ta : TE} {f : Str} {pos : Pos} (he : PE X e ta) (hb : attributeBase e f X.env (eval e X.env) = eval e X.env) (h : X.K = K := by rfl) : PE X (.Attribute e f pos) (tFld K ta f) := h ▸ pe_fld he hb
def spIsInteger : Sp := fun vs H Q _ => ∃ v lo hi, vs = [v, .int lo, .int hi] ∧ notSeq v = true ∧ Q (.bl (isIntB v lo hi)) H
def shortV : V → Prop
  | .str z => z.length ≤ sizeLine
  | _ => True
def spIsAddress : Sp := fun vs H Q _ => ∃ v, vs = [v] ∧ notSeq v = true ∧ shortV v ∧ ∀ H', Same H H' → Q (.bl (isAddrB v)) H'
def spOverlap (K : PySem.W.Frag) : Sp := fun vs H Q _ => ∃ a b o p, vs = [.ref a, .ref b] ∧ OrdAt K H a o ∧ OrdAt K H b p ∧ Q (.bl (overB o p)) H
def spIsOrder (K : PySem.W.Frag) : Sp := fun vs H Q _ => ∃ v b, vs = [v] ∧ ((∃ a xs, v = .ref a ∧ SqT K H a xs ∧ (∀ x ∈ xs, notSeq x = true ∧ shortV x) ∧ b = isOrdB xs) ∨ (∃ a xs, v = .ref a ∧ SqL K H a xs ∧ b = false) ∨ (notSeq v = true ∧ b = false)) ∧ ∀ H', Same H H' → Q (.bl b) H'
end MF
set_option Elab.async false
set_option linter.all false
set_option maxRecDepth 100000
set_option maxHeartbeats 1000000
namespace MF
open PySem PySem.Spec PyProof.Rows L2 GenW
def trunc (h : Heap) (L : Nat) : Heap := { h with objs := h.objs.extract 0 L }
theorem trunc_get {h : Heap} {L b : Nat} (hb : b < L) : (trunc h L).get? b = h.get? b := by
  unfold trunc Heap.get?
  have : (h.objs.extract 0 L)[b]? = h.objs[b]? := by
    rw [Array.getElem?_extract]
    by_cases c : b < h.objs.size
    · rw [if_pos (by omega)]
      simp
    · rw [if_neg (by omega)]
      exact (Array.getElem?_eq_none (by omega)).symm
  simp only [this]
theorem trunc_size {h : Heap} {L : Nat} (hL : L ≤ h.objs.size) : (trunc h L).objs.size = L := by
  show (h.objs.extract 0 L).size = L
  rw [Array.size_extract]
  omega
theorem trunc_of {h : Heap} {L b : Addr} {o : Obj} (hL : L ≤ h.objs.size) (e : (trunc h L).get? b = some o) : b < L ∧ h.get? b = some o := by
  have hb : b < L := by
    have := Heap.lt_size e
    rw [trunc_size hL] at this
    exact this
  exact ⟨hb, by rw [← trunc_get hb]; exact e⟩
theorem trunc_funs {h base : Heap} {L : Addr} {l : List Env} (hl : h.FunFrames base l) (hb : ∀ b ∈ frs l, b < L) : (trunc h L).FunFrames base l := by
  induction l with
  | nil => trivial
  | cons env rest ih =>
    obtain ⟨hk, ⟨Lx, o, hf, hn, ho, hd⟩, hr⟩ := hl
    have m1 : Lx ∈ frs (env :: rest) := by
      unfold frs
      rw [List.filterMap_cons, hf]
      exact List.mem_cons_self
    have m2 : ∀ b ∈ frs rest, b < L := fun b hb' => hb b (by
      unfold frs at hb' ⊢
      rw [List.filterMap_cons, hf]
      exact List.mem_cons_of_mem _ hb')
    exact ⟨hk, ⟨Lx, o, hf, hn, by rw [trunc_get (hb Lx m1)]; exact ho, hd⟩, ih hr m2⟩
structure Gc where
  P : Program
  w : World
  K : PySem.W.Frag
  mg : Str → Option Value
  base : Heap
  N : List Str
  qual : Str
  scope : Scope
  f : Addr
  cdv : Value
  A : Around
  outer : List Env
  L : Addr
  a : Addr
  go : Obj
  out : List (List V)
  need : Hp → Prop
  RP : Nat → Shared → Hp → Prop
  kp : List Addr
abbrev Gc.env (Z : Gc) : Env := envOfC Z.qual Z.scope Z.L Z.f Z.cdv
def Gc.cx (Z : Gc) (sw : Shared) (Hw : Hp) : Cx where
  prog := Z.P
  w := Z.w
  K := Z.K
  mg := Z.mg
  base := Z.base
  A := Z.A.deeper Z.env
  N := Z.N
  s_0 := { sw with heap := trunc sw.heap Z.L }
  H_0 := Hw
  env := Z.env
  outer := Z.outer
  stack := Z.env :: Z.outer
  ex := []
  fn := fun _ => true
  calm := true
  pn := (Z.a, Z.go) :: pinsAt Z.kp sw.heap
  xe := noX
structure Gc.Ok (Z : Gc) : Prop where
  kind : Z.scope.kind = .function
  nocell : ∀ y ∈ Z.scope.names, y.2 ≠ .cell ∧ y.2 ≠ .free
  bsz : Z.base.objs.size ≤ Z.L
  frL : ∀ b ∈ frs Z.outer, b < Z.L
  hd : Z.A.handled = none
  la : Z.L < Z.a
  god : ∀ v, Z.go.data ≠ .cell v
  stable : ∀ H H', Same H H' → Z.need H → Z.need H'
structure Wk (Z : Gc) (gp : List (Addr × Obj)) (sw : Shared) (Hw : Hp) : Prop where
  env0 : Env0 Z.P Z.w Z.K Z.mg Z.base Z.A Z.outer sw Hw
  gp : ∀ p ∈ gp, sw.heap.get? p.1 = some p.2 ∧ Hw p.1 = none
  need : Z.need Hw
  kp : ∀ b ∈ Z.kp, (b ≠ Z.L ∧ b ≠ Z.a) ∧ b ∉ frs Z.outer ∧ Hw b = none ∧ ∃ o, sw.heap.get? b = some o ∧ ∀ v, o.data ≠ .cell v
theorem cells_none {n : Nat} : ∀ {names : List (Str × NameKind)} {acc : List (Str × Addr)}, (∀ y ∈ names, y.2 ≠ .cell) → cellsFrom n names acc = acc
  | [], acc, _ => rfl
  | (x, k) :: names, acc, h => by
    have h1 := h (x, k) (by simp)
    have h2 := cells_none (n := n) (names := names) (acc := acc) fun y hy => h y (List.mem_cons_of_mem _ hy)
    cases k with
    | cell => exact absurd rfl h1
    | _ => exact h2
theorem Gc.nocells {Z : Gc} (O : Z.Ok) : ∀ x, Z.env.cells.lookup x = none := fun x => by
  show (cellsFrom (Z.L + 1) Z.scope.names []).lookup x = none
  rw [cells_none fun y hy => (O.nocell y hy).1]
  rfl
theorem okEx {P : Program} {w : World} {H : Hp} {h : Heap} {a : Addr} {o : HO} (x : ObjOk P w H h a o) : ∃ u, h.get? a = some u := by
  cases o with
  | lst xs => obtain ⟨_, _, _, _, e⟩ := x; exact ⟨_, e⟩
  | tup xs => obtain ⟨_, _, _, ob, e, _⟩ := x; exact ⟨ob, e⟩
  | dK kvs => obtain ⟨_, _, _, _, ob, _, _, e, _⟩ := x; exact ⟨ob, e⟩
  | dT kvs => obtain ⟨_, _, _, _, ob, _, _, e, _⟩ := x; exact ⟨ob, e⟩
  | set S n => obtain ⟨ob, _, _, _, e, _⟩ := x; exact ⟨ob, e⟩
  | ins C dx fs => obtain ⟨_, _, _, e, _⟩ := x; exact ⟨_, e⟩
  | own y => obtain ⟨ob, e⟩ := x; exact ⟨ob, e⟩
  | xd fs => obtain ⟨_, ⟨ob, _, _, e, _⟩, _⟩ := x; exact ⟨ob, e⟩
  | rng lo hi => obtain ⟨_, _, _, e⟩ := x; exact ⟨_, e⟩
  | frz ob u => obtain ⟨e, _⟩ := x; exact ⟨_, e⟩
  | tbl ps => exact ⟨_, show h.get? a = some _ from x⟩
  | met f y => exact ⟨_, show h.get? a = some _ from x⟩
  | ext φ => obtain ⟨_, ⟨ob, e⟩, _⟩ := x; exact ⟨ob, e⟩
theorem Gc.cxOk {Z : Gc} (O : Z.Ok) {gp : List (Addr × Obj)} {sw : Shared} {Hw : Hp} (k : Wk Z gp sw Hw) (hL : Z.L ≤ sw.heap.objs.size) : (Z.cx sw Hw).Ok := by
  have nc := Gc.nocells O
  have nx : ∀ b, b ∉ (Z.cx sw Hw).ex := fun b hb => by cases (show b ∈ ([] : List Addr) from hb)
  refine ⟨k.env0.mod, O.kind, rfl, rfl, ?_, fun x y c e => ?_, fun x hx => ?_, fun x c _ e => ?_, fun _ => O.hd, Around.frames_deeper k.env0.frames, .inr ⟨rfl, rfl⟩, fun b hb => absurd hb (nx b), fun b o e => ?_, ?_, fun b _ _ => nx b, fun b hb => absurd hb (nx b), trunc_funs k.env0.funs O.frL, k.env0.frf⟩
  · exact Nat.le_of_eq (trunc_size hL)
  · rw [show (Z.cx sw Hw).env.cells.lookup x = none from nc x] at e; cases e
  · rcases hx with hx | hx
    · exact absurd rfl (O.nocell _ (PySem.mem_of_lookup (show Z.scope.names.lookup x = some .cell from hx))).1
    · exact absurd rfl (O.nocell _ (PySem.mem_of_lookup (show Z.scope.names.lookup x = some .free from hx))).2
  · rw [show (Z.cx sw Hw).env.cells.lookup x = none from nc x] at e; cases e
  · obtain ⟨h1, h2⟩ := k.env0.bs b o e
    exact ⟨by show (trunc sw.heap Z.L).get? b = some o; rw [trunc_get (Nat.lt_of_lt_of_le (Heap.lt_size e) O.bsz)]; exact h1, h2⟩
  · exact Nat.le_trans O.bsz (Nat.le_of_eq (trunc_size hL).symm)
theorem Gc.woken {Z : Gc} (O : Z.Ok) {ip gp : List (Addr × Obj)} {s0 sw s : Shared} {H0 H Hw : Hp} {σ : L2.St} (I : Inv (Z.cx s0 H0) ip σ H s) (k : Wk Z gp sw Hw) (hL : ∀ o, s.heap.get? Z.L = some o → (Z.L, o) ∈ gp) (ha : (Z.a, Z.go) ∈ gp) (hi : ∀ p ∈ ip, p ∈ gp) : Inv (Z.cx sw Hw) ip σ Hw sw := by
  have nc := Gc.nocells O
  obtain ⟨m, ⟨o, es, ep, ho, r⟩, hl⟩ := I.loc
  have ho' : s.heap.get? Z.L = some o := ho
  obtain ⟨eL, nL⟩ := k.gp _ (hL o ho')
  have hsz : Z.L ≤ sw.heap.objs.size := Nat.le_of_lt (Heap.lt_size eL)
  refine ⟨Gc.cxOk O k hsz, rfl, k.env0.bare, Un.kept fun b u e => (trunc_of hsz e).2, ⟨m, ⟨o, es, ep, eL, r⟩, fun i x v h1 h2 h3 => ?_⟩, fun x c e => ?_, nL, fun x c e => ?_, fun p hp => ?_, k.env0.hok, I.len⟩
  · obtain ⟨u, ru, l⟩ := hl i x v h1 h2 h3
    refine ⟨u, ru, ?_⟩
    rcases l with l | ⟨_, c, e, _⟩
    · exact .inl l
    · rw [show (Z.cx s0 H0).env.cells.lookup x = none from nc x] at e; cases e
  · rw [show (Z.cx sw Hw).env.cells.lookup x = none from nc x] at e; cases e
  · rw [show (Z.cx sw Hw).env.cells.lookup x = none from nc x] at e; cases e
  · have hp' : p ∈ ((Z.a, Z.go) :: pinsAt Z.kp sw.heap) ++ ip := hp
    have old : p = (Z.a, Z.go) ∨ p ∈ ip → sw.heap.get? p.1 = some p.2 ∧ Hw p.1 = none ∧ p.1 ≠ Z.L ∧ p.1 ∉ frs Z.outer ∧ ∀ v, p.2.data ≠ .cell v := fun hh => by
      have hpg : p ∈ gp := by
        rcases hh with z | z
        · rw [z]; exact ha
        · exact hi p z
      obtain ⟨e1, e2⟩ := k.gp p hpg
      have hpo : p ∈ ((Z.a, Z.go) :: pinsAt Z.kp s0.heap) ++ ip := by
        rcases hh with z | z
        · rw [z]; simp
        · exact List.mem_append_right _ z
      obtain ⟨_, _, i3, i4, i5⟩ := I.pin p hpo
      exact ⟨e1, e2, i3, i4, i5⟩
    rcases List.mem_append.mp hp' with z | z
    · rcases List.mem_cons.mp z with z | z
      · exact old (.inl z)
      · obtain ⟨q1, q2⟩ := of_pinsAt z
        obtain ⟨k1, k2, k3, o, k4, k5⟩ := k.kp _ q1
        rw [q2] at k4
        cases k4
        exact ⟨q2, k3, k1.1, k2, k5⟩
    · exact old (.inr z)
def Gc.ch (Z : Gc) (sw : Shared) (Hw : Hp) : List Addr := (List.range sw.heap.objs.size).filter fun b => (decide (Z.L ≤ b) && (Hw b).isNone) && !decide (b ∈ Z.kp)
theorem Gc.mem_ch {Z : Gc} {sw : Shared} {Hw : Hp} {b : Addr} : b ∈ Z.ch sw Hw ↔ b < sw.heap.objs.size ∧ Z.L ≤ b ∧ Hw b = none ∧ b ∉ Z.kp := by
  unfold Gc.ch
  rw [List.mem_filter, List.mem_range, Bool.and_eq_true, Bool.and_eq_true, decide_eq_true_eq, Option.isNone_iff_eq_none, Bool.not_eq_true', decide_eq_false_iff_not, and_assoc]
theorem Gc.un {Z : Gc} {ip : List (Addr × Obj)} {sw s : Shared} {Hw H : Hp} {σ : L2.St} (I : Inv (Z.cx sw Hw) ip σ H s) (sm : Same Hw H) (hL : Z.L ≤ sw.heap.objs.size) : Un (frs Z.outer) (Z.ch sw Hw) Hw H sw.heap s.heap := by
  have U : Un (frs Z.outer) [] Hw H (trunc sw.heap Z.L) s.heap := I.base
  have lo : ∀ b o, sw.heap.get? b = some o → Hw b = none → b ∉ Z.ch sw Hw → b < Z.L ∨ (s.heap.get? b = some o ∧ H b = none ∧ b ∉ frs Z.outer) := fun b o e n hc => by
    by_cases c : b < Z.L
    · exact .inl c
    · by_cases d : b ∈ Z.kp
      · obtain ⟨q1, q2, _, q4, _⟩ := I.pin (b, o) (List.mem_append_left _ (List.mem_cons_of_mem _ (mem_pinsAt d e)))
        exact .inr ⟨q1, q2, q4⟩
      · exact absurd (Gc.mem_ch.mpr ⟨Heap.lt_size e, Nat.le_of_not_lt c, n, d⟩) hc
  have tr : ∀ b o, sw.heap.get? b = some o → b < Z.L → (trunc sw.heap Z.L).get? b = some o := fun b o e hb => by rw [trunc_get hb]; exact e
  refine ⟨fun b o e n hf hc => ?_, fun b o e n hf hc => ?_, fun b o e n hc => ?_, fun b o e hc => ?_, U.tups, U.frzs, U.tbls⟩
  · rcases lo b o e n hc with z | z
    · exact U.keep b o (tr b o e z) n hf (by simp)
    · exact z.1
  · rcases lo b o e n hc with z | z
    · exact U.slot b o (tr b o e z) n hf (by simp)
    · exact absurd hf z.2.2
  · rcases lo b o e n hc with z | z
    · exact U.free b o (tr b o e z) n (by simp)
    · exact z.2.1
  · cases q : Hw b with
    | none =>
      rcases lo b o e q hc with z | z
      · exact U.there b o (tr b o e z) (by simp)
      · exact ⟨o, z.1⟩
    | some u => exact okEx (I.hok b u (sm b u q))
end MF
set_option Elab.async false
set_option linter.all false
set_option maxRecDepth 100000
set_option maxHeartbeats 1000000
namespace MF
open PySem PySem.Spec PyProof.Rows L2 GenW
def Gc.Y (Z : Gc) : Protocol := fun n s₀ v s kap => ∃ (i : Nat) (Hw H : Hp) (T : Addr) (vs : List V) (gp : List (Addr × Obj)), Z.RP i s₀ Hw ∧ n + i = Z.out.length ∧ Z.out[i]? = some vs ∧ v = .ref T ∧ Hw T = none ∧ H T = some (.tup vs) ∧ Same Hw H ∧
  s.os = s₀.os ∧ AllBare s.gens ∧ HOk Z.P Z.w H s.heap ∧ Un (frs Z.outer) (Z.ch s₀ Hw) Hw H s₀.heap s.heap ∧
  (∀ p ∈ gp, s.heap.get? p.1 = some p.2 ∧ H p.1 = none ∧ p.1 ∉ frs Z.outer ∧ (∀ v, p.2.data ≠ .cell v) ∧ p.1 ∉ Z.kp) ∧ (Z.a, Z.go) ∈ gp ∧
  ∀ (sw : Shared) (Hw' : Hp), Z.RP (i + 1) sw Hw' → Wk Z gp sw Hw' → kap (.send .none) sw
def Gc.F (Z : Gc) (s₀ s : Shared) : Prop := ∃ (Hw H : Hp), Z.RP Z.out.length s₀ Hw ∧ Same Hw H ∧ s.os = s₀.os ∧ AllBare s.gens ∧ HOk Z.P Z.w H s.heap ∧ Un (frs Z.outer) (Z.ch s₀ Hw) Hw H s₀.heap s.heap
def Gc.R (Z : Gc) : GenEnd := fun n s₀ r s => ((r = .ok (.ret .none) ∨ r = .ok .next) ∧ Z.F s₀ s) ∨ ∃ e, r = .error e ∧ noX e s
def Gc.Lk (Z : Gc) (s : Shared) : Prop := Z.L ≤ s.heap.objs.size ∧ ∀ b ∈ Z.kp, (b ≠ Z.L ∧ b ≠ Z.a) ∧ ∃ o, s.heap.get? b = some o
def Gc.SI (Z : Gc) (s₀ : Shared) (i : Nat) (ip : List (Addr × Obj)) (σ : L2.St) (H : Hp) (s : Shared) : Prop := ∃ Hw, Inv (Z.cx s₀ Hw) ip σ H s ∧ Z.RP i s₀ Hw ∧ Same Hw H ∧ Z.need H ∧ Z.Lk s₀
structure Gp (Z : Gc) (c : Code) (fs : List Frame) (gd : Bool → Bool) : Prop where
  over : Z.A.over c fs = Z.A.deeper Z.env
  split : splitAtGen fs = none
  guard : fs.any Frame.guarded = false
  gd : gd false = false
abbrev TGx := (Nat → L2.St → Hp → Prop) → Nat → L2.St → Hp → Prop
structure GJ (Z : Gc) (st : List Stmt) (t : TGx) : Prop where
  run : ∀ (c : Code) (fs : List Frame) (K : Flow → Sem PySem.Fin) (J : Value → Sem PySem.Fin) (gd : Bool → Bool) (lv : List Value → List Value) (ip : List (Addr × Obj)) (nx : Nat → L2.St → Hp → Prop), Gp Z c fs gd → (∀ p ∈ ip, Z.L ≤ p.1 ∧ p.1 ∉ Z.kp) →
    (∀ (i n : Nat) (s₀ s : Shared) (σ : L2.St) (H : Hp), n + i = Z.out.length + 1 → Z.SI s₀ i ip σ H s → nx i σ H → Seg (model Z.P Z.w) Z.A Z.R Z.Y n s₀ c (K .next) fs s) →
    ∀ (i n : Nat) (s₀ s : Shared) (σ : L2.St) (H : Hp), n + i = Z.out.length + 1 → Z.SI s₀ i ip σ H s → t nx i σ H → Seg (model Z.P Z.w) Z.A Z.R Z.Y n s₀ c ((execs st Z.env).wrap K J gd lv) fs s
variable {Z : Gc}
theorem gx_nil : GJ Z [] (fun nx i σ H => nx i σ H) := ⟨fun c fs K J gd lv ip nx _ _ hk i n s₀ s σ H hn si h => seg_execs_nil (hk i n s₀ s σ H hn si h)⟩
def tGP (O : Z.Ok) (tp : TS) (tr : TGx) : TGx := fun nx i σ H => tp { nx := fun σ' H' => Same H H' ∧ tr nx i σ' H', rt := fun _ _ => False } σ H
theorem gx_ps {O : Z.Ok} {st : Stmt} {rest : List Stmt} {tp : TS} {tr : TGx} (h : ∀ s₀ Hw, PS (Z.cx s₀ Hw) st tp) (r : GJ Z rest tr) : GJ Z (st :: rest) (tGP O tp tr) := by
  refine ⟨fun c fs K J gd lv ip nx gp hip hk i n s₀ s σ H hn si ht => ?_⟩
  obtain ⟨Hw, I, rp, sm, nd, hL⟩ := si
  refine seg_execs_cons (seg_wrap ?_)
  rw [gp.over]
  refine wpAny_mono ((h s₀ Hw).run ip s σ H _ I ht) (fun f s' hs => ?_) fun _ _ z => z.elim
  cases f with
  | next =>
    obtain ⟨σ', H', I', sm', q⟩ := hs
    exact r.run c fs K J gd lv ip nx gp hip hk i n s₀ s' σ' H' hn ⟨Hw, I', rp, sm.trans sm', O.stable _ _ sm' nd, hL⟩ q
  | brk => obtain ⟨_, _, _, q⟩ := hs; exact q.elim
  | cont => obtain ⟨_, _, _, q⟩ := hs; exact q.elim
  | ret u => obtain ⟨_, _, _, _, _, q⟩ := hs; exact q.elim
def tGF (Z : Gc) (wi : TI) (g : TG) (te : TE) (tr : TGx) : TGx := fun nx i σ H => wi σ H fun Jt H1 => Same H H1 ∧ ∃ (lo : Int) (m : Nat), Jt = Itr lo m ∧ i + m ≤ Z.out.length ∧ ∃ W : Nat → L2.St → Prop, W 0 σ ∧
  (∀ (j : Nat) σ H, j < m → W j σ → Z.need H → g (.int (lo + j)) σ H fun σ2 H2 => Same H H2 ∧ te σ2 H2 fun x H3 => Same H2 H3 ∧ ∃ (T : Addr) (vs : List V), x = .ref T ∧ Z.out[i + j]? = some vs ∧ H2 T = none ∧ H3 T = some (.tup vs) ∧ W (j + 1) σ2) ∧
  (∀ σ H, W m σ → Z.need H → tr nx (i + m) σ H)
theorem same_free {H H' : Hp} {a : Addr} (s : Same H H') (h : H' a = none) : H a = none := by
  cases q : H a with
  | none => rfl
  | some u => rw [s a u q] at h; cases h
theorem gx_for {O : Z.Ok} {tg iter e : Expr} {yp ep pos : Pos} {wi : TI} {g : TG} {te : TE} {rest : List Stmt} {tr : TGx} (hi : ∀ s₀ Hw, PI (Z.cx s₀ Hw) tg iter wi) (hg : ∀ s₀ Hw, PG (Z.cx s₀ Hw) tg g) (he : ∀ s₀ Hw, PE (Z.cx s₀ Hw) e te) (r : GJ Z rest tr)
    (hs : ∀ x, foldedSetIterable iter Z.env x = pure x) (hco : Z.env.scope.isCoroutine = false) (hint : interactive Z.env = false) :
    GJ Z (.For tg iter [.Expr (.Yield (some e) yp) ep] [] pos :: rest) (tGF Z wi g te tr) := by
  refine ⟨fun c fs K J gd lv ip nx gp hip hk i n s₀ s σ H hn si ht => ?_⟩
  obtain ⟨Hw, I, rp, sm, nd, hL⟩ := si
  refine seg_execs_cons (seg_For hs ?_)
  rw [gp.over]
  refine wpAny_mono ((hi s₀ Hw).run ip s σ H _ I ht) (fun v s1 h1 => wpAny_mono h1 (fun itv s2 h2 => ?_) fun _ _ z => z.elim) fun _ _ z => z.elim
  obtain ⟨it, fp, tn, Jt, H2, ei, I2, T, st2, f2, sm2, lo, m, eJ, him, W, w0, step, fin⟩ := h2
  subst ei
  subst eJ
  intro p lv'
  have stat : ∀ b ∈ fp, b ≠ Z.L ∧ b ∉ frs Z.outer ∧ Z.L ≤ b ∧ (∀ q ∈ [(Z.a, Z.go)] ++ ip, q.1 ≠ b) ∧ b ∉ Z.kp := fun b hb => by
    obtain ⟨_, h2, h3, h4, _, h6⟩ := f2 b hb
    refine ⟨h2, h3, ?_, fun q hq => ?_, fun hk => ?_⟩
    · rcases h4 with z | z
      · cases (show b ∈ ([] : List Addr) from z)
      · have z' : (trunc s₀.heap Z.L).objs.size ≤ b := z
        rw [trunc_size hL.1] at z'
        exact z'
    · rcases List.mem_append.mp hq with z | z
      · rw [List.mem_singleton.mp z]
        exact h6 (Z.a, Z.go) (List.mem_append_left _ List.mem_cons_self)
      · exact h6 q (List.mem_append_right _ z)
    · obtain ⟨_, o, eo⟩ := hL.2 b hk
      exact h6 (b, o) (List.mem_append_left _ (List.mem_cons_of_mem _ (mem_pinsAt hk eo))) rfl
  have fpk : ∀ {s0 : Shared} {H0 H' : Hp}, Z.L ≤ s0.heap.objs.size → (∀ b ∈ fp, H' b = none) → ∀ b ∈ fp, FpOk (Z.cx s0 H0) ip H' b := fun {s0 H0 H'} hl hn b hb => by
    obtain ⟨z1, z2, z3, z4, z5⟩ := stat b hb
    refine ⟨hn b hb, z1, z2, .inr ?_, fun x c e => ?_, fun q hq => ?_⟩
    · show (trunc s0.heap Z.L).objs.size ≤ b
      rw [trunc_size hl]
      exact z3
    · rw [show (Z.cx s0 H0).env.cells.lookup x = none from Gc.nocells O x] at e
      cases e
    · rcases List.mem_append.mp hq with z | z
      · rcases List.mem_cons.mp z with z | z
        · exact z4 q (by rw [z]; simp)
        · exact fun w => z5 (w ▸ (of_pinsAt z).1)
      · exact z4 q (List.mem_append_right _ z)
  have ov : ∀ (k : Result → Sem PySem.Fin) (l : List Value), Z.A.over (.forLoop tg (.ref it) [.Expr (.Yield (some e) yp) ep] [] Z.env) (.ret k none (gd false) l c p [] :: fs) = Z.A.deeper Z.env := fun k l => (over_loop rfl rfl).trans gp.over
  have loop : ∀ (d j n : Nat) (s₀ s : Shared) (σ : L2.St) (H : Hp), d + j = m → n + (i + j) = Z.out.length + 1 → Z.SI s₀ (i + j) ip σ H s → tn j s.heap → (∀ b ∈ fp, H b = none) → W j σ →
      Seg (model Z.P Z.w) Z.A Z.R Z.Y n s₀ (.forLoop tg (.ref it) [.Expr (.Yield (some e) yp) ep] [] Z.env) ((model Z.P Z.w).den (.forLoop tg (.ref it) [.Expr (.Yield (some e) yp) ep] [] Z.env))
        (.ret (fun r => ((match r with | .ok f => (.pure f : Sem Flow) | .error e => .raise e).onRaise (cameBack Z.env)).wrap (fun (f : Flow) => match f with | .next => (execs rest Z.env).wrap K J gd lv | f => K f) J gd lv) none (gd false) lv' c p [] :: fs) s := by
    intro d
    induction d with
    | zero =>
      intro j n s₀ s σ H hd hn si st fr wj
      obtain ⟨Hw, I, rp, sm, nd, hL⟩ := si
      have ej : j = m := by omega
      subst ej
      refine seg_forLoop ?_
      rw [ov]
      refine wpAny_mono (T.done (Z.cx s₀ Hw) rfl rfl rfl rfl j ip s σ H noX I (fpk hL.1 fr) st (Nat.le_refl _)) (fun r0 s1 hr => ?_) fun _ _ z => z.elim
      obtain ⟨e0, I1⟩ := hr
      subst e0
      refine seg_leaf (.ok .next) ?_
      exact r.run c fs K J gd lv ip nx gp hip hk (i + j) n s₀ s1 σ H hn ⟨Hw, I1, rp, sm, nd, hL⟩ (fin σ H wj nd)
    | succ d ih =>
      intro j n s₀ s σ H hd hn si st fr wj
      obtain ⟨Hw, I, rp, sm, nd, hL⟩ := si
      have hj : j < m := by omega
      obtain ⟨n, rfl⟩ : ∃ k, n = k + 1 := ⟨n - 1, by omega⟩
      refine seg_forLoop ?_
      rw [ov]
      refine wpAny_mono (T.item (Z.cx s₀ Hw) rfl rfl rfl rfl j ip s σ H noX I (fpk hL.1 fr) st hj) (fun r0 s1 hr => ?_) fun _ _ z => z.elim
      obtain ⟨u, e0, h4⟩ := hr
      subst e0
      refine wpAny_mono h4 (fun _ s5 ⟨x, H5, I5, r5, ⟨eH, ex⟩, st5, fr5⟩ => ?_) fun _ _ z => z.elim
      subst eH
      subst ex
      have I5' := I5.pinned (fpk hL.1 fr5) (T.obj _ _ st5)
      refine wpAny_mono ((hg s₀ Hw).run _ s5 σ H5 _ u _ I5' r5 (step j σ H5 hj wj nd)) (fun _ s6 ⟨σ6, H6, I6, sm6, q6⟩ => ?_) fun _ _ z => z.elim
      refine seg_execs_cons ?_
      refine seg_Expr_Yield (by
        show (splitAtGen fs).map _ = none
        rw [gp.split]; rfl) rfl (by
        show (gd false || fs.any Frame.guarded) = false
        rw [gp.gd, gp.guard]; rfl) ?_ hco hint
      rw [ov]
      refine wpAny_mono ((he s₀ Hw).run _ s6 σ6 H6 _ I6 q6) (fun v s7 ⟨x, H7, I7, r7, sm7, Tt, vs, ex, eo, n2, e3, w7⟩ => ?_) fun _ _ z => z.elim
      subst ex
      obtain rfl : v = Value.ref Tt := r7
      intro kap hkap
      obtain ⟨mm, ⟨oL, es, ep', hoL, dL, rr⟩, _⟩ := id I7.loc
      have sm' : Same Hw H7 := (sm.trans sm6).trans sm7
      have pin7 := I7.pin
      have inp : ∀ q ∈ ip ++ pinsAt fp s5.heap, Z.L ≤ q.1 ∧ q.1 ∉ Z.kp := fun q hq => by
        rcases List.mem_append.mp hq with z | z
        · exact hip q z
        · exact ⟨(stat q.1 (of_pinsAt z).1).2.2.1, (stat q.1 (of_pinsAt z).1).2.2.2.2⟩
      refine ⟨i + j, Hw, H7, Tt, vs, (Z.L, oL) :: (Z.a, Z.go) :: (ip ++ pinsAt fp s5.heap), rp, by omega, eo, rfl, same_free (sm.trans sm6) n2, e3, sm', I7.os, I7.bare, I7.hok, Gc.un I7 sm' hL.1, fun q hq => ?_, by simp, fun sw Hw' rp' wk => ?_⟩
      · rcases List.mem_cons.mp hq with z | hq
        · rw [z]
          exact ⟨hoL, I7.free, (fun hb => absurd (O.frL _ hb) (Nat.lt_irrefl _)), (fun v y => by rw [dL] at y; cases y), fun hk => (hL.2 _ hk).1.1 rfl⟩
        · have hq' : q ∈ (Z.cx s₀ Hw).pn ++ (ip ++ pinsAt fp s5.heap) := by
            rcases List.mem_cons.mp hq with z | z
            · rw [z]; exact List.mem_append_left _ List.mem_cons_self
            · exact List.mem_append_right _ z
          obtain ⟨p1, p2, p3, p4, p5⟩ := pin7 q hq'
          rcases List.mem_cons.mp hq with z | z
          · refine ⟨p1, p2, ?_, p5, ?_⟩
            · rw [z]; exact fun hb => absurd (Nat.lt_trans (O.frL _ hb) O.la) (Nat.lt_irrefl _)
            · rw [z]; exact fun hk => (hL.2 _ hk).1.2 rfl
          · exact ⟨p1, p2, (fun hb => absurd (Nat.lt_of_lt_of_le (O.frL _ hb) (inp q z).1) (Nat.lt_irrefl _)), p5, (inp q z).2⟩
      · refine hkap .none sw ?_
        show Seg _ _ _ _ _ _ _ _ _ _
        have I8 : Inv (Z.cx sw Hw') (ip ++ pinsAt fp s5.heap) σ6 Hw' sw := Gc.woken O I7 wk (fun o ho => by
          have : s7.heap.get? Z.L = some oL := hoL
          rw [this] at ho
          cases ho
          simp) (by simp) (fun q hq => List.mem_cons_of_mem _ (List.mem_cons_of_mem _ hq))
        have hL' : Z.Lk sw := ⟨Nat.le_of_lt (Heap.lt_size (wk.gp (Z.L, oL) (by simp)).1), fun b hb => by obtain ⟨n, _, _, o, e, _⟩ := wk.kp b hb; exact ⟨n, o, e⟩⟩
        have at5 : ∀ b ∈ fp, ∀ o, s5.heap.get? b = some o → sw.heap.get? b = some o ∧ Hw' b = none := fun b hb o eo => wk.gp (b, o) (List.mem_cons_of_mem _ (List.mem_cons_of_mem _ (List.mem_append_right _ (mem_pinsAt hb eo))))
        refine seg_again rfl (ih (j + 1) n sw sw σ6 Hw' (by omega) (by omega) ⟨Hw', I8.unpinned, rp', Same.refl _, wk.need, hL'⟩ (T.keep _ _ _ st5 fun b hb o eo => (at5 b hb o eo).1) (fun b hb => ?_) w7)
        obtain ⟨o, eo, _⟩ := T.obj _ _ st5 b hb
        exact (at5 b hb o eo).2
  exact loop m 0 n s₀ s2 σ H2 (by omega) (by omega) ⟨Hw, I2, rp, sm.trans sm2, O.stable _ _ sm2 nd, hL⟩ st2 (fun b hb => (f2 b hb).1) w0
end MF
set_option Elab.async false
set_option linter.all false
set_option maxRecDepth 100000
set_option maxHeartbeats 1000000
namespace MF
open PySem PySem.Spec PyProof.Rows L2 GenW
open Sem (wp)
theorem wakes_susp {M : Model} {Γ : PySem.Ctx} {p : Pos} {g : Nat} {r : Resume} {s s' : Shared} {v : Value} (h : Wakes M Γ p g r s (.yielded v) s') : ∃ x, s'.gens[g]? = some x ∧ isSusp x = true := by
  have key : ∀ {Γ' : PySem.Ctx} {p' : Pos} {t : Sem PySem.Fin} {fs : List Frame} {e : End} {s₁ : Shared}, g < s.gens.size → Runs M Γ' p' t fs (s.setGen g .running) e s₁ → GenResult.yielded v = e.result → s' = s₁.setGen g e.genState → ∃ x, s'.gens[g]? = some x ∧ isSusp x = true := fun {Γ' p' t fs e s₁} hg hr he hs => by
    have h1 := runs_gsz hr
    rw [setGen_size] at h1
    refine ⟨e.genState, by rw [hs]; exact setGen_at (by omega), ?_⟩
    cases e with
    | susp => rfl
    | ret x => rcases x with _ | _ <;> cases he
  unfold Wakes at h
  cases hg : s.gens[g]? with
  | none => rw [hg] at h; exact h.elim
  | some st =>
    have hlt : g < s.gens.size := (Array.getElem?_eq_some_iff.mp hg).1
    rw [hg] at h
    cases st with
    | fresh c =>
      cases r with
      | send u =>
        cases u with
        | none => obtain ⟨e, s₁, h1, _, h3, h4⟩ := h; exact key hlt h1 h3 h4
        | _ => obtain ⟨h1, _⟩ := h; cases h1
      | throw x => obtain ⟨h1, _⟩ := h; cases h1
    | suspended => obtain ⟨e, s₁, h1, _, h3, h4⟩ := h; exact key hlt h1 h3 h4
    | running => obtain ⟨h1, _⟩ := h; cases h1
    | finished => obtain ⟨h1, _⟩ := h; cases h1
def goNext (M : Model) (A : Around) (R : GenEnd) (Y : Protocol) : Nat → GenState → Resume → Shared → Prop
  | 0 => fun _ _ _ => False
  | m + 1 => fun gs r s => gs.Goes M A R Y m r s
theorem resumeS {M : Model} {A : Around} {R : GenEnd} {Y : Protocol} {n : Nat} {E : Value → Shared → Prop} {s : Shared} {g : Nat} {gs : GenState} {r : Resume} {l : List Value} {α : Type} {k : GenResult → Sem α} {Q : α → Shared → Prop} (hg : s.gens[g]? = some gs) (hgo : gs.Goes M A R Y n r (s.setGen g .running))
    (hR : ∀ x s₁, R n (s.setGen g .running) x s₁ → wpAny M A (k (End.ret x).result) Q E (s₁.setGen g .finished))
    (hY : ∀ v s₁ gs', gs'.bare = true → isSusp gs' = true → (s₁.setGen g gs').gens[g]? = some gs' → Y (n - 1) (s.setGen g .running) v s₁ (goNext M A R Y n gs') → wpAny M A (k (.yielded v)) Q E (s₁.setGen g gs')) :
    wpAny M A (.resume g r l k) Q E s := by
  have base : wpAny M A (.resume g r l Sem.pure) (fun res s' => (∃ x s₁, res = (End.ret x).result ∧ s' = s₁.setGen g .finished ∧ R n (s.setGen g .running) x s₁) ∨ ∃ v s₁ gs', res = .yielded v ∧ s' = s₁.setGen g gs' ∧ gs'.bare = true ∧ Y (n - 1) (s.setGen g .running) v s₁ (goNext M A R Y n gs')) E s :=
    wpAny_resumeQ hg hgo (fun x s₁ hx => wpAny_pure (.inl ⟨x, s₁, rfl, rfl, hx⟩)) (fun v s₁ gs' hb hv => wpAny_pure (.inr ⟨v, s₁, gs', rfl, rfl, hb, by cases n <;> exact hv⟩))
  intro Γ p hΓ
  have h := base Γ p hΓ
  rw [Sem.wp_resume] at h ⊢
  obtain ⟨res, s', hw, hF⟩ := h
  refine ⟨res, s', hw, ?_⟩
  rcases hF with ⟨x, s₁, e1, e2, h3⟩ | ⟨v, s₁, gs', e1, e2, h3, h4⟩
  · subst e1
    subst e2
    exact hR x s₁ h3 Γ p hΓ
  · subst e1
    obtain ⟨x, q1, q2⟩ := wakes_susp hw
    rw [e2] at q1
    have hlt : g < s₁.gens.size := by
      have := (Array.getElem?_eq_some_iff.mp q1).1
      rw [setGen_size] at this
      exact this
    have q3 := setGen_at (x := gs') hlt
    rw [q3] at q1
    cases q1
    rw [e2]
    exact hY v s₁ gs' h3 q2 q3 h4 Γ p hΓ
def endR (F : Shared → Shared → Prop) : GenEnd := fun n s₀ r s₁ => ((r = .ok (.ret .none) ∨ r = .ok .next) ∧ F s₀ s₁) ∨ ∃ e, r = .error e ∧ noX e s₁
section
variable {P : Program} {w : World} {A : Around} {E : Value → Shared → Prop} {s : Shared}
theorem next_gen {a : Addr} {g n : Nat} {gs : GenState} {F : Shared → Shared → Prop} {Y : Protocol} {Q : Option Value → Shared → Prop} (hh : A.handled = none) (hl : s.heap.NoLimit) (hroom : A.depth < recursionLimit) (hg : s.heap.IsGen a g) (hgs : s.gens[g]? = some gs)
    (hgo : gs.Goes (model P w) A.in1 (endR F) Y n (.send .none) (s.setGen g .running))
    (hY : ∀ v s₁ gs', gs'.bare = true → isSusp gs' = true → (s₁.setGen g gs').gens[g]? = some gs' → Y (n - 1) (s.setGen g .running) v s₁ (goNext (model P w) A.in1 (endR F) Y n gs') → Q (some v) (s₁.setGen g gs'))
    (hP : ∀ s₁, F (s.setGen g .running) s₁ → ∀ h', (∀ b o, s₁.heap.get? b = some o → h'.get? b = some o) → Q none { s₁.setGen g .finished with heap := h' }) :
    wpAny (model P w) A (pyNext (.ref a)) Q E s := by
  unfold pyNext
  refine wpAny_bind (wpAny_attempt (wpAny_callSpecial?_slot (name := Str.ofString "__next__") hg.typeIs slot_gen_next (wpAny_call_entry slot_gen_next hg.typeIs entry_gen_next ?_ (args_gen_next _))))
  show wpAny _ A.in1 (Builtin.Generator.genWake (.ref a) (.send .none)) _ _ s
  unfold Builtin.Generator.genWake
  refine wpAny_bind (wpAny_holding (wpAny_genNumber hg (wpAny_bind (wpAny_genState hgs ?_))))
  cases gs with
  | running => exact hgo.elim
  | finished => exact hgo.elim
  | _ =>
    refine wpAny_bind (wpAny_roomToWake hl hroom ?_)
    show wpAny _ A.in1 (.resume g (.send .none) [] _) _ _ s
    refine resumeS hgs hgo (fun x s₁ hx => ?_) (fun v s₁ gs' hb hsu hat hv => wpAny_pure ⟨v, rfl, wpAny_pure (hY v s₁ gs' hb hsu hat hv)⟩)
    rcases hx with ⟨hr, hp⟩ | ⟨e, _, he⟩
    · have hres : (End.ret x).result = .returned .none := by rcases hr with hr | hr <;> rw [hr] <;> rfl
      first | rw [hres] | simp only [hres]
      show wpAny _ A.in1 (newExc (.type "StopIteration") [] >>= _) _ _ _
      refine wpAny_bind ?_
      simp only [newExc, newTuple]
      refine wpAny_bind (wpAny_newObj_type ?_ (by size_fits))
      refine wpAny_bind (m := firstArgMember _ _) (wpAny_of_eq (a := Value.none) (by first | rfl | (simp only [firstArgMember]; rfl)) ?_)
      refine wpAny_newObj_type ?_ (by size_fits)
      simp only [raiseNew]
      refine wpAny_bind (wpAny_bind (wpAny_handled ?_))
      first | rw [show A.in1.handled = none from hh] | rw [hh]
      refine wpAny_throw ?_
      refine wpAny_bind (wpAny_isInstance (T := "StopIteration") (b := true) ⟨_, Heap.get?_push_size _ rfl, rfl⟩ isSubtype_stop ?_)
      exact wpAny_pure (hP s₁ hp _ fun b o hb => Heap.get?_push_of_some _ (Heap.get?_push_of_some _ hb))
    · exact he.elim
end
end MF
set_option Elab.async false
set_option linter.all false
set_option maxRecDepth 100000
set_option maxHeartbeats 1000000
namespace MF
open PySem PySem.Spec PyProof.Rows L2 GenW
def GMadeX (P : Program) (w : World) (K : PySem.W.Frag) (mg : Str → Option Value) (base : Heap) (k : Nat) (outer : List Env) (s : Shared) (H : Hp) (out : List (List V)) (need : Hp → Prop) (u : Value) (s' : Shared) : Prop :=
  ∃ (N : List Str) (qual : Str) (scope : Scope) (f : Addr) (cdv : Value) (a : Addr) (g : Nat) (go oL : Obj) (c : Code), u = .ref a ∧ s.heap.objs.size < a ∧ s'.heap.get? a = some go ∧ (∀ h : Heap, h.get? a = some go → h.IsGen a g) ∧ s'.gens[g]? = some (.fresh c) ∧
    s'.heap.get? s.heap.objs.size = some oL ∧ (∀ v, oL.data ≠ .cell v) ∧ (∀ v, go.data ≠ .cell v) ∧ (go.cls = .type "generator" ∧ ∃ vs, go.data = .fields vs) ∧ s'.os = s.os ∧ AllBare s'.gens ∧ (∀ b o, s.heap.get? b = some o → s'.heap.get? b = some o) ∧
    (∀ A RP kp, A.handled = none → (Gc.mk P w K mg base N qual scope f cdv A outer s.heap.objs.size a go out need RP kp).Ok) ∧
    ∀ (A : Around) (RP : Nat → Shared → Hp → Prop) (kp : List Addr) (sw : Shared) (Hw : Hp), Room k A → A.frames = some outer → RP 0 sw Hw → Wk (Gc.mk P w K mg base N qual scope f cdv A outer s.heap.objs.size a go out need RP kp) [(s.heap.objs.size, oL), (a, go)] sw Hw →
      Seg (model P w) A (Gc.mk P w K mg base N qual scope f cdv A outer s.heap.objs.size a go out need RP kp).R (Gc.mk P w K mg base N qual scope f cdv A outer s.heap.objs.size a go out need RP kp).Y (out.length + 1) sw c ((model P w).den c) [] sw
abbrev SpX := List V → Hp → List (List V) → (Hp → Prop) → Prop
structure GFx (P : Program) (w : World) (K : PySem.W.Frag) (mg : Str → Option Value) (base : Heap) (k : Nat) (f : Addr) (fd : FuncData) (ps : List Str) (sp : SpX) : Prop where
  len : ∀ vs H out need, sp vs H out need → vs.length = ps.length
  need : ∀ vs H out need, sp vs H out need → need H ∧ ∀ H H', Same H H' → need H → need H'
  run : ∀ (A : Around) (outer : List Env) (s : Shared) (H : Hp) (args : Args) (us : List Value) (vs : List V) (out : List (List V)) (need : Hp → Prop), Room k A → Env0 P w K mg base A outer s H → BindsTo s fd args (ps.zip us) → Vals vs us → sp vs H out need →
    codeAny (model P w) A (.call (.ref f) args) (fun r s' => match r with | .ok (.ret u) => GMadeX P w K mg base k outer s H out need u s' | _ => False) s
theorem gfx_of0 {P : Program} {w : World} {K : PySem.W.Frag} {mg : Str → Option Value} {base : Heap} {k : Nat} {f : Addr} {name qual : Str} {params : Arguments} {body : List Stmt} {scope : Scope} {dV kV doc pm cdv ct oc : Value} {an od : Option Addr} {osl : Array (Option Value)} {N ps : List Str} {sp : SpX}
    (lk : K.lookup f = some ⟨oc, od, .func (PySem.W.fnOf name qual params body scope dV kV doc pm an cdv ct), osl⟩) (hcd : PySem.W.codeIn K cdv qual = true) (S : GScope N ps scope) (nc : ∀ y ∈ scope.names, y.2 ≠ .cell ∧ y.2 ≠ .free)
    (len : ∀ vs H out need, sp vs H out need → vs.length = ps.length) (hneed : ∀ vs H out need, sp vs H out need → need H ∧ ∀ H H', Same H H' → need H → need H')
    (hbody : ∀ (A : Around) (outer : List Env) (L a : Addr) (go : Obj) (RP : Nat → Shared → Hp → Prop) (kp : List Addr) (vs : List V) (H : Hp) (out : List (List V)) (need : Hp → Prop), (Gc.mk P w K mg base N qual scope f cdv A outer L a go out need RP kp).Ok → Room k (A.deeper (envOfC qual scope L f cdv)) → sp vs H out need →
      ∀ (sw : Shared) (Hw : Hp), Inv ((Gc.mk P w K mg base N qual scope f cdv A outer L a go out need RP kp).cx sw Hw) [] (start N vs) Hw sw → RP 0 sw Hw → need Hw → (Gc.mk P w K mg base N qual scope f cdv A outer L a go out need RP kp).Lk sw →
        Seg (model P w) A (Gc.mk P w K mg base N qual scope f cdv A outer L a go out need RP kp).R (Gc.mk P w K mg base N qual scope f cdv A outer L a go out need RP kp).Y (out.length + 1) sw (.func body (envOfC qual scope L f cdv)) ((model P w).den (.func body (envOfC qual scope L f cdv))) [] sw) :
    GFx P w K mg base (k + 1) f (PySem.W.fnOf name qual params body scope dV kV doc pm an cdv ct) ps sp := by
  refine ⟨len, hneed, fun A outer s H args us vs out need hr e0 hb r hsp => ?_⟩
  have hl := len _ _ _ _ hsp
  have hst := (hneed _ _ _ _ hsp).2
  have kin : K.In s.heap := e0.mod.kin.keeps fun b o e => (e0.bs b o e).1
  have lim : s.heap.NoLimit := e0.mod.nolimit.keeps fun b o e => (e0.bs b o e).1
  have hk : ∀ y ∈ ps.zip us, scope.names.lookup y.1 = some .local ∨ (scope.names.lookup y.1 = some .cell ∧ ((cellsFrom (s.heap.objs.size + 1) scope.names []).lookup y.1).isSome = true) := fun y hy => by
    rcases S.par y.1 (List.of_mem_zip (a := y.1) (b := y.2) hy).1 with q | q
    · exact .inl q
    · exact .inr ⟨q, PySem.W.cellsFrom_some _ _ _ (.inl q)⟩
  refine codeAny_call_generator hr.depth (kin _ _ lk) rfl S.co S.gen rfl (PySem.W.codeRec_of kin hcd) (hb _ _ _ _ ?_)
  refine wpAny_newFunctionEnv_cells S.kind hk fun env he s1 x => ?_
  subst he
  have lim1 : s1.heap.NoLimit := lim.keeps x.toInCall.keep
  refine ⟨lim1, ?_⟩
  obtain ⟨h1, tk, es1, hk1⟩ := x.done
  have os1 : s1.os = s.os := by rw [es1]
  have gen1 : s1.gens = s.gens := by rw [es1]
  have lt1 : s.heap.objs.size < s1.heap.objs.size := x.toInCall.ns.lt
  have kp1 : ∀ b o, s.heap.get? b = some o → s1.heap.get? b = some o := x.toInCall.keep
  have I1 : Inv (gcxOf P w K mg base N qual scope f cdv A outer s H (fun _ _ _ => False) []) [] (start N vs) H s1 := inv_startG S hr.hd e0 hl r x
  obtain ⟨m, ⟨oL, es, ep, hoL, dL, rL⟩, hloc⟩ := I1.loc
  have hoL' : s1.heap.get? s.heap.objs.size = some oL := hoL
  have frL : ∀ b ∈ frs outer, b < s.heap.objs.size := fun b hb => by
    obtain ⟨_, o, ho, _⟩ := e0.funs.mem hb
    exact Heap.lt_size ho
  have main : ∀ (go : Obj) (nm qn : Value) (tk2 : Nat), go.cls = .type "generator" → go.data = .fields #[.int s1.gens.size 0, nm, qn] → go.slots = #[] → (∀ h : Heap, (h.push go).get? h.objs.size = some go) →
      GMadeX P w K mg base (k + 1) outer s H out need (.ref s1.heap.objs.size) { s1 with gens := s1.gens.push (.fresh (.func body (envOfC qual scope s.heap.objs.size f cdv))), toks := tk2, heap := s1.heap.push go } := by
    intro go nm qn tk2 hgc hgd hgs hgp
    have god : ∀ v, go.data ≠ .cell v := fun v q => by rw [hgd] at q; cases q
    have okZ : ∀ A RP kp, A.handled = none → (Gc.mk P w K mg base N qual scope f cdv A outer s.heap.objs.size s1.heap.objs.size go out need RP kp).Ok := fun A RP kp hA => ⟨S.kind, nc, e0.bsz, frL, hA, lt1, god, hst⟩
    refine ⟨N, qual, scope, f, cdv, s1.heap.objs.size, s1.gens.size, go, oL, _, rfl, lt1, hgp _, fun h e => ⟨go, nm, qn, e, hgc, hgd, hgs⟩, Array.getElem?_push_size .., Heap.get?_push_of_some _ hoL', (fun v y => by rw [dL] at y; cases y), god, ⟨hgc, _, hgd⟩, os1, AllBare.push (by rw [gen1]; exact e0.bare) rfl, fun b o e => Heap.get?_push_of_some _ (kp1 b o e), okZ, ?_⟩
    intro A' RP kp sw Hw hrw hfr rp wk
    have O := okZ A' RP kp hrw.hd
    have hseg := hbody A' outer s.heap.objs.size s1.heap.objs.size go RP kp vs H out need O (hrw.deeper _) hsp
    obtain ⟨eL, nL⟩ := wk.gp (s.heap.objs.size, oL) (by simp)
    obtain ⟨ea, na⟩ := wk.gp (s1.heap.objs.size, go) (by simp)
    have hsz : s.heap.objs.size ≤ sw.heap.objs.size := Nat.le_of_lt (Heap.lt_size eL)
    have ncl := Gc.nocells O
    have I : Inv ((Gc.mk P w K mg base N qual scope f cdv A' outer s.heap.objs.size s1.heap.objs.size go out need RP kp).cx sw Hw) [] (start N vs) Hw sw := by
      refine ⟨Gc.cxOk O wk hsz, rfl, wk.env0.bare, Un.kept fun b u e => (trunc_of hsz e).2, ⟨m, ⟨oL, es, ep, eL, dL, rL⟩, fun i x v h1 h2 h3 => ?_⟩, fun x c e => ?_, nL, fun x c e => ?_, fun p hp => ?_, wk.env0.hok, I1.len⟩
      · obtain ⟨u, ru, l⟩ := hloc i x v h1 h2 h3
        refine ⟨u, ru, ?_⟩
        rcases l with l | ⟨_, c, e, _⟩
        · exact .inl l
        · have e' : (cellsFrom (s.heap.objs.size + 1) scope.names []).lookup x = some c := e
          rw [show (cellsFrom (s.heap.objs.size + 1) scope.names []).lookup x = none from ncl x] at e'
          cases e'
      · have e' : (cellsFrom (s.heap.objs.size + 1) scope.names []).lookup x = some c := e
        rw [show (cellsFrom (s.heap.objs.size + 1) scope.names []).lookup x = none from ncl x] at e'
        cases e'
      · have e' : (cellsFrom (s.heap.objs.size + 1) scope.names []).lookup x = some c := e
        rw [show (cellsFrom (s.heap.objs.size + 1) scope.names []).lookup x = none from ncl x] at e'
        cases e'
      · have hp' : p ∈ ((s1.heap.objs.size, go) :: pinsAt kp sw.heap) ++ [] := hp
        rw [List.append_nil] at hp'
        rcases List.mem_cons.mp hp' with ep' | z
        rotate_left
        · obtain ⟨q1, q2⟩ := of_pinsAt z
          obtain ⟨k1, k2, k3, o, k4, k5⟩ := wk.kp _ q1
          rw [q2] at k4
          cases k4
          exact ⟨q2, k3, k1.1, k2, k5⟩
        rw [ep']
        refine ⟨ea, na, Nat.ne_of_gt lt1, fun hb => ?_, god⟩
        exact absurd (Nat.lt_trans (frL _ hb) lt1) (Nat.lt_irrefl _)
    exact hseg sw Hw I rp wk.need ⟨hsz, fun b hb => by obtain ⟨n, _, _, o, e, _⟩ := wk.kp b hb; exact ⟨n, o, e⟩⟩
  exact main _ _ _ _ rfl rfl rfl fun h => Heap.get?_push_size _ rfl
theorem gfx_of {P : Program} {w : World} {K : PySem.W.Frag} {mg : Str → Option Value} {base : Heap} {k : Nat} {f : Addr} {name qual : Str} {params : Arguments} {body : List Stmt} {scope : Scope} {dV kV doc pm cdv ct oc : Value} {an od : Option Addr} {osl : Array (Option Value)} {N ps : List Str} {sp : SpX}
    (lk : K.lookup f = some ⟨oc, od, .func (PySem.W.fnOf name qual params body scope dV kV doc pm an cdv ct), osl⟩) (hcd : PySem.W.codeIn K cdv qual = true) (S : GScope N ps scope) (nc : ∀ y ∈ scope.names, y.2 ≠ .cell ∧ y.2 ≠ .free)
    (len : ∀ vs H out need, sp vs H out need → vs.length = ps.length) (hneed : ∀ vs H out need, sp vs H out need → need H ∧ ∀ H H', Same H H' → need H → need H')
    (hbody : ∀ (A : Around) (outer : List Env) (L a : Addr) (go : Obj) (RP : Nat → Shared → Hp → Prop) (kp : List Addr) (vs : List V) (H : Hp) (out : List (List V)) (need : Hp → Prop), (Gc.mk P w K mg base N qual scope f cdv A outer L a go out need RP kp).Ok → Room k (A.deeper (envOfC qual scope L f cdv)) → sp vs H out need →
      ∃ t, GJ (Gc.mk P w K mg base N qual scope f cdv A outer L a go out need RP kp) body t ∧ ∀ Hw, need Hw → t (fun i _ _ => i = out.length) 0 (start N vs) Hw) :
    GFx P w K mg base (k + 1) f (PySem.W.fnOf name qual params body scope dV kV doc pm an cdv ct) ps sp := by
  refine gfx_of0 lk hcd S nc len hneed fun A outer L a go RP kp vs H out need O hr hsp sw Hw I rp nd lk => ?_
  obtain ⟨t, ht, hq⟩ := hbody A outer L a go RP kp vs H out need O hr hsp
  refine seg_func ?_
  refine ht.run _ [] _ _ id id [] (fun i _ _ => i = out.length) ⟨over_func, rfl, rfl, rfl⟩ (fun p hp => absurd hp (by simp)) (fun i n s₀ s' σ H' hn si hi => ?_) 0 (out.length + 1) sw sw (start N vs) Hw (by simp) ⟨Hw, I, rp, Same.refl _, nd, lk⟩ (hq Hw nd)
  obtain ⟨Hw0, J, rp0, sm, nd, hL⟩ := si
  subst hi
  exact seg_end (.ok (.ret .none)) (.inl ⟨.inl rfl, Hw0, H', rp0, sm, J.os, J.bare, J.hok, Gc.un J sm hL.1⟩)
end MF
set_option Elab.async false
set_option linter.all false
set_option maxRecDepth 100000
set_option maxHeartbeats 1000000
namespace MF
open PySem PySem.Spec PyProof.Rows L2 GenW
theorem invGens {X : Cx} {pins : List (Addr × Obj)} {σ : L2.St} {H : Hp} {s : Shared} {G : Array GenState} (I : Inv X pins σ H s) (hb : AllBare G) : Inv X pins σ H (wg s G) := ⟨I.ok, I.os, hb, I.base, I.loc, I.cell, I.free, I.freeC, I.pin, I.hok, I.len⟩
theorem invBack {X : Cx} {pins : List (Addr × Obj)} {σ : L2.St} {H : Hp} {s : Shared} {G : Array GenState} (I : Inv X pins σ H (wg s G)) (hb : AllBare s.gens) : Inv X pins σ H s := ⟨I.ok, I.os, hb, I.base, I.loc, I.cell, I.free, I.freeC, I.pin, I.hok, I.len⟩
abbrev TGq := L2.St → Hp → (List (List V) → (Hp → Prop) → Hp → Prop) → Prop
structure PGx (X : Cx) (k : Nat) (e : Expr) (tq : TGq) : Prop where
  run : ∀ (pins : List (Addr × Obj)) (s : Shared) (σ : L2.St) (H : Hp) (cont : List (List V) → (Hp → Prop) → Hp → Prop), Inv X pins σ H s → tq σ H cont → wpAny (model X.prog X.w) X.A (eval e X.env)
    (fun u s' => ∃ H1 sc out need, Inv X pins σ H1 sc ∧ GMadeX X.prog X.w X.K X.mg X.base k X.stack sc H1 out need u s' ∧ need H1 ∧ cont out need H1) X.xe s
structure MGx (P : Program) (w : World) (K : PySem.W.Frag) (mg : Str → Option Value) (base : Heap) (k : Nat) (C : Addr) (m : Str) (sp : SpX) : Prop where
  ex : ∃ f fd ps, GFx P w K mg base k f fd ps sp ∧ Meth K C m f ∧ Binds K fd ps []
section
variable {X : Cx} {k : Nat} {C : Addr} {m : Str} {sp : SpX} {o e : Expr} {es : List Expr} {ta : TE} {t : TA} {pos apos : Pos}
def tMethX (C : Addr) (m : Str) (sp : SpX) (ta : TE) (t : TA) : TGq := fun σ H cont => ta σ H fun x H1 => ∃ a dx fs, x = .ref a ∧ H1 a = some (.ins C dx fs) ∧ fs.lookup m = none ∧ t σ H1 fun vs H2 => ∃ out need, sp (x :: vs) H2 out need ∧ cont out need H2
theorem pgx_meth {pl : Sem Bool} (G : MGx X.prog X.w X.K X.mg X.base k C m sp) (c : Cls X.K C) (hr : Room k X.A) (he : PE X o ta) (ha : PA X (e :: es) t)
    (hst : starEach (e :: es) X.env = (false, eval e X.env) :: starEach es X.env := by rfl) (hpl : (backTo pos (starEach es X.env)).any (·.1) = false := by rfl)
    (ht : eval (.Call (.Attribute o m apos) (e :: es) [] pos) X.env = (do
      let ov ← eval o X.env
      standAt apos.atName
      let (f, first) ← holding [ov] (getMethod ov m pl)
      callWith pos f first (backTo pos (starEach (e :: es) X.env)) (backToKw pos (keywordEach [] X.env))) := by rfl) : PGx X k (.Call (.Attribute o m apos) (e :: es) [] pos) (tMethX C m sp ta t) := by
  obtain ⟨f, fd, ps, F, hm, hb⟩ := G.ex
  refine ⟨fun pins s σ H cont I h => ?_⟩
  refine PySem.W.methodCall_KW (pl := pl) (thn (he.run pins s σ H _ I h) fun u s1 ⟨x, H1, I1, rx, a, dx, fs, ex, ea, l, q⟩ => ?_) ht
  subst ex
  obtain rfl : u = Value.ref a := rx
  refine getmeth_ok I1 ea c hm l ?_
  refine PySem.W.callWith_K (first := [.ref a]) (h₀ := X.base) I.ok.mod.kin hm.kp (thn (ha.run pos pins s1 σ H1 _ I1 q) fun us s2 ⟨vs, H2, I2, r, out, need, q2, q3⟩ => ⟨I2.kIn, ?_⟩) hst hpl
  have r2 : Vals (V.ref a :: vs) (Value.ref a :: us) := .cons rfl r
  have hl2 : (Value.ref a :: us).length = ps.length := by rw [← r2.length]; exact F.len _ _ _ _ q2
  refine wpAny_call (codeAny_mono (F.run X.A X.stack s2 H2 ⟨Value.ref a :: us, []⟩ (Value.ref a :: us) (V.ref a :: vs) out need hr I2.env0 (by
    have := hb s2 (Value.ref a :: us) I2.kIn (by simpa using hl2)
    simpa using this) r2 q2) fun r s' hq => ?_)
  cases r with
  | error e => exact False.elim hq
  | ok fl =>
    cases fl with
    | ret u => exact ⟨H2, s2, out, need, I2, hq, (F.need _ _ _ _ q2).1, q3⟩
    | next => exact False.elim hq
    | brk => exact False.elim hq
    | cont => exact False.elim hq
end
def tForG (tq : TGq) (g : TG) (tb : TS) : TS := fun D σ H => tq σ H fun out need H1 => ∃ W : Nat → L2.St → Hp → Prop, W 0 σ H1 ∧ (∀ i σ H, W i σ H → need H) ∧
  (∀ σ H, W out.length σ H → ∀ H', Same H H' → D.nx σ H') ∧
  ∀ i vs σ H, out[i]? = some vs → W i σ H → ∀ T H', H T = none → H' T = some (.tup vs) → Same H H' → g (.ref T) σ H' fun σ2 H2 => tb { D with nx := W (i + 1), ct := W (i + 1), bk := D.nx } σ2 H2
theorem ps_forG {X : Cx} {tg iter : Expr} {body : List Stmt} {tq : TGq} {g : TG} {tb : TS} {pos : Pos} {k : Nat} (hx : ∀ e s, ¬ X.xe e s) (hc : X.calm = true) (hr : Room (k + 1) X.A) (hi : PGx X k iter tq) (hg : PG X tg g) (hb : PSs X body tb)
    (hs : ∀ x, foldedSetIterable iter X.env x = pure x := by intro _; rfl) (hst : X.stack = X.env :: X.outer ∧ X.env.frame = some X.env.locals := by exact ⟨rfl, rfl⟩) : PS X (.For tg iter body [] pos) (tForG tq g tb) := by
  refine ⟨fun pins s σ H D I h => ?_⟩
  refine wpAny_For (thn (hi.run pins s σ H _ I h) fun v s1 h1 => ?_) hs
  obtain ⟨H1, sc, out, need, I1, ⟨N, qual, scope, f, cdv, a, gn, go, oL, c, rfl, hla, ea, isg, hgs, eL, dL, dgo, ⟨gc, vs0, gd⟩, os1, ba1, kp1, okZ, sg⟩, nd, W, w0, wn, fin, turn⟩ := h1
  refine wpAny_pyIter_gen (isg _ ea) ?_
  have hin := hr.in1
  have O := okZ X.A.in1 (fun i s H => ∃ σ, Inv X pins σ H s ∧ W i σ H) [] hin.hd
  have sg' := sg X.A.in1 (fun i s H => ∃ σ, Inv X pins σ H s ∧ W i σ H) []
  generalize hZ : Gc.mk X.prog X.w X.K X.mg X.base N qual scope f cdv X.A.in1 X.stack sc.heap.objs.size a go out need (fun i s H => ∃ σ, Inv X pins σ H s ∧ W i σ H) [] = Z at O sg'
  have zP : Z.P = X.prog := by rw [← hZ]
  have zw : Z.w = X.w := by rw [← hZ]
  have zK : Z.K = X.K := by rw [← hZ]
  have zmg : Z.mg = X.mg := by rw [← hZ]
  have zb : Z.base = X.base := by rw [← hZ]
  have zA : Z.A = X.A.in1 := by rw [← hZ]
  have zo : Z.outer = X.stack := by rw [← hZ]
  have zL : Z.L = sc.heap.objs.size := by rw [← hZ]
  have za : Z.a = a := by rw [← hZ]
  have zg : Z.go = go := by rw [← hZ]
  have zout : Z.out = out := by rw [← hZ]
  have zn : Z.need = need := by rw [← hZ]
  have zk : Z.kp = [] := by rw [← hZ]
  have zR : Z.RP = (fun i s H => ∃ σ, Inv X pins σ H s ∧ W i σ H) := by rw [← hZ]
  have locL : X.env.locals < sc.heap.objs.size := I1.lt
  have fsL : ∀ b ∈ X.fs, b < sc.heap.objs.size := fun b hb => by
    obtain ⟨_, o, ho, _⟩ := I1.funs.mem hb
    exact Heap.lt_size ho
  have fsK : ∀ b ∈ frs X.stack, b < sc.heap.objs.size := fun b hb => by
    obtain ⟨_, o, ho, _⟩ := I1.env0.funs.mem hb
    exact Heap.lt_size ho
  have inK : X.env.locals ∈ frs X.stack ∧ ∀ b ∈ X.fs, b ∈ frs X.stack := by
    rw [hst.1]
    unfold frs
    rw [List.filterMap_cons, hst.2]
    exact ⟨List.mem_cons_self, fun b hb => List.mem_cons_of_mem _ hb⟩
  have cellL : ∀ x c, X.env.cells.lookup x = some c → c < sc.heap.objs.size := fun x c e => by
    obtain ⟨v, q⟩ := I1.cell x c e
    exact q.lt
  have pinL : ∀ p ∈ X.pn ++ pins, p.1 < sc.heap.objs.size := fun p hp => Heap.lt_size (I1.pin p hp).1
  have s0L : X.s_0.heap.objs.size ≤ sc.heap.objs.size := I1.sz
  have chk : ∀ {sw : Shared} {Hw : Hp}, ∀ b ∈ Z.ch sw Hw, (b ∈ X.ex ∨ X.s_0.heap.objs.size ≤ b) ∧ b ≠ X.env.locals ∧ (∀ x c, X.env.cells.lookup x = some c → c ≠ b) ∧ ∀ p ∈ X.pn ++ pins, p.1 ≠ b := fun {sw Hw} b hb => by
    have h2 := (Gc.mem_ch.mp hb).2.1
    rw [zL] at h2
    exact ⟨.inr (Nat.le_trans s0L h2), Nat.ne_of_gt (Nat.lt_of_lt_of_le locL h2), fun x c e => Nat.ne_of_lt (Nat.lt_of_lt_of_le (cellL x c e) h2), fun p hp => Nat.ne_of_lt (Nat.lt_of_lt_of_le (pinL p hp) h2)⟩
  have Is1 : Inv X pins σ H1 s1 := I1.call' (ch := []) os1 (Un.kept kp1) (I1.hok.kept kp1) ba1 fun b z => by simp at z
  have fr : ∀ b, sc.heap.objs.size ≤ b → H1 b = none := fun b hb => I1.hok.fresh hb
  refine codeAny_forLoop_any (fun n s' => ∃ i σ' H' gs gp, Inv X pins σ' H' s' ∧ W i σ' H' ∧ n + i = out.length + 1 ∧ s'.gens[gn]? = some gs ∧ (∀ p ∈ gp, s'.heap.get? p.1 = some p.2 ∧ H' p.1 = none ∧ p.1 ∉ frs X.stack ∧ ∀ v, p.2.data ≠ .cell v) ∧ (a, go) ∈ gp ∧
    ∀ sw Hw, Z.RP i sw Hw → Wk Z gp sw Hw → gs.Goes (model X.prog X.w) X.A.in1 Z.R Z.Y n (.send .none) sw) ?_ (out.length + 1) ⟨0, σ, H1, .fresh c, [(sc.heap.objs.size, oL), (a, go)], Is1, w0, rfl, hgs, fun p hp => ?_, by simp, fun sw Hw rp wk => ?_⟩
  rotate_left
  · rcases List.mem_cons.mp hp with z | hp
    · rw [z]
      exact ⟨eL, fr _ (Nat.le_refl _), fun hb => absurd (fsK _ hb) (Nat.lt_irrefl _), dL⟩
    · rw [List.mem_singleton.mp hp]
      exact ⟨ea, fr _ (Nat.le_of_lt hla), fun hb => absurd (Nat.lt_trans (fsK _ hb) hla) (Nat.lt_irrefl _), dgo⟩
  · rw [← hZ] at rp wk
    exact ⟨rfl, by rw [← hZ]; exact sg X.A.in1 _ _ sw Hw hin I1.ok.frames rp wk⟩
  rintro n s3 ⟨i, σ3, H3, gs, gp, I3, w3, hn, hg3, hgp, hag, wake⟩
  have b3 : AllBare (s3.setGen gn .running).gens := allBare_setGen I3.bare rfl
  have I3r : Inv X pins σ3 H3 (s3.setGen gn .running) := invGens I3 b3
  have wk : Wk Z gp (s3.setGen gn .running) H3 := by
    refine ⟨?_, fun p hp => ⟨(hgp p hp).1, (hgp p hp).2.1⟩, by rw [zn]; exact wn _ _ _ w3, fun b hb => by rw [zk] at hb; cases hb⟩
    rw [zP, zw, zK, zmg, zb, zA, zo]
    have e0 := I3r.env0
    exact ⟨e0.frames, e0.mod, e0.bs, e0.bsz, e0.funs, e0.frf, e0.hok, e0.bare⟩
  have goes := wake _ H3 (by rw [zR]; exact ⟨σ3, I3r, w3⟩) wk
  have noE : ∀ {α : Type} {t : Sem α} {Q : α → Shared → Prop} {E : Value → Shared → Prop} {s : Shared}, wpAny (model X.prog X.w) X.A t Q X.xe s → wpAny (model X.prog X.w) X.A t Q E s := fun h => wpAny_mono h (fun _ _ q => q) fun e s z => (hx e s z).elim
  refine next_gen (F := Z.F) (Y := Z.Y) (n := n) (I3.ok.hd hc) I3.nolimit hr.depth (isg _ (hgp (a, go) hag).1) hg3 goes (fun v s₁ gs' hb' hsu hat hY => ?_) (fun s₁ hF h' hk => ?_)
  · obtain ⟨i', Hw, H', T, vs, gp', rp, hlen, eo, rfl, nT, eT, sm, os', ba', hok', un', hgp', hag', kap⟩ := hY
    rw [zR] at rp
    obtain ⟨σw, Iw, ww⟩ := rp
    rw [zout] at hlen eo
    rw [zo] at un'
    rw [zP, zw] at hok'
    have hlt : i' < out.length := (List.getElem?_eq_some_iff.mp eo).1
    have ei : i' = i := by omega
    subst ei
    have I4 : Inv X pins σw H' (s₁.setGen gn gs') := Iw.call' (s' := s₁.setGen gn gs') os' un' hok' (allBare_setGen ba' hb') chk
    have hgo4 : (s₁.setGen gn gs').heap.get? a = some go := by
      have := (hgp' (Z.a, Z.go) hag').1
      rw [za, zg] at this
      exact this
    refine go_of (s := s₁.setGen gn gs') hgo4 gc gd (by decide) ?_
    have I5 : Inv X (pins ++ gp') σw H' (s₁.setGen gn gs') := I4.pins_of fun p hp => (List.mem_append.mp hp).elim (fun z => I4.pin p (List.mem_append_right _ z)) fun z => by
      obtain ⟨q1, q2, q3, q4, _⟩ := hgp' p z
      rw [zo] at q3
      exact ⟨q1, q2, fun w => q3 (w ▸ inK.1), fun hb => q3 (inK.2 _ hb), q4⟩
    generalize hs4 : s₁.setGen gn gs' = s4 at I4 I5 hat
    have hT : trapsT s4.gens gn = some gs' := by
      unfold trapsT
      rw [hat]
      simp only [hsu, if_true]
    have R0 := relG_traps s4.gens
    have J4 : Inv X (pins ++ gp') σw H' (wg s4 (s4.gens.map trapOf)) := invGens I5 (bare_traps I5.bare)
    refine wpAny_mono (wpAny_swapped R0 (hg.run _ (wg s4 _) σw H' (.ref T) (.ref T) _ J4 rfl (turn i' vs σw Hw eo ww T H' nT eT sm))) (fun _ s6 ⟨G6, R6, σ6, H6, I6, q6⟩ => ?_) fun e s ⟨_, _, z⟩ => (hx _ _ z).elim
    refine wpAny_mono (wpAny_swapped R6 (hb.run _ (wg s6 G6) σ6 H6 _ I6 q6)) (fun fl s7 ⟨G7, R7, q7⟩ => ?_) fun e s ⟨_, _, z⟩ => (hx _ _ z).elim
    have g7 : s7.gens[gn]? = some gs' := (R7.tr gn gs' hT).1
    have back : ∀ {σ7 : L2.St} {H7 : Hp}, Inv X (pins ++ gp') σ7 H7 (wg s7 G7) → Inv X (pins ++ gp') σ7 H7 s7 := fun I7 => invBack I7 (R7.bare I7.bare)
    have again : ∀ {σ7 : L2.St} {H7 : Hp}, Inv X (pins ++ gp') σ7 H7 (wg s7 G7) → W (i' + 1) σ7 H7 → ∃ m, m < n ∧ ∃ i σ' H' gs gp, Inv X pins σ' H' s7 ∧ W i σ' H' ∧ m + i = out.length + 1 ∧ s7.gens[gn]? = some gs ∧ (∀ p ∈ gp, s7.heap.get? p.1 = some p.2 ∧ H' p.1 = none ∧ p.1 ∉ frs X.stack ∧ ∀ v, p.2.data ≠ .cell v) ∧ (a, go) ∈ gp ∧
        ∀ sw Hw, Z.RP i sw Hw → Wk Z gp sw Hw → gs.Goes (model X.prog X.w) X.A.in1 Z.R Z.Y m (.send .none) sw := fun {σ7 H7} I7' w7 => by
      have I7 := back I7'
      obtain ⟨m, rfl⟩ : ∃ m, n = m + 1 := ⟨n - 1, by omega⟩
      refine ⟨m, Nat.lt_succ_self _, i' + 1, σ7, H7, gs', gp', I7.unpinned, w7, by omega, g7, fun p hp => ?_, by rw [← za, ← zg]; exact hag', kap⟩
      obtain ⟨q1, q2, _⟩ := I7.pin p (List.mem_append_right _ (List.mem_append_right _ hp))
      obtain ⟨_, _, q3, q4, _⟩ := hgp' p hp
      rw [zo] at q3
      exact ⟨q1, q2, q3, q4⟩
    cases fl with
    | next => obtain ⟨σ7, H7, I7, n7⟩ := q7; exact again I7 n7
    | cont => obtain ⟨σ7, H7, I7, n7⟩ := q7; exact again I7 n7
    | brk => obtain ⟨σ7, H7, I7, q7⟩ := q7; exact ⟨σ7, H7, (back I7).unpinned, q7⟩
    | ret v => obtain ⟨x7, σ7, H7, I7, r7, q7⟩ := q7; exact ⟨x7, σ7, H7, (back I7).unpinned, r7, q7⟩
  · obtain ⟨Hw, H', rp, sm, os', ba', hok', un'⟩ := hF
    rw [zR] at rp
    obtain ⟨σw, Iw, ww⟩ := rp
    rw [zout] at ww
    rw [zo] at un'
    rw [zP, zw] at hok'
    have I4 : Inv X pins σw H' (s₁.setGen gn .finished) := Iw.call' (s' := s₁.setGen gn .finished) os' un' hok' (allBare_setGen ba' rfl) chk
    have I5 : Inv X pins σw H' { s₁.setGen gn .finished with heap := h' } := I4.kept (t' := s₁.toks) hk
    exact wpAny_execs_nil ⟨σw, H', I5, fin σw Hw ww H' sm⟩
end MF
set_option Elab.async false
set_option linter.all false
set_option maxRecDepth 100000
set_option maxHeartbeats 1000000
namespace MF
open PySem PySem.Spec PyProof.Rows L2 GenW
def tLcG (tq : TGq) (g : TG) (tt : TT) (te : TE) (vs : List Nat) : TE := fun σ H Q => tq σ H fun out need H1 => ∀ D, H1 D = none → ∃ W : Nat → Hp → Prop, W 0 (upd H1 D (.lst [])) ∧ (∀ i H, W i H → need H ∧ ∃ acc, H D = some (.lst acc)) ∧
  (∀ H, W out.length H → ∀ H', Same H H' → Q (.ref D) H') ∧
  ∀ i xs H, out[i]? = some xs → W i H → ∀ T H', H T = none → H' T = some (.tup xs) → Same H H' → g (.ref T) (wipe σ vs) H' fun σ2 H2 => wipe σ2 vs = wipe σ vs ∧ tt σ2 H2 fun b H3 =>
    if b = true then te σ2 H3 fun y H4 => ∃ acc, H4 D = some (.lst acc) ∧ acc.length < sizeLine ∧ W (i + 1) (upd H4 D (.lst (acc ++ [y]))) else W (i + 1) H3
theorem lcG_core {X : Cx} {pins : List (Addr × Obj)} {s : Shared} {σ : L2.St} {H : Hp} {Q : VK} {elt tg iter : Expr} {ifs : List Expr} {scope : Scope} {own : List (Str × Nat)} {pos pos' : Pos} {tq : TGq} {g : TG} {tt : TT} {te : TE} {use : Option (Value → Sem Unit)} {Qf : Value → Shared → Prop} {k : Nat}
    (hc : X.calm = true) (hr : Room (k + 1) X.A) (hN : X.N.Nodup) (I : Inv X pins σ H s) (hi : PGx X k iter tq) (ok : BlkOk X.N X.env.scope scope own) (hnc : ∀ y ∈ scope.names, y.2 ≠ .cell)
    (hg : ∀ (s : Shared) (H : Hp) (C : Addr) (cl : List (Str × Addr)) (fp : List Addr), PG (X.blk s H scope (compEnvC scope cl C X.env) fp) tg g) (ht : ∀ (s : Shared) (H : Hp) (C : Addr) (cl : List (Str × Addr)) (fp : List Addr), PTs (X.blk s H scope (compEnvC scope cl C X.env) fp) ifs tt)
    (he : ∀ (s : Shared) (H : Hp) (C : Addr) (cl : List (Str × Addr)) (fp : List Addr), PE (X.blk s H scope (compEnvC scope cl C X.env) fp) elt te) (hs : ∀ x, foldedSetIterable iter X.env x = pure x)
    (h : tLcG tq g tt te (own.map (·.2)) σ H Q)
    (hRR : ∀ D C s' m H', Inv X pins σ H' s' → Q (.ref D) H' → s'.heap.Ns C m → FpOk X pins H' C → compPost (model X.prog X.w) X.A X.xe use Qf (.ref D) C (.ok .next) s') :
    wpAny (model X.prog X.w) X.A (comprehension (.ListComp elt [⟨tg, iter, ifs, 0⟩] scope pos) scope X.env pos' (newList []) false (eval iter X.env) use) Qf X.xe s := by
  have hfree : ∀ y ∈ scope.names, y.2 = .free → ∃ c, X.env.cells.lookup y.1 = some c := fun y hy e => by
    rcases ok.free y hy e with k | k
    · exact I.ok.has _ (.inl k)
    · exact I.ok.has _ (.inr k)
  refine wpAny_comprehension_free (use := use) rfl hs (closure_ok hfree) ok.kind (fun y hy e => by rw [ok.uniq y hy, e])
    (thn (hi.run pins s σ H _ I h) fun xv s1 h1 => ?_)
  obtain ⟨H1, sc, out, need, I1, ⟨N, qual, scope', f, cdv, a, gn, go, oL, c, rfl, hla, ea, isg, hgs, eL, dL, dgo, ⟨gc, vs0, gd⟩, os1, ba1, kp1, okZ, sg⟩, nd, q⟩ := h1
  refine wpAny_pyIter_gen (isg _ ea) ?_
  have hin := hr.in1
  have Is1 : Inv X pins σ H1 s1 := I1.call' (ch := []) os1 (Un.kept kp1) (I1.hok.kept kp1) ba1 fun b z => by simp at z
  have fr : ∀ b, sc.heap.objs.size ≤ b → H1 b = none := fun b hb => I1.hok.fresh hb
  refine wpAny_newObj_type (newEnv_comp ?_) (by show 0 ≤ sizeLine; decide)
  generalize hD : s1.heap.objs.size = D
  have hDn : H1 D = none := Is1.hok.fresh (Nat.le_of_eq hD)
  obtain ⟨W, w0, wn, fin, turn⟩ := q D hDn
  generalize hs3 : ({ s1 with heap := s1.heap.push { cls := .type "list", data := .seq ([] : List Value).toArray } } : Shared) = s3
  have I3 : Inv X pins σ (upd H1 D (.lst [])) s3 := by
    rw [← hs3]
    refine Is1.laid (t' := s1.toks) (fun b o e => Heap.get?_push_of_some _ e) (Nat.le_of_eq hD) ⟨Nat.zero_le _, [], 0, .nil, ?_⟩
    rw [← hD]
    exact Heap.get?_push_size _ rfl
  have h3 : s3.heap = s1.heap.push { cls := .type "list", data := .seq ([] : List Value).toArray } := by rw [← hs3]
  have g3 : s3.gens = s1.gens := by rw [← hs3]
  have locL : X.env.locals < sc.heap.objs.size := I1.lt
  have fsL : ∀ b ∈ X.fs, b < sc.heap.objs.size := fun b hb => by
    obtain ⟨_, o, ho, _⟩ := I1.funs.mem hb
    exact Heap.lt_size ho
  have fsK : ∀ b ∈ frs X.stack, b < sc.heap.objs.size := fun b hb => by
    obtain ⟨_, o, ho, _⟩ := I1.env0.funs.mem hb
    exact Heap.lt_size ho
  have cellL : ∀ x c, X.env.cells.lookup x = some c → c < sc.heap.objs.size := fun x c e => by
    obtain ⟨v, q⟩ := I1.cell x c e
    exact q.lt
  have pinL : ∀ p ∈ X.pn ++ pins, p.1 < sc.heap.objs.size := fun p hp => Heap.lt_size (I1.pin p hp).1
  have s0L : X.s_0.heap.objs.size ≤ sc.heap.objs.size := I1.sz
  generalize hfp : ((List.range s3.heap.objs.size).filter fun b => decide (sc.heap.objs.size ≤ b) && !decide (b = D)) = fp
  have mfp : ∀ {b}, b ∈ fp ↔ b < s3.heap.objs.size ∧ sc.heap.objs.size ≤ b ∧ b ≠ D := fun {b} => by
    rw [← hfp, List.mem_filter, List.mem_range, Bool.and_eq_true, decide_eq_true_eq, Bool.not_eq_true', decide_eq_false_iff_not]
  have f3 : ∀ b ∈ fp, FpOk X pins (upd H1 D (.lst [])) b ∧ b < s3.heap.objs.size := fun b hb => by
    obtain ⟨m1, m2, m3⟩ := mfp.mp hb
    refine ⟨⟨by rw [upd_ne m3]; exact fr b m2, Nat.ne_of_gt (Nat.lt_of_lt_of_le locL m2), fun z => absurd (Nat.lt_of_lt_of_le (fsL b z) m2) (Nat.lt_irrefl _), .inr (Nat.le_trans s0L m2), fun x c e => Nat.ne_of_lt (Nat.lt_of_lt_of_le (cellL x c e) m2), fun p hp => Nat.ne_of_lt (Nat.lt_of_lt_of_le (pinL p hp) m2)⟩, m1⟩
  have I4 := block_start I3 ok hN f3
  have pg := hg s3 (upd H1 D (.lst [])) s3.heap.objs.size (cellsFrom (s3.heap.objs.size + 1) scope.names (cloFrom X.env.cells scope.names [])) fp
  have pt := ht s3 (upd H1 D (.lst [])) s3.heap.objs.size (cellsFrom (s3.heap.objs.size + 1) scope.names (cloFrom X.env.cells scope.names [])) fp
  have pe := he s3 (upd H1 D (.lst [])) s3.heap.objs.size (cellsFrom (s3.heap.objs.size + 1) scope.names (cloFrom X.env.cells scope.names [])) fp
  show codeAny _ _ (.compStart (.ListComp elt [⟨tg, iter, ifs, 0⟩] scope pos) 0 (.ref a) (.ref D) (compEnvC scope (cellsFrom (s3.heap.objs.size + 1) scope.names (cloFrom X.env.cells scope.names [])) s3.heap.objs.size X.env)) (compPost (model X.prog X.w) X.A X.xe use Qf (.ref D) s3.heap.objs.size) { s3 with heap := pushCells (s3.heap.push { cls := .type "dict", data := .dict #[] }) scope.names }
  have clB : ∀ x c, (cellsFrom (s3.heap.objs.size + 1) scope.names (cloFrom X.env.cells scope.names [])).lookup x = some c → c < sc.heap.objs.size := fun x c e => by
    rw [cells_none fun y hy => hnc y hy] at e
    rcases cloFrom_mem (PySem.mem_of_lookup e) with z | ⟨z1, z2⟩
    · cases z
    · obtain ⟨c', hc'⟩ := hfree _ z1 rfl
      rw [z2, hc']
      exact cellL _ _ hc'
  generalize hce : compEnvC scope (cellsFrom (s3.heap.objs.size + 1) scope.names (cloFrom X.env.cells scope.names [])) s3.heap.objs.size X.env = ce at I4 pg pt pe ⊢
  have cL : ce.locals = s3.heap.objs.size := by subst hce; rfl
  have cC : ∀ x c, ce.cells.lookup x = some c → c < sc.heap.objs.size := by subst hce; exact clB
  generalize hH3 : upd H1 D (.lst []) = H3 at I3 I4 pg pt pe w0 f3
  have kp4 : ∀ b o, s1.heap.get? b = some o → (pushCells (s3.heap.push { cls := .type "dict", data := .dict #[] }) scope.names).get? b = some o := fun b o e => pushCells_keeps _ _ _ _ (Heap.get?_push_of_some _ (by rw [h3]; exact Heap.get?_push_of_some _ e))
  generalize hs4 : ({ s3 with heap := pushCells (s3.heap.push { cls := .type "dict", data := .dict #[] }) scope.names } : Shared) = s4 at I4 ⊢
  have h4 : s4.heap = pushCells (s3.heap.push { cls := .type "dict", data := .dict #[] }) scope.names := by rw [← hs4]
  have g4 : s4.gens = s1.gens := by rw [← hs4]; exact g3
  generalize hB : X.blk s3 H3 scope ce fp = B at I4 pg pt pe
  generalize hw : wipe σ (own.map (·.2)) = σw at I4
  have O := okZ X.A.in1 (fun i s H => Inv B [] σw H s ∧ W i H) [s3.heap.objs.size] hin.hd
  have sg' := sg X.A.in1 (fun i s H => Inv B [] σw H s ∧ W i H) [s3.heap.objs.size]
  generalize hZ : Gc.mk X.prog X.w X.K X.mg X.base N qual scope' f cdv X.A.in1 X.stack sc.heap.objs.size a go out need (fun i s H => Inv B [] σw H s ∧ W i H) [s3.heap.objs.size] = Z at O sg'
  have zP : Z.P = X.prog := by rw [← hZ]
  have zw : Z.w = X.w := by rw [← hZ]
  have zK : Z.K = X.K := by rw [← hZ]
  have zmg : Z.mg = X.mg := by rw [← hZ]
  have zb : Z.base = X.base := by rw [← hZ]
  have zA : Z.A = X.A.in1 := by rw [← hZ]
  have zo : Z.outer = X.stack := by rw [← hZ]
  have zL : Z.L = sc.heap.objs.size := by rw [← hZ]
  have za : Z.a = a := by rw [← hZ]
  have zg : Z.go = go := by rw [← hZ]
  have zout : Z.out = out := by rw [← hZ]
  have zn : Z.need = need := by rw [← hZ]
  have zk : Z.kp = [s3.heap.objs.size] := by rw [← hZ]
  have zR : Z.RP = (fun i s H => Inv B [] σw H s ∧ W i H) := by rw [← hZ]
  have bP : B.prog = X.prog := by rw [← hB]
  have bw : B.w = X.w := by rw [← hB]
  have bA : B.A = X.A := by rw [← hB]
  have bs : B.stack = X.stack := by rw [← hB]
  have bl : B.env.locals = s3.heap.objs.size := by rw [← hB]; exact cL
  have bx : B.ex = fp := by rw [← hB]
  have bpn : B.pn = [] := by rw [← hB]
  have b0 : B.s_0 = s3 := by rw [← hB]
  have bce : ∀ x c, B.env.cells.lookup x = some c → c < sc.heap.objs.size := by rw [← hB]; exact cC
  have L3 : sc.heap.objs.size ≤ s3.heap.objs.size := by
    rw [h3, Heap.size_push]
    exact Nat.le_succ_of_le (Nat.le_of_lt (Heap.lt_size eL))
  have chk : ∀ {sw : Shared} {Hw : Hp} {pl : List (Addr × Obj)}, (∃ acc, Hw D = some (.lst acc)) → pl = [] → ∀ b ∈ Z.ch sw Hw, (b ∈ B.ex ∨ B.s_0.heap.objs.size ≤ b) ∧ b ≠ B.env.locals ∧ (∀ x c, B.env.cells.lookup x = some c → c ≠ b) ∧ ∀ p ∈ B.pn ++ pl, p.1 ≠ b := fun {sw Hw pl} hd epl b hb => by
    obtain ⟨_, h2, h3', h4'⟩ := Gc.mem_ch.mp hb
    rw [zL] at h2
    rw [zk] at h4'
    subst epl
    refine ⟨?_, by rw [bl]; exact fun z => h4' (by rw [z]; simp), fun x c e => Nat.ne_of_lt (Nat.lt_of_lt_of_le (bce x c e) h2), fun p hp => by rw [bpn] at hp; simp at hp⟩
    rw [bx, b0]
    by_cases z : b < s3.heap.objs.size
    · refine .inl (mfp.mpr ⟨z, h2, fun w => ?_⟩)
      obtain ⟨acc, e⟩ := hd
      rw [← w, h3'] at e
      cases e
    · exact .inr (Nat.le_of_not_lt z)
  subst hB
  subst hw
  have D1 : ∀ b o, s1.heap.get? b = some o → b < D ∧ b < s3.heap.objs.size := fun b o e => by
    have := Heap.lt_size e
    refine ⟨by rw [← hD]; exact this, ?_⟩
    rw [h3, Heap.size_push]
    exact Nat.lt_succ_of_lt this
  have loop : codeAny (model X.prog X.w) X.A (.compLoop (.ListComp elt [⟨tg, iter, ifs, 0⟩] scope pos) 0 (.ref a) (.ref D) ce) (compPost (model X.prog X.w) X.A X.xe use Qf (.ref D) s3.heap.objs.size) s4 := by
    refine compLoop_any (fun n s' => ∃ i H' gs gp, Inv (X.blk s3 H3 scope ce fp) [] (wipe σ (own.map (·.2))) H' s' ∧ W i H' ∧ n + i = out.length + 1 ∧ s'.gens[gn]? = some gs ∧ (∀ p ∈ gp, s'.heap.get? p.1 = some p.2 ∧ H' p.1 = none ∧ p.1 ∉ frs X.stack ∧ (∀ v, p.2.data ≠ .cell v) ∧ p.1 ≠ s3.heap.objs.size) ∧ (a, go) ∈ gp ∧
      ∀ sw Hw, Z.RP i sw Hw → Wk Z gp sw Hw → gs.Goes (model X.prog X.w) X.A.in1 Z.R Z.Y n (.send .none) sw) ?_ (out.length + 1) ⟨0, H3, .fresh c, [(sc.heap.objs.size, oL), (a, go)], I4, w0, rfl, by rw [g4]; exact hgs, fun p hp => ?_, by simp, fun sw Hw rp wk => ?_⟩
    rotate_left
    · have own1 : ∀ b o, s1.heap.get? b = some o → sc.heap.objs.size ≤ b → (∀ v, o.data ≠ .cell v) → s4.heap.get? b = some o ∧ H3 b = none ∧ b ∉ frs X.stack ∧ (∀ v, o.data ≠ .cell v) ∧ b ≠ s3.heap.objs.size := fun b o e hl hd => by
        obtain ⟨d1, d2⟩ := D1 b o e
        exact ⟨by rw [h4]; exact kp4 b o e, by rw [← hH3, upd_ne (Nat.ne_of_lt d1)]; exact fr b hl, (fun hb => absurd (Nat.lt_of_lt_of_le (fsK _ hb) hl) (Nat.lt_irrefl _)), hd, Nat.ne_of_lt d2⟩
      rcases List.mem_cons.mp hp with z | hp
      · rw [z]
        exact own1 _ _ eL (Nat.le_refl _) dL
      · rw [List.mem_singleton.mp hp]
        exact own1 _ _ ea (Nat.le_of_lt hla) dgo
    · rw [← hZ] at rp wk
      exact ⟨rfl, by rw [← hZ]; exact sg X.A.in1 _ _ sw Hw hin I1.ok.frames rp wk⟩
    rintro n s5 ⟨i, H5, gs, gp, I5, w5, hn, hg5, hgp, hag, wake⟩
    have b5 : AllBare (s5.setGen gn .running).gens := allBare_setGen I5.bare rfl
    have I5r : Inv (X.blk s3 H3 scope ce fp) [] (wipe σ (own.map (·.2))) H5 (s5.setGen gn .running) := invGens I5 b5
    have wk : Wk Z gp (s5.setGen gn .running) H5 := by
      refine ⟨?_, fun p hp => ⟨(hgp p hp).1, (hgp p hp).2.1⟩, by rw [zn]; exact (wn _ _ w5).1, fun b hb => ?_⟩
      · rw [zP, zw, zK, zmg, zb, zA, zo]
        have e0 := I5r.env0
        exact ⟨e0.frames, e0.mod, e0.bs, e0.bsz, e0.funs, e0.frf, e0.hok, e0.bare⟩
      · rw [zk] at hb
        have eb := List.mem_singleton.mp hb
        subst eb
        obtain ⟨m, ⟨o, es, ep, ho, dd, rr⟩, _⟩ := id I5r.loc
        have ho' : (s5.setGen gn .running).heap.get? ce.locals = some o := ho
        rw [cL] at ho'
        have fe : H5 ce.locals = none := I5.free
        rw [cL] at fe
        refine ⟨⟨?_, ?_⟩, ?_, fe, o, ho', fun v y => by rw [dd] at y; cases y⟩
        · rw [zL]
          exact Nat.ne_of_gt (D1 _ _ eL).2
        · rw [za]
          exact Nat.ne_of_gt (D1 _ _ ea).2
        · rw [zo]
          exact fun z => absurd (Nat.lt_of_lt_of_le (fsK _ z) L3) (Nat.lt_irrefl _)
    have goes := wake _ H5 (by rw [zR]; exact ⟨I5r, w5⟩) wk
    refine next_gen (F := Z.F) (Y := Z.Y) (n := n) (I3.ok.hd hc) I5.nolimit hr.depth (isg _ (hgp (a, go) hag).1) hg5 goes (fun v s₁ gs' hb' hsu hat hY => ?_) (fun s₁ hF h' hk => ?_)
    · obtain ⟨i', Hw, H', T, vs, gp', rp, hlen, eo, rfl, nT, eT, sm, os', ba', hok', un', hgp', hag', kap⟩ := hY
      rw [zR] at rp
      obtain ⟨Iw, ww⟩ := rp
      rw [zout] at hlen eo
      rw [zo] at un'
      rw [zP, zw] at hok'
      have hlt : i' < out.length := (List.getElem?_eq_some_iff.mp eo).1
      have ei : i' = i := by omega
      subst ei
      have hdw := (wn _ _ ww).2
      have I6 : Inv (X.blk s3 H3 scope ce fp) [] (wipe σ (own.map (·.2))) H' (s₁.setGen gn gs') := Iw.call' (s' := s₁.setGen gn gs') os' un' hok' (allBare_setGen ba' hb') (chk hdw rfl)
      have hgo6 : (s₁.setGen gn gs').heap.get? a = some go := by
        have := (hgp' (Z.a, Z.go) hag').1
        rw [za, zg] at this
        exact this
      refine go_of (s := s₁.setGen gn gs') hgo6 gc gd (by decide) ?_
      have I7 : Inv (X.blk s3 H3 scope ce fp) ([] ++ gp') (wipe σ (own.map (·.2))) H' (s₁.setGen gn gs') := I6.pins_of fun p hp => by
        rw [List.nil_append] at hp
        obtain ⟨q1, q2, q3, q4, q5⟩ := hgp' p hp
        rw [zo] at q3
        rw [zk] at q5
        refine ⟨q1, q2, ?_, q3, q4⟩
        show p.1 ≠ ce.locals
        rw [cL]
        exact fun z => q5 (by rw [z]; simp)
      generalize hs6 : s₁.setGen gn gs' = s6 at I6 I7 hat
      have hT : trapsT s6.gens gn = some gs' := by
        unfold trapsT
        rw [hat]
        simp only [hsu, if_true]
      have R0 := relG_traps s6.gens
      have J6 : Inv (X.blk s3 H3 scope ce fp) ([] ++ gp') (wipe σ (own.map (·.2))) H' (wg s6 (s6.gens.map trapOf)) := invGens I7 (bare_traps I7.bare)
      have fin' : ∀ {σ8 : L2.St} {s' : Shared} {G' : Array GenState} {H9 : Hp}, s'.gens[gn]? = some gs' → AllBare s'.gens → wipe σ8 (own.map (·.2)) = wipe σ (own.map (·.2)) → Inv (X.blk s3 H3 scope ce fp) ([] ++ gp') σ8 H9 (wg s' G') → W (i' + 1) H9 → ∃ m, m < n ∧ ∃ i H' gs gp, Inv (X.blk s3 H3 scope ce fp) [] (wipe σ (own.map (·.2))) H' s' ∧ W i H' ∧ m + i = out.length + 1 ∧ s'.gens[gn]? = some gs ∧ (∀ p ∈ gp, s'.heap.get? p.1 = some p.2 ∧ H' p.1 = none ∧ p.1 ∉ frs X.stack ∧ (∀ v, p.2.data ≠ .cell v) ∧ p.1 ≠ s3.heap.objs.size) ∧ (a, go) ∈ gp ∧
          ∀ sw Hw, Z.RP i sw Hw → Wk Z gp sw Hw → gs.Goes (model X.prog X.w) X.A.in1 Z.R Z.Y m (.send .none) sw := fun {σ8 s' G' H9} hgs' hba hw8 I9' w9 => by
        have I9 := invBack I9' hba
        obtain ⟨m, rfl⟩ : ∃ m, n = m + 1 := ⟨n - 1, by omega⟩
        have hl : (wipe σ (own.map (·.2))).length = σ8.length := by rw [← hw8, wipe_length]
        refine ⟨m, Nat.lt_succ_self _, i' + 1, H9, gs', gp', (I9.unpinned (pins := [])).weak hl (fun j v e => ?_), w9, by omega, hgs', fun p hp => ?_, by rw [← za, ← zg]; exact hag', kap⟩
        · rw [← hw8] at e
          exact (wipe_some e).1
        · obtain ⟨q1, q2, _⟩ := I9.pin p (List.mem_append_right _ (List.mem_append_right _ hp))
          obtain ⟨_, _, q3, q4, q5⟩ := hgp' p hp
          rw [zo] at q3
          rw [zk] at q5
          exact ⟨q1, q2, q3, q4, fun z => q5 (by rw [z]; simp)⟩
      refine wpAny_mono (wpAny_swapped R0 (pg.run _ (wg s6 _) _ H' (.ref T) (.ref T) _ J6 rfl (turn i' vs Hw eo ww T H' nT eT sm))) (fun _ s8 ⟨G8, R8, σ8, H8, I8, hw8, q8⟩ => ?_) fun e s ⟨_, _, z⟩ => z.elim
      refine wpAny_mono (wpAny_swapped R8 (pt.run _ (wg s8 G8) σ8 H8 _ I8 q8)) (fun b s9 ⟨G9, R9, H9, I9, q9⟩ => ?_) fun e s ⟨_, _, z⟩ => z.elim
      cases b with
      | false =>
        simp only [Bool.false_eq_true, if_false] at q9 ⊢
        exact fin' (R9.tr gn gs' hT).1 (R9.bare I9.bare) hw8 I9 q9
      | true =>
        simp only [if_true] at q9 ⊢
        refine wpAny_mono (wpAny_swapped R9 (pe.run _ (wg s9 G9) σ8 H9 _ I9 q9)) (fun z s10 ⟨G10, R10, yv, H10, I10, r10, acc, hD10, hz10, nx⟩ => ?_) fun e s ⟨_, _, z⟩ => z.elim
        refine wpAny_mono (wpAny_swapped (E := fun _ _ => False) R10 (app_ok (X := X.blk s3 H3 scope ce fp) I10 hD10 hz10 r10 (Q := fun _ s' => Inv (X.blk s3 H3 scope ce fp) ([] ++ gp') σ8 (upd H10 D (.lst (acc ++ [yv]))) s') fun s11 I11 => I11)) (fun _ s11 ⟨G11, R11, I11⟩ => ?_) fun e s ⟨_, _, z⟩ => z.elim
        exact fin' (R11.tr gn gs' hT).1 (R11.bare I11.bare) hw8 I11 nx
    · obtain ⟨Hw, H', rp, sm, os', ba', hok', un'⟩ := hF
      rw [zR] at rp
      obtain ⟨Iw, ww⟩ := rp
      rw [zout] at ww
      rw [zo] at un'
      rw [zP, zw] at hok'
      have I6 : Inv (X.blk s3 H3 scope ce fp) [] (wipe σ (own.map (·.2))) H' (s₁.setGen gn .finished) := Iw.call' (s' := s₁.setGen gn .finished) os' un' hok' (allBare_setGen ba' rfl) (chk (wn _ _ ww).2 rfl)
      have I7 : Inv (X.blk s3 H3 scope ce fp) [] (wipe σ (own.map (·.2))) H' { s₁.setGen gn .finished with heap := h' } := I6.kept (t' := s₁.toks) hk
      have I8 : Inv X pins σ H' { s₁.setGen gn .finished with heap := h' } := I3.call' (ch := fp) I7.os I7.base I7.hok I7.bare fun b hb => ⟨(f3 b hb).1.2.2.2.1, (f3 b hb).1.2.1, (f3 b hb).1.2.2.2.2.1, (f3 b hb).1.2.2.2.2.2⟩
      have nC : H' s3.heap.objs.size = none := by
        have z : H' ce.locals = none := I7.free
        rw [cL] at z
        exact z
      obtain ⟨m, hn', _⟩ := I7.loc
      have hn' : (({ s₁.setGen gn .finished with heap := h' } : Shared)).heap.Ns ce.locals m := hn'
      rw [cL] at hn'
      exact hRR D s3.heap.objs.size _ m H' I8 (fin Hw ww H' sm) hn' (I3.fpOk (Nat.le_refl _) nC)
  exact codeAny_compStart_list loop (wpAny_pyIter_gen (isg _ (by rw [h4]; exact kp4 _ _ ea)) loop)
theorem pe_lcG {X : Cx} {elt tg iter : Expr} {ifs : List Expr} {scope : Scope} {own : List (Str × Nat)} {pos : Pos} {tq : TGq} {g : TG} {tt : TT} {te : TE} {k : Nat} (hc : X.calm = true) (hr : Room (k + 1) X.A) (hN : X.N.Nodup) (hi : PGx X k iter tq) (ok : BlkOk X.N X.env.scope scope own) (hnc : ∀ y ∈ scope.names, y.2 ≠ .cell)
    (hg : ∀ (s : Shared) (H : Hp) (C : Addr) (cl : List (Str × Addr)) (fp : List Addr), PG (X.blk s H scope (compEnvC scope cl C X.env) fp) tg g) (ht : ∀ (s : Shared) (H : Hp) (C : Addr) (cl : List (Str × Addr)) (fp : List Addr), PTs (X.blk s H scope (compEnvC scope cl C X.env) fp) ifs tt)
    (he : ∀ (s : Shared) (H : Hp) (C : Addr) (cl : List (Str × Addr)) (fp : List Addr), PE (X.blk s H scope (compEnvC scope cl C X.env) fp) elt te) (hs : ∀ x, foldedSetIterable iter X.env x = pure x := by intro _; rfl) :
    PE X (.ListComp elt [⟨tg, iter, ifs, 0⟩] scope pos) (tLcG tq g tt te (own.map (·.2))) := by
  refine ⟨fun pins s σ H Q I h => ?_⟩
  rw [eval_ListComp]
  refine lcG_core hc hr hN I hi ok hnc hg ht he hs h fun D C s' m H' I' q hn f => ⟨m, hn, fun h'' sb => ?_⟩
  obtain ⟨f0, f1, f2, f3, f4, f5⟩ := f
  exact ⟨.ref D, H', I'.turned (t' := s'.toks) (fun b o hb e => (sb.2 b hb).trans e) f0 f1 f3 f4 f5, rfl, q⟩
theorem ps_setLcG {X : Cx} {i : Nat} {y : Str} {py : Pos} {elt tg iter : Expr} {ifs : List Expr} {scope : Scope} {own : List (Str × Nat)} {pos spos : Pos} {tq : TGq} {g : TG} {tt : TT} {te : TE} {k : Nat} (hc : X.calm = true) (hr : Room (k + 1) X.A) (hN : X.N.Nodup) (hy : X.N[i]? = some y) (hyl : X.env.scope.names.lookup y = some .local)
    (hsw : swapsWith (.ListComp elt [⟨tg, iter, ifs, 0⟩] scope pos) (some (.Name y py)) spos.line X.env = pure true) (hi : PGx X k iter tq) (ok : BlkOk X.N X.env.scope scope own) (hnc : ∀ y ∈ scope.names, y.2 ≠ .cell)
    (hg : ∀ (s : Shared) (H : Hp) (C : Addr) (cl : List (Str × Addr)) (fp : List Addr), PG (X.blk s H scope (compEnvC scope cl C X.env) fp) tg g) (ht : ∀ (s : Shared) (H : Hp) (C : Addr) (cl : List (Str × Addr)) (fp : List Addr), PTs (X.blk s H scope (compEnvC scope cl C X.env) fp) ifs tt)
    (he : ∀ (s : Shared) (H : Hp) (C : Addr) (cl : List (Str × Addr)) (fp : List Addr), PE (X.blk s H scope (compEnvC scope cl C X.env) fp) elt te) (hs : ∀ x, foldedSetIterable iter X.env x = pure x := by intro _; rfl) :
    PS X (.Assign [.Name y py] (.ListComp elt [⟨tg, iter, ifs, 0⟩] scope pos) spos) (tAsg (tLcG tq g tt te (own.map (·.2))) (gName i)) := by
  refine ⟨fun pins s σ H D I h => ?_⟩
  rw [exec_Assign_Name_used _ _ _ _ hsw]
  refine wpAny_bind (wpAny_standAt (wpAny_bind ?_))
  show wpAny _ X.A (do let _ ← comprehension (.ListComp elt [⟨tg, iter, ifs, 0⟩] scope pos) scope X.env (firstIterPos [⟨tg, iter, ifs, 0⟩] pos) (newList []) false (eval iter X.env) (some (assign (.Name y py) X.env))) _ _ s
  have h : tLcG tq g tt te (own.map (·.2)) σ H (fun x H1 => gName i x σ H1 D.nx) := h
  refine wpAny_bind (thn (lcG_core (Qf := fun _ s' => SP X pins D .next s') hc hr hN I hi ok hnc hg ht he hs h fun L C s' m H' I' q hn f => ?_) fun _ s' hq => wpAny_pure (wpAny_pure hq))
  show wpAny _ _ (assign (.Name y py) X.env (.ref L)) _ _ _
  refine wpAny_assign_Name (store_ok2 (v := V.ref L) I' hN hy (.inl hyl) rfl (fun s2 I2 ⟨a, sb, ha⟩ => ?_) (.inr hyl))
  obtain ⟨f0, f1, f2, f3, f4, f5⟩ := f
  have haC : C ≠ a := by
    rcases ha with z | z
    · rw [z]; exact f1
    · exact fun e => f4 y a z e.symm
  refine ⟨m, hn.sameBut sb haC, fun h3 sb3 => ?_⟩
  exact ⟨_, H', I2.turned (t' := s2.toks) (fun b o hb e => (sb3.2 b hb).trans e) f0 f1 f3 f4 f5, q⟩
end MF
set_option Elab.async false
set_option linter.all false
set_option maxRecDepth 100000
set_option maxHeartbeats 1000000
namespace MF
open PySem GenW
open Sem (wp)
def Hole (b : Addr) (h : Heap) : Prop := b < h.objs.size ∧ h.get? b = none
theorem Hole.push {b : Addr} {h : Heap} {o : Obj} (x : Hole b h) : Hole b (h.push o) := by
  obtain ⟨objs, l⟩ := h
  obtain ⟨h1, h2⟩ := x
  refine ⟨?_, ?_⟩
  · show b < (objs.push o).size
    rw [Array.size_push]
    exact Nat.lt_succ_of_lt h1
  · have e : (objs.push o)[b]? = objs[b]? := by
      rw [Array.getElem?_push, if_neg (Nat.ne_of_lt h1)]
    show (match (objs.push o)[b]? with | some ⟨_, _, .freed, _⟩ => none | o => o) = none
    rw [e]
    exact h2
theorem Hole.update {a b : Addr} {h : Heap} {f : Obj → Obj} (x : Hole b h) (ha : h.get? a ≠ none) : Hole b (h.update a f) := by
  have ne : a ≠ b := fun z => ha (by rw [z]; exact x.2)
  refine ⟨?_, ?_⟩
  · obtain ⟨objs, l⟩ := h
    show b < (objs.modify a f).size
    rw [Array.size_modify]
    exact x.1
  · obtain ⟨objs, l⟩ := h
    have e : (objs.modify a f)[b]? = objs[b]? := by
      rw [Array.getElem?_modify, if_neg ne]
    show (match (objs.modify a f)[b]? with | some ⟨_, _, .freed, _⟩ => none | o => o) = none
    rw [e]
    exact x.2
theorem Hole.upd' {a b : Addr} {h : Heap} {f : Obj → Obj} (x : Hole b h) (ha : (h.get? a).isSome = true) : Hole b (h.update a f) := x.update fun z => by rw [z] at ha; cases ha
theorem runs_hole {M : Model} {Γ : Ctx} {p : Pos} {t : Sem PySem.Fin} {fs : List Frame} {s s' : Shared} {e : End} {b : Addr} (h : Runs M Γ p t fs s e s') : Hole b s.heap → Hole b s'.heap := by
  induction h <;> intro hb <;> (first | exact hb | (rename_i ih; exact ih hb) | (rename_i ih; exact ih hb.push) | (rename_i hs _ ih; exact ih (hb.upd' hs)) | (rename_i ih1 ih2; exact ih2 (ih1 hb)))
theorem returns_hole {M : Model} {Γ : Ctx} {p : Pos} {s s' : Shared} {r : Result} {b : Addr} (h : Returns M Γ p s r s') (hb : Hole b s.heap) : Hole b s'.heap := runs_hole h hb
theorem wakes_hole {M : Model} {Γ : Ctx} {p : Pos} {g : Nat} {r : Resume} {s s' : Shared} {res : GenResult} {b : Addr} (h : Wakes M Γ p g r s res s') (hb : Hole b s.heap) : Hole b s'.heap := by
  unfold Wakes at h
  split at h
  · exact h.elim
  · split at h
    · obtain ⟨e₁, s₁, hr, _, _, rfl⟩ := h
      have z := runs_hole (s := s.setGen g .running) hr hb
      exact z
    · rw [h.2]; exact hb
    · rw [h.2]; exact hb
  · obtain ⟨e₁, s₁, hr, _, _, rfl⟩ := h
    have z := runs_hole (s := s.setGen g .running) hr hb
    exact z
  · rw [h.2]; exact hb
  · rw [h.2]; exact hb
theorem wpAny_holes {α : Type} {M : Model} {A : Around} {s : Shared} {t : Sem α} {Q : α → Shared → Prop} {E : Value → Shared → Prop} (h : wpAny M A t Q E s) : wpAny M A t (fun a s' => Q a s' ∧ ∀ b, Hole b s.heap → Hole b s'.heap) E s := by
  intro Γ p hΓ
  have h1 := h Γ p hΓ
  have key : ∀ {β : Type} (t : Sem β) (Q : β → Pos → Shared → Prop) (E : Value → Pos → Shared → Prop) (p : Pos) (s0 s : Shared), (∀ b, Hole b s0.heap → Hole b s.heap) → wp M Γ t Q E p s → wp M Γ t (fun a p' s' => Q a p' s' ∧ ∀ b, Hole b s0.heap → Hole b s'.heap) E p s := by
    intro β t
    induction t with
    | pure a => intro Q E p s0 s hn h; exact ⟨h, hn⟩
    | raise e => intro Q E p s0 s hn h; exact h
    | unsupported _ => intro Q E p s0 s _ h; exact h
    | finish _ => intro Q E p s0 s _ h; exact h
    | rule _ k ih => intro Q E p s0 s hn h; exact ih () Q E p s0 s hn h
    | «at» p' k ih => intro Q E p s0 s hn h; exact ih () Q E p' s0 s hn h
    | load a _ k ih => intro Q E p s0 s hn h; obtain ⟨o, ho, h⟩ := h; exact ⟨o, ho, ih o Q E p s0 s hn h⟩
    | update a _ f k ih => intro Q E p s0 s hn h; exact ⟨h.1, ih () Q E p s0 _ (fun b z => (hn b z).upd' h.1) h.2⟩
    | loadIfAlive a k ih => intro Q E p s0 s hn h; exact ih _ Q E p s0 s hn h
    | point _ k ih => intro Q E p s0 s hn h; exact ih () Q E p s0 s hn h
    | register _ _ => intro Q E p s0 s _ h; exact h
    | alloc o k ih => intro Q E p s0 s hn h; exact ih _ Q E p s0 _ (fun b z => (hn b z).push) h
    | fresh k ih => intro Q E p s0 s hn h; exact ih _ Q E p s0 _ hn h
    | ask k ih => intro Q E p s0 s hn h; exact ih _ Q E p s0 s hn h
    | choose src m k ih => intro Q E p s0 s hn h; exact ⟨h.1, ih _ Q E p s0 _ hn h.2⟩
    | os q _ k ih => intro Q E p s0 s hn h; exact ih _ Q E p s0 _ hn h
    | call c hd _ _ k ih => intro Q E p s0 s hn h; obtain ⟨r, s', hr, h⟩ := h; exact ⟨r, s', hr, ih r Q E p s0 s' (fun b z => returns_hole hr (hn b z)) h⟩
    | handled own k ih => intro Q E p s0 s hn h; exact ih _ Q E p s0 s hn h
    | genState g k ih => intro Q E p s0 s hn h; obtain ⟨st, hs, h⟩ := h; exact ⟨st, hs, ih _ Q E p s0 s hn h⟩
    | newGen c k ih => intro Q E p s0 s hn h; exact ih _ Q E p s0 _ hn h
    | resume g r _ k ih => intro Q E p s0 s hn h; obtain ⟨res, s', hw, h⟩ := h; exact ⟨res, s', hw, ih res Q E p s0 s' (fun b z => wakes_hole hw (hn b z)) h⟩
    | yield _ _ _ _ => intro Q E p s0 s _ h; exact h
    | stack k ih => intro Q E p s0 s hn h; exact ih _ Q E p s0 s hn h
    | fork _ _ => intro Q E p s0 s _ h; exact h
    | thread k ih => intro Q E p s0 s hn h; exact ih _ Q E p s0 s hn h
    | await _ _ _ _ _ => intro Q E p s0 s _ h; exact h
  exact key t _ _ p s s (fun b z => z) h1
end MF
set_option Elab.async false
set_option linter.all false
set_option maxRecDepth 100000
set_option maxHeartbeats 1000000
namespace MF
open PySem PySem.Spec PyProof.Rows L2 GenW
def hide (hid : List Addr) (H : Hp) : Hp := fun b => if b ∈ hid then none else H b
def unhide (hid : List Addr) (H Hw : Hp) : Hp := fun b => if b ∈ hid then H b else Hw b
theorem hide_in {hid : List Addr} {H : Hp} {b : Addr} (h : b ∈ hid) : hide hid H b = none := if_pos h
theorem hide_out {hid : List Addr} {H : Hp} {b : Addr} (h : b ∉ hid) : hide hid H b = H b := if_neg h
theorem unhide_in {hid : List Addr} {H Hw : Hp} {b : Addr} (h : b ∈ hid) : unhide hid H Hw b = H b := if_pos h
theorem unhide_out {hid : List Addr} {H Hw : Hp} {b : Addr} (h : b ∉ hid) : unhide hid H Hw b = Hw b := if_neg h
theorem hide_none {hid : List Addr} {H : Hp} {b : Addr} (h : H b = none) : hide hid H b = none := by
  by_cases c : b ∈ hid
  · exact hide_in c
  · rw [hide_out c]; exact h
def Hidable (hid : List Addr) (H : Hp) (b : Addr) : Prop := (∃ C dx fs, H b = some (.ins C dx fs) ∧ dx ∈ hid) ∨ (∃ x C fs, H b = some (.own x) ∧ x ∈ hid ∧ H x = some (.ins C b fs)) ∨ ∃ kvs, H b = some (.dK kvs)
theorem Hidable.ex {hid : List Addr} {H : Hp} {b : Addr} (h : Hidable hid H b) : ∃ o, H b = some o := by
  rcases h with ⟨_, _, _, h, _⟩ | ⟨_, _, _, h, _⟩ | ⟨_, h⟩
  · exact ⟨_, h⟩
  · exact ⟨_, h⟩
  · exact ⟨_, h⟩
theorem Hidable.nocell {P : Program} {w : World} {hid : List Addr} {H : Hp} {h : Heap} {b : Addr} {o : Obj} (x : Hidable hid H b) (hok : HOk P w H h) (e : h.get? b = some o) : ∀ v, o.data ≠ .cell v := by
  rcases x with ⟨C, dx, fs, q, _⟩ | ⟨x, C, fs, q, _, q2⟩ | ⟨kvs, q⟩
  · obtain ⟨_, _, _, e2, _⟩ := hok _ _ q
    rw [e] at e2
    cases e2
    intro v z
    cases z
  · obtain ⟨_, _, _, _, mA, hn, _⟩ := hok _ _ q2
    obtain ⟨ob, es, ep, e2, d, _⟩ := hn
    rw [e] at e2
    cases e2
    intro v z
    rw [d] at z
    cases z
  · obtain ⟨_, _, vs, _, ob, es, ep, e2, _, d, _⟩ := hok _ _ q
    rw [e] at e2
    cases e2
    intro v z
    rw [d] at z
    cases z
theorem hok_hide {P : Program} {w : World} {hid : List Addr} {H : Hp} {h : Heap} (hok : HOk P w H h) (hh : ∀ b ∈ hid, Hidable hid H b) : HOk P w (hide hid H) h := fun b o e => by
  have nb : b ∉ hid := fun z => by rw [hide_in z] at e; cases e
  rw [hide_out nb] at e
  refine (hok b o e).stay (fun _ _ _ y => y) (fun c hc => ?_) fun c xs hc => ?_
  · rw [hide_out fun z => ?_]
    · exact hc
    · rcases hh c z with ⟨_, _, _, q, _⟩ | ⟨x, _, _, q, hx, _⟩ | ⟨_, q⟩
      · rw [hc] at q; cases q
      · rw [hc] at q; cases q; exact nb hx
      · rw [hc] at q; cases q
  · rw [hide_out fun z => ?_]
    · exact hc
    · rcases hh c z with ⟨_, _, _, q, _⟩ | ⟨x, _, _, q, hx, _⟩ | ⟨_, q⟩
      · rw [hc] at q; cases q
      · rw [hc] at q; cases q
      · rw [hc] at q; cases q
theorem hok_unhide {P : Program} {w : World} {hid : List Addr} {H Hw : Hp} {h h' : Heap} (hok : HOk P w H h) (hh : ∀ b ∈ hid, Hidable hid H b) (hw : HOk P w Hw h') (hn : ∀ b ∈ hid, Hw b = none) (k : ∀ b ∈ hid, ∀ o, h.get? b = some o → h'.get? b = some o) : HOk P w (unhide hid H Hw) h' := fun b o e => by
  by_cases c : b ∈ hid
  · rw [unhide_in c] at e
    have x := hok b o e
    rcases hh b c with ⟨C, dx, fs, q, hx⟩ | ⟨y, _, _, q, hx, _⟩ | ⟨kvs, q⟩
    · rw [e] at q
      cases q
      obtain ⟨x1, x2, x3, x4, mA, ⟨ob, es, ep, x5, x6⟩, x7⟩ := x
      exact ⟨by rw [unhide_in hx]; exact x1, x2, x3, k b c _ x4, mA, ⟨ob, es, ep, k dx hx _ x5, x6⟩, x7⟩
    · rw [e] at q
      cases q
      obtain ⟨ob, x1⟩ := x
      exact ⟨ob, k b c _ x1⟩
    · rw [e] at q
      cases q
      obtain ⟨x1, x2, vs, x3, ob, es, ep, x4, x5⟩ := x
      exact ⟨x1, x2, vs, x3, ob, es, ep, k b c _ x4, x5⟩
  · rw [unhide_out c] at e
    refine (hw b o e).stay (fun _ _ _ y => y) (fun d hd => ?_) fun d xs hd => ?_
    · rw [unhide_out fun z => by rw [hn d z] at hd; cases hd]
      exact hd
    · rw [unhide_out fun z => by rw [hn d z] at hd; cases hd]
      exact hd
variable {Z : Gc}
def Gc.SH (Z : Gc) (s₀ : Shared) (i : Nat) (ip : List (Addr × Obj)) (hid : List Addr) (σ : L2.St) (H : Hp) (s : Shared) : Prop :=
  ∃ Hw, Inv (Z.cx s₀ Hw) ip σ H s ∧ Z.RP i s₀ Hw ∧ Same Hw H ∧ Z.need H ∧ Z.Lk s₀ ∧ (∀ b ∈ hid, Hw b = none) ∧ ∀ b, Hole b s₀.heap → Hole b s.heap
abbrev TGw := (Nat → List Addr → L2.St → Hp → Prop) → Nat → List Addr → L2.St → Hp → Prop
structure GW (Z : Gc) (st : List Stmt) (t : TGw) : Prop where
  run : ∀ (c : Code) (fs : List Frame) (K : Flow → Sem PySem.Fin) (J : Value → Sem PySem.Fin) (gd : Bool → Bool) (lv : List Value → List Value) (ip : List (Addr × Obj)) (nx : Nat → List Addr → L2.St → Hp → Prop), Gp Z c fs gd → (∀ p ∈ ip, Z.L ≤ p.1 ∧ p.1 ∉ Z.kp) →
    (∀ (i n : Nat) (s₀ s : Shared) (hid : List Addr) (σ : L2.St) (H : Hp), n + i = Z.out.length + 1 → Z.SH s₀ i ip hid σ H s → nx i hid σ H → Seg (model Z.P Z.w) Z.A Z.R Z.Y n s₀ c (K .next) fs s) →
    ∀ (i n : Nat) (s₀ s : Shared) (hid : List Addr) (σ : L2.St) (H : Hp), n + i = Z.out.length + 1 → Z.SH s₀ i ip hid σ H s → t nx i hid σ H → Seg (model Z.P Z.w) Z.A Z.R Z.Y n s₀ c ((execs st Z.env).wrap K J gd lv) fs s
theorem gw_nil : GW Z [] (fun nx i hid σ H => nx i hid σ H) := ⟨fun c fs K J gd lv ip nx _ _ hk i n s₀ s hid σ H hn si h => seg_execs_nil (hk i n s₀ s hid σ H hn si h)⟩
def SameBut (hid : List Addr) (H H' : Hp) : Prop := ∀ b u, H b = some u → b ∉ hid → H' b = some u
def tWP (Z : Gc) (tp : TS) (tr : TGw) : TGw := fun nx i hid σ H => tp { nx := fun σ' H' => SameBut hid H H' ∧ Z.need H' ∧ ∃ hid', (∀ b ∈ hid', b ∈ hid ∨ H b = none) ∧ tr nx i hid' σ' H', rt := fun _ _ => False } σ H
theorem gw_ps {st : Stmt} {rest : List Stmt} {tp : TS} {tr : TGw} (h : ∀ s₀ Hw, PS (Z.cx s₀ Hw) st tp) (r : GW Z rest tr) : GW Z (st :: rest) (tWP Z tp tr) := by
  refine ⟨fun c fs K J gd lv ip nx gp hip hk i n s₀ s hid σ H hn si ht => ?_⟩
  obtain ⟨Hw, I, rp, sm, nd, hL, hh, hol⟩ := si
  refine seg_execs_cons (seg_wrap ?_)
  rw [gp.over]
  refine wpAny_mono (wpAny_holes ((h s₀ Hw).run ip s σ H _ I ht)) (fun f s' hs => ?_) fun _ _ z => z.elim
  obtain ⟨hs, hol'⟩ := hs
  cases f with
  | next =>
    obtain ⟨σ', H', I', sm', nd', hid', hh', q⟩ := hs
    refine r.run c fs K J gd lv ip nx gp hip hk i n s₀ s' hid' σ' H' hn ⟨Hw, I', rp, fun b u e => sm' b u (sm b u e) (fun z => by rw [hh b z] at e; cases e), nd', hL, fun b hb => ?_, fun b z => hol' b (hol b z)⟩ q
    rcases hh' b hb with z | z
    · exact hh b z
    · exact same_free sm z
  | brk => obtain ⟨_, _, _, q⟩ := hs; exact q.elim
  | cont => obtain ⟨_, _, _, q⟩ := hs; exact q.elim
  | ret u => obtain ⟨_, _, _, _, _, q⟩ := hs; exact q.elim
def tWY (Z : Gc) (te : TE) (tr : TGw) : TGw := fun nx i hid σ H => i < Z.out.length ∧ te σ H fun x H3 => Same H H3 ∧ ∃ (T : Addr) (vs : List V), x = .ref T ∧ Z.out[i]? = some vs ∧ H T = none ∧ H3 T = some (.tup vs) ∧ (∀ b ∈ hid, Hidable hid H3 b) ∧
  ∀ Hw', Z.need Hw' → (∀ b ∈ hid, Hw' b = none) → tr nx (i + 1) hid σ (unhide hid H3 Hw')
theorem gw_yield {O : Z.Ok} {e : Expr} {yp ep : Pos} {te : TE} {rest : List Stmt} {tr : TGw} (he : ∀ s₀ Hw, PE (Z.cx s₀ Hw) e te) (r : GW Z rest tr) (hco : Z.env.scope.isCoroutine = false) (hint : interactive Z.env = false) :
    GW Z (.Expr (.Yield (some e) yp) ep :: rest) (tWY Z te tr) := by
  refine ⟨fun c fs K J gd lv ip nx gp hip hk i n s₀ s hid σ H hn si ht => ?_⟩
  obtain ⟨Hw, I, rp, sm, nd, hL, hh, hol⟩ := si
  refine seg_execs_cons ?_
  obtain ⟨hlt, ht⟩ := ht
  obtain ⟨n, rfl⟩ : ∃ k, n = k + 1 := ⟨n - 1, by omega⟩
  refine seg_Expr_Yield gp.split gp.gd gp.guard ?_ hco hint
  rw [gp.over]
  refine wpAny_mono (wpAny_holes ((he s₀ Hw).run _ s σ H _ I ht)) (fun v s7 hq7 => ?_) fun _ _ z => z.elim
  obtain ⟨⟨x, H7, I7, r7, sm7, Tt, vs, ex, eo, n2, e3, hid7, cont⟩, hol7⟩ := hq7
  subst ex
  obtain rfl : v = Value.ref Tt := r7
  intro kap hkap
  obtain ⟨mm, ⟨oL, es, ep', hoL, dL, rr⟩, _⟩ := id I7.loc
  have sm' : Same Hw H7 := sm.trans sm7
  have pin7 := I7.pin
  have hidL : ∀ b ∈ hid, Z.L ≤ b := fun b hb => by
    obtain ⟨o, eo'⟩ := (hid7 b hb).ex
    obtain ⟨ob, eob⟩ := okEx (I7.hok b o eo')
    refine Nat.le_of_not_lt fun c => ?_
    cases q : s₀.heap.get? b with
    | none =>
      have := (hol7 b (hol b ⟨Nat.lt_of_lt_of_le c hL.1, q⟩)).2
      rw [eob] at this
      cases this
    | some o' =>
      have U : Un (frs Z.outer) [] Hw H7 (trunc s₀.heap Z.L) s7.heap := I7.base
      have := U.free b o' (by rw [trunc_get c]; exact q) (hh b hb) (by simp)
      rw [eo'] at this
      cases this
  have hidK : ∀ b ∈ hid, b ∉ Z.kp := fun b hb hk' => by
    obtain ⟨o, eo'⟩ := (hid7 b hb).ex
    obtain ⟨_, ob, eob⟩ := hL.2 b hk'
    have := (pin7 (b, ob) (List.mem_append_left _ (List.mem_cons_of_mem _ (mem_pinsAt hk' eob)))).2.1
    rw [eo'] at this
    cases this
  have hidA : ∀ b ∈ hid, ∀ p ∈ (Z.a, Z.go) :: ip, p.1 ≠ b := fun b hb p hp z => by
    obtain ⟨o, eo'⟩ := (hid7 b hb).ex
    have hq' : p ∈ (Z.cx s₀ Hw).pn ++ ip := by
      rcases List.mem_cons.mp hp with z | z
      · rw [z]; exact List.mem_append_left _ List.mem_cons_self
      · exact List.mem_append_right _ z
    have := (pin7 p hq').2.1
    rw [z, eo'] at this
    cases this
  have hidN : ∀ b ∈ hid, b ≠ Z.L := fun b hb z => by
    obtain ⟨o, eo'⟩ := (hid7 b hb).ex
    have : H7 Z.L = none := I7.free
    rw [← z, eo'] at this
    cases this
  have nTh : Tt ∉ hid := fun z => by
    rcases hid7 Tt z with ⟨_, _, _, q, _⟩ | ⟨_, _, _, q, _⟩ | ⟨_, q⟩
    · rw [e3] at q; cases q
    · rw [e3] at q; cases q
    · rw [e3] at q; cases q
  have un7 := Gc.un I7 sm' hL.1
  have nw : ∀ b u, Hw b = some u → b ∉ hid := fun b u e z => by rw [hh b z] at e; cases e
  refine ⟨i, Hw, hide hid H7, Tt, vs, (Z.L, oL) :: (Z.a, Z.go) :: (ip ++ pinsAt hid s7.heap), rp, by omega, eo, rfl, same_free sm n2, by rw [hide_out nTh]; exact e3, fun b u e => by rw [hide_out (nw b u e)]; exact sm' b u e, I7.os, I7.bare, hok_hide I7.hok hid7,
    ⟨un7.keep, un7.slot, fun b o q n hc => hide_none (un7.free b o q n hc), un7.there, fun b xs q => by rw [hide_out (nw b _ q)]; exact un7.tups b xs q, fun b o u q => by rw [hide_out (nw b _ q)]; exact un7.frzs b o u q, fun b ps q => by rw [hide_out (nw b _ q)]; exact un7.tbls b ps q⟩, fun q hq => ?_, by simp, fun sw Hw' rp' wk => ?_⟩
  · have old : ∀ p ∈ (Z.a, Z.go) :: ip, s7.heap.get? p.1 = some p.2 ∧ hide hid H7 p.1 = none ∧ (∀ v, p.2.data ≠ .cell v) := fun p hp => by
      have hq' : p ∈ (Z.cx s₀ Hw).pn ++ ip := by
        rcases List.mem_cons.mp hp with z | z
        · rw [z]; exact List.mem_append_left _ List.mem_cons_self
        · exact List.mem_append_right _ z
      obtain ⟨p1, p2, p3, p4, p5⟩ := pin7 p hq'
      exact ⟨p1, hide_none p2, p5⟩
    rcases List.mem_cons.mp hq with z | hq
    · rw [z]
      exact ⟨hoL, hide_none I7.free, (fun hb => absurd (O.frL _ hb) (Nat.lt_irrefl _)), (fun v y => by rw [dL] at y; cases y), fun hk => (hL.2 _ hk).1.1 rfl⟩
    rcases List.mem_cons.mp hq with z | hq
    · rw [z]
      obtain ⟨p1, p2, p5⟩ := old _ List.mem_cons_self
      exact ⟨p1, p2, (fun hb => absurd (Nat.lt_trans (O.frL _ hb) O.la) (Nat.lt_irrefl _)), p5, fun hk => (hL.2 _ hk).1.2 rfl⟩
    rcases List.mem_append.mp hq with hq | hq
    · obtain ⟨p1, p2, p5⟩ := old q (List.mem_cons_of_mem _ hq)
      exact ⟨p1, p2, (fun hb => absurd (Nat.lt_of_lt_of_le (O.frL _ hb) (hip q hq).1) (Nat.lt_irrefl _)), p5, (hip q hq).2⟩
    · obtain ⟨z1, z2⟩ := of_pinsAt hq
      exact ⟨z2, hide_in z1, (fun hb => absurd (Nat.lt_of_lt_of_le (O.frL _ hb) (hidL _ z1)) (Nat.lt_irrefl _)), (hid7 _ z1).nocell I7.hok z2, hidK _ z1⟩
  · refine hkap .none sw ?_
    show Seg _ _ _ _ _ _ _ _ _ _
    have I8 : Inv (Z.cx sw Hw') ip σ Hw' sw := Gc.woken O I7 wk (fun o ho => by
      have : s7.heap.get? Z.L = some oL := hoL
      rw [this] at ho
      cases ho
      simp) (by simp) (fun q hq => List.mem_cons_of_mem _ (List.mem_cons_of_mem _ (List.mem_append_left _ hq)))
    have hL' : Z.Lk sw := ⟨Nat.le_of_lt (Heap.lt_size (wk.gp (Z.L, oL) (by simp)).1), fun b hb => by obtain ⟨n, _, _, o, e, _⟩ := wk.kp b hb; exact ⟨n, o, e⟩⟩
    have at7 : ∀ b ∈ hid, ∀ o, s7.heap.get? b = some o → sw.heap.get? b = some o ∧ Hw' b = none := fun b hb o eo => wk.gp (b, o) (List.mem_cons_of_mem _ (List.mem_cons_of_mem _ (List.mem_append_right _ (mem_pinsAt hb eo))))
    have hn' : ∀ b ∈ hid, Hw' b = none := fun b hb => by
      obtain ⟨o, eo'⟩ := (hid7 b hb).ex
      obtain ⟨ob, eob⟩ := okEx (I7.hok b o eo')
      exact (at7 b hb ob eob).2
    have nw' : ∀ b u, Hw' b = some u → b ∉ hid := fun b u e z => by rw [hn' b z] at e; cases e
    have sU : Same Hw' (unhide hid H7 Hw') := fun b u e => by rw [unhide_out (nw' b u e)]; exact e
    have I9 : Inv (Z.cx sw Hw') ip σ (unhide hid H7 Hw') sw := I8.call' (ch := hid) rfl ⟨fun b o e _ _ _ => e, fun b o e _ _ _ => ⟨o.slots, e⟩, fun b o e n hc => by rw [unhide_out hc]; exact n, fun b o e _ => ⟨o, e⟩, fun b xs q => sU _ _ q, fun b o u q => sU _ _ q, fun b ps q => ⟨#[], by rw [sU _ _ q]; simp⟩⟩
      (hok_unhide I7.hok hid7 I8.hok hn' fun b hb o eo => (at7 b hb o eo).1) I8.bare fun b hb => by
        refine ⟨.inr ?_, hidN b hb, fun x c e => ?_, fun p hp => ?_⟩
        · show (trunc sw.heap Z.L).objs.size ≤ b
          rw [trunc_size hL'.1]
          exact hidL b hb
        · rw [show (Z.cx sw Hw').env.cells.lookup x = none from Gc.nocells O x] at e
          cases e
        · rcases List.mem_append.mp hp with z | z
          · rcases List.mem_cons.mp z with z | z
            · exact hidA b hb p (by rw [z]; exact List.mem_cons_self)
            · exact fun w => hidK b hb (w ▸ (of_pinsAt z).1)
          · exact hidA b hb p (List.mem_cons_of_mem _ z)
    exact r.run c fs K J gd lv ip nx gp hip hk (i + 1) n sw sw hid σ _ (by omega) ⟨Hw', I9, rp', sU, O.stable _ _ sU wk.need, hL', hn', fun b z => z⟩ (cont Hw' wk.need hn')
def tWW (tc : TT) (tb tr : TGw) : TGw := fun nx i hid σ H => ∃ W : Nat → Nat → List Addr → L2.St → Hp → Prop, (∃ m, W m i hid σ H) ∧ ∀ m i hid σ H, W m i hid σ H →
  tc σ H fun b H1 => H1 = H ∧ if b = true then tb (fun i' hid' σ' H' => ∃ m', m' < m ∧ W m' i' hid' σ' H') i hid σ H1 else tr nx i hid σ H1
theorem gw_while {test : Expr} {body rest : List Stmt} {pos : Pos} {tc : TT} {tb tr : TGw} (hc : ∀ s₀ Hw, PT (Z.cx s₀ Hw) test tc) (hb : GW Z body tb) (r : GW Z rest tr) : GW Z (.While test body [] pos :: rest) (tWW tc tb tr) := by
  refine ⟨fun c fs K J gd lv ip nx gp hip hk i n s₀ s hid σ H hn si ht => ?_⟩
  obtain ⟨W, ⟨m0, w0⟩, turn⟩ := ht
  refine seg_execs_cons (seg_While fun p => ?_)
  have gl : ∀ (kk : Result → Sem PySem.Fin), Gp Z (.whileLoop test body [] Z.env) (.ret kk none (gd false) (lv []) c p [] :: fs) id := fun kk => ⟨(over_loop rfl rfl).trans gp.over, by
      show (splitAtGen fs).map _ = none
      rw [gp.split]; rfl, by
      show (gd false || fs.any Frame.guarded) = false
      rw [gp.gd, gp.guard]; rfl, rfl⟩
  have loop : ∀ (m i n : Nat) (s₀ s : Shared) (hid : List Addr) (σ : L2.St) (H : Hp), n + i = Z.out.length + 1 → W m i hid σ H → Z.SH s₀ i ip hid σ H s →
      Seg (model Z.P Z.w) Z.A Z.R Z.Y n s₀ (.whileLoop test body [] Z.env) ((model Z.P Z.w).den (.whileLoop test body [] Z.env))
        (.ret (fun r => ((match r with | .ok f => (.pure f : Sem Flow) | .error e => .raise e).onRaise (cameBack Z.env)).wrap (fun (f : Flow) => match f with | .next => (execs rest Z.env).wrap K J gd lv | f => K f) J gd lv) none (gd false) (lv []) c p [] :: fs) s := by
    intro m
    induction m using Nat.strongRecOn with
    | ind m ih =>
      intro i n s₀ s hid σ H hn w hI
      obtain ⟨Hw, I, rp, sm, nd, hL, hh, hol⟩ := hI
      refine seg_whileLoop ?_
      rw [(gl _).over]
      refine wpAny_mono (wpAny_holes ((hc s₀ Hw).run _ s σ H _ I (turn m i hid σ H w))) (fun b s' hb' => ?_) fun x s' z => z.elim
      obtain ⟨⟨H2, I2, eH, q2⟩, hol2⟩ := hb'
      subst eH
      have si2 : Z.SH s₀ i ip hid σ H2 s' := ⟨Hw, I2, rp, sm, nd, hL, hh, fun b z => hol2 b (hol b z)⟩
      cases b with
      | true =>
        rw [if_pos rfl] at q2 ⊢
        refine hb.run _ _ _ _ id id ip _ (gl _) hip (fun i' n' s₀' s3 hid' σ3 H3 hn' si' nx' => ?_) i n s₀ s' hid σ H2 hn si2 q2
        obtain ⟨m', hm, w3⟩ := nx'
        exact seg_again rfl (ih m' hm i' n' s₀' s3 hid' σ3 H3 hn' w3 si')
      | false =>
        rw [if_neg Bool.false_ne_true] at q2 ⊢
        refine seg_execs_nil ?_
        exact seg_leaf (.ok .next) (r.run c fs K J gd lv ip nx gp hip hk i n s₀ s' hid σ H2 hn si2 q2)
  exact loop m0 i n s₀ s hid σ H hn w0 si
theorem gfw_of {P : Program} {w : World} {K : PySem.W.Frag} {mg : Str → Option Value} {base : Heap} {k : Nat} {f : Addr} {name qual : Str} {params : Arguments} {body : List Stmt} {scope : Scope} {dV kV doc pm cdv ct oc : Value} {an od : Option Addr} {osl : Array (Option Value)} {N ps : List Str} {sp : SpX}
    (lk : K.lookup f = some ⟨oc, od, .func (PySem.W.fnOf name qual params body scope dV kV doc pm an cdv ct), osl⟩) (hcd : PySem.W.codeIn K cdv qual = true) (S : GScope N ps scope) (nc : ∀ y ∈ scope.names, y.2 ≠ .cell ∧ y.2 ≠ .free)
    (len : ∀ vs H out need, sp vs H out need → vs.length = ps.length) (hneed : ∀ vs H out need, sp vs H out need → need H ∧ ∀ H H', Same H H' → need H → need H')
    (hbody : ∀ (A : Around) (outer : List Env) (L a : Addr) (go : Obj) (RP : Nat → Shared → Hp → Prop) (kp : List Addr) (vs : List V) (H : Hp) (out : List (List V)) (need : Hp → Prop), (Gc.mk P w K mg base N qual scope f cdv A outer L a go out need RP kp).Ok → Room k (A.deeper (envOfC qual scope L f cdv)) → sp vs H out need →
      ∃ t, GW (Gc.mk P w K mg base N qual scope f cdv A outer L a go out need RP kp) body t ∧ ∀ Hw, need Hw → t (fun i _ _ _ => i = out.length) 0 [] (start N vs) Hw) :
    GFx P w K mg base (k + 1) f (PySem.W.fnOf name qual params body scope dV kV doc pm an cdv ct) ps sp := by
  refine gfx_of0 lk hcd S nc len hneed fun A outer L a go RP kp vs H out need O hr hsp sw Hw I rp nd lk => ?_
  obtain ⟨t, ht, hq⟩ := hbody A outer L a go RP kp vs H out need O hr hsp
  refine seg_func ?_
  refine ht.run _ [] _ _ id id [] (fun i _ _ _ => i = out.length) ⟨over_func, rfl, rfl, rfl⟩ (fun p hp => absurd hp (by simp)) (fun i n s₀ s' hid σ H' hn si hi => ?_) 0 (out.length + 1) sw sw [] (start N vs) Hw (by simp) ⟨Hw, I, rp, Same.refl _, nd, lk, (fun b hb => by cases hb), fun b z => z⟩ (hq Hw nd)
  obtain ⟨Hw0, J, rp0, sm, nd, hL, hh, hol⟩ := si
  subst hi
  exact seg_end (.ok (.ret .none)) (.inl ⟨.inl rfl, Hw0, H', rp0, sm, J.os, J.bare, J.hok, Gc.un J sm hL.1⟩)
structure GGx (P : Program) (w : World) (K : PySem.W.Frag) (mg : Str → Option Value) (base : Heap) (k : Nat) (x : Str) (sp : SpX) : Prop where
  ex : ∃ f fd ps, GFx P w K mg base k f fd ps sp ∧ mg x = some (.ref f) ∧ PySem.W.keepIn K (.ref f) = true ∧ Binds K fd ps []
def tCallX (sp : SpX) (t : TA) : TGq := fun σ H cont => t σ H fun vs H2 => ∃ out need, sp vs H2 out need ∧ cont out need H2
theorem pgx_call {X : Cx} {k : Nat} {x : Str} {sp : SpX} {e : Expr} {es : List Expr} {t : TA} {p pos : Pos} (G : GGx X.prog X.w X.K X.mg X.base k x sp) (hr : Room k X.A) (ha : PA X (e :: es) t) (hg : Gl X x := by rfl) (hdb : (x == ("__debug__" : Str)) = false := by decide)
    (he : starEach (e :: es) X.env = (false, eval e X.env) :: starEach es X.env := by rfl) (hpl : (backTo pos (starEach es X.env)).any (·.1) = false := by rfl) : PGx X k (.Call (.Name x p) (e :: es) [] pos) (tCallX sp t) := by
  obtain ⟨f, fd, ps, F, hm, hk, hb⟩ := G.ex
  refine ⟨fun pins s σ H cont I h => ?_⟩
  refine wpAny_Call_Name_kw (ld_glob I hg hm ?_ hdb)
  refine PySem.W.callWith_K (h₀ := X.base) I.ok.mod.kin hk (thn (ha.run pos pins s σ H _ I h) fun us s2 ⟨vs, H2, I2, r, out, need, q2, q3⟩ => ⟨I2.kIn, ?_⟩) he hpl
  have hl2 : us.length = ps.length := by rw [← r.length]; exact F.len _ _ _ _ q2
  refine wpAny_call (codeAny_mono (F.run X.A X.stack s2 H2 ⟨us, []⟩ us vs out need hr I2.env0 (by
    have := hb s2 us I2.kIn (by simpa using hl2)
    simpa using this) r q2) fun r s' hq => ?_)
  cases r with
  | error e => exact False.elim hq
  | ok fl =>
    cases fl with
    | ret u => exact ⟨H2, s2, out, need, I2, hq, (F.need _ _ _ _ q2).1, q3⟩
    | next => exact False.elim hq
    | brk => exact False.elim hq
    | cont => exact False.elim hq
theorem GDef.genX {P : Program} {w : World} {K : PySem.W.Frag} {mg : Str → Option Value} {base : Heap} {k : Nat} {x : Str} {st : Stmt} {ps N : List Str} {sp : SpX} (D : GDef K mg x st ps) (S : GScope N ps (defScope st)) (nc : ∀ y ∈ (defScope st).names, y.2 ≠ .cell ∧ y.2 ≠ .free) (len : ∀ vs H out need, sp vs H out need → vs.length = ps.length)
    (hneed : ∀ vs H out need, sp vs H out need → need H ∧ ∀ H H', Same H H' → need H → need H')
    (hbody : ∀ (f : Addr) (cdv : Value) (A : Around) (outer : List Env) (L a : Addr) (go : Obj) (RP : Nat → Shared → Hp → Prop) (kp : List Addr) (vs : List V) (H : Hp) (out : List (List V)) (need : Hp → Prop), (Gc.mk P w K mg base N x (defScope st) f cdv A outer L a go out need RP kp).Ok → Room k (A.deeper (envOfC x (defScope st) L f cdv)) → sp vs H out need →
      ∃ t, GW (Gc.mk P w K mg base N x (defScope st) f cdv A outer L a go out need RP kp) (defBody st) t ∧ ∀ Hw, need Hw → t (fun i _ _ _ => i = out.length) 0 [] (start N vs) Hw) : GGx P w K mg base (k + 1) x sp := by
  obtain ⟨f, fd, F, hm, hb⟩ := D.ex
  have kp := F.kp
  obtain ⟨oc, od, kV, doc, pm, an, cdv, ct, osl, rfl, lk, hcd⟩ := F.ex
  exact ⟨f, _, ps, gfw_of lk hcd S nc len hneed fun A outer L a go RP kp vs H out need O hr hsp => hbody f cdv A outer L a go RP kp vs H out need O hr hsp, hm, kp, hb⟩
end MF
set_option Elab.async false
set_option linter.all false
set_option maxHeartbeats 1000000
namespace MF
open PySem

def holds (o : Ordr) (x : Str) (d : Int) : Bool := decide (o.src = x) && (decide (o.first ≤ d) && decide (d ≤ o.last))
def ordFor : List Ordr → Str → Int → Option Nat
  | [], _, _ => none
  | o :: os, x, d => if holds o x d = true then some 0 else (ordFor os x d).map (· + 1)
theorem ordFor_some {x : Str} {d : Int} : ∀ {os : List Ordr} {i : Nat}, ordFor os x d = some i → ∃ o, os[i]? = some o ∧ holds o x d = true
  | [], i, h => by cases h
  | o :: os, i, h => by
    unfold ordFor at h
    by_cases q : holds o x d = true
    · rw [if_pos q] at h
      cases h
      exact ⟨o, rfl, q⟩
    · rw [if_neg q] at h
      cases e : ordFor os x d with
      | none => rw [e] at h; cases h
      | some j =>
        rw [e] at h
        cases h
        obtain ⟨p, h1, h2⟩ := ordFor_some e
        exact ⟨p, by simpa using h1, h2⟩
theorem ordFor_is {x : Str} {d : Int} {o : Ordr} : ∀ {os : List Ordr} {i : Nat}, (∀ (j : Nat) p, j < i → os[j]? = some p → holds p x d = false) → os[i]? = some o → holds o x d = true → ordFor os x d = some i
  | [], i, _, h, _ => by simp at h
  | p :: os, 0, _, h, q => by
    simp at h
    subst h
    unfold ordFor
    rw [if_pos q]
  | p :: os, i + 1, hn, h, q => by
    have h0 : holds p x d = false := hn 0 p (Nat.succ_pos _) rfl
    unfold ordFor
    rw [h0, if_neg Bool.false_ne_true, ordFor_is (i := i) (fun j r hj e => hn (j + 1) r (Nat.succ_lt_succ hj) (by simpa using e)) (by simpa using h) q]
    rfl
theorem ordFor_none {x : Str} {d : Int} : ∀ {os : List Ordr}, (∀ p ∈ os, holds p x d = false) → ordFor os x d = none
  | [], _ => rfl
  | p :: os, h => by
    unfold ordFor
    rw [h p (by simp), if_neg Bool.false_ne_true, ordFor_none fun q hq => h q (by simp [hq])]
    rfl
theorem ordFor_none_iff {x : Str} {d : Int} {os : List Ordr} : ordFor os x d = none ↔ ∀ p ∈ os, holds p x d = false := by
  refine ⟨fun h => ?_, ordFor_none⟩
  induction os with
  | nil => intro p hp; cases hp
  | cons o os ih =>
    unfold ordFor at h
    by_cases q : holds o x d = true
    · rw [if_pos q] at h; cases h
    · rw [if_neg q] at h
      have h' : ordFor os x d = none := by
        cases e : ordFor os x d with
        | none => rfl
        | some j => rw [e] at h; cases h
      intro p hp
      rcases List.mem_cons.mp hp with rfl | hp
      · simpa using q
      · exact ih h' p hp
theorem ordFor_congr {x : Str} {d e : Int} : ∀ {os : List Ordr}, (∀ p ∈ os, holds p x d = holds p x e) → ordFor os x d = ordFor os x e
  | [], _ => rfl
  | p :: os, h => by
    unfold ordFor
    rw [h p (by simp), ordFor_congr fun q hq => h q (by simp [hq])]
def changes : List Ordr → Int → List Int
  | [], _ => []
  | o :: os, d => ([o.first, o.last + 1].filter fun c => decide (d < c)) ++ changes os d
theorem mem_changes {d c : Int} : ∀ {os : List Ordr}, c ∈ changes os d ↔ d < c ∧ ∃ o ∈ os, c = o.first ∨ c = o.last + 1
  | [] => by simp [changes]
  | o :: os => by
    unfold changes
    rw [List.mem_append, mem_changes (os := os), List.mem_filter]
    simp only [List.mem_cons, List.not_mem_nil, or_false, decide_eq_true_eq, exists_eq_or_imp]
    constructor
    · rintro (⟨h1, h2⟩ | ⟨h1, o', h2, h3⟩)
      · exact ⟨h2, .inl h1⟩
      · exact ⟨h1, .inr ⟨o', h2, h3⟩⟩
    · rintro ⟨h1, h2 | ⟨o', h2, h3⟩⟩
      · exact .inl ⟨h2, h1⟩
      · exact .inr ⟨h1, o', h2, h3⟩
def leastOf : List Int → Option Int
  | [] => none
  | a :: as => match leastOf as with
    | none => some a
    | some b => some (if a ≤ b then a else b)
theorem leastOf_none {l : List Int} : leastOf l = none ↔ l = [] := by
  cases l with
  | nil => simp [leastOf]
  | cons a as =>
    unfold leastOf
    cases leastOf as <;> simp
theorem leastOf_some : ∀ {l : List Int} {m : Int}, leastOf l = some m ↔ m ∈ l ∧ ∀ c ∈ l, m ≤ c
  | [], m => by simp [leastOf]
  | a :: as, m => by
    unfold leastOf
    cases e : leastOf as with
    | none =>
      have := leastOf_none.mp e
      subst this
      simp only [Option.some.injEq, List.mem_singleton]
      constructor
      · rintro rfl; exact ⟨rfl, fun c hc => by rw [hc]; exact Int.le_refl _⟩
      · rintro ⟨h, _⟩; exact h.symm
    | some b =>
      obtain ⟨hb, hm⟩ := (leastOf_some (l := as) (m := b)).mp e
      simp only [Option.some.injEq, List.mem_cons]
      constructor
      · intro h
        by_cases q : a ≤ b
        · rw [if_pos q] at h
          subst h
          exact ⟨.inl rfl, fun c hc => by
            rcases hc with rfl | hc
            · exact Int.le_refl _
            · have := hm c hc; omega⟩
        · rw [if_neg q] at h
          subst h
          exact ⟨.inr hb, fun c hc => by
            rcases hc with rfl | hc
            · omega
            · exact hm c hc⟩
      · rintro ⟨h1, h2⟩
        have ha := h2 a (.inl rfl)
        have hb' := h2 b (.inr hb)
        rcases h1 with rfl | h1
        · rw [if_pos hb']
        · have := hm m h1
          by_cases q : a ≤ b
          · rw [if_pos q]; omega
          · rw [if_neg q]; omega
def nextCh (os : List Ordr) (d : Int) : Option Int := leastOf (changes os d)
theorem nextCh_gt {os : List Ordr} {d c : Int} (h : nextCh os d = some c) : d < c := (mem_changes.mp (leastOf_some.mp h).1).1
theorem nextCh_const {os : List Ordr} {d e : Int} (hd : d ≤ e) (hc : ∀ c, nextCh os d = some c → e < c) : nextCh os e = nextCh os d := by
  have sub : ∀ c, c ∈ changes os e ↔ c ∈ changes os d := fun c => by
    rw [mem_changes, mem_changes]
    constructor
    · rintro ⟨h1, h2⟩; exact ⟨by omega, h2⟩
    · rintro ⟨h1, h2⟩
      refine ⟨?_, h2⟩
      cases q : nextCh os d with
      | none =>
        have := leastOf_none.mp q
        have hm : c ∈ changes os d := mem_changes.mpr ⟨h1, h2⟩
        rw [this] at hm; cases hm
      | some m =>
        have := (leastOf_some.mp q).2 c (mem_changes.mpr ⟨h1, h2⟩)
        have := hc m q
        omega
  unfold nextCh
  cases q : leastOf (changes os d) with
  | none =>
    have h0 := leastOf_none.mp q
    refine leastOf_none.mpr ?_
    cases r : changes os e with
    | nil => rfl
    | cons a as =>
      have : a ∈ changes os d := (sub a).mp (by rw [r]; simp)
      rw [h0] at this; cases this
  | some m =>
    obtain ⟨h1, h2⟩ := leastOf_some.mp q
    exact leastOf_some.mpr ⟨(sub m).mpr h1, fun c hc' => h2 c ((sub c).mp hc')⟩
theorem ordFor_const {os : List Ordr} {x : Str} {d e : Int} (hd : d ≤ e) (hc : ∀ c ∈ changes os d, e < c) : ordFor os x e = ordFor os x d := by
  refine ordFor_congr fun o ho => ?_
  have h1 : d < o.first → e < o.first := fun h => hc _ (mem_changes.mpr ⟨h, o, ho, .inl rfl⟩)
  have h2 : d < o.last + 1 → e < o.last + 1 := fun h => hc _ (mem_changes.mpr ⟨h, o, ho, .inr rfl⟩)
  have e1 : decide (o.first ≤ e) = decide (o.first ≤ d) := by
    by_cases q : o.first ≤ d
    · rw [decide_eq_true q, decide_eq_true (by omega)]
    · rw [decide_eq_false q, decide_eq_false (by omega)]
  have e2 : decide (e ≤ o.last) = decide (d ≤ o.last) := by
    by_cases q : d ≤ o.last
    · rw [decide_eq_true q, decide_eq_true (by omega)]
    · rw [decide_eq_false q, decide_eq_false (by omega)]
  unfold holds
  rw [e1, e2]

abbrev Pt := Str × Int
def nxt (os : List Ordr) (s : Pt) : Option Pt := (ordFor os s.1 s.2).bind fun i => os[i]?.map fun o => (o.tgt, s.2 + o.way)
inductive Go (os : List Ordr) : Pt → Nat → Pt → Prop
  | refl (s : Pt) : Go os s 0 s
  | step {s s' t : Pt} {n : Nat} (h : nxt os s = some s') (r : Go os s' n t) : Go os s (n + 1) t
def Ends (os : List Ordr) (s : Pt) (n : Nat) (t : Pt) : Prop := Go os s n t ∧ nxt os t = none
theorem nxt_of {os : List Ordr} {x : Str} {d : Int} {i : Nat} {o : Ordr} (h : ordFor os x d = some i) (e : os[i]? = some o) : nxt os (x, d) = some (o.tgt, d + o.way) := by
  unfold nxt
  simp only [h, Option.bind_some, e, Option.map_some]
theorem nxt_none {os : List Ordr} {x : Str} {d : Int} : nxt os (x, d) = none ↔ ordFor os x d = none := by
  unfold nxt
  cases h : ordFor os x d with
  | none => simp
  | some i =>
    obtain ⟨o, e, _⟩ := ordFor_some h
    simp [e]
theorem nxt_some {os : List Ordr} {s s' : Pt} (h : nxt os s = some s') : ∃ i o, ordFor os s.1 s.2 = some i ∧ os[i]? = some o ∧ holds o s.1 s.2 = true ∧ s' = (o.tgt, s.2 + o.way) := by
  obtain ⟨x, d⟩ := s
  unfold nxt at h
  cases q : ordFor os x d with
  | none => simp [q] at h
  | some i =>
    obtain ⟨o, e, ho⟩ := ordFor_some q
    simp [q, e] at h
    exact ⟨i, o, rfl, e, ho, h.symm⟩
theorem Go.trans {os : List Ordr} {s t u : Pt} {n m : Nat} (a : Go os s n t) (b : Go os t m u) : Go os s (n + m) u := by
  induction a with
  | refl s => rw [Nat.zero_add]; exact b
  | step h r ih => rw [Nat.succ_add]; exact .step h (ih b)
theorem Go.one {os : List Ordr} {s t : Pt} (h : nxt os s = some t) : Go os s 1 t := .step h (.refl t)
theorem Go.det {os : List Ordr} {s t u : Pt} {n : Nat} (a : Go os s n t) (b : Go os s n u) : t = u := by
  induction a with
  | refl s => cases b; rfl
  | step h r ih =>
    cases b with
    | step h' r' => rw [h] at h'; cases h'; exact ih r'
theorem Ends.after {os : List Ordr} {s t u : Pt} {n m : Nat} (e : Ends os s n t) (g : Go os s m u) : m ≤ n ∧ Ends os u (n - m) t := by
  induction g generalizing n with
  | refl s => exact ⟨Nat.zero_le _, e⟩
  | step h r ih =>
    obtain ⟨a, b⟩ := e
    cases a with
    | refl => rw [b] at h; cases h
    | step h' r' =>
      rw [h] at h'
      cases h'
      obtain ⟨h1, h2⟩ := ih ⟨r', b⟩
      exact ⟨Nat.succ_le_succ h1, by rw [Nat.succ_sub_succ]; exact h2⟩
theorem Ends.before {os : List Ordr} {s t u : Pt} {n m : Nat} (g : Go os s m u) (e : Ends os u n t) : Ends os s (m + n) t := ⟨g.trans e.1, e.2⟩
theorem Ends.uniq {os : List Ordr} {s t u : Pt} {n m : Nat} (a : Ends os s n t) (b : Ends os s m u) : n = m ∧ t = u := by
  obtain ⟨h1, h2⟩ := a.after b.1
  obtain ⟨h3, h4⟩ := b.after a.1
  have e : n = m := Nat.le_antisymm h3 h1
  subst e
  exact ⟨rfl, a.1.det b.1⟩
structure Fine (os : List Ordr) (M : Int) : Prop where
  way : ∀ o ∈ os, 1 ≤ o.way
  last : ∀ o ∈ os, o.last ≤ M
theorem Good.fine {os : List Ordr} (g : Good os) : Fine os 1000000000000000000 := ⟨fun o h => (g.ok o h).w1, fun o h => (g.ok o h).lm⟩
theorem nxt_day {os : List Ordr} {M : Int} (f : Fine os M) {s s' : Pt} (h : nxt os s = some s') : s.2 < s'.2 ∧ s.2 ≤ M := by
  obtain ⟨i, o, h1, h2, h3, rfl⟩ := nxt_some h
  have ho : o ∈ os := List.mem_of_getElem? h2
  have := f.way o ho
  have := f.last o ho
  simp only [holds, Bool.and_eq_true, decide_eq_true_eq] at h3
  refine ⟨?_, by omega⟩
  show s.2 < s.2 + o.way
  omega
theorem Go.day {os : List Ordr} {M : Int} (f : Fine os M) {s t : Pt} {n : Nat} (g : Go os s n t) : s.2 + (n : Int) ≤ t.2 := by
  induction g with
  | refl s => simp
  | step h r ih =>
    have := (nxt_day f h).1
    push_cast
    omega
theorem ends_ex {os : List Ordr} {M : Int} (f : Fine os M) : ∀ s : Pt, ∃ n t, Ends os s n t := by
  have all : ∀ (k : Nat) (s : Pt), (M + 1 - s.2).toNat ≤ k → ∃ n t, Ends os s n t := by
    intro k
    induction k with
    | zero =>
      intro s hs
      refine ⟨0, s, .refl s, ?_⟩
      cases q : nxt os s with
      | none => rfl
      | some s' => have := nxt_day f q; omega
    | succ k ih =>
      intro s hs
      cases q : nxt os s with
      | none => exact ⟨0, s, .refl s, q⟩
      | some s' =>
        have := nxt_day f q
        obtain ⟨n, t, h1, h2⟩ := ih s' (by omega)
        exact ⟨n + 1, t, .step q h1, h2⟩
  exact fun s => all _ s (Nat.le_refl _)
theorem Go.shift {os : List Ordr} {M : Int} (f : Fine os M) {hi δ : Int} (h0 : 0 ≤ δ) {s t : Pt} {n : Nat} (g : Go os s n t) (hc : ∀ c ∈ changes os s.2, hi < c) (ht : t.2 + δ ≤ hi) : Go os (s.1, s.2 + δ) n (t.1, t.2 + δ) := by
  induction g with
  | refl s => exact .refl _
  | @step s s' t n h r ih =>
    have hd := (nxt_day f h).1
    have hl := r.day f
    have hle : s.2 + δ ≤ hi := by omega
    obtain ⟨i, o, h1, h2, h3, e⟩ := nxt_some h
    have e1 : ordFor os s.1 (s.2 + δ) = some i := by
      rw [← h1]
      exact ordFor_const (by omega) fun c hc' => by have := hc c hc'; omega
    have e2 : nxt os (s.1, s.2 + δ) = some (s'.1, s'.2 + δ) := by
      rw [nxt_of e1 h2, e]
      simp only [Option.some.injEq, Prod.mk.injEq, true_and]
      omega
    refine .step e2 (ih (fun c hc' => hc c ?_) ht)
    obtain ⟨q1, q2⟩ := mem_changes.mp hc'
    exact mem_changes.mpr ⟨by omega, q2⟩
theorem Go.rounds {os : List Ordr} {M : Int} (f : Fine os M) {x : Str} {d d1 hi : Int} {k : Nat} (g : Go os (x, d1) k (x, d)) (hd : d1 ≤ d) (hc : ∀ c ∈ changes os d1, hi < c) : ∀ j : Nat, d + (j : Int) * (d - d1) ≤ hi → Go os (x, d) (j * k) (x, d + (j : Int) * (d - d1))
  | 0, _ => by simp; exact .refl _
  | j + 1, h => by
    have hp : 0 ≤ (j : Int) * (d - d1) := Int.mul_nonneg (Int.natCast_nonneg _) (by omega)
    have e : ((j + 1 : Nat) : Int) * (d - d1) = (j : Int) * (d - d1) + (d - d1) := by
      push_cast
      rw [Int.add_mul, Int.one_mul]
    rw [e] at h ⊢
    have a := Go.rounds f g hd hc j (by omega)
    have b := Go.shift f (δ := (j : Int) * (d - d1) + (d - d1)) (by omega) g hc (by show d + _ ≤ hi; omega)
    have e3 : (x, d1 + ((j : Int) * (d - d1) + (d - d1))) = (x, d + (j : Int) * (d - d1)) := by
      congr 1
      omega
    have b' : Go os (x, d + (j : Int) * (d - d1)) k (x, d + ((j : Int) * (d - d1) + (d - d1))) := by
      rw [← e3]
      exact b
    rw [Nat.succ_mul]
    exact a.trans b'
end MF
set_option Elab.async false
set_option linter.all false
set_option maxRecDepth 100000
set_option maxHeartbeats 1000000
namespace MF
open PySem PySem.Spec PyProof.Rows L2 StX
def routeL (os : List Ordr) : Nat → Pt → List Pt
  | 0, _ => []
  | n + 1, s => s :: (match nxt os s with
    | none => []
    | some t => routeL os n t)
theorem routeL_len {os : List Ordr} : ∀ {n : Nat} {s : Pt}, (routeL os n s).length ≤ n
  | 0, s => Nat.le_refl _
  | n + 1, s => by
    unfold routeL
    cases nxt os s with
    | none => simp
    | some t => have := routeL_len (os := os) (n := n) (s := t); simp only [List.length_cons]; omega
theorem routeL_go {os : List Ordr} : ∀ {n i : Nat} {s t : Pt}, (routeL os n s)[i]? = some t ↔ i < n ∧ Go os s i t
  | 0, i, s, t => by unfold routeL; simp
  | n + 1, 0, s, t => by
    unfold routeL
    constructor
    · intro h; simp at h; subst h; exact ⟨by omega, .refl _⟩
    · rintro ⟨_, h⟩; cases h; simp
  | n + 1, i + 1, s, t => by
    unfold routeL
    cases e : nxt os s with
    | none =>
      simp only [List.getElem?_cons_succ, List.getElem?_nil]
      constructor
      · intro h; cases h
      · rintro ⟨_, h⟩
        cases h with
        | step h1 h2 => rw [e] at h1; cases h1
    | some u =>
      simp only [List.getElem?_cons_succ]
      rw [routeL_go]
      constructor
      · rintro ⟨h1, h2⟩; exact ⟨by omega, .step e h2⟩
      · rintro ⟨h1, h2⟩
        cases h2 with
        | step h3 h4 => rw [e] at h3; cases h3; exact ⟨by omega, h4⟩
theorem routeL_mem {os : List Ordr} {n : Nat} {s t : Pt} : t ∈ routeL os n s ↔ ∃ i, i < n ∧ Go os s i t := by
  rw [List.mem_iff_getElem?]
  constructor
  · rintro ⟨i, h⟩; exact ⟨i, routeL_go.mp h⟩
  · rintro ⟨i, h⟩; exact ⟨i, routeL_go.mpr h⟩
theorem routeL_short {os : List Ordr} : ∀ {n : Nat} {s : Pt}, (routeL os n s).length < n → ∃ t, Ends os s ((routeL os n s).length - 1) t ∧ (routeL os n s)[(routeL os n s).length - 1]? = some t ∧ 1 ≤ (routeL os n s).length
  | 0, s, h => absurd h (Nat.not_lt_zero _)
  | n + 1, s, h => by
    unfold routeL at h ⊢
    cases e : nxt os s with
    | none => simp only [List.length_cons, List.length_nil]; exact ⟨s, ⟨.refl _, e⟩, rfl, Nat.le_refl _⟩
    | some u =>
      rw [e] at h
      simp only [List.length_cons] at h ⊢
      obtain ⟨t, h1, h2, h3⟩ := routeL_short (os := os) (n := n) (s := u) (by omega)
      obtain ⟨m, hm⟩ : ∃ m, (routeL os n u).length = m + 1 := ⟨_, (Nat.sub_add_cancel h3).symm⟩
      rw [hm] at h1 h2 ⊢
      refine ⟨t, ⟨.step e h1.1, h1.2⟩, ?_, by omega⟩
      simp only [Nat.add_sub_cancel, List.getElem?_cons_succ] at h2 ⊢
      exact h2
theorem routeL_full {os : List Ordr} {n : Nat} {s : Pt} {N : Nat} {t : Pt} (e : Ends os s N t) (h : N < n) : (routeL os n s).length = N + 1 := by
  have h1 : (routeL os n s)[N]? = some t := routeL_go.mpr ⟨h, e.1⟩
  have h2 := (List.getElem?_eq_some_iff.mp h1).1
  by_cases c : (routeL os n s).length = N + 1
  · exact c
  · have h3 : N + 1 < (routeL os n s).length := by omega
    have h4 : (routeL os n s)[N + 1]? = some ((routeL os n s)[N + 1]) := List.getElem?_eq_getElem h3
    obtain ⟨_, g⟩ := routeL_go.mp h4
    have := (e.after g).1
    omega
structure PGn (P : Program) (w : World) (K : PySem.W.Frag) (mg : Str → Option Value) (base : Heap) (k : Nat) (x : Str) (sp : SpG) : Prop where
  ex : ∃ f fd ps, L2.GFn P w K mg base k f fd ps sp ∧ mg x = some (.ref f) ∧ PySem.W.keepIn K (.ref f) = true ∧ Binds K fd ps []
theorem passCX {X : Cx} : Passes (CX X.prog X.w) X E0 := fun _ _ _ _ _ _ _ ⟨_, _, _, _, _, _, _, _, _, _, _, _, h⟩ => h.elim
theorem noStop0 {K : PySem.W.Frag} : NoStop K E0 := fun _ _ _ h => h.elim
theorem pe_listGn {X : Cx} {k : Nat} {x : Str} {sp : SpG} {e : Expr} {es : List Expr} {t : TA} {p p' pos pos' : Pos} (G : PGn X.prog X.w X.K X.mg X.base k x sp) (hr : Room (k + 3) X.A) (hmg : X.mg "list" = none) (ha : PA X (e :: es) t)
    (hg : Gl X "list" := by rfl) (hx : Gl X x := by rfl) (hdb : (x == ("__debug__" : Str)) = false := by decide) (he : starEach (e :: es) X.env = (false, eval e X.env) :: starEach es X.env := by rfl) (hpl : (backTo pos' (starEach es X.env)).any (·.1) = false := by rfl)
    (he' : starEach [.Call (.Name x p') (e :: es) [] pos'] X.env = (false, eval (.Call (.Name x p') (e :: es) [] pos') X.env) :: starEach [] X.env := by rfl) :
    PE X (.Call (.Name "list" p) [.Call (.Name x p') (e :: es) [] pos'] [] pos) (tListG (tCallG sp [] E0 t)) := by
  obtain ⟨f, fd, ps, F, hm, hk, hb⟩ := G.ex
  exact pe_listG (pgen_call F (hr.mono (by omega)) hx hm hk hb .nil ha hdb he hpl) passCX noStop0 hr hg hmg rfl (by decide) (by decide) he'
theorem GDef.gen {P : Program} {w : World} {K : PySem.W.Frag} {mg : Str → Option Value} {base : Heap} {k : Nat} {x : Str} {st : Stmt} {ps N : List Str} {sp : SpG} (D : GDef K mg x st ps) (S : GScope N ps (defScope st)) (len : ∀ vs H Q E, sp vs H Q E → vs.length = ps.length)
    (hbody : ∀ (f : Addr) (cdv : Value) (A : Around) (outer : List Env) (s : Shared) (H : Hp) (vs : List V) (Q : List V → Hp → Prop) (E : XK) (pn : List (Addr × Obj)), Room k (A.deeper (envOfC x (defScope st) s.heap.objs.size f cdv)) → sp vs H Q E →
      ∃ t, GSs (gcxOf P w K mg base N x (defScope st) f cdv A outer s H E pn) (defBody st) t ∧ t { nx := fun ys _ H' => Q ys H', rt := fun ys v H' => v = .non ∧ Q ys H' } [] (start N vs) H) : PGn P w K mg base (k + 1) x sp := by
  obtain ⟨f, fd, F, hm, hb⟩ := D.ex
  have kp := F.kp
  obtain ⟨oc, od, kV, doc, pm, an, cdv, ct, osl, rfl, lk, hcd⟩ := F.ex
  exact ⟨f, _, ps, gfn_of lk hcd S len fun A outer s H vs Q E pn hr hsp => hbody f cdv A outer s H vs Q E pn hr hsp, hm, kp, hb⟩
end MF
set_option Elab.async false
set_option linter.all false
set_option maxRecDepth 100000
set_option maxHeartbeats 1000000
namespace MF
open PySem PySem.Spec PyProof.Rows L2 StX ClX
structure PDef (K : PySem.W.Frag) (C : Addr) (m qual : Str) (st : Stmt) (ps : List Str) : Prop where
  ex : ∃ p f fd, Fun K m qual st f fd ∧ PropOf K C m p f ∧ Binds K fd ps []
structure PFn (P : Program) (w : World) (K : PySem.W.Frag) (mg : Str → Option Value) (base : Heap) (CX : CXT) (k : Nat) (C : Addr) (m : Str) (sp : Sp) : Prop where
  ex : ∃ p f fd ps, FnOk P w K mg base CX k f fd ps sp ∧ PropOf K C m p f ∧ Binds K fd ps []
theorem PDef.fn {P : Program} {w : World} {K : PySem.W.Frag} {mg : Str → Option Value} {base : Heap} {CX : CXT} {k : Nat} {C : Addr} {m qual : Str} {st : Stmt} {ps : List Str} {sp : Sp} (D : PDef K C m qual st ps) (h : ∀ f fd, Fun K m qual st f fd → FnOk P w K mg base CX k f fd ps sp) : PFn P w K mg base CX k C m sp :=
  let ⟨p, f, fd, a, b, c⟩ := D.ex
  ⟨p, f, fd, ps, h f fd a, b, c⟩
theorem pe_pr {X : Cx} {k : Nat} {C : Addr} {m : Str} {sp : Sp} {e : Expr} {ta : TE} {pos : Pos} (G : PFn X.prog X.w X.K X.mg X.base CX0 k C m sp) (c : Cls X.K C) (hr : Room (k + 1) X.A) (he : PE X e ta) (hab : attributeBase e m X.env (eval e X.env) = eval e X.env := by rfl) : PE X (.Attribute e m pos) (tProp C sp [] E0 ta) := by
  obtain ⟨p, f, fd, ps, F, hp, hb⟩ := G.ex
  exact pe_prop he c hp F hr hb .nil pass0 hab
structure CDef (K : PySem.W.Frag) (C : Addr) (m qual : Str) (st : Stmt) (ps : List Str) (pv : Str) : Prop where
  ex : ∃ mc p f fd, Fun K m qual st f fd ∧ CRead K C mc ∧ CMet K C mc m p f ∧ ∀ us rest : List Value, us.length = ps.length → bindArgs fd ⟨us ++ rest, []⟩ = (newTuple rest >>= fun t => pure (ps.zip us ++ [(pv, t)]))
structure CFn (P : Program) (w : World) (K : PySem.W.Frag) (mg : Str → Option Value) (base : Heap) (CX : CXT) (k : Nat) (C : Addr) (m : Str) (sp : Sp) : Prop where
  ex : ∃ mc p f, FnR P w K mg base CX k f sp ∧ CRead K C mc ∧ CMet K C mc m p f
theorem CDef.fn0 {P : Program} {w : World} {K : PySem.W.Frag} {mg : Str → Option Value} {base : Heap} {k : Nat} {C : Addr} {m qual pv : Str} {ps : List Str} {st : Stmt} {N : List Str} {sp : Sp} (D : CDef K C m qual st ps pv) (S : FnScope N (ps ++ [pv]) (defScope st))
    (hbody : ∀ (f : Addr) (cdv : Value) (A : Around) (outer : List Env) (s : Shared) (H : Hp) (vs : List V) (Q : VK) (E : XK), Room k (A.deeper (envOfC qual (defScope st) s.heap.objs.size f cdv)) → sp vs H Q E →
      ∃ t, PSs (cxOf CX0 P w K mg base N qual (defScope st) f cdv A outer s H E).nox (defBody st) t ∧ t { nx := fun _ H' => Q .non H', rt := Q } (start N vs) H) :
    CFn P w K mg base CX0 (k + 1) C m (fun vs H Q E => ∃ ws rest, vs = ws ++ rest ∧ ws.length = ps.length ∧ rest.length ≤ sizeLine ∧ ∀ p, H p = Option.none → sp (ws ++ [V.ref p]) (upd H p (.tup rest)) Q E) := by
  obtain ⟨mc, p, f, fd, F, R, M, hb⟩ := D.ex
  obtain ⟨oc, od, kV, doc, pm, an, cdv, ct, osl, rfl, lk, hcd⟩ := F.ex
  refine ⟨mc, p, f, fn_star (ps := ps) (pv := pv) (sp := sp) lk hcd S cxUp_none hb fun A outer s H vs Q E hr hsp => ?_, R, M⟩
  obtain ⟨t, h, q⟩ := hbody f cdv A outer s H vs Q E hr hsp
  exact ⟨t, h.nox, q⟩
theorem bind_star4 {B : List Value → Sem (List (Str × Value))} {p1 p2 p3 p4 pv : Str} (h0 : ∀ a b c d, B [a, b, c, d] = (newTuple [] >>= fun t => pure [(p1, a), (p2, b), (p3, c), (p4, d), (pv, t)])) (h1 : ∀ a b c d r rs, B (a :: b :: c :: d :: r :: rs) = (newTuple (r :: rs) >>= fun t => pure [(p1, a), (p2, b), (p3, c), (p4, d), (pv, t)])) :
    ∀ us rest : List Value, us.length = [p1, p2, p3, p4].length → B (us ++ rest) = (newTuple rest >>= fun t => pure ([p1, p2, p3, p4].zip us ++ [(pv, t)])) := by
  intro us rest hl
  match us, hl with
  | [a, b, c, d], _ =>
    cases rest with
    | nil => exact h0 a b c d
    | cons r rs => exact h1 a b c d r rs
theorem pe_cm {X : Cx} {k : Nat} {C : Addr} {m : Str} {sp : Sp} {o e : Expr} {es : List Expr} {ta : TE} {t : TA} {pos apos : Pos} {pl : Sem Bool} (G : CFn X.prog X.w X.K X.mg X.base CX0 k C m sp) (hr : Room k X.A) (he : PE X o ta) (ha : PA X (e :: es) t)
    (hst : starEach (e :: es) X.env = (false, eval e X.env) :: starEach es X.env := by rfl) (hpl : (backTo pos (starEach es X.env)).any (·.1) = false := by rfl)
    (ht : eval (.Call (.Attribute o m apos) (e :: es) [] pos) X.env = (do
      let ov ← eval o X.env
      standAt apos.atName
      let (f, first) ← holding [ov] (getMethod ov m pl)
      callWith pos f first (backTo pos (starEach (e :: es) X.env)) (backToKw pos (keywordEach [] X.env))) := by rfl) :
    PE X (.Call (.Attribute o m apos) (e :: es) [] pos) (tCMeth C sp E0 ta t) := by
  obtain ⟨mc, p, f, F, R, M⟩ := G.ex
  exact pe_cmeth he R M F hr pass0 ha hst hpl ht
def tMkL (i : Nat) (C : Addr) (sp : Sp) (E : XK) (t : TA) : TE := fun σ H Q => σ[i]? = some (some (.ref C)) ∧ tMakeR C sp E t σ H Q
theorem pe_mkSL {X : Cx} {CX : CXT} {k i : Nat} {C : Addr} {x y : Str} {sp : Sp} {E : XK} {e : Expr} {te : TE} {p pos sp_ : Pos} (G : IFn X.prog X.w X.K X.mg X.base CX k C y sp) (hr : Room (k + 1) X.A) (hx : Passes CX X E) (hN : X.N[i]? = some x) (hv : Vis X.env.scope x) (he : PE X e te)
    (hdb : (x == ("__debug__" : Str)) = false := by decide) (hcd : (x == ("__classdict__" : Str)) = false := by decide)
    (hst : starEach [.Starred e sp_] X.env = [(true, eval e X.env)] := by rfl) : PE X (.Call (.Name x p) [.Starred e sp_] [] pos) (tMkL i C sp E (tStar X.K te tNil)) := by
  obtain ⟨f, F, M, hm⟩ := G.ex
  refine ⟨fun pins s σ H Q I h => ?_⟩
  obtain ⟨hs, ht⟩ := h
  refine wpAny_Call_Name_kw (thn ((pe_var (pos := p) hN hv hdb hcd).run pins s σ H (fun v H1 => v = .ref C ∧ H1 = H) I ⟨.ref C, hs, rfl, rfl⟩) fun u s1 ⟨v, H1, I1, r1, q1⟩ => ?_)
  obtain ⟨rfl, rfl⟩ := q1
  cases r1
  refine PySem.W.callWith_S (h₀ := X.base) I.ok.mod.kin M.kp (thn (he.run pins s1 σ _ _ I1 ht) fun v s1 ⟨y, H1, I1, ry, a, xs, ey, hxs, q⟩ => ?_) hst
  subst ey
  obtain rfl : v = Value.ref a := ry
  refine star_any I1 hxs fun us s2 I2 rv => ⟨I2.kIn, run_makeR M F hr hx I2 rv ?_⟩
  have q' : ∀ x dx, H1 x = none → H1 dx = none → dx ≠ x → sp (V.ref x :: (xs ++ [])) (upd (upd H1 dx (.own x)) x (.ins C dx [])) (fun v H2 => v = .non ∧ Q (.ref x) H2) E := q
  rw [List.append_nil] at q'
  exact q'
end MF
set_option Elab.async false
set_option linter.all false
set_option maxHeartbeats 1000000
set_option maxRecDepth 100000
namespace MF
open PySem PySem.Spec PyProof.Rows Builtin Float
theorem groups_uniq {g : Nat → Nat → Nat → List Nat → Int → List Nat → List Nat} (h0 : ∀ size sep d r o, g size sep 0 d r o = o)
    (h1 : ∀ size sep t d (r : Int) o, g size sep (t + 1) d r o = (if (d.drop (min size (max (max (d.length : Int) r) 1).toNat)).isEmpty && r - (min size (max (max (d.length : Int) r) 1).toNat : Nat) ≤ 0 then List.replicate ((min size (max (max (d.length : Int) r) 1).toNat) - d.length) 48 ++ (d.take (min size (max (max (d.length : Int) r) 1).toNat)).reverse ++ o
      else g size sep t (d.drop (min size (max (max (d.length : Int) r) 1).toNat)) (r - (min size (max (max (d.length : Int) r) 1).toNat : Nat) - 1) (sep :: (List.replicate ((min size (max (max (d.length : Int) r) 1).toNat) - d.length) 48 ++ (d.take (min size (max (max (d.length : Int) r) 1).toNat)).reverse ++ o)))) :
    ∀ size sep t d r o, g size sep t d r o = groupsFromRight' size sep t d r o := by
  intro size sep t
  induction t with
  | zero => intro d r o; rw [h0]; rfl
  | succ t ih =>
    intro d r o
    rw [h1]
    unfold groupsFromRight'
    simp only []
    split
    · rfl
    · rw [ih]
def f30 : FormatSpec := { fill := 46, align := 62, width := some 30, grouping := some ',' }
def grp3 (ds : List Nat) : List Nat := groupsFromRight' 3 44 (ds.length + 1) ds.reverse 0 []
def dots30 (ds : List Nat) : Str := ⟨(List.replicate (30 - (grp3 ds).length) 46 ++ grp3 ds).toArray⟩
theorem field_uniq {F : FormatSpec → Bool → List Nat → List Nat → List Nat → Nat → Str} {X : Nat → List Nat → List Nat}
    (hF : ∀ d ds, F f30 false [] (d :: ds) [] 3 = ⟨(List.replicate ((30 : Int) - (((([] : List Nat).length : Nat) : Int) + ((([] : List Nat).length : Nat) : Int) + ((([] : List Nat).length : Nat) : Int)) - (((X d ds).length : Nat) : Int)).toNat 46 ++ [] ++ [] ++ List.replicate 0 46 ++ X d ds ++ [] ++ List.replicate 0 46).toArray⟩)
    (h : ∀ d ds, X d ds = groupsFromRight' 3 44 ((d :: ds).length + 1) (d :: ds).reverse 0 []) {digits : List Nat} (hd : digits ≠ []) : F f30 false [] digits [] 3 = dots30 digits := by
  cases digits with
  | nil => exact absurd rfl hd
  | cons d ds =>
    rw [hF, h]
    have e : groupsFromRight' 3 44 ((d :: ds).length + 1) (d :: ds).reverse 0 [] = grp3 (d :: ds) := rfl
    rw [e]
    have e2 : ((30 : Int) - (((([] : List Nat).length : Nat) : Int) + ((([] : List Nat).length : Nat) : Int) + ((([] : List Nat).length : Nat) : Int)) - (((grp3 (d :: ds)).length : Nat) : Int)).toNat = 30 - (grp3 (d :: ds)).length := by
      simp only [List.length_nil]
      omega
    rw [e2]
    unfold dots30
    simp
theorem ret_eq {M : PySem.Model} {A : Around} {E : Value → Shared → Prop} {s : Shared} {X T : PySem.Str} {Q : PySem.Fin → Shared → Prop} (e : X = T) (hL : T.length ≤ sizeLine) (h : Q (.done (.ret (.str T s.toks))) { s with toks := s.toks + 1 }) : wpAny M A (retStr X) Q E s := by
  subst e
  exact wpAny_bind (wpAny_mkStr (wpAny_pure h) hL)
section
variable {prog : Program} {w : World} {A : Around} {E : Value → Shared → Prop} {s : Shared}
theorem formatField_int30 {a : Nat} {t : Tok} {spec : Str} {f : FormatSpec} {Q : Value → Shared → Prop}
    (hlt : a.log2 < 1920)
    (hp : parseFormatSpec spec.cps.toList "int" 62 = .ok f) (ef : f = f30)
    (hne : (spec.length == 0) = false)
    (hasc : ((spec.cps.toList.drop 1).any (· ≥ 128) || (spec.cps.getD 0 0 ≥ 128 && !([60, 62, 61, 94] : List Nat).contains (spec.cps.getD 1 0))) = false)
    (hty : f.type.getD (if spec.cps.back? == some 0 then 0 else 100) = 100)
    (hlen : (dots30 ((Nat.toDigits 10 a).map Char.toNat)).length ≤ sizeLine)
    (h : Q (.str (dots30 ((Nat.toDigits 10 a).map Char.toNat)) (s.toks + 1)) { s with toks := s.toks + 1 + 1 }) (hsz : spec.length ≤ sizeLine) :
    wpAny (model prog w) A (formatField (.int (a : Int) t) spec) Q E s := by
  have hpr : f.precision = none := by rw [ef]; rfl
  have hz : f.noNeg0 = false := by rw [ef]; rfl
  have hal : f.alt = false := by rw [ef]; rfl
  have hw' : ¬ (f.width.getD 0 > 100000) := by rw [ef]; decide
  show wpAny _ _ (holding [.int (a : Int) t] (pyFormat (.int (a : Int) t) spec)) Q E s
  refine wpAny_holding ?_
  unfold pyFormat
  refine wpAny_bind (wpAny_mkStr ?_ hsz)
  refine wpAny_bind (m := callSpecial? (.int (a : Int) t) (Str.ofString "__format__") [.str spec s.toks]) (wpAny_callSpecial?_slot (name := Str.ofString "__format__") (typeIs_int _ (a : Int) t) slot_int_format ?_)
  refine wpAny_call (codeAny_call_builtin slot_int_format.plain entry_int_format (slot_int_format.check _ _ _ _ _ _ _ _ (typeIs_int _ (a : Int) t) (args_int_format _ _) ?_))
  unfold Builtin.«int.__format__»
  simp only [selfAndOne, noKeywords, Int.intOfSelf, asInt?, asStr?, List.isEmpty_nil, if_true, pure_bind, bind_pure, bind_assoc, hne, hasc, Bool.false_eq_true, if_false,
    show (Value.str spec s.toks == Value.none) = false from rfl]
  refine wpAny_bind (wpAny_typeNameOf (T := "str") (typeIs_str _ _ _) (by decide) fun _ => ?_)
  first | refine wpAny_bind (wpAny_typeNameOfCut_int ?_) | refine wpAny_bind (wpAny_typeNameOf_int ?_)
  simp only [hp, hty]
  rw [if_pos (by decide)]
  show wpAny _ _ (if _ then _ else _) _ _ _
  rw [if_neg (by simp [hpr])]
  show wpAny _ _ (if _ then _ else _) _ _ _
  rw [if_neg (by simp [hz])]
  show wpAny _ _ (if _ then _ else _) _ _ _
  rw [if_neg (by decide)]
  show wpAny _ _ (do let r ← Builtin.overDigitLimit? (a : Int); _) _ _ _
  refine wpAny_bind (wpAny_of_eq (PyProof.Rows.overDigitLimit_small (a := (a : Int)) hlt) ?_)
  show wpAny _ _ (if _ then _ else _) _ _ _
  rw [if_neg (by simpa using hw')]
  show wpAny _ _ (retStr _) _ _ _
  have e1 : ((10 : Nat) == 10) = true := by decide
  have hng : decide (((a : Nat) : Int) < 0) = false := decide_eq_false (by omega)
  have e88 : ((100 : Nat) == 88) = false := by decide
  simp only [hal, hng, e88, Bool.false_eq_true, if_false, e1, if_true]
  have hd : (Nat.toDigits 10 a).map Char.toNat ≠ [] := by
    have := tDigits_len_ge 10 a
    intro z
    have z' := congrArg List.length z
    rw [List.length_map] at z'
    simp at z'
  refine ret_eq (T := dots30 ((Nat.toDigits 10 a).map Char.toNat)) ?e hlen ?_
  case e =>
    subst ef
    show _ = _
    exact field_uniq (fun d ds => rfl) (fun d ds => by
      simp only [f30, List.isEmpty_cons, Bool.false_eq_true, if_false]
      exact groups_uniq (fun _ _ _ _ _ => rfl) (fun _ _ _ _ _ _ => rfl) _ _ _ _ _ _) hd
  dsimp only
  exact wpAny_bind (wpAny_isInstance (typeIs_str _ _ _) isSubtype_str_str (wpAny_pure h))

def dots8 (z : Str) : Str := ⟨(z.cps.toList ++ List.replicate (8 - z.length) 46).toArray⟩
def f8 : FormatSpec := { fill := 46, align := 60, width := some 8 }
theorem strField_short {z : Str} {nm : String} (h : z.length < 8) : Builtin.Str.strField z f8 nm = .ok (some (dots8 z)) := by
  have e : (f8.width.all (· ≤ z.length) && f8.precision.all (· ≥ z.length)) = false := by
    show (decide (8 ≤ z.length) && true) = false
    rw [decide_eq_false (by omega)]
    rfl
  have e2 : Builtin.Str.strField z f8 nm = (if (f8.width.all (· ≤ z.length) && f8.precision.all (· ≥ z.length)) = true then .ok none else .ok (some (Builtin.Str.padded (Builtin.Str.strSub z 0 z.length) 0 (8 - (Builtin.Str.strSub z 0 z.length).length) 46))) := rfl
  rw [e2, e, if_neg Bool.false_ne_true]
  have e3 : Builtin.Str.strSub z 0 z.length = z := by
    unfold Builtin.Str.strSub
    have : z.cps.extract 0 z.length = z.cps := Array.extract_size
    rw [this]
  rw [e3]
  unfold Builtin.Str.padded dots8
  congr 3
  apply Array.ext'
  simp
theorem strField_whole {z : Str} {nm : String} (h : z.length = 8) : Builtin.Str.strField z f8 nm = .ok none := by
  have e : (f8.width.all (· ≤ z.length) && f8.precision.all (· ≥ z.length)) = true := by
    show (decide (8 ≤ z.length) && true) = true
    rw [decide_eq_true (by omega)]
    rfl
  have e2 : Builtin.Str.strField z f8 nm = (if (f8.width.all (· ≤ z.length) && f8.precision.all (· ≥ z.length)) = true then .ok none else .ok (some (Builtin.Str.padded (Builtin.Str.strSub z 0 z.length) 0 (8 - (Builtin.Str.strSub z 0 z.length).length) 46))) := rfl
  rw [e2, e, if_pos rfl]
theorem dots8_whole {z : Str} (h : z.length = 8) : dots8 z = z := by
  unfold dots8
  rw [h]
  simp
end
end MF
set_option Elab.async false
set_option linter.all false
set_option maxHeartbeats 1000000
set_option maxRecDepth 100000
set_option pp.maxSteps 1500
namespace MF
open PySem PySem.Spec PyProof.Rows L2
theorem parse8 : Builtin.Float.parseFormatSpec (Str.cps ".<8").toList "str" 60 = .ok f8 := by rfl
theorem parse30 : Builtin.Float.parseFormatSpec (Str.cps ".>30,").toList "int" 62 = .ok f30 := by rfl
section
variable {prog : Program} {w : World} {A : Around} {E : Value → Shared → Prop} {s : Shared}
theorem formatField_str8 {z : Str} {t : Tok} {Q : Value → Shared → Prop} (hz : z.length ≤ 8) (h : ∀ t' k, Q (.str (dots8 z) t') { s with toks := k }) : wpAny (model prog w) A (formatField (.str z t) ".<8") Q E s := by
  refine PySem.W.KXf.field_str rfl rfl (by decide) (by decide +kernel) (fun u => ?_) h
  apply PySem.W.KPc.meets_of
  intro prog w A s Q E hQ
  unfold Builtin.«str.__format__»
  refine wpAny_bind (wpAny_of_eq (a := (_, _, _)) rfl ?_)
  refine wpAny_bind (wpAny_of_eq (a := some _) rfl ?_)
  refine wpAny_ite (PySem.W.KPc.ite_no (by decide +kernel) ?_)
  refine wpAny_ite (PySem.W.KPc.ite_no (by decide +kernel) ?_)
  refine wpAny_bind (PySem.W.KXf.cut_str ?_)
  by_cases c : z.length < 8
  · have e : ((do
        let f ← Builtin.Float.parseFormatSpec (Str.cps ".<8").toList "str" 60
        let f := if f.type.isNone && (Str.cps ".<8").back? == some 0 then { f with type := some 0 } else f
        if Builtin.Str.tooLong (f.width.getD 0) then return none
        return some (← Builtin.Str.strField z f "str")) : Except String (Option (Option Str))) = .ok (some (some (dots8 z))) := by
      rw [parse8]
      show ((Builtin.Str.strField z f8 "str").bind fun y => .ok (some y)) = _
      rw [strField_short c]
      rfl
    show wpAny _ _ (match ((do
        let f ← Builtin.Float.parseFormatSpec (Str.cps ".<8").toList "str" 60
        let f := if f.type.isNone && (Str.cps ".<8").back? == some 0 then { f with type := some 0 } else f
        if Builtin.Str.tooLong (f.width.getD 0) then return none
        return some (← Builtin.Str.strField z f "str")) : Except String (Option (Option Str))) with
      | .error msg => _
      | .ok none => _
      | .ok (some none) => _
      | .ok (some (some text)) => retStr text) _ _ _
    rw [e]
    exact ret_eq rfl (by show (z.cps.toList ++ List.replicate (8 - z.length) 46).toArray.size ≤ _; have : z.cps.toList.length = z.length := rfl; rw [List.size_toArray, List.length_append, List.length_replicate, this, sizeLine_eq]; omega) (hQ _ _)
  · have c8 : z.length = 8 := by omega
    have e : ((do
        let f ← Builtin.Float.parseFormatSpec (Str.cps ".<8").toList "str" 60
        let f := if f.type.isNone && (Str.cps ".<8").back? == some 0 then { f with type := some 0 } else f
        if Builtin.Str.tooLong (f.width.getD 0) then return none
        return some (← Builtin.Str.strField z f "str")) : Except String (Option (Option Str))) = .ok (some none) := by
      rw [parse8]
      show ((Builtin.Str.strField z f8 "str").bind fun y => .ok (some y)) = _
      rw [strField_whole c8]
      rfl
    show wpAny _ _ (match ((do
        let f ← Builtin.Float.parseFormatSpec (Str.cps ".<8").toList "str" 60
        let f := if f.type.isNone && (Str.cps ".<8").back? == some 0 then { f with type := some 0 } else f
        if Builtin.Str.tooLong (f.width.getD 0) then return none
        return some (← Builtin.Str.strField z f "str")) : Except String (Option (Option Str))) with
      | .error msg => _
      | .ok none => _
      | .ok (some none) => (do rule "str.__format__.unchanged"; ret (.str z t))
      | .ok (some (some text)) => retStr text) _ _ _
    rw [e]
    refine wpAny_bind (wpAny_rule ?_)
    exact PySem.W.KXf.ret_same (dots8_whole c8).symm hQ
end
section
variable {X : Cx}
def tFmt8 (te : TE) : TE := fun σ H Q => te σ H fun x H1 => ∃ z : Str, x = .str z ∧ z.length ≤ 8 ∧ Q (.str (dots8 z)) H1
theorem pe_fmt8 {e : Expr} {te : TE} {kd : Nat} {p1 p2 pos : Pos} (he : PE X e te) : PE X (.FormattedValue e (-1) (some (.JoinedStr [.Constant (.str ".<8") kd p1] p2)) pos) (tFmt8 te) := by
  refine ⟨fun pins s σ H Q I h => ?_⟩
  refine wpAny_FormattedValue_spec (thn (he.run pins s σ H _ I h) fun v s1 ⟨x, H1, I1, r1, z, ex, hz, q⟩ => ?_)
  subst ex
  obtain ⟨t, rfl⟩ := r1
  refine thn ((pe_joined1 pe_str).run pins s1 σ H1 (fun y H2 => y = .str ".<8" ∧ H2 = H1) I1 ⟨rfl, rfl⟩) fun r s2 ⟨y, H2, I2, r2, ey, eH⟩ => ?_
  subst ey
  subst eH
  obtain ⟨t2, rfl⟩ := r2
  exact ⟨_, _, rfl, formatField_str8 hz fun t' k => ⟨.str (dots8 z), _, I2.tok _, ⟨_, rfl⟩, q⟩⟩
def num30 (n : Nat) : Str := dots30 ((Nat.toDigits 10 n).map Char.toNat)
def tFmt30 (te : TE) : TE := fun σ H Q => te σ H fun x H1 => ∃ n : Nat, x = .int (n : Int) ∧ n.log2 < 1920 ∧ (num30 n).length ≤ sizeLine ∧ Q (.str (num30 n)) H1
theorem pe_fmt30 {e : Expr} {te : TE} {kd : Nat} {p1 p2 pos : Pos} (he : PE X e te) : PE X (.FormattedValue e (-1) (some (.JoinedStr [.Constant (.str ".>30,") kd p1] p2)) pos) (tFmt30 te) := by
  refine ⟨fun pins s σ H Q I h => ?_⟩
  refine wpAny_FormattedValue_spec (thn (he.run pins s σ H _ I h) fun v s1 ⟨x, H1, I1, r1, n, ex, hn, hz, q⟩ => ?_)
  subst ex
  obtain ⟨t, rfl⟩ := r1
  refine thn ((pe_joined1 pe_str).run pins s1 σ H1 (fun y H2 => y = .str ".>30," ∧ H2 = H1) I1 ⟨rfl, rfl⟩) fun r s2 ⟨y, H2, I2, r2, ey, eH⟩ => ?_
  subst ey
  subst eH
  obtain ⟨t2, rfl⟩ := r2
  refine ⟨_, _, rfl, formatField_int30 hn parse30 rfl (by decide) (by decide +kernel) (by decide +kernel) hz ⟨.str (num30 n), _, I2.tok _, ⟨_, rfl⟩, q⟩ (by decide +kernel)⟩
end
end MF
set_option Elab.async false
set_option linter.all false
namespace MF
open PySem PySem.Spec PyProof.Rows L2 StX
theorem newS {H H2 : Hp} {q : Addr} {o : HO} (h : H q = none) (e : L2.upd H q o = H2) : Same H H2 ∧ H2 q = some o := by
  subst e
  exact ⟨Same.new h, upd_same⟩
end MF
set_option Elab.async false
set_option linter.all false
set_option maxRecDepth 100000
set_option maxHeartbeats 2000000
namespace MF
open PySem PySem.Spec PyProof.Rows L2 StX ClX
theorem passE {P : Program} {w : World} {K : PySem.W.Frag} {mg : Str → Option Value} {base : Heap} {N : List Str} {q : Str} {sc : Scope} {f : Addr} {cdv : Value} {A : Around} {outer : List Env} {s : Shared} {H : Hp} {E : XK} :
    Passes (L2.CX P w) (cxOf (L2.CX P w) P w K mg base N q sc f cdv A outer s H E) E := passes_call (W := fun cls d _ H => E cls d H) (takes_of rfl rfl rfl rfl) fun _ _ _ _ h => h
theorem takeE {P : Program} {w : World} {K : PySem.W.Frag} {mg : Str → Option Value} {base : Heap} {N : List Str} {q : Str} {sc : Scope} {f : Addr} {cdv : Value} {A : Around} {outer : List Env} {s : Shared} {H : Hp} {E : XK} :
    Takes (cxOf (L2.CX P w) P w K mg base N q sc f cdv A outer s H E) (fun cls d _ H => E cls d H) := takes_of rfl rfl rfl rfl
def txtOf : V → Str
  | .str y => y
  | .int i => toString i
  | .bl b => if b then "True" else "False"
  | _ => "None"
def FmtOk : V → Prop
  | .str y => y.length ≤ 1000
  | .int i => i.natAbs.log2 < 1920
  | .bl _ => True
  | .non => True
  | _ => False
def tFmtV (te : TE) : TE := fun σ H Q => te σ H fun x H1 => FmtOk x ∧ ∀ y : Str, y.length ≤ 100000 → Q (.str y) H1
theorem int_len (i : Int) (h : i.natAbs.log2 < 1920) : (Str.ofString (toString i)).length ≤ 100000 := by
  have e := int_text_length_le (k := 1920) (by decide) h
  rw [PySem.ofString_length]
  omega
section
variable {X : Cx}
theorem pe_fmtV {e : Expr} {te : TE} {pos : Pos} (he : PE X e te) : PE X (.FormattedValue e (-1) none pos) (tFmtV te) := by
  refine ⟨fun pins s σ H Q I h => ?_⟩
  refine wpAny_FormattedValue_plain (thn (he.run pins s σ H _ I h) fun v s1 hv => ?_)
  obtain ⟨x, H1, I1, r1, hx, q⟩ := hv
  cases x with
  | str y =>
    obtain ⟨t, rfl⟩ := r1
    have hz : y.length ≤ 1000 := hx
    have hz2 : y.length ≤ sizeLine := Nat.le_trans hz (by rw [sizeLine_eq]; omega)
    exact wpAny_formatField_str ⟨.str y, H1, I1, ⟨t, rfl⟩, q y (by omega)⟩ ⟨.str y, H1, I1.tok _, ⟨_, rfl⟩, q y (by omega)⟩ hz2
  | int i =>
    obtain ⟨t, rfl⟩ := r1
    exact wpAny_formatField_int hx ⟨.str (toString i), H1, I1.tok _, ⟨_, rfl⟩, q _ (int_len i hx)⟩
  | bl b =>
    obtain rfl : v = Value.bool b := r1
    refine wpAny_formatField_bool ⟨.str (if b then "True" else "False"), H1, I1.tok _, ⟨_, rfl⟩, q _ ?_⟩
    cases b <;> decide +kernel
  | non =>
    obtain rfl : v = Value.none := r1
    exact wpAny_formatField_none ⟨.str "None", H1, I1.tok _, ⟨_, rfl⟩, q _ (by decide +kernel)⟩
  | _ => exact hx.elim
structure BaseC (K : PySem.W.Frag) (B : Addr) : Prop where
  ex : ∃ mc, CRead K B mc ∧ PySem.W.findCls K (.ref B) mc "__init__" = some (.val (.builtin "ValueError.__init__"))
theorem pe_binit {pl : Sem Bool} {B : Addr} {x : Str} {e : Expr} {es : List Expr} {ta : TA} {p1 p2 pos : Pos} (hg : Gl X x) (hm : X.mg x = some (.ref B)) (b : BaseC X.K B) (ha : PA X (e :: es) ta) (hdb : (x == ("__debug__" : Str)) = false := by decide)
    (hc : eval (.Call (.Attribute (.Name x p1) "__init__" p2) (e :: es) [] pos) X.env = (do
      let ov ← eval (.Name x p1) X.env
      standAt p2.atName
      let (f, first) ← holding [ov] (getMethod ov "__init__" pl)
      callWith pos f first (backTo pos (starEach (e :: es) X.env)) (backToKw pos (keywordEach [] X.env))) := by rfl)
    (he : starEach (e :: es) X.env = (false, eval e X.env) :: starEach es X.env := by rfl) (hpl : (backTo pos (starEach es X.env)).any (·.1) = false := by rfl) :
    PE X (.Call (.Attribute (.Name x p1) "__init__" p2) (e :: es) [] pos) (tVeI X.K ta) := by
  refine ⟨fun pins s σ H Q I h => ?_⟩
  obtain ⟨mc, r, f0⟩ := b.ex
  refine PySem.W.methodCall_KW (ld_glob I hg hm ?_ hdb) hc
  refine PySem.W.method_cls I.kIn r.ga (PySem.W.cls_value I.kIn r.rd f0 rfl ?_)
  show wpAny _ _ (callWith pos (Value.builtin "ValueError.__init__") [] (backTo pos (starEach (e :: es) X.env)) []) _ _ _
  refine PyProof.Rows.callWith_method1 (thn (ha.run pos pins _ σ H _ (I.tok _) h) fun us s1 ⟨vs, H1, I1, r1, a, C, ws, ev, hl, T, ea, q⟩ => ?_) he hpl
  subst ev
  cases r1 with
  | @cons _ u0 _ ur ra rw' =>
    obtain rfl : u0 = Value.ref a := ra
    have hlen : ur.length ≤ sizeLine := by
      rw [← Paired.length rw', sizeLine_eq]
      omega
    exact oinit_ok T I1 ea hlen fun s' J => ⟨.non, H1, J, rfl, q⟩
end
structure EDef0 (K : PySem.W.Frag) (mg : Str → Option Value) (C : Addr) (x : Str) : Prop where
  bm : PySem.W.excIn K C [.type "ValueError", .type "Exception", .type "BaseException", .type "object"] "ValueError.__new__" = true
  gC : mg x = some (.ref C)
  kC : PySem.W.keepIn K (.ref C) = true
  exC : PySem.W.subIn K (.ref C) (.type "BaseException") = some true
  tyC : PySem.W.typeIn K (.ref C) = some (.type "type")
theorem pmk_0 {X : Cx} {C : Addr} {x : Str} {e : Expr} {es : List Expr} {t : TA} {p pos : Pos} (D : EDef0 X.K X.mg C x) (ha : PA X (e :: es) t) (hg : Gl X x := by rfl) (hdb : (x == ("__debug__" : Str)) = false := by decide)
    (he : starEach (e :: es) X.env = (false, eval e X.env) :: starEach es X.env := by rfl) (hpl : (backTo pos (starEach es X.env)).any (·.1) = false := by rfl) :
    PMk X (.Call (.Name x p) (e :: es) [] pos) (fun σ H Q => t σ H fun vs H1 => vs.length ≤ sizeLine ∧ Q (.ref C) none H1) :=
  pmk_ownA F.excBase_ValueError D.bm D.gC D.kC (raises_own D.exC D.tyC) hg ha hdb he hpl
structure EDef (K : PySem.W.Frag) (mg : Str → Option Value) (C : Addr) (x qual : Str) (st : Stmt) (ps : List Str) : Prop where
  ex : ∃ f fd, Fun K "__init__" qual st f fd ∧ PySem.W.findIn K (.ref C) "__init__" = some (some (.ref f)) ∧ PySem.W.typeIn K (.ref f) = some (.type "function") ∧ Binds K fd ps []
  ox : OexC K C
  gC : mg x = some (.ref C)
structure EFn (P : Program) (w : World) (K : PySem.W.Frag) (mg : Str → Option Value) (base : Heap) (CX : CXT) (k : Nat) (C : Addr) (x : Str) (ps : List Str) (sp : Sp) : Prop where
  ex : ∃ f fd, FnOk P w K mg base CX k f fd ps sp ∧ PySem.W.findIn K (.ref C) "__init__" = some (some (.ref f)) ∧ PySem.W.typeIn K (.ref f) = some (.type "function") ∧ Binds K fd ps []
  ox : OexC K C
  gC : mg x = some (.ref C)
theorem EDef.fn {P : Program} {w : World} {K : PySem.W.Frag} {mg : Str → Option Value} {base : Heap} {CX : CXT} {k : Nat} {C : Addr} {x qual : Str} {st : Stmt} {ps : List Str} {sp : Sp} (D : EDef K mg C x qual st ps) (h : ∀ f fd, Fun K "__init__" qual st f fd → FnOk P w K mg base CX k f fd ps sp) : EFn P w K mg base CX k C x ps sp :=
  let ⟨f, fd, a, b, c, d⟩ := D.ex
  ⟨⟨f, fd, h f fd a, b, c, d⟩, D.ox, D.gC⟩
def spE1 (K : PySem.W.Frag) (C : Addr) (n : Str) : Sp := fun vs H Q _ => ∃ a v, vs = [.ref a, v] ∧ FmtOk v ∧ H a = some (exo a C none) ∧ ∀ dx, H dx = none → dx ≠ a → Q .non (upd (upd H dx (exd dx [(n, v)])) a (exo a C (some dx)))
theorem pmk_1 {X : Cx} {k : Nat} {C : Addr} {x : Str} {ps : List Str} {sp : Sp} {e : Expr} {es : List Expr} {t : TA} {p pos : Pos} (D : EFn X.prog X.w X.K X.mg X.base CX0 k C x ps sp) (hr : Room (k + 1) X.A) (ha : PA X (e :: es) t) (hg : Gl X x := by rfl) (hdb : (x == ("__debug__" : Str)) = false := by decide)
    (he : starEach (e :: es) X.env = (false, eval e X.env) :: starEach es X.env := by rfl) (hpl : (backTo pos (starEach es X.env)).any (·.1) = false := by rfl) :
    PMk X (.Call (.Name x p) (e :: es) [] pos) (tMkO C sp [] t) := by
  obtain ⟨f, fd, F1, b, c, d⟩ := D.ex
  exact pmk_oex (p := p) (pos := pos) (dvs := []) (ds := []) D.ox b c F1 hr d .nil pass0 hg D.gC ha hdb he hpl
theorem e1_fin {K : PySem.W.Frag} {C : Addr} {n : Str} {v : V} {H1 : Hp} {Q : XK} (hf : FmtOk v) (h : ∀ d H3, Same H1 H3 → H1 d = none → H3 d = some (.xd [(n, v)]) → Q (.ref C) (some d) H3) :
    [v].length ≤ 1000 ∧ ∀ a, H1 a = none → spE1 K C n (.ref a :: ([v] ++ [])) (upd H1 a (exo a C none))
      (fun v H2 => v = .non ∧ ∃ (d : Addr) (fs : List (Str × V)), H2 a = some (exo a C (some d)) ∧ H2 d = some (exd d fs) ∧ H1 d = none ∧ Q (.ref C) (some d) (upd (del H2 a) d (.xd fs))) (fun _ _ _ => False) := by
  refine ⟨by simp, fun a ha => ⟨a, v, rfl, hf, upd_same, fun dx hd ne => ⟨rfl, dx, [(n, v)], upd_same, ?_, ?_, ?_⟩⟩⟩
  · rw [upd_ne ne, upd_same]
  · rw [upd_ne ne] at hd
    exact hd
  · have hd1 : H1 dx = none := by
      rw [upd_ne ne] at hd
      exact hd
    refine h dx _ (fun b u e => ?_) hd1 upd_same
    rw [upd_ne (ne_of_none e hd1), del_ne (ne_of_none e ha), upd_ne (ne_of_none e ha), upd_ne (ne_of_none e hd1), upd_ne (ne_of_none e ha)]
    exact e
end MF
namespace PySem.W
open PySem PySem.Spec PySem.Calls PyProof.Rows
section
variable {prog : Program} {w : World} {A : Around} {E : Value → Shared → Prop} {s : Shared} {K : Frag} {x D : Addr} {ox : Obj} {od : Option Obj}
theorem mf_findObj {C : Addr} {name : Str} {a g : Value} (hc : (clsIn K C).isSome = true) (ha : findIn K (.ref C) name = some (some a)) (hg : specialIn K a "__get__" = some (some g)) (ht : takesIn K a = some true) : findObj K C od name = some (.bind g a) := by
  cases od with
  | none => exact findObj_dataN hc ha hg ht
  | some od => exact findObj_data hc ha hg ht
theorem mf_classE {Q : Option Value → Shared → Prop} (hga : findIn K (.ref D) "__getattribute__" = some (some (.builtin "BaseException.__getattribute__"))) (hgt : findIn K (.ref D) "__getattr__" = some none) (hsub : subIn K (.ref D) (.type "BaseException") = some true)
    (hdct : hasDictIn K D = true) (ha : findIn K (.ref D) "__class__" = some (some (.builtin "object.__class__")))
    (hn : specialIn K (.builtin "object.__class__") "__get__" = some (some (.builtin "getset_descriptor.__get__"))) (htk : takesIn K (.builtin "object.__class__") = some true) (hm : mroIn K D (.type "object") = some true)
    (X : K.In s.heap) (I : InstAt s.heap x ox D od) (h : Q (some (.ref D)) { s with toks := s.toks + 1 }) : wpAny (model prog w) A (getAttr? (.ref x) "__class__") Q E s := by
  have hf : findObj K D od "__class__" = some (.bind (.builtin "getset_descriptor.__get__") (.builtin "object.__class__")) := mf_findObj (by obtain ⟨cd, hc, _⟩ := any_some hdct; rw [hc]; rfl) ha hn htk
  obtain ⟨hp, g, d, t, os⟩ := s
  have L0 := I.type (M := model prog w)
  have L1 := looks_findIn (M := model prog w) X hga
  have L2 := looks_findIn (M := model prog w) X hgt
  have L3 := looks_find (M := model prog w) X I hf
  have sub : Looks (model prog w) hp (isInstance (.ref x) (.type "BaseException")) true := L0.andThen (looks_subIn X hsub)
  have hx0 : (false && onTheHeap (Value.builtin "BaseException.__getattribute__")) = false := rfl
  have hx2 : (Value.builtin "BaseException.__getattribute__" == Value.builtin "object.__getattribute__") = false := by decide +kernel
  have hx1 : (onTheHeap (Value.ref D) && Value.builtin "BaseException.__getattribute__" == Value.builtin "object.__getattribute__") = false := by rw [hx2]; rfl
  unfold getAttr? getAttrBy? getAttrBy
  refine wpAny_bind (wpAny_mkText (wpAny_bind (wpAny_attempt (wpAny_holding (wpAny_bind (L0.at (wpAny_bind (L1.at ?_))))))))
  show wpAny _ _ (if (onTheHeap (Value.ref D) && Value.builtin "BaseException.__getattribute__" == Value.builtin "object.__getattribute__") = true then _ else _) _ _ _
  rw [hx1, if_neg Bool.false_ne_true]
  unfold getAttrByItsOwn hookBefore
  refine wpAny_bind ?_
  rw [if_pos (show onTheHeap (Value.ref D) = true from rfl)]
  refine L2.at ?_
  refine wpAny_bind (wpAny_attempt (wpAny_holding ?_))
  unfold callGetattribute
  rw [hx0, if_neg Bool.false_ne_true]
  unfold boundAndCalled
  rw [PySem.F.excAttr_ValueError.ga.bind (.ref x)]
  refine wpAny_bind (wpAny_pure ?_)
  show wpAny _ _ (call (.builtin "BaseException.__getattribute__") [.ref x, .str "__class__" t]) _ _ _
  refine wpAny_call (codeAny_call_builtin PySem.F.excAttr_ValueError.ga.plain PySem.F.entry_bexc_ga ?_)
  refine @check_slot (model prog w) _ _ ⟨hp, g, d, t + 1, os⟩ "BaseException.__getattribute__" "BaseException" "__getattribute__" (.ref x) [.str "__class__" t] [] _ (by decide +kernel) (by decide +kernel) sub (PySem.F.args_bexc_ga (.ref x) (.str "__class__" t)) ?_
  unfold Builtin.«object.__getattribute__»
  refine wpAny_bind (wpAny_of_eq (a := ((Value.ref x : Value), [Value.str "__class__" t])) (by first | rfl | (simp only [slotArgs]; rfl)) ?_)
  refine wpAny_bind (wpAny_pure (wpAny_bind (L0.at (wpAny_bind (L3.at ?_)))))
  show wpAny _ _ (holding [Value.builtin "object.__class__"] (call (.builtin "getset_descriptor.__get__") [.builtin "object.__class__", .ref x, .ref D]) >>= ret) _ _ _
  refine wpAny_bind (wpAny_holding (wpAny_call (class_get (s := ⟨hp, g, d, t + 1, os⟩) (ox := ox) (od := od) X I hm ?_)))
  refine wpAny_pure ?_
  show wpAny _ _ (handedOut (.ref D)) _ _ _
  rw [handedOut_of (v := .ref D) rfl]
  first
    | exact wpAny_pure (wpAny_pure h)
    | exact wpAny_pure h
    | exact wpAny_pure (wpAny_bind (wpAny_pure (wpAny_pure h)))
theorem mf_kitx (hga : findIn K (.ref D) "__getattribute__" = some (some (.builtin "BaseException.__getattribute__"))) (hgt : findIn K (.ref D) "__getattr__" = some none) (hsub : subIn K (.ref D) (.type "BaseException") = some true) (hdct : hasDictIn K D = true) (ha : findIn K (.ref D) "__class__" = some (some (.builtin "object.__class__")))
    (hn : specialIn K (.builtin "object.__class__") "__get__" = some (some (.builtin "getset_descriptor.__get__"))) (htk : takesIn K (.builtin "object.__class__") = some true) (hm : mroIn K D (.type "object") = some true) :
    KitX K (.ref x) (.ref D) (fun h => InstAt h x ox D od) where
  ty := fun _ _ _ I => I.type
  it := fun _ _ X _ => by
    obtain ⟨cdD, hcD, _⟩ := any_some hdct
    unfold clsIn at hcD
    split at hcD
    · rename_i c' d' cd' sl' ho
      intro A' Q' E' s' k q
      unfold isType loadHead
      exact wpAny_bind (wpAny_loadPart (k _ _ (X _ _ ho)) (wpAny_pure q))
    · cases hcD
  ne := fun h tp dd its n sl X htp => by
    obtain ⟨cdD, hcD, _⟩ := any_some hdct
    refine Bool.eq_false_iff.mpr fun q => ?_
    have e : D = tp := Value.ref.inj (beq_iff_eq.mp q)
    subst e
    unfold clsIn at hcD
    split at hcD
    · rename_i c' d' cd' sl' ho
      have z := (X _ _ ho).symm.trans htp
      cases z
    · cases hcD
  ca := fun X I k => mf_classE hga hgt hsub hdct ha hn htk hm X I k
end
end PySem.W
namespace MF
open PySem PySem.Spec PyProof.Rows L2 StX ClX
def DictSt (H : Hp) (d : Option Addr) : Prop := ∀ dd, d = some dd → ∃ fs : List (Str × V), H dd = some (.xd fs)
def rIsX (K : PySem.W.Frag) (D a : Addr) (d : Option Addr) : List V → Hp → VK → Prop := fun xs H Q => ∃ (c : V) (cv : Value) (b : Bool), xs = [.ref a, c] ∧ (∀ u, RelV c u → u = cv) ∧ PySem.W.kitOne K (.ref D) cv = some b ∧ DictSt H d ∧ Q (.bl b) H
theorem call_isX {X : Cx} {a D : Addr} {d : Option Addr} {oe : Obj} {pn : List (Addr × Obj)} (C : ExcC X.K D) (hz : Zc (.ref D) d oe) (hf : ∃ vs, oe.data = .fields vs) : CallR (X.suite a ((a, oe) :: pn)) (.builtin "isinstance") (rIsX X.K D a d) := by
  intro pins s σ H xs us Q I r h
  obtain ⟨c, cv, b, rfl, hcv, e, hd, q⟩ := h
  cases r with
  | cons rx rr =>
    cases rr with
    | cons rt rr =>
      cases rr
      cases rx
      have ec := hcv _ rt
      subst ec
      obtain ⟨hget, _⟩ := I.pin (a, oe) (List.mem_append.mpr (.inl List.mem_cons_self))
      obtain ⟨vs, hv⟩ := hf
      have J : ∃ od, PySem.W.InstAt s.heap a oe D od := by
        cases d with
        | none =>
          obtain ⟨oc, odd, oda, osl⟩ := oe
          obtain ⟨h1, h2⟩ := hz
          dsimp only at h1 h2 hv
          subst h1 h2 hv
          exact ⟨none, hget, rfl, rfl, trivial⟩
        | some dd =>
          obtain ⟨fs, hx⟩ := hd dd rfl
          have hx' : ObjOk X.prog X.w H s.heap dd (.xd fs) := I.hok dd _ hx
          obtain ⟨mA, hns, hr⟩ := hx'
          obtain ⟨od, ho, hl⟩ := lookIn_ns hns
          exact ⟨some od, hget, hz.1, by unfold PySem.W.notCls; rw [hv] <;> rfl, by rw [hz.2]; exact ho⟩
      obtain ⟨od, J⟩ := J
      exact PySem.W.kia_one (PySem.W.mf_kitx C.hg C.hk C.hs C.hd C.ha C.hn C.ht C.hm) I.kIn J e (fun z => nomatch z) fun tk => ⟨.bl b, H, I.kept (t' := tk) fun _ _ z => z, rfl, q⟩
end MF
set_option Elab.async false
set_option linter.all false
set_option maxRecDepth 100000
set_option maxHeartbeats 2000000
namespace MF
open PySem PySem.Spec PyProof.Rows L2 StX LamX
abbrev lamFd (q : Str) (params : Arguments) (body : Expr) (scope : Scope) (cl : List (Str × Addr)) (dV doc pm cv ctv : Value) : FuncData := PySem.W.kdv_fn "<lambda>" q params (.expr body) scope cl dV doc pm cv ctv
def LamO (f : Addr) (q : Str) (params : Arguments) (body : Expr) (scope : Scope) (cl : List (Str × Addr)) (dV : Value) (c' : Addr) : HO :=
  .ext fun h => ∃ doc pm ctv : Value, h.get? f = some { cls := .type "function", data := .func (lamFd q params body scope cl dV doc pm (.ref c') ctv) }
def DfO (T : Addr) : HO := .ext fun h => ∃ u : Value, h.get? T = some (PySem.W.kdv_tup [u])
section
variable {P : Program} {w : World} {H : Hp} {h : Heap} {f c' T : Addr} {q : Str} {params : Arguments} {body : Expr} {scope : Scope} {cl : List (Str × Addr)} {dV doc pm ctv u : Value}
theorem lamO_ok (e : h.get? f = some { cls := .type "function", data := .func (lamFd q params body scope cl dV doc pm (.ref c') ctv) }) : ObjOk P w H h f (LamO f q params body scope cl dV c') :=
  ⟨⟨doc, pm, ctv, e⟩, ⟨_, e⟩, fun h1 h2 z k => by
    obtain ⟨d, p, t, a⟩ := z
    exact ⟨d, p, t, k _ a⟩⟩
theorem lamO_ne (ps : Array Value) : LamO f q params body scope cl dV c' ≠ .tbl ps := fun z => by
  unfold LamO at z
  cases z
theorem lamO_at (hok : HOk P w H h) (e : H f = some (LamO f q params body scope cl dV c')) : ∃ doc pm ctv : Value, h.get? f = some { cls := .type "function", data := .func (lamFd q params body scope cl dV doc pm (.ref c') ctv) } := by
  have x : ObjOk P w H h f (LamO f q params body scope cl dV c') := hok f _ e
  exact x.1
theorem dfO_ok (e : h.get? T = some (PySem.W.kdv_tup [u])) : ObjOk P w H h T (DfO T) :=
  ⟨⟨u, e⟩, ⟨_, e⟩, fun h1 h2 z k => by
    obtain ⟨v, a⟩ := z
    exact ⟨v, k _ a⟩⟩
theorem dfO_at (hok : HOk P w H h) (e : H T = some (DfO T)) : ∃ u : Value, h.get? T = some (PySem.W.kdv_tup [u]) := by
  have x : ObjOk P w H h T (DfO T) := hok T _ e
  exact x.1
end
def DflAt (dx : Option Str) (dV : Value) (H : Hp) : Prop := match dx with
  | none => dV = .none
  | some _ => ∃ T, dV = .ref T ∧ H T = some (DfO T)
theorem DflAt.keep {dx : Option Str} {dV : Value} {H H' : Hp} (h : DflAt dx dV H) (e : ∀ b φ, H b = some (.ext φ) → H' b = some (.ext φ)) : DflAt dx dV H' := by
  cases dx with
  | none => exact h
  | some x =>
    obtain ⟨T, e1, e2⟩ := h
    exact ⟨T, e1, e _ _ e2⟩
theorem DflAt.extN {dx : Option Str} {dV : Value} {H H' : Hp} (h : DflAt dx dV H) (e : ExtN H H') : DflAt dx dV H' := h.keep fun b φ z => e _ _ z fun ps y => by cases y
section
variable {X : Cx} {pins : List (Addr × Obj)} {σ : L2.St} {H : Hp} {s : Shared}
theorem lam_tailO {dx : Option Str} {dV : Value} {T : List (Addr × Str)} {c P : Addr} {params : Arguments} {body : Expr} {scope : Scope} {pos : Pos} {E : Value → Shared → Prop} {Q : Value → Shared → Prop} (I : Inv X pins σ H s) (TB : TabB X.base X.mg c P) (hcode : X.env.code = .ref c)
    (hm : (P, X.env.qual ++ "<lambda>") ∈ T) (hu : ∀ p ∈ T, p.1 = P → p.2 = X.env.qual ++ "<lambda>") (hT : Tabs T H) (hfree : ∀ y ∈ scope.names, y.2 = .free → ∃ c, X.env.cells.lookup y.1 = some c) (hD : DflAt dx dV H)
    (h : ∀ (f c' : Addr) (H1 : Hp) (s' : Shared), Inv X pins σ H1 s' → ExtN H H1 → Tabs T H1 → H f = none → H1 f = some (LamO f (X.env.qual ++ "<lambda>") params body scope (cloFrom X.env.cells scope.names []) dV c') → DflAt dx dV H1 → H1 c' = some (CodeO c' (X.env.qual ++ "<lambda>")) → Q (.ref f) s') :
    wpAny (model X.prog X.w) X.A (makeTail "<lambda>" (X.env.qual ++ "<lambda>") params (.expr body) scope X.env dV .none none pos pos.line) Q E s := by
  obtain ⟨ps, hP, ht, ha⟩ := hT _ hm
  have bP : s.heap.BuiltinsAt X.mg P := TB.bm.keeps I.bk
  have hP' : s.heap.get? P = some { cls := .none, data := .fields ps } := I.hok P _ hP
  have step : ∀ (h' : Heap) (tk : Nat) (H1 : Hp) (c' : Addr) (doc ctv : Value), Inv X pins σ H1 { s with heap := h', toks := tk } → s.heap.objs.size ≤ h'.objs.size → ExtN H H1 → Tabs T H1 → H1 c' = some (CodeO c' (X.env.qual ++ "<lambda>")) →
      Q (.ref h'.objs.size) { s with heap := h'.push (PySem.W.kdv_obj "<lambda>" (X.env.qual ++ "<lambda>") params (.expr body) scope (cloFrom X.env.cells scope.names []) dV doc ((X.mg "__name__").getD .none) c' ctv), toks := tk } := by
    intro h' tk H1 c' doc ctv I1 hsz eN T1 hc
    have n1 : H1 h'.objs.size = none := I1.hok.fresh (Nat.le_refl _)
    have J := I1.laid (t' := tk) (a := h'.objs.size) (h' := h'.push (PySem.W.kdv_obj "<lambda>" (X.env.qual ++ "<lambda>") params (.expr body) scope (cloFrom X.env.cells scope.names []) dV doc ((X.mg "__name__").getD .none) c' ctv)) (o := LamO h'.objs.size (X.env.qual ++ "<lambda>") params body scope (cloFrom X.env.cells scope.names []) dV c')
      (fun b o e => Heap.get?_push_of_some _ e) (Nat.le_refl _) (lamO_ok (Heap.get?_push_size _ rfl))
    have e2 : ExtN H1 (upd H1 h'.objs.size (LamO h'.objs.size (X.env.qual ++ "<lambda>") params body scope (cloFrom X.env.cells scope.names []) dV c')) := ExtN.of fun b o e => by rw [upd_ne (ne_of_none e n1)]; exact e
    refine h h'.objs.size c' _ _ J (eN.trans e2) (T1.ext fun b o e => by rw [upd_ne (ne_of_none e n1)]; exact e) (I.hok.fresh hsz) upd_same ((hD.extN eN).extN e2) (by rw [upd_ne (ne_of_none hc n1)]; exact hc)
  cases hc : codeAmong pos ps.toList with
  | none =>
    refine PySem.W.kdv_makeTail (mg := X.mg) (c := c) (P := P) (ps := ps) (closure_ok hfree) I.ok.glob (I.mod.glob.keeps I.bk) hcode (TB.code.keeps I.bk) hP' ht hc TB.gP bP fun c' ctv doc h' tk hx hge hlt hrec htb => ?_
    obtain ⟨c2, oc, vs, t, e2, hoc, hd, hv⟩ := hrec
    cases e2
    have nC : H c' = none := I.hok.fresh hge
    have I1 := inv_table (t' := tk) (q := X.env.qual ++ "<lambda>") (more := #[rawInt pos.line, rawInt pos.col, .ref c']) (h' := h') I hP (fun b o hb e => hx b o hb e) htb hge ⟨oc, vs, t, hoc, hd, hv⟩
    have hE : ExtN H (upd (upd H P (.tbl (ps ++ #[rawInt pos.line, rawInt pos.col, .ref c']))) c' (CodeO c' (X.env.qual ++ "<lambda>"))) := fun b o e n => by
      rw [upd_ne (ne_of_none e nC), upd_ne (fun z => n ps (Option.some.inj (e.symm.trans (by rw [z]; exact hP))))]
      exact e
    have eL : (ps ++ #[rawInt pos.line, rawInt pos.col, .ref c']).toList = ps.toList ++ [rawInt pos.line, rawInt pos.col, .ref c'] := by simp
    refine step h' tk _ c' doc ctv I1 (Nat.le_trans hge (Nat.le_of_lt hlt)) hE (fun p hp => ?_) upd_same
    by_cases hb : p.1 = P
    · rw [hu p hp hb, hb]
      refine ⟨_, by rw [upd_ne (ne_of_none hP nC), upd_same], by rw [eL]; exact PySem.TriplesOk_snoc _ _ _ _ ht, fun p' cv hcv => ?_⟩
      rw [eL] at hcv
      rcases among_app _ ht hcv with z | z
      · obtain ⟨c0, e1, e2⟩ := ha p' cv z
        exact ⟨c0, e1, hE _ _ e2 codeO_ne⟩
      · exact ⟨c', z, upd_same⟩
    · obtain ⟨ps', a1, a2, a3⟩ := hT p hp
      refine ⟨ps', by rw [upd_ne (ne_of_none a1 nC), upd_ne hb]; exact a1, a2, fun p' cv hcv => ?_⟩
      obtain ⟨c0, e1, e2⟩ := a3 p' cv hcv
      exact ⟨c0, e1, hE _ _ e2 codeO_ne⟩
  | some cv =>
    obtain ⟨c', e, hco⟩ := ha pos cv hc
    subst e
    refine PySem.W.kdv_makeTailHit (mg := X.mg) (c := c) (P := P) (ps := ps) (closure_ok hfree) I.ok.glob (I.mod.glob.keeps I.bk) hcode (TB.code.keeps I.bk) hP' ht hc bP fun ctv doc h' tk hx hsz => ?_
    exact step h' tk H c' doc ctv (I.kept (t' := tk) hx) hsz (ExtN.refl H) hT hco
theorem lam_makeO {T : List (Addr × Str)} {c P : Addr} {params : Arguments} {body : Expr} {scope : Scope} {pos : Pos} {E : Value → Shared → Prop} {Q : Value → Shared → Prop} (I : Inv X pins σ H s) (TB : TabB X.base X.mg c P) (hcode : X.env.code = .ref c)
    (hm : (P, X.env.qual ++ "<lambda>") ∈ T) (hu : ∀ p ∈ T, p.1 = P → p.2 = X.env.qual ++ "<lambda>") (hT : Tabs T H) (hdef : defaultsOf params X.env = ([], [])) (hfree : ∀ y ∈ scope.names, y.2 = .free → ∃ c, X.env.cells.lookup y.1 = some c)
    (h : ∀ (f c' : Addr) (H1 : Hp) (s' : Shared), Inv X pins σ H1 s' → ExtN H H1 → Tabs T H1 → H f = none → H1 f = some (LamO f (X.env.qual ++ "<lambda>") params body scope (cloFrom X.env.cells scope.names []) .none c') → H1 c' = some (CodeO c' (X.env.qual ++ "<lambda>")) → Q (.ref f) s') :
    wpAny (model X.prog X.w) X.A (eval (.Lambda params body scope pos) X.env) Q E s := by
  refine PySem.W.kla_eval hdef ?_
  rw [makeFunction_eq]
  simp only [List.zip_nil_right, List.filterMap_nil, List.isEmpty_nil, if_true, pure_bind]
  exact lam_tailO (dx := none) I TB hcode hm hu hT hfree rfl fun f c' H1 s' I1 eN T1 fn hf _ hc => h f c' H1 s' I1 eN T1 fn hf hc
theorem lam_makeD {x : Str} {T : List (Addr × Str)} {c P : Addr} {params : Arguments} {body : Expr} {scope : Scope} {pos p0 : Pos} {i0 : Int} {j0 : Nat} {E : Value → Shared → Prop} {Q : Value → Shared → Prop} (I : Inv X pins σ H s) (TB : TabB X.base X.mg c P) (hcode : X.env.code = .ref c)
    (hm : (P, X.env.qual ++ "<lambda>") ∈ T) (hu : ∀ p ∈ T, p.1 = P → p.2 = X.env.qual ++ "<lambda>") (hT : Tabs T H) (hdef : params.defaults = [.Constant (.int i0) j0 p0]) (hkw : params.kw_defaults = []) (hfree : ∀ y ∈ scope.names, y.2 = .free → ∃ c, X.env.cells.lookup y.1 = some c)
    (h : ∀ (f c' : Addr) (dV : Value) (H1 : Hp) (s' : Shared), Inv X pins σ H1 s' → ExtN H H1 → Tabs T H1 → H f = none → H1 f = some (LamO f (X.env.qual ++ "<lambda>") params body scope (cloFrom X.env.cells scope.names []) dV c') → DflAt (some x) dV H1 → H1 c' = some (CodeO c' (X.env.qual ++ "<lambda>")) → Q (.ref f) s') :
    wpAny (model X.prog X.w) X.A (eval (.Lambda params body scope pos) X.env) Q E s := by
  refine PySem.W.kdv_lam (by rw [hdef]; rfl) hkw ?_
  rw [hdef]
  refine PySem.W.kdv_all1 (wpAny_Constant_int (PySem.W.kdv_all0 ?_))
  rw [makeFunction_eq]
  simp only [List.zip_nil_right, List.filterMap_nil, List.isEmpty_nil, if_true, pure_bind, List.isEmpty_cons, Bool.false_eq_true, if_false]
  refine wpAny_bind (wpAny_newTextTuple ?_)
  have I0 := I.tok (s.toks + 1)
  have n1 : H s.heap.objs.size = none := I.hok.fresh (Nat.le_refl _)
  have sm : ∀ b o, H b = some o → upd H s.heap.objs.size (DfO s.heap.objs.size) b = some o := fun b o e => by rw [upd_ne (ne_of_none e n1)]; exact e
  refine lam_tailO (dx := some x) (H := upd H s.heap.objs.size (DfO s.heap.objs.size)) (I.laid (fun b o e => Heap.get?_push_of_some _ e) (Nat.le_refl _) (dfO_ok (Heap.get?_push_size _ rfl))) TB hcode hm hu (hT.ext sm) hfree ⟨_, rfl, upd_same⟩ fun f c' H1 s' I1 eN T1 fn hf hd hc => ?_
  refine h f c' _ H1 s' I1 ((ExtN.of sm).trans eN) T1 ?_ hf hd hc
  cases z : H f with
  | none => rfl
  | some o => rw [sm _ _ z] at fn; cases fn
end
structure LamSN (N : List Str) (sc scope : Scope) : Prop where
  kind : scope.kind = .function
  co : scope.isCoroutine = false
  gen : scope.isGenerator = false
  cell : ∀ y ∈ scope.names, y.2 ≠ .cell
  loc : ∀ y ∈ scope.names, y.2 = .local → y.1 ∉ N
  free : ∀ y ∈ scope.names, y.2 = .free → sc.names.lookup y.1 = some .cell ∨ sc.names.lookup y.1 = some .free
theorem lamSN_of {N : List Str} {sc scope : Scope} (L : LamS sc scope) : LamSN N sc scope := ⟨L.kind, L.co, L.gen, fun y hy => (L.own y hy).2, fun y hy e => absurd e (L.own y hy).1, L.free⟩
def lamSNB (N : List Str) (sc scope : Scope) : Bool :=
  decide (scope.kind = .function) && (!scope.isCoroutine && (!scope.isGenerator && scope.names.all fun y => match y.2 with
    | .cell => false
    | .local => !N.contains y.1
    | .free => decide (sc.names.lookup y.1 = some .cell) || decide (sc.names.lookup y.1 = some .free)
    | _ => true))
theorem lamSN_by {N : List Str} {sc scope : Scope} (h : lamSNB N sc scope = true) : LamSN N sc scope := by
  unfold lamSNB at h
  simp only [Bool.and_eq_true, Bool.not_eq_true', decide_eq_true_eq, List.all_eq_true] at h
  obtain ⟨h1, h2, h3, h4⟩ := h
  refine ⟨h1, h2, h3, fun y hy e => ?_, fun y hy e z => ?_, fun y hy e => ?_⟩ <;> have := h4 y hy <;> rw [e] at this
  · cases this
  · simp [z] at this
  · simpa using this
theorem LamSN.has {X : Cx} {N : List Str} {scope : Scope} (L : LamSN N X.env.scope scope) (ok : X.Ok) : ∀ y ∈ scope.names, y.2 = .free → ∃ c, X.env.cells.lookup y.1 = some c := fun y hy e => ok.has _ (L.free y hy e)
section
variable {X : Cx} {pins : List (Addr × Obj)} {σ : L2.St} {H HZ : Hp} {s s1 : Shared}
theorem lam_startN {A : Around} {outer : List Env} {E : XK} {scope : Scope} {f c' : Addr} {h₁ : Heap} {tk : Nat} {m : Str → Option Value} (I : Inv X pins σ H s) (L : LamSN X.N X.env.scope scope) (e0 : Env0 X.prog X.w X.K X.mg X.base A outer s1 HZ) (hd : A.handled = none)
    (un : Un (frs X.stack) [] H HZ s.heap s1.heap) (hns : h₁.Ns s1.heap.objs.size m) (kp : ∀ b o, s1.heap.get? b = some o → h₁.get? b = some o) :
    Inv (lamCx X A outer s1 HZ E scope f c') [] σ HZ { s1 with heap := h₁, toks := tk } := by
  have toMaker : ∀ {y c}, (cloFrom X.env.cells scope.names []).lookup y = some c → X.env.cells.lookup y = some c := fun {y c} e => by
    rcases cloFrom_mem (PySem.mem_of_lookup e) with z | ⟨h1, h2⟩
    · cases z
    · obtain ⟨c1, hc⟩ := L.has I.ok _ h1 rfl
      have hc : X.env.cells.lookup y = some c1 := hc
      have e2 : c = c1 := by
        rw [h2, hc] <;> rfl
      exact e2 ▸ hc
  have ofFree : ∀ {y}, scope.names.lookup y = some .free → ∃ c, (cloFrom X.env.cells scope.names []).lookup y = some c := fun {y} hl => mem_lookup (cloFrom_has (cells := X.env.cells) (acc := []) (PySem.mem_of_lookup hl))
  have notCell : ∀ {y : Str}, scope.names.lookup y ≠ some .cell := fun {y} z => L.cell _ (PySem.mem_of_lookup z) rfl
  have cellK : ∀ {c : Addr} {v : Option Value}, H c = none → s.heap.IsCell c v → h₁.IsCell c v := fun {c v} n ⟨o, ho, z⟩ => by
    obtain ⟨sl, q⟩ := un.any ho n (by simp)
    exact ⟨_, kp _ _ q, z⟩
  have noX : ∀ b : Addr, b ∉ (lamCx X A outer s1 HZ E scope f c').ex := fun b z => by
    have z : b ∈ ([] : List Addr) := z
    cases z
  have hasC : ∀ y, scope.names.lookup y = some .cell ∨ scope.names.lookup y = some .free → ∃ c, (cloFrom X.env.cells scope.names []).lookup y = some c := fun y hy => hy.elim (fun z => absurd z notCell) ofFree
  have okL : (lamCx X A outer s1 HZ E scope f c').Ok := ⟨e0.mod, L.kind, rfl, rfl, Nat.le_refl _, fun y z c e1 e2 => I.ok.inj y z c (toMaker e1) (toMaker e2), hasC, fun y c z _ => (by
      have z : false = true := z
      cases z), fun _ => hd, Around.frames_deeper e0.frames, .inr ⟨rfl, rfl⟩, fun b z => absurd z (noX b), e0.bs, e0.bsz, fun b _ _ => noX b, fun b z => absurd z (noX b), e0.funs, e0.frf⟩
  have seen : ∀ (i : Nat) (y : Str) (v : V), X.N[i]? = some y → σ[i]? = some (some v) → Vis scope y → ∃ u, RelV v u ∧ Look (lamEnv X scope s1.heap.objs.size f c') h₁ m y u := fun i y v e1 e2 e3 => by
    rcases e3 with k | k | k
    · exact absurd (List.mem_of_getElem? e1) (L.loc _ (PySem.mem_of_lookup k) rfl)
    · exact absurd k notCell
    · obtain ⟨m', _, hl⟩ := I.loc
      have fr := L.free _ (PySem.mem_of_lookup k) rfl
      obtain ⟨u, r, q⟩ := hl i y v e1 e2 (fr.elim (fun z => .inr (.inl z)) fun z => .inr (.inr z))
      obtain ⟨c2, h2⟩ := ofFree k
      refine ⟨u, r, .inr ⟨.inr k, c2, h2, ?_⟩⟩
      rcases q with ⟨k', _⟩ | ⟨_, c3, e', z⟩
      · have k' : X.env.scope.names.lookup y = some .local := k'
        have fr : X.env.scope.names.lookup y = some .cell ∨ X.env.scope.names.lookup y = some .free := fr
        rw [k'] at fr
        rcases fr with z | z <;> cases z
      · have c1 := toMaker h2
        rw [c1] at e'
        cases e'
        exact cellK (I.freeC y _ c1) z
  refine ⟨okL, rfl, e0.bare, Un.kept kp, ⟨m, hns, seen⟩, fun y c e => ?_, e0.hok.fresh (Nat.le_refl _), fun y c e => ?_, fun q hq => ?_, e0.hok.kept kp, I.len⟩
  · obtain ⟨u, z⟩ := I.cell y c (toMaker e)
    exact ⟨u, cellK (I.freeC y c (toMaker e)) z⟩
  · obtain ⟨v, o, ho, _⟩ := I.cell y c (toMaker e)
    exact un.free c o ho (I.freeC y c (toMaker e)) (by simp)
  · have hq : q ∈ ([] : List (Addr × Obj)) ++ [] := hq
    cases hq
end
def BindL (dx : Option Str) (params : Arguments) (body : Expr) (scope : Scope) : Prop := match dx with
  | none => ∀ (q : Str) (cl : List (Str × Addr)) (doc pm cv ctv : Value), bindArgs (lamFd q params body scope cl .none doc pm cv ctv) ⟨[], []⟩ = pure []
  | some x => scope.names.lookup x = some .local ∧ ∀ (q : Str) (cl : List (Str × Addr)) (T : Addr) (doc pm cv ctv : Value), ∃ k, bindArgs (lamFd q params body scope cl (.ref T) doc pm cv ctv) ⟨[], []⟩ = seqItems? (.ref T) >>= k ∧ ∀ u, k (some #[u]) = pure [(x, u)]
structure LamT (X : Cx) (k : Nat) where
  dx : Option Str
  params : Arguments
  body : Expr
  scope : Scope
  t : XK → TE
  L : LamSN X.N X.env.scope scope
  bind : BindL dx params body scope
  run : ∀ (A : Around) (outer : List Env) (s : Shared) (H : Hp) (E : XK) (f c' : Addr), Room k (A.deeper (lamEnv X scope s.heap.objs.size f c')) → PE (lamCx X A outer s H E scope f c') body (t E)
def LamAt (X : Cx) {k : Nat} (l : LamT X k) (H : Hp) (f : Addr) : Prop := ∃ (c' : Addr) (dV : Value), H f = some (LamO f (X.env.qual ++ "<lambda>") l.params l.body l.scope (cloFrom X.env.cells l.scope.names []) dV c') ∧ DflAt l.dx dV H ∧ H c' = some (CodeO c' (X.env.qual ++ "<lambda>"))
theorem LamAt.keep {X : Cx} {k : Nat} {l : LamT X k} {H H' : Hp} {f : Addr} (h : LamAt X l H f) (e : ∀ b φ, H b = some (.ext φ) → H' b = some (.ext φ)) : LamAt X l H' f := by
  obtain ⟨c', dV, h1, h2, h3⟩ := h
  exact ⟨c', dV, e _ _ h1, h2.keep e, e _ _ h3⟩
def tLamE (T : List (Addr × Str)) (X : Cx) {k : Nat} (l : LamT X k) : TE := fun σ H Q => Tabs T H ∧ ∀ f H1, ExtN H H1 → Tabs T H1 → H f = none → LamAt X l H1 f → Q (.ref f) H1
theorem pe_lamE {X : Cx} {k : Nat} (l : LamT X k) (hx : l.dx = none) {T : List (Addr × Str)} {c P : Addr} {lpos : Pos} (TB : TabB X.base X.mg c P) (hcode : X.env.code = .ref c) (hmT : (P, X.env.qual ++ "<lambda>") ∈ T) (hu : ∀ p ∈ T, p.1 = P → p.2 = X.env.qual ++ "<lambda>")
    (hdef : defaultsOf l.params X.env = ([], [])) : PE X (.Lambda l.params l.body l.scope lpos) (tLamE T X l) := by
  refine ⟨fun pins s σ H Q I h => ?_⟩
  obtain ⟨hT, h⟩ := h
  exact lam_makeO I TB hcode hmT hu hT hdef (l.L.has I.ok) fun f c' H1 s' I1 eN T1 fn hf hc => ⟨.ref f, H1, I1, rfl, h f H1 eN T1 fn ⟨c', _, hf, by rw [hx]; rfl, hc⟩⟩
theorem pe_lamD {X : Cx} {k : Nat} (l : LamT X k) {x : Str} (hx : l.dx = some x) {T : List (Addr × Str)} {c P : Addr} {lpos p0 : Pos} {i0 : Int} {j0 : Nat} (TB : TabB X.base X.mg c P) (hcode : X.env.code = .ref c) (hmT : (P, X.env.qual ++ "<lambda>") ∈ T) (hu : ∀ p ∈ T, p.1 = P → p.2 = X.env.qual ++ "<lambda>")
    (hdef : l.params.defaults = [.Constant (.int i0) j0 p0]) (hkw : l.params.kw_defaults = []) : PE X (.Lambda l.params l.body l.scope lpos) (tLamE T X l) := by
  refine ⟨fun pins s σ H Q I h => ?_⟩
  obtain ⟨hT, h⟩ := h
  exact lam_makeD (x := x) I TB hcode hmT hu hT hdef hkw (l.L.has I.ok) fun f c' dV H1 s' I1 eN T1 fn hf hd hc => ⟨.ref f, H1, I1, rfl, h f H1 eN T1 fn ⟨c', dV, hf, by rw [hx]; exact hd, hc⟩⟩
theorem LamT.binds {X : Cx} {k : Nat} (l : LamT X k) {P : Program} {w : World} {H : Hp} {s : Shared} {q : Str} {cl : List (Str × Addr)} {dV doc pm cv ctv : Value} (hok : HOk P w H s.heap) (hD : DflAt l.dx dV H) :
    ∃ bs : List (Str × Value), (∀ y ∈ bs, l.scope.names.lookup y.1 = some .local) ∧ BindsTo s (lamFd q l.params l.body l.scope cl dV doc pm cv ctv) ⟨[], []⟩ bs := by
  have hb := l.bind
  unfold BindL at hb
  cases hx : l.dx with
  | none =>
    rw [hx] at hb hD
    have hD : dV = .none := hD
    refine ⟨[], fun y hy => (by cases hy), ?_⟩
    subst hD
    exact BindsTo.of_eq (hb q cl doc pm cv ctv)
  | some x =>
    rw [hx] at hb hD
    obtain ⟨T, e1, e2⟩ := hD
    obtain ⟨u, hu⟩ := dfO_at hok e2
    subst e1
    obtain ⟨k, b1, b2⟩ := hb.2 q cl T doc pm cv ctv
    refine ⟨[(x, u)], fun y hy => ?_, BindsTo.of_defaults rfl hu rfl b1 (b2 u)⟩
    rw [List.mem_singleton.mp hy]
    exact hb.1
section
variable {X : Cx} {pins : List (Addr × Obj)} {σ : L2.St} {H : Hp} {s : Shared}
theorem pe_actO {CXg : CXT} {Eg : XK} {Ng : List Str} {qg : Str} {sg : Scope} {g f : Addr} {cdg : Value} {k i : Nat} {a : Str} {pn : List (Addr × Obj)} {xe : Value → Shared → Prop} {W : WX} {p1 p2 : Pos} {l : LamT X k}
    (I : Inv X pins σ H s) (tk : Takes ((cxOf CXg X.prog X.w X.K X.mg X.base Ng qg sg g cdg X.A X.stack s H Eg).tr pn xe) W) (hr : Room (k + 1) (X.A.deeper (envOfC qg sg s.heap.objs.size g cdg)))
    (hN : Ng[i]? = some a) (hv : Vis sg a) (hd : (a == ("__debug__" : Str)) = false := by decide) (hcd : (a == ("__classdict__" : Str)) = false := by decide) :
    PE ((cxOf CXg X.prog X.w X.K X.mg X.base Ng qg sg g cdg X.A X.stack s H Eg).tr pn xe) (.Call (.Name a p1) [] [] p2) (fun σZ HZ Q => σZ[i]? = some (some (.ref f)) ∧ LamAt X l HZ f ∧ ∃ E : XK, (∀ cls d H', E cls d H' → W cls d σZ H') ∧ l.t E σ HZ Q) := by
  refine ⟨fun pinsZ sZ σZ HZ Q IZ h => ?_⟩
  obtain ⟨hs, ⟨c', dV, hfO, hDf, hcO⟩, E, hW, ht⟩ := h
  refine wpAny_Call_Name_kw (thn ((pe_var (pos := p1) (i := i) hN hv hd hcd).run pinsZ sZ σZ HZ (fun v H1 => v = .ref f ∧ H1 = HZ) IZ ⟨.ref f, hs, rfl, rfl⟩) fun u s1 ⟨v, H1, I1, r1, q1⟩ => ?_)
  obtain ⟨ev, eH⟩ := q1
  subst ev
  rw [eH] at I1
  obtain rfl : u = Value.ref f := r1
  obtain ⟨doc, pm, ctv, of1⟩ := lamO_at I1.hok hfO
  refine PySem.W.callWith_F0 ⟨_, _, _, _, of1⟩ ?_
  have un : Un (frs X.stack) [] H HZ s.heap s1.heap := I1.base
  obtain ⟨⟨oc, vs, t, hoc, hdc, hvc⟩, _, _⟩ := I1.hok c' _ hcO
  obtain ⟨bs, hloc, hbs⟩ := l.binds (s := s1) (q := X.env.qual ++ "<lambda>") (cl := cloFrom X.env.cells l.scope.names []) (doc := doc) (pm := pm) (cv := .ref c') (ctv := ctv) I1.hok hDf
  have rc : codeAny (model X.prog X.w) (X.A.deeper (envOfC qg sg s.heap.objs.size g cdg)) (.call (.ref f) ⟨[], []⟩) (CR (L2.CX X.prog X.w) (envOfC qg sg s.heap.objs.size g cdg :: X.stack) X.prog X.w HZ s1 Q E) s1 := by
    refine PySem.W.kla_callFunE hr.depth of1 rfl l.L.co l.L.gen rfl ⟨c', oc, vs, t, rfl, hoc, hdc, hvc⟩ (hbs _ _ _ _ ?_)
    refine wpAny_newFunctionEnv l.L.cell hloc (fun h₁ hns hsb => ⟨I1.nolimit.fresh _ hsb, ?_⟩) l.L.kind
    show codeAny _ _ (.expr l.body (lamEnv X l.scope s1.heap.objs.size f c')) _ _
    have kp : ∀ b o, s1.heap.get? b = some o → h₁.get? b = some o := fun b o e => hsb.extBut b o (Nat.ne_of_lt (Heap.lt_size e)) (Heap.get?_push_of_some _ e)
    have J : Inv (lamCx X (X.A.deeper (envOfC qg sg s.heap.objs.size g cdg)) (envOfC qg sg s.heap.objs.size g cdg :: X.stack) s1 HZ E l.scope f c') [] σ HZ { s1 with heap := h₁, toks := s1.toks + bs.length } :=
      lam_startN I l.L I1.env0 hr.hd un hns kp
    refine PySem.W.kla_codeExpr (wpAny_mono ((l.run _ _ s1 HZ E f c' (hr.deeper _)).run [] _ _ HZ Q J ht) (fun v s' hq => ?_) fun e s' hq => hq)
    obtain ⟨w', H', J', rv, q⟩ := hq
    exact ⟨w', H', J'.os, J'.bare, J'.base, J'.hok, rv, q⟩
  refine wpAny_call (codeAny_mono rc fun r s' hq => ?_)
  cases r with
  | error e => exact tk e s' (XE.of_call I1 (fun cls d H' h => hW cls d H' h) hq)
  | ok fl =>
    cases fl with
    | ret u => exact I1.after hq
    | next => exact False.elim hq
    | brk => exact False.elim hq
    | cont => exact False.elim hq
end
def GivesL (X : Cx) (Ng : List Str) (x : Str) (sg : Scope) (g : Addr) (cdg : Value) (bg : List Stmt) (a : Str) (TT : (XK → Hp → VK → Prop) → Hp → VK → Prop) : Prop :=
  ∀ (f : Addr) (s : Shared) (H : Hp) (Q : VK) (ok : Hp → Prop) (tl : XK → Hp → VK → Prop), (∀ (H H' : Hp), (∀ b φ, H b = some (.ext φ) → H' b = some (.ext φ)) → ok H → ok H') →
    (∀ (W : WX) (pn : List (Addr × Obj)) (xe : Value → Shared → Prop) (p1 p2 : Pos), Takes ((cxOf C8.CX0 X.prog X.w X.K X.mg X.base Ng x sg g cdg X.A X.stack s H C8.E0).tr pn xe) W →
      PE ((cxOf C8.CX0 X.prog X.w X.K X.mg X.base Ng x sg g cdg X.A X.stack s H C8.E0).tr pn xe) (.Call (.Name a p1) [] [] p2) (fun σZ HZ Q => σZ[0]? = some (some (.ref f)) ∧ ok HZ ∧ ∃ E : XK, (∀ cls d H', E cls d H' → W cls d σZ H') ∧ tl E HZ Q)) →
    ok H → TT tl H Q → (X.A.deeper (envOfC x sg s.heap.objs.size g cdg)).units + 65 < cLine →
    ∃ t, PSs (cxOf C8.CX0 X.prog X.w X.K X.mg X.base Ng x sg g cdg X.A X.stack s H C8.E0).nox bg t ∧ t { nx := fun _ H' => Q .non H', rt := Q } (L2.start Ng [.ref f]) H
structure LFn (X : Cx) (x a : Str) (TT : (XK → Hp → VK → Prop) → Hp → VK → Prop) : Prop where
  ex : ∃ (g : Addr) (oc : Value) (od : Option Addr) (pg : Arguments) (bg : List Stmt) (sg : Scope) (dV kV doc pm cdv ct : Value) (an : Option Addr) (osl : Array (Option Value)) (Ng : List Str),
    X.mg x = some (.ref g) ∧ PySem.W.keepIn X.K (.ref g) = true ∧ X.K.lookup g = some ⟨oc, od, .func (PySem.W.fnOf x x pg bg sg dV kV doc pm an cdv ct), osl⟩ ∧ PySem.W.codeIn X.K cdv x = true ∧ L2.Binds X.K (PySem.W.fnOf x x pg bg sg dV kV doc pm an cdv ct) [a] [] ∧ FnScope Ng [a] sg ∧ Ng[0]? = some a ∧ Vis sg a ∧
    GivesL X Ng x sg g cdv bg a TT
section
variable {X : Cx} {pins : List (Addr × Obj)} {σ : L2.St} {H : Hp} {s : Shared}
theorem lam_run {k : Nat} {x a : Str} {TT : (XK → Hp → VK → Prop) → Hp → VK → Prop} {l : LamT X k} {f : Addr} {Q : VK} (D : LFn X x a TT) (hr : Room (k + 2) X.A) (I : Inv X pins σ H s) (hl : LamAt X l H f) (h : TT (fun E H' Q' => l.t E σ H' Q') H Q)
    (hd : (a == ("__debug__" : Str)) = false := by decide) (hcd : (a == ("__classdict__" : Str)) = false := by decide) :
    ∃ g : Addr, X.mg x = some (.ref g) ∧ PySem.W.keepIn X.K (.ref g) = true ∧ codeAny (model X.prog X.w) X.A (.call (.ref g) ⟨[.ref f], []⟩) (CR C8.CX0 X.stack X.prog X.w H s Q C8.E0) s := by
  obtain ⟨g, oc, od, pg, bg, sg, dV, kV, doc, pm, cdv, ct, an, osl, Ng, hm, hk, lk, hcg, hb, Sg, hNg, hva, hG⟩ := D.ex
  refine ⟨g, hm, hk, ?_⟩
  refine run_ofS (N := Ng) (ps := [a]) (us := [.ref f]) (vs := [.ref f]) lk hcg Sg hr I.env0 (hb s [.ref f] I.kIn rfl) (.cons rfl .nil) rfl fun hr' => ?_
  obtain ⟨t', ht', hq'⟩ := hG f s H Q (fun H => LamAt X l H f) (fun E H' Q' => l.t E σ H' Q') (fun H H' e z => z.keep e) (fun W pn xe p1 p2 tk => pe_actO (i := 0) (l := l) I tk hr' hNg hva hd hcd) hl h (by have := hr'.un; omega)
  exact ⟨t', ht'.nox, hq'⟩
def tLamC (X : Cx) (k : Nat) (TT : (XK → Hp → VK → Prop) → Hp → VK → Prop) (te : TE) : TE := fun σ H Q => te σ H fun v H1 => ∃ (l : LamT X k) (f : Addr), v = .ref f ∧ LamAt X l H1 f ∧ TT (fun E H' Q' => l.t E σ H' Q') H1 Q
theorem pe_lamC {k : Nat} {x a : Str} {TT : (XK → Hp → VK → Prop) → Hp → VK → Prop} {e : Expr} {te : TE} {p pos : Pos} (D : LFn X x a TT) (hr : Room (k + 2) X.A) (ha : PA X [e] (tCons te tNil)) (hg : Gl X x := by rfl) (hdb : (x == ("__debug__" : Str)) = false := by decide)
    (hst : starEach (e :: []) X.env = (false, eval e X.env) :: starEach [] X.env := by rfl) (hpl : (backTo pos (starEach [] X.env)).any (·.1) = false := by rfl) (hd : (a == ("__debug__" : Str)) = false := by decide) (hcd : (a == ("__classdict__" : Str)) = false := by decide) :
    PE X (.Call (.Name x p) [e] [] pos) (tLamC X k TT te) := by
  obtain ⟨g0, _, _, _, _, _, _, _, _, _, _, _, _, _, _, hm0, hk0, _⟩ := D.ex
  refine ⟨fun pins s σ H Q I h => ?_⟩
  refine wpAny_Call_Name_kw (ld_glob I hg hm0 ?_ hdb)
  let R : V → Hp → Prop := fun v H1 => ∃ (l : LamT X k) (f : Addr), v = .ref f ∧ LamAt X l H1 f ∧ TT (fun E H' Q' => l.t E σ H' Q') H1 Q
  refine PySem.W.callWith_K (h₀ := X.base) I.ok.mod.kin hk0 (thn (ha.run pos pins s σ H (fun vs H1 => match vs with | [v] => R v H1 | _ => False) I h) fun us s1 hh => ?_) hst hpl
  obtain ⟨vs, H1, I1, r1, hR⟩ := hh
  match vs, r1, hR with
  | [v], r1, hR =>
  obtain ⟨l, f, ef, hl, q⟩ := hR
  subst ef
  refine ⟨I1.kIn, ?_⟩
  cases r1 with
  | cons ru rn =>
    cases rn
    cases ru
    obtain ⟨g, hm, hk, rc⟩ := lam_run D hr I1 hl q hd hcd
    rw [hm0] at hm
    cases hm
    refine wpAny_call (codeAny_mono rc fun r s2 hq => ?_)
    cases r with
    | error e => exact (show False from hq).elim
    | ok fl =>
      cases fl with
      | ret u => exact I1.after hq
      | next => exact False.elim hq
      | brk => exact False.elim hq
      | cont => exact False.elim hq
end
end MF
set_option Elab.async false
set_option linter.all false
set_option maxRecDepth 100000
set_option maxHeartbeats 2000000
namespace MF
open PySem PySem.Spec PyProof.Rows L2 StX LamX
structure BI (X : Cx) (pins : List (Addr × Obj)) (σ : L2.St) (H : Hp) (s : Shared) (fp : List Addr) : Prop where
  inv : Inv X pins σ H s
  fp : ∀ b ∈ fp, FpOk X pins H b ∧ b < s.heap.objs.size
theorem BI.now {X : Cx} {pins pins' : List (Addr × Obj)} {σ σ' : L2.St} {H H' : Hp} {s s' : Shared} {fp : List Addr} {scope : Scope} {cenv : Env} (B : BI X pins σ H s fp) (I : Inv (X.blk s H scope cenv fp) pins' σ' H' s') : Inv X pins σ H' s' :=
  B.inv.call' (ch := fp) I.os I.base I.hok I.bare fun b hb => ⟨(B.fp b hb).1.2.2.2.1, (B.fp b hb).1.2.1, (B.fp b hb).1.2.2.2.2.1, (B.fp b hb).1.2.2.2.2.2⟩
section
variable {X : Cx}
theorem lcI_core {pins : List (Addr × Obj)} {s : Shared} {σ : L2.St} {H : Hp} {Q : VK} {elt tg iter : Expr} {ifs : List Expr} {scope : Scope} {own : List (Str × Nat)} {pos pos' : Pos} {wi : TI} {g : TG} {tt : TT} {te : TE} {use : Option (Value → Sem Unit)} {Qf : Value → Shared → Prop}
    (hc : X.calm = true) (hN : X.N.Nodup) (I : Inv X pins σ H s) (hi : PI X tg iter wi) (ok : BlkOk X.N X.env.scope scope own)
    (hg : ∀ (s : Shared) (H : Hp) (C : Addr) (cl : List (Str × Addr)) (fp : List Addr), PG (X.blk s H scope (compEnvC scope cl C X.env) fp) tg g)
    (ht : ∀ (s : Shared) (H : Hp) (C : Addr) (cl : List (Str × Addr)) (fp : List Addr), BI X pins σ H s fp → PTs (X.blk s H scope (compEnvC scope cl C X.env) fp) ifs tt)
    (he : ∀ (s : Shared) (H : Hp) (C : Addr) (cl : List (Str × Addr)) (fp : List Addr), BI X pins σ H s fp → PE (X.blk s H scope (compEnvC scope cl C X.env) fp) elt te) (hs : ∀ x, foldedSetIterable iter X.env x = pure x)
    (h : tLc wi g tt te (own.map (·.2)) σ H Q)
    (hRR : ∀ D C s' m H', Inv X pins σ H' s' → Q (.ref D) H' → s'.heap.Ns C m → FpOk X pins H' C → compPost (model X.prog X.w) X.A X.xe use Qf (.ref D) C (.ok .next) s') :
    wpAny (model X.prog X.w) X.A (comprehension (.ListComp elt [⟨tg, iter, ifs, 0⟩] scope pos) scope X.env pos' (newList []) false (eval iter X.env) use) Qf X.xe s := by
  have hfree : ∀ y ∈ scope.names, y.2 = .free → ∃ c, X.env.cells.lookup y.1 = some c := fun y hy e => by
    rcases ok.free y hy e with k | k
    · exact I.ok.has _ (.inl k)
    · exact I.ok.has _ (.inr k)
  refine wpAny_comprehension_free (use := use) rfl hs (closure_ok hfree) ok.kind (fun y hy e => by rw [ok.uniq y hy, e])
    (thn (hi.run pins s σ H _ I h) fun xv s1 hx => thn hx fun itv s2 h2 => ?_)
  obtain ⟨it, fp, tn, J, H2, e, I2, T, st2, f2, q⟩ := h2
  subst e
  refine wpAny_newObj_type (newEnv_comp ?_) (by show 0 ≤ sizeLine; decide)
  generalize hD : s2.heap.objs.size = D
  have hDn : H2 D = none := I2.hok.fresh (Nat.le_of_eq hD)
  obtain ⟨W, ⟨m0, w0⟩, turn⟩ := q D hDn
  generalize hs3 : ({ s2 with heap := s2.heap.push { cls := .type "list", data := .seq ([] : List Value).toArray } } : Shared) = s3
  have I3 : Inv X pins σ (upd H2 D (.lst [])) s3 := by
    rw [← hs3]
    refine I2.laid (t' := s2.toks) (fun b o e => Heap.get?_push_of_some _ e) (Nat.le_of_eq hD) ⟨Nat.zero_le _, [], 0, .nil, ?_⟩
    rw [← hD]
    exact Heap.get?_push_size _ rfl
  have h3 : s3.heap = s2.heap.push { cls := .type "list", data := .seq ([] : List Value).toArray } := by rw [← hs3]
  have f3 : ∀ b ∈ fp, FpOk X pins (upd H2 D (.lst [])) b ∧ b < s3.heap.objs.size := fun b hb => by
    obtain ⟨o, e, _⟩ := T.obj _ _ st2 b hb
    have hlt := Heap.lt_size e
    refine ⟨⟨?_, (f2 b hb).2⟩, by rw [h3, Heap.size_push]; exact Nat.lt_succ_of_lt hlt⟩
    rw [upd_ne (by rw [← hD]; exact Nat.ne_of_lt hlt)]
    exact (f2 b hb).1
  have BB : BI X pins σ (upd H2 D (.lst [])) s3 fp := ⟨I3, f3⟩
  have st3 : tn 0 s3.heap := T.keep _ _ _ st2 fun b _ o e => by rw [h3]; exact Heap.get?_push_of_some _ e
  have I4 := block_start I3 ok hN f3
  have pg := hg s3 (upd H2 D (.lst [])) s3.heap.objs.size (cellsFrom (s3.heap.objs.size + 1) scope.names (cloFrom X.env.cells scope.names [])) fp
  have pt := ht s3 (upd H2 D (.lst [])) s3.heap.objs.size (cellsFrom (s3.heap.objs.size + 1) scope.names (cloFrom X.env.cells scope.names [])) fp BB
  have pe := he s3 (upd H2 D (.lst [])) s3.heap.objs.size (cellsFrom (s3.heap.objs.size + 1) scope.names (cloFrom X.env.cells scope.names [])) fp BB
  show codeAny _ _ (.compStart (.ListComp elt [⟨tg, iter, ifs, 0⟩] scope pos) 0 (.ref it) (.ref D) (compEnvC scope (cellsFrom (s3.heap.objs.size + 1) scope.names (cloFrom X.env.cells scope.names [])) s3.heap.objs.size X.env)) (compPost (model X.prog X.w) X.A X.xe use Qf (.ref D) s3.heap.objs.size) { s3 with heap := pushCells (s3.heap.push { cls := .type "dict", data := .dict #[] }) scope.names }
  have nfp : ∀ b ∈ fp, (upd H2 D (.lst [])) b = none := fun b hb => (f3 b hb).1.1
  generalize hce : compEnvC scope (cellsFrom (s3.heap.objs.size + 1) scope.names (cloFrom X.env.cells scope.names [])) s3.heap.objs.size X.env = ce at I4 pg pt pe ⊢
  have cL : ce.locals = s3.heap.objs.size := by subst hce; rfl
  generalize hH3 : upd H2 D (.lst []) = H3 at I3 I4 pg pt pe w0 nfp f3 BB
  generalize hs4 : ({ s3 with heap := pushCells (s3.heap.push { cls := .type "dict", data := .dict #[] }) scope.names } : Shared) = s4 at I4 ⊢
  have st4 : tn 0 s4.heap := T.keep _ _ _ st3 fun b _ o e => by rw [← hs4]; exact pushCells_keeps _ _ _ _ (Heap.get?_push_of_some _ e)
  have stat : ∀ {σ' : L2.St} {H' : Hp} {s' : Shared}, Inv (X.blk s3 H3 scope ce fp) [] σ' H' s' → (∀ b ∈ fp, H' b = none) → ∀ b ∈ fp, FpOk (X.blk s3 H3 scope ce fp) [] H' b := fun {σ' H' s'} I' hn b hb =>
    ⟨hn b hb, (I'.ok.exf b hb).1, I'.ok.exfs b hb, .inl hb, fun x c e => (I'.ok.exf b hb).2 x c e, fun p hp => absurd (show p ∈ ([] : List (Addr × Obj)) ++ [] from hp) (by simp)⟩
  have loop : codeAny (model X.prog X.w) X.A (.compLoop (.ListComp elt [⟨tg, iter, ifs, 0⟩] scope pos) 0 (.ref it) (.ref D) ce) (compPost (model X.prog X.w) X.A X.xe use Qf (.ref D) s3.heap.objs.size) s4 := by
    refine compLoop_any (fun n s' => ∃ i H', Inv (X.blk s3 H3 scope ce fp) [] (wipe σ (own.map (·.2))) H' s' ∧ tn i s'.heap ∧ (∀ b ∈ fp, H' b = none) ∧ W i n H') ?_ m0 ⟨0, H3, I4, st4, nfp, w0⟩
    rintro n s5 ⟨i, H5, I5, st5, n5, w5⟩
    rcases turn i n H5 w5 with ⟨stop, qq⟩ | ⟨go, Nx, hNx, step⟩
    · have td := T.done (X.blk s3 H3 scope ce fp) rfl rfl rfl hc i [] s5 _ H5 (fun _ _ => False) I5 (stat I5 n5) st5 stop
      refine thnF td fun r s6 ⟨hr, I6⟩ => ?_
      subst hr
      have I7 : Inv X pins σ H5 s6 := BB.now I6
      have nC : H5 s3.heap.objs.size = none := by
        have z : H5 ce.locals = none := I6.free
        rw [cL] at z
        exact z
      obtain ⟨m, hn, _⟩ := I6.loc
      have hn : s6.heap.Ns ce.locals m := hn
      rw [cL] at hn
      exact hRR D s3.heap.objs.size s6 m H5 I7 qq hn (I3.fpOk (Nat.le_refl _) nC)
    · have ti := T.item (X.blk s3 H3 scope ce fp) rfl rfl rfl hc i [] s5 _ H5 (fun _ _ => False) I5 (stat I5 n5) st5 go
      refine thnF ti fun r s6 ⟨u, hr, h6⟩ => ?_
      subst hr
      refine thnF h6 fun _ s7 ⟨x, H7, I7, r7, y7, st7, n7⟩ => ?_
      have I7' := I7.pinned (stat I7 n7) (T.obj _ _ st7)
      refine thnF (pg.run _ s7 _ H7 x u _ I7' r7 (step x H7 y7)) fun _ s8 ⟨σ8, H8, I8, hw8, q8⟩ => ?_
      refine thnF (pt.run _ s8 σ8 H8 _ I8 q8) fun b s9 ⟨H9, I9, q9⟩ => ?_
      have fin : ∀ {s' : Shared} {H' : Hp}, Inv (X.blk s3 H3 scope ce fp) ([] ++ pinsAt fp s7.heap) σ8 H' s' → Nx H' → ∃ m, m < n ∧ ∃ i H', Inv (X.blk s3 H3 scope ce fp) [] (wipe σ (own.map (·.2))) H' s' ∧ tn i s'.heap ∧ (∀ b ∈ fp, H' b = none) ∧ W i m H' := fun {s' H'} I' nx => by
        obtain ⟨m', hm, w'⟩ := hNx H' nx
        have pin' : ∀ b ∈ fp, ∀ o, s7.heap.get? b = some o → s'.heap.get? b = some o ∧ H' b = none := fun b hb o e =>
          let z := I'.pin (b, o) (List.mem_append_right _ (List.mem_append_right _ (mem_pinsAt hb e)))
          ⟨z.1, z.2.1⟩
        have hl : (wipe σ (own.map (·.2))).length = σ8.length := by rw [← hw8, wipe_length]
        refine ⟨m', hm, i + 1, H', (I'.unpinned (pins := [])).weak hl (fun j v e => ?_), T.keep _ _ _ st7 fun b hb o e => (pin' b hb o e).1, fun b hb => ?_, w'⟩
        · rw [← hw8] at e
          exact (wipe_some e).1
        · obtain ⟨o, e, _⟩ := T.obj _ _ st7 b hb
          exact (pin' b hb o e).2
      cases b with
      | false =>
        simp only [Bool.false_eq_true, if_false] at q9 ⊢
        exact fin I9 q9
      | true =>
        simp only [if_true] at q9 ⊢
        refine thnF (pe.run _ s9 σ8 H9 _ I9 q9) fun z s10 ⟨yv, H10, I10, r10, acc, hD10, hz10, nx⟩ => ?_
        exact app_ok (X := X.blk s3 H3 scope ce fp) I10 hD10 hz10 r10 fun s11 I11 => fin I11 nx
  exact codeAny_compStart_list loop (T.self X.A 0 _ _ _ st4 loop)
def tLcI (wi : TI) (g : TG) (tt : L2.St → TT) (te : L2.St → TE) (vs : List Nat) : TE := fun σ H Q => tLc wi g (tt σ) (te σ) vs σ H Q
theorem pe_lcI {elt tg iter : Expr} {ifs : List Expr} {scope : Scope} {own : List (Str × Nat)} {pos : Pos} {wi : TI} {g : TG} {tt : L2.St → TT} {te : L2.St → TE} (hc : X.calm = true) (hN : X.N.Nodup) (hi : PI X tg iter wi) (ok : BlkOk X.N X.env.scope scope own)
    (hg : ∀ (s : Shared) (H : Hp) (C : Addr) (cl : List (Str × Addr)) (fp : List Addr), PG (X.blk s H scope (compEnvC scope cl C X.env) fp) tg g)
    (ht : ∀ (pins : List (Addr × Obj)) (σ : L2.St) (s : Shared) (H : Hp) (C : Addr) (cl : List (Str × Addr)) (fp : List Addr), BI X pins σ H s fp → PTs (X.blk s H scope (compEnvC scope cl C X.env) fp) ifs (tt σ))
    (he : ∀ (pins : List (Addr × Obj)) (σ : L2.St) (s : Shared) (H : Hp) (C : Addr) (cl : List (Str × Addr)) (fp : List Addr), BI X pins σ H s fp → PE (X.blk s H scope (compEnvC scope cl C X.env) fp) elt (te σ)) (hs : ∀ x, foldedSetIterable iter X.env x = pure x := by intro _; rfl) :
    PE X (.ListComp elt [⟨tg, iter, ifs, 0⟩] scope pos) (tLcI wi g tt te (own.map (·.2))) := by
  refine ⟨fun pins s σ H Q I h => ?_⟩
  rw [eval_ListComp]
  refine lcI_core hc hN I hi ok hg (ht pins σ) (he pins σ) hs h fun D C s' m H' I' q hn f => ⟨m, hn, fun h'' sb => ?_⟩
  obtain ⟨f0, f1, f2, f3, f4, f5⟩ := f
  exact ⟨.ref D, H', I'.turned (t' := s'.toks) (fun b o hb e => (sb.2 b hb).trans e) f0 f1 f3 f4 f5, rfl, q⟩
def tLamB (X : Cx) (k : Nat) (TT : (XK → Hp → VK → Prop) → Hp → VK → Prop) (te : TE) (σ : L2.St) : TE := fun σ' H Q => te σ' H fun v H1 => ∃ (l : LamT X k) (f : Addr), v = .ref f ∧ LamAt X l H1 f ∧ TT (fun E H' Q' => l.t E σ H' Q') H1 Q
theorem pe_lamB {pins : List (Addr × Obj)} {σ : L2.St} {H0 : Hp} {s0 : Shared} {fp : List Addr} {scope : Scope} {cenv : Env} {k : Nat} {x a : Str} {TT : (XK → Hp → VK → Prop) → Hp → VK → Prop} {e : Expr} {te : TE} {p pos : Pos} (B : BI X pins σ H0 s0 fp) (D : LFn X x a TT) (hr : Room (k + 2) X.A)
    (ha : PA (X.blk s0 H0 scope cenv fp) [e] (tCons te tNil)) (hg : Gl (X.blk s0 H0 scope cenv fp) x := by rfl) (hdb : (x == ("__debug__" : Str)) = false := by decide)
    (hst : starEach (e :: []) cenv = (false, eval e cenv) :: starEach [] cenv := by rfl) (hpl : (backTo pos (starEach [] cenv)).any (·.1) = false := by rfl) (hd : (a == ("__debug__" : Str)) = false := by decide) (hcd : (a == ("__classdict__" : Str)) = false := by decide) :
    PE (X.blk s0 H0 scope cenv fp) (.Call (.Name x p) [e] [] pos) (tLamB X k TT te σ) := by
  obtain ⟨g0, _, _, _, _, _, _, _, _, _, _, _, _, _, _, hm0, hk0, _⟩ := D.ex
  refine ⟨fun pins' s σ' H Q I h => ?_⟩
  refine wpAny_Call_Name_kw (ld_glob I hg hm0 ?_ hdb)
  let R : V → Hp → Prop := fun v H1 => ∃ (l : LamT X k) (f : Addr), v = .ref f ∧ LamAt X l H1 f ∧ TT (fun E H' Q' => l.t E σ H' Q') H1 Q
  refine PySem.W.callWith_K (h₀ := X.base) I.ok.mod.kin hk0 (thn (ha.run pos pins' s σ' H (fun vs H1 => match vs with | [v] => R v H1 | _ => False) I h) fun us s1 hh => ?_) hst hpl
  obtain ⟨vs, H1, I1, r1, hR⟩ := hh
  match vs, r1, hR with
  | [v], r1, hR =>
  obtain ⟨l, f, ef, hl, q⟩ := hR
  subst ef
  refine ⟨I1.kIn, ?_⟩
  cases r1 with
  | cons ru rn =>
    cases rn
    cases ru
    obtain ⟨g, hm, hk, rc⟩ := lam_run D hr (B.now I1) hl q hd hcd
    rw [hm0] at hm
    cases hm
    refine wpAny_call (codeAny_mono rc fun r s2 hq => ?_)
    cases r with
    | error e => exact (show False from hq).elim
    | ok fl =>
      cases fl with
      | ret u => exact I1.after hq
      | next => exact False.elim hq
      | brk => exact False.elim hq
      | cont => exact False.elim hq
end
end MF
set_option Elab.async false
set_option linter.all false
set_option maxRecDepth 100000
set_option maxHeartbeats 1000000
namespace MF
open PySem PySem.Spec PyProof.Rows L2
def eqs (z : Str) (v : Value) : Bool := match v with
  | .str n _ => n.cps.toList == z.cps.toList
  | _ => false
theorem strEq (a b : Str) : (a.cps.toList == b.cps.toList) = (a == b) := by
  rw [Bool.eq_iff_iff, beq_iff_eq, beq_iff_eq]
  constructor
  · intro h
    obtain ⟨x⟩ := a
    obtain ⟨y⟩ := b
    have : x = y := Array.toList_inj.mp h
    rw [this]
  · intro h; rw [h]
theorem eqs_gives {z : Str} {t : Tok} : ∀ {ys : List Str} {us : List Value}, Vals (ys.map V.str) us → ∀ y ∈ us, MeetsSeq.EqGives y (.str z t) (eqs z y)
  | [], _, .nil => fun y hy => by cases hy
  | n :: ys, _, .cons r h => fun y hy => by
    obtain ⟨t', rfl⟩ := r
    rcases List.mem_cons.mp hy with e | e
    · rw [e]
      exact PySem.SeqRoads2.EqGives.str n z t' t
    · exact eqs_gives h y e
theorem eqs_count {z : Str} : ∀ {ys : List Str} {us : List Value}, Vals (ys.map V.str) us → us.countP (eqs z) = ys.count z
  | [], _, .nil => rfl
  | n :: ys, _, .cons r h => by
    obtain ⟨t', rfl⟩ := r
    have ih := eqs_count (z := z) h
    rw [List.countP_cons, List.count_cons, ih, show eqs z (.str n t') = (n == z) from strEq n z]
def rCntS (K : PySem.W.Frag) : V → List V → Hp → VK → Prop := fun x xs H Q => ∃ (p : Addr) (ys : List Str) (z : Str), x = .ref p ∧ xs = [.str z] ∧ SqL K H p (ys.map V.str) ∧ Q (.int (ys.count z : Nat)) H
theorem mt_lcountS {X : Cx} {K : PySem.W.Frag} (hK : X.K = K := by rfl) : MtR X "list.count" (rCntS K) := by
  subst hK
  intro pins s σ H x xs v us Q I rx rxs h
  obtain ⟨p, ns, k, rfl, rfl, hs, q⟩ := h
  cases rx
  obtain ⟨u, rfl, ru⟩ := rxs.one
  obtain ⟨t, rfl⟩ := ru
  obtain ⟨its, rv, ⟨⟨cls, dd, data, sl⟩, n, ho, hc, hdn, hd⟩, hlen⟩ := I.list hs
  simp only at hc hd
  subst hc hd
  refine call_meets PySem.F.slot_list_count ⟨_, ho, rfl⟩ PySem.F.entry_list_count (PySem.F.args_list_count_2 _ _)
    (SeqAt.list_countAt p its.toArray n dd sl (.str k t) (eqs k)) ⟨ho, fun y hy => (eqs_gives rv y (by simpa using hy)).at _ _, ?_⟩
  have ec : its.toArray.toList.countP (eqs k) = ns.count k := eqs_count rv
  refine ⟨.int (ns.count k : Nat), H, I.tok _, ⟨s.toks, ?_⟩, q⟩
  show Value.int ((its.toArray.toList.countP (eqs k) : Nat) : Int) s.toks = Value.int ((ns.count k : Nat) : Int) s.toks
  rw [ec]
theorem pe_bmK {X : Cx} {K : PySem.W.Frag} {o e : Expr} {es : List Expr} {to : TE} {t : TA} {name : Str} {apos cpos : Pos} {T id : String} {r : V → List V → Hp → VK → Prop} (pa : PlainAttrs T) (slot : Slot T name id) (hty : typeOf (.builtin id) = pure (.type "method_descriptor")) (hm : MtR X id r) (ho : PE X o to) (ha : PA X (e :: es) t)
    (hK : X.K = K := by rfl) (hbase : attributeBase o name X.env (eval o X.env) = eval o X.env := by rfl)
    (hfew : ((backTo cpos (starEach (e :: es) X.env)).all (fun x => !x.1) && (backToKw cpos (keywordEach [] X.env)).all (fun x => x.1.isSome)
      && decide ((e :: es).length + ([] : List Keyword).length + (if ([] : List Keyword).isEmpty then 0 else 1) < 30)) = true := by rfl)
    (hline : (apos.endLine == cpos.line) = true := by rfl) (hs : starEach (e :: es) X.env = (false, eval e X.env) :: starEach es X.env := by rfl) (hplain : (backTo cpos (starEach es X.env)).any (·.1) = false := by rfl) :
    PE X (.Call (.Attribute o name apos) (e :: es) [] cpos) (tBM K T r to t) := hK ▸ pe_bm pa slot hty hm ho ha hbase hfew hline hs hplain
end MF
set_option Elab.async false
set_option linter.all false
set_option maxRecDepth 100000
set_option maxHeartbeats 2000000
namespace MF
open PySem PySem.Spec PyProof.Rows L2 StX
theorem eqb_at {k : Bool} : ∀ {ys : List Bool} {us : List Value}, Vals (ys.map V.bl) us → ∀ y ∈ us, ∀ (A : Around) (s : Shared), SeqAt.EqAt A s y (.bool k) (isBoolOf k y)
  | [], _, .nil => fun y hy => by cases hy
  | b :: ys, _, .cons r h => fun y hy A s => by
    cases r
    rcases List.mem_cons.mp hy with e | e
    · rw [e]
      exact SeqAt.EqAt.bool_bool b k
    · exact eqb_at h y e A s
theorem eqb_count {k : Bool} : ∀ {ys : List Bool} {us : List Value}, Vals (ys.map V.bl) us → us.countP (isBoolOf k) = ys.count k
  | [], _, .nil => rfl
  | b :: ys, _, .cons r h => by
    cases r
    have ih := eqb_count (k := k) h
    rw [List.countP_cons, List.count_cons, ih]
    rfl
def rCntB (K : PySem.W.Frag) : V → List V → Hp → VK → Prop := fun x xs H Q => ∃ (p : Addr) (ys : List Bool) (k : Bool), x = .ref p ∧ xs = [.bl k] ∧ SqL K H p (ys.map V.bl) ∧ Q (.int (ys.count k : Nat)) H
theorem mt_lcountB {X : Cx} : MtR X "list.count" (rCntB X.K) := by
  intro pins s σ H x xs v us Q I rx rxs h
  obtain ⟨p, ys, k, rfl, rfl, hs, q⟩ := h
  cases rx
  obtain ⟨u, rfl, ru⟩ := rxs.one
  obtain rfl : u = Value.bool k := ru
  obtain ⟨its, rv, ⟨⟨cls, dd, data, sl⟩, n, ho, hc, hdn, hd⟩, hlen⟩ := I.list hs
  simp only at hc hd
  subst hc hd
  refine call_meets PySem.F.slot_list_count ⟨_, ho, rfl⟩ PySem.F.entry_list_count (PySem.F.args_list_count_2 _ _)
    (SeqAt.list_countAt p its.toArray n dd sl (.bool k) (isBoolOf k)) ⟨ho, fun y hy => eqb_at rv y (by simpa using hy) _ _, ?_⟩
  have ec : its.toArray.toList.countP (isBoolOf k) = ys.count k := eqb_count rv
  refine ⟨.int (ys.count k : Nat), H, I.tok _, ⟨s.toks, ?_⟩, q⟩
  show Value.int ((its.toArray.toList.countP (isBoolOf k) : Nat) : Int) s.toks = Value.int ((ys.count k : Nat) : Int) s.toks
  rw [ec]
theorem mt_lcountBK {X : Cx} {K : PySem.W.Frag} (h : X.K = K := by rfl) : MtR X "list.count" (rCntB K) := h ▸ mt_lcountB
theorem mt_indexDK {X : Cx} {K : PySem.W.Frag} (hu : X.A.units + 65 < cLine) (h : X.K = K := by rfl) : MtR X "list.index" (rIndexD K) := h ▸ mt_indexD hu
def rIsY (K : PySem.W.Frag) (cls : Value) (a : Addr) (d : Option Addr) : List V → Hp → VK → Prop := fun xs H Q => ∃ (D : Addr) (c : V) (cv : Value) (b : Bool), xs = [.ref a, c] ∧ cls = .ref D ∧ ExcC K D ∧ (∀ u, RelV c u → u = cv) ∧ PySem.W.kitOne K (.ref D) cv = some b ∧ DictSt H d ∧ Q (.bl b) H
theorem call_isY {X : Cx} {a : Addr} {cls : Value} {d : Option Addr} {oe : Obj} {pn : List (Addr × Obj)} (hz : Zc cls d oe) (hf : ∃ vs, oe.data = .fields vs) : CallR (X.suite a ((a, oe) :: pn)) (.builtin "isinstance") (rIsY X.K cls a d) := by
  intro pins s σ H xs us Q I r h
  obtain ⟨D, c, cv, b, e1, rfl, hC, hcv, e, hd, q⟩ := h
  exact call_isX hC hz hf pins s σ H xs us Q I r ⟨c, cv, b, e1, hcv, e, hd, q⟩
def tXfY (K : PySem.W.Frag) (a : Addr) (cls : Value) (d : Option Addr) (f : Str) (te : TE) : TE := fun σ H Q => te σ H fun x H1 => x = .ref a ∧ ∃ (C dd : Addr) (fs : List (Str × V)) (v : V), cls = .ref C ∧ XfC K C ∧ PySem.W.findIn K (.ref C) f = some none ∧ d = some dd ∧ H1 dd = some (.xd fs) ∧ fs.lookup f = some v ∧ Q v H1
theorem pe_xfY {X : Cx} {a : Addr} {oe : Obj} {cls : Value} {d : Option Addr} {pn : List (Addr × Obj)} {e : Expr} {te : TE} {pos : Pos} {n : Str}
    (hz : Zc cls d oe) (hf : ∃ vs, oe.data = .fields vs) (he : PE (X.suite a ((a, oe) :: pn)) e te) (hb : attributeBase e n X.env (eval e X.env) = eval e X.env := by rfl) :
    PE (X.suite a ((a, oe) :: pn)) (.Attribute e n pos) (tXfY X.K a cls d n te) := by
  refine ⟨fun pins s σ H Q I h => ?_⟩
  refine attr_of hb (thn (he.run pins s σ H _ I h) fun u s1 hh => ?_)
  obtain ⟨x, H1, I1, rx, ex, C, dd, fs, v, ec, T, hno, ed, ea, l, q⟩ := hh
  subst ex
  obtain rfl : u = Value.ref a := rx
  subst ec
  subst ed
  obtain ⟨ha, _⟩ := I1.pin (a, oe) (List.mem_append_left _ List.mem_cons_self)
  obtain ⟨vs, hd⟩ := hf
  have hx : ObjOk X.prog X.w H1 s1.heap dd (.xd fs) := I1.hok dd _ ea
  obtain ⟨mA, hns, hr⟩ := hx
  obtain ⟨od, ho, hl⟩ := lookIn_ns hns
  obtain ⟨u, hu, ru⟩ := RelO.some_of (v := v) (o := mA n) (by rw [← l]; exact hr n)
  have J : PySem.W.InstAt s1.heap a oe C (some od) := ⟨ha, hz.1, by unfold PySem.W.notCls; rw [hd] <;> rfl, by rw [hz.2]; exact ho⟩
  exact HandSPX.exc_get I1.kIn J T.ga T.gg T.exC (PySem.W.findObj_own T.hdC hno rfl (by rw [hl, hu])) (handed_of ru) ⟨v, H1, I1.tok _, ru, q⟩
structure ErrC (K : PySem.W.Frag) (C M : Addr) : Prop where
  exc : ExcC K C
  exm : PySem.W.exmOne K (.ref C) (.ref M) = some true
  ve : PySem.W.kitOne K (.ref C) (.type "ValueError") = some true
theorem ErrC.xf {K : PySem.W.Frag} {C M : Addr} (h : ErrC K C M) : XfC K C := ⟨h.exc.hg, h.exc.hk, h.exc.hs, h.exc.hd⟩
inductive Err where
  | order (i : V)
  | unknown (i : V)
  | address
  | day
  | number
  | letter (i : V)
  | holding (i : V)
  | operation (i : V)
  | contra
  | count
  | decode (i : V)
  | note (r w : V)
structure Cls5 where
  order : Addr
  unknown : Addr
  address : Addr
  day : Addr
  number : Addr
  letter : Addr
  holding : Addr
  operation : Addr
  contra : Addr
  count : Addr
  decode : Addr
  note : Addr
def ErrAt (c : Cls5) (cls : Value) (d : Option Addr) (H : Hp) : Err → Prop
  | .order v => cls = .ref c.order ∧ ∃ dd, d = some dd ∧ H dd = some (.xd [("index", v)])
  | .unknown v => cls = .ref c.unknown ∧ ∃ dd, d = some dd ∧ H dd = some (.xd [("index", v)])
  | .address => cls = .ref c.address ∧ d = none
  | .day => cls = .ref c.day ∧ d = none
  | .number => cls = .ref c.number ∧ d = none
  | .letter v => cls = .ref c.letter ∧ ∃ dd, d = some dd ∧ H dd = some (.xd [("letter", v)])
  | .holding v => cls = .ref c.holding ∧ ∃ dd, d = some dd ∧ H dd = some (.xd [("index", v)])
  | .operation v => cls = .ref c.operation ∧ ∃ dd, d = some dd ∧ H dd = some (.xd [("index", v)])
  | .contra => cls = .ref c.contra ∧ d = none
  | .count => cls = .ref c.count ∧ d = none
  | .decode v => cls = .ref c.decode ∧ ∃ dd, d = some dd ∧ H dd = some (.xd [("offset", v)])
  | .note r w => cls = .ref c.note ∧ ∃ dd, d = some dd ∧ H dd = some (.xd [("word", w), ("row", r)])
def errV : Err → List V
  | .order v => [.str "order", v]
  | .unknown v => [.str "unknown", v]
  | .address => [.str "address"]
  | .day => [.str "day"]
  | .number => [.str "number"]
  | _ => []
def TRaised (rk : Err → Prop) (c : Cls5) : (XK → Hp → VK → Prop) → Hp → VK → Prop := fun tl H Q =>
  tl (fun cls d H' => ∃ r, rk r ∧ ErrAt c cls d H' r ∧ ∀ p H2, Same H' H2 → H' p = none → H2 p = some (.tup (errV r)) → Q (.ref p) H2) H (fun _ H' => Q .non H')
def errT : Err → Str × List V
  | .order v => ("InvalidOrder", [v])
  | .unknown v => ("UnknownOrder", [v])
  | .address => ("InvalidAddress", [])
  | .day => ("InvalidDay", [])
  | .number => ("InvalidNumber", [])
  | .letter v => ("UnknownLetter", [v])
  | .holding v => ("NotHolding", [v])
  | .operation v => ("InvalidOperation", [v])
  | .contra => ("Contradiction", [])
  | .count => ("InvalidCount", [])
  | .decode v => ("DecodeError", [v])
  | .note r w => ("NotationError", [r, w])
def ToldAt (H : Hp) (p : Addr) (r : Err) : Prop := match (errT r).2 with
  | [] => H p = some (.tup [.str "error", .str (errT r).1])
  | vs => ∃ l, H p = some (.tup [.str "error", .str (errT r).1, .ref l]) ∧ H l = some (.lst vs)
def TTold (rk : Err → Prop) (c : Cls5) : (XK → Hp → VK → Prop) → Hp → VK → Prop := fun tl H Q =>
  tl (fun cls d H' => ∃ r, rk r ∧ ErrAt c cls d H' r ∧ ∀ p H2, Same H' H2 → H' p = none → ToldAt H2 p r → Q (.ref p) H2) H Q
def wordAt : Nat → Str
  | 0 => "order"
  | 1 => "unknown"
  | 2 => "address"
  | 3 => "day"
  | _ => "number"
end MF
set_option Elab.async false
set_option linter.all false
set_option maxRecDepth 100000
set_option maxHeartbeats 2000000
namespace MF
open PySem PySem.Spec PyProof.Rows L2 StX LamX
theorem pss_no {X : Cx} {ss : List Stmt} : PSs X ss (fun _ _ _ => False) := ⟨fun _ _ _ _ _ _ h => h.elim⟩
theorem ps_no {X : Cx} {st : Stmt} : PS X st (fun _ _ _ => False) := ⟨fun _ _ _ _ _ _ h => h.elim⟩
theorem pe_no {X : Cx} {e : Expr} : PE X e (fun _ _ _ => False) := ⟨fun _ _ _ _ _ _ h => h.elim⟩
theorem passM {X : Cx} {A : Around} {outer : List Env} {s : Shared} {H : Hp} {E : XK} {scope : Scope} {f c' : Addr} : Passes (L2.CX X.prog X.w) (lamCx X A outer s H E scope f c') E := passes_call (W := fun cls d _ H => E cls d H) (takes_of rfl rfl rfl rfl) fun _ _ _ _ h => h
theorem passN {X : Cx} : Passes (L2.CX X.prog X.w) X E0 := fun _ _ _ _ _ _ _ h => by
  obtain ⟨_, _, _, _, _, _, _, _, _, _, _, _, z⟩ := h
  exact z.elim
theorem pe_lamX {X : Cx} {k : Nat} {params : Arguments} {body : Expr} {scope : Scope} {t : XK → TE} {T : List (Addr × Str)} {q : Str} {c P : Addr} {lpos : Pos} (TB : TabB X.base X.mg c P) (hmT : (P, q) ∈ T) (hu : ∀ p ∈ T, p.1 = P → p.2 = q) (hq : X.env.qual ++ "<lambda>" = q) (hcode : X.env.code = .ref c)
    (hdef : defaultsOf params X.env = ([], [])) (L : LamS X.env.scope scope) (bind : ∀ (q : Str) (cl : List (Str × Addr)) (doc pm cv ctv : Value), bindArgs (lamFd q params body scope cl .none doc pm cv ctv) ⟨[], []⟩ = pure [])
    (run : ∀ (A : Around) (outer : List Env) (s : Shared) (H : Hp) (E : XK) (f c' : Addr), Room k (A.deeper (lamEnv X scope s.heap.objs.size f c')) → PE (lamCx X A outer s H E scope f c') body (t E)) :
    PE X (.Lambda params body scope lpos) (tLamE T X (k := k) ⟨none, params, body, scope, t, lamSN_of L, bind, run⟩) := by
  subst hq
  exact pe_lamE (k := k) ⟨none, params, body, scope, t, lamSN_of L, bind, run⟩ rfl TB hcode hmT hu hdef
theorem pe_lamXD {X : Cx} {k : Nat} {x : Str} {params : Arguments} {body : Expr} {scope : Scope} {t : XK → TE} {T : List (Addr × Str)} {q : Str} {c P : Addr} {lpos p0 : Pos} {i0 : Int} {j0 : Nat} (TB : TabB X.base X.mg c P) (hmT : (P, q) ∈ T) (hu : ∀ p ∈ T, p.1 = P → p.2 = q) (hq : X.env.qual ++ "<lambda>" = q) (hcode : X.env.code = .ref c)
    (hdef : params.defaults = [.Constant (.int i0) j0 p0]) (hkw : params.kw_defaults = []) (L : LamSN X.N X.env.scope scope) (hl : scope.names.lookup x = some .local) (bind : ∀ (q : Str) (cl : List (Str × Addr)) (T : Addr) (doc pm cv ctv : Value), ∃ k, bindArgs (lamFd q params body scope cl (.ref T) doc pm cv ctv) ⟨[], []⟩ = seqItems? (.ref T) >>= k ∧ ∀ u, k (some #[u]) = pure [(x, u)])
    (run : ∀ (A : Around) (outer : List Env) (s : Shared) (H : Hp) (E : XK) (f c' : Addr), Room k (A.deeper (lamEnv X scope s.heap.objs.size f c')) → PE (lamCx X A outer s H E scope f c') body (t E)) :
    PE X (.Lambda params body scope lpos) (tLamE T X (k := k) ⟨some x, params, body, scope, t, L, ⟨hl, bind⟩, run⟩) := by
  subst hq
  exact pe_lamD (k := k) ⟨some x, params, body, scope, t, L, ⟨hl, bind⟩, run⟩ rfl TB hcode hmT hu hdef hkw
structure FunC (K : PySem.W.Frag) (x qual : Str) (st : Stmt) (f : Addr) (fd : FuncData) (c : Addr) : Prop where
  ex : ∃ (oc : Value) (od : Option Addr) (kV doc pm : Value) (an : Option Addr) (ct : Value) (osl : Array (Option Value)), fd = PySem.W.fnOf x qual (defArgs st) (defBody st) (defScope st) .none kV doc pm an (.ref c) ct ∧ K.lookup f = some ⟨oc, od, .func fd, osl⟩ ∧ PySem.W.codeIn K (.ref c) qual = true
theorem FunC.ok {P : Program} {w : World} {K : PySem.W.Frag} {mg : Str → Option Value} {base : Heap} {x qual : Str} {st : Stmt} {f c : Addr} {fd : FuncData} {N ps : List Str} {k : Nat} {sp : Sp} (F : FunC K x qual st f fd c) (S : FnScope N ps (defScope st)) (len : ∀ vs H Q E, sp vs H Q E → vs.length = ps.length)
    (hbody : ∀ (A : Around) (outer : List Env) (s : Shared) (H : Hp) (vs : List V) (Q : VK) (E : XK), Room k (A.deeper (envOfC qual (defScope st) s.heap.objs.size f (.ref c))) → sp vs H Q E →
      ∃ t, PSs (cxOf CX0 P w K mg base N qual (defScope st) f (.ref c) A outer s H E).nox (defBody st) t ∧ t { nx := fun _ H' => Q .non H', rt := Q } (start N vs) H) : FnOk P w K mg base CX0 (k + 1) f fd ps sp := by
  obtain ⟨oc, od, kV, doc, pm, an, ct, osl, rfl, lk, hcd⟩ := F.ex
  refine fn_of lk hcd S len fun A outer s H vs Q E hr hsp => ?_
  obtain ⟨t, h, q⟩ := hbody A outer s H vs Q E hr hsp
  exact ⟨t, h.nox, q⟩
theorem GDef.fnX {P : Program} {w : World} {K : PySem.W.Frag} {mg : Str → Option Value} {base : Heap} {k : Nat} {x : Str} {st : Stmt} {ps N : List Str} {sp : Sp} (D : GDef K mg x st ps) (S : FnScope N ps (defScope st)) (len : ∀ vs H Q E, sp vs H Q E → vs.length = ps.length)
    (hbody : ∀ (f : Addr) (cdv : Value) (A : Around) (outer : List Env) (s : Shared) (H : Hp) (vs : List V) (Q : VK) (E : XK), Room k (A.deeper (envOfC x (defScope st) s.heap.objs.size f cdv)) → sp vs H Q E →
      ∃ t, PSs (cxOf (L2.CX P w) P w K mg base N x (defScope st) f cdv A outer s H E) (defBody st) t ∧ t { nx := fun _ H' => Q .non H', rt := Q } (start N vs) H) : GFn P w K mg base (L2.CX P w) (k + 1) x sp :=
  D.fn fun f fd F => by
    obtain ⟨oc, od, kV, doc, pm, an, cdv, ct, osl, rfl, lk, hcd⟩ := F.ex
    exact fn_of lk hcd S len fun A outer s H vs Q E hr hsp => hbody f cdv A outer s H vs Q E hr hsp
theorem MDef.fnX {P : Program} {w : World} {K : PySem.W.Frag} {mg : Str → Option Value} {base : Heap} {k : Nat} {C : Addr} {m qual : Str} {st : Stmt} {ps N : List Str} {sp : Sp} (D : MDef K C m qual st ps) (S : FnScope N ps (defScope st)) (len : ∀ vs H Q E, sp vs H Q E → vs.length = ps.length)
    (hbody : ∀ (f : Addr) (cdv : Value) (A : Around) (outer : List Env) (s : Shared) (H : Hp) (vs : List V) (Q : VK) (E : XK), Room k (A.deeper (envOfC qual (defScope st) s.heap.objs.size f cdv)) → sp vs H Q E →
      ∃ t, PSs (cxOf (L2.CX P w) P w K mg base N qual (defScope st) f cdv A outer s H E) (defBody st) t ∧ t { nx := fun _ H' => Q .non H', rt := Q } (start N vs) H) : MFn P w K mg base (L2.CX P w) (k + 1) C m sp :=
  D.fn fun f fd F => by
    obtain ⟨oc, od, kV, doc, pm, an, cdv, ct, osl, rfl, lk, hcd⟩ := F.ex
    exact fn_of lk hcd S len fun A outer s H vs Q E hr hsp => hbody f cdv A outer s H vs Q E hr hsp
def spLawT (K : PySem.W.Frag) (Ps : List Addr) : Sp := fun vs H Q _ => ∃ (a : Addr) (ns : List Int), vs = [.ref a] ∧ SqL K H a (ns.map V.int) ∧ ns.length ≤ 63 ∧ (∀ P ∈ Ps, H P = some (.tbl #[])) ∧ ∀ H', Q (.bl true) H'
theorem op_neDK {X : Cx} {K : PySem.W.Frag} (hu : X.A.units + 64 < cLine) (h : X.K = K := by rfl) : OpR X (compareOp .NotEq) (rNeD K) := h ▸ op_neD hu
theorem op_eqDK {X : Cx} {K : PySem.W.Frag} (hu : X.A.units + 64 < cLine) (h : X.K = K := by rfl) : OpR X (compareOp .Eq) (rEqD K) := h ▸ op_eqD hu
theorem ExtN.ext {H H' : Hp} (e : ExtN H H') : ∀ b φ, H b = some (.ext φ) → H' b = some (.ext φ) := fun b φ h => e _ _ h fun ps z => by cases z
end MF
set_option Elab.async false
set_option linter.all false
set_option maxRecDepth 100000
set_option maxHeartbeats 2000000
namespace MF
open PySem PySem.Spec PyProof.Rows L2 StX LamX
structure GDefC (K : PySem.W.Frag) (mg : Str → Option Value) (x : Str) (st : Stmt) (ps : List Str) (c : Addr) : Prop where
  ex : ∃ f fd, FunC K x x st f fd c ∧ mg x = some (.ref f) ∧ Binds K fd ps [] ∧ PySem.W.keepIn K (.ref f) = true
theorem GDefC.fn {P : Program} {w : World} {K : PySem.W.Frag} {mg : Str → Option Value} {base : Heap} {CX : CXT} {k : Nat} {x : Str} {st : Stmt} {ps : List Str} {sp : Sp} {c : Addr} (D : GDefC K mg x st ps c) (h : ∀ f fd, FunC K x x st f fd c → FnOk P w K mg base CX k f fd ps sp) : GFn P w K mg base CX k x sp :=
  let ⟨f, fd, a, b, d, e⟩ := D.ex
  ⟨f, raw0 (h f fd a) d, b, e⟩
end MF
set_option Elab.async false
set_option linter.all false
set_option maxRecDepth 100000
set_option maxHeartbeats 2000000
namespace MF
open PySem PySem.Spec PyProof.Rows L2 StX
def oexB (K : PySem.W.Frag) (C : Addr) : Bool := match K.lookup C with
  | some ⟨.type "type", _, .cls cd, sl⟩ => (match cd.mro, sl.toList with
    | .ref C' :: bm, [_, _, _, _, some (.builtin n), _] => C' == C && n == "ValueError.__new__" && cd.hasDict && !cd.hasDel && PySem.HandSPX.refsVE bm
    | _, _ => false)
  | _ => false
theorem oex_cls {K : PySem.W.Frag} {C : Addr} (q : oexB K C = true) : ∃ nm q N bs bm sn sub ab col dd k0 k1 k2 k3 k5, K.lookup C = some (excClassObj nm q C N bs bm true sn sub ab col dd k0 k1 k2 k3 k5 "ValueError.__new__") ∧ PySem.HandSPX.refsVE bm = true := by
  unfold oexB at q
  split at q
  · rename_i dd cd sl hk
    split at q
    · rename_i C' bm k0 k1 k2 k3 n k5 hm hs
      simp only [Bool.and_eq_true, Bool.not_eq_true'] at q
      obtain ⟨⟨⟨⟨e1, e2⟩, e3⟩, e4⟩, e5⟩ := q
      obtain rfl : C' = C := beq_iff_eq.mp e1
      obtain rfl : n = "ValueError.__new__" := beq_iff_eq.mp e2
      obtain ⟨nm, bs, mro, N, qn, hdct, sn, sub, ab, col, del⟩ := cd
      simp only at hm e3 e4
      subst hm e3 e4
      have : sl = #[k0, k1, k2, k3, some (.builtin "ValueError.__new__"), k5] := Array.ext' hs
      subst this
      exact ⟨nm, qn, N, bs, bm, sn, sub, ab, col, dd, k0, k1, k2, k3, k5, hk, e5⟩
    · cases q
  · cases q
theorem oex_of {K : PySem.W.Frag} {C : Addr} (q : oexB K C = true) (sa : PySem.W.findIn K (.ref C) "__setattr__" = some (some (.builtin "object.__setattr__"))) (exC : PySem.W.subIn K (.ref C) (.type "BaseException") = some true) (tyC : PySem.W.typeIn K (.ref C) = some (.type "type")) (kC : PySem.W.keepIn K (.ref C) = true) : OexC K C := ⟨oex_cls q, sa, exC, tyC, kC⟩
end MF
set_option Elab.async false
set_option linter.all false
set_option maxRecDepth 100000
set_option maxHeartbeats 2000000
namespace MF
open PySem PySem.Spec PyProof.Rows L2 StX
theorem SDef.fnX {P : Program} {w : World} {K : PySem.W.Frag} {mg : Str → Option Value} {base : Heap} {k : Nat} {C : Addr} {x qual p1 pv : Str} {st : Stmt} {N : List Str} {sp : Sp} (D : SDef K mg C x qual st p1 pv) (S : FnScope N [p1, pv] (defScope st))
    (hbody : ∀ (f : Addr) (cdv : Value) (A : Around) (outer : List Env) (s : Shared) (H : Hp) (vs : List V) (Q : VK) (E : XK), Room k (A.deeper (envOfC qual (defScope st) s.heap.objs.size f cdv)) → sp vs H Q E →
      ∃ t, PSs (cxOf (L2.CX P w) P w K mg base N qual (defScope st) f cdv A outer s H E) (defBody st) t ∧ t { nx := fun _ H' => Q .non H', rt := Q } (start N vs) H) :
    IFn P w K mg base (L2.CX P w) (k + 1) C x (fun vs H Q E => ∃ v rest, vs = v :: rest ∧ rest.length ≤ sizeLine ∧ ∀ p, H p = Option.none → sp [v, V.ref p] (upd H p (.tup rest)) Q E) := by
  obtain ⟨f, fd, F, M, hm, hb⟩ := D.ex
  obtain ⟨oc, od, kV, doc, pm, an, cdv, ct, osl, rfl, lk, hcd⟩ := F.ex
  refine ⟨f, (fn_star (ps := [p1]) (pv := pv) (sp := sp) lk hcd S cxUp hb fun A outer s H vs Q E hr hsp => hbody f cdv A outer s H vs Q E hr hsp).imp fun vs H Q E h => ?_, M, hm⟩
  obtain ⟨v, rest, rfl, hl, q⟩ := h
  exact ⟨[v], rest, rfl, rfl, hl, q⟩
theorem owns_cx {P : Program} {w : World} {K : PySem.W.Frag} {mg : Str → Option Value} {base : Heap} {N : List Str} {qual : Str} {scope : Scope} {f : Addr} {cd : Value} {A : Around} {outer : List Env} {s : Shared} {H : Hp} {E : XK} :
    PassesOwn (model P w) (cxOf (L2.CX P w) P w K mg base N qual scope f cd A outer s H E).A (cxOf (L2.CX P w) P w K mg base N qual scope f cd A outer s H E).env (cxOf (L2.CX P w) P w K mg base N qual scope f cd A outer s H E).xe :=
  passes_of (X := cxOf (L2.CX P w) P w K mg base N qual scope f cd A outer s H E) rfl
end MF
set_option Elab.async false
set_option linter.all false
set_option maxRecDepth 100000
set_option maxHeartbeats 1000000
namespace MF
open PySem PySem.Spec PyProof.Rows L2 StX
theorem passG {P : Program} {w : World} {K : PySem.W.Frag} {mg : Str → Option Value} {base : Heap} {N : List Str} {q : Str} {sc : Scope} {f : Addr} {cdv : Value} {A : Around} {outer : List Env} {s : Shared} {H : Hp} {E : XK} {pn : List (Addr × Obj)} :
    Passes (L2.CX P w) (gcxOf P w K mg base N q sc f cdv A outer s H E pn) E := passes_call (W := fun cls d _ H => E cls d H) takes_gcx fun _ _ _ _ h => h
theorem takeG {P : Program} {w : World} {K : PySem.W.Frag} {mg : Str → Option Value} {base : Heap} {N : List Str} {q : Str} {sc : Scope} {f : Addr} {cdv : Value} {A : Around} {outer : List Env} {s : Shared} {H : Hp} {E : XK} {pn : List (Addr × Obj)} :
    Takes (gcxOf P w K mg base N q sc f cdv A outer s H E pn) (fun cls d _ H => E cls d H) := takes_gcx
def NSX (K : PySem.W.Frag) (E : XK) : XK := fun cls d H => E cls d H ∧ PySem.W.subIn K cls (.type "StopIteration") = some false
theorem NSX.ns {K : PySem.W.Frag} {E : XK} : NoStop K (NSX K E) := fun _ _ _ h => h.2
theorem passImp {X : Cx} {E E' : XK} (h : Passes (CX X.prog X.w) X E) (hi : ∀ cls d H, E' cls d H → E cls d H) : Passes (CX X.prog X.w) X E' := fun pins σ H s e s' I c => h pins σ H s e s' I (by
  obtain ⟨a, B, H', cls, d, z1, fl, z2, ub, z3, z4, z5, z6⟩ := c
  exact ⟨a, B, H', cls, d, z1, fl, z2, ub, z3, z4, z5, hi _ _ _ z6⟩)
theorem pe_listGX {X : Cx} {CX' : CXT} {K : PySem.W.Frag} {k : Nat} {x : Str} {sp : SpG} {E : XK} {e : Expr} {es : List Expr} {t : TA} {p p' pos pos' : Pos} (G : PGn X.prog X.w X.K X.mg X.base k x sp) (hr : Room (k + 3) X.A) (hmg : X.mg "list" = none) (hE : Passes CX' X E) (ha : PA X (e :: es) t)
    (hg : Gl X "list" := by rfl) (hx : Gl X x := by rfl) (hdb : (x == ("__debug__" : Str)) = false := by decide) (he : starEach (e :: es) X.env = (false, eval e X.env) :: starEach es X.env := by rfl) (hpl : (backTo pos' (starEach es X.env)).any (·.1) = false := by rfl)
    (he' : starEach [.Call (.Name x p') (e :: es) [] pos'] X.env = (false, eval (.Call (.Name x p') (e :: es) [] pos') X.env) :: starEach [] X.env := by rfl) (hK : X.K = K := by rfl) (hC : CX' = CX X.prog X.w := by rfl) :
    PE X (.Call (.Name "list" p) [.Call (.Name x p') (e :: es) [] pos'] [] pos) (tListG (tCallG sp [] (NSX K E) t)) := by
  subst hK hC
  obtain ⟨f, fd, ps, F, hm, hk, hb⟩ := G.ex
  exact pe_listG (pgen_call F (hr.mono (by omega)) hx hm hk hb .nil ha hdb he hpl) (passImp hE fun _ _ _ h => h.1) NSX.ns hr hg hmg rfl (by decide) (by decide) he'
end MF
set_option Elab.async false
set_option linter.all false
set_option maxRecDepth 100000
set_option maxHeartbeats 2000000
namespace MF
open PySem PySem.Spec PyProof.Rows L2 StX LamX
def xeB (X : Cx) (ce : Env) : Value → Shared → Prop := notedBy (model X.prog X.w) X.A ce fun e s' => CompFails (model X.prog X.w) X.A X.xe ce e s'
theorem noteFrame_as {e : Value} {a b : Env} (h : a.frame = b.frame) : noteFrame e a = noteFrame e b := by
  unfold PySem.noteFrame PySem.frameOf
  rw [h]
theorem passOn_as {α : Type} {t : String} {e : Value} {a b : Env} (h : a.frame = b.frame) : (PySem.passOn t e a : Sem α) = PySem.passOn t e b := by
  unfold PySem.passOn
  rw [h]
theorem funFrames_but {B B' h h' : Heap} {C : Addr} : ∀ {l : List Env}, h.FunFrames B l → (∀ b, B'.get? b = none ∨ B'.get? b = B.get? b) → (∀ b, b ≠ C → h'.get? b = h.get? b) → C ∉ frs l → h'.FunFrames B' l
  | [], _, _, _, _ => trivial
  | env :: l, hh, hB, k, hC => by
    obtain ⟨hk, ⟨L, o, hf, hn, ho, hd⟩, hr⟩ := hh
    have hL : L ∈ frs (env :: l) := List.mem_filterMap.mpr ⟨env, List.mem_cons_self, hf⟩
    refine ⟨hk, ⟨L, o, hf, ?_, by rw [k L (fun z => hC (z ▸ hL))]; exact ho, hd⟩, funFrames_but hr hB k fun z => hC ?_⟩
    · rcases hB L with z | z
      · exact z
      · rw [z]; exact hn
    · obtain ⟨e, he, q⟩ := List.mem_filterMap.mp z
      exact List.mem_filterMap.mpr ⟨e, List.mem_cons_of_mem _ he, q⟩
section
variable {X : Cx}
theorem passes_blk {pins : List (Addr × Obj)} {σ : L2.St} {H : Hp} {s : Shared} {fp : List Addr} {scope : Scope} {cl : List (Str × Addr)} {C : Addr} {E : XK} (hs : X.stack = X.env :: X.outer) (hf : X.env.frame = some X.env.locals)
    (tk : Takes X fun cls d _ H => E cls d H) (B : BI X pins σ H s fp) (hC : s.heap.objs.size ≤ C) :
    Passes (L2.CX X.prog X.w) ((X.blk s H scope (compEnvC scope cl C X.env) fp).wish (xeB X (compEnvC scope cl C X.env))) E := by
  intro pins' σ' H' s' u s'' I c
  have I1 := I.unwish
  have I2 : Inv X pins σ H' s' := B.now I1
  obtain ⟨m, hnm, _⟩ := I1.loc
  have hnm : s'.heap.Ns C m := hnm
  have hCn : H' C = none := I1.free
  have c' : L2.CX X.prog X.w X.stack H' s' E u s'' := c
  obtain ⟨a, B0, HE, cls, d, rfl, fl, hok, ub, na, os, ag, hE⟩ := c'
  have FC : FpOk X pins HE C := by
    obtain ⟨o, _, _, eo, _⟩ := hnm
    exact B.inv.fpOk hC (ub.free C o eo hCn)
  have stk : C ∉ frs X.stack := fun z => by
    rw [hs] at z
    obtain ⟨e, he, q⟩ := List.mem_filterMap.mp z
    rcases List.mem_cons.mp he with w | w
    · rw [w, hf] at q
      exact FC.2.1 (Option.some.inj q).symm
    · exact FC.2.2.1 (List.mem_filterMap.mpr ⟨e, w, q⟩)
  have hnB : s''.heap.Ns C m := by
    obtain ⟨o, es, ep, eo, r⟩ := hnm
    exact ⟨o, es, ep, fl.1 _ _ (ub.keep C o eo hCn stk), r⟩
  have xx : XE X (fun cls d _ H => (E cls d H ∧ H C = none)) (.ref a) s'' := XE.of_call (E := fun cls d H => E cls d H ∧ H C = none) I2 (fun _ _ _ h => h) ⟨a, B0, HE, cls, d, rfl, fl, hok, ub, na, os, ag, hE, FC.1⟩
  clear fl hok ub na os ag hE hnm
  obtain ⟨a', B1, sI, pinsI, σI, HI, cls, d, ea, II, nb, up, sky, na, os, ag, hE, hIC⟩ := xx
  cases ea
  have II0 : Inv X [] σI HI sI := ⟨II.ok, II.os, II.bare, II.base, II.loc, II.cell, II.free, II.freeC, fun p hp => II.pin p (by
    rw [List.append_nil] at hp
    exact List.mem_append_left _ hp), II.hok, II.len⟩
  have hfr : X.A.frames = some (X.env :: X.outer) := by rw [II.ok.frames, hs]
  have cf : (compEnvC scope cl C X.env).frame = X.env.frame := rfl
  show wpAny (model X.prog X.w) X.A (noteFrame (.ref a) (compEnvC scope cl C X.env)) _ _ _
  rw [noteFrame_as cf]
  have fin : ∀ h3, HandSPX.HeldZ B1 (X.env :: X.outer) a (Zc cls d) X.env.locals h3 → s''.heap.UpToSlots h3 → CompFails (model X.prog X.w) X.A X.xe (compEnvC scope cl C X.env) (.ref a) { s'' with heap := h3 } := by
    intro h3 hh up3
    obtain ⟨k1, k2, k3, oe, vs, T, oT, ts, he, hz, hd, h1, hnT, hTe, hT, hdT, ht3⟩ := hh
    have n3 := up3.ns hnB
    refine ⟨m, n3, fun h' m' hn' sb => ?_⟩
    replace sb : Heap.SameBut C h3 h' := sb
    show wpAny (model X.prog X.w) X.A (PySem.passOn "comprehension.variables-let-go" (.ref a) (compEnvC scope cl C X.env)) _ _ _
    rw [passOn_as cf]
    have noC : ∀ {b o vs}, h3.get? b = some o → o.data = .fields vs → b ≠ C := fun {b o vs} e dd z => by
      obtain ⟨o', es, ep, e', d', _⟩ := n3
      rw [z, e'] at e
      cases e
      rw [d'] at dd
      cases dd
    have aC : a ≠ C := noC he hd
    have TC : T ≠ C := noC hT hdT
    have he' : h'.get? a = some oe := by rw [sb.2 a aC]; exact he
    have hT' : h'.get? T = some oT := by rw [sb.2 T TC]; exact hT
    obtain ⟨B2, g1, g2⟩ := restrict B1 fun b => !decide (b = C)
    have B2in : ∀ b o, B2.get? b = some o → B1.get? b = some o ∧ b ≠ C := fun b o e => by
      by_cases c : b = C
      · rw [g2 b (by simp [c])] at e
        cases e
      · rw [g1 b (by simp [c])] at e
        exact ⟨e, c⟩
    obtain ⟨G, q1, q2⟩ := restrict sI.heap fun b => !decide (b = C)
    have Gin : ∀ b o, G.get? b = some o → sI.heap.get? b = some o ∧ b ≠ C := fun b o e => by
      by_cases c : b = C
      · rw [q2 b (by simp [c])] at e
        cases e
      · rw [q1 b (by simp [c])] at e
        exact ⟨e, c⟩
    have st2 : B2.StaysIn h' := fun b o e => by
      obtain ⟨e1, n⟩ := B2in b o e
      rw [sb.2 b n]
      exact k1 b o e1
    have an2 : B2.get? a = none := by rw [g1 a (by simp [aC])]; exact k2
    have ff2 : h'.FunFrames B2 (X.env :: X.outer) := funFrames_but k3 (fun b => by
      by_cases c : b = C
      · exact .inl (g2 b (by simp [c]))
      · exact .inr (g1 b (by simp [c]))) sb.2 (by rw [← hs]; exact stk)
    have Tn2 : B2.get? T = none := by rw [g1 T (by simp [TC])]; exact hnT
    have tr2 : HandSPX.TracedZ h' B2 a (Zc cls d) (rawInt X.env.locals) := ⟨oe, vs, T, oT, ts, he', hz, hd, h1, Tn2, hTe, hT', hdT, ht3⟩
    unfold PySem.passOn
    refine wpAny_bind (wpAny_field he' hd h1 ?_)
    rw [if_neg (show ¬ ((Value.ref T == Value.none) = true) from by simp)]
    have goOn : wpAny (model X.prog X.w) X.A (setFlight (.ref a) X.env.frame) (fun _ s7 => wpAny (model X.prog X.w) X.A (throw (.ref a) : Sem Value) (fun _ _ => False) X.xe s7) X.xe { s'' with heap := h' } := by
      rw [hf]
      refine HandSPX.setFlight_anyZ (s := { s'' with heap := h' }) (fr := some X.env.locals) st2 ff2 tr2 fun h7 z1 z2 z3 z4 => wpAny_throw (tk _ _ ?_)
      refine ⟨a, B2, { sI with heap := G }, [], σI, HI, cls, d, rfl, ?_, fun b o e hb => ?_, fun b o e hn => ?_, ?_, na, os, ag, hE⟩
      · exact II0.turned (t' := sI.toks) (it := C) (fun b o hb e => by rw [q1 b (by simp [hb])]; exact e) hIC FC.2.1 FC.2.2.2.1 FC.2.2.2.2.1 fun p hp => FC.2.2.2.2.2 p (by
          rw [List.append_nil] at hp
          exact List.mem_append_left _ hp)
      · obtain ⟨e1, n⟩ := Gin b o e
        rw [g1 b (by simp [n])]
        exact nb b o e1 hb
      · obtain ⟨e1, n⟩ := Gin b o e
        obtain ⟨sl, e2⟩ := (up.trans up3) b o e1 hn
        exact z4 b { o with slots := sl } (by rw [sb.2 b n]; exact e2) hn
      · exact .inr (.inr ⟨z1, an2, by rw [hs]; exact z2, z3⟩)
    first
      | exact wpAny_bind (wpAny_pure (wpAny_bind goOn))
      | exact wpAny_bind goOn
  have sky' : Sky B1 (X.env :: X.outer) a (Zc cls d) X.env.locals s''.heap := by rw [← hs]; exact sky
  rcases sky' with ⟨hB, hn, hl, oe, vs, he0, hz, hd, hv1⟩ | fl | hh
  · exact HandSPX.look_newZ Zc.steady hfr hl hf he0 hB hn hd hv1 hz fin
  · exact HandSPX.looks_onZ Zc.steady hfr hf fl fin
  · exact HandSPX.againZ hf hh.2.2.2 (fin s''.heap hh (Heap.UpToSlots.refl _))
theorem lcX_core {pins : List (Addr × Obj)} {s : Shared} {σ : L2.St} {H : Hp} {Q : VK} {elt tg iter : Expr} {ifs : List Expr} {scope : Scope} {own : List (Str × Nat)} {pos pos' : Pos} {wi : TI} {g : TG} {tt : TT} {te : TE} {Qf : Value → Shared → Prop} {E : XK}
    (hc : X.calm = true) (hst : X.stack = X.env :: X.outer) (hfx : X.env.frame = some X.env.locals) (tk : Takes X fun cls d _ H => E cls d H) (hN : X.N.Nodup) (I : Inv X pins σ H s) (hi : PI X tg iter wi) (ok : BlkOk X.N X.env.scope scope own)
    (hg : ∀ (s : Shared) (H : Hp) (C : Addr) (cl : List (Str × Addr)) (fp : List Addr), PG (X.blk s H scope (compEnvC scope cl C X.env) fp) tg g)
    (ht : ∀ (s : Shared) (H : Hp) (C : Addr) (cl : List (Str × Addr)) (fp : List Addr), PTs (X.blk s H scope (compEnvC scope cl C X.env) fp) ifs tt)
    (he : ∀ (s : Shared) (H : Hp) (C : Addr) (cl : List (Str × Addr)) (fp : List Addr), Passes (L2.CX X.prog X.w) ((X.blk s H scope (compEnvC scope cl C X.env) fp).wish (xeB X (compEnvC scope cl C X.env))) E → PE ((X.blk s H scope (compEnvC scope cl C X.env) fp).wish (xeB X (compEnvC scope cl C X.env))) elt te) (hs : ∀ x, foldedSetIterable iter X.env x = pure x)
    (h : tLc wi g tt te (own.map (·.2)) σ H Q)
    (hRR : ∀ D C s' m H', Inv X pins σ H' s' → Q (.ref D) H' → s'.heap.Ns C m → FpOk X pins H' C → ∃ m, s'.heap.Ns C m ∧ ∀ h', Heap.SameBut C s'.heap h' → Qf (.ref D) { s' with heap := h' }) :
    wpAny (model X.prog X.w) X.A (comprehension (.ListComp elt [⟨tg, iter, ifs, 0⟩] scope pos) scope X.env pos' (newList []) false (eval iter X.env) none) Qf X.xe s := by
  have hfree : ∀ y ∈ scope.names, y.2 = .free → ∃ c, X.env.cells.lookup y.1 = some c := fun y hy e => by
    rcases ok.free y hy e with k | k
    · exact I.ok.has _ (.inl k)
    · exact I.ok.has _ (.inr k)
  refine comprehension_at (use := none) rfl hs (closure_ok hfree) ok.kind (fun y hy e => by rw [ok.uniq y hy, e])
    (thn (hi.run pins s σ H _ I h) fun xv s1 hx => thn hx fun itv s2 h2 => ?_)
  obtain ⟨it, fp, tn, J, H2, e, I2, T, st2, f2, q⟩ := h2
  subst e
  refine wpAny_newObj_type (newEnv_comp ?_) (by show 0 ≤ sizeLine; decide)
  generalize hD : s2.heap.objs.size = D
  have hDn : H2 D = none := I2.hok.fresh (Nat.le_of_eq hD)
  obtain ⟨W, ⟨m0, w0⟩, turn⟩ := q D hDn
  generalize hs3 : ({ s2 with heap := s2.heap.push { cls := .type "list", data := .seq ([] : List Value).toArray } } : Shared) = s3
  have I3 : Inv X pins σ (upd H2 D (.lst [])) s3 := by
    rw [← hs3]
    refine I2.laid (t' := s2.toks) (fun b o e => Heap.get?_push_of_some _ e) (Nat.le_of_eq hD) ⟨Nat.zero_le _, [], 0, .nil, ?_⟩
    rw [← hD]
    exact Heap.get?_push_size _ rfl
  have h3 : s3.heap = s2.heap.push { cls := .type "list", data := .seq ([] : List Value).toArray } := by rw [← hs3]
  have f3 : ∀ b ∈ fp, FpOk X pins (upd H2 D (.lst [])) b ∧ b < s3.heap.objs.size := fun b hb => by
    obtain ⟨o, e, _⟩ := T.obj _ _ st2 b hb
    have hlt := Heap.lt_size e
    refine ⟨⟨?_, (f2 b hb).2⟩, by rw [h3, Heap.size_push]; exact Nat.lt_succ_of_lt hlt⟩
    rw [upd_ne (by rw [← hD]; exact Nat.ne_of_lt hlt)]
    exact (f2 b hb).1
  have BB : BI X pins σ (upd H2 D (.lst [])) s3 fp := ⟨I3, f3⟩
  have st3 : tn 0 s3.heap := T.keep _ _ _ st2 fun b _ o e => by rw [h3]; exact Heap.get?_push_of_some _ e
  have I4 := block_start I3 ok hN f3
  have pg := hg s3 (upd H2 D (.lst [])) s3.heap.objs.size (cellsFrom (s3.heap.objs.size + 1) scope.names (cloFrom X.env.cells scope.names [])) fp
  have pt := ht s3 (upd H2 D (.lst [])) s3.heap.objs.size (cellsFrom (s3.heap.objs.size + 1) scope.names (cloFrom X.env.cells scope.names [])) fp
  have pe := he s3 (upd H2 D (.lst [])) s3.heap.objs.size (cellsFrom (s3.heap.objs.size + 1) scope.names (cloFrom X.env.cells scope.names [])) fp (passes_blk hst hfx tk BB (Nat.le_refl _))
  show codeAny _ _ (.compStart (.ListComp elt [⟨tg, iter, ifs, 0⟩] scope pos) 0 (.ref it) (.ref D) (compEnvC scope (cellsFrom (s3.heap.objs.size + 1) scope.names (cloFrom X.env.cells scope.names [])) s3.heap.objs.size X.env)) (compEnds (model X.prog X.w) X.A X.xe none Qf (.ref D) (compEnvC scope (cellsFrom (s3.heap.objs.size + 1) scope.names (cloFrom X.env.cells scope.names [])) s3.heap.objs.size X.env)) { s3 with heap := pushCells (s3.heap.push { cls := .type "dict", data := .dict #[] }) scope.names }
  have nfp : ∀ b ∈ fp, (upd H2 D (.lst [])) b = none := fun b hb => (f3 b hb).1.1
  generalize hce : compEnvC scope (cellsFrom (s3.heap.objs.size + 1) scope.names (cloFrom X.env.cells scope.names [])) s3.heap.objs.size X.env = ce at I4 pg pt pe ⊢
  have cL : ce.locals = s3.heap.objs.size := by subst hce; rfl
  generalize hH3 : upd H2 D (.lst []) = H3 at I3 I4 pg pt pe w0 nfp f3 BB
  generalize hs4 : ({ s3 with heap := pushCells (s3.heap.push { cls := .type "dict", data := .dict #[] }) scope.names } : Shared) = s4 at I4 ⊢
  have st4 : tn 0 s4.heap := T.keep _ _ _ st3 fun b _ o e => by rw [← hs4]; exact pushCells_keeps _ _ _ _ (Heap.get?_push_of_some _ e)
  have stat : ∀ {σ' : L2.St} {H' : Hp} {s' : Shared}, Inv (X.blk s3 H3 scope ce fp) [] σ' H' s' → (∀ b ∈ fp, H' b = none) → ∀ b ∈ fp, FpOk (X.blk s3 H3 scope ce fp) [] H' b := fun {σ' H' s'} I' hn b hb =>
    ⟨hn b hb, (I'.ok.exf b hb).1, I'.ok.exfs b hb, .inl hb, fun x c e => (I'.ok.exf b hb).2 x c e, fun p hp => absurd (show p ∈ ([] : List (Addr × Obj)) ++ [] from hp) (by simp)⟩
  have loop : codeAny (model X.prog X.w) X.A (.compLoop (.ListComp elt [⟨tg, iter, ifs, 0⟩] scope pos) 0 (.ref it) (.ref D) ce) (compEnds (model X.prog X.w) X.A X.xe none Qf (.ref D) ce) s4 := by
    refine compLoop_any (fun n s' => ∃ i H', Inv (X.blk s3 H3 scope ce fp) [] (wipe σ (own.map (·.2))) H' s' ∧ tn i s'.heap ∧ (∀ b ∈ fp, H' b = none) ∧ W i n H') ?_ m0 ⟨0, H3, I4, st4, nfp, w0⟩
    rintro n s5 ⟨i, H5, I5, st5, n5, w5⟩
    rcases turn i n H5 w5 with ⟨stop, qq⟩ | ⟨go, Nx, hNx, step⟩
    · have td := T.done (X.blk s3 H3 scope ce fp) rfl rfl rfl hc i [] s5 _ H5 (fun _ _ => False) I5 (stat I5 n5) st5 stop
      refine thnF td fun r s6 ⟨hr, I6⟩ => ?_
      subst hr
      have I7 : Inv X pins σ H5 s6 := BB.now I6
      have nC : H5 s3.heap.objs.size = none := by
        have z : H5 ce.locals = none := I6.free
        rw [cL] at z
        exact z
      obtain ⟨m, hn, _⟩ := I6.loc
      have hn : s6.heap.Ns ce.locals m := hn
      rw [cL] at hn
      show ∃ m, s6.heap.Ns ce.locals m ∧ _
      rw [cL]
      exact hRR D s3.heap.objs.size s6 m H5 I7 qq hn (I3.fpOk (Nat.le_refl _) nC)
    · have ti := T.item (X.blk s3 H3 scope ce fp) rfl rfl rfl hc i [] s5 _ H5 (fun _ _ => False) I5 (stat I5 n5) st5 go
      refine thnF ti fun r s6 ⟨u, hr, h6⟩ => ?_
      subst hr
      refine thnF h6 fun _ s7 ⟨x, H7, I7, r7, y7, st7, n7⟩ => ?_
      have I7' := I7.pinned (stat I7 n7) (T.obj _ _ st7)
      refine thnF (pg.run _ s7 _ H7 x u _ I7' r7 (step x H7 y7)) fun _ s8 ⟨σ8, H8, I8, hw8, q8⟩ => ?_
      refine thnF (pt.run _ s8 σ8 H8 _ I8 q8) fun b s9 ⟨H9, I9, q9⟩ => ?_
      have fin : ∀ {s' : Shared} {H' : Hp}, Inv (X.blk s3 H3 scope ce fp) ([] ++ pinsAt fp s7.heap) σ8 H' s' → Nx H' → ∃ m, m < n ∧ ∃ i H', Inv (X.blk s3 H3 scope ce fp) [] (wipe σ (own.map (·.2))) H' s' ∧ tn i s'.heap ∧ (∀ b ∈ fp, H' b = none) ∧ W i m H' := fun {s' H'} I' nx => by
        obtain ⟨m', hm, w'⟩ := hNx H' nx
        have pin' : ∀ b ∈ fp, ∀ o, s7.heap.get? b = some o → s'.heap.get? b = some o ∧ H' b = none := fun b hb o e =>
          let z := I'.pin (b, o) (List.mem_append_right _ (List.mem_append_right _ (mem_pinsAt hb e)))
          ⟨z.1, z.2.1⟩
        have hl : (wipe σ (own.map (·.2))).length = σ8.length := by rw [← hw8, wipe_length]
        refine ⟨m', hm, i + 1, H', (I'.unpinned (pins := [])).weak hl (fun j v e => ?_), T.keep _ _ _ st7 fun b hb o e => (pin' b hb o e).1, fun b hb => ?_, w'⟩
        · rw [← hw8] at e
          exact (wipe_some e).1
        · obtain ⟨o, e, _⟩ := T.obj _ _ st7 b hb
          exact (pin' b hb o e).2
      cases b with
      | false =>
        simp only [Bool.false_eq_true, if_false] at q9 ⊢
        exact fin I9 q9
      | true =>
        simp only [if_true] at q9 ⊢
        refine thn (pe.run _ s9 σ8 H9 _ (I9.wish _) q9) fun z s10 ⟨yv, H10, I10', r10, acc, hD10, hz10, nx⟩ => ?_
        have I10 := I10'.unwish
        exact app_ok (X := X.blk s3 H3 scope ce fp) I10 hD10 hz10 r10 fun s11 I11 => fin I11 nx
  exact codeAny_compStart_list loop (T.self X.A 0 _ _ _ st4 loop)
theorem pe_lcX {elt tg iter : Expr} {ifs : List Expr} {scope : Scope} {own : List (Str × Nat)} {pos : Pos} {wi : TI} {g : TG} {tt : TT} {te : TE} {E : XK} (hc : X.calm = true) (hst : X.stack = X.env :: X.outer) (hfx : X.env.frame = some X.env.locals) (tk : Takes X fun cls d _ H => E cls d H) (hN : X.N.Nodup) (hi : PI X tg iter wi) (ok : BlkOk X.N X.env.scope scope own)
    (hg : ∀ (s : Shared) (H : Hp) (C : Addr) (cl : List (Str × Addr)) (fp : List Addr), PG (X.blk s H scope (compEnvC scope cl C X.env) fp) tg g)
    (ht : ∀ (s : Shared) (H : Hp) (C : Addr) (cl : List (Str × Addr)) (fp : List Addr), PTs (X.blk s H scope (compEnvC scope cl C X.env) fp) ifs tt)
    (he : ∀ (s : Shared) (H : Hp) (C : Addr) (cl : List (Str × Addr)) (fp : List Addr), Passes (L2.CX X.prog X.w) ((X.blk s H scope (compEnvC scope cl C X.env) fp).wish (xeB X (compEnvC scope cl C X.env))) E → PE ((X.blk s H scope (compEnvC scope cl C X.env) fp).wish (xeB X (compEnvC scope cl C X.env))) elt te) (hs : ∀ x, foldedSetIterable iter X.env x = pure x := by intro _; rfl) :
    PE X (.ListComp elt [⟨tg, iter, ifs, 0⟩] scope pos) (tLc wi g tt te (own.map (·.2))) := by
  refine ⟨fun pins s σ H Q I h => ?_⟩
  rw [eval_ListComp]
  refine lcX_core hc hst hfx tk hN I hi ok hg ht he hs h fun D C s' m H' I' q hn f => ⟨m, hn, fun h'' sb => ?_⟩
  obtain ⟨f0, f1, f2, f3, f4, f5⟩ := f
  exact ⟨.ref D, H', I'.turned (t' := s'.toks) (fun b o hb e => (sb.2 b hb).trans e) f0 f1 f3 f4 f5, rfl, q⟩
end
end MF
set_option Elab.async false
set_option linter.all false
set_option maxRecDepth 100000
set_option maxHeartbeats 2000000
namespace MF
open PySem PySem.Spec PyProof.Rows L2 StX LamX GenW
def PinX (pn : List (Addr × Obj)) (E : XK) : XK := fun cls d H => E cls d H ∧ ∀ p ∈ pn, H p.1 = none
theorem xe_pins {X : Cx} {W : WX} {u : Value} {s' : Shared} (x : XE X W u s') : XE X (fun cls d σ H => W cls d σ H ∧ ∀ p ∈ X.pn, H p.1 = none) u s' := by
  obtain ⟨a, B, sI, pins, σ, H, cls, d, rfl, I, nb, up, sky, na, os, ag, w⟩ := x
  exact ⟨a, B, sI, pins, σ, H, cls, d, rfl, I, nb, up, sky, na, os, ag, w, fun p hp => (I.pin p (List.mem_append_left _ hp)).2.1⟩
section
variable {P : Program} {w : World} {K : PySem.W.Frag} {mg : Str → Option Value} {base : Heap} {N : List Str} {q : Str} {sc : Scope} {f : Addr} {cdv : Value} {A : Around} {outer : List Env} {s : Shared} {H : Hp} {E : XK} {pn : List (Addr × Obj)}
theorem takeR : Takes (gcxOf P w K mg base N q sc f cdv A outer s H (PinX pn E) pn) (fun cls d _ H => E cls d H) := fun u s' x => takes_gcx u s' (xe_pins x)
theorem passR : Passes (L2.CX P w) (gcxOf P w K mg base N q sc f cdv A outer s H (PinX pn E) pn) E := passes_call (W := fun cls d _ H => E cls d H) takeR fun _ _ _ _ h => h
end
def RErr (P : Program) (w : World) (outer : List Env) (H : Hp) (s : Shared) (a : Addr) (g : Nat) (pk : List (Addr × Obj)) (E : XK) : GenEnd := fun _ _ r s1 => ∃ e, r = .error e ∧ L2.CX P w outer H s (PinX pk E) e s1 ∧ s1.heap.IsGen a g ∧ ∀ p ∈ pk, s1.heap.get? p.1 = some p.2
def GMadeR (P : Program) (w : World) (k : Nat) (outer : List Env) (H : Hp) (s : Shared) (E : XK) (u : Value) (s' : Shared) : Prop :=
  ∃ (a : Addr) (g : Nat) (c : Code), u = .ref a ∧ s.heap.objs.size ≤ a ∧ a < s'.heap.objs.size ∧ s'.heap.IsGen a g ∧ s'.gens[g]? = some (.fresh c) ∧ s'.os = s.os ∧ AllBare s'.gens ∧ (∀ b o, s.heap.get? b = some o → s'.heap.get? b = some o) ∧
    ∀ (A : Around) (s2 : Shared) (pk : List (Addr × Obj)), Room k A → A.frames = some outer → (∀ b o, s'.heap.get? b = some o → s2.heap.get? b = some o) → s2.os = s.os → AllBare s2.gens →
      (∀ p ∈ pk, s'.heap.objs.size ≤ p.1 ∧ s2.heap.get? p.1 = some p.2 ∧ ∀ v, p.2.data ≠ .cell v) → Seg (model P w) A (RErr P w outer H s a g pk E) (fun _ _ _ _ _ => False) 0 s2 c ((model P w).den c) [] s2
abbrev SpR := List V → Hp → XK → Prop
structure GFnR (P : Program) (w : World) (K : PySem.W.Frag) (mg : Str → Option Value) (base : Heap) (k : Nat) (f : Addr) (fd : FuncData) (ps : List Str) (sp : SpR) : Prop where
  len : ∀ vs H E, sp vs H E → vs.length = ps.length
  run : ∀ (A : Around) (outer : List Env) (s : Shared) (H : Hp) (args : Args) (us : List Value) (vs : List V) (E : XK), Room k A → Env0 P w K mg base A outer s H → BindsTo s fd args (ps.zip us) → Vals vs us → sp vs H E →
    codeAny (model P w) A (.call (.ref f) args) (fun r s' => match r with | .ok (.ret u) => GMadeR P w k outer H s E u s' | _ => False) s
theorem gfnR_of {P : Program} {w : World} {K : PySem.W.Frag} {mg : Str → Option Value} {base : Heap} {k : Nat} {f : Addr} {name qual : Str} {params : Arguments} {body : List Stmt} {scope : Scope} {dV kV doc pm cdv ct oc : Value} {an od : Option Addr} {osl : Array (Option Value)} {N ps : List Str} {sp : SpR}
    (lk : K.lookup f = some ⟨oc, od, .func (PySem.W.fnOf name qual params body scope dV kV doc pm an cdv ct), osl⟩) (hcd : PySem.W.codeIn K cdv qual = true) (S : GScope N ps scope) (len : ∀ vs H E, sp vs H E → vs.length = ps.length)
    (hbody : ∀ (A : Around) (outer : List Env) (s : Shared) (H : Hp) (vs : List V) (E : XK) (pn : List (Addr × Obj)), Room k (A.deeper (envOfC qual scope s.heap.objs.size f cdv)) → sp vs H E →
      ∃ t, PSs (gcxOf P w K mg base N qual scope f cdv A outer s H (PinX pn E) pn) body t ∧ t { nx := fun _ _ => False, rt := fun _ _ => False } (start N vs) H) :
    GFnR P w K mg base (k + 1) f (PySem.W.fnOf name qual params body scope dV kV doc pm an cdv ct) ps sp := by
  refine ⟨len, fun A outer s H args us vs E hr e0 hb r hsp => ?_⟩
  have hl := len _ _ _ hsp
  have kin : K.In s.heap := e0.mod.kin.keeps fun b o e => (e0.bs b o e).1
  have lim : s.heap.NoLimit := e0.mod.nolimit.keeps fun b o e => (e0.bs b o e).1
  have hk : ∀ y ∈ ps.zip us, scope.names.lookup y.1 = some .local ∨ (scope.names.lookup y.1 = some .cell ∧ ((cellsFrom (s.heap.objs.size + 1) scope.names []).lookup y.1).isSome = true) := fun y hy => by
    rcases S.par y.1 (List.of_mem_zip (a := y.1) (b := y.2) hy).1 with q | q
    · exact .inl q
    · exact .inr ⟨q, PySem.W.cellsFrom_some _ _ _ (.inl q)⟩
  refine codeAny_call_generator hr.depth (kin _ _ lk) rfl S.co S.gen rfl (PySem.W.codeRec_of kin hcd) (hb _ _ _ _ ?_)
  refine wpAny_newFunctionEnv_cells S.kind hk fun env he s1 x => ?_
  subst he
  have lim1 : s1.heap.NoLimit := lim.keeps x.toInCall.keep
  refine ⟨lim1, ?_⟩
  obtain ⟨h1, tk, es1, hk1⟩ := x.done
  have os1 : s1.os = s.os := by rw [es1]
  have gen1 : s1.gens = s.gens := by rw [es1]
  have lt1 : s.heap.objs.size < s1.heap.objs.size := x.toInCall.ns.lt
  have kp1 : ∀ b o, s.heap.get? b = some o → s1.heap.get? b = some o := x.toInCall.keep
  have main : ∀ (go : Obj) (nm qn : Value) (tk2 : Nat), go.cls = .type "generator" → go.data = .fields #[.int s1.gens.size 0, nm, qn] → go.slots = #[] → (∀ h : Heap, (h.push go).get? h.objs.size = some go) →
      GMadeR P w (k + 1) outer H s E (.ref s1.heap.objs.size) { s1 with gens := s1.gens.push (.fresh (.func body (envOfC qual scope s.heap.objs.size f cdv))), toks := tk2, heap := s1.heap.push go } := by
    intro go nm qn tk2 hgc hgd hgs hgp
    have god : ∀ v, go.data ≠ .cell v := fun v q => by rw [hgd] at q; cases q
    have hgen : ∀ h : Heap, h.get? s1.heap.objs.size = some go → h.IsGen s1.heap.objs.size s1.gens.size := fun h e => ⟨go, nm, qn, e, hgc, hgd, hgs⟩
    refine ⟨s1.heap.objs.size, s1.gens.size, _, rfl, Nat.le_of_lt lt1, ?_, hgen _ (hgp _), Array.getElem?_push_size .., os1, AllBare.push (by rw [gen1]; exact e0.bare) rfl, fun b o e => Heap.get?_push_of_some _ (kp1 b o e), ?_⟩
    · show _ < (s1.heap.push _).objs.size
      rw [Heap.size_push]
      exact Nat.lt_succ_self _
    intro A' s2 pk hrw hfr hk2 hos hba hpk
    have e0w : Env0 P w K mg base A' outer s H := ⟨hfr, e0.mod, e0.bs, e0.bsz, e0.funs, e0.frf, e0.hok, e0.bare⟩
    obtain ⟨t, ht, hq⟩ := hbody A' outer s H vs E ((s1.heap.objs.size, go) :: pk) (hrw.deeper _) hsp
    have I1 : Inv (gcxOf P w K mg base N qual scope f cdv A' outer s H (PinX ((s1.heap.objs.size, go) :: pk) E) []) [] (start N vs) H s1 := inv_startG S hrw.hd e0w hl r x
    have kp2 : ∀ b o, s1.heap.get? b = some o → s2.heap.get? b = some o := fun b o e => hk2 b o (Heap.get?_push_of_some _ e)
    have I2 : Inv (gcxOf P w K mg base N qual scope f cdv A' outer s H (PinX ((s1.heap.objs.size, go) :: pk) E) []) [] (start N vs) H s2 := I1.call' (ch := []) (hos.trans os1.symm) (Un.kept kp2) (I1.hok.kept kp2) hba fun b z => by simp at z
    have ea : s2.heap.get? s1.heap.objs.size = some go := hk2 _ _ (hgp s1.heap)
    have yng : ∀ b, s1.heap.objs.size ≤ b → H b = none ∧ b ≠ s.heap.objs.size ∧ b ∉ frs outer := fun b hb => ⟨I1.hok.fresh hb, Nat.ne_of_gt (Nat.lt_of_lt_of_le lt1 hb), I1.nofs hb⟩
    have I3 : Inv (gcxOf P w K mg base N qual scope f cdv A' outer s H (PinX ((s1.heap.objs.size, go) :: pk) E) ((s1.heap.objs.size, go) :: pk)) [] (start N vs) H s2 := Inv.pinnedG I2 fun p hp => by
      rw [List.append_nil] at hp
      rcases List.mem_cons.mp hp with z | z
      · rw [z]
        obtain ⟨y1, y2, y3⟩ := yng s1.heap.objs.size (Nat.le_refl _)
        exact ⟨ea, y1, y2, y3, god⟩
      · obtain ⟨q1, q2, q3⟩ := hpk p z
        have q1' : (s1.heap.push go).objs.size ≤ p.1 := q1
        rw [Heap.size_push] at q1'
        obtain ⟨y1, y2, y3⟩ := yng p.1 (by omega)
        exact ⟨q2, y1, y2, y3, q3⟩
    refine seg_func (seg_wrap ?_)
    rw [over_func]
    refine wpAny_mono (ht.run [] s2 (start N vs) H _ I3 hq) (fun fl s' hs => ?_) fun e s' hx => ?_
    · cases fl with
      | next => obtain ⟨_, _, _, q⟩ := hs; exact q.elim
      | brk => obtain ⟨_, _, _, q⟩ := hs; exact q.elim
      | cont => obtain ⟨_, _, _, q⟩ := hs; exact q.elim
      | ret u => obtain ⟨_, _, _, _, _, q⟩ := hs; exact q.elim
    · refine seg_wrap ?_
      rw [over_func]
      refine wpAny_mono (show wpAny (model P w) (A'.deeper (envOfC qual scope s.heap.objs.size f cdv)) (leaving (envOfC qual scope s.heap.objs.size f cdv) e)
        (fun _ s'' => L2.CX P w outer H s (PinX ((s1.heap.objs.size, go) :: pk) E) e s'' ∧ ∀ p ∈ (s1.heap.objs.size, go) :: pk, s''.heap.get? p.1 = some p.2) (fun _ _ => False) s' from hx) (fun _ s'' q => ?_) fun _ _ q => q.elim
      obtain ⟨⟨a, B, H', cls, d, z1, fl, z2, ub, z3, z4, z5, z6, z7⟩, q2⟩ := q
      exact seg_end (.error e) ⟨e, rfl, ⟨a, B, H', cls, d, z1, fl, z2, ub, z3, z4, z5, z6, fun p hp => z7 p (List.mem_cons_of_mem _ hp)⟩, hgen _ (q2 _ List.mem_cons_self), fun p hp => q2 p (List.mem_cons_of_mem _ hp)⟩
  exact main _ _ _ _ rfl rfl rfl fun h => Heap.get?_push_size _ rfl
structure PRn (P : Program) (w : World) (K : PySem.W.Frag) (mg : Str → Option Value) (base : Heap) (k : Nat) (x : Str) (sp : SpR) : Prop where
  ex : ∃ f fd ps, GFnR P w K mg base k f fd ps sp ∧ mg x = some (.ref f) ∧ PySem.W.keepIn K (.ref f) = true ∧ Binds K fd ps []
theorem GDef.genR {P : Program} {w : World} {K : PySem.W.Frag} {mg : Str → Option Value} {base : Heap} {k : Nat} {x : Str} {st : Stmt} {ps N : List Str} {sp : SpR} (D : GDef K mg x st ps) (S : GScope N ps (defScope st)) (len : ∀ vs H E, sp vs H E → vs.length = ps.length)
    (hbody : ∀ (f : Addr) (cdv : Value) (A : Around) (outer : List Env) (s : Shared) (H : Hp) (vs : List V) (E : XK) (pn : List (Addr × Obj)), Room k (A.deeper (envOfC x (defScope st) s.heap.objs.size f cdv)) → sp vs H E →
      ∃ t, PSs (gcxOf P w K mg base N x (defScope st) f cdv A outer s H (PinX pn E) pn) (defBody st) t ∧ t { nx := fun _ _ => False, rt := fun _ _ => False } (start N vs) H) : PRn P w K mg base (k + 1) x sp := by
  obtain ⟨f, fd, F, hm, hb⟩ := D.ex
  have kp := F.kp
  obtain ⟨oc, od, kV, doc, pm, an, cdv, ct, osl, rfl, lk, hcd⟩ := F.ex
  exact ⟨f, _, ps, gfnR_of lk hcd S len fun A outer s H vs E pn hr hsp => hbody f cdv A outer s H vs E pn hr hsp, hm, kp, hb⟩
structure PGR (X : Cx) (k : Nat) (e : Expr) (tq : L2.St → Hp → Prop) (E : XK) : Prop where
  run : ∀ (pins : List (Addr × Obj)) (s : Shared) (σ : L2.St) (H : Hp), Inv X pins σ H s → tq σ H → wpAny (model X.prog X.w) X.A (eval e X.env) (fun u s' => ∃ H1 sc, Inv X pins σ H1 sc ∧ GMadeR X.prog X.w k X.stack H1 sc E u s') X.xe s
theorem pgr_call {X : Cx} {k : Nat} {x : Str} {sp : SpR} {E : XK} {e : Expr} {es : List Expr} {t : TA} {p pos' : Pos} (G : PRn X.prog X.w X.K X.mg X.base k x sp) (hr : Room k X.A) (hg : Gl X x) (ha : PA X (e :: es) t)
    (hdb : (x == ("__debug__" : Str)) = false := by decide) (he : starEach (e :: es) X.env = (false, eval e X.env) :: starEach es X.env := by rfl) (hpl : (backTo pos' (starEach es X.env)).any (·.1) = false := by rfl) :
    PGR X k (.Call (.Name x p) (e :: es) [] pos') (fun σ H => t σ H fun vs H1 => sp vs H1 E) E := by
  obtain ⟨f, fd, ps, F, hm, hk, hb⟩ := G.ex
  refine ⟨fun pins s σ H I h => ?_⟩
  refine wpAny_Call_Name_kw (ld_glob I hg hm ?_ hdb)
  refine PySem.W.callWith_K (h₀ := X.base) I.ok.mod.kin hk (thn (ha.run pos' pins s σ H _ I h) fun us s1 ⟨vs, H1, I1, r, q⟩ => ⟨I1.kIn, ?_⟩) he hpl
  have hl : us.length = ps.length := by rw [← r.length]; exact F.len _ _ _ q
  refine wpAny_call (codeAny_mono (F.run X.A X.stack s1 H1 ⟨us, []⟩ us vs E hr I1.env0 (by have := hb s1 us I1.kIn (by rw [List.append_nil]; exact hl); rw [List.append_nil] at this; exact this) r q) fun r' s' hq => ?_)
  cases r' with
  | error e => exact hq.elim
  | ok fl =>
    cases fl with
    | ret u => exact ⟨H1, s1, I1, hq⟩
    | next => exact hq.elim
    | brk => exact hq.elim
    | cont => exact hq.elim
section
variable {X : Cx}
theorem fails_blk {pins : List (Addr × Obj)} {σ : L2.St} {H : Hp} {sc s'' : Shared} {ce : Env} {C : Addr} {E : XK} {m : Str → Option Value} {e : Value} (hs : X.stack = X.env :: X.outer) (hf : X.env.frame = some X.env.locals) (tk : Takes X fun cls d _ H => E cls d H) (I : Inv X pins σ H sc)
    (c : L2.CX X.prog X.w X.stack H sc (fun cls d H => E cls d H ∧ H C = none) e s'') (cf : ce.frame = X.env.frame) (cl : ce.locals = C) (hnB : s''.heap.Ns C m) (hC : sc.heap.objs.size ≤ C) : notedBy (model X.prog X.w) X.A ce (fun e s' => CompFails (model X.prog X.w) X.A X.xe ce e s') e s'' := by
  have xx : XE X (fun cls d _ H => (E cls d H ∧ H C = none)) e s'' := XE.of_call I (fun _ _ _ h => h) c
  obtain ⟨a', B1, sI, pinsI, σI, HI, cls, d, rfl, II, nb, up, sky, na, os, ag, hE, hIC⟩ := xx
  have FC : FpOk X pins HI C := I.fpOk hC hIC
  have stk : C ∉ frs X.stack := fun z => by
    rw [hs] at z
    obtain ⟨e, he, q⟩ := List.mem_filterMap.mp z
    rcases List.mem_cons.mp he with w | w
    · rw [w, hf] at q
      exact FC.2.1 (Option.some.inj q).symm
    · exact FC.2.2.1 (List.mem_filterMap.mpr ⟨e, w, q⟩)
  have II0 : Inv X [] σI HI sI := ⟨II.ok, II.os, II.bare, II.base, II.loc, II.cell, II.free, II.freeC, fun p hp => II.pin p (by
    rw [List.append_nil] at hp
    exact List.mem_append_left _ hp), II.hok, II.len⟩
  have hfr : X.A.frames = some (X.env :: X.outer) := by rw [II.ok.frames, hs]
  subst cl
  show wpAny (model X.prog X.w) X.A (noteFrame (.ref a') ce) _ _ _
  rw [noteFrame_as cf]
  have fin : ∀ h3, HandSPX.HeldZ B1 (X.env :: X.outer) a' (Zc cls d) X.env.locals h3 → s''.heap.UpToSlots h3 → CompFails (model X.prog X.w) X.A X.xe ce (.ref a') { s'' with heap := h3 } := by
    intro h3 hh up3
    obtain ⟨k1, k2, k3, oe, vs, T, oT, ts, he, hz, hd, h1, hnT, hTe, hT, hdT, ht3⟩ := hh
    have n3 := up3.ns hnB
    refine ⟨m, n3, fun h' m' hn' sb => ?_⟩
    replace sb : Heap.SameBut ce.locals h3 h' := sb
    show wpAny (model X.prog X.w) X.A (PySem.passOn "comprehension.variables-let-go" (.ref a') ce) _ _ _
    rw [passOn_as cf]
    have noC : ∀ {b o vs}, h3.get? b = some o → o.data = .fields vs → b ≠ ce.locals := fun {b o vs} e dd z => by
      obtain ⟨o', es, ep, e', d', _⟩ := n3
      rw [z, e'] at e
      cases e
      rw [d'] at dd
      cases dd
    have aC : a' ≠ ce.locals := noC he hd
    have TC : T ≠ ce.locals := noC hT hdT
    have he' : h'.get? a' = some oe := by rw [sb.2 a' aC]; exact he
    have hT' : h'.get? T = some oT := by rw [sb.2 T TC]; exact hT
    obtain ⟨B2, g1, g2⟩ := restrict B1 fun b => !decide (b = ce.locals)
    have B2in : ∀ b o, B2.get? b = some o → B1.get? b = some o ∧ b ≠ ce.locals := fun b o e => by
      by_cases c : b = ce.locals
      · rw [g2 b (by simp [c])] at e
        cases e
      · rw [g1 b (by simp [c])] at e
        exact ⟨e, c⟩
    obtain ⟨G, q1, q2⟩ := restrict sI.heap fun b => !decide (b = ce.locals)
    have Gin : ∀ b o, G.get? b = some o → sI.heap.get? b = some o ∧ b ≠ ce.locals := fun b o e => by
      by_cases c : b = ce.locals
      · rw [q2 b (by simp [c])] at e
        cases e
      · rw [q1 b (by simp [c])] at e
        exact ⟨e, c⟩
    have st2 : B2.StaysIn h' := fun b o e => by
      obtain ⟨e1, n⟩ := B2in b o e
      rw [sb.2 b n]
      exact k1 b o e1
    have an2 : B2.get? a' = none := by rw [g1 a' (by simp [aC])]; exact k2
    have ff2 : h'.FunFrames B2 (X.env :: X.outer) := funFrames_but k3 (fun b => by
      by_cases c : b = ce.locals
      · exact .inl (g2 b (by simp [c]))
      · exact .inr (g1 b (by simp [c]))) sb.2 (by rw [← hs]; exact stk)
    have Tn2 : B2.get? T = none := by rw [g1 T (by simp [TC])]; exact hnT
    have tr2 : HandSPX.TracedZ h' B2 a' (Zc cls d) (rawInt X.env.locals) := ⟨oe, vs, T, oT, ts, he', hz, hd, h1, Tn2, hTe, hT', hdT, ht3⟩
    unfold PySem.passOn
    refine wpAny_bind (wpAny_field he' hd h1 ?_)
    rw [if_neg (show ¬ ((Value.ref T == Value.none) = true) from by simp)]
    have goOn : wpAny (model X.prog X.w) X.A (setFlight (.ref a') X.env.frame) (fun _ s7 => wpAny (model X.prog X.w) X.A (throw (.ref a') : Sem Value) (fun _ _ => False) X.xe s7) X.xe { s'' with heap := h' } := by
      rw [hf]
      refine HandSPX.setFlight_anyZ (s := { s'' with heap := h' }) (fr := some X.env.locals) st2 ff2 tr2 fun h7 z1 z2 z3 z4 => wpAny_throw (tk _ _ ?_)
      refine ⟨a', B2, { sI with heap := G }, [], σI, HI, cls, d, rfl, ?_, fun b o e hb => ?_, fun b o e hn => ?_, ?_, na, os, ag, hE⟩
      · exact II0.turned (t' := sI.toks) (it := ce.locals) (fun b o hb e => by rw [q1 b (by simp [hb])]; exact e) hIC FC.2.1 FC.2.2.2.1 FC.2.2.2.2.1 fun p hp => FC.2.2.2.2.2 p (by
          rw [List.append_nil] at hp
          exact List.mem_append_left _ hp)
      · obtain ⟨e1, n⟩ := Gin b o e
        rw [g1 b (by simp [n])]
        exact nb b o e1 hb
      · obtain ⟨e1, n⟩ := Gin b o e
        obtain ⟨sl, e2⟩ := (up.trans up3) b o e1 hn
        exact z4 b { o with slots := sl } (by rw [sb.2 b n]; exact e2) hn
      · exact .inr (.inr ⟨z1, an2, by rw [hs]; exact z2, z3⟩)
    first
      | exact wpAny_bind (wpAny_pure (wpAny_bind goOn))
      | exact wpAny_bind goOn
  have sky' : Sky B1 (X.env :: X.outer) a' (Zc cls d) X.env.locals s''.heap := by rw [← hs]; exact sky
  rcases sky' with ⟨hB, hn, hl, oe, vs, he0, hz, hd, hv1⟩ | fl | hh
  · exact HandSPX.look_newZ Zc.steady hfr hl hf he0 hB hn hd hv1 hz fin
  · exact HandSPX.looks_onZ Zc.steady hfr hf fl fin
  · exact HandSPX.againZ hf hh.2.2.2 (fin s''.heap hh (Heap.UpToSlots.refl _))
theorem lcR_core {k : Nat} {pins : List (Addr × Obj)} {s : Shared} {σ : L2.St} {H : Hp} {elt tg iter : Expr} {ifs : List Expr} {scope : Scope} {own : List (Str × Nat)} {pos pos' : Pos} {tq : L2.St → Hp → Prop} {Qf : Value → Shared → Prop} {E : XK}
    (hc : X.calm = true) (hst : X.stack = X.env :: X.outer) (hfx : X.env.frame = some X.env.locals) (tk : Takes X fun cls d _ H => E cls d H) (hns : NoStop X.K E) (hr : Room (k + 1) X.A) (hN : X.N.Nodup) (I : Inv X pins σ H s) (hi : PGR X k iter tq E) (ok : BlkOk X.N X.env.scope scope own)
    (hs : ∀ x, foldedSetIterable iter X.env x = pure x) (h : tq σ H) :
    wpAny (model X.prog X.w) X.A (comprehension (.ListComp elt [⟨tg, iter, ifs, 0⟩] scope pos) scope X.env pos' (newList []) false (eval iter X.env) none) Qf X.xe s := by
  have hfree : ∀ y ∈ scope.names, y.2 = .free → ∃ c, X.env.cells.lookup y.1 = some c := fun y hy e => by
    rcases ok.free y hy e with k | k
    · exact I.ok.has _ (.inl k)
    · exact I.ok.has _ (.inr k)
  refine comprehension_at (use := none) rfl hs (closure_ok hfree) ok.kind (fun y hy e => by rw [ok.uniq y hy, e])
    (thn (hi.run pins s σ H I h) fun xv s1 h1 => ?_)
  obtain ⟨H1, sc, I1, a, g, c, rfl, ha1, ha2, hg, hgs, os1, ba1, kp1, wake⟩ := h1
  refine wpAny_pyIter_gen hg ?_
  have hin := hr.in1
  have Is1 : Inv X pins σ H1 s1 := I1.call' (ch := []) os1 (Un.kept kp1) (I1.hok.kept kp1) ba1 fun b z => by simp at z
  refine wpAny_newObj_type (newEnv_comp ?_) (by show 0 ≤ sizeLine; decide)
  generalize hD : s1.heap.objs.size = D
  have hDn : H1 D = none := Is1.hok.fresh (Nat.le_of_eq hD)
  generalize hs3 : ({ s1 with heap := s1.heap.push { cls := .type "list", data := .seq ([] : List Value).toArray } } : Shared) = s3
  have I3 : Inv X pins σ (upd H1 D (.lst [])) s3 := by
    rw [← hs3]
    refine Is1.laid (t' := s1.toks) (fun b o e => Heap.get?_push_of_some _ e) (Nat.le_of_eq hD) ⟨Nat.zero_le _, [], 0, .nil, ?_⟩
    rw [← hD]
    exact Heap.get?_push_size _ rfl
  have h3 : s3.heap = s1.heap.push { cls := .type "list", data := .seq ([] : List Value).toArray } := by rw [← hs3]
  have g3 : s3.gens = s1.gens := by rw [← hs3]
  have o3 : s3.os = s1.os := by rw [← hs3]
  have I4 := block_start (fp := []) I3 ok hN fun b hb => by cases hb
  show codeAny _ _ (.compStart (.ListComp elt [⟨tg, iter, ifs, 0⟩] scope pos) 0 (.ref a) (.ref D) (compEnvC scope (cellsFrom (s3.heap.objs.size + 1) scope.names (cloFrom X.env.cells scope.names [])) s3.heap.objs.size X.env)) (compEnds (model X.prog X.w) X.A X.xe none Qf (.ref D) (compEnvC scope (cellsFrom (s3.heap.objs.size + 1) scope.names (cloFrom X.env.cells scope.names [])) s3.heap.objs.size X.env)) { s3 with heap := pushCells (s3.heap.push { cls := .type "dict", data := .dict #[] }) scope.names }
  have kp4 : ∀ b o, s1.heap.get? b = some o → (pushCells (s3.heap.push { cls := .type "dict", data := .dict #[] }) scope.names).get? b = some o := fun b o e => pushCells_keeps _ _ _ _ (Heap.get?_push_of_some _ (by rw [h3]; exact Heap.get?_push_of_some _ e))
  generalize hce : compEnvC scope (cellsFrom (s3.heap.objs.size + 1) scope.names (cloFrom X.env.cells scope.names [])) s3.heap.objs.size X.env = ce at I4 ⊢
  have cL : ce.locals = s3.heap.objs.size := by subst hce; rfl
  have cF : ce.frame = X.env.frame := by subst hce; rfl
  generalize hs4 : ({ s3 with heap := pushCells (s3.heap.push { cls := .type "dict", data := .dict #[] }) scope.names } : Shared) = s4 at I4 ⊢
  have h4 : s4.heap = pushCells (s3.heap.push { cls := .type "dict", data := .dict #[] }) scope.names := by rw [← hs4]
  have g4 : s4.gens = s1.gens := by rw [← hs4]; exact g3
  have o4 : s4.os = s1.os := by rw [← hs4]; exact o3
  have k4 : ∀ b o, s1.heap.get? b = some o → s4.heap.get? b = some o := fun b o e => by rw [h4]; exact kp4 b o e
  obtain ⟨m, ⟨oC, esC, epC, eC, dC, rC⟩, _⟩ := id I4.loc
  have eC' : s4.heap.get? ce.locals = some oC := eC
  have L3 : s1.heap.objs.size ≤ s3.heap.objs.size := by
    rw [h3, Heap.size_push]
    exact Nat.le_succ _
  have szs : sc.heap.objs.size ≤ ce.locals := by
    rw [cL]
    exact Nat.le_trans ha1 (Nat.le_trans (Nat.le_of_lt ha2) L3)
  have ba4 : AllBare s4.gens := by rw [g4]; exact ba1
  have loop : codeAny (model X.prog X.w) X.A (.compLoop (.ListComp elt [⟨tg, iter, ifs, 0⟩] scope pos) 0 (.ref a) (.ref D) ce) (compEnds (model X.prog X.w) X.A X.xe none Qf (.ref D) ce) s4 := by
    refine compLoop_any (fun _ s' => s' = s4) ?_ 0 rfl
    intro n s5 e5
    rw [e5]
    clear e5 s5
    have sg := wake X.A.in1 (s4.setGen g .running) [(ce.locals, oC)] hin I1.ok.frames (fun b o e => k4 b o e) (o4.trans os1) (allBare_setGen ba4 rfl) fun p hp => by
      rw [List.mem_singleton.mp hp]
      exact ⟨by show _ ≤ ce.locals; rw [cL]; exact L3, eC', fun v y => by rw [dC] at y; cases y⟩
    refine next_genG (gs := .fresh c) (n := 0) (F := fun _ _ _ => False) (Y := fun _ _ _ _ _ => False) (Er := fun e s₁ => L2.CX X.prog X.w X.stack H1 sc (PinX [(ce.locals, oC)] E) e s₁ ∧ s₁.heap.IsGen a g ∧ ∀ p ∈ [(ce.locals, oC)], s₁.heap.get? p.1 = some p.2)
      (I1.ok.hd hc) I4.nolimit hr.depth (hg.keeps k4) (by rw [g4]; exact hgs) ⟨rfl, seg_imp (fun n s₀ r s z => .inr z) (fun _ _ _ _ _ _ _ z => z) 0 sg⟩ (fun _ _ _ _ z => z.elim) (fun _ z => z.elim) fun e s₁ ⟨hcx, hgn, hp⟩ => ⟨hgn, ?_, ?_⟩
    · refine notStop_of (E := E) hns ?_ ?_ (H := H1) (outer := X.stack) (s := sc) (P := X.prog) (w := X.w)
      · obtain ⟨a, B, H', cls, d, _, fl, _, ub, _⟩ := id hcx
        refine I1.ok.mod.kin.keeps fun b o eb => fl.1 b o (ub.keep b o (I1.bs b o eb).1 (I1.bs b o eb).2 fun hm => ?_)
        rcases List.mem_cons.mp (I1.stkSub b hm) with z | z
        · have x1 := Heap.lt_size eb
          have x2 := Nat.le_trans I1.ok.bsz I1.ok.above
          rw [z] at x1
          exact absurd (Nat.lt_of_lt_of_le x1 x2) (Nat.lt_irrefl _)
        · exact I1.ok.nofr eb z
      · obtain ⟨a, B, H', cls, d, z1, fl, z2, ub, z3, z4, z5, z6, _⟩ := hcx
        exact ⟨a, B, H', cls, d, z1, fl, z2, ub, z3, z4, z5, z6⟩
    · refine fails_blk (C := ce.locals) hst hfx tk I1 ?_ cF rfl (m := m) ⟨oC, esC, epC, hp (ce.locals, oC) (by simp), dC, rC⟩ szs
      obtain ⟨a, B, H', cls, d, z1, fl, z2, ub, z3, z4, z5, z6, z7⟩ := hcx
      exact ⟨a, B, H', cls, d, z1, fl, z2, ub, z3, z4, allBare_setGen z5 rfl, z6, z7 (ce.locals, oC) (by simp)⟩
  exact codeAny_compStart_list loop (wpAny_pyIter_gen (hg.keeps k4) loop)
theorem pe_lcR {k : Nat} {elt tg iter : Expr} {ifs : List Expr} {scope : Scope} {own : List (Str × Nat)} {pos : Pos} {tq : L2.St → Hp → Prop} {E : XK} (hc : X.calm = true) (hst : X.stack = X.env :: X.outer) (hfx : X.env.frame = some X.env.locals) (tk : Takes X fun cls d _ H => E cls d H) (hns : NoStop X.K E) (hr : Room (k + 1) X.A) (hN : X.N.Nodup)
    (hi : PGR X k iter tq E) (ok : BlkOk X.N X.env.scope scope own) (hs : ∀ x, foldedSetIterable iter X.env x = pure x := by intro _; rfl) :
    PE X (.ListComp elt [⟨tg, iter, ifs, 0⟩] scope pos) (fun σ H _ => tq σ H) := by
  refine ⟨fun pins s σ H Q I h => ?_⟩
  rw [eval_ListComp]
  exact lcR_core hc hst hfx tk hns hr hN I hi ok hs h
end
end MF
set_option Elab.async false
set_option linter.all false
set_option maxRecDepth 100000
set_option maxHeartbeats 2000000
set_option pp.maxSteps 600
namespace MF
open PySem PySem.Spec PyProof.Rows L2 StX
def top (i : Nat) : Stmt := PySem.Challenge.pw_mailforwards_k47_travel_lists.main.body.getD i (.Pass ⟨0, 0, 0, 0⟩)
abbrev s_is_integer : Stmt := top 21
abbrev s_is_address : Stmt := top 22
abbrev s_check_letter : Stmt := top 23
abbrev s_is_order : Stmt := top 24
abbrev s_do_overlap : Stmt := top 25
abbrev s_BookX_initX : Stmt := inClass (top 26) 1
abbrev s_BookX_addX : Stmt := inClass (top 26) 10
abbrev s_Book_order_for : Stmt := inClass (top 26) 14
abbrev s_Book_next_change : Stmt := inClass (top 26) 16
abbrev s_book_of : Stmt := top 27
abbrev s_LetterX_initX : Stmt := inClass (top 31) 0
abbrev s_Letter_order_now : Stmt := inClass (top 31) 1
abbrev s_Letter_step : Stmt := inClass (top 31) 2
abbrev s_route : Stmt := top 32
abbrev s_travel_list : Stmt := top 34
abbrev s__law_dice : Stmt := top 36
abbrev s__law_next : Stmt := top 37
abbrev s__law_pick : Stmt := top 38
abbrev s__law_told : Stmt := top 39
abbrev s__law_fits : Stmt := top 40
abbrev s__law_order : Stmt := top 41
abbrev s__law_orders : Stmt := top 42
abbrev s__law_made : Stmt := top 43
abbrev s__law_now : Stmt := top 44
abbrev s__law_arrivals : Stmt := top 45
abbrev s__law_grouped : Stmt := top 46
abbrev s_law : Stmt := top 47
theorem sc_is_integer : FnScope ["value", "low", "high"] ["value", "low", "high"] (defScope s_is_integer) := ⟨rfl, rfl, rfl, by decide +kernel, rfl, by decide +kernel, by decide +kernel⟩
theorem sc_is_address : FnScope ["value", "letter"] ["value"] (defScope s_is_address) := ⟨rfl, rfl, rfl, by decide +kernel, rfl, by decide +kernel, by decide +kernel⟩
theorem sc_check_letter : FnScope ["address", "day"] ["address", "day"] (defScope s_check_letter) := ⟨rfl, rfl, rfl, by decide +kernel, rfl, by decide +kernel, by decide +kernel⟩
theorem sc_is_order : FnScope ["value", "source", "target", "first", "last", "way"] ["value"] (defScope s_is_order) := ⟨rfl, rfl, rfl, by decide +kernel, rfl, by decide +kernel, by decide +kernel⟩
theorem sc_do_overlap : FnScope ["one", "other"] ["one", "other"] (defScope s_do_overlap) := ⟨rfl, rfl, rfl, by decide +kernel, rfl, by decide +kernel, by decide +kernel⟩
theorem sc_BookX_initX : FnScope ["self", "orders", "index", "order", "earlier"] ["self", "orders"] (defScope s_BookX_initX) := ⟨rfl, rfl, rfl, by decide +kernel, rfl, by decide +kernel, by decide +kernel⟩
theorem sc_BookX_addX : FnScope ["self", "other"] ["self", "other"] (defScope s_BookX_addX) := ⟨rfl, rfl, rfl, by decide +kernel, rfl, by decide +kernel, by decide +kernel⟩
theorem sc_Book_order_for : FnScope ["self", "address", "day", "index", "source", "target", "first", "last", "way"] ["self", "address", "day"] (defScope s_Book_order_for) := ⟨rfl, rfl, rfl, by decide +kernel, rfl, by decide +kernel, by decide +kernel⟩
theorem sc_Book_next_change : FnScope ["self", "day", "found", "source", "target", "first", "last", "way", "change"] ["self", "day"] (defScope s_Book_next_change) := ⟨rfl, rfl, rfl, by decide +kernel, rfl, by decide +kernel, by decide +kernel⟩
theorem sc_book_of : FnScope ["orders"] ["orders"] (defScope s_book_of) := ⟨rfl, rfl, rfl, by decide +kernel, rfl, by decide +kernel, by decide +kernel⟩
theorem sc_LetterX_initX : FnScope ["self", "book", "address", "day"] ["self", "book", "address", "day"] (defScope s_LetterX_initX) := ⟨rfl, rfl, rfl, by decide +kernel, rfl, by decide +kernel, by decide +kernel⟩
theorem sc_Letter_order_now : FnScope ["self"] ["self"] (defScope s_Letter_order_now) := ⟨rfl, rfl, rfl, by decide +kernel, rfl, by decide +kernel, by decide +kernel⟩
theorem sc_Letter_step : FnScope ["self", "index", "source", "target", "first", "last", "way"] ["self"] (defScope s_Letter_step) := ⟨rfl, rfl, rfl, by decide +kernel, rfl, by decide +kernel, by decide +kernel⟩
theorem sc_route : GScope ["book", "address", "day", "count", "letter", "left"] ["book", "address", "day", "count"] (defScope s_route) := ⟨rfl, rfl, rfl, by decide +kernel, rfl, by decide +kernel, by decide +kernel⟩
theorem sc_travel_list : FnScope ["book", "address", "day", "count", "name", "arrival"] ["book", "address", "day", "count"] (defScope s_travel_list) := ⟨rfl, rfl, rfl, by decide +kernel, rfl, by decide +kernel, by decide +kernel⟩
theorem sc__law_dice : FnScope ["_law_script", "_law_mixed", "_law_cell"] ["_law_script"] (defScope s__law_dice) := ⟨rfl, rfl, rfl, by decide +kernel, rfl, by decide +kernel, by decide +kernel⟩
theorem sc__law_next : FnScope ["_law_dice_here", "_law_many", "_law_found", "_law_cell"] ["_law_dice_here", "_law_many"] (defScope s__law_next) := ⟨rfl, rfl, rfl, by decide +kernel, rfl, by decide +kernel, by decide +kernel⟩
theorem sc__law_pick : FnScope ["_law_d", "_law_some"] ["_law_d", "_law_some"] (defScope s__law_pick) := ⟨rfl, rfl, rfl, by decide +kernel, rfl, by decide +kernel, by decide +kernel⟩
theorem sc__law_told : FnScope ["_law_work", "e", "_law_some", "_law_terms", "_law_k"] ["_law_work"] (defScope s__law_told) := ⟨rfl, rfl, rfl, by decide +kernel, rfl, by decide +kernel, by decide +kernel⟩
theorem sc__law_fits : FnScope ["_law_orders_here", "_law_order_here", "_law_one"] ["_law_orders_here", "_law_order_here"] (defScope s__law_fits) := ⟨rfl, rfl, rfl, by decide +kernel, rfl, by decide +kernel, by decide +kernel⟩
theorem sc__law_order : FnScope ["_law_d", "_law_most", "_law_names", "_law_source", "_law_first"] ["_law_d", "_law_most"] (defScope s__law_order) := ⟨rfl, rfl, rfl, by decide +kernel, rfl, by decide +kernel, by decide +kernel⟩
theorem sc__law_orders : FnScope ["_law_d", "_law_many", "_law_most", "_law_found", "_law_k", "_law_order_here"] ["_law_d", "_law_many", "_law_most"] (defScope s__law_orders) := ⟨rfl, rfl, rfl, by decide +kernel, rfl, by decide +kernel, by decide +kernel⟩
theorem sc__law_made : FnScope ["_law_orders_here", "_law_book", "_law_order_here"] ["_law_orders_here"] (defScope s__law_made) := ⟨rfl, rfl, rfl, by decide +kernel, rfl, by decide +kernel, by decide +kernel⟩
theorem sc__law_now : FnScope ["_law_orders_here", "_law_address", "_law_day", "_law_order_here"] ["_law_orders_here", "_law_address", "_law_day"] (defScope s__law_now) := ⟨rfl, rfl, rfl, by decide +kernel, rfl, by decide +kernel, by decide +kernel⟩
theorem sc__law_arrivals : FnScope ["_law_orders_here", "_law_address", "_law_day", "_law_most", "_law_found", "_law_order_here"] ["_law_orders_here", "_law_address", "_law_day", "_law_most"] (defScope s__law_arrivals) := ⟨rfl, rfl, rfl, by decide +kernel, rfl, by decide +kernel, by decide +kernel⟩
theorem sc__law_grouped : FnScope ["_law_number", "_law_word", "_law_found"] ["_law_number"] (defScope s__law_grouped) := ⟨rfl, rfl, rfl, by decide +kernel, rfl, by decide +kernel, by decide +kernel⟩
theorem sc_law : FnScope ["_law_script", "_law_turn", "_law_far", "_law_orders_here", "_law_address", "_law_day", "_law_count", "_law_lines", "_law_name", "_law_arrival", "_law_number", "_law_work", "_law_due", "_law_bad", "_law_book", "_law_d", "_law_odd", "_law_one"] ["_law_script"] (defScope s_law) := ⟨rfl, rfl, rfl, by decide +kernel, rfl, by decide +kernel, by decide +kernel⟩
structure Top (K : PySem.W.Frag) (mg : Str → Option Value) (C_Book : Addr) (C_Letter : Addr) (C_MailError : Addr) (C_InvalidOperation : Addr) (C_InvalidOrder : Addr) (C_UnknownOrder : Addr) (C_NotHolding : Addr) (C_DecodeError : Addr) (C_NotationError : Addr) (C_UnknownLetter : Addr) (C_InvalidAddress : Addr) (C_InvalidDay : Addr) (C_InvalidNumber : Addr) (C_Contradiction : Addr) (C_InvalidCount : Addr) : Prop where
  d_is_integer : GDef K mg "is_integer" s_is_integer ["value", "low", "high"]
  d_is_address : GDef K mg "is_address" s_is_address ["value"]
  d_check_letter : GDef K mg "check_letter" s_check_letter ["address", "day"]
  d_is_order : GDef K mg "is_order" s_is_order ["value"]
  d_do_overlap : GDef K mg "do_overlap" s_do_overlap ["one", "other"]
  d_BookX_initX : SDef K mg C_Book "Book" "Book.__init__" s_BookX_initX "self" "orders"
  d_BookX_addX : MDef K C_Book "__add__" "Book.__add__" s_BookX_addX ["self", "other"]
  d_Book_order_for : MDef K C_Book "order_for" "Book.order_for" s_Book_order_for ["self", "address", "day"]
  d_Book_next_change : MDef K C_Book "next_change" "Book.next_change" s_Book_next_change ["self", "day"]
  d_book_of : GDef K mg "book_of" s_book_of ["orders"]
  d_LetterX_initX : IDef K mg C_Letter "Letter" "Letter.__init__" s_LetterX_initX ["self", "book", "address", "day"]
  d_Letter_order_now : MDef K C_Letter "order_now" "Letter.order_now" s_Letter_order_now ["self"]
  d_Letter_step : MDef K C_Letter "step" "Letter.step" s_Letter_step ["self"]
  d_route : GDef K mg "route" s_route ["book", "address", "day", "count"]
  d_travel_list : GDef K mg "travel_list" s_travel_list ["book", "address", "day", "count"]
  d__law_dice : GDef K mg "_law_dice" s__law_dice ["_law_script"]
  d__law_next : GDef K mg "_law_next" s__law_next ["_law_dice_here", "_law_many"]
  d__law_pick : GDef K mg "_law_pick" s__law_pick ["_law_d", "_law_some"]
  d__law_told : GDef K mg "_law_told" s__law_told ["_law_work"]
  d__law_fits : GDef K mg "_law_fits" s__law_fits ["_law_orders_here", "_law_order_here"]
  d__law_order : GDef K mg "_law_order" s__law_order ["_law_d", "_law_most"]
  d__law_orders : GDef K mg "_law_orders" s__law_orders ["_law_d", "_law_many", "_law_most"]
  d__law_made : GDef K mg "_law_made" s__law_made ["_law_orders_here"]
  d__law_now : GDef K mg "_law_now" s__law_now ["_law_orders_here", "_law_address", "_law_day"]
  d__law_arrivals : GDef K mg "_law_arrivals" s__law_arrivals ["_law_orders_here", "_law_address", "_law_day", "_law_most"]
  d__law_grouped : GDef K mg "_law_grouped" s__law_grouped ["_law_number"]
  d_law : GDef K mg "law" s_law ["_law_script"]
  cl_Book : Cls K C_Book
  cl_Letter : Cls K C_Letter
  n_Book_listed : NoAttr K C_Book "listed"
  n_Letter_book : NoAttr K C_Letter "book"
  n_Letter_address : NoAttr K C_Letter "address"
  n_Letter_day : NoAttr K C_Letter "day"
  n_Letter_count : NoAttr K C_Letter "count"
  n_Letter_known : NoAttr K C_Letter "known"
  n_Letter_is_endless : NoAttr K C_Letter "is_endless"
  n_Letter_change : NoAttr K C_Letter "change"
  c_LETTERS : ∃ t, mg "LETTERS" = some (.str "abcdefghijklmnopqrstuvwxyz" t)
  c_MAX_LETTERS : ∃ t, mg "MAX_LETTERS" = some (.int 8 t)
  c_MAX_ORDERS_books : ∃ t, mg "MAX_ORDERS_books" = some (.int 30 t)
  c_MAX_DAY : ∃ t, mg "MAX_DAY" = some (.int 1000000000000000000 t)
  c_MAX_WAY : ∃ t, mg "MAX_WAY" = some (.int 30 t)
  c_MAX_LISTED : ∃ t, mg "MAX_LISTED" = some (.int 1000 t)
  g_MailError : mg "MailError" = some (.ref C_MailError)
  g_InvalidOperation : mg "InvalidOperation" = some (.ref C_InvalidOperation)
  g_InvalidOrder : mg "InvalidOrder" = some (.ref C_InvalidOrder)
  g_UnknownOrder : mg "UnknownOrder" = some (.ref C_UnknownOrder)
  g_NotHolding : mg "NotHolding" = some (.ref C_NotHolding)
  g_DecodeError : mg "DecodeError" = some (.ref C_DecodeError)
  g_NotationError : mg "NotationError" = some (.ref C_NotationError)
  g_UnknownLetter : mg "UnknownLetter" = some (.ref C_UnknownLetter)
  g_InvalidAddress : mg "InvalidAddress" = some (.ref C_InvalidAddress)
  g_InvalidDay : mg "InvalidDay" = some (.ref C_InvalidDay)
  g_InvalidNumber : mg "InvalidNumber" = some (.ref C_InvalidNumber)
  g_Contradiction : mg "Contradiction" = some (.ref C_Contradiction)
  g_InvalidCount : mg "InvalidCount" = some (.ref C_InvalidCount)
  base_MailError : BaseC K C_MailError
  x_InvalidAddress : EDef0 K mg C_InvalidAddress "InvalidAddress"
  x_InvalidDay : EDef0 K mg C_InvalidDay "InvalidDay"
  x_InvalidNumber : EDef0 K mg C_InvalidNumber "InvalidNumber"
  e_InvalidAddress : ErrC K C_InvalidAddress C_MailError
  k_InvalidAddress_InvalidOperation : PySem.W.kitOne K (.ref C_InvalidAddress) (.ref C_InvalidOperation) = some false
  k_InvalidAddress_InvalidOrder : PySem.W.kitOne K (.ref C_InvalidAddress) (.ref C_InvalidOrder) = some false
  k_InvalidAddress_UnknownOrder : PySem.W.kitOne K (.ref C_InvalidAddress) (.ref C_UnknownOrder) = some false
  k_InvalidAddress_NotHolding : PySem.W.kitOne K (.ref C_InvalidAddress) (.ref C_NotHolding) = some false
  k_InvalidAddress_DecodeError : PySem.W.kitOne K (.ref C_InvalidAddress) (.ref C_DecodeError) = some false
  k_InvalidAddress_NotationError : PySem.W.kitOne K (.ref C_InvalidAddress) (.ref C_NotationError) = some false
  k_InvalidAddress_UnknownLetter : PySem.W.kitOne K (.ref C_InvalidAddress) (.ref C_UnknownLetter) = some false
  k_InvalidAddress_InvalidAddress : PySem.W.kitOne K (.ref C_InvalidAddress) (.ref C_InvalidAddress) = some true
  k_InvalidAddress_InvalidDay : PySem.W.kitOne K (.ref C_InvalidAddress) (.ref C_InvalidDay) = some false
  k_InvalidAddress_InvalidNumber : PySem.W.kitOne K (.ref C_InvalidAddress) (.ref C_InvalidNumber) = some false
  k_InvalidAddress_Contradiction : PySem.W.kitOne K (.ref C_InvalidAddress) (.ref C_Contradiction) = some false
  k_InvalidAddress_InvalidCount : PySem.W.kitOne K (.ref C_InvalidAddress) (.ref C_InvalidCount) = some false
  e_InvalidDay : ErrC K C_InvalidDay C_MailError
  k_InvalidDay_InvalidOperation : PySem.W.kitOne K (.ref C_InvalidDay) (.ref C_InvalidOperation) = some false
  k_InvalidDay_InvalidOrder : PySem.W.kitOne K (.ref C_InvalidDay) (.ref C_InvalidOrder) = some false
  k_InvalidDay_UnknownOrder : PySem.W.kitOne K (.ref C_InvalidDay) (.ref C_UnknownOrder) = some false
  k_InvalidDay_NotHolding : PySem.W.kitOne K (.ref C_InvalidDay) (.ref C_NotHolding) = some false
  k_InvalidDay_DecodeError : PySem.W.kitOne K (.ref C_InvalidDay) (.ref C_DecodeError) = some false
  k_InvalidDay_NotationError : PySem.W.kitOne K (.ref C_InvalidDay) (.ref C_NotationError) = some false
  k_InvalidDay_UnknownLetter : PySem.W.kitOne K (.ref C_InvalidDay) (.ref C_UnknownLetter) = some false
  k_InvalidDay_InvalidAddress : PySem.W.kitOne K (.ref C_InvalidDay) (.ref C_InvalidAddress) = some false
  k_InvalidDay_InvalidDay : PySem.W.kitOne K (.ref C_InvalidDay) (.ref C_InvalidDay) = some true
  k_InvalidDay_InvalidNumber : PySem.W.kitOne K (.ref C_InvalidDay) (.ref C_InvalidNumber) = some false
  k_InvalidDay_Contradiction : PySem.W.kitOne K (.ref C_InvalidDay) (.ref C_Contradiction) = some false
  k_InvalidDay_InvalidCount : PySem.W.kitOne K (.ref C_InvalidDay) (.ref C_InvalidCount) = some false
  e_InvalidNumber : ErrC K C_InvalidNumber C_MailError
  k_InvalidNumber_InvalidOperation : PySem.W.kitOne K (.ref C_InvalidNumber) (.ref C_InvalidOperation) = some false
  k_InvalidNumber_InvalidOrder : PySem.W.kitOne K (.ref C_InvalidNumber) (.ref C_InvalidOrder) = some false
  k_InvalidNumber_UnknownOrder : PySem.W.kitOne K (.ref C_InvalidNumber) (.ref C_UnknownOrder) = some false
  k_InvalidNumber_NotHolding : PySem.W.kitOne K (.ref C_InvalidNumber) (.ref C_NotHolding) = some false
  k_InvalidNumber_DecodeError : PySem.W.kitOne K (.ref C_InvalidNumber) (.ref C_DecodeError) = some false
  k_InvalidNumber_NotationError : PySem.W.kitOne K (.ref C_InvalidNumber) (.ref C_NotationError) = some false
  k_InvalidNumber_UnknownLetter : PySem.W.kitOne K (.ref C_InvalidNumber) (.ref C_UnknownLetter) = some false
  k_InvalidNumber_InvalidAddress : PySem.W.kitOne K (.ref C_InvalidNumber) (.ref C_InvalidAddress) = some false
  k_InvalidNumber_InvalidDay : PySem.W.kitOne K (.ref C_InvalidNumber) (.ref C_InvalidDay) = some false
  k_InvalidNumber_InvalidNumber : PySem.W.kitOne K (.ref C_InvalidNumber) (.ref C_InvalidNumber) = some true
  k_InvalidNumber_Contradiction : PySem.W.kitOne K (.ref C_InvalidNumber) (.ref C_Contradiction) = some false
  k_InvalidNumber_InvalidCount : PySem.W.kitOne K (.ref C_InvalidNumber) (.ref C_InvalidCount) = some false
  ns_InvalidAddress : PySem.W.subIn K (.ref C_InvalidAddress) (.type "StopIteration") = some false
  ns_InvalidDay : PySem.W.subIn K (.ref C_InvalidDay) (.type "StopIteration") = some false
  ns_InvalidNumber : PySem.W.subIn K (.ref C_InvalidNumber) (.type "StopIteration") = some false
  b_isinstance : mg "isinstance" = none
  b_int : mg "int" = none
  b_bool : mg "bool" = none
  b_str : mg "str" = none
  b_tuple : mg "tuple" = none
  b_list : mg "list" = none
  b_len : mg "len" = none
  b_all : mg "all" = none
  b_enumerate : mg "enumerate" = none
  b_range : mg "range" = none
  b_min : mg "min" = none
  b_max : mg "max" = none
  b_ValueError : mg "ValueError" = none

end MF
set_option Elab.async false
set_option linter.all false
set_option maxHeartbeats 1000000
namespace MF
open PySem PySem.Spec PyProof.Rows L2 StX
theorem call_str_any {X : Cx} : CallR X (.type "str") (fun xs H Q => (∃ i : Int, xs = [.int i] ∧ i.natAbs.log2 < 1920 ∧ Q (.str (toString i)) H) ∨ ∃ a, xs = [.str a] ∧ Q (.str a) H) := by
  intro pins s σ H xs us Q I r h
  rcases h with h | h
  · exact call_str_int pins s σ H xs us Q I r h
  · exact SkE.call_str_str pins s σ H xs us Q I r h
theorem pe_joinK {X : Cx} {K : PySem.W.Frag} {o e : Expr} {to te : TE} {apos pos : Pos} (ho : PE X o to) (he : PE X e te) (h : X.K = K := by rfl) (hs : starEach [e] X.env = [(false, eval e X.env)] := by rfl) (hbase : attributeBase o "join" X.env (eval o X.env) = eval o X.env := by rfl) (hline : (apos.endLine == pos.line) = true := by rfl) :
    PE X (.Call (.Attribute o "join" apos) [e] [] pos) (tM1 (fun x xs H Q => ∃ a p, ∃ ys : List Str, x = .str a ∧ xs = [.ref p] ∧ (SqL K H p (ys.map V.str) ∨ SqT K H p (ys.map V.str)) ∧
      (ys.map (·.length)).sum + ys.length * a.length ≤ 16777216 ∧ Q (.str (Txt.join a ys)) H) to te) := by
  subst h
  exact pe_join ho he hs hbase hline
theorem pi_tupK {X : Cx} {K : PySem.W.Frag} {tg e : Expr} {te : TE} (he : PE X e te) (h : X.K = K := by rfl) : PI X tg e (iTup K te) := h ▸ pi_tup he
def repS (a : Str) (k : Int) : Str := if k < 1 then Str.empty else if (k == 1 || a.length == 0) = true then a else ⟨(List.replicate k.toNat a.cps).foldl (· ++ ·) #[]⟩
def rRepS : R2 := fun x y H Q => ∃ a k, x = .str a ∧ y = .int k ∧ -1000 ≤ k ∧ k ≤ 1000 ∧ a.length ≤ 1000 ∧ (repS a k).length ≤ sizeLine ∧ Q (.str (repS a k)) H
theorem tooLong46 {n : Nat} (h : n ≤ 1000000) : Builtin.Str.tooLong n = false := by
  exact decide_eq_false (by rw [sizeLine_eq]; omega)
theorem op_repS {X : Cx} : OpR X (binaryOp .Mult) rRepS := by
  intro pins s σ H x y v u Q I rx ry h
  obtain ⟨a, k, rfl, rfl, k0, k1, ha, hr, q⟩ := h
  obtain ⟨t, rfl⟩ := rx
  obtain ⟨t', rfl⟩ := ry
  refine PySem.P.mul_str ?_ ?_ ?_ ?_
  · rw [decide_eq_false (by omega), decide_eq_false (by omega)]
    rfl
  · intro h1 _ h2
    have h3 : (a.length : Int) * k ≤ 1000 * 1000 := Int.mul_le_mul (by omega) k1 (by omega) (by decide)
    have h4 : (a.length : Int) ≤ (2 ^ 63 - 1) / k := Int.le_ediv_of_mul_le (by omega) (by omega)
    omega
  · intro h1 _
    have h3 : a.length * k.toNat ≤ 1000 * 1000 := Nat.mul_le_mul ha (by omega)
    refine tooLong46 (by omega)
  · unfold repS at hr q
    by_cases c1 : k < 1
    · rw [if_pos c1] at hr q ⊢
      exact ⟨hr, .str _, H, I.tok _, ⟨_, rfl⟩, q⟩
    · rw [if_neg c1] at hr q ⊢
      by_cases c2 : (k == 1 || a.length == 0) = true
      · rw [if_pos c2] at hr q ⊢
        exact ⟨.str _, H, I, ⟨_, rfl⟩, q⟩
      · rw [if_neg c2] at hr q ⊢
        exact ⟨hr, .str _, H, I.tok _, ⟨_, rfl⟩, q⟩
end MF
set_option Elab.async false
set_option linter.all false
set_option maxRecDepth 100000
set_option maxHeartbeats 2000000
set_option pp.maxSteps 600
namespace MF
open PySem PySem.Spec PyProof.Rows L2 StX
section
variable {P : Program} {w : World} {K : PySem.W.Frag} {mg : Str → Option Value} {base : Heap} {C_Book C_Letter C_MailError C_InvalidOperation C_InvalidOrder C_UnknownOrder C_NotHolding C_DecodeError C_NotationError C_UnknownLetter C_InvalidAddress C_InvalidDay C_InvalidNumber C_Contradiction C_InvalidCount : Addr}
theorem ok_is_integer (T : Top K mg C_Book C_Letter C_MailError C_InvalidOperation C_InvalidOrder C_UnknownOrder C_NotHolding C_DecodeError C_NotationError C_UnknownLetter C_InvalidAddress C_InvalidDay C_InvalidNumber C_Contradiction C_InvalidCount) : GFn P w K mg base CX0 1 "is_integer" spIsInteger := by
  refine T.d_is_integer.fn fun f fd F => F.ok sc_is_integer (fun vs H Q E h => ?_) (fun cdv A outer s H vs Q E hr h => ?_)
  · obtain ⟨v, lo, hi, rfl, _⟩ := h
    rfl
  · obtain ⟨v, lo, hi, rfl, hn, k⟩ := h
    refine ⟨_, (pss_one (ps_ret (pe_and (pe_callB call_isi (by rfl) T.b_isinstance (by decide +kernel) (pa_cons (pv 0) (pa_cons (pe_bltn (v := .ty "int") (by rfl) T.b_int (by decide +kernel) rfl) pa_nil))) (pe_and (pe_not (pe_callB call_isi (by rfl) T.b_isinstance (by decide +kernel) (pa_cons (pv 0) (pa_cons (pe_bltn (v := .ty "bool") (by rfl) T.b_bool (by decide +kernel) rfl) pa_nil)))) (pe_one (pe_chain op_le op_le (pv 1) (pv 0) (pv 2))))))), ?_⟩
    cases v with
    | int i =>
      refine ⟨_, rfl, _, _, _, _, true, rfl, .ty "int", ty_flat hn, kt_int_int, true, rfl, iteT ?_⟩
      refine ⟨_, rfl, _, _, _, _, false, rfl, .ty "bool", ty_flat hn, kt_int_bool, false, rfl, true, rfl, iteT ?_⟩
      refine ⟨_, rfl, _, rfl, _, _, rfl, rfl, _, rfl, ?_⟩
      refine ite2 (fun h1 => ?_) (fun h1 => ?_)
      · have h1' : lo ≤ i := of_decide_eq_true h1
        refine ⟨_, rfl, _, _, rfl, rfl, ?_⟩
        simpa [isIntB, h1'] using k
      · have h1' : decide (lo ≤ i) = false := by simpa using h1
        simpa [isIntB, h1'] using k
    | bl b =>
      refine ⟨_, rfl, _, _, _, _, true, rfl, .ty "int", ty_flat hn, kt_bool_int, true, rfl, iteT ?_⟩
      refine ⟨_, rfl, _, _, _, _, true, rfl, .ty "bool", ty_flat hn, kt_bool_bool, true, rfl, false, rfl, iteF ?_⟩
      exact k
    | non =>
      refine ⟨_, rfl, _, _, _, _, false, rfl, .ty "int", ty_flat hn, kt_NoneType_int, false, rfl, iteF ?_⟩
      exact k
    | str x =>
      refine ⟨_, rfl, _, _, _, _, false, rfl, .ty "int", ty_flat hn, kt_str_int, false, rfl, iteF ?_⟩
      exact k
    | byt b => cases hn
    | flt b => cases hn
    | ref a => cases hn
    | ty n => cases hn
theorem ok_do_overlap (T : Top K mg C_Book C_Letter C_MailError C_InvalidOperation C_InvalidOrder C_UnknownOrder C_NotHolding C_DecodeError C_NotationError C_UnknownLetter C_InvalidAddress C_InvalidDay C_InvalidNumber C_Contradiction C_InvalidCount) : GFn P w K mg base CX0 1 "do_overlap" (spOverlap K) := by
  refine T.d_do_overlap.fn fun f fd F => F.ok sc_do_overlap (fun vs H Q E h => ?_) (fun cdv A outer s H vs Q E hr h => ?_)
  · obtain ⟨a, b, o, p, rfl, _⟩ := h
    rfl
  · obtain ⟨a, b, o, p, rfl, ha, hb, k⟩ := h
    refine ⟨_, (pss_one (ps_ret (pe_and (pe_cmpR op_eq (pe_ix ix_tup (pv 0) pe_int (fun _ _ => rfl)) (pe_ix ix_tup (pv 1) pe_int (fun _ _ => rfl)) (nomark _)) (pe_and (pe_cmpR op_le (pe_ix ix_tup (pv 0) pe_int (fun _ _ => rfl)) (pe_ix ix_tup (pv 1) pe_int (fun _ _ => rfl)) (nomark _)) (pe_one (pe_cmpR op_le (pe_ix ix_tup (pv 1) pe_int (fun _ _ => rfl)) (pe_ix ix_tup (pv 0) pe_int (fun _ _ => rfl)) (nomark _))))))), ?_⟩
    refine ⟨_, rfl, a, _, _, _, rfl, rfl, ha, rfl, _, rfl, b, _, _, _, rfl, rfl, hb, rfl, rfl, _, rfl, ?_⟩
    refine ite2 (fun h1 => ?_) (fun h1 => ?_)
    · have h1' : o.src = p.src := V.str.inj (of_decide_eq_true h1)
      refine ⟨_, rfl, a, _, _, _, rfl, rfl, ha, rfl, _, rfl, b, _, _, _, rfl, rfl, hb, rfl, _, _, rfl, rfl, _, rfl, ?_⟩
      refine ite2 (fun h2 => ?_) (fun h2 => ?_)
      · have h2' : o.first ≤ p.last := of_decide_eq_true h2
        refine ⟨_, rfl, b, _, _, _, rfl, rfl, hb, rfl, _, rfl, a, _, _, _, rfl, rfl, ha, rfl, _, _, rfl, rfl, ?_⟩
        simpa [overB, h1', h2'] using k
      · have h2' : ¬ o.first ≤ p.last := by simpa using h2
        simpa [overB, h1', h2'] using k
    · have h1' : ¬ o.src = p.src := fun q => h1 (decide_eq_true (congrArg V.str q))
      simpa [overB, h1'] using k
end

end MF
set_option Elab.async false
set_option linter.all false
set_option maxRecDepth 100000
set_option maxHeartbeats 2000000
set_option pp.maxSteps 600
namespace MF
open PySem PySem.Spec PyProof.Rows L2 StX
section
variable {P : Program} {w : World} {K : PySem.W.Frag} {mg : Str → Option Value} {base : Heap} {C_Book C_Letter C_MailError C_InvalidOperation C_InvalidOrder C_UnknownOrder C_NotHolding C_DecodeError C_NotationError C_UnknownLetter C_InvalidAddress C_InvalidDay C_InvalidNumber C_Contradiction C_InvalidCount : Addr}
theorem ok_is_address (T : Top K mg C_Book C_Letter C_MailError C_InvalidOperation C_InvalidOrder C_UnknownOrder C_NotHolding C_DecodeError C_NotationError C_UnknownLetter C_InvalidAddress C_InvalidDay C_InvalidNumber C_Contradiction C_InvalidCount) : GFn P w K mg base CX0 1 "is_address" spIsAddress := by
  refine T.d_is_address.fn fun f fd F => F.ok sc_is_address (fun vs H Q E h => ?_) (fun cdv A outer s H vs Q E hr h => ?_)
  · obtain ⟨v, rfl, _⟩ := h
    rfl
  · obtain ⟨v, rfl, hn, hs, k⟩ := h
    refine ⟨_, (pss_cons (ps_if (PW.pt (pw_or (pt_not (pt_val (pe_callB call_isi (by rfl) T.b_isinstance (by decide +kernel) (pa_cons (pv 0) (pa_cons (pe_bltn (v := .ty "str") (by rfl) T.b_str (by decide +kernel) rfl) pa_nil))))) (pw_or1 (pt_not (pt_chain op_le op_le pe_int (pe_callB call_len_str (by rfl) T.b_len (by decide +kernel) (pa_cons (pv 0) pa_nil)) (pe_gint T.c_MAX_LETTERS))))))
  (pss_one (ps_ret pe_bl))
  pss_nil)
  (pss_one (ps_ret (pe_callB (cr_all rfl) (by rfl) T.b_all (by decide +kernel) (pa_cons (pe_lc (own := [("letter", 1)]) (g := (gName 1)) (by rfl) sc_is_address.nd (pi_str (pv 0)) (blkOk_by (own := [("letter", 1)]) (N := ["value", "letter"]) (sc := defScope s_is_address) (by decide +kernel)) (fun _ _ _ _ _ => (pg_name (i := 1) sc_is_address.nd rfl (Or.inl rfl))) (fun _ _ _ _ _ => pts_nil) (fun _ _ _ _ _ => (pe_cmpR op_in_sign (pv 1) (pe_gstr T.c_LETTERS) rfl))) pa_nil))))), ?_⟩
    cases v with
    | str z =>
      refine ⟨_, rfl, _, _, _, _, true, rfl, .ty "str", ty_flat hn, kt_str_str, true, rfl, iteF ?_⟩
      refine ⟨_, rfl, z, rfl, hs, _, _, rfl, rfl, _, rfl, ?_⟩
      have h8 : ∀ b, isAddrB (.str z) = b → Q (.bl b) H := fun b e => by rw [← e]; exact k H (Same.refl H)
      refine ite2 (fun h1 => ?_) (fun h1 => ?_)
      · have h1' : 1 ≤ z.length := by have := of_decide_eq_true h1; omega
        refine ⟨_, _, rfl, rfl, _, rfl, ?_⟩
        by_cases h2 : z.length ≤ 8
        · have h2' : decide (((z.length : Nat) : Int) ≤ 8) = true := decide_eq_true (by omega)
          rw [h2']
          refine iteF ?_
          refine ⟨_, rfl, z, rfl, fun D hD => lc_it walk_str (fun i H' => Same H H' ∧ H' D = some (.lst ((z.cps.toList.take i).map fun c => V.bl (decide (c ∈ letters.cps.toList))))) ⟨Same.new hD, upd_same⟩ (fun _ _ _ _ => trivial) ?_ ?_⟩
          · rintro i x H1 H2 hi ⟨s1, l1⟩ ⟨rfl, c, hc, rfl⟩
            have hlt : i < z.cps.size := hi
            have hlen : z.cps.size = z.length := rfl
            refine ⟨rfl, yesT ?_⟩
            refine iteT ?_
            refine ⟨_, rfl, c, _, rfl, rfl, _, l1, ?_, ?_, ?_⟩
            · rw [List.length_map]
              exact Nat.lt_of_le_of_lt (List.length_take_le _ _) (Nat.lt_of_lt_of_le (Nat.lt_of_lt_of_le hlt (hlen ▸ h2)) (by decide))
            · intro b o e
              have nb : b ≠ D := ne_of_none e hD
              rw [upd_ne nb]
              exact s1 b o e
            · rw [upd_same]
              have e1 : z.cps.toList[i]? = some c := by simpa using hc
              rw [List.take_add_one, e1]
              simp [letters]
          · rintro H1 ⟨s1, l1⟩
            have e1 : z.cps.toList.take z.cps.size = z.cps.toList := List.take_of_length_le (by simp)
            rw [e1] at l1
            have e2 : (z.cps.toList.map fun c => V.bl (decide (c ∈ letters.cps.toList))) = (z.cps.toList.map fun c => decide (c ∈ letters.cps.toList)).map V.bl := by rw [List.map_map]; rfl
            rw [e2] at l1
            refine ⟨D, _, rfl, SqL.of l1, ?_⟩
            have e3 : ((z.cps.toList.map fun c => decide (c ∈ letters.cps.toList)).all id) = isAddrB (.str z) := by
              show _ = (decide (1 ≤ z.length) && decide (z.length ≤ 8) && z.cps.toList.all fun c => decide (c ∈ letters.cps.toList))
              rw [decide_eq_true h1', decide_eq_true h2, List.all_map]
              rfl
            rw [e3]
            exact k H1 s1
        · have h2' : decide (((z.length : Nat) : Int) ≤ 8) = false := decide_eq_false (by omega)
          rw [h2']
          exact iteT (h8 _ (by simp [isAddrB, h2]))
      · have h1' : ¬ 1 ≤ z.length := fun q => h1 (decide_eq_true (by omega))
        exact ⟨false, rfl, iteT (h8 _ (by simp [isAddrB, h1']))⟩
    | int i =>
      refine ⟨_, rfl, _, _, _, _, false, rfl, .ty "str", ty_flat hn, kt_int_str, false, rfl, iteT ?_⟩
      exact iteT (k H (Same.refl H))
    | bl b =>
      refine ⟨_, rfl, _, _, _, _, false, rfl, .ty "str", ty_flat hn, kt_bool_str, false, rfl, iteT ?_⟩
      exact iteT (k H (Same.refl H))
    | non =>
      refine ⟨_, rfl, _, _, _, _, false, rfl, .ty "str", ty_flat hn, kt_NoneType_str, false, rfl, iteT ?_⟩
      exact iteT (k H (Same.refl H))
    | byt b => cases hn
    | flt b => cases hn
    | ref a => cases hn
    | ty n => cases hn
end

end MF
set_option Elab.async false
set_option linter.all false
set_option maxRecDepth 100000
set_option maxHeartbeats 2000000
set_option pp.maxSteps 600
namespace MF
open PySem PySem.Spec PyProof.Rows L2 StX
section
variable {P : Program} {w : World} {K : PySem.W.Frag} {mg : Str → Option Value} {base : Heap} {C_Book C_Letter C_MailError C_InvalidOperation C_InvalidOrder C_UnknownOrder C_NotHolding C_DecodeError C_NotationError C_UnknownLetter C_InvalidAddress C_InvalidDay C_InvalidNumber C_Contradiction C_InvalidCount : Addr}
theorem ok_is_order (T : Top K mg C_Book C_Letter C_MailError C_InvalidOperation C_InvalidOrder C_UnknownOrder C_NotHolding C_DecodeError C_NotationError C_UnknownLetter C_InvalidAddress C_InvalidDay C_InvalidNumber C_Contradiction C_InvalidCount) : GFn P w K mg base CX0 2 "is_order" (spIsOrder K) := by
  have G_is_address : GFn P w K mg base CX0 1 "is_address" spIsAddress := ok_is_address T
  have G_is_integer : GFn P w K mg base CX0 1 "is_integer" spIsInteger := ok_is_integer T
  refine T.d_is_order.fn fun f fd F => F.ok sc_is_order (fun vs H Q E h => ?_) (fun cdv A outer s H vs Q E hr h => ?_)
  · obtain ⟨v, b, rfl, _⟩ := h
    rfl
  · obtain ⟨v, b, rfl, hv, k⟩ := h
    refine ⟨_, (pss_one (ps_match rfl sc_is_order.nd (pv 0) (Caps.cons (i := 1) rfl (Or.inl rfl) (Or.inl rfl) (Caps.cons (i := 2) rfl (Or.inl rfl) (Or.inl rfl) (Caps.cons (i := 3) rfl (Or.inl rfl) (Or.inl rfl) (Caps.cons (i := 4) rfl (Or.inl rfl) (Or.inl rfl) (Caps.cons (i := 5) rfl (Or.inl rfl) (Or.inl rfl) Caps.nil))))) (pt_val (pe_callB call_isi (by rfl) T.b_isinstance (by decide +kernel) (pa_cons (pv 0) (pa_cons (pe_bltn (v := .ty "tuple") (by rfl) T.b_tuple (by decide +kernel) rfl) pa_nil))))
  (pss_cons (ps_if (PW.pt (pw_or (pt_not (pt_val (pe_g G_is_address (hr.mono (by decide)) (pa_cons (pv 1) pa_nil)))) (pw_or (pt_not (pt_val (pe_g G_is_address (hr.mono (by decide)) (pa_cons (pv 2) pa_nil)))) (pw_or1 (pt_cmpR op_eq (pv 1) (pv 2) (nomark _))))))
  (pss_one (ps_ret pe_bl))
  pss_nil)
  (pss_cons (ps_if (PW.pt (pw_or (pt_not (pt_val (pe_g G_is_integer (hr.mono (by decide)) (pa_cons (pv 4) (pa_cons pe_int (pa_cons (pe_gint T.c_MAX_DAY) pa_nil)))))) (pw_or1 (pt_not (pt_val (pe_g G_is_integer (hr.mono (by decide)) (pa_cons (pv 3) (pa_cons pe_int (pa_cons (pv 4) pa_nil)))))))))
  (pss_one (ps_ret pe_bl))
  pss_nil)
  (pss_one (ps_ret (pe_g G_is_integer (hr.mono (by decide)) (pa_cons (pv 5) (pa_cons pe_int (pa_cons (pe_gint T.c_MAX_WAY) pa_nil))))))))
  (pss_one (ps_ret pe_bl)))), ?_⟩
    rcases hv with ⟨a, xs, rfl, hq, hf, rfl⟩ | ⟨a, xs, rfl, hq, rfl⟩ | ⟨hn, rfl⟩
    · by_cases hl : xs.length = 5
      · obtain ⟨s, t, f, l, y, rfl⟩ : ∃ s t f l y, xs = [s, t, f, l, y] := by
          match xs, hl with
          | [s, t, f, l, y], _ => exact ⟨s, t, f, l, y, rfl⟩
        refine ⟨_, rfl, .inl ⟨a, _, rfl, .inl hq, .inl ⟨rfl, ?_⟩⟩⟩
        refine ⟨_, rfl, _, _, _, _, true, rfl, .ty "tuple", tyT hq, kt_tuple_tuple, true, rfl, iteT ?_⟩
        have hs := hf s (by simp)
        have ht := hf t (by simp)
        have hf1 := hf f (by simp)
        have hl1 := hf l (by simp)
        have hy := hf y (by simp)
        have no : isOrdB [s, t, f, l, y] = false → ∀ H', Same H H' → Q (.bl false) H' := fun e H' q => by
          have := k H' q
          rw [e] at this
          exact this
        have yes : isOrdB [s, t, f, l, y] = true → ∀ H', Same H H' → Q (.bl true) H' := fun e H' q => by
          have := k H' q
          rw [e] at this
          exact this
        refine ⟨_, rfl, s, rfl, hs.1, hs.2, fun H1 e1 => ⟨_, rfl, ?_⟩⟩
        cases h1 : isAddrB s with
        | false => exact iteT (iteT (no (by simp [isOrdB, h1]) H1 e1))
        | true =>
          refine iteF ?_
          refine ⟨_, rfl, t, rfl, ht.1, ht.2, fun H2 e2 => ⟨_, rfl, ?_⟩⟩
          have e12 := e1.trans e2
          cases h2 : isAddrB t with
          | false => exact iteT (iteT (no (by simp [isOrdB, h1, h2]) H2 e12))
          | true =>
            refine iteF ?_
            obtain ⟨zs, rfl⟩ : ∃ z, s = V.str z := by
              cases s with
              | str z => exact ⟨z, rfl⟩
              | _ => cases h1
            obtain ⟨zt, rfl⟩ : ∃ z, t = V.str z := by
              cases t with
              | str z => exact ⟨z, rfl⟩
              | _ => cases h2
            refine ⟨_, rfl, _, rfl, rfl, _, rfl, ?_⟩
            refine ite2 (fun h3 => no ?_ H2 e12) (fun h3 => ?_)
            · simp [isOrdB, of_decide_eq_true h3]
            have h3' : decide (V.str zs = V.str zt) = false := by simpa using h3
            refine ⟨_, rfl, l, _, _, rfl, hl1.1, _, rfl, ?_⟩
            cases h4 : isIntB l 0 1000000000000000000 with
            | false => exact iteT (iteT (no (by simp [isOrdB, h4]) H2 e12))
            | true =>
              refine iteF ?_
              obtain ⟨il, rfl⟩ : ∃ i, l = V.int i := by
                cases l with
                | int i => exact ⟨i, rfl⟩
                | _ => cases h4
              refine ⟨_, rfl, _, rfl, f, _, _, rfl, hf1.1, _, rfl, ?_⟩
              cases h5 : isIntB f 0 il with
              | false => exact iteT (no (by simp [isOrdB, h5]) H2 e12)
              | true =>
                refine iteF ?_
                refine ⟨_, rfl, y, _, _, rfl, hy.1, ?_⟩
                have e6 : isOrdB [V.str zs, V.str zt, f, V.int il, y] = isIntB y 1 30 := by
                  simp only [isOrdB, h1, h2, h3', h4, h5, Bool.not_false, Bool.true_and]
                rw [← e6]
                exact k H2 e12
      · have e : isOrdB xs = false := by
          unfold isOrdB
          split
          · exact absurd rfl hl
          · rfl
        refine ⟨_, rfl, .inl ⟨a, _, rfl, .inl hq, .inr ⟨hl, ?_⟩⟩⟩
        have := k H (Same.refl H)
        rw [e] at this
        exact this
    · by_cases hl : xs.length = 5
      · refine ⟨_, rfl, .inl ⟨a, _, rfl, .inr hq, .inl ⟨hl, ?_⟩⟩⟩
        match xs, hl with
        | [s, t, f, l, y], _ =>
          exact ⟨_, rfl, _, _, _, _, false, rfl, .ty "tuple", tyL hq, kt_list_tuple, false, rfl, iteF (k H (Same.refl H))⟩
      · exact ⟨_, rfl, .inl ⟨a, _, rfl, .inr hq, .inr ⟨hl, k H (Same.refl H)⟩⟩⟩
    · exact ⟨_, rfl, .inr ⟨hn, k H (Same.refl H)⟩⟩
def spCheckOk : Sp := fun vs H Q _ => ∃ z d, vs = [.str z, .int d] ∧ isAddrB (.str z) = true ∧ 0 ≤ d ∧ d ≤ 1000000000000000000 ∧ ∀ H', Same H H' → Q .non H'
theorem isAddr_short {z : Str} (h : isAddrB (.str z) = true) : z.length ≤ 8 := by
  simp only [isAddrB, Bool.and_eq_true, decide_eq_true_eq] at h
  exact h.1.2
theorem ok_check_letter (T : Top K mg C_Book C_Letter C_MailError C_InvalidOperation C_InvalidOrder C_UnknownOrder C_NotHolding C_DecodeError C_NotationError C_UnknownLetter C_InvalidAddress C_InvalidDay C_InvalidNumber C_Contradiction C_InvalidCount) : GFn P w K mg base CX0 2 "check_letter" spCheckOk := by
  have G_is_address : GFn P w K mg base CX0 1 "is_address" spIsAddress := ok_is_address T
  have G_is_integer : GFn P w K mg base CX0 1 "is_integer" spIsInteger := ok_is_integer T
  refine T.d_check_letter.fn fun f fd F => F.ok sc_check_letter (fun vs H Q E h => ?_) (fun cdv A outer s H vs Q E hr h => ?_)
  · obtain ⟨z, d, rfl, _⟩ := h
    rfl
  · obtain ⟨z, d, rfl, ha, h0, h1, k⟩ := h
    refine ⟨_, (pss_cons (ps_if (pt_not (pt_val (pe_g G_is_address (hr.mono (by decide)) (pa_cons (pv 0) pa_nil))))
  (pss_one ps_never)
  pss_nil)
  (pss_one (ps_if (pt_not (pt_val (pe_g G_is_integer (hr.mono (by decide)) (pa_cons (pv 1) (pa_cons pe_int (pa_cons (pe_gint T.c_MAX_DAY) pa_nil))))))
  (pss_one ps_never)
  pss_nil))), ?_⟩
    refine ⟨_, rfl, _, rfl, rfl, Nat.le_trans (isAddr_short ha) (by decide), fun H1 e1 => ⟨_, rfl, ?_⟩⟩
    rw [ha]
    refine iteF ?_
    have e : isIntB (.int d) 0 1000000000000000000 = true := by simp [isIntB, h0, h1]
    refine ⟨_, rfl, _, _, _, rfl, rfl, _, rfl, ?_⟩
    rw [e]
    exact iteF (k H1 e1)
end

end MF
set_option Elab.async false
set_option linter.all false
set_option maxRecDepth 100000
set_option maxHeartbeats 2000000
set_option pp.maxSteps 600
namespace MF
open PySem PySem.Spec PyProof.Rows L2 StX
section
variable {P : Program} {w : World} {K : PySem.W.Frag} {mg : Str → Option Value} {base : Heap} {C_Book C_Letter C_MailError C_InvalidOperation C_InvalidOrder C_UnknownOrder C_NotHolding C_DecodeError C_NotationError C_UnknownLetter C_InvalidAddress C_InvalidDay C_InvalidNumber C_Contradiction C_InvalidCount : Addr}
def spInitIn (K : PySem.W.Frag) (C : Addr) : Sp := fun vs H Q _ => ∃ x dx t as os, vs = [.ref x, .ref t] ∧ H x = some (.ins C dx []) ∧ SqT K H t (as.map V.ref) ∧ OrdsAt K H as os ∧ Good os ∧
  ∀ H', H' x = some (.ins C dx [("listed", .ref t)]) → (∀ b o, H b = some o → b ≠ x → H' b = some o) → Q .non H'
def spBookInit (K : PySem.W.Frag) (C : Addr) : Sp := fun vs H Q E => ∃ v rest, vs = v :: rest ∧ rest.length ≤ sizeLine ∧ ∀ p, H p = Option.none → spInitIn K C [v, V.ref p] (upd H p (.tup rest)) Q E
theorem isOrd_flat {o : Ordr} (h : o.Ok) : ∀ x ∈ o.vals, notSeq x = true ∧ shortV x := by
  intro x hx
  have ls : o.src.length ≤ sizeLine := Nat.le_trans (by have := h.as; simp only [isAddrB, Bool.and_eq_true, decide_eq_true_eq] at this; exact this.1.2) (by decide)
  have lt : o.tgt.length ≤ sizeLine := Nat.le_trans (by have := h.at_; simp only [isAddrB, Bool.and_eq_true, decide_eq_true_eq] at this; exact this.1.2) (by decide)
  simp only [Ordr.vals, List.mem_cons, List.not_mem_nil, or_false] at hx
  rcases hx with rfl | rfl | rfl | rfl | rfl
  · exact ⟨rfl, ls⟩
  · exact ⟨rfl, lt⟩
  · exact ⟨rfl, trivial⟩
  · exact ⟨rfl, trivial⟩
  · exact ⟨rfl, trivial⟩
theorem ok_Book (T : Top K mg C_Book C_Letter C_MailError C_InvalidOperation C_InvalidOrder C_UnknownOrder C_NotHolding C_DecodeError C_NotationError C_UnknownLetter C_InvalidAddress C_InvalidDay C_InvalidNumber C_Contradiction C_InvalidCount) : IFn P w K mg base CX0 3 C_Book "Book" (spBookInit K C_Book) := by
  have G_is_order : GFn P w K mg base CX0 2 "is_order" (spIsOrder K) := ok_is_order T
  have G_do_overlap : GFn P w K mg base CX0 1 "do_overlap" (spOverlap K) := ok_do_overlap T
  refine T.d_BookX_initX.fn0 (sp := spInitIn K C_Book) sc_BookX_initX fun f cdv A outer s H vs Q E hr h => ?_
  obtain ⟨x, dx, t, as, os, rfl, hx, ht, ho, g, k⟩ := h
  refine ⟨_, (pss_cons (ps_for PassesOwn.never rfl (pi_enumT (by rfl) T.b_enumerate (pa_cons (pv 1) pa_nil)) (pg_tup rfl (pgs_cons (pg_name (i := 2) sc_BookX_initX.nd rfl (Or.inl rfl)) (pgs_cons (pg_name (i := 3) sc_BookX_initX.nd rfl (Or.inl rfl)) pgs_nil)))
  (pss_cons (ps_if (PW.pt (pw_or (pt_cmpR op_eq (pv 2) (pe_gint T.c_MAX_ORDERS_books) (nomark _)) (pw_or1 (pt_not (pt_val (pe_g G_is_order (hr.mono (by decide)) (pa_cons (pv 3) pa_nil)))))))
  (pss_one ps_never)
  pss_nil)
  (pss_one (ps_for PassesOwn.never rfl (pi_tup (pe_slice sl_tup (pv 1) po_none (po_some (pv 2)))) (pg_name (i := 4) sc_BookX_initX.nd rfl (Or.inl rfl))
  (pss_one (ps_if (pt_val (pe_g G_do_overlap (hr.mono (by decide)) (pa_cons (pv 4) (pa_cons (pv 3) pa_nil))))
  (pss_one ps_never)
  pss_nil))))))
  (pss_one (ps_fld (pv 0) (pv 1) rfl))), ?_⟩
  have hl : as.length = os.length := PySem.Paired.length ho
  refine ⟨_, rfl, t, _, rfl, ht, for_it walk_enumT (fun i σ H' => Same H H' ∧ ∃ v2 v3 v4, σ = [some (.ref x), some (.ref t), v2, v3, v4]) ⟨Same.refl H, _, _, _, rfl⟩ (fun i σ H' _ ⟨s1, _⟩ => MF.Same.tup s1 ht) ?_ ?_⟩
  · rintro i y σ H1 H2 hi ⟨s1, v2, v3, v4, rfl⟩ ⟨p, z1, z2, rfl, hp, rfl, e1, e2⟩
    cases e1
    rw [List.length_map] at hi
    obtain ⟨a, ea⟩ : ∃ a, as[i]? = some a := ⟨as[i], by simp [hi]⟩
    replace e2 : (as.map V.ref)[i]? = some z2 := e2
    rw [List.getElem?_map, ea] at e2
    cases e2
    obtain ⟨o, eo, oa⟩ := Paired.get ho ea
    have s2 : Same H (upd H1 p (.tup [.int (i : Nat), .ref a])) := MF.Same.upd s1 hp
    have om : o ∈ os := List.mem_of_getElem? eo
    refine ⟨p, _, rfl, .inl (.inl upd_same), rfl, _, _, rfl, _, _, rfl, rfl, ?_⟩
    refine ⟨_, rfl, rfl, _, rfl, ?_⟩
    have hi30 : i < 30 := Nat.lt_of_lt_of_le (hl ▸ hi) g.len
    have ne30 : decide (V.int ((i : Nat) : Int) = V.int 30) = false := decide_eq_false fun q => by
      have := V.int.inj q
      omega
    rw [ne30]
    refine iteF ?_
    refine ⟨_, rfl, _, true, rfl, .inl ⟨a, _, rfl, oa.mono s2, isOrd_flat (g.ok o om), (g.ok o om).b.symm⟩, fun H3 s3 => ⟨_, rfl, iteF ?_⟩⟩
    have s13 := s2.trans s3
    have tt : SqT K H3 t (as.map V.ref) := MF.Same.tup s13 ht
    refine ⟨_, rfl, _, rfl, _, rfl, t, _, rfl, tt, ?_, fun p2 hp2 => ?_⟩
    · rw [HT.sIx_nat, List.length_map]
      omega
    rw [cut_take _ _ (by rw [List.length_map]; omega)]
    refine ⟨p2, rfl, ⟨_, .inl (.inl upd_same)⟩, for_it (walk_tup (xs := (as.map V.ref).take i)) (fun j σ H' => Same H H' ∧ SqT K H' p2 ((as.map V.ref).take i) ∧ ∃ v4, σ = [some (.ref x), some (.ref t), some (.int (i : Nat)), some (.ref a), v4]) ⟨MF.Same.upd s13 hp2, .inl (.inl upd_same), _, rfl⟩ (fun j σ H' _ ⟨_, q, _⟩ => q) ?_ ?_⟩
    · rintro j y σ H4 H5 hj ⟨s4, q4, v4', rfl⟩ ⟨rfl, ey⟩
      rw [List.length_take, List.length_map] at hj
      have hji : j < i := by omega
      obtain ⟨b, eb⟩ : ∃ b, as[j]? = some b := ⟨as[j]'(by omega), by simp [show j < as.length by omega]⟩
      rw [List.getElem?_take, if_pos hji, List.getElem?_map, eb] at ey
      cases ey
      obtain ⟨o', eo', ob⟩ := Paired.get ho eb
      refine ⟨_, rfl, _, rfl, b, a, o', o, rfl, ob.mono s4, oa.mono s4, ⟨_, rfl, ?_⟩⟩
      have hov : overB o' o = false := by
        have hj' : j < os.length := by omega
        have hi' : i < os.length := by omega
        have := List.pairwise_iff_getElem.mp g.apart j i hj' hi' hji
        rw [List.getElem?_eq_getElem hj'] at eo'
        rw [List.getElem?_eq_getElem hi'] at eo
        cases eo'
        cases eo
        exact this
      rw [hov]
      exact iteF ⟨s4, q4, _, rfl⟩
    · rintro σ H4 ⟨s4, _, v4', rfl⟩
      exact ⟨s4, _, _, _, rfl⟩
  · rintro σ H1 ⟨s1, v2, v3, v4, rfl⟩
    refine ⟨_, rfl, _, rfl, x, C_Book, dx, [], rfl, s1 _ _ hx, T.cl_Book, T.n_Book_listed, (by show 0 < 1000; decide), ?_⟩
    refine k _ upd_same fun b o e hb => ?_
    rw [upd_ne hb]
    exact s1 b o e
theorem book_made' {C : Addr} {H : Hp} {as : List Addr} {os : List Ordr} {R : VK} {E : XK} (h : OrdsAt K H as os) (g : Good os) {x dx : Addr} (hx : H x = none) (hdx : H dx = none) (ne : dx ≠ x) (k : ∀ H', Same H H' → BookAt K C H' x os → R .non H') :
    spBookInit K C (.ref x :: as.map V.ref) (upd (upd H dx (.own x)) x (.ins C dx [])) R E := by
  have hl : as.length = os.length := PySem.Paired.length h
  have s0 : Same H (upd (upd H dx (.own x)) x (.ins C dx [])) := fun b o e => by
    rw [upd_ne (ne_of_none e hx), upd_ne (ne_of_none e hdx)]
    exact e
  refine ⟨_, _, rfl, ?_, fun p hp => ?_⟩
  · rw [List.length_map, hl]
    exact Nat.le_trans g.len (by decide)
  have s1 := s0.trans (Same.new (o := .tup (as.map V.ref)) hp)
  have nxp : x ≠ p := fun q => by
    subst q
    rw [upd_same] at hp
    cases hp
  refine ⟨x, dx, p, as, os, rfl, by rw [upd_ne nxp, upd_same], .inl (.inl upd_same), h.mono s1, g, fun H' hx' kp => ?_⟩
  have s2 : Same H H' := fun b o e => kp b o (s1 b o e) (ne_of_none e hx)
  refine k H' s2 ⟨dx, p, as, hx', .inl (.inl (kp p _ upd_same nxp.symm)), h.mono s2⟩
theorem book_made {C : Addr} {H : Hp} {as : List Addr} {os : List Ordr} {Q : VK} {E : XK} (h : OrdsAt K H as os) (g : Good os) (k : ∀ H' p, Same H H' → H p = none → BookAt K C H' p os → Q (.ref p) H') :
    ∀ x dx, H x = none → H dx = none → dx ≠ x → spBookInit K C (.ref x :: as.map V.ref) (upd (upd H dx (.own x)) x (.ins C dx [])) (fun v H2 => v = .non ∧ Q (.ref x) H2) E := by
  intro x dx hx hdx ne
  exact book_made' h g hx hdx ne fun H' s b => ⟨rfl, k H' x s hx b⟩
def spBookOf (K : PySem.W.Frag) (C : Addr) : Sp := fun vs H Q _ => ∃ t as os, vs = [.ref t] ∧ (SqT K H t (as.map V.ref) ∨ SqL K H t (as.map V.ref)) ∧ OrdsAt K H as os ∧ Good os ∧ ∀ H' p, Same H H' → H p = none → BookAt K C H' p os → Q (.ref p) H'
theorem ok_book_of (T : Top K mg C_Book C_Letter C_MailError C_InvalidOperation C_InvalidOrder C_UnknownOrder C_NotHolding C_DecodeError C_NotationError C_UnknownLetter C_InvalidAddress C_InvalidDay C_InvalidNumber C_Contradiction C_InvalidCount) : GFn P w K mg base CX0 5 "book_of" (spBookOf K C_Book) := by
  have G_Book : IFn P w K mg base CX0 3 C_Book "Book" (spBookInit K C_Book) := ok_Book T
  refine T.d_book_of.fn fun f fd F => F.ok sc_book_of (fun vs H Q E h => ?_) (fun cdv A outer s H vs Q E hr h => ?_)
  · obtain ⟨t, as, os, rfl, _⟩ := h
    rfl
  · obtain ⟨t, as, os, rfl, ht, ho, g, k⟩ := h
    refine ⟨_, (pss_one (ps_ret (pe_mkS G_Book (hr.mono (by decide)) pass0 (pv 0)))), ?_⟩
    refine ⟨_, rfl, t, _, rfl, ht, ?_⟩
    show ∀ x dx, H x = none → H dx = none → dx ≠ x → spBookInit K C_Book (.ref x :: (as.map V.ref ++ [])) _ _ _
    rw [List.append_nil]
    exact book_made ho g k
def spBookAdd (K : PySem.W.Frag) (C : Addr) : Sp := fun vs H Q _ => ∃ a b os ps, vs = [.ref a, .ref b] ∧ BookAt K C H a os ∧ BookAt K C H b ps ∧ Good (os ++ ps) ∧ ∀ H' p, Same H H' → H p = none → BookAt K C H' p (os ++ ps) → Q (.ref p) H'
theorem ok_Book_add (T : Top K mg C_Book C_Letter C_MailError C_InvalidOperation C_InvalidOrder C_UnknownOrder C_NotHolding C_DecodeError C_NotationError C_UnknownLetter C_InvalidAddress C_InvalidDay C_InvalidNumber C_Contradiction C_InvalidCount) : MFn P w K mg base CX0 6 C_Book "__add__" (spBookAdd K C_Book) := by
  have G_book_of : GFn P w K mg base CX0 5 "book_of" (spBookOf K C_Book) := ok_book_of T
  refine T.d_BookX_addX.fn fun f fd F => F.ok sc_BookX_addX (fun vs H Q E h => ?_) (fun cdv A outer s H vs Q E hr h => ?_)
  · obtain ⟨a, b, os, ps, rfl, _⟩ := h
    rfl
  · obtain ⟨a, b, os, ps, rfl, ⟨dx, t, as, h1, h2, h3⟩, ⟨dy, u, bs, h4, h5, h6⟩, g, k⟩ := h
    refine ⟨_, (pss_one (ps_ret (pe_g G_book_of (hr.mono (by decide)) (pa_cons (pe_op op_catA (pe_fld (pv 0) rfl) (pe_fld (pv 1) rfl)) pa_nil)))), ?_⟩
    have la : as.length = os.length := PySem.Paired.length h3
    have lb : bs.length = ps.length := PySem.Paired.length h6
    refine ⟨_, rfl, a, C_Book, dx, _, _, rfl, h1, T.cl_Book, T.n_Book_listed, rfl, _, rfl, b, C_Book, dy, _, _, rfl, h4, T.cl_Book, T.n_Book_listed, rfl, t, u, _, _, rfl, rfl, h2, h5, ?_, fun e => ?_, fun _ e => ?_, fun _ _ p hp => ?_⟩
    · rw [List.length_map, List.length_map, la, lb, ← List.length_append]
      exact Nat.le_trans g.len (by decide)
    · have : os = [] := List.eq_nil_of_length_eq_zero (by rw [← la]; simpa using e)
      subst this
      exact ⟨u, bs, ps, rfl, .inl h5, h6, g, k⟩
    · have : ps = [] := List.eq_nil_of_length_eq_zero (by rw [← lb]; simpa using e)
      subst this
      rw [List.append_nil] at g k
      exact ⟨t, as, os, rfl, .inl h2, h3, g, k⟩
    · have s1 := Same.new (o := .tup (as.map V.ref ++ bs.map V.ref)) hp
      refine ⟨p, as ++ bs, os ++ ps, rfl, .inl ?_, Paired.append (OrdsAt.mono h3 s1) (OrdsAt.mono h6 s1), g, fun H' q e1 e2 e3 => k H' q (s1.trans e1) (s1.free e2) e3⟩
      rw [List.map_append]
      exact .inl (.inl upd_same)
end

end MF
set_option Elab.async false
set_option linter.all false
set_option maxRecDepth 100000
set_option maxHeartbeats 2000000
set_option pp.maxSteps 600
namespace MF
open PySem PySem.Spec PyProof.Rows L2 StX
section
variable {P : Program} {w : World} {K : PySem.W.Frag} {mg : Str → Option Value} {base : Heap} {C_Book C_Letter C_MailError C_InvalidOperation C_InvalidOrder C_UnknownOrder C_NotHolding C_DecodeError C_NotationError C_UnknownLetter C_InvalidAddress C_InvalidDay C_InvalidNumber C_Contradiction C_InvalidCount : Addr}
def optI : Option Nat → V
  | none => .non
  | some i => .int (i : Nat)
def optZ : Option Int → V
  | none => .non
  | some i => .int i
def spOrderFor (K : PySem.W.Frag) (C : Addr) : Sp := fun vs H Q _ => ∃ p os z d, vs = [.ref p, .str z, .int d] ∧ BookAt K C H p os ∧ ∀ H', Same H H' → Q (optI (ordFor os z d)) H'
theorem ok_order_for (T : Top K mg C_Book C_Letter C_MailError C_InvalidOperation C_InvalidOrder C_UnknownOrder C_NotHolding C_DecodeError C_NotationError C_UnknownLetter C_InvalidAddress C_InvalidDay C_InvalidNumber C_Contradiction C_InvalidCount) : MFn P w K mg base CX0 1 C_Book "order_for" (spOrderFor K C_Book) := by
  refine T.d_Book_order_for.fn fun f fd F => F.ok sc_Book_order_for (fun vs H Q E h => ?_) (fun cdv A outer s H vs Q E hr h => ?_)
  · obtain ⟨p, os, z, d, rfl, _⟩ := h
    rfl
  · obtain ⟨p, os, z, d, rfl, ⟨dx, t, as, h1, h2, h3⟩, k⟩ := h
    refine ⟨_, (pss_cons (ps_for PassesOwn.never rfl (pi_enumT (by rfl) T.b_enumerate (pa_cons (pe_fld (pv 0) rfl) pa_nil)) (pg_tup rfl (pgs_cons (pg_name (i := 3) sc_Book_order_for.nd rfl (Or.inl rfl)) (pgs_cons (pg_tup rfl (pgs_cons (pg_name (i := 4) sc_Book_order_for.nd rfl (Or.inl rfl)) (pgs_cons (pg_name (i := 5) sc_Book_order_for.nd rfl (Or.inl rfl)) (pgs_cons (pg_name (i := 6) sc_Book_order_for.nd rfl (Or.inl rfl)) (pgs_cons (pg_name (i := 7) sc_Book_order_for.nd rfl (Or.inl rfl)) (pgs_cons (pg_name (i := 8) sc_Book_order_for.nd rfl (Or.inl rfl)) pgs_nil)))))) pgs_nil)))
  (pss_one (ps_if (PW.pt (pw_and (pt_cmpR op_eq (pv 4) (pv 1) (nomark _)) (pw_and1 (pt_chain op_le op_le (pv 6) (pv 2) (pv 7)))))
  (pss_one (ps_ret (pv 3)))
  pss_nil)))
  (pss_one (ps_ret pe_non))), ?_⟩
    have hl : as.length = os.length := PySem.Paired.length h3
    refine ⟨_, rfl, p, C_Book, dx, _, _, rfl, h1, T.cl_Book, T.n_Book_listed, rfl, t, _, rfl, h2, for_it walk_enumT (fun i σ H' => Same H H' ∧ (∃ v3 v4 v5 v6 v7 v8, σ = [some (.ref p), some (.str z), some (.int d), v3, v4, v5, v6, v7, v8]) ∧ ∀ (j : Nat) q, j < i → os[j]? = some q → holds q z d = false)
      ⟨Same.refl H, ⟨_, _, _, _, _, _, rfl⟩, fun j q hj => absurd hj (Nat.not_lt_zero _)⟩ (fun i σ H' _ ⟨s1, _⟩ => MF.Same.tup s1 h2) ?_ ?_⟩
    · rintro i y σ H1 H2 hi ⟨s1, ⟨v3, v4, v5, v6, v7, v8, rfl⟩, hn⟩ ⟨q, z1, z2, rfl, hq, rfl, e1, e2⟩
      cases e1
      rw [List.length_map] at hi
      obtain ⟨a, ea⟩ : ∃ a, as[i]? = some a := ⟨as[i], by simp [hi]⟩
      replace e2 : (as.map V.ref)[i]? = some z2 := e2
      rw [List.getElem?_map, ea] at e2
      cases e2
      obtain ⟨o, eo, oa⟩ := Paired.get h3 ea
      have s2 : Same H (upd H1 q (.tup [.int (i : Nat), .ref a])) := MF.Same.upd s1 hq
      refine ⟨q, _, rfl, .inl (.inl upd_same), rfl, _, _, rfl, _, _, rfl, a, o.vals, rfl, oa.mono s2, rfl, _, _, rfl, _, _, rfl, _, _, rfl, _, _, rfl, _, _, rfl, rfl, rfl, ?_⟩
      refine ⟨_, rfl, _, rfl, rfl, _, rfl, ?_⟩
      have fin : holds o z d = false → (Same H (upd H1 q (.tup [.int (i : Nat), .ref a])) ∧ (∃ v3 v4 v5 v6 v7 v8, ([some (.ref p), some (.str z), some (.int d), some (.int (i : Nat)), some (.str o.src), some (.str o.tgt), some (.int o.first), some (.int o.last), some (.int o.way)] : L2.St) = [some (.ref p), some (.str z), some (.int d), v3, v4, v5, v6, v7, v8]) ∧ ∀ (j : Nat) q, j < i + 1 → os[j]? = some q → holds q z d = false) := fun hh =>
        ⟨s2, ⟨_, _, _, _, _, _, rfl⟩, fun j q hj ej => by
          by_cases hji : j < i
          · exact hn j q hji ej
          · have : j = i := by omega
            subst this
            rw [eo] at ej
            cases ej
            exact hh⟩
      refine ite2 (fun c1 => ?_) (fun c1 => ?_)
      · have c1' : o.src = z := V.str.inj (of_decide_eq_true c1)
        refine ⟨_, rfl, _, rfl, _, _, rfl, rfl, _, rfl, ?_⟩
        refine ite2 (fun c2 => ?_) (fun c2 => ?_)
        · have c2' : o.first ≤ d := of_decide_eq_true c2
          refine ⟨_, rfl, _, _, rfl, rfl, _, rfl, ?_⟩
          refine ite2 (fun c3 => ?_) (fun c3 => ?_)
          · have c3' : d ≤ o.last := of_decide_eq_true c3
            refine ⟨_, rfl, ?_⟩
            have e : ordFor os z d = some i := ordFor_is hn eo (by simp [holds, c1', c2', c3'])
            have := k _ s2
            rw [e] at this
            exact this
          · have c3' : ¬ d ≤ o.last := fun q => c3 (decide_eq_true q)
            exact fin (by simp [holds, c3'])
        · have c2' : ¬ o.first ≤ d := fun q => c2 (decide_eq_true q)
          refine ⟨_, rfl, ?_⟩
          exact iteF (fin (by simp [holds, c2']))
      · have c1' : ¬ o.src = z := fun q => c1 (decide_eq_true (congrArg V.str q))
        exact iteF (fin (by simp [holds, c1']))
    · rintro σ H1 ⟨s1, ⟨v3, v4, v5, v6, v7, v8, rfl⟩, hn⟩
      have e : ordFor os z d = none := ordFor_none fun q hq => by
        obtain ⟨j, hj, ej⟩ := List.getElem_of_mem hq
        exact hn j q (by rw [List.length_map, hl]; exact hj) (by rw [List.getElem?_eq_getElem hj, ej])
      have := k _ s1
      rw [e] at this
      exact this
end

end MF
set_option Elab.async false
set_option linter.all false
set_option maxRecDepth 100000
set_option maxHeartbeats 2000000
set_option pp.maxSteps 600
namespace MF
open PySem PySem.Spec PyProof.Rows L2 StX
section
variable {P : Program} {w : World} {K : PySem.W.Frag} {mg : Str → Option Value} {base : Heap} {C_Book C_Letter C_MailError C_InvalidOperation C_InvalidOrder C_UnknownOrder C_NotHolding C_DecodeError C_NotationError C_UnknownLetter C_InvalidAddress C_InvalidDay C_InvalidNumber C_Contradiction C_InvalidCount : Addr}
theorem changes_append (d : Int) : ∀ a b : List Ordr, changes (a ++ b) d = changes a d ++ changes b d
  | [], b => rfl
  | o :: a, b => by
    show ([o.first, o.last + 1].filter fun c => decide (d < c)) ++ changes (a ++ b) d = (([o.first, o.last + 1].filter fun c => decide (d < c)) ++ changes a d) ++ changes b d
    rw [changes_append d a b, List.append_assoc]
theorem changes_len (d : Int) : ∀ a : List Ordr, (changes a d).length ≤ 2 * a.length
  | [] => Nat.zero_le _
  | o :: a => by
    unfold changes
    have h1 := List.length_filter_le (fun c => decide (d < c)) [o.first, o.last + 1]
    have h2 := changes_len d a
    rw [List.length_append, List.length_cons]
    simp only [List.length_cons, List.length_nil] at h1
    omega
theorem DpAll.ints {H : Hp} : ∀ ns : List Int, DpAll K H (ns.map V.int) (ns.map PyData.int)
  | [] => .nil
  | n :: ns => .cons (.int n) (DpAll.ints ns)
def spNextChange (K : PySem.W.Frag) (C : Addr) : Sp := fun vs H Q _ => ∃ p os d, vs = [.ref p, .int d] ∧ BookAt K C H p os ∧ os.length ≤ 30 ∧ ∀ H', Same H H' → Q (optZ (nextCh os d)) H'
theorem ok_next_change (T : Top K mg C_Book C_Letter C_MailError C_InvalidOperation C_InvalidOrder C_UnknownOrder C_NotHolding C_DecodeError C_NotationError C_UnknownLetter C_InvalidAddress C_InvalidDay C_InvalidNumber C_Contradiction C_InvalidCount) : MFn P w K mg base CX0 1 C_Book "next_change" (spNextChange K C_Book) := by
  refine T.d_Book_next_change.fn fun f fd F => F.ok sc_Book_next_change (fun vs H Q E h => ?_) (fun cdv A outer s H vs Q E hr h => ?_)
  · obtain ⟨p, os, d, rfl, _⟩ := h
    rfl
  · obtain ⟨p, os, d, rfl, ⟨dx, t, as, h1, h2, h3⟩, h30, k⟩ := h
    refine ⟨_, (pss_cons (ps_set (i := 2) sc_Book_next_change.nd rfl (Or.inl rfl) (pe_lst pa_nil))
  (pss_cons (ps_for PassesOwn.never rfl (pi_tup (pe_fld (pv 0) rfl)) (pg_tup rfl (pgs_cons (pg_name (i := 3) sc_Book_next_change.nd rfl (Or.inl rfl)) (pgs_cons (pg_name (i := 4) sc_Book_next_change.nd rfl (Or.inl rfl)) (pgs_cons (pg_name (i := 5) sc_Book_next_change.nd rfl (Or.inl rfl)) (pgs_cons (pg_name (i := 6) sc_Book_next_change.nd rfl (Or.inl rfl)) (pgs_cons (pg_name (i := 7) sc_Book_next_change.nd rfl (Or.inl rfl)) pgs_nil))))))
  (pss_one (ps_expr (pe_bm PySem.F.plainAttrs_list PySem.F.slot_list_extend PySem.F.type_list_extend mt_extend (pv 2) (pa_cons (pe_lc (own := [("change", 8)]) (g := (gName 8)) (by rfl) sc_Book_next_change.nd (pi_tup (pe_tup (pa_cons (pv 5) (pa_cons (pe_op op_add (pv 6) pe_int) pa_nil)))) (blkOk_by (own := [("change", 8)]) (N := ["self", "day", "found", "source", "target", "first", "last", "way", "change"]) (sc := defScope s_Book_next_change) (by decide +kernel)) (fun _ _ _ _ _ => (pg_name (i := 8) sc_Book_next_change.nd rfl (Or.inl rfl))) (fun _ _ _ _ _ => (pts_one (pt_cmpR op_gt (pv 8) (pv 1) (nomark _)))) (fun _ _ _ _ _ => (pv 8))) pa_nil)))))
  (pss_one (ps_ret (pe_ifExp (pt_cmpR (op_neD hr.units) (pv 2) (pe_lst pa_nil) (nomark _)) (pe_callB (cr_min rfl) (by rfl) T.b_min (by decide +kernel) (pa_cons (pv 2) pa_nil)) pe_non))))), ?_⟩
    have hl : as.length = os.length := PySem.Paired.length h3
    refine ⟨Nat.zero_le _, fun l hl0 => ?_⟩
    have s0 : Same H (upd H l (.lst [])) := Same.new hl0
    refine ⟨_, rfl, p, C_Book, dx, _, _, rfl, s0 _ _ h1, T.cl_Book, T.n_Book_listed, rfl, t, rfl, ⟨_, MF.Same.tup s0 h2⟩, for_it (walk_tup (xs := as.map V.ref)) (fun i σ H' => Same H H' ∧ H' l = some (.lst ((changes (os.take i) d).map V.int)) ∧ ∃ v3 v4 v5 v6 v7 v8, σ = [some (.ref p), some (.int d), some (.ref l), v3, v4, v5, v6, v7, v8])
      ⟨s0, upd_same, _, _, _, _, _, _, rfl⟩ (fun i σ H' _ ⟨s1, _⟩ => MF.Same.tup s1 h2) ?_ ?_⟩
    · rintro i y σ H1 H2 hi ⟨s1, el, v3, v4, v5, v6, v7, v8, rfl⟩ ⟨rfl, ey⟩
      rw [List.length_map] at hi
      obtain ⟨a, ea⟩ : ∃ a, as[i]? = some a := ⟨as[i], by simp [hi]⟩
      rw [List.getElem?_map, ea] at ey
      cases ey
      obtain ⟨o, eo, oa⟩ := Paired.get h3 ea
      have hio : i < os.length := hl ▸ hi
      refine ⟨a, o.vals, rfl, oa.mono s1, rfl, _, _, rfl, _, _, rfl, _, _, rfl, _, _, rfl, _, _, rfl, rfl, ?_⟩
      refine ⟨_, rfl, .inl ⟨rfl, _, SqL.of el⟩, ?_⟩
      refine ⟨_, rfl, _, rfl, _, _, rfl, rfl, (by show 2 ≤ sizeLine; decide), fun q hq => ?_⟩
      have s2 : Same H (upd H2 q (.tup [.int o.first, .int (o.last + 1)])) := MF.Same.upd s1 hq
      have nlq : l ≠ q := ne_of_none el hq
      have el2 : upd H2 q (.tup [.int o.first, .int (o.last + 1)]) l = some (.lst ((changes (os.take i) d).map V.int)) := by rw [upd_ne nlq]; exact el
      refine ⟨q, rfl, ⟨_, .inl (.inl upd_same)⟩, fun D hD => ?_⟩
      have nlD : l ≠ D := ne_of_none el2 hD
      have nqD : q ≠ D := ne_of_none (o := .tup [.int o.first, .int (o.last + 1)]) upd_same hD
      refine lc_it (walk_tup (xs := [V.int o.first, V.int (o.last + 1)])) (fun j H' => Same H H' ∧ H' l = some (.lst ((changes (os.take i) d).map V.int)) ∧ H' q = some (.tup [.int o.first, .int (o.last + 1)]) ∧ H' D = some (.lst ((([o.first, o.last + 1].take j).filter fun c => decide (d < c)).map V.int)))
        ⟨MF.Same.upd s2 hD, by rw [upd_ne nlD]; exact el2, by rw [upd_ne nqD, upd_same], by rw [upd_same]; rfl⟩ (fun j H' _ ⟨_, _, e, _⟩ => .inl (.inl e)) ?_ ?_
      · rintro j y H3 H4 hj ⟨s3, l3, q3, d3⟩ ⟨rfl, ey⟩
        have hj2 : j < 2 := hj
        obtain ⟨c, rfl, ec⟩ : ∃ c, y = V.int c ∧ [o.first, o.last + 1][j]? = some c := by
          have : j = 0 ∨ j = 1 := by omega
          rcases this with rfl | rfl
          · cases ey; exact ⟨_, rfl, rfl⟩
          · cases ey; exact ⟨_, rfl, rfl⟩
        have et : [o.first, o.last + 1].take (j + 1) = [o.first, o.last + 1].take j ++ [c] := by
          rw [List.take_add_one, ec]
          rfl
        refine ⟨rfl, ?_⟩
        refine ⟨_, rfl, _, rfl, _, _, rfl, rfl, _, rfl, ?_⟩
        refine ite2 (fun c1 => ?_) (fun c1 => ?_)
        · have c1' : d < c := of_decide_eq_true c1
          refine ⟨_, rfl, _, d3, ?_, ?_, ?_, ?_, ?_⟩
          · rw [List.length_map]
            exact Nat.lt_of_le_of_lt (List.length_filter_le _ _) (Nat.lt_of_le_of_lt (List.length_take_le _ _) (Nat.lt_of_lt_of_le hj2 (by decide)))
          · intro b u e
            have nb : b ≠ D := ne_of_none (s2 b u e) hD
            rw [upd_ne nb]
            exact s3 b u e
          · rw [upd_ne nlD]; exact l3
          · rw [upd_ne nqD]; exact q3
          · rw [upd_same, et, List.filter_append, List.map_append]
            simp [c1']
        · have c1' : ¬ d < c := fun z => c1 (decide_eq_true z)
          refine ⟨s3, l3, q3, ?_⟩
          rw [d3, et, List.filter_append, List.map_append]
          simp [c1']
      · rintro H3 ⟨s3, l3, q3, d3⟩
        have e2 : [o.first, o.last + 1].take 2 = [o.first, o.last + 1] := rfl
        have et : os.take (i + 1) = os.take i ++ [o] := by
          rw [List.take_add_one, eo]
          rfl
        have ec : changes (os.take (i + 1)) d = changes (os.take i) d ++ ([o.first, o.last + 1].filter fun c => decide (d < c)) := by
          rw [et, changes_append]
          show _ ++ changes [o] d = _
          unfold changes
          simp [changes]
        refine ⟨l, D, _, _, rfl, rfl, l3, d3, ?_, ?_, ?_, _, _, _, _, _, _, rfl⟩
        · have := changes_len d (os.take i)
          have h4 : (([o.first, o.last + 1].take [V.int o.first, V.int (o.last + 1)].length).filter fun c => decide (d < c)).length ≤ 2 := List.length_filter_le _ _
          rw [List.length_map, List.length_map]
          rw [List.length_take] at this
          have h5 : 62 ≤ sizeLine := by decide
          omega
        · intro b u e
          have nb : b ≠ l := ne_of_none e hl0
          rw [upd_ne nb]
          exact s3 b u e
        · rw [upd_same, ec, List.map_append]
          rfl
    · rintro σ H1 ⟨s1, el, v3, v4, v5, v6, v7, v8, rfl⟩
      rw [List.length_map, hl, List.take_length] at el
      refine ⟨_, rfl, Nat.zero_le _, fun r hr0 => ?_⟩
      have s2 := MF.Same.upd (o := .lst []) s1 hr0
      have nlr : l ≠ r := ne_of_none el hr0
      have el2 : upd H1 r (.lst []) l = some (.lst ((changes os d).map V.int)) := by rw [upd_ne nlr]; exact el
      refine ⟨.list ((changes os d).map PyData.int), .list [], .lst (SqL.of el2) (DpAll.ints _), .lst (SqL.of upd_same) .nil, PySem.W.ke_shaped_ints _, rfl, _, rfl, ?_⟩
      cases ec : changes os d with
      | nil =>
        refine iteF ?_
        have e : nextCh os d = none := by unfold nextCh; rw [ec]; rfl
        have := k _ s2
        rw [e] at this
        exact this
      | cons c cs =>
        refine iteT ?_
        rw [ec] at el2
        refine ⟨_, rfl, l, _, rfl, SqL.of el2, Nat.succ_pos _, fun m hm hle => ?_⟩
        have e : nextCh os d = some m := by
          unfold nextCh
          rw [ec]
          exact leastOf_some.mpr ⟨hm, hle⟩
        have := k _ s2
        rw [e] at this
        exact this
def tupl : HO → Bool
  | .tup _ => true
  | .frz _ (.tup _) => true
  | _ => false
theorem BookAt.kept {C : Addr} {H H' : Hp} {p : Addr} {os : List Ordr} (h : BookAt K C H p os) (hp : ∀ u, H p = some u → H' p = some u) (ht : ∀ b u, H b = some u → tupl u = true → H' b = some u) : BookAt K C H' p os := by
  obtain ⟨dx, t, as, h1, h2, h3⟩ := h
  have tp : ∀ a xs, SqT K H a xs → SqT K H' a xs := fun a xs z => by
    rcases z with (z | ⟨u, z⟩) | z
    · exact .inl (.inl (ht _ _ z rfl))
    · exact .inl (.inr ⟨u, ht _ _ z rfl⟩)
    · exact .inr z
  exact ⟨dx, t, as, hp _ h1, tp _ _ h2, PySem.Paired.mono (fun a o z => tp a _ z) h3⟩
end

end MF
set_option Elab.async false
set_option linter.all false
set_option maxRecDepth 100000
set_option maxHeartbeats 2000000
set_option pp.maxSteps 600
namespace MF
open PySem PySem.Spec PyProof.Rows L2 StX
section
variable {P : Program} {w : World} {K : PySem.W.Frag} {mg : Str → Option Value} {base : Heap} {C_Book C_Letter C_MailError C_InvalidOperation C_InvalidOrder C_UnknownOrder C_NotHolding C_DecodeError C_NotationError C_UnknownLetter C_InvalidAddress C_InvalidDay C_InvalidNumber C_Contradiction C_InvalidCount : Addr}
def lf (bk : Addr) (x : Str) (d n : Int) (kn : Addr) (e : Bool) (c : V) : List (Str × V) := [("book", .ref bk), ("address", .str x), ("day", .int d), ("count", .int n), ("known", .ref kn), ("is_endless", .bl e), ("change", c)]
def LetterAt (C : Addr) (H : Hp) (p kn : Addr) (kvs : List (Key × V)) (bk : Addr) (x : Str) (d n : Int) (e : Bool) (c : Option Int) : Prop := (∃ dx, H p = some (.ins C dx (lf bk x d n kn e (optZ c)))) ∧ H kn = some (.dK kvs)
theorem LetterAt.ne {C : Addr} {H : Hp} {p kn : Addr} {kvs : List (Key × V)} {bk : Addr} {x : Str} {d n : Int} {e : Bool} {c : Option Int} (h : LetterAt C H p kn kvs bk x d n e c) : p ≠ kn := by
  obtain ⟨⟨dx, h1⟩, h2⟩ := h
  exact ne_of h1 h2 (by intro z; cases z)
theorem LetterAt.keep {C : Addr} {H H' : Hp} {p kn : Addr} {kvs : List (Key × V)} {bk : Addr} {x : Str} {d n : Int} {e : Bool} {c : Option Int} (h : LetterAt C H p kn kvs bk x d n e c) (k1 : ∀ o, H p = some o → H' p = some o) (k2 : ∀ o, H kn = some o → H' kn = some o) : LetterAt C H' p kn kvs bk x d n e c := by
  obtain ⟨⟨dx, h1⟩, h2⟩ := h
  exact ⟨⟨dx, k1 _ h1⟩, k2 _ h2⟩
theorem BookAt.keep {C : Addr} {H H' : Hp} {p q : Addr} {os : List Ordr} (h : BookAt K C H p os) (hq : ∃ o, H q = some o ∧ (∀ xs, o ≠ .tup xs) ∧ (∀ u xs, o ≠ .frz u (.tup xs))) (ne : p ≠ q) (k : ∀ b u, H b = some u → b ≠ q → H' b = some u) : BookAt K C H' p os := by
  obtain ⟨dx, t, as, h1, h2, h3⟩ := h
  obtain ⟨oq, eq, n1, n2⟩ := hq
  have tp : ∀ a xs, SqT K H a xs → SqT K H' a xs := fun a xs z => by
    rcases z with (z | ⟨u, z⟩) | z
    · refine .inl (.inl (k _ _ z fun w => ?_))
      rw [w, eq] at z
      exact n1 _ (Option.some.inj z)
    · refine .inl (.inr ⟨u, k _ _ z fun w => ?_⟩)
      rw [w, eq] at z
      exact n2 _ _ (Option.some.inj z)
    · exact .inr z
  exact ⟨dx, t, as, k _ _ h1 ne, tp _ _ h2, PySem.Paired.mono (fun a o z => tp a _ z) h3⟩
def spLetterInit (K : PySem.W.Frag) (CB CL : Addr) : Sp := fun vs H Q _ => ∃ p dx bk os x d, vs = [.ref p, .ref bk, .str x, .int d] ∧ H p = some (.ins CL dx []) ∧ BookAt K CB H bk os ∧ os.length ≤ 30 ∧ bk ≠ p ∧
  ∀ H' kn, H kn = none → LetterAt CL H' p kn [] bk x d 0 false (nextCh os d) → (∀ b u, H b = some u → b ≠ p → H' b = some u) → Q .non H'
def spLetterInitX (K : PySem.W.Frag) (CB CL : Addr) : Sp := fun vs H Q _ => ∃ p dx bk os x d, vs = [.ref p, .ref bk, .str x, .int d] ∧ H p = some (.ins CL dx []) ∧ BookAt K CB H bk os ∧ os.length ≤ 30 ∧ bk ≠ p ∧
  ∀ H' kn, H kn = none → LetterAt CL H' p kn [] bk x d 0 false (nextCh os d) → (∀ b u, H b = some u → b ≠ p → H' b = some u) → (∃ fs, H' p = some (.ins CL dx fs)) → Q .non H'
structure LCls (K : PySem.W.Frag) (C : Addr) : Prop where
  cl : Cls K C
  book : NoAttr K C "book"
  address : NoAttr K C "address"
  day : NoAttr K C "day"
  count : NoAttr K C "count"
  known : NoAttr K C "known"
  is_endless : NoAttr K C "is_endless"
  change : NoAttr K C "change"
theorem lcls (T : Top K mg C_Book C_Letter C_MailError C_InvalidOperation C_InvalidOrder C_UnknownOrder C_NotHolding C_DecodeError C_NotationError C_UnknownLetter C_InvalidAddress C_InvalidDay C_InvalidNumber C_Contradiction C_InvalidCount) : LCls K C_Letter := ⟨T.cl_Letter, T.n_Letter_book, T.n_Letter_address, T.n_Letter_day, T.n_Letter_count, T.n_Letter_known, T.n_Letter_is_endless, T.n_Letter_change⟩
theorem letter_initX (T : Top K mg C_Book C_Letter C_MailError C_InvalidOperation C_InvalidOrder C_UnknownOrder C_NotHolding C_DecodeError C_NotationError C_UnknownLetter C_InvalidAddress C_InvalidDay C_InvalidNumber C_Contradiction C_InvalidCount) {C : Addr} (L : LCls K C) {f : Addr} {fd : FuncData} (F : Fun K "__init__" "Letter.__init__" s_LetterX_initX f fd) : FnOk P w K mg base CX0 2 f fd ["self", "book", "address", "day"] (spLetterInitX K C_Book C) := by
  have M_Book_next_change : MFn P w K mg base CX0 1 C_Book "next_change" (spNextChange K C_Book) := ok_next_change T
  refine F.ok sc_LetterX_initX (fun vs H Q E h => ?_) (fun cdv A outer s H vs Q E hr h => ?_)
  · obtain ⟨p, dx, bk, os, x, d, rfl, _⟩ := h
    rfl
  · obtain ⟨p, dx, bk, os, x, d, rfl, hp, hb, h30, nbp, k⟩ := h
    refine ⟨_, (pss_cons (ps_fld (pv 0) (pv 1) rfl)
  (pss_cons (ps_fld (pv 0) (pv 2) rfl)
  (pss_cons (ps_fld (pv 0) (pv 3) rfl)
  (pss_cons (ps_fld (pv 0) pe_int rfl)
  (pss_cons (ps_fld (pv 0) pe_dnewK rfl)
  (pss_cons (ps_fld (pv 0) pe_bl rfl)
  (pss_one (ps_fld (pv 0) (pe_m M_Book_next_change T.cl_Book (hr.mono (by decide)) (pv 1) (pa_cons (pv 3) pa_nil)) rfl)))))))), ?_⟩
    have hpi : ∃ o, H p = some o ∧ (∀ xs, o ≠ HO.tup xs) ∧ (∀ u xs, o ≠ HO.frz u (.tup xs)) := ⟨_, hp, (fun _ z => by cases z), (fun _ _ z => by cases z)⟩
    refine ⟨_, rfl, _, rfl, p, C, dx, _, rfl, hp, L.cl, L.book, (by show 0 < 1000; decide), ?_⟩
    refine ⟨_, rfl, _, rfl, p, C, dx, _, rfl, upd_same, L.cl, L.address, (by show 1 < 1000; decide), ?_⟩
    rw [upd_upd]
    refine ⟨_, rfl, _, rfl, p, C, dx, _, rfl, upd_same, L.cl, L.day, (by show 2 < 1000; decide), ?_⟩
    rw [upd_upd]
    refine ⟨_, rfl, p, C, dx, _, rfl, upd_same, L.cl, L.count, (by show 3 < 1000; decide), ?_⟩
    rw [upd_upd]
    intro kn hkn
    have npk : p ≠ kn := fun z => by
      subst z
      rw [upd_same] at hkn
      cases hkn
    have hkn0 : H kn = none := by rw [upd_ne npk.symm] at hkn; exact hkn
    refine ⟨_, rfl, p, C, dx, _, rfl, (by rw [upd_ne npk, upd_same]), L.cl, L.known, (by show 4 < 1000; decide), ?_⟩
    refine ⟨_, rfl, p, C, dx, _, rfl, upd_same, L.cl, L.is_endless, (by show 5 < 1000; decide), ?_⟩
    rw [upd_upd]
    generalize eH : upd (upd (upd H p _) kn _) p _ = H1
    have kH : ∀ b u, H b = some u → b ≠ p → H1 b = some u := fun b u e nb => by
      rw [← eH, upd_ne nb, upd_ne (ne_of_none e hkn0), upd_ne nb]
      exact e
    have hb1 : BookAt K C_Book H1 bk os := hb.keep hpi nbp kH
    have hp1 : H1 p = some (.ins C dx [("book", .ref bk), ("address", .str x), ("day", .int d), ("count", .int 0), ("known", .ref kn), ("is_endless", .bl false)]) := by
      rw [← eH, upd_same]
      rfl
    have hk1 : H1 kn = some (.dK []) := by rw [← eH, upd_ne npk.symm, upd_same]
    obtain ⟨dy, t, as, b1, b2, b3⟩ := id hb1
    refine ⟨_, rfl, bk, dy, _, rfl, b1, rfl, _, rfl, bk, os, d, rfl, hb1, h30, fun H2 s2 => ?_⟩
    refine ⟨_, rfl, p, C, dx, _, rfl, s2 _ _ hp1, L.cl, L.change, (by show 6 < 1000; decide), ?_⟩
    refine k _ kn hkn0 ⟨⟨dx, upd_same⟩, by rw [upd_ne npk.symm]; exact s2 _ _ hk1⟩ (fun b u e nb => ?_) ⟨_, upd_same⟩
    rw [upd_ne nb]
    exact s2 _ _ (kH b u e nb)
theorem letter_init (T : Top K mg C_Book C_Letter C_MailError C_InvalidOperation C_InvalidOrder C_UnknownOrder C_NotHolding C_DecodeError C_NotationError C_UnknownLetter C_InvalidAddress C_InvalidDay C_InvalidNumber C_Contradiction C_InvalidCount) {C : Addr} (L : LCls K C) {f : Addr} {fd : FuncData} (F : Fun K "__init__" "Letter.__init__" s_LetterX_initX f fd) : FnOk P w K mg base CX0 2 f fd ["self", "book", "address", "day"] (spLetterInit K C_Book C) :=
  (letter_initX T L F).imp fun vs H Q E ⟨p, dx, bk, os, x, d, h1, h2, h3, h4, h5, k⟩ => ⟨p, dx, bk, os, x, d, h1, h2, h3, h4, h5, fun H' kn a b c _ => k H' kn a b c⟩
theorem ok_LetterX (T : Top K mg C_Book C_Letter C_MailError C_InvalidOperation C_InvalidOrder C_UnknownOrder C_NotHolding C_DecodeError C_NotationError C_UnknownLetter C_InvalidAddress C_InvalidDay C_InvalidNumber C_Contradiction C_InvalidCount) : IFn P w K mg base CX0 2 C_Letter "Letter" (spLetterInitX K C_Book C_Letter) := T.d_LetterX_initX.fn fun f fd F => letter_initX T (lcls T) F
theorem ok_Letter (T : Top K mg C_Book C_Letter C_MailError C_InvalidOperation C_InvalidOrder C_UnknownOrder C_NotHolding C_DecodeError C_NotationError C_UnknownLetter C_InvalidAddress C_InvalidDay C_InvalidNumber C_Contradiction C_InvalidCount) : IFn P w K mg base CX0 2 C_Letter "Letter" (spLetterInit K C_Book C_Letter) := T.d_LetterX_initX.fn fun f fd F => letter_init T (lcls T) F
def spOrderNowX (K : PySem.W.Frag) (CB CL : Addr) : Sp := fun vs H Q _ => ∃ p dx bk os x d n kn e c ext, vs = [.ref p] ∧ H p = some (.ins CL dx (lf bk x d n kn e c ++ ext)) ∧ BookAt K CB H bk os ∧ ∀ H', Same H H' → Q (optI (ordFor os x d)) H'
def spOrderNow (K : PySem.W.Frag) (CB CL : Addr) : Sp := fun vs H Q _ => ∃ p kn kvs bk os x d n e c, vs = [.ref p] ∧ LetterAt CL H p kn kvs bk x d n e c ∧ BookAt K CB H bk os ∧ ∀ H', Same H H' → Q (optI (ordFor os x d)) H'
theorem letter_order_now (T : Top K mg C_Book C_Letter C_MailError C_InvalidOperation C_InvalidOrder C_UnknownOrder C_NotHolding C_DecodeError C_NotationError C_UnknownLetter C_InvalidAddress C_InvalidDay C_InvalidNumber C_Contradiction C_InvalidCount) {C : Addr} (L : LCls K C) {f : Addr} {fd : FuncData} (F : Fun K "order_now" "Letter.order_now" s_Letter_order_now f fd) : FnOk P w K mg base CX0 2 f fd ["self"] (spOrderNowX K C_Book C) := by
  have M_Book_order_for : MFn P w K mg base CX0 1 C_Book "order_for" (spOrderFor K C_Book) := ok_order_for T
  refine F.ok sc_Letter_order_now (fun vs H Q E h => ?_) (fun cdv A outer s H vs Q E hr h => ?_)
  · obtain ⟨p, dx, bk, os, x, d, n, kn, e, c, ext, rfl, _⟩ := h
    rfl
  · obtain ⟨p, dx, bk, os, x, d, n, kn, e, c, ext, rfl, h1, hb, k⟩ := h
    refine ⟨_, (pss_one (ps_ret (pe_m M_Book_order_for T.cl_Book (hr.mono (by decide)) (pe_fld (pv 0) rfl) (pa_cons (pe_fld (pv 0) rfl) (pa_cons (pe_fld (pv 0) rfl) pa_nil))))), ?_⟩
    obtain ⟨dy, t, as, b1, b2, b3⟩ := id hb
    refine ⟨_, rfl, p, C, dx, _, _, rfl, h1, L.cl, L.book, rfl, bk, dy, _, rfl, b1, rfl, ?_⟩
    refine ⟨_, rfl, p, C, dx, _, _, rfl, h1, L.cl, L.address, rfl, _, rfl, p, C, dx, _, _, rfl, h1, L.cl, L.day, rfl, ?_⟩
    exact ⟨bk, os, x, d, rfl, hb, k⟩
theorem ok_order_now (T : Top K mg C_Book C_Letter C_MailError C_InvalidOperation C_InvalidOrder C_UnknownOrder C_NotHolding C_DecodeError C_NotationError C_UnknownLetter C_InvalidAddress C_InvalidDay C_InvalidNumber C_Contradiction C_InvalidCount) : MFn P w K mg base CX0 2 C_Letter "order_now" (spOrderNow K C_Book C_Letter) := T.d_Letter_order_now.fn fun f fd F =>
  (letter_order_now T (lcls T) F).imp fun vs H Q E ⟨p, kn, kvs, bk, os, x, d, n, e, c, h1, ⟨⟨dx, h2⟩, _⟩, hb, k⟩ => ⟨p, dx, bk, os, x, d, n, kn, e, optZ c, [], h1, h2, hb, k⟩
end

end MF
set_option Elab.async false
set_option linter.all false
set_option maxRecDepth 100000
set_option maxHeartbeats 2000000
set_option pp.maxSteps 600
namespace MF
open PySem PySem.Spec PyProof.Rows L2 StX
section
variable {P : Program} {w : World} {K : PySem.W.Frag} {mg : Str → Option Value} {base : Heap} {C_Book C_Letter C_MailError C_InvalidOperation C_InvalidOrder C_UnknownOrder C_NotHolding C_DecodeError C_NotationError C_UnknownLetter C_InvalidAddress C_InvalidDay C_InvalidNumber C_Contradiction C_InvalidCount : Addr}
def stepCh (os : List Ordr) (c : Option Int) (d : Int) : Option Int := match c with
  | none => none
  | some m => if m ≤ d then nextCh os d else some m
def resets (c : Option Int) (d : Int) : Bool := match c with
  | none => false
  | some m => decide (m ≤ d)
def spStep (K : PySem.W.Frag) (CB CL : Addr) : Sp := fun vs H Q _ => ∃ p kn kvs bk os x d n e c, vs = [.ref p] ∧ LetterAt CL H p kn kvs bk x d n e c ∧ BookAt K CB H bk os ∧ os.length ≤ 30 ∧ bk ≠ p ∧
  (ordFor os x d = none → ∀ H', Same H H' → Q (.bl false) H') ∧
  (∀ i o, ordFor os x d = some i → os[i]? = some o → ∀ H' kn', (resets c (d + o.way) = false → kn' = kn) → (resets c (d + o.way) = true → H kn' = none) →
    LetterAt CL H' p kn' (if resets c (d + o.way) = true then [] else kvs) bk o.tgt (d + o.way) (n + 1) e (stepCh os c (d + o.way)) → (∀ b u, H b = some u → b ≠ p → H' b = some u) → Q (.bl true) H')
def spStepX (K : PySem.W.Frag) (CB CL : Addr) : Sp := fun vs H Q _ => ∃ p kn kvs bk os x d n e c, vs = [.ref p] ∧ LetterAt CL H p kn kvs bk x d n e c ∧ BookAt K CB H bk os ∧ os.length ≤ 30 ∧ bk ≠ p ∧
  (ordFor os x d = none → ∀ H', Same H H' → Q (.bl false) H') ∧
  (∀ i o, ordFor os x d = some i → os[i]? = some o → ∀ H' kn', (resets c (d + o.way) = false → kn' = kn) → (resets c (d + o.way) = true → H kn' = none) →
    LetterAt CL H' p kn' (if resets c (d + o.way) = true then [] else kvs) bk o.tgt (d + o.way) (n + 1) e (stepCh os c (d + o.way)) → (∀ b u, H b = some u → b ≠ p → H' b = some u) → (∀ dx fs, H p = some (.ins CL dx fs) → ∃ fs', H' p = some (.ins CL dx fs')) → Q (.bl true) H')
theorem ok_stepX (T : Top K mg C_Book C_Letter C_MailError C_InvalidOperation C_InvalidOrder C_UnknownOrder C_NotHolding C_DecodeError C_NotationError C_UnknownLetter C_InvalidAddress C_InvalidDay C_InvalidNumber C_Contradiction C_InvalidCount) : MFn P w K mg base CX0 3 C_Letter "step" (spStepX K C_Book C_Letter) := by
  have M_Book_next_change : MFn P w K mg base CX0 1 C_Book "next_change" (spNextChange K C_Book) := ok_next_change T
  have M_Letter_order_now : MFn P w K mg base CX0 2 C_Letter "order_now" (spOrderNow K C_Book C_Letter) := ok_order_now T
  refine T.d_Letter_step.fn fun f fd F => F.ok sc_Letter_step (fun vs H Q E h => ?_) (fun cdv A outer s H vs Q E hr h => ?_)
  · obtain ⟨p, kn, kvs, bk, os, x, d, n, e, c, rfl, _⟩ := h
    rfl
  · obtain ⟨p, kn, kvs, bk, os, x, d, n, e, c, rfl, L, hb, h30, nbp, k0, k1⟩ := h
    refine ⟨_, (pss_cons (ps_set (i := 1) sc_Letter_step.nd rfl (Or.inl rfl) (pe_m0 M_Letter_order_now T.cl_Letter (hr.mono (by decide)) (pv 0)))
  (pss_cons (ps_if (pt_cmpR op_isN (pv 1) pe_non (nomark _))
  (pss_one (ps_ret pe_bl))
  pss_nil)
  (pss_cons (ps_asg (pe_ix ix_tup (pe_fld (pe_fld (pv 0) rfl) rfl) (pv 1) (fun _ _ => rfl)) (pg_tup rfl (pgs_cons (pg_name (i := 2) sc_Letter_step.nd rfl (Or.inl rfl)) (pgs_cons (pg_name (i := 3) sc_Letter_step.nd rfl (Or.inl rfl)) (pgs_cons (pg_name (i := 4) sc_Letter_step.nd rfl (Or.inl rfl)) (pgs_cons (pg_name (i := 5) sc_Letter_step.nd rfl (Or.inl rfl)) (pgs_cons (pg_name (i := 6) sc_Letter_step.nd rfl (Or.inl rfl)) pgs_nil)))))))
  (pss_cons (ps_fld (pv 0) (pv 3) rfl)
  (pss_cons (ps_fldaug (pv 0) (pv 6) in_add)
  (pss_cons (ps_fldaug (pv 0) pe_int in_add)
  (pss_cons (ps_if (PW.pt (pw_and (pt_cmpR op_notN (pe_fld (pv 0) rfl) pe_non (nomark _)) (pw_and1 (pt_cmpR op_ge (pe_fld (pv 0) rfl) (pe_fld (pv 0) rfl) (nomark _)))))
  (pss_cons (ps_fld (pv 0) pe_dnewK rfl)
  (pss_one (ps_fld (pv 0) (pe_m M_Book_next_change T.cl_Book (hr.mono (by decide)) (pe_fld (pv 0) rfl) (pa_cons (pe_fld (pv 0) rfl) pa_nil)) rfl)))
  pss_nil)
  (pss_one (ps_ret pe_bl))))))))), ?_⟩
    obtain ⟨⟨dx, h1⟩, h2⟩ := id L
    have npk := L.ne
    refine ⟨_, rfl, p, dx, _, rfl, h1, rfl, p, kn, kvs, bk, os, x, d, n, e, c, rfl, L, hb, fun H1 s1 => ?_⟩
    cases eo : ordFor os x d with
    | none =>
      refine ⟨_, rfl, rfl, _, rfl, ?_⟩
      exact iteD rfl (k0 eo H1 s1)
    | some i =>
      obtain ⟨o, ei, _⟩ := ordFor_some eo
      refine ⟨_, rfl, rfl, _, rfl, ?_⟩
      refine iteDN (by intro z; cases z) ?_
      have hb1 := hb.mono s1
      obtain ⟨dy, t, as, b1, b2, b3⟩ := id hb1
      have la : as.length = os.length := PySem.Paired.length b3
      have hi : i < as.length := by rw [la]; exact (List.getElem?_eq_some_iff.mp ei).1
      obtain ⟨a, ea⟩ : ∃ a, as[i]? = some a := ⟨as[i], by simp [hi]⟩
      obtain ⟨o', eo', oa⟩ := Paired.get b3 ea
      rw [ei] at eo'
      cases eo'
      have hp1 := s1 _ _ h1
      refine ⟨_, rfl, p, C_Letter, dx, _, _, rfl, hp1, T.cl_Letter, T.n_Letter_book, rfl, bk, C_Book, dy, _, _, rfl, b1, T.cl_Book, T.n_Book_listed, rfl, _, rfl, t, _, _, _, rfl, rfl, b2, atI_nat (by rw [List.getElem?_map, ea]; rfl), ?_⟩
      refine ⟨a, o.vals, rfl, oa, rfl, _, _, rfl, _, _, rfl, _, _, rfl, _, _, rfl, _, _, rfl, rfl, ?_⟩
      refine ⟨_, rfl, _, rfl, p, C_Letter, dx, _, rfl, hp1, T.cl_Letter, T.n_Letter_address, (by show 7 < 1000; decide), ?_⟩
      refine ⟨_, rfl, p, C_Letter, dx, _, _, rfl, upd_same, T.cl_Letter, T.n_Letter_day, rfl, _, rfl, _, _, rfl, rfl, dx, _, upd_same, (by show 7 < 1000; decide), ?_⟩
      rw [upd_upd]
      refine ⟨_, rfl, p, C_Letter, dx, _, _, rfl, upd_same, T.cl_Letter, T.n_Letter_count, rfl, _, _, rfl, rfl, dx, _, upd_same, (by show 7 < 1000; decide), ?_⟩
      rw [upd_upd]
      generalize eH : upd H1 p _ = H2
      have hp2 : H2 p = some (.ins C_Letter dx (lf bk o.tgt (d + o.way) (n + 1) kn e (optZ c))) := by rw [← eH, upd_same]; rfl
      have k2 : ∀ b u, H b = some u → b ≠ p → H2 b = some u := fun b u e nb => by rw [← eH, upd_ne nb]; exact s1 _ _ e
      have hk2 : H2 kn = some (.dK kvs) := k2 _ _ h2 npk.symm
      have hpi : ∃ o, H p = some o ∧ (∀ xs, o ≠ HO.tup xs) ∧ (∀ u xs, o ≠ HO.frz u (.tup xs)) := ⟨_, h1, (fun _ z => by cases z), (fun _ _ z => by cases z)⟩
      have hb2 : BookAt K C_Book H2 bk os := hb.keep hpi nbp k2
      refine ⟨_, rfl, p, C_Letter, dx, _, _, rfl, hp2, T.cl_Letter, T.n_Letter_change, rfl, rfl, _, rfl, ?_⟩
      cases c with
      | none =>
        refine iteF ?_
        exact k1 i o eo ei H2 kn (fun _ => rfl) (fun z => by cases z) ⟨⟨dx, hp2⟩, hk2⟩ k2 fun dx' fs' z => by rw [h1] at z; cases z; exact ⟨_, hp2⟩
      | some m =>
        refine iteT ?_
        refine ⟨_, rfl, p, C_Letter, dx, _, _, rfl, hp2, T.cl_Letter, T.n_Letter_day, rfl, _, rfl, p, C_Letter, dx, _, _, rfl, hp2, T.cl_Letter, T.n_Letter_change, rfl, _, _, rfl, rfl, _, rfl, ?_⟩
        refine ite2 (fun c1 => ?_) (fun c1 => ?_)
        · have c1' : m ≤ d + o.way := of_decide_eq_true c1
          have er : resets (some m) (d + o.way) = true := c1
          intro kn' hkn'
          have npk' : p ≠ kn' := ne_of_none hp2 hkn'
          have hkn0 : H kn' = none := by
            cases q : H kn' with
            | none => rfl
            | some u => rw [k2 _ _ q npk'.symm] at hkn'; cases hkn'
          refine ⟨_, rfl, p, C_Letter, dx, _, rfl, (by rw [upd_ne npk']; exact hp2), T.cl_Letter, T.n_Letter_known, (by show 7 < 1000; decide), ?_⟩
          generalize eH3 : upd (upd H2 kn' _) p _ = H3
          have hp3 : H3 p = some (.ins C_Letter dx (lf bk o.tgt (d + o.way) (n + 1) kn' e (optZ (some m)))) := by rw [← eH3, upd_same]; rfl
          have k3 : ∀ b u, H b = some u → b ≠ p → H3 b = some u := fun b u e nb => by rw [← eH3, upd_ne nb, upd_ne (ne_of_none e hkn0)]; exact k2 _ _ e nb
          have hk3 : H3 kn' = some (.dK []) := by rw [← eH3, upd_ne npk'.symm, upd_same]
          have hb3 : BookAt K C_Book H3 bk os := hb.keep hpi nbp k3
          obtain ⟨dz, t3, as3, b13, b23, b33⟩ := id hb3
          refine ⟨_, rfl, p, C_Letter, dx, _, _, rfl, hp3, T.cl_Letter, T.n_Letter_book, rfl, bk, dz, _, rfl, b13, rfl, _, rfl, p, C_Letter, dx, _, _, rfl, hp3, T.cl_Letter, T.n_Letter_day, rfl, bk, os, d + o.way, rfl, hb3, h30, fun H4 s4 => ?_⟩
          refine ⟨_, rfl, p, C_Letter, dx, _, rfl, s4 _ _ hp3, T.cl_Letter, T.n_Letter_change, (by show 7 < 1000; decide), ?_⟩
          have ec : stepCh os (some m) (d + o.way) = nextCh os (d + o.way) := by simp [stepCh, c1']
          refine k1 i o eo ei _ kn' (fun z => by rw [er] at z; cases z) (fun _ => hkn0) ⟨⟨dx, ?_⟩, ?_⟩ (fun b u e nb => ?_) (fun dx' fs' z => by rw [h1] at z; cases z; exact ⟨_, upd_same⟩)
          · rw [upd_same, ec]
            rfl
          · rw [upd_ne npk'.symm, if_pos er]
            exact s4 _ _ hk3
          · rw [upd_ne nb]
            exact s4 _ _ (k3 b u e nb)
        · have c1' : ¬ m ≤ d + o.way := fun z => c1 (decide_eq_true z)
          have er : resets (some m) (d + o.way) = false := decide_eq_false c1'
          have ec : stepCh os (some m) (d + o.way) = some m := by simp [stepCh, c1']
          refine k1 i o eo ei H2 kn (fun _ => rfl) (fun z => by rw [er] at z; cases z) ⟨⟨dx, ?_⟩, ?_⟩ k2 (fun dx' fs' z => by rw [h1] at z; cases z; exact ⟨_, hp2⟩)
          · rw [ec]
            exact hp2
          · rw [if_neg (by rw [er]; exact Bool.false_ne_true)]
            exact hk2
theorem ok_step (T : Top K mg C_Book C_Letter C_MailError C_InvalidOperation C_InvalidOrder C_UnknownOrder C_NotHolding C_DecodeError C_NotationError C_UnknownLetter C_InvalidAddress C_InvalidDay C_InvalidNumber C_Contradiction C_InvalidCount) : MFn P w K mg base CX0 3 C_Letter "step" (spStep K C_Book C_Letter) := (ok_stepX T).imp fun vs H Q E ⟨p, kn, kvs, bk, os, x, d, n, e, c, h1, h2, h3, h4, h5, k0, k1⟩ =>
  ⟨p, kn, kvs, bk, os, x, d, n, e, c, h1, h2, h3, h4, h5, k0, fun i o a b H' kn' r1 r2 L k _ => k1 i o a b H' kn' r1 r2 L k⟩
end

end MF
set_option Elab.async false
set_option linter.all false
set_option maxRecDepth 100000
set_option maxHeartbeats 2000000
set_option pp.maxSteps 600
namespace MF
open PySem PySem.Spec PyProof.Rows L2 StX
section
variable {P : Program} {w : World} {K : PySem.W.Frag} {mg : Str → Option Value} {base : Heap} {C_Book C_Letter C_MailError C_InvalidOperation C_InvalidOrder C_UnknownOrder C_NotHolding C_DecodeError C_NotationError C_UnknownLetter C_InvalidAddress C_InvalidDay C_InvalidNumber C_Contradiction C_InvalidCount : Addr}
def spSkip (CL : Addr) : Sp := fun vs H Q _ => ∃ p kn kvs bk x d n e c, vs = [.ref p] ∧ LetterAt CL H p kn kvs bk x d n e c ∧ kvs.length < 1000 ∧
  (valV kvs (.inr x : Key) = none → ∀ H' t, H t = none → LetterAt CL H' p kn (putK kvs (.inr x) (.ref t)) bk x d n e c → H' t = some (.tup [.int d, .int n]) → (∀ b u, H b = some u → b ≠ kn → H' b = some u) → Q .non H') ∧
  (∀ v, valV kvs (.inr x : Key) = some v → ∃ t1 d1 c1, v = .ref t1 ∧ H t1 = some (.tup [.int d1, .int c1]) ∧
    (c = none → ∀ H' kn' t, H kn' = none → H t = none → LetterAt CL H' p kn' [(.inr x, .ref t)] bk x d n true none → H' t = some (.tup [.int d, .int n]) → (∀ b u, H b = some u → b ≠ p → H' b = some u) → Q .non H') ∧
    (∀ m, c = some m → d1 < d ∧ d - d1 < 2 ^ 62 ∧ d < m ∧ m - d < 2 ^ 62 ∧ ∀ H' kn' t, H kn' = none → H t = none →
      LetterAt CL H' p kn' [(.inr x, .ref t)] bk x (d + (m - 1 - d) / (d - d1) * (d - d1)) (n + (m - 1 - d) / (d - d1) * (n - c1)) e c →
      H' t = some (.tup [.int (d + (m - 1 - d) / (d - d1) * (d - d1)), .int (n + (m - 1 - d) / (d - d1) * (n - c1))]) → (∀ b u, H b = some u → b ≠ p → H' b = some u) → Q .non H'))
end

end MF
set_option Elab.async false
set_option linter.all false
set_option maxRecDepth 100000
set_option maxHeartbeats 2000000
set_option pp.maxSteps 600
namespace MF
open PySem PySem.Spec PyProof.Rows L2 StX
section
variable {P : Program} {w : World} {K : PySem.W.Frag} {mg : Str → Option Value} {base : Heap} {C_Book C_Letter C_MailError C_InvalidOperation C_InvalidOrder C_UnknownOrder C_NotHolding C_DecodeError C_NotationError C_UnknownLetter C_InvalidAddress C_InvalidDay C_InvalidNumber C_Contradiction C_InvalidCount : Addr}
theorem nodup_len {α : Type} [DecidableEq α] : ∀ {l m : List α}, l.Nodup → (∀ a ∈ l, a ∈ m) → l.length ≤ m.length
  | [], _, _, _ => Nat.zero_le _
  | a :: l, m, hn, hs => by
    have ha : a ∈ m := hs a (by simp)
    have hn' := List.nodup_cons.mp hn
    have := nodup_len (l := l) (m := m.erase a) hn'.2 fun b hb => by
      have hne : b ≠ a := fun z => hn'.1 (z ▸ hb)
      exact (List.mem_erase_of_ne hne).mpr (hs b (by simp [hb]))
    rw [List.length_erase_of_mem ha] at this
    have : 0 < m.length := List.length_pos_of_mem ha
    simp only [List.length_cons]
    omega
theorem none_none {os : List Ordr} {x : Str} {d : Int} (h : nextCh os d = none) : ordFor os x d = none := by
  have h0 := leastOf_none.mp h
  refine ordFor_none fun o ho => ?_
  have : ¬ d ≤ o.last := fun q => by
    have hm : o.last + 1 ∈ changes os d := mem_changes.mpr ⟨by omega, o, ho, .inr rfl⟩
    rw [h0] at hm
    cases hm
  simp [holds, this]
theorem nextCh_le {os : List Ordr} (g : Good os) {d c : Int} (h : nextCh os d = some c) : c ≤ 1000000000000000001 := by
  obtain ⟨_, o, ho, hc⟩ := mem_changes.mp (leastOf_some.mp h).1
  have := (g.ok o ho).lm
  have := (g.ok o ho).fl
  omega
structure LInv (K : PySem.W.Frag) (CB CL : Addr) (os : List Ordr) (nm : List Str) (N : Int) (t : Pt) (q : Bool) (m : Nat) (H : Hp) (p kn : Addr) (kvs : List (Key × V)) (bk : Addr) (x : Str) (d n : Int) (c : Option Int) : Prop where
  la : LetterAt CL H p kn kvs bk x d n false c
  ba : BookAt K CB H bk os
  ch : c = nextCh os d
  d0 : 0 ≤ d
  dm : d ≤ 1000000000000000030
  en : Ends os (x, d) m t
  tot : n + m = N
  mem : x ∈ nm
  nd : (kvs.map (·.1)).Nodup
  sub : ∀ kv ∈ kvs, ∃ a ∈ nm, kv.1 = .inr a
  val : ∀ a v, valV kvs (.inr a : Key) = some v → ∃ t1 d1 c1, ∃ k : Nat, v = .ref t1 ∧ H t1 = some (.tup [.int d1, .int c1]) ∧ nextCh os d1 = c ∧ Go os (a, d1) k (x, d) ∧ n = c1 + k ∧ 0 ≤ d1 ∧ (q = true → 1 ≤ k)
section
variable {os : List Ordr} {nm : List Str} {N : Int} {t : Pt} {m : Nat} {H : Hp} {p kn bk : Addr} {kvs : List (Key × V)} {x : Str} {d n : Int} {c : Option Int} {q : Bool}
theorem LInv.small (I : LInv K C_Book C_Letter os nm N t q m H p kn kvs bk x d n c) (h : nm.length ≤ 31) : kvs.length < 1000 := by
  have := nodup_len (m := nm.map Sum.inr) I.nd fun k hk => by
    obtain ⟨kv, h1, rfl⟩ := List.mem_map.mp hk
    obtain ⟨a, h2, h3⟩ := I.sub kv h1
    rw [h3]
    exact List.mem_map.mpr ⟨a, h2, rfl⟩
  rw [List.length_map, List.length_map] at this
  omega
def SkipI (os : List Ordr) (H H' : Hp) (kvs kvs' : List (Key × V)) (x : Str) (d d' : Int) : Prop :=
  (d' = d ∧ valV kvs (.inr x : Key) = none ∧ ∃ t1 c1, kvs' = putK kvs (.inr x) (.ref t1) ∧ H t1 = none ∧ H' t1 = some (.tup [.int d, c1])) ∨
  ∃ t1 d1 c1 k1 t2 c2 hi, valV kvs (.inr x : Key) = some (.ref t1) ∧ H t1 = some (.tup [.int d1, c1]) ∧ 1 ≤ k1 ∧ Go os (x, d1) k1 (x, d) ∧ (∀ c' ∈ changes os d1, hi < c') ∧ d ≤ d' ∧ d' ≤ hi ∧ hi - d' < d - d1 ∧ nextCh os d = some (hi + 1) ∧ (∃ m, Go os (x, d) m (x, d')) ∧ kvs' = [(.inr x, .ref t2)] ∧ H' t2 = some (.tup [.int d', c2])
theorem LInv.skip (g : Good os) (hnm : nm.length ≤ 31) (nbp : bk ≠ p) (I : LInv K C_Book C_Letter os nm N t true m H p kn kvs bk x d n c) {Q : VK} {E : XK}
    (k : ∀ H' kn' kvs' d' n' m', m' ≤ m → (kn' = kn ∨ H kn' = none) → LInv K C_Book C_Letter os nm N t false m' H' p kn' kvs' bk x d' n' c → (∀ b u, H b = some u → b ≠ p → b ≠ kn → H' b = some u) → SkipI os H H' kvs kvs' x d d' → Q .non H') : spSkip C_Letter [.ref p] H Q E := by
  obtain ⟨⟨dx, h1⟩, h2⟩ := id I.la
  obtain ⟨dy, tb, as, b1, b2, b3⟩ := id I.ba
  have nbk : bk ≠ kn := ne_of b1 h2 (by intro z; cases z)
  have npk := I.la.ne
  refine ⟨p, kn, kvs, bk, x, d, n, false, c, rfl, I.la, I.small hnm, fun ev H' t1 ht1 L et kp => ?_, fun v ev => ?_⟩
  · have nt : ∀ b u, H b = some u → tupl u = true → H' b = some u := fun b u e z => kp b u e fun w => by
      rw [w, h2] at e; cases e; cases z
    refine k H' kn _ d n m (Nat.le_refl _) (.inl rfl) ⟨L, I.ba.kept (fun u e => kp _ _ e nbk) nt, I.ch, I.d0, I.dm, I.en, I.tot, I.mem, ?_, ?_, ?_⟩ (fun b u e _ nb => kp b u e nb) (.inl ⟨rfl, ev, t1, _, rfl, ht1, et⟩)
    · exact nd_putK _ I.nd ev
    · rw [putK_new _ ev]
      intro kv hkv
      rcases List.mem_append.mp hkv with z | z
      · exact I.sub kv z
      · rw [List.mem_singleton.mp z]
        exact ⟨x, I.mem, rfl⟩
    · intro a v hv
      rw [valV_put] at hv
      by_cases ea : (Sum.inr a : Key) = Sum.inr x
      · rw [if_pos ea] at hv
        cases hv
        cases Sum.inr.inj ea
        exact ⟨t1, d, n, 0, rfl, et, I.ch.symm, .refl _, by simp, I.d0, fun z => by cases z⟩
      · rw [if_neg ea] at hv
        obtain ⟨t2, d2, c2, k2, e1, e2, e3, e4, e5, e6, e7⟩ := I.val a v hv
        exact ⟨t2, d2, c2, k2, e1, nt _ _ e2 rfl, e3, e4, e5, e6, fun z => by cases z⟩
  · obtain ⟨t1, d1, c1, k1, e1, e2, e3, e4, e5, e6, e7⟩ := I.val x v ev
    have k1p : 1 ≤ k1 := e7 rfl
    have hday := e4.day g.fine
    simp only at hday
    refine ⟨t1, d1, c1, e1, e2, fun hc => ?_, fun mm hc => ?_⟩
    · exfalso
      rw [hc] at e3
      have h0 : nxt os (x, d1) = none := nxt_none.mpr (none_none e3)
      cases e4 with
      | refl => omega
      | step h _ => rw [h0] at h; cases h
    · subst hc
      have hm1 : nextCh os d = some mm := I.ch.symm
      have gt := nextCh_gt hm1
      have le := nextCh_le g hm1
      have dm := I.dm
      refine ⟨by omega, by omega, gt, by omega, fun H' kn' t2 hk' ht2 L et kp => ?_⟩
      have dpos : 0 < d - d1 := by omega
      generalize eq : (mm - 1 - d) / (d - d1) = qq at L et
      have q0 : 0 ≤ qq := by rw [← eq]; exact Int.ediv_nonneg (by omega) (by omega)
      have qm : qq * (d - d1) ≤ mm - 1 - d := by rw [← eq]; exact Int.ediv_mul_le _ (by omega)
      have qp : 0 ≤ qq * (d - d1) := Int.mul_nonneg q0 (by omega)
      obtain ⟨j, ej⟩ : ∃ j : Nat, qq = (j : Int) := ⟨qq.toNat, by omega⟩
      have cc : ∀ c' ∈ changes os d1, mm - 1 < c' := fun c' hc' => by
        have := (leastOf_some.mp e3).2 c' hc'
        omega
      have go : Go os (x, d) (j * k1) (x, d + qq * (d - d1)) := by
        rw [ej]
        exact Go.rounds g.fine e4 (by omega) cc j (by rw [← ej]; omega)
      obtain ⟨hle, hend⟩ := I.en.after go
      have en1 : n - c1 = (k1 : Int) := by omega
      have etot : qq * (n - c1) = ((j * k1 : Nat) : Int) := by rw [en1, ej]; push_cast; rfl
      have nt : ∀ b u, H b = some u → tupl u = true → H' b = some u := fun b u e z => kp b u e fun w => by
        rw [w, h1] at e; cases e; cases z
      have ech : some mm = nextCh os (d + qq * (d - d1)) := by
        rw [← hm1]
        exact (nextCh_const (by omega) fun c' hc' => by rw [hm1] at hc'; cases hc'; omega).symm
      refine k H' kn' _ _ _ (m - j * k1) (Nat.sub_le _ _) (.inr hk') ⟨L, I.ba.kept (fun u e => kp _ _ e nbp) nt, ech, by have := I.d0; omega, by omega, hend, ?_, I.mem, ?_, ?_, ?_⟩ (fun b u e nb _ => kp b u e nb) (.inr ⟨t1, d1, _, k1, t2, _, mm - 1, by rw [ev, e1], e2, k1p, e4, cc, by omega, by omega, ?_, by rw [hm1]; congr 1; omega, ⟨_, go⟩, rfl, et⟩)
      · rw [etot]
        have := I.tot
        omega
      · simp
      · intro kv hkv
        rw [List.mem_singleton.mp hkv]
        exact ⟨x, I.mem, rfl⟩
      · intro a v' hv
        by_cases ea : (Sum.inr x : Key) = Sum.inr a
        · rw [valV_pos ea] at hv
          cases hv
          cases Sum.inr.inj ea
          exact ⟨t2, _, _, 0, rfl, et, ech.symm, .refl _, by simp, by have := I.d0; omega, fun z => by cases z⟩
        · rw [valV_neg ea] at hv
          cases hv
      · have h3 := Int.emod_lt_of_pos (mm - 1 - d) dpos
        have h4 := Int.mul_ediv_add_emod (mm - 1 - d) (d - d1)
        rw [eq, Int.mul_comm] at h4
        omega
theorem LInv.step (g : Good os) (hnm : ∀ o ∈ os, o.tgt ∈ nm) (nbp : bk ≠ p) (I : LInv K C_Book C_Letter os nm N t false m H p kn kvs bk x d n c) {Q : VK} {E : XK}
    (k0 : m = 0 → t = (x, d) → N = n → ∀ H', Same H H' → Q (.bl false) H')
    (k : ∀ H' kn' kvs' x' d' n' c' m', m = m' + 1 → (kn' = kn ∨ H kn' = none) → LInv K C_Book C_Letter os nm N t true m' H' p kn' kvs' bk x' d' n' c' → (∀ b u, H b = some u → b ≠ p → H' b = some u) → (∃ i o, ordFor os x d = some i ∧ os[i]? = some o ∧ x' = o.tgt ∧ d' = d + o.way ∧ ((kvs' = [] ∧ ∃ mm, nextCh os d = some mm ∧ mm ≤ d') ∨ kvs' = kvs)) → Q (.bl true) H') : spStep K C_Book C_Letter [.ref p] H Q E := by
  obtain ⟨⟨dx, h1⟩, h2⟩ := id I.la
  refine ⟨p, kn, kvs, bk, os, x, d, n, false, c, rfl, I.la, I.ba, g.len, nbp, fun eo H' s => ?_, fun i o eo ei H' kn' z1 z2 L kp => ?_⟩
  · have hn : nxt os (x, d) = none := nxt_none.mpr eo
    have e := I.en
    obtain ⟨a, b⟩ := e
    cases a with
    | refl => exact k0 rfl rfl (by have := I.tot; omega) H' s
    | step h _ => rw [hn] at h; cases h
  · have hn := nxt_of eo ei
    have ho : o ∈ os := List.mem_of_getElem? ei
    obtain ⟨o', ei', hh⟩ := ordFor_some eo
    rw [ei] at ei'
    cases ei'
    simp only [holds, Bool.and_eq_true, decide_eq_true_eq] at hh
    have w1 := (g.ok o ho).w1
    have w30 := (g.ok o ho).w30
    have lm := (g.ok o ho).lm
    obtain ⟨hle, hend⟩ := I.en.after (Go.one hn)
    have d0 := I.d0
    have nt : ∀ b u, H b = some u → tupl u = true → H' b = some u := fun b u e z => kp b u e fun w => by
      rw [w, h1] at e; cases e; cases z
    have ech : stepCh os c (d + o.way) = nextCh os (d + o.way) := by
      rw [I.ch]
      cases hc : nextCh os d with
      | none =>
        have := none_none (x := x) hc
        rw [this] at eo
        cases eo
      | some mm =>
        by_cases hm : mm ≤ d + o.way
        · simp [stepCh, hm]
        · have e1 : nextCh os (d + o.way) = nextCh os d := nextCh_const (by omega) fun c' hc' => by rw [hc] at hc'; cases hc'; omega
          rw [e1, hc]
          simp [stepCh, hm]
    have rs : ((if resets c (d + o.way) = true then [] else kvs) = [] ∧ ∃ mm, nextCh os d = some mm ∧ mm ≤ d + o.way) ∨ (if resets c (d + o.way) = true then [] else kvs) = kvs := by
      cases hr : resets c (d + o.way) with
      | false => exact .inr rfl
      | true =>
        refine .inl ⟨rfl, ?_⟩
        rw [← I.ch]
        cases c with
        | none => cases hr
        | some mm => exact ⟨mm, rfl, of_decide_eq_true hr⟩
    refine k H' kn' _ o.tgt (d + o.way) (n + 1) _ (m - 1) (by omega) ?_ ⟨L, I.ba.kept (fun u e => kp _ _ e nbp) nt, ech, by omega, by omega, hend, by have := I.tot; omega, hnm o ho, ?_, ?_, ?_⟩ kp ⟨i, o, eo, ei, rfl, rfl, rs⟩
    · cases hr : resets c (d + o.way) with
      | false => exact .inl (z1 hr)
      | true => exact .inr (z2 hr)
    · by_cases hr : resets c (d + o.way) = true
      · rw [if_pos hr]; simp
      · rw [if_neg hr]; exact I.nd
    · by_cases hr : resets c (d + o.way) = true
      · rw [if_pos hr]; intro kv hkv; cases hkv
      · rw [if_neg hr]; exact I.sub
    · by_cases hr : resets c (d + o.way) = true
      · rw [if_pos hr]; intro a v hv; cases hv
      · rw [if_neg hr]
        intro a v hv
        obtain ⟨t2, d2, c2, k2, e1, e2, e3, e4, e5, e6, e7⟩ := I.val a v hv
        refine ⟨t2, d2, c2, k2 + 1, e1, nt _ _ e2 rfl, ?_, e4.trans (Go.one hn), by push_cast; omega, e6, fun _ => Nat.succ_pos _⟩
        rw [e3]
        cases c with
        | none => rfl
        | some mm =>
          have hm : ¬ mm ≤ d + o.way := fun z => hr (decide_eq_true z)
          simp [stepCh, hm]
end
end

end MF
set_option Elab.async false
set_option linter.all false
set_option maxRecDepth 100000
set_option maxHeartbeats 2000000
set_option pp.maxSteps 600
namespace MF
open PySem PySem.Spec PyProof.Rows L2 StX
section
variable {P : Program} {w : World} {K : PySem.W.Frag} {mg : Str → Option Value} {base : Heap} {C_Book C_Letter C_MailError C_InvalidOperation C_InvalidOrder C_UnknownOrder C_NotHolding C_DecodeError C_NotationError C_UnknownLetter C_InvalidAddress C_InvalidDay C_InvalidNumber C_Contradiction C_InvalidCount : Addr}
theorem nilT {σ : L2.St} {H : Hp} {Q : List V → Hp → Prop} (h : Q [] H) : tNil σ H Q := h
def spFinish (K : PySem.W.Frag) (CB CL : Addr) : Sp := fun vs H Q _ => ∃ p kn bk os x d t, ∃ N : Nat, vs = [.ref p] ∧ LetterAt CL H p kn [] bk x d 0 false (nextCh os d) ∧ BookAt K CB H bk os ∧ Good os ∧ 0 ≤ d ∧ d ≤ 1000000000000000000 ∧ bk ≠ p ∧ Ends os (x, d) N t ∧
  ∀ H' kn' kvs' c', LetterAt CL H' p kn' kvs' bk t.1 t.2 N false c' → (∀ b u, H b = some u → b ≠ p → b ≠ kn → H' b = some u) → Q .non H'
def spEndOf (K : PySem.W.Frag) (CB : Addr) : Sp := fun vs H Q _ => ∃ bk os x d t, ∃ N : Nat, vs = [.ref bk, .str x, .int d] ∧ BookAt K CB H bk os ∧ Good os ∧ 0 ≤ d ∧ d ≤ 1000000000000000000 ∧ Ends os (x, d) N t ∧
  ∀ H' r, Same H H' → H r = none → H' r = some (.tup [.str t.1, .int t.2, .int N]) → Q (.ref r) H'
def spEnd (K : PySem.W.Frag) (CB : Addr) : Sp := fun vs H Q _ => ∃ bk os x d t, ∃ N : Nat, vs = [.ref bk, .str x, .int d] ∧ BookAt K CB H bk os ∧ Good os ∧ isAddrB (.str x) = true ∧ 0 ≤ d ∧ d ≤ 1000000000000000000 ∧ Ends os (x, d) N t ∧
  ∀ H' r, Same H H' → H r = none → H' r = some (.tup [.str t.1, .int t.2]) → Q (.ref r) H'
end

end MF
set_option Elab.async false
set_option linter.all false
set_option maxRecDepth 100000
set_option maxHeartbeats 2000000
set_option pp.maxSteps 600
namespace MF
open PySem PySem.Spec PyProof.Rows L2 StX
section
variable {P : Program} {w : World} {K : PySem.W.Frag} {mg : Str → Option Value} {base : Heap} {C_Book C_Letter C_MailError C_InvalidOperation C_InvalidOrder C_UnknownOrder C_NotHolding C_DecodeError C_NotationError C_UnknownLetter C_InvalidAddress C_InvalidDay C_InvalidNumber C_Contradiction C_InvalidCount : Addr}
def ScAt (K : PySem.W.Frag) (H : Hp) (rw sc : Addr) (xs : List V) : Prop := (Rd H sc (.lst xs) ∧ sc ≠ rw) ∨
    ∃ (o : Obj) (its : Array Value) (n : Nat), K.lookup sc = some o ∧ o.cls = .type "list" ∧ o.dict = none ∧ o.data = .seq its n ∧ its.size ≤ sizeLine ∧ Vals xs its.toList
theorem ScAt.sq {H : Hp} {rw sc : Addr} {xs : List V} (h : ScAt K H rw sc xs) : SqL K H sc xs := by
  rcases h with ⟨h, _⟩ | h
  · exact .inl h
  · exact .inr h
theorem ScAt.keep {H H' : Hp} {rw sc : Addr} {xs : List V} (h : ScAt K H rw sc xs) (k : ∀ b u, H b = some u → b ≠ rw → H' b = some u) : ScAt K H' rw sc xs := by
  rcases h with ⟨h | ⟨o, h⟩, n⟩ | h
  · exact .inl ⟨.inl (k _ _ h n), n⟩
  · exact .inl ⟨.inr ⟨o, k _ _ h n⟩, n⟩
  · exact .inr h
def RowAt (K : PySem.W.Frag) (H : Hp) (rw sc : Addr) (ns : List Int) : Prop := ∃ j : Nat, ∃ m r, H rw = some (.lst [.ref sc, .int (j : Nat), .int m, .int r]) ∧ ScAt K H rw sc (ns.map V.int) ∧ 0 ≤ m ∧ m < 2147483647
theorem RowAt.keep {H H' : Hp} {rw sc : Addr} {ns : List Int} (h : RowAt K H rw sc ns) (s : Same H H') : RowAt K H' rw sc ns := by
  obtain ⟨j, m, r, h1, h2, h3⟩ := h
  exact ⟨j, m, r, s _ _ h1, h2.keep fun b u e _ => s _ _ e, h3⟩
theorem ScAt.of0 {H H' : Hp} {rw sc : Addr} {xs : List V} (h : SqL K H sc xs) (s : Same H H') (n : H rw = none) : ScAt K H' rw sc xs := by
  rcases h with (z | ⟨o, z⟩) | z
  · exact .inl ⟨.inl (s _ _ z), ne_of_none z n⟩
  · exact .inl ⟨.inr ⟨o, s _ _ z⟩, ne_of_none z n⟩
  · exact .inr z
theorem RowAt.other {H0 H H' : Hp} {rw sc : Addr} {ns : List Int} (h : RowAt K H rw sc ns) (h0 : SqL K H0 sc (ns.map V.int)) (n : H0 rw = none) (s : Same H0 H') (e : ∀ u, H rw = some u → H' rw = some u) : RowAt K H' rw sc ns := by
  obtain ⟨j, m, r, h1, h2, h3⟩ := h
  exact ⟨j, m, r, e _ h1, .of0 h0 s n, h3⟩
def spTaken (K : PySem.W.Frag) : Sp := fun vs H Q _ => ∃ rw sc ns many, vs = [.ref rw, .int many] ∧ RowAt K H rw sc ns ∧ 0 < many ∧ many ≤ 1000000000000000000 ∧
  ∀ v H', 0 ≤ v → v < many → RowAt K H' rw sc ns → (∀ b u, H b = some u → b ≠ rw → H' b = some u) → Q (.int v) H'
theorem pow18 : (10 : Int) ^ (18 : Int).toNat = 1000000000000000000 := by decide
end

end MF
set_option Elab.async false
set_option linter.all false
set_option maxRecDepth 100000
set_option maxHeartbeats 2000000
set_option pp.maxSteps 600
namespace MF
open PySem PySem.Spec PyProof.Rows L2 StX
section
variable {P : Program} {w : World} {K : PySem.W.Frag} {mg : Str → Option Value} {base : Heap} {C_Book C_Letter C_MailError C_InvalidOperation C_InvalidOrder C_UnknownOrder C_NotHolding C_DecodeError C_NotationError C_UnknownLetter C_InvalidAddress C_InvalidDay C_InvalidNumber C_Contradiction C_InvalidCount : Addr}
theorem Good.take {os : List Ordr} (g : Good os) (i : Nat) : Good (os.take i) :=
  ⟨by have := g.len; rw [List.length_take]; omega, fun o ho => g.ok o (List.mem_of_mem_take ho), g.apart.sublist (List.take_sublist _ _)⟩
theorem Good.one {o : Ordr} (h : o.Ok) : Good [o] := ⟨by show 1 ≤ 30; decide, fun p hp => by rw [List.mem_singleton.mp hp]; exact h, by simp⟩
theorem Good.nil : Good [] := ⟨Nat.zero_le _, (fun p hp => by cases hp), List.Pairwise.nil⟩
def spLawBook (K : PySem.W.Frag) (C : Addr) : Sp := fun vs H Q _ => ∃ l as os, vs = [.ref l] ∧ SqL K H l (as.map V.ref) ∧ OrdsAt K H as os ∧ Good os ∧ ∀ H' p, Same H H' → H p = none → BookAt K C H' p os → Q (.ref p) H'
theorem ok_law_made (T : Top K mg C_Book C_Letter C_MailError C_InvalidOperation C_InvalidOrder C_UnknownOrder C_NotHolding C_DecodeError C_NotationError C_UnknownLetter C_InvalidAddress C_InvalidDay C_InvalidNumber C_Contradiction C_InvalidCount) (sf : PySem.W.selfFirst K C_Book = true) : GFn P w K mg base CX0 7 "_law_made" (spLawBook K C_Book) := by
  have G_Book : IFn P w K mg base CX0 3 C_Book "Book" (spBookInit K C_Book) := ok_Book T
  obtain ⟨fa, Fa, Ma⟩ := (ok_Book_add (P := P) (w := w) (base := base) T).ex
  refine T.d__law_made.fn fun f fd F => F.ok sc__law_made (fun vs H Q E h => ?_) (fun cdv A outer s H vs Q E hr h => ?_)
  · obtain ⟨l, as, os, rfl, _⟩ := h
    rfl
  · obtain ⟨l, as, os, rfl, hl, ho, g, k⟩ := h
    refine ⟨_, (pss_cons (ps_set (i := 1) sc__law_made.nd rfl (Or.inl rfl) (pe_mk0X G_Book (hr.mono (by decide)) pass0))
  (pss_cons (ps_for PassesOwn.never rfl (pi_list (pv 0)) (pg_name (i := 2) sc__law_made.nd rfl (Or.inl rfl))
  (pss_one (ps_set (i := 1) sc__law_made.nd rfl (Or.inl rfl) (pe_op (op_ownR sf Ma Fa (hr.mono (by decide)) pass0) (pv 1) (pe_mkX G_Book (hr.mono (by decide)) pass0 (pa_cons (pv 2) pa_nil))))))
  (pss_one (ps_ret (pv 1))))), ?_⟩
    have la : as.length = os.length := PySem.Paired.length ho
    intro x0 dx0 hx0 hdx0 ne0
    refine book_made' (as := []) (os := []) .nil Good.nil hx0 hdx0 ne0 (fun H1 s1 B1 => ⟨rfl, ?_⟩)
    refine ⟨_, rfl, l, rfl, ⟨_, s1.seq hl⟩, for_it (walk_list (xs := as.map V.ref)) (fun i σ H' => Same H H' ∧ ∃ p v2, σ = [some (.ref l), some (.ref p), v2] ∧ H p = none ∧ BookAt K C_Book H' p (os.take i)) ⟨s1, x0, _, rfl, hx0, B1⟩ (fun i σ H' _ ⟨s2, _⟩ => s2.seq hl) ?_ ?_⟩
    · rintro i y σ H2 H3 hi ⟨s2, p, v2, rfl, fp, B2⟩ ⟨rfl, ey⟩
      rw [List.length_map] at hi
      obtain ⟨a, ea⟩ : ∃ a, as[i]? = some a := ⟨as[i], by simp [hi]⟩
      rw [List.getElem?_map, ea] at ey
      cases ey
      obtain ⟨o, eo, oa⟩ := Paired.get ho ea
      have om : o ∈ os := List.mem_of_getElem? eo
      have et : os.take (i + 1) = os.take i ++ [o] := by rw [List.take_add_one, eo]; rfl
      refine ⟨_, rfl, _, rfl, ?_⟩
      have oa3 : OrdsAt K H3 [a] [o] := .cons (oa.mono s2) .nil
      intro p4 dx4 hp4 hdx4 ne4
      refine book_made' (as := [a]) (os := [o]) oa3 (Good.one (g.ok o om)) hp4 hdx4 ne4 (fun H4 s4 B4 => ⟨rfl, ?_⟩)
      obtain ⟨dx, t, bs, b1, b2, b3⟩ := id (B2.mono s4)
      obtain ⟨dy, u, cs, c1, c2, c3⟩ := id B4
      refine ⟨p, p4, dx, dy, _, _, rfl, rfl, b1, c1, p, p4, os.take i, [o], rfl, B2.mono s4, B4, by rw [← et]; exact g.take _, fun H5 p5 s5 f5 B5 => ?_⟩
      have s25 := (s2.trans s4).trans s5
      exact ⟨s25, p5, _, rfl, (s2.trans s4).free f5, by rw [et]; exact B5⟩
    · rintro σ H2 ⟨s2, p, v2, rfl, fp, B2⟩
      rw [List.length_map, la, List.take_length] at B2
      exact ⟨_, rfl, k H2 p s2 fp B2⟩
end

end MF
set_option Elab.async false
set_option linter.all false
set_option maxRecDepth 100000
set_option maxHeartbeats 2000000
set_option pp.maxSteps 600
namespace MF
open PySem PySem.Spec PyProof.Rows L2 StX
section
variable {P : Program} {w : World} {K : PySem.W.Frag} {mg : Str → Option Value} {base : Heap} {C_Book C_Letter C_MailError C_InvalidOperation C_InvalidOrder C_UnknownOrder C_NotHolding C_DecodeError C_NotationError C_UnknownLetter C_InvalidAddress C_InvalidDay C_InvalidNumber C_Contradiction C_InvalidCount : Addr}
theorem kA_tuple : PySem.W.kitAny K (.type "tuple") [.type "tuple", .type "list"] = some true := kitAny_cons kt_tuple_tuple (fun z => by cases z) (fun _ => rfl)
theorem kA_list : PySem.W.kitAny K (.type "list") [.type "tuple", .type "list"] = some true := kitAny_cons kt_list_tuple (fun _ => kitAny_cons kt_list_list (fun z => by cases z) (fun _ => rfl)) (fun z => by cases z)
theorem kA_int : PySem.W.kitAny K (.type "int") [.type "tuple", .type "list"] = some false := kitAny_cons kt_int_tuple (fun _ => kitAny_cons kt_int_list (fun _ => kitAny_nil) (fun z => by cases z)) (fun z => by cases z)
theorem kA_bool : PySem.W.kitAny K (.type "bool") [.type "tuple", .type "list"] = some false := kitAny_cons kt_bool_tuple (fun _ => kitAny_cons kt_bool_list (fun _ => kitAny_nil) (fun z => by cases z)) (fun z => by cases z)
theorem kA_str : PySem.W.kitAny K (.type "str") [.type "tuple", .type "list"] = some false := kitAny_cons kt_str_tuple (fun _ => kitAny_cons kt_str_list (fun _ => kitAny_nil) (fun z => by cases z)) (fun z => by cases z)
theorem kA_none : PySem.W.kitAny K (.type "NoneType") [.type "tuple", .type "list"] = some false := kitAny_cons kt_NoneType_tuple (fun _ => kitAny_cons kt_NoneType_list (fun _ => kitAny_nil) (fun z => by cases z)) (fun z => by cases z)
theorem canLay_mem {d : PyData} : ∀ {ds : List PyData}, PyData.canLayAll0 ds = true → d ∈ ds → d.canLay0 = true
  | [], _, h => by cases h
  | e :: ds, c, h => by
    simp only [PyData.canLayAll0, Bool.and_eq_true] at c
    rcases List.mem_cons.mp h with rfl | h
    · exact c.1
    · exact canLay_mem c.2 h
theorem depth_mem {d : PyData} : ∀ {ds : List PyData}, d ∈ ds → d.depth ≤ PyData.depthAll ds
  | [], h => by cases h
  | e :: ds, h => by
    rw [PyData.depthAll]
    rcases List.mem_cons.mp h with rfl | h
    · exact Nat.le_max_left _ _
    · exact Nat.le_trans (depth_mem h) (Nat.le_max_right _ _)
theorem DpAll.get {H : Hp} : ∀ {xs : List V} {ds : List PyData} {i : Nat} {x : V}, DpAll K H xs ds → xs[i]? = some x → ∃ d, ds[i]? = some d ∧ Dp K H x d
  | _, _, _, _, .nil, e => by simp at e
  | _, _, 0, _, .cons h _, e => by simp at e; subst e; exact ⟨_, rfl, h⟩
  | _, _, i + 1, _, .cons _ t, e => by
    obtain ⟨d, h1, h2⟩ := DpAll.get (i := i) t (by simpa using e)
    exact ⟨d, by simpa using h1, h2⟩
theorem DpAll.len {H : Hp} : ∀ {xs : List V} {ds : List PyData}, DpAll K H xs ds → xs.length = ds.length
  | _, _, .nil => rfl
  | _, _, .cons _ t => by simp [DpAll.len t]
mutual
theorem Dp.mono {H H' : Hp} (s : Same H H') : ∀ {x : V} {d : PyData}, Dp K H x d → Dp K H' x d
  | _, _, .non => .non
  | _, _, .bl b => .bl b
  | _, _, .int i => .int i
  | _, _, .str x => .str x
  | _, _, .lst h a => .lst (s.seq h) (DpAll.mono s a)
  | _, _, .tup h a => .tup (MF.Same.tup s h) (DpAll.mono s a)
theorem DpAll.mono {H H' : Hp} (s : Same H H') : ∀ {xs : List V} {ds : List PyData}, DpAll K H xs ds → DpAll K H' xs ds
  | _, _, .nil => .nil
  | _, _, .cons h t => .cons (Dp.mono s h) (DpAll.mono s t)
end
mutual
def smallD : PyData → Bool
  | .list ds | .tuple ds => decide (ds.length ≤ 1000000) && smallAll ds
  | .none | .bool _ | .int _ | .str _ => true
  | .dict _ => false
def smallAll : List PyData → Bool
  | [] => true
  | d :: ds => smallD d && smallAll ds
end
theorem small_mem {d : PyData} : ∀ {ds : List PyData}, smallAll ds = true → d ∈ ds → smallD d = true
  | [], _, h => by cases h
  | e :: ds, c, h => by
    simp only [smallAll, Bool.and_eq_true] at c
    rcases List.mem_cons.mp h with rfl | h
    · exact c.1
    · exact small_mem c.2 h
def spAlike (K : PySem.W.Frag) (n : Nat) : Sp := fun vs H Q _ => ∃ x y d, vs = [x, y] ∧ Dp K H x d ∧ Dp K H y d ∧ d.canLay0 = true ∧ d.depth ≤ n ∧ smallD d = true ∧ ∀ H', Same H H' → Q (.bl true) H'
def SeqAt' (K : PySem.W.Frag) (H : Hp) (a : Addr) (tp : Bool) (xs : List V) : Prop := if tp = true then SqT K H a xs else SqL K H a xs
theorem SeqAt'.mono {H H' : Hp} {a : Addr} {tp : Bool} {xs : List V} (s : Same H H') (h : SeqAt' K H a tp xs) : SeqAt' K H' a tp xs := by
  cases tp
  · exact s.seq h
  · exact MF.Same.tup s h
theorem SeqAt'.ty {H : Hp} {a : Addr} {tp : Bool} {xs : List V} (h : SeqAt' K H a tp xs) : TyX K H (.ref a) (.type (if tp = true then "tuple" else "list")) := by
  cases tp
  · exact tyL h
  · exact tyT h
theorem SeqAt'.ix {H : Hp} {a : Addr} {tp : Bool} {xs : List V} {i : Nat} {v : V} {Q : VK} (h : SeqAt' K H a tp xs) (e : xs[i]? = some v) (q : Q v H) : rIx K (.ref a) (.int (0 + (i : Int))) H Q := by
  rw [Int.zero_add]
  cases tp
  · exact .inl ⟨a, xs, _, v, rfl, rfl, h, atI_nat e, q⟩
  · exact .inr (.inl ⟨a, xs, _, v, rfl, rfl, h, atI_nat e, q⟩)
theorem SeqAt'.len {H : Hp} {a : Addr} {tp : Bool} {xs : List V} (h : SeqAt' K H a tp xs) : SqL K H a xs ∨ SqT K H a xs := by
  cases tp
  · exact .inl h
  · exact .inr h
theorem kA_seq (tp : Bool) : PySem.W.kitAny K (.type (if tp = true then "tuple" else "list")) [.type "tuple", .type "list"] = some true := by
  cases tp
  · exact kA_list
  · exact kA_tuple
theorem kt_seq (tp : Bool) : PySem.W.kitOne K (.type (if tp = true then "tuple" else "list")) (.type "tuple") = some tp := by
  cases tp
  · exact kt_list_tuple
  · exact kt_tuple_tuple
def spAl (K : PySem.W.Frag) : Nat → Sp
  | 0 => fun _ _ _ _ => False
  | m + 1 => spAlike K m
theorem alike_cases {H : Hp} {x y : V} {d : PyData} {n : Nat} (hx : Dp K H x d) (hy : Dp K H y d) (cl : d.canLay0 = true) (dp : d.depth ≤ n) (sm : smallD d = true) :
    (∃ T1 b, y = x ∧ (∀ H', TyX K H' x (.type T1)) ∧ PySem.W.kitAny K (.type T1) [.type "tuple", .type "list"] = some false ∧ scal x x = true ∧ PySem.W.kitOne K (.type T1) (.type "bool") = some b) ∨
    (∃ a a' tp xs ys ds, x = .ref a ∧ y = .ref a' ∧ SeqAt' K H a tp xs ∧ SeqAt' K H a' tp ys ∧ DpAll K H xs ds ∧ DpAll K H ys ds ∧ PyData.canLayAll0 ds = true ∧ PyData.depthAll ds + 1 ≤ n ∧ ds.length ≤ 1000000 ∧ smallAll ds = true) := by
  cases hx with
  | non => cases hy; exact .inl ⟨"NoneType", _, rfl, fun _ => .base .non, kA_none, rfl, kt_NoneType_bool⟩
  | bl b => cases hy; exact .inl ⟨"bool", _, rfl, fun _ => .base (.bl b), kA_bool, rfl, kt_bool_bool⟩
  | int i => cases hy; exact .inl ⟨"int", _, rfl, fun _ => .base (.int i), kA_int, rfl, kt_int_bool⟩
  | str z => cases hy; exact .inl ⟨"str", _, rfl, fun _ => .base (.str z), kA_str, rfl, kt_str_bool⟩
  | lst h1 a1 =>
    cases hy with
    | lst h2 a2 =>
      simp only [smallD, Bool.and_eq_true, decide_eq_true_eq] at sm
      exact .inr ⟨_, _, false, _, _, _, rfl, rfl, h1, h2, a1, a2, cl, dp, sm.1, sm.2⟩
  | tup h1 a1 =>
    cases hy with
    | tup h2 a2 =>
      simp only [smallD, Bool.and_eq_true, decide_eq_true_eq] at sm
      exact .inr ⟨_, _, true, _, _, _, rfl, rfl, h1, h2, a1, a2, cl, dp, sm.1, sm.2⟩
end

end MF
set_option Elab.async false
set_option linter.all false
set_option maxRecDepth 100000
set_option maxHeartbeats 2000000
set_option pp.maxSteps 600
namespace MF
open PySem PySem.Spec PyProof.Rows L2 StX
section
variable {P : Program} {w : World} {K : PySem.W.Frag} {mg : Str → Option Value} {base : Heap} {C_Book C_Letter C_MailError C_InvalidOperation C_InvalidOrder C_UnknownOrder C_NotHolding C_DecodeError C_NotationError C_UnknownLetter C_InvalidAddress C_InvalidDay C_InvalidNumber C_Contradiction C_InvalidCount : Addr}
def RK : Err → Prop
  | .address => True
  | .day => True
  | .number => True
  | _ => False
end

end MF
set_option Elab.async false
set_option linter.all false
set_option maxRecDepth 100000
set_option maxHeartbeats 2000000
set_option pp.maxSteps 600
namespace MF
open PySem PySem.Spec PyProof.Rows L2 StX
section
variable {P : Program} {w : World} {K : PySem.W.Frag} {mg : Str → Option Value} {base : Heap} {C_Book C_Letter C_MailError C_InvalidOperation C_InvalidOrder C_UnknownOrder C_NotHolding C_DecodeError C_NotationError C_UnknownLetter C_InvalidAddress C_InvalidDay C_InvalidNumber C_Contradiction C_InvalidCount : Addr}
def letErr (x d : V) : Option Err := if isAddrB x = true then (if isIntB d 0 1000000000000000000 = true then none else some .day) else some .address
def spCheckX (c : Cls5) : Sp := fun vs H Q E => ∃ x d, vs = [x, d] ∧ notSeq x = true ∧ shortV x ∧ notSeq d = true ∧ (letErr x d = none → ∀ H', Same H H' → Q .non H') ∧ ∀ e, letErr x d = some e → ∀ H' cls, Same H H' → ErrAt c cls none H' e → E cls none H'
theorem okX_check_letter (T : Top K mg C_Book C_Letter C_MailError C_InvalidOperation C_InvalidOrder C_UnknownOrder C_NotHolding C_DecodeError C_NotationError C_UnknownLetter C_InvalidAddress C_InvalidDay C_InvalidNumber C_Contradiction C_InvalidCount) : GFn P w K mg base (L2.CX P w) 3 "check_letter" (spCheckX ⟨C_InvalidOrder, C_UnknownOrder, C_InvalidAddress, C_InvalidDay, C_InvalidNumber, C_UnknownLetter, C_NotHolding, C_InvalidOperation, C_Contradiction, C_InvalidCount, C_DecodeError, C_NotationError⟩) := by
  have G_is_integer : GFn P w K mg base CX0 1 "is_integer" spIsInteger := ok_is_integer T
  have G_is_address : GFn P w K mg base CX0 1 "is_address" spIsAddress := ok_is_address T
  refine T.d_check_letter.fnX sc_check_letter (fun vs H Q E h => ?_) (fun f cdv A outer s H vs Q E hr h => ?_)
  · obtain ⟨x, d, rfl, _⟩ := h
    rfl
  · obtain ⟨x, d, rfl, nx, sx, nd, kq, kk⟩ := h
    refine ⟨_, (pss_cons (ps_if (pt_not (pt_val (pe_g G_is_address (hr.mono (by decide)) (pa_cons (pv 0) pa_nil))))
  (pss_one (ps_raise rfl takeE (pmk_0 T.x_InvalidAddress (pa_cons pe_str pa_nil))))
  pss_nil)
  (pss_one (ps_if (pt_not (pt_val (pe_g G_is_integer (hr.mono (by decide)) (pa_cons (pv 1) (pa_cons pe_int (pa_cons (pe_gint T.c_MAX_DAY) pa_nil))))))
  (pss_one (ps_raise rfl takeE (pmk_0 T.x_InvalidDay (pa_cons pe_str pa_nil))))
  pss_nil))), ?_⟩
    refine ⟨_, rfl, x, rfl, nx, sx, fun H1 s1 => ⟨_, rfl, ?_⟩⟩
    unfold letErr at kk kq
    cases ax : isAddrB x with
    | false =>
      rw [ax] at kk
      exact iteT ⟨by decide, kk _ rfl _ _ s1 ⟨rfl, rfl⟩⟩
    | true =>
      rw [ax] at kk kq
      refine iteF ?_
      refine ⟨_, rfl, d, _, _, rfl, nd, _, rfl, ?_⟩
      cases di : isIntB d 0 1000000000000000000 with
      | true =>
        rw [di] at kq
        exact iteF (kq rfl _ s1)
      | false =>
        rw [di] at kk
        exact iteT ⟨by decide, kk _ rfl _ _ s1 ⟨rfl, rfl⟩⟩
end

end MF
set_option Elab.async false
set_option linter.all false
set_option maxHeartbeats 1000000
set_option maxRecDepth 100000
namespace MF
open PySem PySem.Spec PyProof.Rows
theorem grp_step {t : Nat} {l out : List Nat} {r : Int} (hr : r ≤ 0) (hl : l ≠ []) : groupsFromRight' 3 44 (t + 1) l r out = if l.length ≤ 3 then l.reverse ++ out else groupsFromRight' 3 44 t (l.drop 3) (r - 3 - 1) (44 :: ((l.take 3).reverse ++ out)) := by
  have h1 : 1 ≤ l.length := by
    cases l with
    | nil => exact absurd rfl hl
    | cons a b => simp
  have em : (max (max (l.length : Int) r) 1).toNat = l.length := by omega
  conv => lhs; unfold groupsFromRight'
  simp only [em]
  by_cases c : l.length ≤ 3
  · have e3 : min 3 l.length = l.length := by omega
    rw [if_pos c, e3, List.drop_length, List.take_length, Nat.sub_self]
    have : decide (r - (l.length : Int) ≤ 0) = true := decide_eq_true (by omega)
    rw [this]
    rfl
  · have e3 : min 3 l.length = 3 := by omega
    have e4 : (l.drop 3).isEmpty = false := by
      cases q : l.drop 3 with
      | nil =>
        have := congrArg List.length q
        rw [List.length_drop] at this
        simp at this
        omega
      | cons a b => rfl
    have e5 : 3 - l.length = 0 := by omega
    rw [if_neg c, e3, e4, e5]
    rfl
theorem grp_len : ∀ (t : Nat) (l out : List Nat) (r : Int), r ≤ 0 → l ≠ [] → l.length ≤ t → (groupsFromRight' 3 44 t l r out).length = out.length + l.length + (l.length - 1) / 3
  | 0, l, out, r, _, hl, ht => by
    cases l with
    | nil => exact absurd rfl hl
    | cons a b => simp at ht
  | t + 1, l, out, r, hr, hl, ht => by
    rw [grp_step hr hl]
    by_cases c : l.length ≤ 3
    · rw [if_pos c, List.length_append, List.length_reverse]
      have : 1 ≤ l.length := by cases l with | nil => exact absurd rfl hl | cons a b => simp
      omega
    · have hd : l.drop 3 ≠ [] := fun z => by
        have := congrArg List.length z
        rw [List.length_drop] at this
        simp at this
        omega
      rw [if_neg c, grp_len t (l.drop 3) _ _ (by omega) hd (by rw [List.length_drop]; omega), List.length_cons, List.length_append, List.length_reverse, List.length_take, List.length_drop]
      omega
theorem grp_filter {p : Nat → Bool} (hp : p 44 = false) : ∀ (t : Nat) (l out : List Nat) (r : Int), r ≤ 0 → l ≠ [] → l.length ≤ t → (groupsFromRight' 3 44 t l r out).filter p = (l.reverse ++ out).filter p
  | 0, l, out, r, _, hl, ht => by
    cases l with
    | nil => exact absurd rfl hl
    | cons a b => simp at ht
  | t + 1, l, out, r, hr, hl, ht => by
    rw [grp_step hr hl]
    by_cases c : l.length ≤ 3
    · rw [if_pos c]
    · have hd : l.drop 3 ≠ [] := fun z => by
        have := congrArg List.length z
        rw [List.length_drop] at this
        simp at this
        omega
      rw [if_neg c, grp_filter hp t (l.drop 3) _ _ (by omega) hd (by rw [List.length_drop]; omega)]
      rw [List.filter_append, List.filter_cons, hp, if_neg Bool.false_ne_true, List.filter_append, List.filter_append]
      have : l.reverse = (l.drop 3).reverse ++ (l.take 3).reverse := by rw [← List.reverse_append, List.take_append_drop]
      rw [this, List.filter_append, List.append_assoc]
theorem grp3_len {ds : List Nat} (h : ds ≠ []) : (grp3 ds).length = ds.length + (ds.length - 1) / 3 := by
  unfold grp3
  rw [grp_len _ _ _ _ (by decide) (by simpa using h) (by rw [List.length_reverse]; omega), List.length_reverse]
  simp
theorem grp3_filter {p : Nat → Bool} (hp : p 44 = false) {ds : List Nat} (h : ds ≠ []) : (grp3 ds).filter p = ds.filter p := by
  unfold grp3
  rw [grp_filter hp _ _ _ _ (by decide) (by simpa using h) (by rw [List.length_reverse]; omega)]
  simp
theorem dots30_len {ds : List Nat} (h : ds ≠ []) (hl : ds.length ≤ 22) : (dots30 ds).length = 30 := by
  show ((List.replicate (30 - (grp3 ds).length) 46 ++ grp3 ds).toArray).size = 30
  have := grp3_len h
  have h1 : 1 ≤ ds.length := by cases ds with | nil => exact absurd rfl h | cons a b => simp
  rw [List.size_toArray, List.length_append, List.length_replicate]
  omega
theorem dots30_filter {p : Nat → Bool} (hp : p 44 = false) (hq : p 46 = false) {ds : List Nat} (h : ds ≠ []) : (dots30 ds).cps.toList.filter p = ds.filter p := by
  unfold dots30
  simp only [List.filter_append, grp3_filter hp h]
  have : (List.replicate (30 - (grp3 ds).length) 46).filter p = [] := by
    rw [List.filter_eq_nil_iff]
    intro a ha
    rw [(List.mem_replicate.mp ha).2, hq]
    exact Bool.false_ne_true
  rw [this, List.nil_append]
theorem digs_ne (n : Nat) : (Nat.toDigits 10 n).map Char.toNat ≠ [] := by
  have := tDigits_len_ge 10 n
  intro z
  have z' := congrArg List.length z
  rw [List.length_map] at z'
  simp at z'
theorem digs_len {n : Nat} (h : n < 10 ^ 22) : (Nat.toDigits 10 n).length ≤ 22 := by
  have e := (Nat.length_repr_le_iff (n := n) (by decide : 0 < 22)).mpr h
  rwa [← String.length_toList, Nat.toList_repr] at e
theorem num30_len {n : Nat} (h : n < 10 ^ 22) : (num30 n).length = 30 := dots30_len (digs_ne n) (by rw [List.length_map]; exact digs_len h)
theorem dots8_len {z : Str} (h : z.length ≤ 8) : (dots8 z).length = 8 := by
  show ((z.cps.toList ++ List.replicate (8 - z.length) 46).toArray).size = 8
  have : z.cps.toList.length = z.length := rfl
  rw [List.size_toArray, List.length_append, List.length_replicate, this]
  omega
end MF
set_option Elab.async false
set_option linter.all false
set_option maxRecDepth 100000
set_option maxHeartbeats 2000000
set_option pp.maxSteps 600
namespace MF
open PySem PySem.Spec PyProof.Rows L2 StX
section
variable {P : Program} {w : World} {K : PySem.W.Frag} {mg : Str → Option Value} {base : Heap} {C_Book C_Letter C_MailError C_InvalidOperation C_InvalidOrder C_UnknownOrder C_NotHolding C_DecodeError C_NotationError C_UnknownLetter C_InvalidAddress C_InvalidDay C_InvalidNumber C_Contradiction C_InvalidCount : Addr}
def PtsAt (H : Hp) (ps : List Addr) (l : List Pt) : Prop := PySem.Paired (fun p (t : Pt) => H p = some (.tup [.str t.1, .int t.2])) ps l
theorem PtsAt.keep {H H' : Hp} {ps : List Addr} {l : List Pt} (h : PtsAt H ps l) (k : ∀ b u, H b = some u → tupl u = true → H' b = some u) : PtsAt H' ps l := PySem.Paired.mono (fun p t e => k _ _ e rfl) h
theorem PtsAt.mono {H H' : Hp} {ps : List Addr} {l : List Pt} (h : PtsAt H ps l) (s : Same H H') : PtsAt H' ps l := h.keep fun b u e _ => s b u e
def spRoute (K : PySem.W.Frag) (CB : Addr) : SpG := fun vs H cont _ => ∃ bk os x d, ∃ n : Nat, vs = [.ref bk, .str x, .int d, .int (n : Int)] ∧ BookAt K CB H bk os ∧ Good os ∧ isAddrB (.str x) = true ∧ 0 ≤ d ∧ d ≤ 1000000000000000000 ∧ n ≤ 1000 ∧
  ∀ H' ps, Same H H' → PtsAt H' ps (routeL os n (x, d)) → (∀ p ∈ ps, H p = none) → cont (ps.map V.ref) H'
theorem ok_route (T : Top K mg C_Book C_Letter C_MailError C_InvalidOperation C_InvalidOrder C_UnknownOrder C_NotHolding C_DecodeError C_NotationError C_UnknownLetter C_InvalidAddress C_InvalidDay C_InvalidNumber C_Contradiction C_InvalidCount) : PGn P w K mg base 4 "route" (spRoute K C_Book) := by
  have G_check_letter : GFn P w K mg base CX0 2 "check_letter" spCheckOk := ok_check_letter T
  have G_is_integer : GFn P w K mg base CX0 1 "is_integer" spIsInteger := ok_is_integer T
  have G_Letter : IFn P w K mg base CX0 2 C_Letter "Letter" (spLetterInit K C_Book C_Letter) := ok_Letter T
  have M_Letter_step : MFn P w K mg base CX0 3 C_Letter "step" (spStep K C_Book C_Letter) := ok_step T
  refine T.d_route.gen sc_route (fun vs H Q E h => ?_) (fun f cdv A outer s H vs Q E pn hr h => ?_)
  · obtain ⟨bk, os, x, d, n, rfl, _⟩ := h
    rfl
  · obtain ⟨bk, os, x, d, n, rfl, B, g, ax, d0, d1, n1, k⟩ := h
    refine ⟨_, (gss_cons (gs_ps (ps_expr (pe_g G_check_letter (hr.mono (by decide)) (pa_cons (pv 1) (pa_cons (pv 2) pa_nil)))))
  (gss_cons (gs_ps (ps_if (pt_not (pt_val (pe_g G_is_integer (hr.mono (by decide)) (pa_cons (pv 3) (pa_cons pe_int (pa_cons (pe_gint T.c_MAX_LISTED) pa_nil))))))
  (pss_one ps_never)
  pss_nil))
  (gss_cons (gs_ps (ps_par (i := 4) (j := 5) (by rfl) sc_route.nd rfl rfl (by decide) rfl rfl (pa_cons (pe_mkX G_Letter (hr.mono (by decide)) pass0 (pa_cons (pv 0) (pa_cons (pv 1) (pa_cons (pv 2) pa_nil)))) (pa_cons (pv 3) pa_nil)) (by rfl)))
  (gss_cons (gs_while owns_gcx (pt_cmpR op_gt (pv 5) pe_int (nomark _))
  (gss_cons (gs_yield (pe_tup (pa_cons (pe_fld (pv 4) rfl) (pa_cons (pe_fld (pv 4) rfl) pa_nil))))
  (gss_cons (gs_ps (ps_set (i := 5) sc_route.nd rfl (Or.inl rfl) (pe_ifExp (pt_val (pe_m0 M_Letter_step T.cl_Letter (hr.mono (by decide)) (pv 4))) (pe_op op_sub (pv 5) pe_int) pe_int)))
  gss_nil)))
  gss_nil)))), ?_⟩
    have hin : isIntB (.int (n : Int)) 0 1000 = true := by
      show (decide (0 ≤ (n : Int)) && decide ((n : Int) ≤ 1000)) = true
      rw [decide_eq_true (by omega), decide_eq_true (by omega)]
      rfl
    refine ⟨_, rfl, _, rfl, x, d, rfl, ax, d0, d1, fun H1 s1 => ?_⟩
    refine ⟨_, rfl, _, _, _, rfl, rfl, _, rfl, ?_⟩
    rw [hin]
    refine iteF ?_
    have B1 := B.mono s1
    refine ⟨_, rfl, _, rfl, _, rfl, fun p dx hp hdx ne => ?_⟩
    have s0 : Same H1 (upd (upd H1 dx (.own p)) p (.ins C_Letter dx [])) := fun b o e => by
      rw [upd_ne (ne_of_none e hp), upd_ne (ne_of_none e hdx)]
      exact e
    have nbp : bk ≠ p := by
      obtain ⟨dy, tb, as, b1, _⟩ := B1
      exact ne_of_none b1 hp
    refine ⟨p, dx, bk, os, x, d, rfl, upd_same, B1.mono s0, g.len, nbp, fun H2 kn hkn L kp => ⟨rfl, _, rfl, _, _, rfl, ?_⟩⟩
    have s2 : Same H1 H2 := fun b u e => kp b u (s0 b u e) (ne_of_none e hp)
    have hp0 : H p = none := s1.free hp
    refine ⟨fun m ys σ H' => ∃ ps kn kvs y e c cnt pre, ys = ps.map V.ref ∧ Same H H' ∧ LetterAt C_Letter H' p kn kvs bk y e cnt false c ∧ PtsAt H' ps pre ∧ (∀ q ∈ ps, H q = none) ∧ pre ++ routeL os m (y, e) = routeL os n (x, d) ∧
      σ = [some (.ref bk), some (.str x), some (.int d), some (.int (n : Int)), some (.ref p), some (.int (m : Int))], ⟨n, [], kn, [], x, d, _, 0, [], rfl, s1.trans s2, L, .nil, (fun q hq => by cases hq), rfl, rfl⟩, ?_⟩
    rintro m ys σ H3 ⟨ps, kn', kvs, y, e, c, cnt, pre, rfl, s3, L3, P3, f3, er, rfl⟩
    refine ⟨_, rfl, _, _, rfl, rfl, _, rfl, ?_⟩
    have lp : ps.length = pre.length := PySem.Paired.length P3
    have B3 := B.mono s3
    cases m with
    | zero =>
      refine iteDN (by omega) ?_
      have ep : pre = routeL os n (x, d) := by
        rw [← er]
        show pre = pre ++ []
        rw [List.append_nil]
      rw [ep] at P3
      exact k _ ps s3 P3 f3
    | succ m =>
      refine iteD (by omega) ⟨fun ys' σ' H' => ∃ m', m' < m + 1 ∧ ∃ ps kn kvs y e c cnt pre, ys' = ps.map V.ref ∧ Same H H' ∧ LetterAt C_Letter H' p kn kvs bk y e cnt false c ∧ PtsAt H' ps pre ∧ (∀ q ∈ ps, H q = none) ∧ pre ++ routeL os m' (y, e) = routeL os n (x, d) ∧
        σ' = [some (.ref bk), some (.str x), some (.int d), some (.int (n : Int)), some (.ref p), some (.int (m' : Int))], fun ys' σ' H' h => h, ?_⟩
      obtain ⟨⟨dz, l1⟩, l2⟩ := id L3
      have hlen : pre.length ≤ 1000 := by
        have := routeL_len (os := os) (n := n) (s := (x, d))
        rw [← er, List.length_append] at this
        omega
      refine ⟨by rw [List.length_map, sizeLine_eq]; omega, _, rfl, p, C_Letter, dz, _, _, rfl, l1, T.cl_Letter, T.n_Letter_address, rfl, _, rfl, p, C_Letter, dz, _, _, rfl, l1, T.cl_Letter, T.n_Letter_day, rfl, (by show 2 ≤ sizeLine; decide), fun r hr0 => ?_⟩
      have s4 := Same.new (o := .tup [.str y, .int e]) hr0
      have s04 := s3.trans s4
      have L4 : LetterAt C_Letter (upd H3 r (.tup [.str y, .int e])) p kn' kvs bk y e cnt false c := L3.keep (fun o q => s4 _ _ q) (fun o q => s4 _ _ q)
      have er4 : (upd H3 r (.tup [.str y, .int e])) r = some (.tup [.str y, .int e]) := upd_same
      generalize upd H3 r (.tup [.str y, .int e]) = H4 at s4 s04 L4 er4
      have P4 : PtsAt H4 (ps ++ [r]) (pre ++ [(y, e)]) := Paired.append (P3.mono s4) (.cons er4 .nil)
      have f4 : ∀ q ∈ ps ++ [r], H q = none := fun q hq => by
        rcases List.mem_append.mp hq with z | z
        · exact f3 q z
        · rw [List.mem_singleton.mp z]
          exact s3.free hr0
      obtain ⟨⟨dw, m1⟩, m2⟩ := id L4
      refine ⟨_, rfl, p, dw, _, rfl, m1, rfl, p, kn', kvs, bk, os, y, e, cnt, false, c, rfl, L4, B.mono s04, g.len, nbp, fun hn H5 s5 => ?_, fun i o hi eo H5 kn5 _ _ L5 k5 => ?_⟩
      · refine ⟨_, rfl, iteF ⟨0, by omega, ps ++ [r], kn', kvs, y, e, c, cnt, pre ++ [(y, e)], by rw [List.map_append]; rfl, s04.trans s5, L4.keep (fun o q => s5 _ _ q) (fun o q => s5 _ _ q), P4.mono s5, f4, ?_, rfl⟩⟩
        rw [← er]
        show pre ++ [(y, e)] ++ [] = pre ++ ((y, e) :: (match nxt os (y, e) with | none => [] | some t => routeL os m t))
        rw [nxt_none.mpr hn, List.append_nil]
      · have hx := nxt_of hi eo
        refine ⟨_, rfl, iteT ⟨_, rfl, _, _, rfl, rfl, m, by omega, ps ++ [r], kn5, _, _, _, _, _, pre ++ [(y, e)], by rw [List.map_append]; rfl, fun b u q => k5 b u (s04 b u q) (ne_of_none q hp0), L5, P4.keep fun b u q z => k5 b u q (fun w => ?_), f4, ?_, ?_⟩⟩
        · rw [w, m1] at q
          cases q
          cases z
        · rw [← er]
          show pre ++ [(y, e)] ++ routeL os m (o.tgt, e + o.way) = pre ++ ((y, e) :: (match nxt os (y, e) with | none => [] | some t => routeL os m t))
          rw [hx, List.append_assoc]
          rfl
        · have : ((m + 1 : Nat) : Int) - 1 = (m : Int) := by omega
          show [some (V.ref bk), some (V.str x), some (V.int d), some (V.int n), some (V.ref p), some (V.int (((m + 1 : Nat) : Int) - 1))] = _
          rw [this]
end

end MF
set_option Elab.async false
set_option linter.all false
set_option maxRecDepth 100000
set_option maxHeartbeats 2000000
set_option pp.maxSteps 600
namespace MF
open PySem PySem.Spec PyProof.Rows L2 StX
section
variable {P : Program} {w : World} {K : PySem.W.Frag} {mg : Str → Option Value} {base : Heap} {C_Book C_Letter C_MailError C_InvalidOperation C_InvalidOrder C_UnknownOrder C_NotHolding C_DecodeError C_NotationError C_UnknownLetter C_InvalidAddress C_InvalidDay C_InvalidNumber C_Contradiction C_InvalidCount : Addr}
def ptV (t : Pt) : List V := [.str t.1, .int t.2]
def spRouteX (K : PySem.W.Frag) (CB : Addr) : SpX := fun vs H out need => ∃ bk os x d, ∃ n : Nat, vs = [.ref bk, .str x, .int d, .int (n : Int)] ∧ BookAt K CB H bk os ∧ Good os ∧ isAddrB (.str x) = true ∧ 0 ≤ d ∧ d ≤ 1000000000000000000 ∧ n ≤ 1000 ∧
  out = (routeL os n (x, d)).map ptV ∧ need = fun H => BookAt K CB H bk os
theorem ok_routeX (T : Top K mg C_Book C_Letter C_MailError C_InvalidOperation C_InvalidOrder C_UnknownOrder C_NotHolding C_DecodeError C_NotationError C_UnknownLetter C_InvalidAddress C_InvalidDay C_InvalidNumber C_Contradiction C_InvalidCount) : GGx P w K mg base 4 "route" (spRouteX K C_Book) := by
  have G_check_letter : GFn P w K mg base CX0 2 "check_letter" spCheckOk := ok_check_letter T
  have G_is_integer : GFn P w K mg base CX0 1 "is_integer" spIsInteger := ok_is_integer T
  have G_Letter : IFn P w K mg base CX0 2 C_Letter "Letter" (spLetterInitX K C_Book C_Letter) := ok_LetterX T
  have M_Letter_step : MFn P w K mg base CX0 3 C_Letter "step" (spStepX K C_Book C_Letter) := ok_stepX T
  refine T.d_route.genX sc_route (by decide +kernel) (fun vs H out need h => ?_) (fun vs H out need h => ?_) (fun f cdv A outer L a go RP kp vs H out need O hr h => ?_)
  · obtain ⟨bk, os, x, d, n, rfl, _⟩ := h
    rfl
  · obtain ⟨bk, os, x, d, n, rfl, B, g, ax, d0, d1, n1, rfl, rfl⟩ := h
    exact ⟨B, fun H H' sm z => z.mono sm⟩
  · obtain ⟨bk, os, x, d, n, rfl, _, g, ax, d0, d1, n1, rfl, rfl⟩ := h
    refine ⟨_, (gw_ps (fun _ _ => (ps_expr (pe_g G_check_letter (hr.mono (by decide)) (pa_cons (pv 1) (pa_cons (pv 2) pa_nil)))))
  (gw_ps (fun _ _ => (ps_if (pt_not (pt_val (pe_g G_is_integer (hr.mono (by decide)) (pa_cons (pv 3) (pa_cons pe_int (pa_cons (pe_gint T.c_MAX_LISTED) pa_nil))))))
  (pss_one ps_never)
  pss_nil))
  (gw_ps (fun _ _ => (ps_par (i := 4) (j := 5) (by rfl) sc_route.nd rfl rfl (by decide) rfl rfl (pa_cons (pe_mkX G_Letter (hr.mono (by decide)) pass0 (pa_cons (pv 0) (pa_cons (pv 1) (pa_cons (pv 2) pa_nil)))) (pa_cons (pv 3) pa_nil)) (by rfl)))
  (gw_while (fun _ _ => (pt_cmpR op_gt (pv 5) pe_int (nomark _)))
  (gw_yield (O := O) (fun _ _ => (pe_tup (pa_cons (pe_fldK (K := K) (pv 4) rfl) (pa_cons (pe_fldK (K := K) (pv 4) rfl) pa_nil))))
  (gw_ps (fun _ _ => (ps_set (i := 5) sc_route.nd rfl (Or.inl rfl) (pe_ifExp (pt_val (pe_m0 M_Letter_step T.cl_Letter (hr.mono (by decide)) (pv 4))) (pe_op op_sub (pv 5) pe_int) pe_int)))
  gw_nil) rfl rfl)
  gw_nil)))), fun H B => ?_⟩
    have hin : isIntB (.int (n : Int)) 0 1000 = true := by
      show (decide (0 ≤ (n : Int)) && decide ((n : Int) ≤ 1000)) = true
      rw [decide_eq_true (by omega), decide_eq_true (by omega)]
      rfl
    have sb : ∀ {H H' : Hp}, Same H H' → SameBut [] H H' := fun s b u e _ => s b u e
    refine ⟨_, rfl, _, rfl, x, d, rfl, ax, d0, d1, fun H1 s1 => ⟨sb s1, B.mono s1, [], (fun b hb => by cases hb), ?_⟩⟩
    refine ⟨_, rfl, _, _, _, rfl, rfl, _, rfl, ?_⟩
    rw [hin]
    refine iteF ⟨sb (Same.refl _), B.mono s1, [], (fun b hb => by cases hb), ?_⟩
    have B1 := B.mono s1
    refine ⟨_, rfl, _, rfl, _, rfl, fun p dx hp hdx ne => ?_⟩
    have s0 : Same H1 (upd (upd H1 dx (.own p)) p (.ins C_Letter dx [])) := fun b o e => by
      rw [upd_ne (ne_of_none e hp), upd_ne (ne_of_none e hdx)]
      exact e
    have nbp : bk ≠ p := by
      obtain ⟨dy, tb, as, b1, _⟩ := B1
      exact ne_of_none b1 hp
    refine ⟨p, dx, bk, os, x, d, rfl, upd_same, B1.mono s0, g.len, nbp, fun H2 kn hkn Lt kp' hfs => ⟨rfl, _, rfl, _, _, rfl, ?_⟩⟩
    have s2 : Same H1 H2 := fun b u e => kp' b u (s0 b u e) (ne_of_none e hp)
    have own2 : H2 dx = some (.own p) := kp' dx _ (by rw [upd_ne ne, upd_same]) ne
    have hkn1 : H1 kn = none := by
      cases q : H1 kn with
      | none => rfl
      | some u => rw [s0 _ _ q] at hkn; cases hkn
    refine ⟨sb s2, B1.mono s2, [p, dx, kn], fun b hb => ?_, ?_⟩
    · rcases List.mem_cons.mp hb with z | hb
      · rw [z]; exact .inr hp
      rcases List.mem_cons.mp hb with z | hb
      · rw [z]; exact .inr hdx
      · rw [List.mem_singleton.mp hb]; exact .inr hkn1
    let st (m : Nat) (p : Addr) : L2.St := [some (.ref bk), some (.str x), some (.int d), some (.int (n : Int)), some (.ref p), some (.int (m : Int))]
    refine ⟨fun m i hid σ H' => ∃ p dx kn kvs y e c cnt pre, hid = [p, dx, kn] ∧ LetterAt C_Letter H' p kn kvs bk y e cnt false c ∧ (∃ fs, H' p = some (.ins C_Letter dx fs)) ∧ H' dx = some (.own p) ∧ BookAt K C_Book H' bk os ∧ bk ≠ p ∧ pre.length = i ∧ pre ++ routeL os m (y, e) = routeL os n (x, d) ∧ σ = st m p,
      ⟨n, p, dx, kn, [], x, d, _, 0, [], rfl, Lt, hfs, own2, B1.mono s2, nbp, rfl, rfl, rfl⟩, ?_⟩
    clear s1 B1 hp hdx s0 s2 own2 hkn1 hkn Lt kp' hfs ne nbp
    rintro m i hid σ H3 ⟨p, dx, kn, kvs, y, e, c, cnt, pre, rfl, L3, ⟨fs, f3⟩, o3, B3, nbp, lp, er, rfl⟩
    refine ⟨_, rfl, _, _, rfl, rfl, _, rfl, rfl, ?_⟩
    have len : ((routeL os n (x, d)).map ptV).length = i + (routeL os m (y, e)).length := by rw [List.length_map, ← er, List.length_append, lp]
    cases m with
    | zero =>
      refine iteDN (by omega) ?_
      show i = ((routeL os n (x, d)).map ptV).length
      rw [len]
      rfl
    | succ m =>
      refine iteD (by omega) ?_
      obtain ⟨⟨dz, l1⟩, l2⟩ := id L3
      have edz : dz = dx := by rw [l1] at f3; cases f3; rfl
      subst edz
      have hd : (routeL os n (x, d))[i]? = some (y, e) := by
        rw [← er, List.getElem?_append_right (by omega), lp, Nat.sub_self]
        rfl
      have i1 : i < ((routeL os n (x, d)).map ptV).length := by
        rw [List.length_map]
        exact (List.getElem?_eq_some_iff.mp hd).1
      refine ⟨i1, _, rfl, p, C_Letter, dz, _, _, rfl, l1, T.cl_Letter, T.n_Letter_address, rfl, _, rfl, p, C_Letter, dz, _, _, rfl, l1, T.cl_Letter, T.n_Letter_day, rfl, (by show 2 ≤ sizeLine; decide), fun r hr0 => ?_⟩
      have s4 := Same.new (o := .tup [.str y, .int e]) hr0
      have er4 : (upd H3 r (.tup [.str y, .int e])) r = some (.tup [.str y, .int e]) := upd_same
      have l14 := s4 _ _ l1
      have l24 := s4 _ _ l2
      have o4 := s4 _ _ o3
      refine ⟨s4, r, ptV (y, e), rfl, by rw [List.getElem?_map, hd]; rfl, hr0, er4, fun b hb => ?_, fun Hw nd hn => ?_⟩
      · rcases List.mem_cons.mp hb with z | hb
        · rw [z]; exact .inl ⟨_, _, _, l14, by simp⟩
        rcases List.mem_cons.mp hb with z | hb
        · rw [z]; exact .inr (.inl ⟨p, _, _, o4, by simp, l14⟩)
        · rw [List.mem_singleton.mp hb]; exact .inr (.inr ⟨_, l24⟩)
      generalize upd H3 r (.tup [.str y, .int e]) = H4 at s4 er4 l14 l24 o4
      clear s4 er4 l1 l2 o3 L3 f3 B3 hr0
      have B5 : BookAt K C_Book Hw bk os := nd
      have sU : Same Hw (unhide [p, dz, kn] H4 Hw) := fun b u q => by rw [unhide_out fun z => by rw [hn b z] at q; cases q]; exact q
      have l15 : unhide [p, dz, kn] H4 Hw p = _ := (unhide_in (by simp)).trans l14
      have l25 : unhide [p, dz, kn] H4 Hw kn = _ := (unhide_in (by simp)).trans l24
      have o5 : unhide [p, dz, kn] H4 Hw dz = _ := (unhide_in (by simp)).trans o4
      have B6 := B5.mono sU
      generalize unhide [p, dz, kn] H4 Hw = H5 at l15 l25 o5 B6
      have L5 : LetterAt C_Letter H5 p kn kvs bk y e cnt false c := ⟨⟨dz, l15⟩, l25⟩
      have npd : p ≠ dz := ne_of l15 o5 (by intro z; cases z)
      refine ⟨_, rfl, p, dz, _, rfl, l15, rfl, p, kn, kvs, bk, os, y, e, cnt, false, c, rfl, L5, B6, g.len, nbp, fun hn H6 s6 => ?_, fun i' o hi eo H6 kn6 r1 r2 L6 k6 f6 => ?_⟩
      · refine ⟨_, rfl, iteF ⟨fun b u q _ => s6 b u q, B6.mono s6, [p, dz, kn], fun b hb => .inl hb, 0, Nat.succ_pos _, p, dz, kn, kvs, y, e, c, cnt, pre ++ [(y, e)], rfl, L5.keep (fun o q => s6 _ _ q) (fun o q => s6 _ _ q), ⟨_, s6 _ _ l15⟩, s6 _ _ o5, B6.mono s6, nbp, by rw [List.length_append, lp]; rfl, ?_, rfl⟩⟩
        rw [← er]
        show pre ++ [(y, e)] ++ [] = pre ++ ((y, e) :: (match nxt os (y, e) with | none => [] | some t => routeL os m t))
        rw [nxt_none.mpr hn, List.append_nil]
      · have hx := nxt_of hi eo
        have Bk : BookAt K C_Book H6 bk os := B6.keep ⟨_, l15, (fun _ z => by cases z), (fun _ _ z => by cases z)⟩ nbp k6
        refine ⟨_, rfl, iteT ⟨_, rfl, _, _, rfl, rfl, fun b u q nb => k6 b u q (fun z => nb (by rw [z]; simp)), Bk, [p, dz, kn6], fun b hb => ?_, m, Nat.lt_succ_self _, p, dz, kn6, _, _, _, _, _, pre ++ [(y, e)], rfl, L6, f6 _ _ l15, k6 _ _ o5 npd.symm, Bk, nbp, by rw [List.length_append, lp]; rfl, ?_, ?_⟩⟩
        · rcases List.mem_cons.mp hb with z | hb
          · rw [z]; exact .inl (by simp)
          rcases List.mem_cons.mp hb with z | hb
          · rw [z]; exact .inl (by simp)
          · rw [List.mem_singleton.mp hb]
            cases q : resets c (e + o.way) with
            | false => rw [r1 q]; exact .inl (by simp)
            | true => exact .inr (r2 q)
        · rw [← er]
          show pre ++ [(y, e)] ++ routeL os m (o.tgt, e + o.way) = pre ++ ((y, e) :: (match nxt os (y, e) with | none => [] | some t => routeL os m t))
          rw [hx, List.append_assoc]
          rfl
        · have : ((m + 1 : Nat) : Int) - 1 = (m : Int) := by omega
          show [some (V.ref bk), some (V.str x), some (V.int d), some (V.int n), some (V.ref p), some (V.int (((m + 1 : Nat) : Int) - 1))] = _
          rw [this]
end

end MF
set_option Elab.async false
set_option linter.all false
set_option maxHeartbeats 1000000
namespace MF
open PySem

abbrev Pr := Pt × Pt
def norm (A B : Pt) : Pr := if B.2 < A.2 then (B, A) else (A, B)
def nstep (os : List Ordr) (p : Pr) : Option Pr := (nxt os p.1).map fun e => norm e p.2
inductive MGo (os : List Ordr) : Pr → Nat → Pr → Prop
  | refl (p : Pr) : MGo os p 0 p
  | step {p p' r : Pr} {n : Nat} (ne : p.1 ≠ p.2) (h : nstep os p = some p') (g : MGo os p' n r) : MGo os p (n + 1) r
def Meets (os : List Ordr) (p : Pr) (r : Option Pt) : Prop := (∃ n A, MGo os p n (A, A) ∧ r = some A) ∨ ∃ n q, MGo os p n q ∧ q.1 ≠ q.2 ∧ nxt os q.1 = none ∧ r = none
theorem MGo.trans {os : List Ordr} {p q r : Pr} {n m : Nat} (a : MGo os p n q) (b : MGo os q m r) : MGo os p (n + m) r := by
  induction a with
  | refl p => rw [Nat.zero_add]; exact b
  | step ne h g ih => rw [Nat.succ_add]; exact .step ne h (ih b)
theorem Meets.after {os : List Ordr} {p q : Pr} {r : Option Pt} {n : Nat} (g : MGo os p n q) (m : Meets os p r) : Meets os q r := by
  induction g with
  | refl p => exact m
  | step ne h g ih =>
    refine ih ?_
    rcases m with ⟨k, A, a, e⟩ | ⟨k, R, a, b, c, e⟩
    · cases a with
      | refl => exact absurd rfl ne
      | step ne' h' g' => rw [h] at h'; cases h'; exact .inl ⟨_, A, g', e⟩
    · cases a with
      | refl =>
        unfold nstep at h
        rw [c] at h
        cases h
      | step ne' h' g' => rw [h] at h'; cases h'; exact .inr ⟨_, R, g', b, c, e⟩
theorem Meets.before {os : List Ordr} {p q : Pr} {r : Option Pt} {n : Nat} (g : MGo os p n q) (m : Meets os q r) : Meets os p r := by
  rcases m with ⟨k, A, a, e⟩ | ⟨k, R, a, b, c, e⟩
  · exact .inl ⟨_, A, g.trans a, e⟩
  · exact .inr ⟨_, R, g.trans a, b, c, e⟩
theorem Meets.same {os : List Ordr} {A : Pt} {r : Option Pt} (m : Meets os (A, A) r) : r = some A := by
  rcases m with ⟨k, B, a, e⟩ | ⟨k, R, a, b, c, e⟩
  · cases a with
    | refl => exact e
    | step ne _ _ => exact absurd rfl ne
  · cases a with
    | refl => exact absurd rfl b
    | step ne _ _ => exact absurd rfl ne
theorem Meets.none {os : List Ordr} {p : Pr} {r : Option Pt} (m : Meets os p r) (ne : p.1 ≠ p.2) (h : nxt os p.1 = none) : r = none := by
  rcases m with ⟨k, B, a, e⟩ | ⟨k, R, a, b, c, e⟩
  · cases a with
    | refl => exact absurd rfl ne
    | step _ h' _ =>
      unfold nstep at h'
      rw [h] at h'
      cases h'
  · exact e
theorem norm_le (A B : Pt) : (norm A B).1.2 ≤ (norm A B).2.2 := by
  unfold norm
  split
  · show B.2 ≤ A.2; omega
  · show A.2 ≤ B.2; omega
theorem norm_sum (A B : Pt) : (norm A B).1.2 + (norm A B).2.2 = A.2 + B.2 := by
  unfold norm
  split
  · show B.2 + A.2 = _; omega
  · rfl
theorem MGo.days {os : List Ordr} {M : Int} (f : Fine os M) {p q : Pr} {n : Nat} (g : MGo os p n q) (hp : p.1.2 ≤ p.2.2) : p.1.2 + p.2.2 + (n : Int) ≤ q.1.2 + q.2.2 ∧ p.1.2 ≤ q.1.2 ∧ q.1.2 ≤ q.2.2 := by
  induction g with
  | refl p => exact ⟨by simp, Int.le_refl _, hp⟩
  | @step p p' r n ne h g ih =>
    unfold nstep at h
    cases q : nxt os p.1 with
    | none => rw [q] at h; cases h
    | some e =>
      rw [q] at h
      have hpe : norm e p.2 = p' := Option.some.inj h
      subst hpe
      have h1 := (nxt_day f q).1
      have h2 := norm_sum e p.2
      have h3 := norm_le e p.2
      obtain ⟨i1, i2, i3⟩ := ih h3
      have h4 : p.1.2 ≤ (norm e p.2).1.2 := by
        unfold norm
        split
        · exact hp
        · show p.1.2 ≤ e.2; omega
      refine ⟨?_, by omega, i3⟩
      push_cast
      omega
def shiftP (p : Pr) (δ : Int) : Pr := ((p.1.1, p.1.2 + δ), (p.2.1, p.2.2 + δ))
theorem shift_inj {p : Pr} {δ : Int} (z : (shiftP p δ).1 = (shiftP p δ).2) : p.1 = p.2 := by
  obtain ⟨⟨a, b⟩, ⟨c, d⟩⟩ := p
  simp only [shiftP, Prod.mk.injEq] at z ⊢
  exact ⟨z.1, by omega⟩
theorem norm_shift (A B : Pt) (δ : Int) : norm (A.1, A.2 + δ) (B.1, B.2 + δ) = shiftP (norm A B) δ := by
  unfold norm shiftP
  by_cases h : B.2 < A.2
  · rw [if_pos h, if_pos (show B.2 + δ < A.2 + δ by omega)]
  · rw [if_neg h, if_neg (show ¬ B.2 + δ < A.2 + δ by omega)]
theorem MGo.shift {os : List Ordr} {M : Int} (f : Fine os M) {hi δ : Int} (h0 : 0 ≤ δ) {p q : Pr} {n : Nat} (g : MGo os p n q) (hp : p.1.2 ≤ p.2.2) (hc : ∀ c ∈ changes os p.1.2, hi < c) (hq : q.1.2 + δ ≤ hi) : MGo os (shiftP p δ) n (shiftP q δ) := by
  induction g with
  | refl p => exact .refl _
  | @step p p' r n ne h g ih =>
    have hh := h
    unfold nstep at h
    cases q : nxt os p.1 with
    | none => rw [q] at h; cases h
    | some e =>
      rw [q] at h
      have hpe : norm e p.2 = p' := Option.some.inj h
      subst hpe
      have h1 := (nxt_day f q).1
      have h3 := norm_le e p.2
      have d2 := g.days f h3
      have h4 : p.1.2 ≤ (norm e p.2).1.2 := by
        unfold norm
        split
        · exact hp
        · show p.1.2 ≤ e.2; omega
      obtain ⟨i, o, g1, g2, g3, eE⟩ := nxt_some q
      have e1 : ordFor os p.1.1 (p.1.2 + δ) = some i := by
        rw [← g1]
        exact ordFor_const (by omega) fun c hc' => by have := hc c hc'; omega
      have e2 : nxt os (shiftP p δ).1 = some (e.1, e.2 + δ) := by
        show nxt os (p.1.1, p.1.2 + δ) = _
        rw [nxt_of e1 g2, eE]
        simp only [Option.some.injEq, Prod.mk.injEq, true_and]
        omega
      have e3 : nstep os (shiftP p δ) = some (shiftP (norm e p.2) δ) := by
        unfold nstep
        rw [e2]
        show some (norm (e.1, e.2 + δ) (p.2.1, p.2.2 + δ)) = _
        rw [norm_shift]
      refine .step (fun z => ne (shift_inj z)) e3 (ih h3 (fun c hc' => hc c ?_) hq)
      obtain ⟨q1, q2⟩ := mem_changes.mp hc'
      exact mem_changes.mpr ⟨by omega, q2⟩
theorem MGo.rounds {os : List Ordr} {M : Int} (f : Fine os M) {p : Pr} {δ hi : Int} {k : Nat} (g : MGo os p k (shiftP p δ)) (hp : p.1.2 ≤ p.2.2) (hd : 0 ≤ δ) (hc : ∀ c ∈ changes os p.1.2, hi < c) : ∀ j : Nat, p.1.2 + δ + (j : Int) * δ ≤ hi → MGo os (shiftP p δ) (j * k) (shiftP p (δ + (j : Int) * δ))
  | 0, _ => by simp; exact .refl _
  | j + 1, h => by
    have hj : 0 ≤ (j : Int) * δ := Int.mul_nonneg (Int.natCast_nonneg _) hd
    have e : ((j + 1 : Nat) : Int) * δ = (j : Int) * δ + δ := by
      push_cast
      rw [Int.add_mul, Int.one_mul]
    rw [e] at h ⊢
    have a := MGo.rounds f g hp hd hc j (by omega)
    have b := MGo.shift f (δ := δ + (j : Int) * δ) (by omega) g hp hc (by show p.1.2 + δ + _ ≤ hi; omega)
    have e3 : shiftP (shiftP p δ) (δ + (j : Int) * δ) = shiftP p (δ + ((j : Int) * δ + δ)) := by
      unfold shiftP
      simp only [Prod.mk.injEq, true_and]
      constructor <;> omega
    rw [e3] at b
    rw [Nat.succ_mul]
    exact a.trans b
theorem meets_of_go {os : List Ordr} {M : Int} (f : Fine os M) {E L : Pt} {j : Nat} (g : Go os E j L) : Meets os (E, L) (some L) := by
  have : ∃ n, MGo os (E, L) n (L, L) := by
    induction g with
    | refl s => exact ⟨0, .refl _⟩
    | @step s s' t n h r ih =>
      obtain ⟨m, im⟩ := ih
      have h1 := (nxt_day f h).1
      have h2 := r.day f
      have e : nstep os (s, t) = some (s', t) := by
        unfold nstep
        rw [h]
        show some (norm s' t) = _
        unfold norm
        rw [if_neg (by omega)]
      exact ⟨m + 1, .step (fun z => by have : s.2 = t.2 := congrArg Prod.snd z; omega) e im⟩
  obtain ⟨n, h⟩ := this
  exact .inl ⟨n, L, h, rfl⟩
theorem meets_ex {os : List Ordr} {M : Int} (f : Fine os M) (p : Pr) (hp : p.1.2 ≤ p.2.2) : ∃ r, Meets os p r := by
  have all : ∀ (k : Nat) (p : Pr), p.1.2 ≤ p.2.2 → ((M + 1 - p.1.2).toNat + (M + 1 - p.2.2).toNat) ≤ k → ∃ r, Meets os p r := by
    intro k
    induction k with
    | zero =>
      intro p hp hk
      by_cases ne : p.1 = p.2
      · exact ⟨some p.1, .inl ⟨0, p.1, by have : p = (p.1, p.1) := Prod.ext rfl ne.symm; rw [← this]; exact .refl _, rfl⟩⟩
      · cases q : nxt os p.1 with
        | none => exact ⟨none, .inr ⟨0, p, .refl _, ne, q, rfl⟩⟩
        | some s' => have := nxt_day f q; omega
    | succ k ih =>
      intro p hp hk
      by_cases ne : p.1 = p.2
      · exact ⟨some p.1, .inl ⟨0, p.1, by have : p = (p.1, p.1) := Prod.ext rfl ne.symm; rw [← this]; exact .refl _, rfl⟩⟩
      · cases q : nxt os p.1 with
        | none => exact ⟨none, .inr ⟨0, p, .refl _, ne, q, rfl⟩⟩
        | some e =>
          have h1 := nxt_day f q
          obtain ⟨r, hr⟩ := ih (norm e p.2) (norm_le _ _) (by
            unfold norm
            split
            · show (M + 1 - p.2.2).toNat + (M + 1 - e.2).toNat ≤ k
              omega
            · show (M + 1 - e.2).toNat + (M + 1 - p.2.2).toNat ≤ k
              omega)
          exact ⟨r, .before (.step ne (by unfold nstep; rw [q]; rfl) (.refl _)) hr⟩
  exact all _ p hp (Nat.le_refl _)
end MF
set_option Elab.async false
set_option linter.all false
set_option maxHeartbeats 1000000
namespace MF
open PySem
def On (os : List Ordr) (s t : Pt) : Prop := ∃ n, Go os s n t
theorem On.refl (os : List Ordr) (s : Pt) : On os s s := ⟨0, .refl s⟩
theorem On.trans {os : List Ordr} {s t u : Pt} (a : On os s t) (b : On os t u) : On os s u := let ⟨n, g⟩ := a; let ⟨m, h⟩ := b; ⟨n + m, g.trans h⟩
theorem On.tail {os : List Ordr} {s t : Pt} (h : On os s t) (ne : s ≠ t) : ∃ u, nxt os s = some u ∧ On os u t := by
  obtain ⟨n, g⟩ := h
  cases g with
  | refl => exact absurd rfl ne
  | step h g => exact ⟨_, h, _, g⟩
theorem On.day {os : List Ordr} {M : Int} (f : Fine os M) {s t : Pt} (h : On os s t) : s.2 ≤ t.2 ∧ (t.2 ≤ s.2 → s = t) := by
  obtain ⟨n, g⟩ := h
  have h1 := g.day f
  refine ⟨by omega, fun h2 => ?_⟩
  have : n = 0 := by omega
  subst this
  cases g
  rfl
theorem On.line {os : List Ordr} {s t u : Pt} (a : On os s t) (b : On os s u) : On os t u ∨ On os u t := by
  obtain ⟨n, g⟩ := a
  obtain ⟨m, h⟩ := b
  induction g generalizing m with
  | refl => exact .inl ⟨m, h⟩
  | step e g ih =>
    cases h with
    | refl => exact .inr ⟨_, .step e g⟩
    | step e' h => rw [e] at e'; cases e'; exact ih _ h
theorem go_same {os : List Ordr} {M : Int} (f : Fine os M) {s t : Pt} {n m : Nat} (a : Go os s n t) (b : Go os s m t) : n = m := by
  induction a generalizing m with
  | refl s =>
    have := b.day f
    omega
  | step e g ih =>
    cases b with
    | refl =>
      have := (Go.step e g).day f
      omega
    | step e' h => rw [e] at e'; cases e'; rw [ih h]
def FirstIn (os : List Ordr) (A B : Pt) : Option Pt → Prop
  | some C => On os A C ∧ On os B C ∧ ∀ D, On os A D → On os B D → On os C D
  | none => ∀ D, On os A D → ¬ On os B D
theorem FirstIn.symm {os : List Ordr} {A B : Pt} : ∀ {r : Option Pt}, FirstIn os A B r → FirstIn os B A r
  | some _, ⟨a, b, c⟩ => ⟨b, a, fun D x y => c D y x⟩
  | none, h => fun D a b => h D b a
theorem FirstIn.uniq {os : List Ordr} {M : Int} (f : Fine os M) {A B : Pt} : ∀ {r r' : Option Pt}, FirstIn os A B r → FirstIn os A B r' → r = r'
  | none, none, _, _ => rfl
  | none, some C, h, ⟨a, b, _⟩ => absurd b (h C a)
  | some C, none, ⟨a, b, _⟩, h => absurd b (h C a)
  | some C, some D, ⟨a, b, c⟩, ⟨a', b', c'⟩ => by
    have h1 := (c D a' b').day f
    have h2 := (c' C a b).day f
    rw [h1.2 h2.1]
theorem FirstIn.norm {os : List Ordr} {A B : Pt} {r : Option Pt} (h : FirstIn os (norm A B).1 (norm A B).2 r) : FirstIn os A B r := by
  unfold MF.norm at h
  split at h
  · exact h.symm
  · exact h
theorem FirstIn.back {os : List Ordr} {M : Int} (f : Fine os M) {A B e : Pt} (hp : A.2 ≤ B.2) (ne : A ≠ B) (hn : nxt os A = some e) : ∀ {r : Option Pt}, FirstIn os e B r → FirstIn os A B r := by
  have key : ∀ D, On os A D → On os B D → On os e D := fun D h1 h2 => by
    have nD : A ≠ D := fun z => by
      subst z
      have := (h2.day f).2 hp
      exact ne this.symm
    obtain ⟨u, h3, h4⟩ := h1.tail nD
    rw [hn] at h3
    cases h3
    exact h4
  intro r h
  cases r with
  | some C => exact ⟨On.trans ⟨1, Go.one hn⟩ h.1, h.2.1, fun D h1 h2 => h.2.2 D (key D h1 h2) h2⟩
  | none => exact fun D h1 h2 => h D (key D h1 h2) h2
theorem MGo.first {os : List Ordr} {M : Int} (f : Fine os M) {p q : Pr} {n : Nat} (g : MGo os p n q) (hp : p.1.2 ≤ p.2.2) {r : Option Pt} (h : FirstIn os q.1 q.2 r) : FirstIn os p.1 p.2 r := by
  induction g with
  | refl => exact h
  | @step p p' q n ne hs g ih =>
    unfold nstep at hs
    cases e : nxt os p.1 with
    | none => rw [e] at hs; cases hs
    | some u =>
      rw [e] at hs
      have hs' := Option.some.inj hs
      subst hs'
      exact (ih (norm_le _ _) h).norm.back f hp ne e
theorem Meets.first {os : List Ordr} {M : Int} (f : Fine os M) {A B : Pt} {r : Option Pt} (m : Meets os (MF.norm A B) r) : FirstIn os A B r := by
  refine FirstIn.norm ?_
  have hp := norm_le A B
  rcases m with ⟨n, C, g, rfl⟩ | ⟨n, q, g, ne, hn, rfl⟩
  · exact g.first f hp ⟨On.refl _ _, On.refl _ _, fun D h _ => h⟩
  · refine g.first f hp fun D h1 h2 => ?_
    have d := (g.days f hp).2.2
    by_cases c : q.1 = D
    · rw [← c] at h2
      exact ne ((h2.day f).2 d).symm
    · obtain ⟨u, h3, _⟩ := h1.tail c
      rw [hn] at h3
      cases h3
theorem Meets.comm {os : List Ordr} {M : Int} (f : Fine os M) {A B : Pt} {r r' : Option Pt} (m : Meets os (MF.norm A B) r) (m' : Meets os (MF.norm B A) r') : r' = r := FirstIn.uniq f (m'.first f).symm (m.first f)
theorem On.ends {os : List Ordr} {s t u : Pt} {n : Nat} (h : On os s t) (e : Ends os s n u) : ∃ m, Ends os t m u := by
  obtain ⟨k, g⟩ := h
  exact ⟨_, (e.after g).2⟩
theorem Ends.on {os : List Ordr} {s u : Pt} {n : Nat} (e : Ends os s n u) : On os s u := ⟨n, e.1⟩
end MF
set_option Elab.async false
set_option linter.all false
set_option maxRecDepth 100000
set_option maxHeartbeats 2000000
set_option pp.maxSteps 600
namespace MF
open PySem PySem.Spec PyProof.Rows L2 StX
section
theorem strOk_addr {z : Str} (h : isAddrB (.str z) = true) : PyData.strOk z = true := by
  simp only [isAddrB, Bool.and_eq_true, decide_eq_true_eq, List.all_eq_true] at h
  unfold PyData.strOk
  rw [← Array.all_toList, List.all_eq_true]
  intro c hc
  have hl : ∀ c ∈ letters.cps.toList, c < 1114112 := by decide
  exact decide_eq_true (hl c (by have := h.2 c hc; simpa using this))
theorem shaped_pt {z : Str} {d : Int} (h : isAddrB (.str z) = true) : SeqAt.shaped (.tuple [.str z, .int d]) = true := by
  have : (PyData.tuple [.str z, .int d]).canLay0 = true := by
    simp only [PyData.canLay0, PyData.canLayAll0, strOk_addr h, Bool.and_true]
  unfold SeqAt.shaped
  rw [this]
  rfl
theorem eqv_pt (A B : Pt) : PyData.eqv (.tuple [.str A.1, .int A.2]) (.tuple [.str B.1, .int B.2]) = decide (A = B) := by
  obtain ⟨a, b⟩ := A
  obtain ⟨c, d⟩ := B
  simp only [PyData.eqv, PyData.eqvAll, Bool.and_true]
  rw [Bool.eq_iff_iff]
  simp
end

end MF
set_option Elab.async false
set_option linter.all false
set_option maxRecDepth 100000
set_option maxHeartbeats 2000000
set_option pp.maxSteps 600
namespace MF
open PySem PySem.Spec PyProof.Rows L2 StX
section
variable {P : Program} {w : World} {K : PySem.W.Frag} {mg : Str → Option Value} {base : Heap} {C_Book C_Letter C_MailError C_InvalidOperation C_InvalidOrder C_UnknownOrder C_NotHolding C_DecodeError C_NotationError C_UnknownLetter C_InvalidAddress C_InvalidDay C_InvalidNumber C_Contradiction C_InvalidCount : Addr}
theorem op_inDK {X : Cx} {K : PySem.W.Frag} (hu : X.A.units + 65 < cLine) (h : X.K = K := by rfl) : OpR X (compareOp .In) (rInD K) := h ▸ op_inD hu
theorem op_notInDK {X : Cx} {K : PySem.W.Frag} (hu : X.A.units + 65 < cLine) (h : X.K = K := by rfl) : OpR X (compareOp .NotIn) (rNotInD K) := h ▸ op_notInD hu
def OptPt (H : Hp) (v : V) : Option Pt → Prop
  | none => v = .non
  | some C => ∃ p, v = .ref p ∧ H p = some (.tup [.str C.1, .int C.2])
def ptD (C : Pt) : PyData := .tuple [.str C.1, .int C.2]
def optD : Option Pt → PyData
  | none => .none
  | some C => ptD C
theorem OptPt.keep {H H' : Hp} {v : V} : ∀ {r : Option Pt}, OptPt H v r → (∀ b u, H b = some u → tupl u = true → H' b = some u) → OptPt H' v r
  | none, h, _ => h
  | some _, ⟨p, e, h⟩, k => ⟨p, e, k _ _ h rfl⟩
theorem OptPt.mono {H H' : Hp} {v : V} {r : Option Pt} (h : OptPt H v r) (s : Same H H') : OptPt H' v r := h.keep fun b u e _ => s b u e
theorem dp_pt {H : Hp} {p : Addr} {C : Pt} (h : H p = some (.tup [.str C.1, .int C.2])) : Dp K H (.ref p) (ptD C) := .tup (.inl (.inl h)) (.cons (.str _) (.cons (.int _) .nil))
theorem OptPt.dp {H : Hp} {v : V} : ∀ {r : Option Pt}, OptPt H v r → Dp K H v (optD r)
  | none, h => by rw [show v = .non from h]; exact .non
  | some _, ⟨p, e, h⟩ => by rw [e]; exact dp_pt h
theorem optD_shaped : ∀ {r : Option Pt}, (∀ C, r = some C → isAddrB (.str C.1) = true) → SeqAt.shaped (optD r) = true
  | none, _ => by decide
  | some C, h => shaped_pt (h C rfl)
theorem optD_lay : ∀ {r : Option Pt}, (∀ C, r = some C → isAddrB (.str C.1) = true) → (optD r).canLay0 = true
  | none, _ => by decide
  | some C, h => by
    show (PyData.tuple [.str C.1, .int C.2]).canLay0 = true
    simp only [PyData.canLay0, PyData.canLayAll0, strOk_addr (h C rfl), Bool.and_true]
theorem Go.addr {os : List Ordr} (g : Good os) {s t : Pt} {n : Nat} (h : Go os s n t) (hs : isAddrB (.str s.1) = true) : isAddrB (.str t.1) = true := by
  induction h with
  | refl => exact hs
  | step e _ ih =>
    obtain ⟨i, o, _, eo, _, rfl⟩ := nxt_some e
    exact ih (g.ok o (List.mem_of_getElem? eo)).at_
theorem On.addr {os : List Ordr} (g : Good os) {s t : Pt} (h : On os s t) (hs : isAddrB (.str s.1) = true) : isAddrB (.str t.1) = true := let ⟨_, z⟩ := h; z.addr g hs
end

end MF
set_option Elab.async false
set_option linter.all false
set_option maxRecDepth 100000
set_option maxHeartbeats 2000000
set_option pp.maxSteps 600
namespace MF
open PySem PySem.Spec PyProof.Rows L2 StX
section
variable {P : Program} {w : World} {K : PySem.W.Frag} {mg : Str → Option Value} {base : Heap} {C_Book C_Letter C_MailError C_InvalidOperation C_InvalidOrder C_UnknownOrder C_NotHolding C_DecodeError C_NotationError C_UnknownLetter C_InvalidAddress C_InvalidDay C_InvalidNumber C_Contradiction C_InvalidCount : Addr}
def lineT (t : Pt) : Str := dots8 t.1 ++ num30 t.2.toNat
def travelT (os : List Ordr) (n : Nat) (s : Pt) : Str := Txt.join "\n" ((routeL os n s).map lineT)
def spTravel (K : PySem.W.Frag) (CB : Addr) : Sp := fun vs H Q _ => ∃ bk os x d, ∃ n : Nat, vs = [.ref bk, .str x, .int d, .int (n : Int)] ∧ BookAt K CB H bk os ∧ Good os ∧ isAddrB (.str x) = true ∧ 0 ≤ d ∧ d ≤ 1000000000000000000 ∧ n ≤ 1000 ∧
  ∀ H', Same H H' → Q (.str (travelT os n (x, d))) H'
theorem Go.big {os : List Ordr} (g : Good os) {s t : Pt} {n : Nat} (h : Go os s n t) : s.2 ≤ t.2 ∧ t.2 ≤ s.2 + 30 * n := by
  induction h with
  | refl => omega
  | step e _ ih =>
    obtain ⟨i, o, _, eo, _, rfl⟩ := nxt_some e
    have ok := g.ok o (List.mem_of_getElem? eo)
    have h1 := ok.w1
    have h2 := ok.w30
    simp only at ih
    omega
theorem addr_len {z : Str} (h : isAddrB (.str z) = true) : 1 ≤ z.length ∧ z.length ≤ 8 := by
  simp only [isAddrB, Bool.and_eq_true, decide_eq_true_eq] at h
  exact h.1
theorem lineT_len {os : List Ordr} (g : Good os) {x : Str} {d : Int} {n : Nat} (ax : isAddrB (.str x) = true) (d0 : 0 ≤ d) (d1 : d ≤ 1000000000000000000) (n1 : n ≤ 1000) {t : Pt} (h : t ∈ routeL os n (x, d)) : t.1.length ≤ 8 ∧ 0 ≤ t.2 ∧ t.2.toNat < 10 ^ 22 := by
  obtain ⟨i, hi, go⟩ := routeL_mem.mp h
  have a := go.addr g ax
  obtain ⟨b1, b2⟩ := go.big g
  simp only at b1 b2
  exact ⟨(addr_len a).2, by omega, by omega⟩
theorem ok_travel (T : Top K mg C_Book C_Letter C_MailError C_InvalidOperation C_InvalidOrder C_UnknownOrder C_NotHolding C_DecodeError C_NotationError C_UnknownLetter C_InvalidAddress C_InvalidDay C_InvalidNumber C_Contradiction C_InvalidCount) : GFn P w K mg base CX0 6 "travel_list" (spTravel K C_Book) := by
  have Y_route : GGx P w K mg base 4 "route" (spRouteX K C_Book) := ok_routeX T
  refine T.d_travel_list.fn fun f fd F => F.ok sc_travel_list (fun vs H Q E h => ?_) (fun cdv A outer s H vs Q E hr h => ?_)
  · obtain ⟨bk, os, x, d, n, rfl, _⟩ := h
    rfl
  · obtain ⟨bk, os, x, d, n, rfl, B, g, ax, d0, d1, n1, k⟩ := h
    refine ⟨_, (pss_one (ps_ret (pe_join pe_str (pe_lcG (own := [("name", 4), ("arrival", 5)]) (g := (gTup K 2 (gCons (gName 4) (gCons (gName 5) gNil)))) (by rfl) (hr.mono (by decide)) sc_travel_list.nd (pgx_call Y_route (hr.mono (by decide)) (pa_cons (pv 0) (pa_cons (pv 1) (pa_cons (pv 2) (pa_cons (pv 3) pa_nil))))) (blkOk_by (own := [("name", 4), ("arrival", 5)]) (N := ["book", "address", "day", "count", "name", "arrival"]) (sc := defScope s_travel_list) (by decide +kernel)) (by decide +kernel) (fun _ _ _ _ _ => (pg_tup rfl (pgs_cons (pg_name (i := 4) sc_travel_list.nd rfl (Or.inl rfl)) (pgs_cons (pg_name (i := 5) sc_travel_list.nd rfl (Or.inl rfl)) pgs_nil)))) (fun _ _ _ _ _ => pts_nil) (fun _ _ _ _ _ => (pe_joined (PJ.cons (pe_fmt8 (pv 4)) (PJ.cons (pe_fmt30 (pv 5)) PJ.nil)))))))), ?_⟩
    refine ⟨⟨_, rfl⟩, ?_⟩
    refine ⟨_, rfl, _, rfl, _, rfl, _, rfl, (routeL os n (x, d)).map ptV, (fun H => BookAt K C_Book H bk os), ⟨bk, os, x, d, n, rfl, B, g, ax, d0, d1, n1, rfl, rfl⟩, fun D hD => ?_⟩
    have ln : (routeL os n (x, d)).length ≤ 1000 := Nat.le_trans routeL_len n1
    refine ⟨fun i H' => Same H H' ∧ H' D = some (.lst (((routeL os n (x, d)).take i).map fun t => V.str (lineT t))), ⟨Same.new hD, upd_same⟩, fun i H' ⟨s1, e1⟩ => ⟨B.mono s1, _, e1⟩, fun H' ⟨s1, e1⟩ H2 s2 => ?_, ?_⟩
    · rw [List.length_map, List.take_length] at e1
      refine ⟨"\n", D, (routeL os n (x, d)).map lineT, rfl, rfl, .inl (SqL.of ?_), ?_, k H2 (s1.trans s2)⟩
      · rw [List.map_map]
        exact s2 _ _ e1
      · have h38 : ∀ l : List Pt, (∀ t ∈ l, (lineT t).length = 38) → ((l.map lineT).map (·.length)).sum = 38 * l.length := fun l => by
          induction l with
          | nil => intro _; rfl
          | cons a l ih =>
            intro hl
            rw [List.map_cons, List.map_cons, List.sum_cons, ih fun t ht => hl t (List.mem_cons_of_mem _ ht), hl a List.mem_cons_self, List.length_cons]
            omega
        rw [h38 _ fun t ht => ?_, List.length_map]
        · have : Str.length "\n" = 1 := by decide +kernel
          rw [this]
          omega
        · obtain ⟨a1, a2, a3⟩ := lineT_len g ax d0 d1 n1 ht
          show (dots8 t.1 ++ num30 t.2.toNat).length = 38
          rw [Str.length_append, dots8_len a1, num30_len a3]
    · rintro i xs H1 ei ⟨s1, e1⟩ r H2 hr0 er s2
      rw [List.getElem?_map] at ei
      obtain ⟨t, et, rfl⟩ : ∃ t, (routeL os n (x, d))[i]? = some t ∧ ptV t = xs := by
        cases q : (routeL os n (x, d))[i]? with
        | none => rw [q] at ei; cases ei
        | some t => rw [q] at ei; cases ei; exact ⟨t, rfl, rfl⟩
      obtain ⟨a1, a2, a3⟩ := lineT_len g ax d0 d1 n1 (List.mem_of_getElem? et)
      have hi : i < (routeL os n (x, d)).length := (List.getElem?_eq_some_iff.mp et).1
      have en : ((t.2.toNat : Nat) : Int) = t.2 := by omega
      have l8 := dots8_len a1
      have l30 := num30_len a3
      refine ⟨r, _, rfl, .inl (.inl er), rfl, _, _, rfl, _, _, rfl, rfl, rfl, yesT (iteT ?_)⟩
      refine ⟨_, rfl, t.1, rfl, a1, dots8 t.1, rfl, ?_, ?_⟩
      · show (Str.empty ++ dots8 t.1).length ≤ sizeLine
        rw [Str.empty_append, l8]
        decide
      refine ⟨_, rfl, t.2.toNat, by rw [en], ?_, by rw [l30]; decide, num30 t.2.toNat, rfl, ?_, ?_⟩
      · have := (Nat.log2_lt (n := t.2.toNat) (k := 1920))
        by_cases c : t.2.toNat = 0
        · rw [c]; decide
        · exact (this c).mpr (Nat.lt_of_lt_of_le a3 (by decide +kernel))
      · rw [Str.length_append, Str.empty_append, l8, l30]
        decide
      refine ⟨_, s2 _ _ e1, ?_, ?_, ?_⟩
      · rw [List.length_map, List.length_take, sizeLine_eq]
        omega
      · intro b u e
        rw [upd_ne (ne_of_none e hD)]
        exact s2 _ _ (s1 _ _ e)
      · rw [upd_same, Str.empty_append, List.take_add_one, et, List.map_append]
        rfl
end

end MF
set_option Elab.async false
set_option linter.all false
set_option maxRecDepth 100000
set_option maxHeartbeats 2000000
set_option pp.maxSteps 600
namespace MF
open PySem PySem.Spec PyProof.Rows L2 StX
section
variable {P : Program} {w : World} {K : PySem.W.Frag} {mg : Str → Option Value} {base : Heap} {C_Book C_Letter C_MailError C_InvalidOperation C_InvalidOrder C_UnknownOrder C_NotHolding C_DecodeError C_NotationError C_UnknownLetter C_InvalidAddress C_InvalidDay C_InvalidNumber C_Contradiction C_InvalidCount : Addr}
theorem takeNS {X : Cx} {E : XK} (tk : Takes X fun cls d _ H => E cls d H) : Takes X fun cls d _ H => NSX X.K E cls d H := fun u s' x => by
  obtain ⟨a, B, sI, pins, σ, H, cls, d, rfl, I, nb, up, sky, na, os, ag, w⟩ := x
  exact tk _ _ ⟨a, B, sI, pins, σ, H, cls, d, rfl, I, nb, up, sky, na, os, ag, w.1⟩
def routeErrR (x d n : V) : Option Err := match letErr x d with
  | some e => some e
  | none => if isIntB n 0 1000 = true then none else some .number
def spRouteR (c : Cls5) : SpR := fun vs H E => ∃ b x d n e, vs = [b, x, d, n] ∧ notSeq x = true ∧ shortV x ∧ notSeq d = true ∧ notSeq n = true ∧ routeErrR x d n = some e ∧ ∀ H' cls, Same H H' → ErrAt c cls none H' e → E cls none H'
theorem okR_route (T : Top K mg C_Book C_Letter C_MailError C_InvalidOperation C_InvalidOrder C_UnknownOrder C_NotHolding C_DecodeError C_NotationError C_UnknownLetter C_InvalidAddress C_InvalidDay C_InvalidNumber C_Contradiction C_InvalidCount) : PRn P w K mg base 4 "route" (spRouteR ⟨C_InvalidOrder, C_UnknownOrder, C_InvalidAddress, C_InvalidDay, C_InvalidNumber, C_UnknownLetter, C_NotHolding, C_InvalidOperation, C_Contradiction, C_InvalidCount, C_DecodeError, C_NotationError⟩) := by
  have X_check_letter : GFn P w K mg base (L2.CX P w) 3 "check_letter" (spCheckX ⟨C_InvalidOrder, C_UnknownOrder, C_InvalidAddress, C_InvalidDay, C_InvalidNumber, C_UnknownLetter, C_NotHolding, C_InvalidOperation, C_Contradiction, C_InvalidCount, C_DecodeError, C_NotationError⟩) := okX_check_letter T
  have G_is_integer : GFn P w K mg base CX0 1 "is_integer" spIsInteger := ok_is_integer T
  refine T.d_route.genR sc_route (fun vs H E h => ?_) (fun f cdv A outer s H vs E pn hr h => ?_)
  · obtain ⟨b, x, d, n, e, rfl, _⟩ := h
    rfl
  · obtain ⟨b, x, d, n, e, rfl, nx, sx, nd, nn, he, kk⟩ := h
    refine ⟨_, (pss_cons (ps_expr (pe_gX X_check_letter (hr.mono (by decide)) passR (pa_cons (pv 1) (pa_cons (pv 2) pa_nil))))
      (pss_cons (ps_if (pt_not (pt_val (pe_g G_is_integer (hr.mono (by decide)) (pa_cons (pv 3) (pa_cons pe_int (pa_cons (pe_gint T.c_MAX_LISTED) pa_nil))))))
      (pss_one (ps_raise rfl takeR (pmk_0 T.x_InvalidNumber (pa_cons pe_str pa_nil))))
      pss_nil)
      pss_no)), ?_⟩
    refine ⟨_, rfl, _, rfl, x, d, rfl, nx, sx, nd, fun z H1 s1 => ?_, fun e' z H1 cls s1 h1 => ?_⟩
    · unfold routeErrR at he
      rw [z] at he
      refine ⟨_, rfl, n, _, _, rfl, nn, _, rfl, ?_⟩
      cases q : isIntB n 0 1000 with
      | true => rw [q] at he; cases he
      | false =>
        rw [q] at he
        cases he
        exact iteT ⟨by decide, kk _ _ s1 ⟨rfl, rfl⟩⟩
    · unfold routeErrR at he
      rw [z] at he
      cases he
      exact kk _ _ s1 h1
def spTravelX (c : Cls5) : Sp := fun vs H Q E => ∃ b x d n e, vs = [b, x, d, n] ∧ notSeq x = true ∧ shortV x ∧ notSeq d = true ∧ notSeq n = true ∧ routeErrR x d n = some e ∧ ∀ H' cls, Same H H' → ErrAt c cls none H' e → E cls none H'
theorem routeErrR_ns (T : Top K mg C_Book C_Letter C_MailError C_InvalidOperation C_InvalidOrder C_UnknownOrder C_NotHolding C_DecodeError C_NotationError C_UnknownLetter C_InvalidAddress C_InvalidDay C_InvalidNumber C_Contradiction C_InvalidCount) {x d n : V} {e : Err} (h : routeErrR x d n = some e) {cls : Value} {dd : Option Addr} {H : Hp} (he : ErrAt ⟨C_InvalidOrder, C_UnknownOrder, C_InvalidAddress, C_InvalidDay, C_InvalidNumber, C_UnknownLetter, C_NotHolding, C_InvalidOperation, C_Contradiction, C_InvalidCount, C_DecodeError, C_NotationError⟩ cls dd H e) : PySem.W.subIn K cls (.type "StopIteration") = some false := by
  unfold routeErrR letErr at h
  split at h
  · rename_i e' q
    cases h
    split at q
    · split at q
      · cases q
      · cases q
        obtain ⟨rfl, _⟩ := he
        exact T.ns_InvalidDay
    · cases q
      obtain ⟨rfl, _⟩ := he
      exact T.ns_InvalidAddress
  · split at h
    · cases h
    · cases h
      obtain ⟨rfl, _⟩ := he
      exact T.ns_InvalidNumber
theorem okX_travel (T : Top K mg C_Book C_Letter C_MailError C_InvalidOperation C_InvalidOrder C_UnknownOrder C_NotHolding C_DecodeError C_NotationError C_UnknownLetter C_InvalidAddress C_InvalidDay C_InvalidNumber C_Contradiction C_InvalidCount) : GFn P w K mg base (L2.CX P w) 6 "travel_list" (spTravelX ⟨C_InvalidOrder, C_UnknownOrder, C_InvalidAddress, C_InvalidDay, C_InvalidNumber, C_UnknownLetter, C_NotHolding, C_InvalidOperation, C_Contradiction, C_InvalidCount, C_DecodeError, C_NotationError⟩) := by
  have R_route : PRn P w K mg base 4 "route" (spRouteR ⟨C_InvalidOrder, C_UnknownOrder, C_InvalidAddress, C_InvalidDay, C_InvalidNumber, C_UnknownLetter, C_NotHolding, C_InvalidOperation, C_Contradiction, C_InvalidCount, C_DecodeError, C_NotationError⟩) := okR_route T
  refine T.d_travel_list.fnX sc_travel_list (fun vs H Q E h => ?_) (fun f cdv A outer s H vs Q E hr h => ?_)
  · obtain ⟨b, x, d, n, e, rfl, _⟩ := h
    rfl
  · obtain ⟨b, x, d, n, e, rfl, nx, sx, nd, nn, he, kk⟩ := h
    refine ⟨_, (pss_one (ps_ret (pe_join pe_str (pe_lcR (E := NSX K E) (own := [("name", 4), ("arrival", 5)]) rfl rfl rfl (takeNS takeE) NSX.ns (hr.mono (by decide)) sc_travel_list.nd
      (pgr_call R_route (hr.mono (by decide)) rfl (pa_cons (pv 0) (pa_cons (pv 1) (pa_cons (pv 2) (pa_cons (pv 3) pa_nil))))) (blkOk_by (own := [("name", 4), ("arrival", 5)]) (N := ["book", "address", "day", "count", "name", "arrival"]) (sc := defScope s_travel_list) (by decide +kernel)))))), ?_⟩
    refine ⟨⟨_, rfl⟩, _, rfl, _, rfl, _, rfl, _, rfl, b, x, d, n, e, rfl, nx, sx, nd, nn, he, fun H' cls s' h' => ⟨kk _ _ s' h', routeErrR_ns T he h'⟩⟩
end

end MF
set_option Elab.async false
set_option linter.all false
set_option maxRecDepth 100000
set_option maxHeartbeats 2000000
set_option pp.maxSteps 600
namespace MF
open PySem PySem.Spec PyProof.Rows L2 StX
section
variable {P : Program} {w : World} {K : PySem.W.Frag} {mg : Str → Option Value} {base : Heap} {C_Book C_Letter C_MailError C_InvalidOperation C_InvalidOrder C_UnknownOrder C_NotHolding C_DecodeError C_NotationError C_UnknownLetter C_InvalidAddress C_InvalidDay C_InvalidNumber C_Contradiction C_InvalidCount : Addr}
def grpS (n : Nat) : Str := ⟨(grp3 ((Nat.toDigits 10 n).map Char.toNat)).toArray⟩
def dotS (k : Nat) : Str := ⟨(List.replicate k 46).toArray⟩
theorem num30_grp (n : Nat) : num30 n = dotS (30 - (grpS n).length) ++ grpS n := by
  refine TL.ext_tl ?_
  rw [TL.tl_append]
  rfl
theorem dots8_dot (z : Str) : dots8 z = z ++ dotS (8 - z.length) := by
  refine TL.ext_tl ?_
  rw [TL.tl_append]
  rfl
theorem cutS_tl (z : Str) (lo hi : Option Int) : TL.tl (cutS z lo hi) = ((TL.tl z).drop (HT.sIx z.length 0 lo)).take (HT.sIx z.length z.length hi - HT.sIx z.length 0 lo) := rfl
theorem sIx_neg3 {n d : Nat} (h : 3 ≤ n) : HT.sIx n d (some (-3)) = n - 3 := by
  show (if (-3 : Int) < 0 then ((-3 : Int) + (n : Int)).toNat else min ((-3 : Int).toNat) n) = _
  rw [if_pos (by decide)]
  omega
def spGrouped : Sp := fun vs H Q _ => ∃ n : Nat, vs = [.int (n : Nat)] ∧ n < 10 ^ 22 ∧ Q (.str (grpS n)) H
theorem ok_grouped (T : Top K mg C_Book C_Letter C_MailError C_InvalidOperation C_InvalidOrder C_UnknownOrder C_NotHolding C_DecodeError C_NotationError C_UnknownLetter C_InvalidAddress C_InvalidDay C_InvalidNumber C_Contradiction C_InvalidCount) : GFn P w K mg base CX0 1 "_law_grouped" spGrouped := by
  refine T.d__law_grouped.fn fun f fd F => F.ok sc__law_grouped (fun vs H Q E h => ?_) (fun cdv A outer s H vs Q E hr h => ?_)
  · obtain ⟨n, rfl, _⟩ := h
    rfl
  · obtain ⟨n, rfl, hn, k⟩ := h
    refine ⟨_, (pss_cons (ps_par (i := 1) (j := 2) (by rfl) sc__law_grouped.nd rfl rfl (by decide) rfl rfl (pa_cons (pe_callTy call_str_any (by rfl) T.b_str (by decide +kernel) (pa_cons (pv 0) pa_nil)) (pa_cons pe_str pa_nil)) (by rfl))
  (pss_cons (ps_while PassesOwn.never (pt_cmpR op_gt (pe_callB call_len_str (by rfl) T.b_len (by decide +kernel) (pa_cons (pv 1) pa_nil)) pe_int (nomark _))
  (pss_cons (ps_set (i := 2) sc__law_grouped.nd rfl (Or.inl rfl) (pe_op op_add_str (pe_op op_add_str pe_str (pe_slice sl_str (pv 1) (po_some (pe_un un_neg pe_int)) po_none)) (pv 2)))
  (pss_one (ps_set (i := 1) sc__law_grouped.nd rfl (Or.inl rfl) (pe_slice sl_str (pv 1) po_none (po_some (pe_un un_neg pe_int)))))))
  (pss_one (ps_ret (pe_op op_add_str (pv 1) (pv 2)))))), ?_⟩
    have lg : ((n : Nat) : Int).natAbs.log2 < 1920 := by
      rw [Int.natAbs_natCast]
      by_cases c : n = 0
      · rw [c]; decide
      · exact (Nat.log2_lt c).mpr (Nat.lt_of_lt_of_le hn (by decide +kernel))
    refine ⟨_, rfl, .inl ⟨_, rfl, lg, ?_⟩⟩
    have l22 : (TL.numL n).length ≤ 22 := by
      show ((Nat.toDigits 10 n).map Char.toNat).length ≤ 22
      rw [List.length_map]
      exact digs_len hn
    refine ⟨_, _, rfl, fun (m : Nat) (σ : L2.St) (H' : Hp) => H' = H ∧ ∃ z fd : Str, ∃ r : Int, TL.tl z ≠ [] ∧ r ≤ 0 ∧ (TL.tl z).length ≤ m ∧ m ≤ 23 ∧ (TL.tl z).length ≤ 22 ∧ (TL.tl fd).length + 2 * (TL.tl z).length ≤ 44 ∧ groupsFromRight' 3 44 m (TL.tl z).reverse r (TL.tl fd) = grp3 (TL.numL n) ∧ σ = [some (V.int (n : Nat)), some (V.str z), some (V.str fd)], ⟨(TL.numL n).length + 1, rfl, _, _, 0, ?_, by decide, ?_, by omega, ?_, ?_, ?_, rfl⟩, ?_⟩
    · rw [TL.tl_num]
      exact digs_ne n
    · rw [TL.tl_num]
      omega
    · rw [TL.tl_num]
      exact l22
    · rw [TL.tl_num]
      show 0 + _ ≤ _
      omega
    · rw [TL.tl_num]
      rfl
    · rintro m σ H' ⟨rfl, z, fd, r, nz, r0, zm, m23, z22, f44, eg, rfl⟩
      obtain ⟨t, rfl⟩ : ∃ t, m = t + 1 := ⟨m - 1, by
        have : 1 ≤ (TL.tl z).length := List.length_pos_iff.mpr nz
        omega⟩
      rw [grp_step r0 (by simpa using nz), List.length_reverse] at eg
      have ez : z.length = (TL.tl z).length := TL.len_tl z
      have ef : fd.length = (TL.tl fd).length := TL.len_tl fd
      have len0 : ∀ x : Str, x.length ≤ 100 → x.length ≤ sizeLine := fun x h => Nat.le_trans h (by decide)
      refine ⟨_, rfl, z, rfl, len0 z (by omega), ?_⟩
      refine ⟨_, _, rfl, rfl, _, rfl, ?_⟩
      by_cases c : (TL.tl z).length ≤ 3
      · rw [if_pos c, List.reverse_reverse] at eg
        refine iteDN (by rw [ez]; omega) ?_
        refine ⟨_, rfl, _, rfl, z, fd, rfl, rfl, ?_, ?_⟩
        · exact Nat.le_trans (show z.length + fd.length ≤ 200 by omega) (by decide)
        · have : z ++ fd = grpS n := TL.ext_tl (by rw [TL.tl_append]; exact eg)
          rw [this]
          exact k
      · rw [if_neg c] at eg
        refine iteD (by rw [ez]; show (3 : Int) < _; omega) ?_
        have hc : TL.tl (cutS z (some (-3)) none) = (TL.tl z).drop ((TL.tl z).length - 3) := by
          rw [cutS_tl, HT.sIx_none, sIx_neg3 (by omega), ez, List.take_of_length_le (by rw [List.length_drop]; omega)]
        have hd : TL.tl (cutS z none (some (-3))) = (TL.tl z).take ((TL.tl z).length - 3) := by
          rw [cutS_tl, HT.sIx_none, sIx_neg3 (by omega), ez, Nat.sub_zero, List.drop_zero]
        refine ⟨_, fun _ _ h => h, ?_⟩
        have lc : (cutS z (some (-3)) none).length = 3 := by rw [TL.len_tl, hc, List.length_drop]; omega
        have ld : (cutS z none (some (-3))).length = (TL.tl z).length - 3 := by rw [TL.len_tl, hd, List.length_take]; omega
        have l1 : Str.length "," = 1 := by decide +kernel
        have t1 : TL.tl ("," : Str) = [44] := by decide +kernel
        refine ⟨_, rfl, 3, rfl, _, rfl, z, rfl, len0 z (by omega), ?_⟩
        refine ⟨_, _, rfl, rfl, Nat.le_trans (show _ ≤ 200 by rw [lc, l1]; omega) (by decide), ?_⟩
        refine ⟨_, rfl, _, _, rfl, rfl, Nat.le_trans (show _ ≤ 200 by rw [Str.length_append, lc, l1]; omega) (by decide), ?_⟩
        refine ⟨_, rfl, 3, rfl, _, rfl, z, rfl, len0 z (by omega), ?_⟩
        refine ⟨t, Nat.lt_succ_self _, rfl, _, _, r - 3 - 1, ?_, by omega, ?_, by omega, ?_, ?_, ?_, rfl⟩
        · intro q
          have := congrArg List.length q
          rw [hd, List.length_take] at this
          simp only [List.length_nil] at this
          omega
        · rw [hd, List.length_take]
          omega
        · rw [hd, List.length_take]
          omega
        · rw [hd, List.length_take, TL.tl_append, TL.tl_append, List.length_append, List.length_append, t1, hc, List.length_drop]
          simp only [List.length_cons, List.length_nil]
          omega
        · rw [hd, TL.tl_append, TL.tl_append, t1, hc, ← eg]
          have e1 : (List.take ((TL.tl z).length - 3) (TL.tl z)).reverse = List.drop 3 (TL.tl z).reverse := by
            rw [List.drop_reverse]
          have e2 : (List.take 3 (TL.tl z).reverse).reverse = List.drop ((TL.tl z).length - 3) (TL.tl z) := by
            rw [List.take_reverse, List.reverse_reverse]
          rw [e1, e2]
          rfl
end

end MF
set_option Elab.async false
set_option linter.all false
set_option maxRecDepth 100000
set_option maxHeartbeats 2000000
set_option pp.maxSteps 600
namespace MF
open PySem PySem.Spec PyProof.Rows L2 StX
section
variable {P : Program} {w : World} {K : PySem.W.Frag} {mg : Str → Option Value} {base : Heap} {C_Book C_Letter C_MailError C_InvalidOperation C_InvalidOrder C_UnknownOrder C_NotHolding C_DecodeError C_NotationError C_UnknownLetter C_InvalidAddress C_InvalidDay C_InvalidNumber C_Contradiction C_InvalidCount : Addr}
def nmS (k : Nat) : Str := ⟨#[97 + k]⟩
theorem nmS_inj {i j : Nat} (h : nmS i = nmS j) : i = j := by
  have h1 : (#[97 + i] : Array Nat) = #[97 + j] := congrArg Str.cps h
  have h2 : 97 + i = 97 + j := by simpa using h1
  omega
theorem nmS_addr {k : Nat} (h : k < 6) : isAddrB (.str (nmS k)) = true := by
  have : k = 0 ∨ k = 1 ∨ k = 2 ∨ k = 3 ∨ k = 4 ∨ k = 5 := by omega
  rcases this with rfl | rfl | rfl | rfl | rfl | rfl <;> decide +kernel
def nameT (n : Nat) : Str := cutS "abcdef" none (some ((n : Nat) : Int))
theorem names_at {n : Nat} (h2 : 2 ≤ n) (h6 : n ≤ 6) : (nameT n).length ≤ sizeLine ∧ ∀ k : Nat, k < n → (nameT n).cps.toList[k]? = some (97 + k) := by
  have : n = 2 ∨ n = 3 ∨ n = 4 ∨ n = 5 ∨ n = 6 := by omega
  rcases this with rfl | rfl | rfl | rfl | rfl <;> (refine ⟨by decide +kernel, ?_⟩; decide +kernel)
theorem names_ix {n : Nat} (h2 : 2 ≤ n) (h6 : n ≤ 6) {i : Int} (h0 : 0 ≤ i) (h1 : i < n) : atI (nameT n).cps.toList i = some (97 + i.toNat) := by
  have e : i = ((i.toNat : Nat) : Int) := by omega
  rw [e]
  exact atI_nat ((names_at h2 h6).2 _ (by omega))
theorem ints_ix {l : List Int} {i : Nat} (h : i < l.length) : atI (l.map V.int) (0 + (i : Int)) = some (V.int (l.getD i 0)) := by
  rw [Int.zero_add]
  refine atI_nat ?_
  rw [List.getElem?_map, List.getElem?_eq_getElem h, List.getD_eq_getElem?_getD, List.getElem?_eq_getElem h]
  rfl
def KeepR (rw : Addr) (H H' : Hp) : Prop := ∀ b u, H b = some u → b ≠ rw → H' b = some u
theorem KeepR.trans {rw : Addr} {H H1 H2 : Hp} (a : KeepR rw H H1) (b : KeepR rw H1 H2) : KeepR rw H H2 := fun c u e n => b c u (a c u e n) n
theorem KeepR.of {rw : Addr} {H H' : Hp} (s : Same H H') : KeepR rw H H' := fun b u e _ => s b u e
theorem RowAt.ex {H : Hp} {rw sc : Addr} {ns : List Int} (h : RowAt K H rw sc ns) : ∃ xs, H rw = some (.lst xs) := by
  obtain ⟨j, m, r, h1, _⟩ := h
  exact ⟨_, h1⟩
theorem KeepR.tup {rw sc : Addr} {ns : List Int} {H H' : Hp} (k : KeepR rw H H') (r : RowAt K H rw sc ns) : ∀ b u, H b = some u → tupl u = true → H' b = some u := fun b u e y => k b u e fun z => by
  obtain ⟨xs, h⟩ := r.ex
  rw [z, h] at e
  cases e
  cases y
theorem OrdsAt.keepR {H H' : Hp} {as : List Addr} {os : List Ordr} (h : OrdsAt K H as os) (k : ∀ b u, H b = some u → tupl u = true → H' b = some u) : OrdsAt K H' as os := PySem.Paired.mono (fun a o z => by
    rcases z with (z | ⟨u, z⟩) | z
    · exact .inl (.inl (k _ _ z rfl))
    · exact .inl (.inr ⟨u, k _ _ z rfl⟩)
    · exact .inr z) h
def spLaw (K : PySem.W.Frag) : Sp := fun vs H Q _ => ∃ (a : Addr) (ns : List Int), vs = [.ref a] ∧ SqL K H a (ns.map V.int) ∧ ns.length ≤ 63 ∧ ∀ H', Q (.bl true) H'
theorem row_new {H : Hp} {a rw : Addr} {ns : List Int} (hS : SqL K H a (ns.map V.int)) (h : H rw = none) : RowAt K (upd H rw (.lst [.ref a, .int 0, .int 0, .int 0])) rw a ns :=
  ⟨0, 0, 0, upd_same, .of0 hS (Same.new h) h, by decide, by decide⟩
theorem RowAt.via {H H1 H2 : Hp} {rw sc : Addr} {ns : List Int} (h : RowAt K H rw sc ns) (k : KeepR rw H H2) (h1 : RowAt K H1 rw sc ns) (e : ∀ u, H1 rw = some u → H2 rw = some u) : RowAt K H2 rw sc ns := by
  obtain ⟨j, m, r, a1, a2, a3⟩ := h1
  obtain ⟨j', m', r', b1, b2, b3⟩ := h
  exact ⟨j, m, r, e _ a1, b2.keep k, a3⟩
end

end MF
set_option Elab.async false
set_option linter.all false
set_option maxRecDepth 100000
set_option maxHeartbeats 2000000
set_option pp.maxSteps 600
namespace MF
open PySem PySem.Spec PyProof.Rows L2 StX
section
variable {P : Program} {w : World} {K : PySem.W.Frag} {mg : Str → Option Value} {base : Heap} {C_Book C_Letter C_MailError C_InvalidOperation C_InvalidOrder C_UnknownOrder C_NotHolding C_DecodeError C_NotationError C_UnknownLetter C_InvalidAddress C_InvalidDay C_InvalidNumber C_Contradiction C_InvalidCount : Addr}
def spDice (K : PySem.W.Frag) : Sp := fun vs H Q _ => ∃ sc ns, vs = [.ref sc] ∧ SqL K H sc ((ns : List Int).map V.int) ∧ ns.length ≤ 63 ∧ ∀ H' rw, Same H H' → H rw = none → RowAt K H' rw sc ns → Q (.ref rw) H'
theorem ok_dice (T : Top K mg C_Book C_Letter C_MailError C_InvalidOperation C_InvalidOrder C_UnknownOrder C_NotHolding C_DecodeError C_NotationError C_UnknownLetter C_InvalidAddress C_InvalidDay C_InvalidNumber C_Contradiction C_InvalidCount) : GFn P w K mg base CX0 1 "_law_dice" (spDice K) := by
  refine T.d__law_dice.fn fun f fd F => F.ok sc__law_dice (fun vs H Q E h => ?_) (fun cdv A outer s H vs Q E hr h => ?_)
  · obtain ⟨sc, ns, rfl, _⟩ := h
    rfl
  · obtain ⟨sc, ns, rfl, hS, hl, k⟩ := h
    refine ⟨_, (pss_cons (ps_set (i := 1) sc__law_dice.nd rfl (Or.inl rfl) pe_int)
  (pss_cons (ps_for PassesOwn.never rfl (pi_list (pv 0)) (pg_name (i := 2) sc__law_dice.nd rfl (Or.inl rfl))
  (pss_one (ps_set (i := 1) sc__law_dice.nd rfl (Or.inl rfl) (pe_op op_mod (pe_callTy call_int1 (by rfl) T.b_int (by decide +kernel) (pa_cons (pe_op op_add (pe_op op_add (pe_op op_mul (pv 1) pe_int) (pe_op op_mul (pe_op op_mod (pe_callTy call_int1 (by rfl) T.b_int (by decide +kernel) (pa_cons (pv 2) pa_nil)) pe_int) pe_int)) pe_int) pa_nil)) pe_int))))
  (pss_one (ps_ret (pe_lst (pa_cons (pv 0) (pa_cons pe_int (pa_cons (pe_op op_mul (pv 1) (pe_callTy call_int1 (by rfl) T.b_int (by decide +kernel) (pa_cons (pe_cmpR op_gt (pe_callB call_len_seq (by rfl) T.b_len (by decide +kernel) (pa_cons (pv 0) pa_nil)) pe_int (nomark _)) pa_nil))) (pa_cons pe_int pa_nil))))))))), ?_⟩
    refine ⟨_, rfl, sc, rfl, ⟨_, hS⟩, for_it (walk_list (xs := ns.map V.int)) (fun i σ H' => Same H H' ∧ ∃ m v2, σ = [some (.ref sc), some (.int m), v2] ∧ 0 ≤ m ∧ m < 2147483647) ⟨Same.refl _, 0, _, rfl, by decide, by decide⟩ (fun i σ H' _ p => p.1.seq hS) ?_ ?_⟩
    · rintro i y σ Hx H2 hi ⟨s2, m, v2, rfl, m0, m1⟩ ⟨rfl, ey⟩
      rw [List.length_map] at hi
      rw [List.getElem?_map, List.getElem?_eq_getElem hi] at ey
      cases ey
      generalize ns[i] = c
      have c0 : 0 ≤ c % 2147483647 := Int.emod_nonneg _ (by decide)
      have c1 : c % 2147483647 < 2147483647 := Int.emod_lt_of_pos _ (by decide)
      refine ⟨_, rfl, _, _, rfl, rfl, .inl ⟨by omega, by omega⟩, _, rfl, .inl ⟨_, rfl, _, _, rfl, rfl, (by show (0 : Int) < 2147483647; decide), _, _, rfl, rfl, .inl ⟨by omega, by omega⟩, _, _, rfl, rfl, _, _, rfl, rfl, .inl ⟨_, rfl, _, _, rfl, rfl, (by show (0 : Int) < 2147483647; decide), ?_⟩⟩⟩
      exact ⟨s2, _, _, rfl, Int.emod_nonneg _ (by decide), Int.emod_lt_of_pos _ (by decide)⟩
    · rintro σ H2 ⟨s2, m, v2, rfl, m0, m1⟩
      refine ⟨_, rfl, _, rfl, _, rfl, sc, _, rfl, .inl (s2.seq hS), _, _, rfl, rfl, .inr ⟨_, rfl, ?_⟩⟩
      generalize (decide ((2 : Int) < ((ns.map V.int).length : Nat))) = b
      refine ⟨_, _, rfl, rfl, .inl ⟨by omega, by omega⟩, (by show 4 ≤ sizeLine; decide), fun q hq => ?_⟩
      refine k _ q (s2.trans (Same.new hq)) (s2.free hq) ⟨0, m * (if b = true then 1 else 0), 0, upd_same, .of0 hS (s2.trans (Same.new hq)) (s2.free hq), ?_, ?_⟩
      · cases b <;> simp <;> omega
      · cases b <;> simp <;> omega
theorem ok_next (T : Top K mg C_Book C_Letter C_MailError C_InvalidOperation C_InvalidOrder C_UnknownOrder C_NotHolding C_DecodeError C_NotationError C_UnknownLetter C_InvalidAddress C_InvalidDay C_InvalidNumber C_Contradiction C_InvalidCount) : GFn P w K mg base CX0 1 "_law_next" (spTaken K) := by
  refine T.d__law_next.fn fun f fd F => F.ok sc__law_next (fun vs H Q E h => ?_) (fun cdv A outer s H vs Q E hr h => ?_)
  · obtain ⟨rw, sc, ns, many, rfl, _⟩ := h
    rfl
  · obtain ⟨rw', sc, ns, many, rfl, ⟨j, m, r, h1, h2, m0, m1⟩, p0, p1, k⟩ := h
    refine ⟨_, (pss_cons (ps_if (pt_cmpR op_gt (pe_ix ix_list (pv 0) pe_int (fun _ _ => rfl)) pe_int (nomark _))
  (pss_cons (ps_set (i := 2) sc__law_next.nd rfl (Or.inl rfl) (pe_op op_mod (pe_callTy call_int1 (by rfl) T.b_int (by decide +kernel) (pa_cons (pe_ix ix_list (pv 0) pe_int (fun _ _ => rfl)) pa_nil)) (pv 1)))
  (pss_cons (ps_asg (pe_op op_fdivW (pe_ix ix_list (pv 0) pe_int (fun _ _ => rfl)) (pv 1)) (pg_sub (pv 0) pe_int set_list))
  (pss_one (ps_ret (pv 2)))))
  pss_nil)
  (pss_cons (ps_asg (pe_op op_add (pe_ix ix_list (pv 0) pe_int (fun _ _ => rfl)) pe_int) (pg_sub (pv 0) pe_int set_list))
  (pss_cons (ps_if (pt_cmpR op_le (pe_ix ix_list (pv 0) pe_int (fun _ _ => rfl)) (pe_callB call_len_seq (by rfl) T.b_len (by decide +kernel) (pa_cons (pe_ix ix_list (pv 0) pe_int (fun _ _ => rfl)) pa_nil)) (nomark _))
  (pss_cons (ps_set (i := 3) sc__law_next.nd rfl (Or.inl rfl) (pe_ix ix_list (pe_ix ix_list (pv 0) pe_int (fun _ _ => rfl)) (pe_op op_sub (pe_ix ix_list (pv 0) pe_int (fun _ _ => rfl)) pe_int) (fun _ _ => rfl)))
  (pss_cons (ps_asg (pe_ifExp (pt_cmpR op_ge (pv 3) (pe_op op_pow pe_int pe_int) (nomark _)) (pe_op op_fdivW (pv 3) (pv 1)) pe_int) (pg_sub (pv 0) pe_int set_list))
  (pss_one (ps_ret (pe_op op_mod (pe_callTy call_int1 (by rfl) T.b_int (by decide +kernel) (pa_cons (pv 3) pa_nil)) (pv 1))))))
  pss_nil)
  (pss_cons (ps_asg (pe_op op_mod (pe_callTy call_int1 (by rfl) T.b_int (by decide +kernel) (pa_cons (pe_op op_mul (pe_ix ix_list (pv 0) pe_int (fun _ _ => rfl)) pe_int) pa_nil)) pe_int) (pg_sub (pv 0) pe_int set_list))
  (pss_one (ps_ret (pe_op op_mod (pe_callTy call_int1 (by rfl) T.b_int (by decide +kernel) (pa_cons (pe_op op_fdivW (pe_ix ix_list (pv 0) pe_int (fun _ _ => rfl)) pe_int) pa_nil)) (pv 1)))))))), ?_⟩
    have S1 := SqL.of (K := K) h1
    have dv : ∀ x, CDivW x many := fun x => ⟨p0, by
      have : many.natAbs < 2 ^ 60 := by omega
      have := (Nat.log2_lt (n := many.natAbs) (k := 60) (by omega)).mpr this
      omega⟩
    have mod0 : ∀ x : Int, 0 ≤ x % many ∧ x % many < many := fun x => ⟨Int.emod_nonneg _ (by omega), Int.emod_lt_of_pos _ p0⟩
    have fr : ∀ (o : HO) b u, H b = some u → b ≠ rw' → upd H rw' o b = some u := fun o b u e nb => by rw [upd_ne nb]; exact e
    refine ⟨_, rfl, rw', _, _, _, rfl, rfl, S1, rfl, _, _, rfl, rfl, _, rfl, ?_⟩
    refine ite2 (fun c1 => ?_) (fun c1 => ?_)
    · refine ⟨_, rfl, rw', _, _, _, rfl, rfl, S1, rfl, .inl ⟨_, rfl, _, rfl, _, _, rfl, rfl, p0, ?_⟩⟩
      refine ⟨_, rfl, rw', _, _, _, rfl, rfl, S1, rfl, _, rfl, _, _, rfl, rfl, dv _, _, rfl, rw', _, _, 3, rfl, rfl, h1, rfl, ?_⟩
      refine ⟨_, rfl, k _ _ (mod0 r).1 (mod0 r).2 ?_ (fr _)⟩
      exact ⟨j, m, r / many, upd_same, h2.keep (fr _), m0, m1⟩
    · refine ⟨_, rfl, rw', _, _, _, rfl, rfl, S1, rfl, _, _, rfl, rfl, _, rfl, rw', _, _, 1, rfl, rfl, h1, rfl, ?_⟩
      have h1' : upd H rw' (.lst ([.ref sc, .int (j : Nat), .int m, .int r].set 1 (.int ((j : Nat) + 1)))) rw' = some (.lst [.ref sc, .int ((j : Nat) + 1), .int m, .int r]) := upd_same
      have h2' := h2.keep (H' := upd H rw' (.lst ([.ref sc, .int (j : Nat), .int m, .int r].set 1 (.int ((j : Nat) + 1))))) (fr _)
      have fr1 := fr (.lst ([.ref sc, .int (j : Nat), .int m, .int r].set 1 (.int ((j : Nat) + 1))))
      generalize upd H rw' _ = H1 at h1' h2' fr1
      have S2 := SqL.of (K := K) h1'
      have fr2 : ∀ (o : HO) b u, H b = some u → b ≠ rw' → upd H1 rw' o b = some u := fun o b u e nb => by rw [upd_ne nb]; exact fr1 b u e nb
      have fr3 : ∀ (o : HO) b u, H1 b = some u → b ≠ rw' → upd H1 rw' o b = some u := fun o b u e nb => by rw [upd_ne nb]; exact e
      have modm : ∀ x : Int, 0 ≤ x % 2147483647 ∧ x % 2147483647 < 2147483647 := fun x => ⟨Int.emod_nonneg _ (by omega), Int.emod_lt_of_pos _ (by omega)⟩
      refine ⟨_, rfl, rw', _, _, _, rfl, rfl, S2, rfl, _, rfl, rw', _, _, _, rfl, rfl, S2, rfl, sc, _, rfl, .inl h2'.sq, _, _, rfl, rfl, _, rfl, ?_⟩
      refine ite2 (fun c2 => ?_) (fun c2 => ?_)
      · have c2' : (j : Int) + 1 ≤ ((ns.map V.int).length : Int) := of_decide_eq_true c2
        rw [List.length_map] at c2'
        have hj : j < ns.length := by omega
        have at1 : atI (ns.map V.int) ((j : Int) + 1 - 1) = some (V.int ns[j]) := by
          have : (j : Int) + 1 - 1 = (j : Int) := by omega
          rw [this]
          exact atI_nat (by simp [hj])
        refine ⟨_, rfl, rw', _, _, _, rfl, rfl, S2, rfl, _, rfl, rw', _, _, _, rfl, rfl, S2, rfl, _, _, rfl, rfl, sc, _, _, _, rfl, rfl, h2'.sq, at1, ?_⟩
        generalize ns[j] = cell
        have fin : ∀ z : Int, tRet (tOp (rI (fun _ j => 0 < j) fun i j => V.int (i % j)) (tCB (fun xs H Q => (∃ i, xs = [V.int i] ∧ Q (V.int i) H) ∨ ∃ k, xs = [V.bl k] ∧ Q (V.int (if k = true then 1 else 0)) H) (tCons (tVar 3) tNil)) (tVar 1)) { nx := fun _ _ => False, rt := Q } [some (.ref rw'), some (.int many), none, some (.int cell)] (upd H1 rw' (.lst [.ref sc, .int ((j : Nat) + 1), .int m, .int z])) := fun z => by
          refine ⟨_, rfl, .inl ⟨_, rfl, _, rfl, _, _, rfl, rfl, p0, ?_⟩⟩
          exact k _ _ (mod0 _).1 (mod0 _).2 ⟨j + 1, m, z, upd_same, h2'.keep (fr3 _), m0, m1⟩ (fr2 _)
        refine ⟨_, rfl, _, _, rfl, rfl, ⟨by decide, by decide, by decide⟩, _, _, rfl, rfl, _, rfl, ?_⟩
        refine ite2 (fun c3 => ?_) (fun c3 => ?_)
        · exact ⟨_, rfl, _, rfl, _, _, rfl, rfl, dv _, _, rfl, rw', _, _, 3, rfl, rfl, h1', rfl, fin _⟩
        · exact ⟨_, rfl, rw', _, _, 3, rfl, rfl, h1', rfl, fin _⟩
      · refine ⟨_, rfl, rw', _, _, _, rfl, rfl, S2, rfl, _, _, rfl, rfl, .inl ⟨by omega, by omega⟩, .inl ⟨_, rfl, _, _, rfl, rfl, (by show (0 : Int) < 2147483647; decide), _, rfl, rw', _, _, 2, rfl, rfl, h1', rfl, ?_⟩⟩
        refine ⟨_, rfl, rw', _, _, _, rfl, rfl, SqL.of upd_same, rfl, _, _, rfl, rfl, ⟨by decide, by decide⟩, .inl ⟨_, rfl, _, rfl, _, _, rfl, rfl, p0, ?_⟩⟩
        exact k _ _ (mod0 _).1 (mod0 _).2 ⟨j + 1, _, r, upd_same, h2'.keep (fr3 _), (modm _).1, (modm _).2⟩ (fr2 _)
def spPick (K : PySem.W.Frag) : Sp := fun vs H Q _ => ∃ rw sc ns l, ∃ xs : List V, vs = [.ref rw, .ref l] ∧ RowAt K H rw sc ns ∧ H l = some (.lst xs) ∧ l ≠ rw ∧ 0 < xs.length ∧ xs.length ≤ 1000000 ∧ ∀ (i : Nat) v H', xs[i]? = some v → RowAt K H' rw sc ns → KeepR rw H H' → Q v H'
theorem ok_pick (T : Top K mg C_Book C_Letter C_MailError C_InvalidOperation C_InvalidOrder C_UnknownOrder C_NotHolding C_DecodeError C_NotationError C_UnknownLetter C_InvalidAddress C_InvalidDay C_InvalidNumber C_Contradiction C_InvalidCount) : GFn P w K mg base CX0 2 "_law_pick" (spPick K) := by
  have G__law_next : GFn P w K mg base CX0 1 "_law_next" (spTaken K) := ok_next T
  refine T.d__law_pick.fn fun f fd F => F.ok sc__law_pick (fun vs H Q E h => ?_) (fun cdv A outer s H vs Q E hr h => ?_)
  · obtain ⟨rw, sc, ns, l, xs, rfl, _⟩ := h
    rfl
  · obtain ⟨rw, sc, ns, l, xs, rfl, R, hl, nl, x0, x1, k⟩ := h
    refine ⟨_, (pss_one (ps_ret (pe_ix ix_list (pv 1) (pe_g G__law_next (hr.mono (by decide)) (pa_cons (pv 0) (pa_cons (pe_callB call_len_seq (by rfl) T.b_len (by decide +kernel) (pa_cons (pv 1) pa_nil)) pa_nil))) (fun _ _ => rfl)))), ?_⟩
    refine ⟨_, rfl, _, rfl, _, rfl, l, _, rfl, .inl (SqL.of hl), rw, sc, ns, _, rfl, R, by omega, by omega, fun v H1 v0 v1 R1 k1 => ?_⟩
    obtain ⟨i, rfl⟩ := Int.eq_ofNat_of_zero_le v0
    have hi : i < xs.length := by omega
    have e : xs[i]? = some xs[i] := List.getElem?_eq_getElem hi
    exact ⟨l, xs, _, _, rfl, rfl, SqL.of (k1 _ _ hl nl), atI_nat e, k i _ H1 e R1 k1⟩
end

end MF
set_option Elab.async false
set_option linter.all false
set_option maxRecDepth 100000
set_option maxHeartbeats 2000000
set_option pp.maxSteps 600
namespace MF
open PySem PySem.Spec PyProof.Rows L2 StX
section
variable {P : Program} {w : World} {K : PySem.W.Frag} {mg : Str → Option Value} {base : Heap} {C_Book C_Letter C_MailError C_InvalidOperation C_InvalidOrder C_UnknownOrder C_NotHolding C_DecodeError C_NotationError C_UnknownLetter C_InvalidAddress C_InvalidDay C_InvalidNumber C_Contradiction C_InvalidCount : Addr}
theorem dp_strs {H : Hp} : ∀ ys : List Str, DpAll K H (ys.map V.str) (ys.map PyData.str)
  | [] => .nil
  | y :: ys => .cons (.str y) (dp_strs ys)
theorem eqv_strs : ∀ a b : List Str, PyData.eqvAll (a.map PyData.str) (b.map PyData.str) = decide (a = b)
  | [], [] => by simp [PyData.eqvAll]
  | [], b :: bs => by simp [PyData.eqvAll]
  | a :: as, [] => by simp [PyData.eqvAll]
  | a :: as, b :: bs => by
    rw [List.map_cons, List.map_cons, PyData.eqvAll, eqv_strs as bs]
    by_cases c : a = b
    · subst c
      simp [PyData.eqv]
    · simp [PyData.eqv, c]
theorem lay_strs {ys : List Str} (h : ∀ y ∈ ys, isAddrB (.str y) = true) : PyData.canLayAll0 (ys.map PyData.str) = true := by
  induction ys with
  | nil => simp [PyData.canLayAll0]
  | cons y ys ih =>
    rw [List.map_cons]
    simp only [PyData.canLayAll0, PyData.canLay0, ih fun z hz => h z (by simp [hz]), strOk_addr (h y (by simp)), Bool.and_self]
theorem depth_strs : ∀ ys : List Str, PyData.depthAll (ys.map PyData.str) ≤ 1
  | [] => by simp [PyData.depthAll]
  | y :: ys => by
    have := depth_strs ys
    rw [List.map_cons]
    simp only [PyData.depthAll, PyData.depth]
    omega
theorem shaped_strs {ys : List Str} (h : ∀ y ∈ ys, isAddrB (.str y) = true) : SeqAt.shaped (.list (ys.map PyData.str)) = true := by
  show ((PyData.list (ys.map PyData.str)).canLay0 && decide ((PyData.list (ys.map PyData.str)).depth ≤ 64)) = true
  rw [Bool.and_eq_true]
  refine ⟨?_, decide_eq_true ?_⟩
  · simp only [PyData.canLay0]
    exact lay_strs h
  · have := depth_strs ys
    simp only [PyData.depth]
    omega
end

end MF
set_option Elab.async false
set_option linter.all false
set_option maxRecDepth 100000
set_option maxHeartbeats 2000000
set_option pp.maxSteps 600
namespace MF
open PySem PySem.Spec PyProof.Rows L2 StX
section
variable {P : Program} {w : World} {K : PySem.W.Frag} {mg : Str → Option Value} {base : Heap} {C_Book C_Letter C_MailError C_InvalidOperation C_InvalidOrder C_UnknownOrder C_NotHolding C_DecodeError C_NotationError C_UnknownLetter C_InvalidAddress C_InvalidDay C_InvalidNumber C_Contradiction C_InvalidCount : Addr}
theorem sl_listK {X : Cx} {K : PySem.W.Frag} (h : X.K = K := by rfl) : SlR X (rSlL K) := h ▸ sl_list
structure DK (n : Nat) (d : PyData) : Prop where
  lay : d.canLay0 = true
  dep : d.depth ≤ n
  sm : smallD d = true
theorem dk_lay : ∀ {ds : List PyData}, (∀ d ∈ ds, d.canLay0 = true) → PyData.canLayAll0 ds = true
  | [], _ => by simp [PyData.canLayAll0]
  | d :: ds, h => by simp only [PyData.canLayAll0, h d List.mem_cons_self, dk_lay fun e he => h e (List.mem_cons_of_mem _ he), Bool.and_self]
theorem dk_dep {n : Nat} : ∀ {ds : List PyData}, (∀ d ∈ ds, d.depth ≤ n) → PyData.depthAll ds ≤ n
  | [], _ => by simp [PyData.depthAll]
  | d :: ds, h => by
    rw [PyData.depthAll]
    exact Nat.max_le.mpr ⟨h d List.mem_cons_self, dk_dep fun e he => h e (List.mem_cons_of_mem _ he)⟩
theorem dk_small : ∀ {ds : List PyData}, (∀ d ∈ ds, smallD d = true) → smallAll ds = true
  | [], _ => rfl
  | d :: ds, h => by simp only [smallAll, h d List.mem_cons_self, dk_small fun e he => h e (List.mem_cons_of_mem _ he), Bool.and_self]
theorem DK.list {n : Nat} {ds : List PyData} (h : ∀ d ∈ ds, DK n d) (hl : ds.length ≤ 1000000) : DK (n + 1) (.list ds) :=
  ⟨by simp only [PyData.canLay0]; exact dk_lay fun d hd => (h d hd).lay, by simp only [PyData.depth]; have := dk_dep fun d hd => (h d hd).dep; omega, by simp only [smallD, Bool.and_eq_true]; exact ⟨decide_eq_true hl, dk_small fun d hd => (h d hd).sm⟩⟩
theorem DK.tuple {n : Nat} {ds : List PyData} (h : ∀ d ∈ ds, DK n d) (hl : ds.length ≤ 1000000) : DK (n + 1) (.tuple ds) :=
  ⟨by simp only [PyData.canLay0]; exact dk_lay fun d hd => (h d hd).lay, by simp only [PyData.depth]; have := dk_dep fun d hd => (h d hd).dep; omega, by simp only [smallD, Bool.and_eq_true]; exact ⟨decide_eq_true hl, dk_small fun d hd => (h d hd).sm⟩⟩
theorem DK.int (n : Nat) (i : Int) : DK n (.int i) := ⟨by simp only [PyData.canLay0], by simp only [PyData.depth]; omega, rfl⟩
theorem DK.bl (n : Nat) (b : Bool) : DK n (.bool b) := ⟨by simp only [PyData.canLay0], by simp only [PyData.depth]; omega, rfl⟩
theorem DK.non (n : Nat) : DK n .none := ⟨by simp only [PyData.canLay0], by simp only [PyData.depth]; omega, rfl⟩
theorem DK.strk (n : Nat) {z : Str} (h : PyData.strOk z = true) : DK n (.str z) := ⟨by simp only [PyData.canLay0, h], by simp only [PyData.depth]; omega, rfl⟩
theorem DK.str (n : Nat) {z : Str} (h : isAddrB (.str z) = true) : DK n (.str z) := DK.strk n (strOk_addr h)
theorem DK.le {n m : Nat} {d : PyData} (h : DK n d) (hm : n ≤ m) : DK m d := ⟨h.lay, Nat.le_trans h.dep hm, h.sm⟩
theorem DK.cons {n : Nat} {d : PyData} {ds : List PyData} (h : DK n d) (t : ∀ e ∈ ds, DK n e) : ∀ e ∈ d :: ds, DK n e := fun e he => by
  rcases List.mem_cons.mp he with rfl | he
  · exact h
  · exact t e he
theorem DK.nil {n : Nat} : ∀ e ∈ ([] : List PyData), DK n e := fun e he => by cases he
theorem DK.map {α : Type} {n : Nat} {f : α → PyData} {l : List α} (h : ∀ x ∈ l, DK n (f x)) : ∀ d ∈ l.map f, DK n d := fun d hd => by
  obtain ⟨x, hx, rfl⟩ := List.mem_map.mp hd
  exact h x hx
theorem DK.rep {n k : Nat} {d : PyData} (h : DK n d) : ∀ e ∈ List.replicate k d, DK n e := fun e he => by
  rw [(List.mem_replicate.mp he).2]
  exact h
theorem DK.shaped {n : Nat} {d : PyData} (h : DK n d) (hn : n ≤ 64) : SeqAt.shaped d = true := by
  unfold SeqAt.shaped
  rw [h.lay, Bool.true_and]
  exact decide_eq_true (Nat.le_trans h.dep hn)
theorem dkMap {H : Hp} {α : Type} {f : α → V} {g : α → PyData} (h : ∀ x, Dp K H (f x) (g x)) : ∀ l : List α, DpAll K H (l.map f) (l.map g)
  | [] => .nil
  | x :: l => .cons (h x) (dkMap h l)
theorem dkMem {H : Hp} {f : V → PyData} : ∀ l : List V, (∀ x ∈ l, Dp K H x (f x)) → DpAll K H l (l.map f)
  | [], _ => .nil
  | x :: l, h => .cons (h x List.mem_cons_self) (dkMem l fun y hy => h y (List.mem_cons_of_mem _ hy))
theorem dkPair {H : Hp} {α β : Type} {R : α → β → Prop} {f : α → V} {g : β → PyData} (h : ∀ a b, R a b → Dp K H (f a) (g b)) : ∀ {as : List α} {bs : List β}, Paired R as bs → DpAll K H (as.map f) (bs.map g)
  | _, _, .nil => .nil
  | _, _, .cons a t => .cons (h _ _ a) (dkPair h t)
theorem dkRep {H : Hp} {v : V} {d : PyData} (h : Dp K H v d) : ∀ n, DpAll K H (List.replicate n v) (List.replicate n d)
  | 0 => .nil
  | n + 1 => .cons h (dkRep h n)
theorem eqvMap {α : Type} [DecidableEq α] {f : α → PyData} (h : ∀ a b, PyData.eqv (f a) (f b) = decide (a = b)) : ∀ l l' : List α, PyData.eqvAll (l.map f) (l'.map f) = decide (l = l')
  | [], [] => by simp [PyData.eqvAll]
  | [], b :: bs => by simp [PyData.eqvAll]
  | a :: as, [] => by simp [PyData.eqvAll]
  | a :: as, b :: bs => by
    rw [List.map_cons, List.map_cons, PyData.eqvAll, eqvMap h as bs, h]
    by_cases c : a = b
    · subst c
      simp
    · simp [c]
def ordDK (o : Ordr) : PyData := .tuple [.str o.src, .str o.tgt, .int o.first, .int o.last, .int o.way]
theorem DK.ord {o : Ordr} (h : o.Ok) : DK 1 (ordDK o) := .tuple (.cons (.str 0 h.as) (.cons (.str 0 h.at_) (.cons (.int 0 _) (.cons (.int 0 _) (.cons (.int 0 _) .nil))))) (by show 5 ≤ _; decide)
theorem dkOrds {H : Hp} {as : List Addr} {os : List Ordr} (h : OrdsAt K H as os) : DpAll K H (as.map V.ref) (os.map ordDK) :=
  dkPair (R := OrdAt K H) (fun a o oa => .tup oa (.cons (.str _) (.cons (.str _) (.cons (.int _) (.cons (.int _) (.cons (.int _) .nil)))))) h
theorem eqvOrd (o p : Ordr) : PyData.eqv (ordDK o) (ordDK p) = decide (o = p) := by
  obtain ⟨a, b, c, d, e⟩ := o
  obtain ⟨a', b', c', d', e'⟩ := p
  unfold ordDK
  simp only [PyData.eqv, PyData.eqvAll, Bool.and_true]
  rw [Bool.eq_iff_iff]
  simp
theorem eqvOrds (l l' : List Ordr) : PyData.eqvAll (l.map ordDK) (l'.map ordDK) = decide (l = l') := eqvMap eqvOrd l l'
theorem eqvInt (i j : Int) : PyData.eqv (.int i) (.int j) = decide (i = j) := rfl
end

end MF
set_option Elab.async false
set_option linter.all false
set_option maxRecDepth 100000
set_option maxHeartbeats 2000000
set_option pp.maxSteps 600
namespace MF
open PySem PySem.Spec PyProof.Rows L2 StX
section
variable {P : Program} {w : World} {K : PySem.W.Frag} {mg : Str → Option Value} {base : Heap} {C_Book C_Letter C_MailError C_InvalidOperation C_InvalidOrder C_UnknownOrder C_NotHolding C_DecodeError C_NotationError C_UnknownLetter C_InvalidAddress C_InvalidDay C_InvalidNumber C_Contradiction C_InvalidCount : Addr}
structure DrawnOs (most long : Nat) (os : List Ordr) : Prop where
  good : Good os
  len : os.length ≤ most
  names : ∀ o ∈ os, ∃ i j, i < 6 ∧ j < 6 ∧ o.src = nmS i ∧ o.tgt = nmS j
  tight : ∀ o ∈ os, o.last < (most : Int) * (14 + max 12 (long : Int))
  lasts : ∀ o ∈ os, o.last < (most : Int) * (27 + long)
  ways : ∀ o ∈ os, o.way ≤ 14
  spans : ∀ o ∈ os, o.last - o.first < max 12 (long : Int)
structure DrawnSo (B : Int) (i : Nat) (os : List Ordr) (kvs : List (Key × V)) : Prop where
  len : os.length ≤ i
  klen : kvs.length ≤ i
  ok : ∀ o ∈ os, o.Ok
  apart : os.Pairwise fun o p => overB o p = false
  names : ∀ o ∈ os, ∃ i j, i < 6 ∧ j < 6 ∧ o.src = nmS i ∧ o.tgt = nmS j
  ways : ∀ o ∈ os, o.way ≤ 14
  vals : ∀ s v, valV kvs (.inr s : Key) = some v → ∃ z : Int, v = .int z ∧ 0 ≤ z ∧ z ≤ i * B
  free : ∀ o ∈ os, ∃ z : Int, valV kvs (.inr o.src : Key) = some (.int z) ∧ o.last < z
  spans : ∀ o ∈ os, o.last - o.first < B - 14
theorem DrawnSo.nil (B : Int) : DrawnSo B 0 [] [] := ⟨Nat.le_refl _, Nat.le_refl _, (fun _ z => by cases z), .nil, (fun _ z => by cases z), (fun _ z => by cases z), (fun _ _ z => by cases z), (fun _ z => by cases z), (fun _ z => by cases z)⟩
theorem DrawnSo.skip {B : Int} {i : Nat} {os : List Ordr} {kvs : List (Key × V)} (b0 : 0 ≤ B) (D : DrawnSo B i os kvs) : DrawnSo B (i + 1) os kvs :=
  ⟨by have := D.len; omega, by have := D.klen; omega, D.ok, D.apart, D.names, D.ways, fun s v h => by
    obtain ⟨z, a, b, c⟩ := D.vals s v h
    refine ⟨z, a, b, ?_⟩
    push_cast
    rw [Int.add_mul, Int.one_mul]
    omega, D.free, D.spans⟩
theorem DrawnSo.snoc {B : Int} {i : Nat} {os : List Ordr} {kvs : List (Key × V)} (b0 : 0 ≤ B) (hB : (i : Int) * B ≤ 1000000) (hb : B ≤ 1000000) (D : DrawnSo B i os kvs) {a b : Nat} (ha : a < 6) (hb' : b < 6) (hne : nmS a ≠ nmS b) {f l w z : Int} (hz : (valV kvs (.inr (nmS a) : Key)).getD (.int 0) = .int z)
    (f0 : z ≤ f) (fl : f ≤ l) (lB : l + 1 ≤ z + B) (lf : l - f < B - 14) (w1 : 1 ≤ w) (w14 : w ≤ 14) : DrawnSo B (i + 1) (os ++ [⟨nmS a, nmS b, f, l, w⟩]) (putK kvs (.inr (nmS a)) (.int (l + 1))) := by
  have z0 : 0 ≤ z ∧ z ≤ i * B := by
    cases q : valV kvs (.inr (nmS a) : Key) with
    | none =>
      rw [q] at hz
      cases hz
      exact ⟨Int.le_refl _, Int.mul_nonneg (Int.natCast_nonneg _) b0⟩
    | some v =>
      obtain ⟨z', e1, e2, e3⟩ := D.vals _ _ q
      rw [q, e1] at hz
      cases hz
      exact ⟨e2, e3⟩
  have mem : ∀ {o}, o ∈ os ++ [(⟨nmS a, nmS b, f, l, w⟩ : Ordr)] → o ∈ os ∨ o = ⟨nmS a, nmS b, f, l, w⟩ := fun {o} h => by
    rcases List.mem_append.mp h with h | h
    · exact .inl h
    · exact .inr (List.mem_singleton.mp h)
  have eB : ((i + 1 : Nat) : Int) * B = i * B + B := by
    push_cast
    rw [Int.add_mul, Int.one_mul]
  refine ⟨?_, ?_, ?_, ?_, ?_, ?_, ?_, ?_, ?_⟩
  · rw [List.length_append]
    have := D.len
    show os.length + 1 ≤ i + 1
    omega
  · have := length_putK kvs (.inr (nmS a)) (.int (l + 1))
    have := D.klen
    omega
  · intro o h
    rcases mem h with h | rfl
    · exact D.ok o h
    · exact ⟨nmS_addr ha, nmS_addr hb', hne, by show 0 ≤ f; omega, fl, by show l ≤ _; omega, w1, by show w ≤ 30; omega⟩
  · refine List.pairwise_append.mpr ⟨D.apart, by simp, fun o ho p hp => ?_⟩
    rw [List.mem_singleton.mp hp]
    by_cases q : o.src = nmS a
    · obtain ⟨z', e1, e2⟩ := D.free o ho
      rw [q] at e1
      rw [e1] at hz
      cases hz
      have : ¬ f ≤ o.last := by omega
      show (_ && (_ && decide (f ≤ o.last))) = false
      rw [decide_eq_false this, Bool.and_false, Bool.and_false]
    · show (decide (o.src = nmS a) && _) = false
      rw [decide_eq_false q, Bool.false_and]
  · intro o h
    rcases mem h with h | rfl
    · exact D.names o h
    · exact ⟨a, b, ha, hb', rfl, rfl⟩
  · intro o h
    rcases mem h with h | rfl
    · exact D.ways o h
    · exact w14
  · intro s v h
    rw [valV_put] at h
    rw [eB]
    by_cases ea : (Sum.inr s : Key) = Sum.inr (nmS a)
    · rw [if_pos ea] at h
      cases h
      exact ⟨l + 1, rfl, by omega, by omega⟩
    · rw [if_neg ea] at h
      obtain ⟨z', e1, e2, e3⟩ := D.vals s v h
      exact ⟨z', e1, e2, by omega⟩
  · intro o h
    rw [valV_put]
    rcases mem h with h | rfl
    · by_cases ea : (Sum.inr o.src : Key) = Sum.inr (nmS a)
      · rw [if_pos ea]
        refine ⟨l + 1, rfl, ?_⟩
        obtain ⟨z', e1, e2⟩ := D.free o h
        rw [ea] at e1
        rw [e1] at hz
        cases hz
        omega
      · rw [if_neg ea]
        exact D.free o h
    · rw [if_pos rfl]
      exact ⟨l + 1, rfl, by show l < l + 1; omega⟩
  · intro o h
    rcases mem h with h | rfl
    · exact D.spans o h
    · exact lf
theorem overB_comm (o p : Ordr) : overB o p = overB p o := by
  unfold overB
  by_cases e : o.src = p.src
  · rw [decide_eq_true e, decide_eq_true e.symm, Bool.true_and, Bool.true_and, Bool.and_comm]
  · rw [decide_eq_false e, decide_eq_false (show ¬ p.src = o.src from fun z => e z.symm), Bool.false_and, Bool.false_and]
theorem DrawnSo.done {most long i t : Nat} {os : List Ordr} {kvs : List (Key × V)} (D : DrawnSo (14 + max 12 (long : Int)) i os kvs) (hi : i ≤ most) (hm : most ≤ 30) : DrawnOs most long (os.drop t ++ os.take t) := by
  have mem : ∀ {o}, o ∈ os.drop t ++ os.take t → o ∈ os := fun {o} h => by
    rcases List.mem_append.mp h with h | h
    · exact List.mem_of_mem_drop h
    · exact List.mem_of_mem_take h
  have el : (os.drop t ++ os.take t).length = os.length := by
    rw [List.length_append, List.length_drop, List.length_take]
    omega
  have hl := D.len
  have ap : (os.take t ++ os.drop t).Pairwise fun o p => overB o p = false := by
    rw [List.take_append_drop]
    exact D.apart
  obtain ⟨a1, a2, a3⟩ := List.pairwise_append.mp ap
  have tg : ∀ o ∈ os.drop t ++ os.take t, o.last < (most : Int) * (14 + max 12 (long : Int)) := fun o h => by
    obtain ⟨z, e1, e2⟩ := D.free o (mem h)
    obtain ⟨z', e3, e4, e5⟩ := D.vals _ _ e1
    cases e3
    have : (i : Int) * (14 + max 12 (long : Int)) ≤ (most : Int) * (14 + max 12 (long : Int)) := Int.mul_le_mul_of_nonneg_right (by omega) (by omega)
    omega
  refine ⟨⟨by omega, fun o h => D.ok o (mem h), ?_⟩, by omega, fun o h => D.names o (mem h), tg, fun o h => ?_, fun o h => D.ways o (mem h), fun o h => by have := D.spans o (mem h); omega⟩
  · exact List.pairwise_append.mpr ⟨a2, a1, fun o ho p hp => by rw [overB_comm]; exact a3 p hp o ho⟩
  · have h1 := tg o h
    have h2 : (most : Int) * (14 + max 12 (long : Int)) ≤ (most : Int) * (27 + long) := Int.mul_le_mul_of_nonneg_left (by omega) (by omega)
    omega
theorem cut_drop (xs : List V) (i : Nat) (h : i ≤ xs.length) : cutV xs (some (i : Int)) none = xs.drop i := by
  unfold cutV
  rw [HT.sIx_none, HT.sIx_nat, Nat.min_eq_left h, List.take_of_length_le (by rw [List.length_drop]; omega)]
theorem pairedDrop {α β : Type} {r : α → β → Prop} : ∀ {as : List α} {bs : List β} (n : Nat), PySem.Paired r as bs → PySem.Paired r (as.drop n) (bs.drop n)
  | _, _, 0, h => h
  | _, _, n + 1, .nil => .nil
  | _, _, n + 1, .cons _ h => pairedDrop n h
theorem pairedTake {α β : Type} {r : α → β → Prop} : ∀ {as : List α} {bs : List β} (n : Nat), PySem.Paired r as bs → PySem.Paired r (as.take n) (bs.take n)
  | _, _, 0, h => .nil
  | _, _, n + 1, .nil => .nil
  | _, _, n + 1, .cons h1 h => .cons h1 (pairedTake n h)
structure OSt (K : PySem.W.Frag) (H0 H : Hp) (rw sc : Addr) (ns : List Int) (lf df : Addr) (as : List Addr) (os : List Ordr) (kvs : List (Key × V)) (B : Int) (i : Nat) : Prop where
  kr : KeepR rw H0 H
  row : RowAt K H rw sc ns
  hl : H lf = some (.lst (as.map V.ref))
  hd : H df = some (.dK kvs)
  ords : OrdsAt K H as os
  D : DrawnSo B i os kvs
  nl : H0 lf = none
  nd : H0 df = none
  lr : lf ≠ rw
  dr : df ≠ rw
section
variable {H0 H H' : Hp} {rw sc lf df : Addr} {ns : List Int} {as : List Addr} {os : List Ordr} {kvs : List (Key × V)} {B : Int} {i : Nat}
theorem OSt.taken (S : OSt K H0 H rw sc ns lf df as os kvs B i) (R : RowAt K H' rw sc ns) (k : KeepR rw H H') : OSt K H0 H' rw sc ns lf df as os kvs B i :=
  ⟨S.kr.trans k, R, k _ _ S.hl S.lr, k _ _ S.hd S.dr, S.ords.keepR (k.tup S.row), S.D, S.nl, S.nd, S.lr, S.dr⟩
theorem OSt.same (S : OSt K H0 H rw sc ns lf df as os kvs B i) (s : Same H H') : OSt K H0 H' rw sc ns lf df as os kvs B i := S.taken (S.row.keep s) (KeepR.of s)
end
theorem pick3 {a b c v : Int} (h0 : 0 ≤ v) (h3 : v < 3) : ∃ z, atI [V.int a, .int b, .int c] v = some (.int z) ∧ (z = a ∨ z = b ∨ z = c) := by
  have : v = 0 ∨ v = 1 ∨ v = 2 := by omega
  rcases this with rfl | rfl | rfl
  · exact ⟨a, rfl, .inl rfl⟩
  · exact ⟨b, rfl, .inr (.inl rfl)⟩
  · exact ⟨c, rfl, .inr (.inr rfl)⟩
def spOrders (K : PySem.W.Frag) : Sp := fun vs H Q _ => ∃ rw sc ns, ∃ most long : Nat, vs = [.ref rw, .int (most : Nat), .int (long : Nat)] ∧ RowAt K H rw sc ns ∧ most ≤ 20 ∧ 1 ≤ long ∧ long ≤ 200 ∧
  ∀ H' l as os, KeepR rw H H' → H l = none → RowAt K H' rw sc ns → H' l = some (.lst (as.map V.ref)) → OrdsAt K H' as os → DrawnOs most long os → Q (.ref l) H'
end

end MF
set_option Elab.async false
set_option linter.all false
set_option maxRecDepth 100000
set_option maxHeartbeats 2000000
set_option pp.maxSteps 600
namespace MF
open PySem PySem.Spec PyProof.Rows L2 StX
section
variable {P : Program} {w : World} {K : PySem.W.Frag} {mg : Str → Option Value} {base : Heap} {C_Book C_Letter C_MailError C_InvalidOperation C_InvalidOrder C_UnknownOrder C_NotHolding C_DecodeError C_NotationError C_UnknownLetter C_InvalidAddress C_InvalidDay C_InvalidNumber C_Contradiction C_InvalidCount : Addr}
theorem abc_len : Str.length "abcdef" ≤ sizeLine := by decide +kernel
theorem abc_ix {i : Int} (h0 : 0 ≤ i) (h1 : i < 6) : atI (Str.cps "abcdef").toList i = some (97 + i.toNat) := by
  have : i = 0 ∨ i = 1 ∨ i = 2 ∨ i = 3 ∨ i = 4 ∨ i = 5 := by omega
  rcases this with rfl | rfl | rfl | rfl | rfl | rfl <;> decide +kernel
theorem KeepR.free {rw sc t : Addr} {ns : List Int} {H H' : Hp} (k : KeepR rw H H') (r : RowAt K H' rw sc ns) (h : H' t = none) : H t = none := by
  cases q : H t with
  | none => rfl
  | some u =>
    by_cases z : t = rw
    · obtain ⟨xs, e⟩ := r.ex
      rw [z, e] at h
      cases h
    · rw [k t u q z] at h
      cases h
end

end MF
set_option Elab.async false
set_option linter.all false
set_option maxRecDepth 100000
set_option maxHeartbeats 2000000
set_option pp.maxSteps 600
namespace MF
open PySem PySem.Spec PyProof.Rows L2 StX
section
variable {P : Program} {w : World} {K : PySem.W.Frag} {mg : Str → Option Value} {base : Heap} {C_Book C_Letter C_MailError C_InvalidOperation C_InvalidOrder C_UnknownOrder C_NotHolding C_DecodeError C_NotationError C_UnknownLetter C_InvalidAddress C_InvalidDay C_InvalidNumber C_Contradiction C_InvalidCount : Addr}
structure PS (K : PySem.W.Frag) (H0 H : Hp) (rw sc : Addr) (ns : List Int) (l : Addr) (as : List Addr) (os : List Ordr) : Prop where
  s0 : Same H0 H
  row : RowAt K H rw sc ns
  el : H l = some (.lst (as.map V.ref))
  ords : OrdsAt K H as os
  nl : l ≠ rw
theorem PS.same {H0 H H' : Hp} {rw sc : Addr} {ns : List Int} {l : Addr} {as : List Addr} {os : List Ordr} (S : PS K H0 H rw sc ns l as os) (s : Same H H') : PS K H0 H' rw sc ns l as os := ⟨S.s0.trans s, S.row.keep s, s _ _ S.el, S.ords.mono s, S.nl⟩
theorem PS.keepR {H0 H H' : Hp} {rw sc : Addr} {ns : List Int} {l : Addr} {as : List Addr} {os : List Ordr} (S : PS K H0 H rw sc ns l as os) (h0 : H0 rw = none) (r : RowAt K H' rw sc ns) (k : KeepR rw H H') : PS K H0 H' rw sc ns l as os :=
  ⟨fun b u e => k b u (S.s0 b u e) (ne_of_none e h0), r, k _ _ S.el S.nl, S.ords.keepR (k.tup S.row), S.nl⟩
theorem BookAt.keepR {C rw sc : Addr} {ns : List Int} {H H' : Hp} {bk : Addr} {os : List Ordr} (B : BookAt K C H bk os) (nb : bk ≠ rw) (R : RowAt K H rw sc ns) (k : KeepR rw H H') : BookAt K C H' bk os := B.kept (fun u e => k _ _ e nb) (k.tup R)
theorem RowAt.fresh {H : Hp} {rw sc p : Addr} {ns : List Int} (R : RowAt K H rw sc ns) (h : H p = none) : p ≠ rw := by
  obtain ⟨xs, q⟩ := R.ex
  exact (ne_of_none q h).symm
def farO (f l w : Int) : Ordr := ⟨"a", "g", f, l, w⟩
theorem far_good {most long : Nat} {os : List Ordr} {f l w : Int} (D : DrawnOs most long os) (hm : most ≤ 29) (hf : (most : Int) * (14 + max 12 (long : Int)) ≤ f) (h0 : 0 ≤ f) (hl : f ≤ l) (hl' : l ≤ 1000000000000000000) (hw : 1 ≤ w) (hw' : w ≤ 30) : Good (os ++ [farO f l w]) := by
  refine ⟨?_, fun o ho => ?_, ?_⟩
  · have := D.len
    rw [List.length_append]
    simp only [List.length_cons, List.length_nil]
    omega
  · rcases List.mem_append.mp ho with z | z
    · exact D.good.ok o z
    · rw [List.mem_singleton.mp z]
      exact ⟨by show isAddrB (.str "a") = true; decide, by show isAddrB (.str "g") = true; decide, by show ("a" : Str) ≠ "g"; decide, h0, hl, hl', hw, hw'⟩
  · refine List.pairwise_append.mpr ⟨D.good.apart, by simp, fun o ho p hp => ?_⟩
    rw [List.mem_singleton.mp hp]
    unfold overB
    have := D.tight o ho
    have : ¬ (farO f l w).first ≤ o.last := by
      show ¬ f ≤ o.last
      omega
    rw [decide_eq_false this, Bool.and_false, Bool.and_false]
end

end MF
set_option Elab.async false
set_option linter.all false
set_option maxRecDepth 100000
set_option maxHeartbeats 2000000
set_option pp.maxSteps 600
namespace MF
open PySem PySem.Spec PyProof.Rows L2 StX
section
variable {P : Program} {w : World} {K : PySem.W.Frag} {mg : Str → Option Value} {base : Heap} {C_Book C_Letter C_MailError C_InvalidOperation C_InvalidOrder C_UnknownOrder C_NotHolding C_DecodeError C_NotationError C_UnknownLetter C_InvalidAddress C_InvalidDay C_InvalidNumber C_Contradiction C_InvalidCount : Addr}
theorem tabs_keepR {T : List (Addr × Str)} {H H' : Hp} {rw sc : Addr} {ns : List Int} (R : RowAt K H rw sc ns) (t : LamX.Tabs T H) (k : KeepR rw H H') : LamX.Tabs T H' := fun p hp => by
  obtain ⟨xs, hr⟩ := R.ex
  obtain ⟨ps, h1, h2, h3⟩ := t p hp
  have ne : ∀ {b : Addr} {o : HO}, H b = some o → (∀ l, o ≠ .lst l) → H' b = some o := fun {b o} e n => k _ _ e fun z => by
    rw [z, hr] at e
    cases e
    exact n _ rfl
  refine ⟨ps, ne h1 (fun l z => by cases z), h2, fun pos cv hc => ?_⟩
  obtain ⟨c, e1, e2⟩ := h3 pos cv hc
  exact ⟨c, e1, ne e2 (fun l z => by cases z)⟩
theorem row_nil {H : Hp} {rw sc r : Addr} {ns : List Int} (R : RowAt K H rw sc ns) (z : H r = none) : r ≠ rw := fun e => by
  obtain ⟨xs, q⟩ := R.ex
  rw [← e, z] at q
  cases q
theorem row_extN {H H' : Hp} {rw sc : Addr} {ns : List Int} (R : RowAt K H rw sc ns) (e : LamX.ExtN H H') : RowAt K H' rw sc ns := by
  obtain ⟨j, m, r, h1, h2, h3⟩ := R
  refine ⟨j, m, r, e _ _ h1 (fun ps z => by cases z), ?_, h3⟩
  rcases h2 with ⟨h | ⟨o, h⟩, n⟩ | h
  · exact .inl ⟨.inl (e _ _ h (fun ps z => by cases z)), n⟩
  · exact .inl ⟨.inr ⟨o, e _ _ h (fun ps z => by cases z)⟩, n⟩
  · exact .inr h
theorem book_extN {C : Addr} {H H' : Hp} {p : Addr} {os : List Ordr} (h : BookAt K C H p os) (e : LamX.ExtN H H') : BookAt K C H' p os := by
  have h0 := h
  obtain ⟨dx, t, as, h1, _, _⟩ := h0
  refine h.kept (fun u hu => e _ _ hu (fun ps z => ?_)) (fun b u hu y => e _ _ hu (fun ps z => by rw [z] at y; cases y))
  rw [h1, Option.some.injEq] at hu
  rw [← hu] at z
  cases z
theorem tabs_but {T : List (Addr × Str)} {H H' : Hp} {lw : Addr} {xs : List V} (hr : H lw = some (.lst xs)) (t : LamX.Tabs T H) (k : ∀ b u, H b = some u → b ≠ lw → H' b = some u) : LamX.Tabs T H' := fun p hp => by
  obtain ⟨ps, h1, h2, h3⟩ := t p hp
  have ne : ∀ {b : Addr} {o : HO}, H b = some o → (∀ l, o ≠ .lst l) → H' b = some o := fun {b o} e n => k _ _ e fun z => by
    rw [z, hr] at e
    cases e
    exact n _ rfl
  refine ⟨ps, ne h1 (fun l z => by cases z), h2, fun pos cv hc => ?_⟩
  obtain ⟨c, e1, e2⟩ := h3 pos cv hc
  exact ⟨c, e1, ne e2 (fun l z => by cases z)⟩
theorem updS {H H2 : Hp} {q : Addr} {o : HO} (e : L2.upd H q o = H2) : (∀ b u, H b = some u → b ≠ q → H2 b = some u) ∧ H2 q = some o := by
  subst e
  exact ⟨fun b u h n => by rw [upd_ne n]; exact h, upd_same⟩
theorem upT {H H2 : Hp} {q : Addr} {xs : List V} (hq : H q = some (.lst xs)) (up : ∀ b u, H b = some u → b ≠ q → H2 b = some u) : ∀ b u, H b = some u → tupl u = true → H2 b = some u := fun b u e y => up _ _ e fun z => by
  rw [z, hq] at e
  cases e
  cases y
theorem keepR_ord {H H' : Hp} {rw sc : Addr} {ns : List Int} (R : RowAt K H rw sc ns) (k : ∀ b u, H b = some u → b ≠ rw → H' b = some u) {q : Addr} {o : Ordr} (h : OrdAt K H q o) : OrdAt K H' q o := by
  have : OrdsAt K H [q] [o] := .cons h .nil
  cases this.keepR (KeepR.tup k R) with
  | cons a _ => exact a
theorem ord_but {H H' : Hp} {q : Addr} {o : Ordr} (h : OrdAt K H q o) (k : ∀ b u, H b = some u → tupl u = true → H' b = some u) : OrdAt K H' q o := by
  have : OrdsAt K H [q] [o] := .cons h .nil
  cases this.keepR k with
  | cons a _ => exact a
theorem sq_extN {H H' : Hp} {l : Addr} {xs : List V} (h : SqL K H l xs) (e : LamX.ExtN H H') : SqL K H' l xs := by
  rcases h with (h | ⟨o, h⟩) | h
  · exact .inl (.inl (e _ _ h fun ps z => by cases z))
  · exact .inl (.inr ⟨o, e _ _ h fun ps z => by cases z⟩)
  · exact .inr h
theorem ords_extN {H H' : Hp} {as : List Addr} {os : List Ordr} (h : OrdsAt K H as os) (e : LamX.ExtN H H') : OrdsAt K H' as os := h.keepR fun b u hu y => e _ _ hu fun ps z => by rw [z] at y; cases y
def lawQ : Str := "law.<locals>.<lambda>"
end

end MF
set_option Elab.async false
set_option linter.all false
set_option maxRecDepth 100000
set_option maxHeartbeats 2000000
set_option pp.maxSteps 600
namespace MF
open PySem PySem.Spec PyProof.Rows L2 StX
section
variable {P : Program} {w : World} {K : PySem.W.Frag} {mg : Str → Option Value} {base : Heap} {C_Book C_Letter C_MailError C_InvalidOperation C_InvalidOrder C_UnknownOrder C_NotHolding C_DecodeError C_NotationError C_UnknownLetter C_InvalidAddress C_InvalidDay C_InvalidNumber C_Contradiction C_InvalidCount : Addr}
def D4 : List Str := ["a", "b", "c", "dd"]
theorem D4_addr : ∀ z ∈ D4, isAddrB (.str z) = true := by decide +kernel
structure OD (most : Int) (o : Ordr) : Prop where
  src : o.src ∈ D4
  tgt : o.tgt ∈ D4
  ne : o.src ≠ o.tgt
  f0 : 0 ≤ o.first
  fm : o.first < most
  fl : o.first ≤ o.last
  lm : o.last < o.first + most
  w1 : 1 ≤ o.way
  w5 : o.way ≤ 5
theorem OD.ok {most : Int} {o : Ordr} (h : OD most o) (hm : most ≤ 1000) : o.Ok := ⟨D4_addr _ h.src, D4_addr _ h.tgt, h.ne, h.f0, h.fl, by have := h.lm; have := h.fm; omega, h.w1, by have := h.w5; omega⟩
def spOrderD (K : PySem.W.Frag) : Sp := fun vs H Q _ => ∃ rw sc ns most, vs = [.ref rw, .int most] ∧ RowAt K H rw sc ns ∧ 1 ≤ most ∧ most ≤ 1000 ∧ ∀ H' q o, KeepR rw H H' → H q = none → RowAt K H' rw sc ns → OrdAt K H' q o → OD most o → Q (.ref q) H'
theorem ok_orderD (T : Top K mg C_Book C_Letter C_MailError C_InvalidOperation C_InvalidOrder C_UnknownOrder C_NotHolding C_DecodeError C_NotationError C_UnknownLetter C_InvalidAddress C_InvalidDay C_InvalidNumber C_Contradiction C_InvalidCount) : GFn P w K mg base CX0 3 "_law_order" (spOrderD K) := by
  have G__law_next : GFn P w K mg base CX0 1 "_law_next" (spTaken K) := ok_next T
  have G__law_pick : GFn P w K mg base CX0 2 "_law_pick" (spPick K) := ok_pick T
  refine T.d__law_order.fn fun f fd F => F.ok sc__law_order (fun vs H Q E h => ?_) (fun cdv A outer s H vs Q E hr h => ?_)
  · obtain ⟨rw, sc, ns, most, rfl, _⟩ := h
    rfl
  · obtain ⟨rw, sc, ns, most, rfl, R, m1, m2, k⟩ := h
    refine ⟨_, (pss_cons (ps_set (i := 2) sc__law_order.nd rfl (Or.inl rfl) (pe_lst (pa_cons pe_str (pa_cons pe_str (pa_cons pe_str (pa_cons pe_str pa_nil))))))
  (pss_cons (ps_set (i := 3) sc__law_order.nd rfl (Or.inl rfl) (pe_bm PySem.F.plainAttrs_list PySem.F.slot_list_pop PySem.F.type_list_pop mt_popAt (pv 2) (pa_cons (pe_g G__law_next (hr.mono (by decide)) (pa_cons (pv 0) (pa_cons pe_int pa_nil))) pa_nil)))
  (pss_cons (ps_set (i := 4) sc__law_order.nd rfl (Or.inl rfl) (pe_g G__law_next (hr.mono (by decide)) (pa_cons (pv 0) (pa_cons (pv 1) pa_nil))))
  (pss_one (ps_ret (pe_tup (pa_cons (pv 3) (pa_cons (pe_g G__law_pick (hr.mono (by decide)) (pa_cons (pv 0) (pa_cons (pv 2) pa_nil))) (pa_cons (pv 4) (pa_cons (pe_op op_add (pv 4) (pe_g G__law_next (hr.mono (by decide)) (pa_cons (pv 0) (pa_cons (pv 1) pa_nil)))) (pa_cons (pe_op op_add pe_int (pe_g G__law_next (hr.mono (by decide)) (pa_cons (pv 0) (pa_cons (pe_ix ix_list (pe_lst (pa_cons pe_int (pa_cons pe_int pa_nil))) (pe_g G__law_next (hr.mono (by decide)) (pa_cons (pv 0) (pa_cons pe_int pa_nil))) (fun _ _ => rfl)) pa_nil)))) pa_nil))))))))))), ?_⟩
    refine ⟨(by show 4 ≤ sizeLine; decide), ?_⟩
    intro ln hln
    generalize gH1 : L2.upd _ ln _ = H1
    obtain ⟨s1, e1⟩ := newS hln gH1
    clear gH1
    have R1 := R.keep s1
    have nl : ln ≠ rw := fun e => by obtain ⟨xs, q⟩ := R.ex; rw [← e, hln] at q; cases q
    refine ⟨_, rfl, .inl ⟨rfl, _, SqL.of e1⟩, _, rfl, rw, sc, ns, 4, rfl, R1, by decide, by decide, fun v H2 v0 v1 R2 k2 => ?_⟩
    have e2 : H2 ln = some (.lst (D4.map V.str)) := k2 _ _ e1 nl
    obtain ⟨i, rfl⟩ := Int.eq_ofNat_of_zero_le v0
    have i4 : i < 4 := by omega
    have sI : ∀ i : Nat, i < 4 → seqIndex? ((i : Nat) : Int) (D4.map V.str).length = some i := by decide
    have si : ∃ z, D4[i]? = some z := ⟨D4[i], List.getElem?_eq_getElem i4⟩
    obtain ⟨z, ez⟩ := si
    refine ⟨ln, _, _, i, .str z, rfl, rfl, e2, by omega, by omega, sI i i4, by rw [List.getElem?_map, ez]; rfl, ?_⟩
    have er : (D4.map V.str).eraseIdx i = (D4.eraseIdx i).map V.str := by rcases i with _ | _ | _ | _ | i <;> first | rfl | omega
    rw [er]
    generalize gH3 : L2.upd H2 ln _ = H3
    obtain ⟨up3, e3⟩ := updS gH3
    clear gH3
    have kr3 : KeepR rw H H3 := fun b u e n => up3 _ _ (k2 _ _ (s1 _ _ e) n) (ne_of_none e hln)
    have R3 : RowAt K H3 rw sc ns := R.via kr3 R2 fun u e => up3 _ _ e nl.symm
    refine ⟨_, rfl, _, rfl, rw, sc, ns, most, rfl, R3, by omega, by omega, fun f H4 f0 f1 R4 k4 => ?_⟩
    have e4 := k4 _ _ e3 nl
    have lD : (D4.eraseIdx i).length = 3 := by rw [List.length_eraseIdx_of_lt i4]; rfl
    refine ⟨_, rfl, _, rfl, _, rfl, rw, sc, ns, ln, _, rfl, R4, e4, nl, by rw [List.length_map]; omega, by rw [List.length_map]; omega, fun j v H5 ej R5 k5 => ?_⟩
    rw [List.getElem?_map] at ej
    obtain ⟨y, ey, rfl⟩ := Option.map_eq_some_iff.mp ej
    have nd : ∀ i : Nat, i < 4 → ∀ z, D4[i]? = some z → z ∉ D4.eraseIdx i := by decide
    have yz : z ≠ y := fun w => nd i i4 z ez (by rw [w]; exact List.mem_of_getElem? ey)
    refine ⟨_, rfl, _, rfl, _, rfl, _, rfl, rw, sc, ns, most, rfl, R5, by omega, by omega, fun g H6 g0 g1 R6 k6 => ?_⟩
    refine ⟨_, _, rfl, rfl, _, rfl, (by show 2 ≤ sizeLine; decide), ?_⟩
    intro q2 hq2
    generalize gH7 : L2.upd _ q2 _ = H7
    obtain ⟨s7, e7⟩ := newS hq2 gH7
    clear gH7
    have R7 := R6.keep s7
    have nq : q2 ≠ rw := fun e => by obtain ⟨xs, q⟩ := R6.ex; rw [← e, hq2] at q; cases q
    refine ⟨_, rfl, rw, sc, ns, 2, rfl, R7, by decide, by decide, fun v H8 v0 v1 R8 k8 => ?_⟩
    have e8 := k8 _ _ e7 nq
    have kr8 : KeepR rw H H8 := fun b u e n => k8 _ _ (s7 _ _ (k6 _ _ (k5 _ _ (k4 _ _ (kr3 _ _ e n) n) n) n)) n
    have fin : ∀ (u : Int) (H9 : Hp), 0 ≤ u → u < 5 → RowAt K H9 rw sc ns → KeepR rw H8 H9 → ∀ q, H9 q = none → Q (.ref q) (upd H9 q (.tup [.str z, .str y, .int f, .int (f + g), .int (1 + u)])) := fun u H9 u0 u1 R9 k9 q hq => by
      have hq0 : H q = none := by
        cases w : H q with
        | none => rfl
        | some o =>
          by_cases c : q = rw
          · obtain ⟨xs, z⟩ := R9.ex
            rw [← c, hq] at z
            cases z
          · have := k9 _ _ (kr8 _ _ w c) c
            rw [hq] at this
            cases this
      exact k _ q ⟨z, y, f, f + g, 1 + u⟩ (fun b o e n => by rw [upd_ne (ne_of_none (k9 _ _ (kr8 _ _ e n) n) hq)]; exact k9 _ _ (kr8 _ _ e n) n) hq0 (R9.keep (Same.new hq)) (.inl (.inl upd_same)) ⟨List.mem_of_getElem? ez, List.mem_of_mem_eraseIdx (List.mem_of_getElem? ey), yz, f0, f1, by show f ≤ f + g; omega, by show f + g < f + most; omega, by show 1 ≤ 1 + u; omega, by show 1 + u ≤ 5; omega⟩
    have v01 : v = 0 ∨ v = 1 := by omega
    rcases v01 with rfl | rfl
    · refine ⟨q2, _, _, _, rfl, rfl, SqL.of e8, rfl, rw, sc, ns, 2, rfl, R8, by decide, by decide, fun u H9 u0 u1 R9 k9 => ?_⟩
      exact ⟨_, _, rfl, rfl, (by show 5 ≤ sizeLine; decide), fin u H9 u0 (by omega) R9 k9⟩
    · refine ⟨q2, _, _, _, rfl, rfl, SqL.of e8, rfl, rw, sc, ns, 5, rfl, R8, by decide, by decide, fun u H9 u0 u1 R9 k9 => ?_⟩
      exact ⟨_, _, rfl, rfl, (by show 5 ≤ sizeLine; decide), fin u H9 u0 u1 R9 k9⟩
def fitsB (os : List Ordr) (o : Ordr) : Bool := !os.any fun p => overB p o
def spFits (K : PySem.W.Frag) : Sp := fun vs H Q _ => ∃ l as os q o, vs = [.ref l, .ref q] ∧ SqL K H l (as.map V.ref) ∧ OrdsAt K H as os ∧ os.length ≤ 1000 ∧ OrdAt K H q o ∧ ∀ H', Same H H' → Q (.bl (fitsB os o)) H'
theorem ok_fits (T : Top K mg C_Book C_Letter C_MailError C_InvalidOperation C_InvalidOrder C_UnknownOrder C_NotHolding C_DecodeError C_NotationError C_UnknownLetter C_InvalidAddress C_InvalidDay C_InvalidNumber C_Contradiction C_InvalidCount) : GFn P w K mg base CX0 1 "_law_fits" (spFits K) := by
  refine T.d__law_fits.fn fun f fd F => F.ok sc__law_fits (fun vs H Q E h => ?_) (fun cdv A outer s H vs Q E hr h => ?_)
  · obtain ⟨l, as, os, q, o, rfl, _⟩ := h
    rfl
  · obtain ⟨l, as, os, q, o, rfl, hl, ol, l1, oq, k⟩ := h
    have l1' := PySem.Paired.length ol
    refine ⟨_, (pss_one (ps_ret (pe_cmpR (op_eqD hr.units) (pe_lc (own := [("_law_one", 2)]) (g := (gName 2)) (by rfl) sc__law_fits.nd (pi_list (pv 0)) (blkOk_by (own := [("_law_one", 2)]) (N := ["_law_orders_here", "_law_order_here", "_law_one"]) (sc := defScope s__law_fits) (by decide +kernel)) (fun _ _ _ _ _ => (pg_name (i := 2) sc__law_fits.nd rfl (Or.inl rfl))) (fun _ _ _ _ _ => (pts_one (PW.pt (pw_and (pt_cmpR op_eq (pe_ix (ix_tupK (K := K)) (pv 2) pe_int (fun _ _ => rfl)) (pe_ix (ix_tupK (K := K)) (pv 1) pe_int (fun _ _ => rfl)) (nomark _)) (pw_and (pt_cmpR op_le (pe_ix (ix_tupK (K := K)) (pv 2) pe_int (fun _ _ => rfl)) (pe_ix (ix_tupK (K := K)) (pv 1) pe_int (fun _ _ => rfl)) (nomark _)) (pw_and1 (pt_cmpR op_le (pe_ix (ix_tupK (K := K)) (pv 1) pe_int (fun _ _ => rfl)) (pe_ix (ix_tupK (K := K)) (pv 2) pe_int (fun _ _ => rfl)) (nomark _)))))))) (fun _ _ _ _ _ => pe_int)) (pe_lst pa_nil) (nomark _)))), ?_⟩
    refine ⟨_, rfl, l, rfl, ⟨_, hl⟩, fun D hD => ?_⟩
    refine lc_it (walk_list (xs := as.map V.ref)) (fun i H' => Same H H' ∧ ∃ m : Nat, m ≤ i ∧ H' D = some (.lst (List.replicate m (V.int 1))) ∧ (m = 0 ↔ (os.take i).any (fun p => overB p o) = false)) ⟨Same.new hD, 0, Nat.le_refl _, upd_same, by simp⟩ (fun i H' _ p => p.1.seq hl) ?_ ?_
    · rintro i y Hx H3 hi ⟨s3, m, hm, e3, hz⟩ ⟨rfl, ey⟩
      rw [List.length_map] at hi
      obtain ⟨a, ea⟩ : ∃ a, as[i]? = some a := ⟨as[i], by simp [hi]⟩
      rw [List.getElem?_map, ea] at ey
      cases ey
      obtain ⟨p, ep, oa⟩ := Paired.get (ol.mono s3) ea
      have oq3 := oq.mono s3
      have ek : (os.take (i + 1)).any (fun p => overB p o) = ((os.take i).any (fun p => overB p o) || overB p o) := by
        rw [List.take_add_one, ep, List.any_append]
        simp
      rw [ek]
      refine ⟨rfl, _, rfl, a, _, _, _, rfl, rfl, oa, rfl, _, rfl, q, _, _, _, rfl, rfl, oq3, rfl, rfl, _, rfl, ?_⟩
      have no : overB p o = false → Same H H3 ∧ ∃ m, m ≤ i + 1 ∧ H3 D = some (HO.lst (List.replicate m (V.int 1))) ∧ (m = 0 ↔ ((List.take i os).any (fun p => overB p o) || overB p o) = false) := fun z => ⟨s3, m, by omega, e3, by rw [hz, z, Bool.or_false]⟩
      by_cases c1 : p.src = o.src
      · refine iteD (by rw [c1]) ?_
        refine ⟨_, rfl, a, _, _, _, rfl, rfl, oa, rfl, _, rfl, q, _, _, _, rfl, rfl, oq3, rfl, _, _, rfl, rfl, _, rfl, ?_⟩
        by_cases c2 : p.first ≤ o.last
        · refine iteD c2 ?_
          refine ⟨_, rfl, q, _, _, _, rfl, rfl, oq3, rfl, _, rfl, a, _, _, _, rfl, rfl, oa, rfl, _, _, rfl, rfl, _, rfl, ?_⟩
          by_cases c3 : o.first ≤ p.last
          · refine iteD c3 ?_
            refine ⟨_, e3, by rw [List.length_replicate, sizeLine_eq]; omega, fun b u e => ?_, m + 1, by omega, by rw [upd_same, List.replicate_succ'], ?_⟩
            · rw [upd_ne (ne_of_none e hD)]
              exact s3 _ _ e
            · have : overB p o = true := by
                unfold overB
                rw [decide_eq_true c1, decide_eq_true c2, decide_eq_true c3]
                rfl
              rw [this, Bool.or_true]
              simp
          · refine iteDN c3 (no ?_)
            unfold overB
            rw [decide_eq_false c3, Bool.and_false, Bool.and_false]
        · refine iteDN c2 (no ?_)
          unfold overB
          rw [decide_eq_false c2, Bool.false_and, Bool.and_false]
      · refine iteDN (fun z => c1 (V.str.inj z)) (no ?_)
        unfold overB
        rw [decide_eq_false c1, Bool.false_and]
    · rintro H3 ⟨s3, m, hm, e3, hz⟩
      have et : os.take (as.map V.ref).length = os := by rw [List.length_map, l1', List.take_length]
      rw [et] at hz
      rw [List.length_map] at hm
      refine ⟨Nat.zero_le _, ?_⟩
      intro z hz4
      generalize gH4 : L2.upd _ z _ = H4
      obtain ⟨s4, e4⟩ := newS hz4 gH4
      clear gH4
      have dk : DK 2 (.list ((List.replicate m ()).map fun _ => PyData.int 1)) := .list (DK.map fun _ _ => .int 1 _) (by rw [List.length_map, List.length_replicate]; omega)
      have er : List.replicate m (V.int 1) = (List.replicate m ()).map fun _ => V.int 1 := by rw [List.map_replicate]
      rw [er] at e3
      refine ⟨.list ((List.replicate m ()).map fun _ => PyData.int 1), .list [], .lst (SqL.of (s4 _ _ e3)) (dkMap (fun _ => .int _) _), .lst (SqL.of e4) .nil, dk.shaped (by decide), by decide +kernel, ?_⟩
      have : PyData.eqv (.list ((List.replicate m ()).map fun _ => PyData.int 1)) (.list []) = fitsB os o := by
        unfold fitsB
        cases m with
        | zero => rw [hz.mp rfl]; simp [PyData.eqv, PyData.eqvAll]
        | succ m =>
          have : os.any (fun p => overB p o) = true := by
            cases q : os.any (fun p => overB p o) with
            | true => rfl
            | false => exact absurd (hz.mpr q) (by omega)
          rw [this]
          simp [PyData.eqv, PyData.eqvAll, List.replicate_succ]
      rw [this]
      exact k _ (s3.trans s4)
end

end MF
set_option Elab.async false
set_option linter.all false
set_option maxRecDepth 100000
set_option maxHeartbeats 2000000
set_option pp.maxSteps 600
namespace MF
open PySem PySem.Spec PyProof.Rows L2 StX
section
variable {P : Program} {w : World} {K : PySem.W.Frag} {mg : Str → Option Value} {base : Heap} {C_Book C_Letter C_MailError C_InvalidOperation C_InvalidOrder C_UnknownOrder C_NotHolding C_DecodeError C_NotationError C_UnknownLetter C_InvalidAddress C_InvalidDay C_InvalidNumber C_Contradiction C_InvalidCount : Addr}
structure ODs (most : Int) (os : List Ordr) : Prop where
  all : ∀ o ∈ os, OD most o
  apart : os.Pairwise fun o p => overB o p = false
theorem ODs.good {most : Int} {os : List Ordr} (h : ODs most os) (hm : most ≤ 1000) (hl : os.length ≤ 30) : Good os := ⟨hl, fun o ho => (h.all o ho).ok hm, h.apart⟩
theorem ODs.nil {most : Int} : ODs most [] := ⟨(fun _ z => by cases z), .nil⟩
theorem ODs.snoc {most : Int} {os : List Ordr} (h : ODs most os) {o : Ordr} (ho : OD most o) (hf : fitsB os o = true) : ODs most (os ++ [o]) := by
  refine ⟨fun p hp => ?_, List.pairwise_append.mpr ⟨h.apart, by simp, fun p hp q hq => ?_⟩⟩
  · rcases List.mem_append.mp hp with z | z
    · exact h.all p z
    · rw [List.mem_singleton.mp z]; exact ho
  · rw [List.mem_singleton.mp hq]
    cases c : overB p o with
    | false => rfl
    | true =>
      have : os.any (fun p => overB p o) = true := List.any_eq_true.mpr ⟨p, hp, c⟩
      unfold fitsB at hf
      rw [this] at hf
      cases hf
def spOrdersD (K : PySem.W.Frag) : Sp := fun vs H Q _ => ∃ rw sc ns, ∃ many : Nat, ∃ most, vs = [.ref rw, .int (many : Nat), .int most] ∧ RowAt K H rw sc ns ∧ many ≤ 29 ∧ 1 ≤ most ∧ most ≤ 1000 ∧
  ∀ H' l as os, KeepR rw H H' → H l = none → RowAt K H' rw sc ns → H' l = some (.lst (as.map V.ref)) → OrdsAt K H' as os → os.length ≤ many → ODs most os → Q (.ref l) H'
theorem ok_ordersD (T : Top K mg C_Book C_Letter C_MailError C_InvalidOperation C_InvalidOrder C_UnknownOrder C_NotHolding C_DecodeError C_NotationError C_UnknownLetter C_InvalidAddress C_InvalidDay C_InvalidNumber C_Contradiction C_InvalidCount) : GFn P w K mg base CX0 4 "_law_orders" (spOrdersD K) := by
  have G__law_next : GFn P w K mg base CX0 1 "_law_next" (spTaken K) := ok_next T
  have G__law_order : GFn P w K mg base CX0 3 "_law_order" (spOrderD K) := ok_orderD T
  have G__law_fits : GFn P w K mg base CX0 1 "_law_fits" (spFits K) := ok_fits T
  refine T.d__law_orders.fn fun f fd F => F.ok sc__law_orders (fun vs H Q E h => ?_) (fun cdv A outer s H vs Q E hr h => ?_)
  · obtain ⟨rw, sc, ns, many, most, rfl, _⟩ := h
    rfl
  · obtain ⟨rw, sc, ns, many, most, rfl, R, hm, m1, m2, k⟩ := h
    refine ⟨_, (pss_cons (ps_set (i := 3) sc__law_orders.nd rfl (Or.inl rfl) (pe_lst pa_nil))
  (pss_cons (ps_for PassesOwn.never rfl (pi_range1 (by rfl) T.b_range (pa_cons (pe_g G__law_next (hr.mono (by decide)) (pa_cons (pv 0) (pa_cons (pe_op op_add (pv 1) pe_int) pa_nil))) pa_nil)) (pg_name (i := 4) sc__law_orders.nd rfl (Or.inl rfl))
  (pss_cons (ps_set (i := 5) sc__law_orders.nd rfl (Or.inl rfl) (pe_g G__law_order (hr.mono (by decide)) (pa_cons (pv 0) (pa_cons (pv 2) pa_nil))))
  (pss_one (ps_set (i := 3) sc__law_orders.nd rfl (Or.inl rfl) (pe_op op_cat (pv 3) (pe_ifExp (pt_val (pe_g G__law_fits (hr.mono (by decide)) (pa_cons (pv 3) (pa_cons (pv 5) pa_nil)))) (pe_lst (pa_cons (pv 5) pa_nil)) (pe_lst pa_nil)))))))
  (pss_one (ps_ret (pv 3))))), ?_⟩
    refine ⟨Nat.zero_le _, ?_⟩
    intro l0 hl0
    generalize gH1 : L2.upd _ l0 _ = H1
    obtain ⟨s1, e1⟩ := newS hl0 gH1
    clear gH1
    have R1 := R.keep s1
    have nl : l0 ≠ rw := R.fresh hl0
    refine ⟨_, rfl, _, rfl, _, _, rfl, rfl, rw, sc, ns, _, rfl, R1, by omega, by omega, fun v H2 v0 v1 R2 k2 => ?_⟩
    have e2 := k2 _ _ e1 nl
    refine ⟨v, rfl, by omega, by omega, for_it walk_range (fun i σ H' => KeepR rw H H' ∧ RowAt K H' rw sc ns ∧ ∃ l as os v4 v5, σ = [some (.ref rw), some (.int (many : Nat)), some (.int most), some (.ref l), v4, v5] ∧ H l = none ∧ l ≠ rw ∧ H' l = some (.lst ((as : List Addr).map V.ref)) ∧ OrdsAt K H' as os ∧ os.length ≤ i ∧ ODs most os)
      ⟨fun b u e n => k2 _ _ (s1 _ _ e) n, R2, l0, [], [], _, _, rfl, hl0, nl, e2, .nil, Nat.le_refl _, .nil⟩ (fun _ _ _ _ _ => trivial) ?_ ?_⟩
    · rintro i y σ Hx H3 hi ⟨kr, R3, l, as, os, v4, v5, rfl, fl, nl, el, ol, li, od⟩ ⟨rfl, rfl⟩
      have hi2 : i < v.toNat := hi
      have li' := PySem.Paired.length ol
      refine ⟨_, rfl, _, rfl, rw, sc, ns, most, rfl, R3, m1, m2, fun H4 q o kr4 fq R4 oq odo => ?_⟩
      have e4 := kr4 _ _ el nl
      have ol4 := ol.keepR (kr4.tup R3)
      refine ⟨_, rfl, _, rfl, _, rfl, l, as, os, q, o, rfl, SqL.of e4, ol4, by omega, oq, fun H5 s5 => ⟨_, rfl, ?_⟩⟩
      have fresh : ∀ {p : Addr} {H6 : Hp}, Same H4 H6 → H6 p = none → H p = none ∧ p ≠ rw := fun {p H6} s h => by
        have np : p ≠ rw := fun z => by
          obtain ⟨xs, w⟩ := R4.ex
          rw [← z] at w
          rw [s _ _ w] at h
          cases h
        refine ⟨?_, np⟩
        cases w : H p with
        | none => rfl
        | some u => rw [s _ _ (kr4 _ _ (kr _ _ w np) np)] at h; cases h
      cases hf : fitsB os o with
      | true =>
        refine iteT ?_
        refine ⟨_, rfl, (by show 1 ≤ sizeLine; decide), ?_⟩
        intro z hz
        generalize gH6 : L2.upd _ z _ = H6
        obtain ⟨s6, e6⟩ := newS hz gH6
        clear gH6
        have s56 := s5.trans s6
        refine ⟨l, z, _, _, rfl, rfl, s56 _ _ e4, e6, by rw [List.length_map, sizeLine_eq]; show as.length + 1 ≤ _; omega, ?_⟩
        intro l7 hl7
        generalize gH7 : L2.upd _ l7 _ = H7
        obtain ⟨s7, e7⟩ := newS hl7 gH7
        clear gH7
        have s47 := s56.trans s7
        refine ⟨fun b u e n => s47 _ _ (kr4 _ _ (kr _ _ e n) n), R4.keep s47, l7, as ++ [q], os ++ [o], _, _, rfl, (fresh s56 hl7).1, (fresh s56 hl7).2, by rw [e7, List.map_append]; rfl, Paired.append (ol4.mono s47) (.cons (oq.mono s47) .nil), by rw [List.length_append]; show os.length + 1 ≤ i + 1; omega, od.snoc odo hf⟩
      | false =>
        refine iteF ?_
        refine ⟨Nat.zero_le _, ?_⟩
        intro z hz
        generalize gH6 : L2.upd _ z _ = H6
        obtain ⟨s6, e6⟩ := newS hz gH6
        clear gH6
        have s56 := s5.trans s6
        refine ⟨l, z, _, _, rfl, rfl, s56 _ _ e4, e6, by rw [List.length_map, sizeLine_eq]; show as.length + 0 ≤ _; omega, ?_⟩
        intro l7 hl7
        generalize gH7 : L2.upd _ l7 _ = H7
        obtain ⟨s7, e7⟩ := newS hl7 gH7
        clear gH7
        have s47 := s56.trans s7
        refine ⟨fun b u e n => s47 _ _ (kr4 _ _ (kr _ _ e n) n), R4.keep s47, l7, as, os, _, _, rfl, (fresh s56 hl7).1, (fresh s56 hl7).2, by rw [e7, List.append_nil], ol4.mono s47, by omega, od⟩
    · rintro σ H3 ⟨kr, R3, l, as, os, v4, v5, rfl, fl, nl, el, ol, li, od⟩
      have li2 : os.length ≤ v.toNat := li
      exact ⟨_, rfl, k _ l as os kr fl R3 el ol (by omega) od⟩
end

end MF
set_option Elab.async false
set_option linter.all false
set_option maxRecDepth 100000
set_option maxHeartbeats 2000000
set_option pp.maxSteps 600
namespace MF
open PySem PySem.Spec PyProof.Rows L2 StX
section
variable {P : Program} {w : World} {K : PySem.W.Frag} {mg : Str → Option Value} {base : Heap} {C_Book C_Letter C_MailError C_InvalidOperation C_InvalidOrder C_UnknownOrder C_NotHolding C_DecodeError C_NotationError C_UnknownLetter C_InvalidAddress C_InvalidDay C_InvalidNumber C_Contradiction C_InvalidCount : Addr}
def terms12 : List Str := ["InvalidOperation", "InvalidOrder", "UnknownOrder", "NotHolding", "DecodeError", "NotationError", "UnknownLetter", "InvalidAddress", "InvalidDay", "InvalidNumber", "Contradiction", "InvalidCount"]
def FldAt (K : PySem.W.Frag) (H : Hp) (D : Addr) (d : Option Addr) (j : Nat) (vs : List V) : Prop :=
  if j < 4 then ∃ v dd, d = some dd ∧ H dd = some (.xd [("index", v)]) ∧ PySem.W.findIn K (.ref D) "index" = some none ∧ vs = [v]
  else if j = 4 then ∃ v dd, d = some dd ∧ H dd = some (.xd [("offset", v)]) ∧ PySem.W.findIn K (.ref D) "offset" = some none ∧ vs = [v]
  else if j = 5 then ∃ r c dd, d = some dd ∧ H dd = some (.xd [("word", c), ("row", r)]) ∧ PySem.W.findIn K (.ref D) "row" = some none ∧ PySem.W.findIn K (.ref D) "word" = some none ∧ vs = [r, c]
  else if j = 6 then ∃ v dd, d = some dd ∧ H dd = some (.xd [("letter", v)]) ∧ PySem.W.findIn K (.ref D) "letter" = some none ∧ vs = [v]
  else d = none ∧ vs = []
def b12 (j : Nat) : List Bool := (List.range 12).map fun i => decide (i = j)
theorem b12_count : ∀ j, j < 12 → (b12 j).count true = 1 := by decide
theorem ok_told {X : Cx} (hK : X.K = K) (hm : X.mg = mg) (T : Top K mg C_Book C_Letter C_MailError C_InvalidOperation C_InvalidOrder C_UnknownOrder C_NotHolding C_DecodeError C_NotationError C_UnknownLetter C_InvalidAddress C_InvalidDay C_InvalidNumber C_Contradiction C_InvalidCount) : LFn X "_law_told" "_law_work" (TTold RK ⟨C_InvalidOrder, C_UnknownOrder, C_InvalidAddress, C_InvalidDay, C_InvalidNumber, C_UnknownLetter, C_NotHolding, C_InvalidOperation, C_Contradiction, C_InvalidCount, C_DecodeError, C_NotationError⟩) := by
  subst hK
  subst hm
  obtain ⟨g, fd, F, hm, hb⟩ := T.d__law_told.ex
  obtain ⟨oc, od, kV, doc, pm, an, cdv, ct, osl, rfl, lk, hcd⟩ := F.ex
  refine ⟨⟨g, oc, od, defArgs s__law_told, defBody s__law_told, defScope s__law_told, .none, kV, doc, pm, cdv, ct, an, osl, ["_law_work", "e", "_law_some", "_law_terms", "_law_k"], hm, F.kp, lk, hcd, hb, sc__law_told, rfl, by first | exact .inl rfl | exact .inr (.inl rfl), ?_⟩⟩
  intro f s H Q ok tl hkeep act hok h hE65
  refine ⟨_, pss_one (ps_try_as (i := 1) (c := .ref C_MailError) (Wout := fun _ _ _ _ => False) rfl rfl sc__law_told.nd rfl rfl ⟨rfl, by decide, .inl T.g_MailError⟩ LamX.takes0 (fun W pn xe tk _ => pss_one (ps_ret (act W pn xe _ _ tk))) (fun a oe cls d pn hz hf =>
    (pss_cons (ps_set (i := 2) sc__law_told.nd rfl (Or.inl rfl) (pe_lst (pa_cons (pe_callB (call_isY hz hf) (by rfl) T.b_isinstance (by decide +kernel) (pa_cons (pv 1) (pa_cons (pe_glob (v := V.ref C_InvalidOperation) rfl T.g_InvalidOperation rfl) pa_nil))) (pa_cons (pe_callB (call_isY hz hf) (by rfl) T.b_isinstance (by decide +kernel) (pa_cons (pv 1) (pa_cons (pe_glob (v := V.ref C_InvalidOrder) rfl T.g_InvalidOrder rfl) pa_nil))) (pa_cons (pe_callB (call_isY hz hf) (by rfl) T.b_isinstance (by decide +kernel) (pa_cons (pv 1) (pa_cons (pe_glob (v := V.ref C_UnknownOrder) rfl T.g_UnknownOrder rfl) pa_nil))) pa_nil)))))
  (pss_cons (ps_set (i := 2) sc__law_told.nd rfl (Or.inl rfl) (pe_op op_cat (pv 2) (pe_lst (pa_cons (pe_callB (call_isY hz hf) (by rfl) T.b_isinstance (by decide +kernel) (pa_cons (pv 1) (pa_cons (pe_glob (v := V.ref C_NotHolding) rfl T.g_NotHolding rfl) pa_nil))) (pa_cons (pe_callB (call_isY hz hf) (by rfl) T.b_isinstance (by decide +kernel) (pa_cons (pv 1) (pa_cons (pe_glob (v := V.ref C_DecodeError) rfl T.g_DecodeError rfl) pa_nil))) (pa_cons (pe_callB (call_isY hz hf) (by rfl) T.b_isinstance (by decide +kernel) (pa_cons (pv 1) (pa_cons (pe_glob (v := V.ref C_NotationError) rfl T.g_NotationError rfl) pa_nil))) pa_nil))))))
  (pss_cons (ps_set (i := 2) sc__law_told.nd rfl (Or.inl rfl) (pe_op op_cat (pv 2) (pe_lst (pa_cons (pe_callB (call_isY hz hf) (by rfl) T.b_isinstance (by decide +kernel) (pa_cons (pv 1) (pa_cons (pe_glob (v := V.ref C_UnknownLetter) rfl T.g_UnknownLetter rfl) pa_nil))) (pa_cons (pe_callB (call_isY hz hf) (by rfl) T.b_isinstance (by decide +kernel) (pa_cons (pv 1) (pa_cons (pe_glob (v := V.ref C_InvalidAddress) rfl T.g_InvalidAddress rfl) pa_nil))) (pa_cons (pe_callB (call_isY hz hf) (by rfl) T.b_isinstance (by decide +kernel) (pa_cons (pv 1) (pa_cons (pe_glob (v := V.ref C_InvalidDay) rfl T.g_InvalidDay rfl) pa_nil))) pa_nil))))))
  (pss_cons (ps_set (i := 2) sc__law_told.nd rfl (Or.inl rfl) (pe_op op_cat (pv 2) (pe_lst (pa_cons (pe_callB (call_isY hz hf) (by rfl) T.b_isinstance (by decide +kernel) (pa_cons (pv 1) (pa_cons (pe_glob (v := V.ref C_InvalidNumber) rfl T.g_InvalidNumber rfl) pa_nil))) (pa_cons (pe_callB (call_isY hz hf) (by rfl) T.b_isinstance (by decide +kernel) (pa_cons (pv 1) (pa_cons (pe_glob (v := V.ref C_Contradiction) rfl T.g_Contradiction rfl) pa_nil))) (pa_cons (pe_callB (call_isY hz hf) (by rfl) T.b_isinstance (by decide +kernel) (pa_cons (pv 1) (pa_cons (pe_glob (v := V.ref C_InvalidCount) rfl T.g_InvalidCount rfl) pa_nil))) pa_nil))))))
  (pss_cons (ps_set (i := 3) sc__law_told.nd rfl (Or.inl rfl) (pe_lst (pa_cons pe_str (pa_cons pe_str (pa_cons pe_str (pa_cons pe_str (pa_cons pe_str (pa_cons pe_str pa_nil))))))))
  (pss_cons (ps_set (i := 3) sc__law_told.nd rfl (Or.inl rfl) (pe_op op_cat (pv 3) (pe_lst (pa_cons pe_str (pa_cons pe_str (pa_cons pe_str (pa_cons pe_str (pa_cons pe_str pa_nil))))))))
  (pss_cons (ps_set (i := 3) sc__law_told.nd rfl (Or.inl rfl) (pe_op op_cat (pv 3) (pe_lst (pa_cons pe_str (pa_cons pe_str pa_nil)))))
  (pss_cons (ps_set (i := 4) sc__law_told.nd rfl (Or.inl rfl) (pe_ifExp (PW.pt (pw_and (pt_cmpR op_eq (pe_bmK (K := X.K) PySem.F.plainAttrs_list PySem.F.slot_list_count PySem.F.type_list_count (mt_lcountBK (K := X.K)) (pv 2) (pa_cons pe_bl pa_nil)) pe_int (nomark _)) (pw_and1 (pt_val (pe_callB (call_isY hz hf) (by rfl) T.b_isinstance (by decide +kernel) (pa_cons (pv 1) (pa_cons (pe_bltn (v := .ty "ValueError") (by rfl) T.b_ValueError (by decide +kernel) rfl) pa_nil))))))) (pe_bmK (K := X.K) PySem.F.plainAttrs_list PySem.F.slot_list_index PySem.F.type_list_index (mt_indexDK (K := X.K) hE65) (pv 2) (pa_cons pe_bl pa_nil)) pe_int))
  (pss_cons (ps_if (pt_cmpR op_lt (pv 4) pe_int (nomark _))
  (pss_one (ps_ret (pe_tup (pa_cons pe_str (pa_cons (pe_ix (ix_listK (K := X.K)) (pv 3) (pv 4) (fun _ _ => rfl)) (pa_cons (pe_lst (pa_cons (pe_xfY hz hf (pv 1)) pa_nil)) pa_nil))))))
  pss_nil)
  (pss_cons (ps_if (pt_cmpR op_lt (pv 4) pe_int (nomark _))
  (pss_one (ps_ret (pe_tup (pa_cons pe_str (pa_cons (pe_ix (ix_listK (K := X.K)) (pv 3) (pv 4) (fun _ _ => rfl)) (pa_cons (pe_ifExp (pt_cmpR op_eq (pv 4) pe_int (nomark _)) (pe_lst (pa_cons (pe_xfY hz hf (pv 1)) pa_nil)) (pe_ifExp (pt_cmpR op_eq (pv 4) pe_int (nomark _)) (pe_lst (pa_cons (pe_xfY hz hf (pv 1)) (pa_cons (pe_xfY hz hf (pv 1)) pa_nil))) (pe_lst (pa_cons (pe_xfY hz hf (pv 1)) pa_nil)))) pa_nil))))))
  pss_nil)
  (pss_one (ps_ret (pe_tup (pa_cons pe_str (pa_cons (pe_ix (ix_listK (K := X.K)) (pv 3) (pv 4) (fun _ _ => rfl)) pa_nil))))))))))))))))), ?_⟩
  refine ⟨rfl, hok, _, fun cls d H' ⟨r, hrk, hr, hk⟩ => ?_, h⟩
  have fin : ∃ (D : Addr) (j : Nat) (vs : List V), cls = .ref D ∧ ErrC X.K D C_MailError ∧ j < 12 ∧ PySem.W.kitOne X.K (.ref D) (.ref C_InvalidOperation) = some (decide (0 = j)) ∧ PySem.W.kitOne X.K (.ref D) (.ref C_InvalidOrder) = some (decide (1 = j)) ∧ PySem.W.kitOne X.K (.ref D) (.ref C_UnknownOrder) = some (decide (2 = j)) ∧ PySem.W.kitOne X.K (.ref D) (.ref C_NotHolding) = some (decide (3 = j)) ∧ PySem.W.kitOne X.K (.ref D) (.ref C_DecodeError) = some (decide (4 = j)) ∧ PySem.W.kitOne X.K (.ref D) (.ref C_NotationError) = some (decide (5 = j)) ∧ PySem.W.kitOne X.K (.ref D) (.ref C_UnknownLetter) = some (decide (6 = j)) ∧ PySem.W.kitOne X.K (.ref D) (.ref C_InvalidAddress) = some (decide (7 = j)) ∧ PySem.W.kitOne X.K (.ref D) (.ref C_InvalidDay) = some (decide (8 = j)) ∧ PySem.W.kitOne X.K (.ref D) (.ref C_InvalidNumber) = some (decide (9 = j)) ∧ PySem.W.kitOne X.K (.ref D) (.ref C_Contradiction) = some (decide (10 = j)) ∧ PySem.W.kitOne X.K (.ref D) (.ref C_InvalidCount) = some (decide (11 = j)) ∧ DictSt H' d ∧ FldAt X.K H' D d j vs ∧ terms12[j]? = some (errT r).1 ∧ (errT r).2 = vs := by
    cases r with
    | order i =>
      exact (show False from hrk).elim
    | unknown i =>
      exact (show False from hrk).elim
    | address =>
      exact ⟨C_InvalidAddress, 7, _, hr.1, T.e_InvalidAddress, by decide, T.k_InvalidAddress_InvalidOperation, T.k_InvalidAddress_InvalidOrder, T.k_InvalidAddress_UnknownOrder, T.k_InvalidAddress_NotHolding, T.k_InvalidAddress_DecodeError, T.k_InvalidAddress_NotationError, T.k_InvalidAddress_UnknownLetter, T.k_InvalidAddress_InvalidAddress, T.k_InvalidAddress_InvalidDay, T.k_InvalidAddress_InvalidNumber, T.k_InvalidAddress_Contradiction, T.k_InvalidAddress_InvalidCount, (fun dd e => by rw [hr.2] at e; cases e), ⟨hr.2, rfl⟩, rfl, rfl⟩
    | day =>
      exact ⟨C_InvalidDay, 8, _, hr.1, T.e_InvalidDay, by decide, T.k_InvalidDay_InvalidOperation, T.k_InvalidDay_InvalidOrder, T.k_InvalidDay_UnknownOrder, T.k_InvalidDay_NotHolding, T.k_InvalidDay_DecodeError, T.k_InvalidDay_NotationError, T.k_InvalidDay_UnknownLetter, T.k_InvalidDay_InvalidAddress, T.k_InvalidDay_InvalidDay, T.k_InvalidDay_InvalidNumber, T.k_InvalidDay_Contradiction, T.k_InvalidDay_InvalidCount, (fun dd e => by rw [hr.2] at e; cases e), ⟨hr.2, rfl⟩, rfl, rfl⟩
    | number =>
      exact ⟨C_InvalidNumber, 9, _, hr.1, T.e_InvalidNumber, by decide, T.k_InvalidNumber_InvalidOperation, T.k_InvalidNumber_InvalidOrder, T.k_InvalidNumber_UnknownOrder, T.k_InvalidNumber_NotHolding, T.k_InvalidNumber_DecodeError, T.k_InvalidNumber_NotationError, T.k_InvalidNumber_UnknownLetter, T.k_InvalidNumber_InvalidAddress, T.k_InvalidNumber_InvalidDay, T.k_InvalidNumber_InvalidNumber, T.k_InvalidNumber_Contradiction, T.k_InvalidNumber_InvalidCount, (fun dd e => by rw [hr.2] at e; cases e), ⟨hr.2, rfl⟩, rfl, rfl⟩
    | letter i =>
      exact (show False from hrk).elim
    | holding i =>
      exact (show False from hrk).elim
    | operation i =>
      exact (show False from hrk).elim
    | contra =>
      exact (show False from hrk).elim
    | count =>
      exact (show False from hrk).elim
    | decode i =>
      exact (show False from hrk).elim
    | note r w =>
      exact (show False from hrk).elim
  obtain ⟨D, j, vs, hcls, EC, hj, k0, k1, k2, k3, k4, k5, k6, k7, k8, k9, k10, k11, hd, hfl, hnm, hvs⟩ := fin
  refine ⟨true, by rw [hcls]; exact EC.exm, fun _ a ha => ?_, fun z => by cases z⟩
  have ask : ∀ {H1 : Hp}, Same H' H1 → DictSt H1 d := fun s dd e => by
    obtain ⟨fs, z⟩ := hd dd e
    exact ⟨fs, s _ _ z⟩
  refine ⟨_, rfl, D, _, _, _, rfl, hcls, EC.exc, (fun u z => z), k0, ask (Same.refl _), _, rfl, D, _, _, _, rfl, hcls, EC.exc, (fun u z => z), k1, ask (Same.refl _), _, rfl, D, _, _, _, rfl, hcls, EC.exc, (fun u z => z), k2, ask (Same.refl _), (by show 3 ≤ sizeLine; decide), ?_⟩
  intro p1 h1
  generalize gH1 : L2.upd _ p1 _ = H1
  obtain ⟨s1, e1⟩ := newS h1 gH1
  clear gH1
  refine ⟨_, rfl, _, rfl, D, _, _, _, rfl, hcls, EC.exc, (fun u z => z), k3, ask s1, _, rfl, D, _, _, _, rfl, hcls, EC.exc, (fun u z => z), k4, ask s1, _, rfl, D, _, _, _, rfl, hcls, EC.exc, (fun u z => z), k5, ask s1, (by show 3 ≤ sizeLine; decide), ?_⟩
  intro p2 h2
  generalize gH2 : L2.upd _ p2 _ = H2
  obtain ⟨s2, e2⟩ := newS h2 gH2
  clear gH2
  have s02 := s1.trans s2
  refine ⟨p1, p2, _, _, rfl, rfl, s2 _ _ e1, e2, (by show 6 ≤ sizeLine; decide), ?_⟩
  intro p3 h3
  generalize gH3 : L2.upd _ p3 _ = H3
  obtain ⟨s3, e3⟩ := newS h3 gH3
  clear gH3
  have s03 := s02.trans s3
  refine ⟨_, rfl, _, rfl, D, _, _, _, rfl, hcls, EC.exc, (fun u z => z), k6, ask s03, _, rfl, D, _, _, _, rfl, hcls, EC.exc, (fun u z => z), k7, ask s03, _, rfl, D, _, _, _, rfl, hcls, EC.exc, (fun u z => z), k8, ask s03, (by show 3 ≤ sizeLine; decide), ?_⟩
  intro p4 h4
  generalize gH4 : L2.upd _ p4 _ = H4
  obtain ⟨s4, e4⟩ := newS h4 gH4
  clear gH4
  have s04 := s03.trans s4
  refine ⟨p3, p4, _, _, rfl, rfl, s4 _ _ e3, e4, (by show 9 ≤ sizeLine; decide), ?_⟩
  intro p5 h5
  generalize gH5 : L2.upd _ p5 _ = H5
  obtain ⟨s5, e5⟩ := newS h5 gH5
  clear gH5
  have s05 := s04.trans s5
  refine ⟨_, rfl, _, rfl, D, _, _, _, rfl, hcls, EC.exc, (fun u z => z), k9, ask s05, _, rfl, D, _, _, _, rfl, hcls, EC.exc, (fun u z => z), k10, ask s05, _, rfl, D, _, _, _, rfl, hcls, EC.exc, (fun u z => z), k11, ask s05, (by show 3 ≤ sizeLine; decide), ?_⟩
  intro p6 h6
  generalize gH6 : L2.upd _ p6 _ = H6
  obtain ⟨s6, e6⟩ := newS h6 gH6
  clear gH6
  have s06 := s05.trans s6
  refine ⟨p5, p6, _, _, rfl, rfl, s6 _ _ e5, e6, (by show 12 ≤ sizeLine; decide), ?_⟩
  intro p7 h7
  generalize gH7 : L2.upd _ p7 _ = H7
  obtain ⟨s7, e7⟩ := newS h7 gH7
  clear gH7
  have s07 := s06.trans s7
  have e7' : H7 p7 = some (.lst ((b12 j).map V.bl)) := e7
  clear e1 e2 e3 e4 e5 e6 e7 s02 s03 s04 s05 s06
  refine ⟨(by show 6 ≤ sizeLine; decide), ?_⟩
  intro q1 g1
  generalize gK1 : L2.upd _ q1 _ = K1
  obtain ⟨t1, f1⟩ := newS g1 gK1
  clear gK1
  refine ⟨_, rfl, (by show 5 ≤ sizeLine; decide), ?_⟩
  intro q2 g2
  generalize gK2 : L2.upd _ q2 _ = K2
  obtain ⟨t2, f2⟩ := newS g2 gK2
  clear gK2
  refine ⟨q1, q2, _, _, rfl, rfl, t2 _ _ f1, f2, (by show 11 ≤ sizeLine; decide), ?_⟩
  intro q3 g3
  generalize gK3 : L2.upd _ q3 _ = K3
  obtain ⟨t3, f3⟩ := newS g3 gK3
  clear gK3
  refine ⟨_, rfl, (by show 2 ≤ sizeLine; decide), ?_⟩
  intro q4 g4
  generalize gK4 : L2.upd _ q4 _ = K4
  obtain ⟨t4, f4⟩ := newS g4 gK4
  clear gK4
  refine ⟨q3, q4, _, _, rfl, rfl, t4 _ _ f3, f4, (by show 13 ≤ sizeLine; decide), ?_⟩
  intro q5 g5
  generalize gK5 : L2.upd _ q5 _ = K5
  obtain ⟨t5, f5⟩ := newS g5 gK5
  clear gK5
  have t15 := ((((t1.trans t2).trans t3).trans t4).trans t5)
  have s15 := s07.trans t15
  have ek := t15 _ _ e7'
  have f5' : K5 q5 = some (.lst ((terms12 ++ [("other" : Str)]).map V.str)) := f5
  clear f1 f2 f3 f4 f5 t1 t2 t3 t4 t5 t15 s07 e7'
  refine ⟨_, rfl, .inl ⟨rfl, _, SqL.of ek⟩, p7, b12 j, true, rfl, rfl, SqL.of ek, ?_⟩
  rw [b12_count j hj]
  refine ⟨rfl, _, rfl, iteD rfl ?_⟩
  refine ⟨_, rfl, D, _, _, true, rfl, hcls, EC.exc, (fun u z => z), EC.ve, ask s15, _, rfl, ?_⟩
  refine iteT ?_
  have hz : ((b12 j).map PyData.bool)[j]? = some (.bool true) := by
    unfold b12
    rw [List.getElem?_map, List.getElem?_map, List.getElem?_range hj]
    simp
  have hb' : ∀ m, m < j → (b12 j)[m]? = some false := fun m hm => by
    unfold b12
    rw [List.getElem?_map, List.getElem?_range (by omega)]
    simp; omega
  have sh : ∀ j, j < 12 → SeqAt.shaped (.list ((b12 j).map PyData.bool)) = true := by decide +kernel
  have dpb : ∀ l : List Bool, DpAll X.K K5 (l.map V.bl) (l.map PyData.bool) := fun l => by
    induction l with
    | nil => exact .nil
    | cons b l ih => exact .cons (.bl b) ih
  refine ⟨_, rfl, .inl ⟨rfl, _, SqL.of ek⟩, p7, _, .bool true, (b12 j).map PyData.bool, j, .bool true, rfl, rfl, .lst (SqL.of ek) (dpb _), .bl true, sh j hj, by decide +kernel, hz, by decide +kernel, fun m z' hm ez => ?_, ?_⟩
  · rw [List.getElem?_map, hb' m hm] at ez
    cases ez
    decide +kernel
  have hat : atI ((terms12 ++ [("other" : Str)]).map V.str) ((j : Nat) : Int) = some (.str (errT r).1) := atI_nat (by rw [List.getElem?_map, List.getElem?_append_left (by show j < 12; exact hj), hnm]; rfl)
  have xd : ∀ {dd : Addr} {fs : List (Str × V)}, H' dd = some (.xd fs) → K5 dd = some (.xd fs) := fun h => s15 _ _ h
  unfold FldAt at hfl
  have fin1 : ∀ (u : V), vs = [u] → ∀ K6 l, Same K5 K6 → K6 l = some (.lst [u]) → ∀ p, K6 p = none → Q (.ref p) (upd K6 p (.tup [.str "error", .str (errT r).1, .ref l])) := fun u hu K6 l s6 e6 p hp => by
    refine hk p _ ((s15.trans s6).trans (Same.new hp)) ((s15.trans s6).free hp) ?_
    unfold ToldAt
    rw [hvs, hu]
    exact ⟨l, upd_same, by rw [upd_ne (ne_of_none e6 hp)]; exact e6⟩
  refine ⟨_, rfl, _, _, rfl, rfl, _, rfl, ite2 (fun c => ?_) (fun c => ?_)⟩
  · have c' : j < 4 := by
      have : ((j : Nat) : Int) < 4 := of_decide_eq_true c
      omega
    rw [if_pos c'] at hfl
    obtain ⟨v, dd, ed, hx, hno, rfl⟩ := hfl
    refine ⟨_, rfl, _, rfl, q5, _, _, _, rfl, rfl, SqL.of f5', hat, _, rfl, rfl, D, dd, _, v, hcls, EC.xf, hno, ed, xd hx, (by simp [List.lookup]), (by show 1 ≤ sizeLine; decide), ?_⟩
    intro l6 hl6
    generalize gK6 : L2.upd _ l6 _ = K6
    obtain ⟨t6, f6⟩ := newS hl6 gK6
    clear gK6
    exact ⟨(by show 3 ≤ sizeLine; decide), fin1 v rfl K6 l6 t6 f6⟩
  have c4 : ¬ j < 4 := fun z => c (decide_eq_true (by show ((j : Nat) : Int) < 4; omega))
  rw [if_neg c4] at hfl
  refine ⟨_, rfl, _, _, rfl, rfl, _, rfl, ite2 (fun c => ?_) (fun c => ?_)⟩
  · have c' : j < 7 := by
      have : ((j : Nat) : Int) < 7 := of_decide_eq_true c
      omega
    refine ⟨_, rfl, _, rfl, q5, _, _, _, rfl, rfl, SqL.of f5', hat, ?_⟩
    by_cases j4 : j = 4
    · subst j4
      rw [if_pos rfl] at hfl
      obtain ⟨v, dd, ed, hx, hno, rfl⟩ := hfl
      refine ⟨_, rfl, rfl, _, rfl, iteD rfl ?_⟩
      refine ⟨_, rfl, rfl, D, dd, _, v, hcls, EC.xf, hno, ed, xd hx, (by simp [List.lookup]), (by show 1 ≤ sizeLine; decide), ?_⟩
      intro l6 hl6
      generalize gK6 : L2.upd _ l6 _ = K6
      obtain ⟨t6, f6⟩ := newS hl6 gK6
      clear gK6
      exact ⟨(by show 3 ≤ sizeLine; decide), fin1 v rfl K6 l6 t6 f6⟩
    rw [if_neg j4] at hfl
    refine ⟨_, rfl, rfl, _, rfl, iteDN (fun z => j4 (by have := V.int.inj z; omega)) ?_⟩
    by_cases j5 : j = 5
    · subst j5
      rw [if_pos rfl] at hfl
      obtain ⟨r1, c1, dd, ed, hx, hno, hno2, rfl⟩ := hfl
      refine ⟨_, rfl, rfl, _, rfl, iteD rfl ?_⟩
      refine ⟨_, rfl, rfl, D, dd, _, r1, hcls, EC.xf, hno, ed, xd hx, (by simp [List.lookup, show (("row" : Str) == "word") = false from by decide]), _, rfl, rfl, D, dd, _, c1, hcls, EC.xf, hno2, ed, xd hx, (by simp [List.lookup]), (by show 2 ≤ sizeLine; decide), ?_⟩
      intro l6 hl6
      generalize gK6 : L2.upd _ l6 _ = K6
      obtain ⟨t6, f6⟩ := newS hl6 gK6
      clear gK6
      refine ⟨(by show 3 ≤ sizeLine; decide), fun p hp => ?_⟩
      refine hk p _ ((s15.trans t6).trans (Same.new hp)) ((s15.trans t6).free hp) ?_
      unfold ToldAt
      rw [hvs]
      exact ⟨l6, upd_same, by rw [upd_ne (ne_of_none f6 hp)]; exact f6⟩
    rw [if_neg j5] at hfl
    have j6 : j = 6 := by omega
    rw [if_pos j6] at hfl
    obtain ⟨v, dd, ed, hx, hno, rfl⟩ := hfl
    refine ⟨_, rfl, rfl, _, rfl, iteDN (fun z => j5 (by have := V.int.inj z; omega)) ?_⟩
    refine ⟨_, rfl, rfl, D, dd, _, v, hcls, EC.xf, hno, ed, xd hx, (by simp [List.lookup]), (by show 1 ≤ sizeLine; decide), ?_⟩
    intro l6 hl6
    generalize gK6 : L2.upd _ l6 _ = K6
    obtain ⟨t6, f6⟩ := newS hl6 gK6
    clear gK6
    exact ⟨(by show 3 ≤ sizeLine; decide), fin1 v rfl K6 l6 t6 f6⟩
  · have c7 : ¬ j < 7 := fun z => c (decide_eq_true (by show ((j : Nat) : Int) < 7; omega))
    rw [if_neg (by omega), if_neg (by omega), if_neg (by omega)] at hfl
    obtain ⟨_, rfl⟩ := hfl
    refine ⟨_, rfl, _, rfl, q5, _, _, _, rfl, rfl, SqL.of f5', hat, (by show 2 ≤ sizeLine; decide), fun p hp => ?_⟩
    refine hk p _ (s15.trans (Same.new hp)) (s15.free hp) ?_
    unfold ToldAt
    rw [hvs]
    exact upd_same
end

end MF
set_option Elab.async false
set_option linter.all false
set_option maxRecDepth 100000
set_option maxHeartbeats 2000000
set_option pp.maxSteps 600
namespace MF
open PySem PySem.Spec PyProof.Rows L2 StX
section
variable {P : Program} {w : World} {K : PySem.W.Frag} {mg : Str → Option Value} {base : Heap} {C_Book C_Letter C_MailError C_InvalidOperation C_InvalidOrder C_UnknownOrder C_NotHolding C_DecodeError C_NotationError C_UnknownLetter C_InvalidAddress C_InvalidDay C_InvalidNumber C_Contradiction C_InvalidCount : Addr}
def spNow (K : PySem.W.Frag) : Sp := fun vs H Q _ => ∃ l as os z d, vs = [.ref l, .str z, .int d] ∧ SqL K H l (as.map V.ref) ∧ OrdsAt K H as os ∧ (ordFor os z d = none → Q .non H) ∧ ∀ i a o, ordFor os z d = some i → as[i]? = some a → os[i]? = some o → Q (.ref a) H
theorem ok_now (T : Top K mg C_Book C_Letter C_MailError C_InvalidOperation C_InvalidOrder C_UnknownOrder C_NotHolding C_DecodeError C_NotationError C_UnknownLetter C_InvalidAddress C_InvalidDay C_InvalidNumber C_Contradiction C_InvalidCount) : GFn P w K mg base CX0 1 "_law_now" (spNow K) := by
  refine T.d__law_now.fn fun f fd F => F.ok sc__law_now (fun vs H Q E h => ?_) (fun cdv A outer s H vs Q E hr h => ?_)
  · obtain ⟨l, as, os, z, d, rfl, _⟩ := h
    rfl
  · obtain ⟨l, as, os, z, d, rfl, hl, ol, k0, k1⟩ := h
    refine ⟨_, (pss_cons (ps_for PassesOwn.never rfl (pi_list (pv 0)) (pg_name (i := 3) sc__law_now.nd rfl (Or.inl rfl))
  (pss_one (ps_if (PW.pt (pw_and (pt_cmpR op_eq (pe_ix ix_tup (pv 3) pe_int (fun _ _ => rfl)) (pv 1) (nomark _)) (pw_and1 (pt_chain op_le op_le (pe_ix ix_tup (pv 3) pe_int (fun _ _ => rfl)) (pv 2) (pe_ix ix_tup (pv 3) pe_int (fun _ _ => rfl))))))
  (pss_one (ps_ret (pv 3)))
  pss_nil)))
  (pss_one (ps_ret pe_non))), ?_⟩
    have lo := PySem.Paired.length ol
    refine ⟨_, rfl, l, rfl, ⟨_, hl⟩, for_it (walk_list (xs := as.map V.ref)) (fun i σ H' => H' = H ∧ (∃ v3, σ = [some (.ref l), some (.str z), some (.int d), v3]) ∧ ∀ (j : Nat) p, j < i → os[j]? = some p → holds p z d = false) ⟨rfl, ⟨_, rfl⟩, fun j p hj => absurd hj (Nat.not_lt_zero _)⟩ (fun i σ H' _ p => by rw [p.1]; exact hl) ?_ ?_⟩
    · rintro i y σ Hx H3 hi ⟨rfl, ⟨v3, rfl⟩, no⟩ ⟨rfl, ey⟩
      rw [List.length_map] at hi
      obtain ⟨a, ea⟩ : ∃ a, as[i]? = some a := ⟨as[i], by simp [hi]⟩
      rw [List.getElem?_map, ea] at ey
      cases ey
      obtain ⟨o, eo, oa⟩ := Paired.get ol ea
      have go : holds o z d = false → ∀ (j : Nat) p, j < i + 1 → os[j]? = some p → holds p z d = false := fun h j p hj ej => by
        by_cases c : j < i
        · exact no j p c ej
        · have : j = i := by omega
          rw [this, eo] at ej
          cases ej
          exact h
      refine ⟨_, rfl, a, _, _, _, rfl, rfl, oa, rfl, _, rfl, rfl, _, rfl, ?_⟩
      refine ite2 (fun c1 => ?_) (fun c1 => ?_)
      · have c1' : o.src = z := V.str.inj (of_decide_eq_true c1)
        refine ⟨_, rfl, a, _, _, _, rfl, rfl, oa, rfl, _, rfl, _, _, rfl, rfl, _, rfl, ?_⟩
        refine ite2 (fun c2 => ?_) (fun c2 => ?_)
        · have c2' : o.first ≤ d := of_decide_eq_true c2
          refine ⟨_, rfl, a, _, _, _, rfl, rfl, oa, rfl, _, _, rfl, rfl, _, rfl, ?_⟩
          refine ite2 (fun c3 => ?_) (fun c3 => ?_)
          · have c3' : d ≤ o.last := of_decide_eq_true c3
            have hh : holds o z d = true := by simp [holds, c1', c2', c3']
            exact ⟨_, rfl, k1 i a o (ordFor_is (fun j p hj ej => no j p hj ej) eo hh) ea eo⟩
          · exact ⟨rfl, ⟨_, rfl⟩, go (by
              have c3' : ¬ d ≤ o.last := fun w => c3 (decide_eq_true w)
              simp [holds, c3'])⟩
        · exact ⟨false, rfl, rfl, ⟨_, rfl⟩, go (by
            have c2' : ¬ o.first ≤ d := fun w => c2 (decide_eq_true w)
            simp [holds, c2'])⟩
      · exact ⟨rfl, ⟨_, rfl⟩, go (by
          have c1' : ¬ o.src = z := fun w => c1 (by rw [w]; exact decide_eq_true rfl)
          simp [holds, c1'])⟩
    · rintro σ H3 ⟨rfl, ⟨v3, rfl⟩, no⟩
      refine k0 (ordFor_none fun p hp => ?_)
      obtain ⟨j, hj, ej⟩ := List.mem_iff_getElem.mp hp
      exact no j p (by rw [List.length_map, lo]; exact hj) (by rw [List.getElem?_eq_getElem hj, ej])
def PtsD (H : Hp) (ps : List Addr) (l : List Pt) : Prop := PySem.Paired (fun p (t : Pt) => H p = some (.tup [.str t.1, .int t.2])) ps l
theorem PtsD.mono {H H' : Hp} {ps : List Addr} {l : List Pt} (h : PtsD H ps l) (k : ∀ b u, H b = some u → tupl u = true → H' b = some u) : PtsD H' ps l := PySem.Paired.mono (fun p t e => k _ _ e rfl) h
theorem PairedD.snoc_inv {α β : Type} {R : α → β → Prop} {l : List α} {r : List β} {b : β} (h : PySem.Paired R l (r ++ [b])) : ∃ l' a, l = l' ++ [a] ∧ PySem.Paired R l' r ∧ R a b := by
  induction r generalizing l with
  | nil =>
    cases h with
    | cons h t => cases t; exact ⟨[], _, rfl, .nil, h⟩
  | cons c r ih =>
    cases h with
    | cons h t =>
      obtain ⟨l', a, rfl, h1, h2⟩ := ih t
      exact ⟨_ :: l', a, rfl, .cons h h1, h2⟩
def spArr (K : PySem.W.Frag) : Sp := fun vs H Q _ => ∃ l as os z d, ∃ most : Nat, vs = [.ref l, .str z, .int d, .int (most : Nat)] ∧ SqL K H l (as.map V.ref) ∧ OrdsAt K H as os ∧ 1 ≤ most ∧ (routeL os most (z, d)).length ≤ 1000000 ∧
  ∀ H' la pas, Same H H' → H la = none → H' la = some (.lst (pas.map V.ref)) → PtsD H' pas (routeL os most (z, d)) → Q (.ref la) H'
theorem ok_arr (T : Top K mg C_Book C_Letter C_MailError C_InvalidOperation C_InvalidOrder C_UnknownOrder C_NotHolding C_DecodeError C_NotationError C_UnknownLetter C_InvalidAddress C_InvalidDay C_InvalidNumber C_Contradiction C_InvalidCount) : GFn P w K mg base CX0 2 "_law_arrivals" (spArr K) := by
  have G__law_now : GFn P w K mg base CX0 1 "_law_now" (spNow K) := ok_now T
  refine T.d__law_arrivals.fn fun f fd F => F.ok sc__law_arrivals (fun vs H Q E h => ?_) (fun cdv A outer s H vs Q E hr h => ?_)
  · obtain ⟨l, as, os, z, d, most, rfl, _⟩ := h
    rfl
  · obtain ⟨l, as, os, z, d, most, rfl, hl, ol, m1, rl, k⟩ := h
    refine ⟨_, (pss_cons (ps_set (i := 4) sc__law_arrivals.nd rfl (Or.inl rfl) (pe_lst (pa_cons (pe_tup (pa_cons (pv 1) (pa_cons (pv 2) pa_nil))) pa_nil)))
  (pss_cons (ps_while PassesOwn.never (PW.pt (pw_and (pt_cmpR op_lt (pe_callB call_len_seq (by rfl) T.b_len (by decide +kernel) (pa_cons (pv 4) pa_nil)) (pv 3) (nomark _)) (pw_and1 (pt_cmpR op_notN (pe_g G__law_now (hr.mono (by decide)) (pa_cons (pv 0) (pa_cons (pe_ix ix_tup (pe_ix ix_list (pv 4) (pe_un un_neg pe_int) (fun _ _ => rfl)) pe_int (fun _ _ => rfl)) (pa_cons (pe_ix ix_tup (pe_ix ix_list (pv 4) (pe_un un_neg pe_int) (fun _ _ => rfl)) pe_int (fun _ _ => rfl)) pa_nil)))) pe_non (nomark _)))))
  (pss_cons (ps_set (i := 5) sc__law_arrivals.nd rfl (Or.inl rfl) (pe_g G__law_now (hr.mono (by decide)) (pa_cons (pv 0) (pa_cons (pe_ix ix_tup (pe_ix ix_list (pv 4) (pe_un un_neg pe_int) (fun _ _ => rfl)) pe_int (fun _ _ => rfl)) (pa_cons (pe_ix ix_tup (pe_ix ix_list (pv 4) (pe_un un_neg pe_int) (fun _ _ => rfl)) pe_int (fun _ _ => rfl)) pa_nil)))))
  (pss_one (ps_expr (pe_bm PySem.F.plainAttrs_list PySem.F.slot_list_append PySem.F.type_list_append mt_append (pv 4) (pa_cons (pe_tup (pa_cons (pe_ix ix_tup (pv 5) pe_int (fun _ _ => rfl)) (pa_cons (pe_op op_add (pe_ix ix_tup (pe_ix ix_list (pv 4) (pe_un un_neg pe_int) (fun _ _ => rfl)) pe_int (fun _ _ => rfl)) (pe_ix ix_tup (pv 5) pe_int (fun _ _ => rfl))) pa_nil))) pa_nil))))))
  (pss_one (ps_ret (pv 4))))), ?_⟩
    refine ⟨_, rfl, _, rfl, (by show 2 ≤ sizeLine; decide), ?_⟩
    intro a0 ha0
    generalize gH1 : L2.upd _ a0 _ = H1
    obtain ⟨s1, e1⟩ := newS ha0 gH1
    clear gH1
    refine ⟨(by show 1 ≤ sizeLine; decide), ?_⟩
    intro la hla
    generalize gH2 : L2.upd _ la _ = H2
    obtain ⟨s2, e2⟩ := newS hla gH2
    clear gH2
    have fla : H la = none := s1.free hla
    have e2' : H2 la = some (.lst (([] ++ [a0] : List Addr).map V.ref)) := e2
    have P2' : PtsD H2 ([] ++ [a0]) ([] ++ [(z, d)]) := .cons (s2 _ _ e1) .nil
    refine ⟨fun m σ H' => ∃ pas al pre p v5, σ = [some (.ref l), some (.str z), some (.int d), some (.int (most : Nat)), some (.ref la), v5] ∧ Same H H' ∧ H' la = some (.lst ((pas ++ [al] : List Addr).map V.ref)) ∧ PtsD H' (pas ++ [al]) (pre ++ [p]) ∧ pre ++ routeL os (m + 1) p = routeL os most (z, d) ∧ pre.length + m + 1 = most,
      ⟨most - 1, [], a0, [], (z, d), none, rfl, s1.trans s2, e2', P2', by show routeL os (most - 1 + 1) (z, d) = _; rw [Nat.sub_add_cancel m1], by simp; omega⟩, ?_⟩
    rintro m σ H3 ⟨pas, al, pre, p, v5, rfl, s3, e3, P3, er, hm⟩
    obtain ⟨pp, pal⟩ : PtsD H3 pas pre ∧ H3 al = some (.tup [.str p.1, .int p.2]) := by
      obtain ⟨l1, a1, h1, h2, h3⟩ := PairedD.snoc_inv P3
      obtain ⟨rfl, h4⟩ := List.append_inj' h1 rfl
      cases h4
      exact ⟨h2, h3⟩
    have lk : atI ((pas ++ [al]).map V.ref) (-1) = some (V.ref al) := by
      rw [List.map_append]
      exact atI_last _ _
    have lp : pas.length = pre.length := PySem.Paired.length pp
    have lr : pre.length + 1 ≤ 1000000 := by
      have : (routeL os (m + 1) p).length ≥ 1 := by unfold routeL; simp
      have h := congrArg List.length er
      rw [List.length_append] at h
      omega
    have lk2 : ∀ {H' : Hp}, Same H3 H' → H' la = some (.lst ((pas ++ [al]).map V.ref)) ∧ H' al = some (.tup [.str p.1, .int p.2]) := fun s => ⟨s _ _ e3, s _ _ pal⟩
    refine ⟨_, rfl, la, _, rfl, .inl (SqL.of e3), _, rfl, _, _, rfl, rfl, _, rfl, ?_⟩
    have lL : ((pas ++ [al]).map V.ref).length = pre.length + 1 := by rw [List.length_map, List.length_append, lp]; rfl
    rw [lL]
    have stop : routeL os (m + 1) p = [p] → tRet (tVar 4) { nx := fun _ _ => False, rt := Q } [some (.ref l), some (.str z), some (.int d), some (.int (most : Nat)), some (.ref la), v5] H3 := fun h => by
      rw [h] at er
      refine ⟨_, rfl, k H3 la (pas ++ [al]) s3 fla e3 ?_⟩
      rw [← er]
      exact P3
    by_cases c0 : pre.length + 1 < most
    · refine iteD (by show ((pre.length + 1 : Nat) : Int) < (most : Nat); omega) ?_
      obtain ⟨m', rfl⟩ : ∃ m', m = m' + 1 := ⟨m - 1, by omega⟩
      refine ⟨_, rfl, _, rfl, _, rfl, la, _, _, _, rfl, rfl, SqL.of e3, lk, al, _, _, _, rfl, rfl, .inl (.inl pal), rfl, _, rfl, _, rfl, la, _, _, _, rfl, rfl, SqL.of e3, lk, al, _, _, _, rfl, rfl, .inl (.inl pal), rfl, ?_⟩
      refine ⟨l, as, os, p.1, p.2, rfl, s3.seq hl, ol.mono s3, fun hn => ?_, fun i a o hi ea eo => ?_⟩
      · refine ⟨rfl, _, rfl, iteND rfl ?_⟩
        refine stop ?_
        show p :: (match nxt os p with | none => [] | some t => routeL os (m' + 1) t) = [p]
        rw [nxt_none.mpr hn]
      · have hn := nxt_of hi eo
        refine ⟨rfl, _, rfl, iteNDN (fun z => by cases z) ?_⟩
        refine ⟨fun σ' H' => ∃ m2, m2 < m' + 1 ∧ ∃ pas al pre p v5, σ' = [some (.ref l), some (.str z), some (.int d), some (.int (most : Nat)), some (.ref la), v5] ∧ Same H H' ∧ H' la = some (.lst ((pas ++ [al] : List Addr).map V.ref)) ∧ PtsD H' (pas ++ [al]) (pre ++ [p]) ∧ pre ++ routeL os (m2 + 1) p = routeL os most (z, d) ∧ pre.length + m2 + 1 = most, fun _ _ h => h, ?_⟩
        refine ⟨_, rfl, _, rfl, _, rfl, la, _, _, _, rfl, rfl, SqL.of e3, lk, al, _, _, _, rfl, rfl, .inl (.inl pal), rfl, _, rfl, _, rfl, la, _, _, _, rfl, rfl, SqL.of e3, lk, al, _, _, _, rfl, rfl, .inl (.inl pal), rfl, ?_⟩
        refine ⟨l, as, os, p.1, p.2, rfl, s3.seq hl, ol.mono s3, fun hn' => (by rw [hn'] at hi; cases hi), fun i' a' o' hi' ea' eo' => ?_⟩
        obtain ⟨o2, eo2, oa⟩ := Paired.get (ol.mono s3) ea'
        rw [eo'] at eo2
        cases eo2
        have hii : i' = i := by rw [hi] at hi'; exact (Option.some.inj hi').symm
        subst hii
        rw [eo] at eo'
        cases eo'
        refine ⟨_, rfl, .inl ⟨rfl, _, SqL.of e3⟩, _, rfl, a', _, _, _, rfl, rfl, oa, rfl, _, rfl, _, rfl, la, _, _, _, rfl, rfl, SqL.of e3, lk, al, _, _, _, rfl, rfl, .inl (.inl pal), rfl, _, rfl, a', _, _, _, rfl, rfl, oa, rfl, _, _, rfl, rfl, (by show 2 ≤ sizeLine; decide), ?_⟩
        intro an han
        generalize gH4 : L2.upd _ an _ = H4
        obtain ⟨s4, e4⟩ := newS han gH4
        clear gH4
        have nla : la ≠ an := ne_of_none e3 han
        refine ⟨la, _, _, rfl, rfl, s4 _ _ e3, by rw [lL, sizeLine_eq]; omega, ?_⟩
        generalize gH5 : L2.upd _ la _ = H5
        obtain ⟨up5, e5⟩ := updS gH5
        clear gH5
        have keep5 : ∀ b u, H3 b = some u → tupl u = true → H5 b = some u := fun b u e y => up5 _ _ (s4 _ _ e) fun w => by
          rw [w, e3] at e
          cases e
          cases y
        refine ⟨m', Nat.lt_succ_self _, pas ++ [al], an, pre ++ [p], (o.tgt, p.2 + o.way), _, rfl, fun b u e => up5 _ _ (s4 _ _ (s3 _ _ e)) (ne_of_none e fla), by rw [e5, List.map_append (l₁ := pas ++ [al])]; rfl, ?_, ?_, by rw [List.length_append]; show pre.length + 1 + m' + 1 = most; omega⟩
        · exact Paired.append (P3.mono keep5) (.cons (up5 _ _ e4 nla.symm) .nil)
        · rw [← er, List.append_assoc]
          show pre ++ ([p] ++ routeL os (m' + 1) (o.tgt, p.2 + o.way)) = pre ++ (p :: (match nxt os p with | none => [] | some t => routeL os (m' + 1) t))
          rw [hn]
          rfl
    · refine iteDN (fun h => c0 (by have : ((pre.length + 1 : Nat) : Int) < (most : Nat) := h; omega)) ?_
      obtain rfl : m = 0 := by omega
      refine stop ?_
      show p :: (match nxt os p with | none => [] | some t => routeL os 0 t) = [p]
      cases nxt os p <;> rfl
end

end MF
set_option Elab.async false
set_option linter.all false
namespace MF
open PySem L2
theorem wipe_get {σ : L2.St} {j : Nat} : ∀ {vs : List Nat}, (wipe σ vs)[j]? = if j ∈ vs then (if j < σ.length then some none else none) else σ[j]?
  | [] => by simp [wipe]
  | v :: vs => by
    show ((wipe σ vs).set v none)[j]? = _
    rw [List.getElem?_set, wipe_length, wipe_get (vs := vs)]
    by_cases c : v = j
    · subst c
      simp
    · rw [if_neg c]
      have : j ∈ v :: vs ↔ j ∈ vs := by
        rw [List.mem_cons]
        exact ⟨fun h => h.resolve_left fun z => c z.symm, .inr⟩
      simp only [this]
theorem wipe_set {σ : L2.St} {i : Nat} {x : Option V} {vs : List Nat} (h : i ∈ vs) : wipe (σ.set i x) vs = wipe σ vs := by
  refine List.ext_getElem? fun j => ?_
  rw [wipe_get, wipe_get, List.length_set, List.getElem?_set]
  by_cases c : j ∈ vs
  · rw [if_pos c, if_pos c]
  · rw [if_neg c, if_neg c, if_neg (show ¬ i = j from fun z => c (z ▸ h))]
theorem wipe_wipe {σ : L2.St} {vs : List Nat} : wipe (wipe σ vs) vs = wipe σ vs := by
  refine List.ext_getElem? fun j => ?_
  rw [wipe_get, wipe_get, wipe_length]
  by_cases c : j ∈ vs
  · rw [if_pos c, if_pos c]
  · rw [if_neg c, if_neg c]
theorem wipe5 {σ : L2.St} {a b c d e : Nat} {v1 v2 v3 v4 v5 : Option V} : wipe ((((((wipe σ [a, b, c, d, e]).set a v1).set b v2).set c v3).set d v4).set e v5) [a, b, c, d, e] = wipe σ [a, b, c, d, e] := by
  rw [wipe_set (by simp), wipe_set (by simp), wipe_set (by simp), wipe_set (by simp), wipe_set (by simp), wipe_wipe]
end MF
set_option Elab.async false
set_option linter.all false
set_option maxRecDepth 100000
set_option maxHeartbeats 2000000
set_option pp.maxSteps 600
namespace MF
open PySem PySem.Spec PyProof.Rows L2 StX
section
variable {P : Program} {w : World} {K : PySem.W.Frag} {mg : Str → Option Value} {base : Heap} {C_Book C_Letter C_MailError C_InvalidOperation C_InvalidOrder C_UnknownOrder C_NotHolding C_DecodeError C_NotationError C_UnknownLetter C_InvalidAddress C_InvalidDay C_InvalidNumber C_Contradiction C_InvalidCount : Addr}
def mvO (n : Int) (o : Ordr) : Ordr := ⟨o.src, o.tgt, o.first + n, o.last + n, o.way⟩
theorem mv_good {os : List Ordr} {n : Int} (g : Good os) (h0 : ∀ o ∈ os, 0 ≤ o.first + n) (h1 : ∀ o ∈ os, o.last + n ≤ 1000000000000000000) : Good (os.map (mvO n)) := by
  refine ⟨by rw [List.length_map]; exact g.len, fun o ho => ?_, ?_⟩
  · obtain ⟨p, hp, rfl⟩ := List.mem_map.mp ho
    have ok := g.ok p hp
    exact ⟨ok.as, ok.at_, ok.ne, h0 p hp, by show p.first + n ≤ p.last + n; have := ok.fl; omega, h1 p hp, ok.w1, ok.w30⟩
  · refine List.pairwise_map.mpr (g.apart.imp fun {o p} h => ?_)
    rw [← h]
    unfold overB mvO
    simp only
    congr 1
    congr 1
    · rw [Bool.eq_iff_iff, decide_eq_true_eq, decide_eq_true_eq]; omega
    · rw [Bool.eq_iff_iff, decide_eq_true_eq, decide_eq_true_eq]; omega
theorem mv_holds (n : Int) (o : Ordr) (x : Str) (d : Int) : holds (mvO n o) x (d + n) = holds o x d := by
  unfold holds mvO
  simp only
  congr 1
  congr 1
  · rw [Bool.eq_iff_iff, decide_eq_true_eq, decide_eq_true_eq]; omega
  · rw [Bool.eq_iff_iff, decide_eq_true_eq, decide_eq_true_eq]; omega
theorem mv_ordFor (n : Int) (x : Str) (d : Int) : ∀ os : List Ordr, ordFor (os.map (mvO n)) x (d + n) = ordFor os x d
  | [] => rfl
  | o :: os => by
    show (if holds (mvO n o) x (d + n) = true then some 0 else (ordFor (os.map (mvO n)) x (d + n)).map (· + 1)) = (if holds o x d = true then some 0 else (ordFor os x d).map (· + 1))
    rw [mv_holds, mv_ordFor n x d os]
theorem mv_nxt (n : Int) (os : List Ordr) (s : Pt) : nxt (os.map (mvO n)) (s.1, s.2 + n) = (nxt os s).map fun t => (t.1, t.2 + n) := by
  unfold nxt
  simp only
  rw [mv_ordFor]
  cases ordFor os s.1 s.2 with
  | none => rfl
  | some i =>
    show ((os.map (mvO n))[i]?.map fun o => (o.tgt, s.2 + n + o.way)) = (os[i]?.map fun o => (o.tgt, s.2 + o.way)).map fun t => (t.1, t.2 + n)
    rw [List.getElem?_map]
    generalize os[i]? = q
    cases q with
    | none => rfl
    | some o =>
      show some (o.tgt, s.2 + n + o.way) = some (o.tgt, s.2 + o.way + n)
      congr 2
      omega
theorem mv_go {n : Int} {os : List Ordr} {s t : Pt} {k : Nat} (g : Go os s k t) : Go (os.map (mvO n)) (s.1, s.2 + n) k (t.1, t.2 + n) := by
  induction g with
  | refl => exact .refl _
  | step e _ ih => exact .step (by rw [mv_nxt, e]; rfl) ih
theorem mv_ends {n : Int} {os : List Ordr} {s t : Pt} {k : Nat} (e : Ends os s k t) : Ends (os.map (mvO n)) (s.1, s.2 + n) k (t.1, t.2 + n) := ⟨mv_go e.1, by rw [mv_nxt, e.2]; rfl⟩
end

end MF
set_option Elab.async false
set_option linter.all false
set_option maxRecDepth 100000
set_option maxHeartbeats 2000000
set_option pp.maxSteps 600
namespace MF
open PySem PySem.Spec PyProof.Rows L2 StX
section
variable {P : Program} {w : World} {K : PySem.W.Frag} {mg : Str → Option Value} {base : Heap} {C_Book C_Letter C_MailError C_InvalidOperation C_InvalidOrder C_UnknownOrder C_NotHolding C_DecodeError C_NotationError C_UnknownLetter C_InvalidAddress C_InvalidDay C_InvalidNumber C_Contradiction C_InvalidCount : Addr}
def D5 : List Str := ["a", "b", "c", "dd", "eeeeeeee"]
theorem D5_addr : ∀ z ∈ D5, isAddrB (.str z) = true := by decide +kernel
theorem rep_dot : ∀ k : Nat, k < 31 → repS "." ((k : Nat) : Int) = dotS k := by decide +kernel
theorem dotS_len (k : Nat) : (dotS k).length = k := by
  rw [TL.len_tl]
  show (List.replicate k 46).length = k
  rw [List.length_replicate]
theorem lines_room {os : List Ordr} (g : Good os) {x : Str} {d : Int} {n : Nat} (ax : isAddrB (.str x) = true) (d0 : 0 ≤ d) (d1 : d ≤ 1000000000000000000) (n1 : n ≤ 1000) : (((routeL os n (x, d)).map lineT).map (·.length)).sum = 38 * (routeL os n (x, d)).length := by
  have : ∀ l : List Pt, (∀ t ∈ l, (lineT t).length = 38) → ((l.map lineT).map (·.length)).sum = 38 * l.length := fun l => by
    induction l with
    | nil => intro _; rfl
    | cons a l ih =>
      intro hl
      rw [List.map_cons, List.map_cons, List.sum_cons, ih fun t ht => hl t (List.mem_cons_of_mem _ ht), hl a List.mem_cons_self, List.length_cons]
      omega
  refine this _ fun t ht => ?_
  obtain ⟨a1, a2, a3⟩ := lineT_len g ax d0 d1 n1 ht
  show (dots8 t.1 ++ num30 t.2.toNat).length = 38
  rw [Str.length_append, dots8_len a1, num30_len a3]
theorem pow9 : (10 : Int) ^ (9 : Int).toNat = 1000000000 := by decide
theorem pow8 : (10 : Int) ^ (8 : Int).toNat = 100000000 := by decide
theorem ok_law (T : Top K mg C_Book C_Letter C_MailError C_InvalidOperation C_InvalidOrder C_UnknownOrder C_NotHolding C_DecodeError C_NotationError C_UnknownLetter C_InvalidAddress C_InvalidDay C_InvalidNumber C_Contradiction C_InvalidCount) (sf : PySem.W.selfFirst K C_Book = true) {f : Addr} {fd : FuncData} {cL PL : Addr} (F : FunC K "law" "law" s_law f fd cL) (TBL : LamX.TabB base mg cL PL) : FnOk P w K mg base CX0 13 f fd ["_law_script"] (spLawT K [PL]) := by
  let TT : List (Addr × Str) := [(PL, lawQ)]
  have HTM : (PL, lawQ) ∈ TT := by simp [TT]
  have HTU : ∀ p ∈ TT, p.1 = PL → p.2 = lawQ := fun p hp h => by
    simp [TT] at hp
    rw [hp]
  have G__law_dice : GFn P w K mg base CX0 1 "_law_dice" (spDice K) := ok_dice T
  have G__law_next : GFn P w K mg base CX0 1 "_law_next" (spTaken K) := ok_next T
  have G__law_pick : GFn P w K mg base CX0 2 "_law_pick" (spPick K) := ok_pick T
  have G__law_orders : GFn P w K mg base CX0 4 "_law_orders" (spOrdersD K) := ok_ordersD T
  have G__law_made : GFn P w K mg base CX0 7 "_law_made" (spLawBook K C_Book) := ok_law_made T sf
  have G__law_arrivals : GFn P w K mg base CX0 2 "_law_arrivals" (spArr K) := ok_arr T
  have G__law_grouped : GFn P w K mg base CX0 1 "_law_grouped" spGrouped := ok_grouped T
  have G_travel_list : GFn P w K mg base CX0 6 "travel_list" (spTravel K C_Book) := ok_travel T
  have X_travel_list : GFn P w K mg base (L2.CX P w) 6 "travel_list" (spTravelX ⟨C_InvalidOrder, C_UnknownOrder, C_InvalidAddress, C_InvalidDay, C_InvalidNumber, C_UnknownLetter, C_NotHolding, C_InvalidOperation, C_Contradiction, C_InvalidCount, C_DecodeError, C_NotationError⟩) := okX_travel T
  refine F.ok sc_law (fun vs H Q E h => ?_) (fun A outer s H vs Q E hr h => ?_)
  · obtain ⟨a, ns, rfl, _⟩ := h
    rfl
  · obtain ⟨a, ns, rfl, hS, hlen, hP, k⟩ := h
    have hu := hu_of hr
    refine ⟨_, (pss_cons (ps_set (i := 15) sc_law.nd rfl (Or.inr rfl) (pe_g G__law_dice (hr.mono (by decide)) (pa_cons (pv 0) pa_nil)))
  (pss_cons (ps_for PassesOwn.never rfl (pi_range1 (by rfl) T.b_range (pa_cons pe_int pa_nil)) (pg_name (i := 1) sc_law.nd rfl (Or.inl rfl))
  (C8.pss_cut (ps_set (i := 2) sc_law.nd rfl (Or.inr rfl) (pe_g G__law_pick (hr.mono (by decide)) (pa_cons (pv 15) (pa_cons (pe_lst (pa_cons pe_int (pa_cons (pe_op op_mul (pe_g G__law_next (hr.mono (by decide)) (pa_cons (pv 15) (pa_cons (pe_op op_pow pe_int pe_int) pa_nil))) (pe_op op_pow pe_int pe_int)) (pa_cons (pe_op op_sub (pe_op op_pow pe_int pe_int) pe_int) pa_nil)))) pa_nil))))
  (C8.pss_cut (ps_setLc (i := 3) (own := [("_law_one", 17)]) (g := (gName 17)) (by rfl) sc_law.nd rfl rfl (sw_true rfl rfl rfl (by decide +kernel)) (pi_list (pe_g G__law_orders (hr.mono (by decide)) (pa_cons (pv 15) (pa_cons pe_int (pa_cons pe_int pa_nil))))) (blkOk_by (own := [("_law_one", 17)]) (N := ["_law_script", "_law_turn", "_law_far", "_law_orders_here", "_law_address", "_law_day", "_law_count", "_law_lines", "_law_name", "_law_arrival", "_law_number", "_law_work", "_law_due", "_law_bad", "_law_book", "_law_d", "_law_odd", "_law_one"]) (sc := defScope s_law) (by decide +kernel)) (fun _ _ _ _ _ => (pg_name (i := 17) sc_law.nd rfl (Or.inl rfl))) (fun _ _ _ _ _ => pts_nil) (fun _ _ _ _ _ => (pe_tup (pa_cons (pe_ix (ix_tupK (K := K)) (pv 17) pe_int (fun _ _ => rfl)) (pa_cons (pe_ix (ix_tupK (K := K)) (pv 17) pe_int (fun _ _ => rfl)) (pa_cons (pe_op op_add (pe_ix (ix_tupK (K := K)) (pv 17) pe_int (fun _ _ => rfl)) (pv 2)) (pa_cons (pe_op op_add (pe_ix (ix_tupK (K := K)) (pv 17) pe_int (fun _ _ => rfl)) (pv 2)) (pa_cons (pe_ix (ix_tupK (K := K)) (pv 17) pe_int (fun _ _ => rfl)) pa_nil))))))))
  (C8.pss_cut (ps_par (i := 4) (j := 5) (by rfl) sc_law.nd rfl rfl (by decide) rfl rfl (pa_cons (pe_g G__law_pick (hr.mono (by decide)) (pa_cons (pv 15) (pa_cons (pe_lst (pa_cons pe_str (pa_cons pe_str (pa_cons pe_str (pa_cons pe_str (pa_cons pe_str pa_nil)))))) pa_nil))) (pa_cons (pe_op op_add (pv 2) (pe_g G__law_next (hr.mono (by decide)) (pa_cons (pv 15) (pa_cons pe_int pa_nil)))) pa_nil)) (by rfl))
  (C8.pss_cut (ps_par (i := 6) (j := 7) (by rfl) sc_law.nd rfl rfl (by decide) rfl rfl (pa_cons (pe_g G__law_pick (hr.mono (by decide)) (pa_cons (pv 15) (pa_cons (pe_lst (pa_cons pe_int (pa_cons pe_int (pa_cons (pe_g G__law_next (hr.mono (by decide)) (pa_cons (pv 15) (pa_cons pe_int pa_nil))) (pa_cons pe_int pa_nil))))) pa_nil))) (pa_cons (pe_lst pa_nil) pa_nil)) (by rfl))
  (C8.pss_cut (ps_for PassesOwn.never rfl (pi_list (pe_g G__law_arrivals (hr.mono (by decide)) (pa_cons (pv 3) (pa_cons (pv 4) (pa_cons (pv 5) (pa_cons (pe_callB (call_max2 rfl) (by rfl) T.b_max (by decide +kernel) (pa_cons pe_int (pa_cons (pv 6) pa_nil))) pa_nil)))))) (pg_tup rfl (pgs_cons (pg_name (i := 8) sc_law.nd rfl (Or.inl rfl)) (pgs_cons (pg_name (i := 9) sc_law.nd rfl (Or.inl rfl)) pgs_nil)))
  (pss_cons (ps_set (i := 10) sc_law.nd rfl (Or.inl rfl) (pe_g G__law_grouped (hr.mono (by decide)) (pa_cons (pv 9) pa_nil)))
  (pss_one (ps_expr (pe_bm PySem.F.plainAttrs_list PySem.F.slot_list_append PySem.F.type_list_append mt_append (pv 7) (pa_cons (pe_op op_add_str (pe_op op_add_str (pe_op op_add_str (pv 8) (pe_op op_repS pe_str (pe_op op_sub pe_int (pe_callB call_len_str (by rfl) T.b_len (by decide +kernel) (pa_cons (pv 8) pa_nil))))) (pe_op op_repS pe_str (pe_op op_sub pe_int (pe_callB call_len_str (by rfl) T.b_len (by decide +kernel) (pa_cons (pv 10) pa_nil))))) (pv 10)) pa_nil))))))
  (C8.pss_cut (ps_if (pt_cmpR op_ne (pe_g G_travel_list (hr.mono (by decide)) (pa_cons (pe_g G__law_made (hr.mono (by decide)) (pa_cons (pv 3) pa_nil)) (pa_cons (pv 4) (pa_cons (pv 5) (pa_cons (pv 6) pa_nil))))) (pe_join pe_str (pe_ifExp (pt_cmpR op_gt (pv 6) pe_int (nomark _)) (pv 7) (pe_lst pa_nil))) (nomark _))
  (pss_one (ps_ret pe_bl))
  pss_nil)
  (C8.pss_cut (ps_asg (pe_tup (pa_cons (pe_g G__law_pick (hr.mono (by decide)) (pa_cons (pv 15) (pa_cons (pe_lst (pa_cons pe_str (pa_cons pe_str (pa_cons pe_non (pa_cons pe_int pa_nil))))) pa_nil))) (pa_cons (pe_g G__law_pick (hr.mono (by decide)) (pa_cons (pv 15) (pa_cons (pe_lst (pa_cons (pe_un un_neg pe_int) (pa_cons (pe_op op_add (pe_op op_pow pe_int pe_int) pe_int) (pa_cons pe_non (pa_cons pe_bl pa_nil))))) pa_nil))) pa_nil))) (pg_tup rfl (pgs_cons (pg_name (i := 13) sc_law.nd rfl (Or.inr rfl)) (pgs_cons (pg_name (i := 16) sc_law.nd rfl (Or.inr rfl)) pgs_nil))))
  (C8.pss_cut (ps_set (i := 14) sc_law.nd rfl (Or.inr rfl) (pe_g G__law_made (hr.mono (by decide)) (pa_cons (pv 3) pa_nil)))
  (pss_cons (ps_set (i := 11) sc_law.nd rfl (Or.inl rfl) (pe_lst (pa_cons (pe_lamX (X := (cxOf CX0 P w K mg base ["_law_script", "_law_turn", "_law_far", "_law_orders_here", "_law_address", "_law_day", "_law_count", "_law_lines", "_law_name", "_law_arrival", "_law_number", "_law_work", "_law_due", "_law_bad", "_law_book", "_law_d", "_law_odd", "_law_one"] "law" (defScope s_law) f (.ref cL) A outer s H E).nox) (k := 10) TBL HTM HTU (by kernel_rfl) rfl rfl (LamX.lamS_by (sc := defScope s_law) (by decide +kernel)) (fun _ _ _ _ _ _ => rfl) (fun A outer s H E f c' hrL => (pe_gX X_travel_list (hrL.mono (by decide)) passM (pa_cons (pv 14) (pa_cons (pv 13) (pa_cons (pe_un un_neg pe_int) (pa_cons (pe_un un_neg pe_int) pa_nil))))))) (pa_cons (pe_lamXD (X := (cxOf CX0 P w K mg base ["_law_script", "_law_turn", "_law_far", "_law_orders_here", "_law_address", "_law_day", "_law_count", "_law_lines", "_law_name", "_law_arrival", "_law_number", "_law_work", "_law_due", "_law_bad", "_law_book", "_law_d", "_law_odd", "_law_one"] "law" (defScope s_law) f (.ref cL) A outer s H E).nox) (k := 10) (x := "_law_a") TBL HTM HTU (by kernel_rfl) rfl rfl rfl (lamSN_by (N := ["_law_script", "_law_turn", "_law_far", "_law_orders_here", "_law_address", "_law_day", "_law_count", "_law_lines", "_law_name", "_law_arrival", "_law_number", "_law_work", "_law_due", "_law_bad", "_law_book", "_law_d", "_law_odd", "_law_one"]) (sc := defScope s_law) (by decide +kernel)) rfl (fun _ _ _ _ _ _ _ => ⟨_, rfl, fun _ => rfl⟩) (fun A outer s H E f c' hrL => (pe_gX X_travel_list (hrL.mono (by decide)) passM (pa_cons (pv 14) (pa_cons pe_str (pa_cons (pv 16) (pa_cons (pe_un un_neg pe_int) pa_nil))))))) pa_nil))))
  (pss_cons (ps_expr (pe_bm PySem.F.plainAttrs_list PySem.F.slot_list_append PySem.F.type_list_append mt_append (pv 11) (pa_cons (pe_lamXD (X := (cxOf CX0 P w K mg base ["_law_script", "_law_turn", "_law_far", "_law_orders_here", "_law_address", "_law_day", "_law_count", "_law_lines", "_law_name", "_law_arrival", "_law_number", "_law_work", "_law_due", "_law_bad", "_law_book", "_law_d", "_law_odd", "_law_one"] "law" (defScope s_law) f (.ref cL) A outer s H E).nox) (k := 10) (x := "_law_b") TBL HTM HTU (by kernel_rfl) rfl rfl rfl (lamSN_by (N := ["_law_script", "_law_turn", "_law_far", "_law_orders_here", "_law_address", "_law_day", "_law_count", "_law_lines", "_law_name", "_law_arrival", "_law_number", "_law_work", "_law_due", "_law_bad", "_law_book", "_law_d", "_law_odd", "_law_one"]) (sc := defScope s_law) (by decide +kernel)) rfl (fun _ _ _ _ _ _ _ => ⟨_, rfl, fun _ => rfl⟩) (fun A outer s H E f c' hrL => (pe_gX X_travel_list (hrL.mono (by decide)) passM (pa_cons (pv 14) (pa_cons pe_str (pa_cons pe_int (pa_cons (pe_g G__law_pick (hrL.mono (by decide)) (pa_cons (pv 15) (pa_cons (pe_lst (pa_cons (pe_un un_neg pe_int) (pa_cons pe_int (pa_cons pe_non (pa_cons pe_bl pa_nil))))) pa_nil))) pa_nil))))))) pa_nil)))
  (pss_cons (ps_set (i := 12) sc_law.nd rfl (Or.inl rfl) (pe_lst (pa_cons (pe_tup (pa_cons pe_str (pa_cons pe_str pa_nil))) (pa_cons (pe_tup (pa_cons pe_str (pa_cons pe_str pa_nil))) (pa_cons (pe_tup (pa_cons pe_str (pa_cons pe_str pa_nil))) pa_nil)))))
  (pss_one (ps_if (pt_cmpR (op_neD hr.units) (pe_lcI (own := [("_law_one", 17)]) (g := (gName 17)) (by rfl) sc_law.nd (pi_list (pv 11)) (blkOk_by (own := [("_law_one", 17)]) (N := ["_law_script", "_law_turn", "_law_far", "_law_orders_here", "_law_address", "_law_day", "_law_count", "_law_lines", "_law_name", "_law_arrival", "_law_number", "_law_work", "_law_due", "_law_bad", "_law_book", "_law_d", "_law_odd", "_law_one"]) (sc := defScope s_law) (by decide +kernel)) (fun _ _ _ _ _ => (pg_name (i := 17) sc_law.nd rfl (Or.inl rfl))) (fun pins σ s H C cl fp BB => pts_nil) (fun pins σ s H C cl fp BB => (pe_lamB (k := 10) BB (ok_told rfl rfl T) (hr.mono (by decide)) (pa_cons (pv 17) pa_nil)))) (pv 12) (nomark _))
  (pss_one (ps_ret pe_bl))
  pss_nil))))))))))))))
  (pss_one (ps_ret pe_bl)))), ?_⟩
    refine ⟨_, rfl, a, ns, rfl, hS, hlen, fun H1 rw s1 frw R1 => ?_⟩
    have T1 : LamX.Tabs TT H1 := fun p hp => by
      simp [TT] at hp
      rw [hp]
      exact LamX.TabS.nil (s1 _ _ (hP PL (by simp)))
    clear hP
    let tl (v1 v2 v3 v4 v5 v6 v7 v8 v9 v10 v11 v12 v13 v14 v15 v16 v17 : Option V) : L2.St := [some (.ref a), v1, v2, v3, v4, v5, v6, v7, v8, v9, v10, v11, v12, v13, v14, v15, v16, v17]
    refine ⟨4, rfl, (by decide), (by decide), for_it walk_range (fun i σ H' => LamX.Tabs TT H' ∧ RowAt K H' rw a ns ∧ ∃ v1 v2 v3 v4 v5 v6 v7 v8 v9 v10 v11 v12 v13 v14 v16 v17, σ = tl v1 v2 v3 v4 v5 v6 v7 v8 v9 v10 v11 v12 v13 v14 (some (.ref rw)) v16 v17) ⟨T1, R1, _, _, _, _, _, _, _, _, _, _, _, _, _, _, _, _, rfl⟩ (fun _ _ _ _ _ => trivial) ?_ (fun σ' H' _ => k H')⟩
    clear T1 R1 s1
    rintro i y σ H1 H1' hi' ⟨T1, R1, w1, w2, w3, w4, w5, w6, w7, w8, w9, w10, w11, w12, w13, w14, w16, w17, rfl⟩ ⟨rfl, rfl⟩
    refine ⟨fun σ' H' => LamX.Tabs TT H' ∧ RowAt K H' rw a ns ∧ ∃ far : Int, 0 ≤ far ∧ far ≤ 999999999999999960 ∧ ∃ v1 v3 v4 v5 v6 v7 v8 v9 v10 v11 v12 v13 v14 v16 v17, σ' = tl v1 (some (.int far)) v3 v4 v5 v6 v7 v8 v9 v10 v11 v12 v13 v14 (some (.ref rw)) v16 v17, ?_, ?_⟩
    · refine ⟨_, rfl, _, rfl, _, _, rfl, rfl, ⟨by decide, by decide, by decide⟩, ?_⟩
      refine ⟨rw, a, ns, 1000000000, congrArg (fun z => [V.ref rw, V.int z]) pow9, R1, by decide, by decide, fun v H2 v0 v1 R2 k2 => ?_⟩
      have T2 := tabs_keepR R1 T1 k2
      refine ⟨_, _, rfl, rfl, ⟨by decide, by decide, by decide⟩, ?_⟩
      refine ⟨_, _, rfl, rfl, .inl ⟨by omega, by omega⟩, ?_⟩
      refine ⟨_, _, rfl, rfl, ⟨by decide, by decide, by decide⟩, ?_⟩
      refine ⟨_, _, rfl, rfl, (by show 3 ≤ sizeLine; decide), ?_⟩
      intro q hq
      generalize gH3 : L2.upd _ q _ = H3
      obtain ⟨s3, e3⟩ := newS hq gH3
      clear gH3
      replace e3 : H3 q = some (.lst [.int 0, .int (v * (10 : Int) ^ (8 : Int).toNat), .int ((10 : Int) ^ (18 : Int).toNat - 40)]) := e3
      rw [pow8, pow18] at e3
      refine ⟨rw, a, ns, q, _, rfl, R2.keep s3, e3, R2.fresh hq, (by show 0 < 3; decide), (by show 3 ≤ 1000000; decide), fun j u H4 eu R4 k4 => ?_⟩
      have T4 := tabs_keepR (R2.keep s3) (T2.ext s3) k4
      have hj := (List.getElem?_eq_some_iff.mp eu).1
      have : j = 0 ∨ j = 1 ∨ j = 2 := by
        have : j < 3 := hj
        omega
      rcases this with rfl | rfl | rfl <;> cases eu
      · exact ⟨T4, R4, 0, by decide, by decide, _, _, _, _, _, _, _, _, _, _, _, _, _, _, _, rfl⟩
      · exact ⟨T4, R4, v * 100000000, by omega, by omega, _, _, _, _, _, _, _, _, _, _, _, _, _, _, _, rfl⟩
      · exact ⟨T4, R4, (1000000000000000000 - 40 : Int), by decide, by decide, _, _, _, _, _, _, _, _, _, _, _, _, _, _, _, rfl⟩
    clear T1 R1
    rintro σ H1 ⟨T1, R1, far, f0, f1, w1, w3, w4, w5, w6, w7, w8, w9, w10, w11, w12, w13, w14, w16, w17, rfl⟩
    refine ⟨fun σ' H' => LamX.Tabs TT H' ∧ RowAt K H' rw a ns ∧ ∃ l as os, H' l = some (.lst ((as : List Addr).map V.ref)) ∧ OrdsAt K H' as os ∧ Good os ∧ l ≠ rw ∧ ∃ v1 v4 v5 v6 v7 v8 v9 v10 v11 v12 v13 v14 v16 v17, σ' = tl v1 (some (.int far)) (some (.ref l)) v4 v5 v6 v7 v8 v9 v10 v11 v12 v13 v14 (some (.ref rw)) v16 v17, ?_, ?_⟩
    · refine ⟨_, rfl, rw, a, ns, 6, 9, rfl, R1, by decide, by decide, by decide, fun H2 l as os k2 fl R2 e2 o2 l6 od => ?_⟩
      have T2 := tabs_keepR R1 T1 k2
      have lo := PySem.Paired.length o2
      have g := od.good (by decide) (by omega)
      have gm : Good (os.map (mvO far)) := mv_good g (fun o ho => by have := (od.all o ho).f0; omega) (fun o ho => by have h1 := (od.all o ho).lm; have h2 := (od.all o ho).fm; omega)
      refine ⟨l, rfl, ⟨_, SqL.of e2⟩, fun D hD => ?_⟩
      refine lc_it (walk_list (xs := as.map V.ref)) (fun m H' => Same H2 H' ∧ ∃ bs : List Addr, H' D = some (.lst (bs.map V.ref)) ∧ OrdsAt K H' bs ((os.take m).map (mvO far)) ∧ ∀ b ∈ bs, b ≠ D) ⟨Same.new hD, [], upd_same, .nil, (fun _ h => by cases h)⟩ (fun m H' _ q => SqL.of (q.1 _ _ e2)) ?_ ?_
      · rintro m y Hx H3 hm ⟨s3, bs, e3, OB, nbs⟩ ⟨rfl, ey⟩
        rw [List.length_map] at hm
        obtain ⟨b, eb⟩ : ∃ b, as[m]? = some b := ⟨as[m], List.getElem?_eq_getElem hm⟩
        rw [List.getElem?_map, eb] at ey
        cases ey
        obtain ⟨o, eo, ob⟩ := Paired.get o2 eb
        have ob3 := OrdAt.mono ob s3
        have lbs := PySem.Paired.length OB
        rw [List.length_map, List.length_take] at lbs
        refine ⟨rfl, yesT (iteT ?_)⟩
        refine ⟨_, rfl, b, _, _, _, rfl, rfl, ob3, rfl, ?_⟩
        refine ⟨_, rfl, b, _, _, _, rfl, rfl, ob3, rfl, ?_⟩
        refine ⟨_, rfl, b, _, _, _, rfl, rfl, ob3, rfl, ?_⟩
        refine ⟨_, rfl, _, _, rfl, rfl, ?_⟩
        refine ⟨_, rfl, b, _, _, _, rfl, rfl, ob3, rfl, ?_⟩
        refine ⟨_, rfl, _, _, rfl, rfl, ?_⟩
        refine ⟨_, rfl, b, _, _, _, rfl, rfl, ob3, rfl, ?_⟩
        refine ⟨(by show 5 ≤ sizeLine; decide), ?_⟩
        intro q hq
        generalize gH4 : L2.upd _ q _ = H4
        obtain ⟨s4, e4⟩ := newS hq gH4
        clear gH4
        have e4' : H4 q = some (.tup (mvO far o).vals) := e4
        have hqD : q ≠ D := fun w => by rw [w, e3] at hq; cases hq
        refine ⟨_, s4 _ _ e3, by rw [List.length_map, sizeLine_eq]; omega, fun b u e => ?_, bs ++ [q], by rw [upd_same, List.map_append]; rfl, ?_, ?_⟩
        · rw [upd_ne (ne_of_none e hD)]
          exact s4 _ _ (s3 _ _ e)
        · have kt : ∀ (o' : HO) b u, H4 b = some u → tupl u = true → (∀ xs, o' = .lst xs → True) → (upd H4 D o') b = some u := fun o' b u e y _ => by
            rw [upd_ne (fun w => by rw [w, s4 _ _ e3] at e; cases e; cases y)]
            exact e
          rw [List.take_add_one, eo, List.map_append]
          exact Paired.append ((OB.mono s4).keepR fun b u e y => kt _ b u e y (fun _ _ => True.intro)) (.cons (.inl (.inl (kt _ _ _ e4' rfl (fun _ _ => True.intro)))) .nil)
        · intro b hb
          rcases List.mem_append.mp hb with h | h
          · exact nbs b h
          · rw [List.mem_singleton.mp h]
            exact hqD
      · rintro H3 ⟨s3, bs, e3, OB, _⟩
        rw [List.length_map, lo, List.take_length] at OB
        exact ⟨T2.ext s3, R2.keep s3, D, bs, os.map (mvO far), e3, OB, gm, R2.fresh hD, _, _, _, _, _, _, _, _, _, _, _, _, _, _, rfl⟩
    clear T1 R1
    rintro σ H1 ⟨T1, R1, l, as, os, hl, ol, g, nl, w1, w4, w5, w6, w7, w8, w9, w10, w11, w12, w13, w14, w16, w17, rfl⟩
    have lo := PySem.Paired.length ol
    let St (H' : Hp) : Prop := LamX.Tabs TT H' ∧ RowAt K H' rw a ns ∧ H' l = some (.lst (as.map V.ref)) ∧ OrdsAt K H' as os
    have SS : ∀ {H' H'' : Hp}, St H' → Same H' H'' → St H'' := fun ⟨z1, z2, z3, z4⟩ s => ⟨z1.ext s, z2.keep s, s _ _ z3, z4.mono s⟩
    have SR : ∀ {H' H'' : Hp}, St H' → RowAt K H'' rw a ns → KeepR rw H' H'' → St H'' := fun ⟨z1, z2, z3, z4⟩ r k => ⟨tabs_keepR z2 z1 k, r, k _ _ z3 nl, z4.keepR (KeepR.tup k z2)⟩
    have SN : ∀ {H' H'' : Hp}, St H' → LamX.ExtN H' H'' → LamX.Tabs TT H'' → St H'' := fun ⟨z1, z2, z3, z4⟩ e t => ⟨t, row_extN z2 e, e _ _ z3 (fun ps z => by cases z), ords_extN z4 e⟩
    have ST : ∀ {H' : Hp}, St H' → LamX.Tabs TT H' := fun z => z.1
    have S1 : St H1 := ⟨T1, R1, hl, ol⟩
    clear T1 R1 hl ol
    refine ⟨fun σ' H' => St H' ∧ ∃ x d, x ∈ D5 ∧ 0 ≤ d ∧ d ≤ 1000000000000000000 ∧ ∃ v1 v6 v7 v8 v9 v10 v11 v12 v13 v14 v16 v17, σ' = tl v1 (some (.int far)) (some (.ref l)) (some (.str x)) (some (.int d)) v6 v7 v8 v9 v10 v11 v12 v13 v14 (some (.ref rw)) v16 v17, ?_, ?_⟩
    · refine ⟨_, rfl, (by show 5 ≤ sizeLine; decide), ?_⟩
      intro q1 hq1
      generalize gH2 : L2.upd _ q1 _ = H2
      obtain ⟨s2, e2⟩ := newS hq1 gH2
      clear gH2
      have S2 := SS S1 s2
      refine ⟨rw, a, ns, q1, _, rfl, S2.2.1, e2, S1.2.1.fresh hq1, by decide, by decide, fun j v H3 ev R3 k3 => ?_⟩
      obtain ⟨x, rfl, hx⟩ : ∃ x, v = .str x ∧ x ∈ D5 := by
        have e' : (D5.map V.str)[j]? = some v := ev
        rw [List.getElem?_map] at e'
        obtain ⟨x, ex, rfl⟩ := Option.map_eq_some_iff.mp e'
        exact ⟨x, rfl, List.mem_of_getElem? ex⟩
      have S3 := SR S2 R3 k3
      refine ⟨_, rfl, _, rfl, rw, a, ns, 12, rfl, R3, by decide, by decide, fun d H4 d0 d1 R4 k4 => ?_⟩
      refine ⟨_, _, rfl, rfl, _, _, rfl, ?_⟩
      exact ⟨SR S3 R4 k4, x, far + d, hx, by omega, by omega, _, _, _, _, _, _, _, _, _, _, _, _, rfl⟩
    clear S1
    rintro σ H1 ⟨S1, x, d, hx, d0, d1, w1, w6, w7, w8, w9, w10, w11, w12, w13, w14, w16, w17, rfl⟩
    have ax := D5_addr x hx
    refine ⟨fun σ' H' => ∃ H0 ll, ∃ c : Nat, (St H0 ∧ H0 ll = none ∧ Same H0 H') ∧ H' ll = some (.lst []) ∧ c ≤ 1000 ∧ ∃ v1 v8 v9 v10 v11 v12 v13 v14 v16 v17, σ' = tl v1 (some (.int far)) (some (.ref l)) (some (.str x)) (some (.int d)) (some (.int (c : Nat))) (some (.ref ll)) v8 v9 v10 v11 v12 v13 v14 (some (.ref rw)) v16 v17, ?_, ?_⟩
    · refine ⟨_, rfl, _, rfl, rw, a, ns, 9, rfl, S1.2.1, by decide, by decide, fun v H2 v0 v1 R2 k2 => ?_⟩
      have S2 := SR S1 R2 k2
      refine ⟨(by show 4 ≤ sizeLine; decide), ?_⟩
      intro q hq
      generalize gH3 : L2.upd _ q _ = H3
      obtain ⟨s3, e3⟩ := newS hq gH3
      clear gH3
      have S3 := SS S2 s3
      refine ⟨rw, a, ns, q, _, rfl, S3.2.1, e3, R2.fresh hq, (by show 0 < 4; decide), (by show 4 ≤ 1000000; decide), fun j u H4 eu R4 k4 => ?_⟩
      have S4 := SR S3 R4 k4
      obtain ⟨c, rfl, hc⟩ : ∃ c : Nat, u = .int (c : Nat) ∧ c ≤ 1000 := by
        have hj := (List.getElem?_eq_some_iff.mp eu).1
        have : j = 0 ∨ j = 1 ∨ j = 2 ∨ j = 3 := by
          have : j < 4 := hj
          omega
        obtain ⟨n, rfl⟩ := Int.eq_ofNat_of_zero_le v0
        rcases this with rfl | rfl | rfl | rfl <;> cases eu
        · exact ⟨0, rfl, by decide⟩
        · exact ⟨1, rfl, by decide⟩
        · exact ⟨n, rfl, by omega⟩
        · exact ⟨1000, rfl, by decide⟩
      refine ⟨Nat.zero_le _, ?_⟩
      intro ll hll
      generalize gH5 : L2.upd _ ll _ = H5
      obtain ⟨s5, e5⟩ := newS hll gH5
      clear gH5
      refine ⟨_, _, rfl, ?_⟩
      exact ⟨H4, ll, c, ⟨S4, hll, s5⟩, e5, hc, _, _, _, _, _, _, _, _, _, _, rfl⟩
    clear S1
    rintro σ H1 ⟨H0, ll, c, ⟨S0, n0, s01⟩, el, hc, w1, w8, w9, w10, w11, w12, w13, w14, w16, w17, rfl⟩
    have S1 := SS S0 s01
    refine ⟨fun σ' H' => St H' ∧ H' ll = some (.lst ((routeL os (max 1 c) (x, d)).map fun t => V.str (lineT t))) ∧ ∃ v1 v8 v9 v10 v11 v12 v13 v14 v16 v17, σ' = tl v1 (some (.int far)) (some (.ref l)) (some (.str x)) (some (.int d)) (some (.int (c : Nat))) (some (.ref ll)) v8 v9 v10 v11 v12 v13 v14 (some (.ref rw)) v16 v17, ?_, ?_⟩
    · have ln : (routeL os (max 1 c) (x, d)).length ≤ 1000 := Nat.le_trans routeL_len (by omega)
      refine ⟨_, rfl, _, rfl, _, rfl, _, rfl, _, _, rfl, l, as, os, x, d, max 1 c, ?_, SqL.of S1.2.2.1, S1.2.2.2, by omega, by omega, fun H2 la pas s2 fla e2 P2 => ?_⟩
      · have : (if ((c : Nat) : Int) > 1 then ((c : Nat) : Int) else 1) = ((max 1 c : Nat) : Int) := by split <;> omega
        rw [this]
      have S2 := SS S1 s2
      have el2 := s2 _ _ el
      have nla : la ≠ ll := fun w => by rw [w, el] at fla; cases fla
      have lp := PySem.Paired.length P2
      refine ⟨la, rfl, ⟨_, SqL.of e2⟩, for_it (walk_list (xs := pas.map V.ref)) (fun i σ H' => (∀ b u, H2 b = some u → b ≠ ll → H' b = some u) ∧ H' ll = some (.lst (((routeL os (max 1 c) (x, d)).take i).map fun t => V.str (lineT t))) ∧ ∃ v1 v8 v9 v10 v11 v12 v13 v14 v16 v17, σ = tl v1 (some (.int far)) (some (.ref l)) (some (.str x)) (some (.int d)) (some (.int (c : Nat))) (some (.ref ll)) v8 v9 v10 v11 v12 v13 v14 (some (.ref rw)) v16 v17) ⟨fun _ _ e _ => e, el2, _, _, _, _, _, _, _, _, _, _, rfl⟩ (fun i σ H' _ q => SqL.of (q.1 _ _ e2 nla)) ?_ ?_⟩
      · rintro i y σ Hx H3 hi ⟨k3, e3, w1, w8, w9, w10, w11, w12, w13, w14, w16, w17, rfl⟩ ⟨rfl, ey⟩
        rw [List.length_map] at hi
        obtain ⟨p, ep⟩ : ∃ p, pas[i]? = some p := ⟨pas[i], List.getElem?_eq_getElem hi⟩
        rw [List.getElem?_map, ep] at ey
        cases ey
        obtain ⟨t, et, hp⟩ := Paired.get P2 ep
        have tm := List.mem_of_getElem? et
        obtain ⟨a1, a2, a3⟩ := lineT_len g ax d0 d1 (by omega) tm
        have hp3 := k3 _ _ hp (fun w => by rw [w, el2] at hp; cases hp)
        have en : ((t.2.toNat : Nat) : Int) = t.2 := by omega
        refine ⟨p, _, rfl, .inl (.inl hp3), rfl, _, _, rfl, _, _, rfl, rfl, ?_⟩
        refine ⟨_, rfl, t.2.toNat, by rw [en], a3, ?_⟩
        refine ⟨_, rfl, .inl ⟨rfl, _, SqL.of e3⟩, ?_⟩
        have lg : (grpS t.2.toNat).length ≤ 30 := by
          have h1 := num30_len a3
          rw [num30_grp, Str.length_append] at h1
          omega
        have lx : lineT t = ((t.1 ++ dotS (8 - t.1.length)) ++ dotS (30 - (grpS t.2.toNat).length)) ++ grpS t.2.toNat := by
          unfold lineT
          rw [num30_grp, dots8_dot]
          refine TL.ext_tl ?_
          simp only [TL.tl_append, List.append_assoc]
        have sl := sizeLine_eq
        have r8 : repS "." (8 - ((t.1.length : Nat) : Int)) = dotS (8 - t.1.length) := by
          have : (8 - ((t.1.length : Nat) : Int)) = ((8 - t.1.length : Nat) : Int) := by omega
          rw [this]
          exact rep_dot _ (by omega)
        have r30 : repS "." (30 - (((grpS t.2.toNat).length : Nat) : Int)) = dotS (30 - (grpS t.2.toNat).length) := by
          have : (30 - (((grpS t.2.toNat).length : Nat) : Int)) = ((30 - (grpS t.2.toNat).length : Nat) : Int) := by omega
          rw [this]
          exact rep_dot _ (by omega)
        have q1 : Str.length "." = 1 := by decide +kernel
        refine ⟨_, rfl, _, rfl, t.1, rfl, by omega, _, _, rfl, rfl, _, _, rfl, rfl, by omega, by omega, by rw [q1]; decide, by rw [r8, dotS_len]; omega, ?_⟩
        rw [r8]
        refine ⟨_, _, rfl, rfl, by rw [dotS_len]; omega, ?_⟩
        refine ⟨_, rfl, _, rfl, by omega, _, _, rfl, rfl, _, _, rfl, rfl, by omega, by omega, by rw [q1]; decide, by rw [r30, dotS_len]; omega, ?_⟩
        rw [r30]
        refine ⟨_, _, rfl, rfl, by rw [Str.length_append, dotS_len, dotS_len]; omega, ?_⟩
        refine ⟨_, rfl, _, _, rfl, rfl, by rw [Str.length_append, Str.length_append, dotS_len, dotS_len]; omega, ?_⟩
        rw [← lx]
        refine ⟨ll, _, _, rfl, rfl, e3, by rw [List.length_map, List.length_take]; omega, ?_⟩
        generalize gH4 : L2.upd _ ll _ = H4
        obtain ⟨up4, e4⟩ := updS gH4
        clear gH4
        refine ⟨fun b u e n => up4 _ _ (k3 b u e n) n, ?_, _, _, _, _, _, _, _, _, _, _, rfl⟩
        rw [e4, List.take_add_one, et, List.map_append]
        rfl
      · rintro σ H3 ⟨k3, e3, w1, w8, w9, w10, w11, w12, w13, w14, w16, w17, rfl⟩
        rw [List.length_map, lp, List.take_length] at e3
        have s03 : Same H0 H3 := fun b u e => k3 _ _ (s2 _ _ (s01 _ _ e)) (ne_of_none e n0)
        exact ⟨SS S0 s03, e3, _, _, _, _, _, _, _, _, _, _, rfl⟩
    clear S1 el s01 n0 S0
    rintro σ H1 ⟨S1, el, w1, w8, w9, w10, w11, w12, w13, w14, w16, w17, rfl⟩
    refine ⟨fun σ' H' => St H' ∧ ∃ v1 v2 v4 v5 v6 v7 v8 v9 v10 v11 v12 v13 v14 v16 v17, σ' = tl v1 v2 (some (.ref l)) v4 v5 v6 v7 v8 v9 v10 v11 v12 v13 v14 (some (.ref rw)) v16 v17, ?_, ?_⟩
    · refine ⟨_, rfl, l, as, os, rfl, SqL.of S1.2.2.1, S1.2.2.2, g, fun H2 p s2 fp B2 => ⟨_, rfl, _, rfl, _, rfl, p, os, x, d, c, rfl, B2, g, ax, d0, d1, hc, fun H3 s3 => ?_⟩⟩
      have s13 := s2.trans s3
      refine ⟨⟨_, rfl⟩, _, rfl, _, _, rfl, rfl, _, rfl, ?_⟩
      by_cases c0 : 0 < c
      · refine iteD (by show (0 : Int) < _; omega) ?_
        have em : max 1 c = c := by omega
        rw [em] at el
        have ln : (routeL os c (x, d)).length ≤ 1000 := Nat.le_trans routeL_len (by omega)
        refine ⟨_, rfl, "\n", ll, (routeL os c (x, d)).map lineT, rfl, rfl, .inl (SqL.of ?_), ?_, ?_⟩
        · rw [List.map_map]
          exact s13 _ _ el
        · have q1 : Str.length "\n" = 1 := by decide +kernel
          rw [lines_room g ax d0 d1 hc, List.length_map, q1]
          omega
        refine ⟨rfl, _, rfl, iteND rfl ?_⟩
        exact ⟨SS S1 s13, _, _, _, _, _, _, _, _, _, _, _, _, _, _, _, rfl⟩
      · refine iteDN (by show ¬ ((0 : Int) < _); omega) ?_
        refine ⟨Nat.zero_le _, ?_⟩
        intro q hq
        generalize gH4 : L2.upd _ q _ = H4
        obtain ⟨s4, e4⟩ := newS hq gH4
        clear gH4
        obtain rfl : c = 0 := by omega
        refine ⟨"\n", q, [], rfl, rfl, .inl (SqL.of e4), (by show 0 + 0 * _ ≤ _; omega), ?_⟩
        refine ⟨rfl, _, rfl, iteND rfl ?_⟩
        exact ⟨SS S1 (s13.trans s4), _, _, _, _, _, _, _, _, _, _, _, _, _, _, _, rfl⟩
    clear S1 el
    rintro σ H1 ⟨S1, w1, w2, w4, w5, w6, w7, w8, w9, w10, w11, w12, w13, w14, w16, w17, rfl⟩
    refine ⟨fun σ' H' => St H' ∧ ∃ y u, (notSeq y = true ∧ shortV y ∧ isAddrB y = false) ∧ (notSeq u = true ∧ isIntB u 0 1000000000000000000 = false) ∧ ∃ v1 v2 v4 v5 v6 v7 v8 v9 v10 v11 v12 v14 v17, σ' = tl v1 v2 (some (.ref l)) v4 v5 v6 v7 v8 v9 v10 v11 v12 (some (y)) v14 (some (.ref rw)) (some (u)) v17, ?_, ?_⟩
    · refine ⟨_, rfl, (by show 4 ≤ sizeLine; decide), ?_⟩
      intro q1 h1
      generalize gH2 : L2.upd _ q1 _ = H2
      obtain ⟨s2, e2⟩ := newS h1 gH2
      clear gH2
      have S2 := SS S1 s2
      refine ⟨rw, a, ns, q1, _, rfl, S2.2.1, e2, S1.2.1.fresh h1, by decide, by decide, fun i y H3 ey R3 k3 => ?_⟩
      have S3 := SR S2 R3 k3
      refine ⟨_, rfl, _, rfl, _, _, rfl, rfl, ⟨by decide, by decide, by decide⟩, _, _, rfl, rfl, (by show 4 ≤ sizeLine; decide), ?_⟩
      intro q2 h2
      generalize gH4 : L2.upd _ q2 _ = H4
      obtain ⟨s4, e4⟩ := newS h2 gH4
      clear gH4
      replace e4 : H4 q2 = some (.lst [.int (-1), .int ((10 : Int) ^ (18 : Int).toNat + 1), .non, .bl true]) := e4
      rw [pow18] at e4
      have S4 := SS S3 s4
      refine ⟨rw, a, ns, q2, _, rfl, S4.2.1, e4, R3.fresh h2, (by show 0 < 4; decide), (by show 4 ≤ 1000000; decide), fun j u H5 eu R5 k5 => ?_⟩
      have S5 := SR S4 R5 k5
      refine ⟨(by show 2 ≤ sizeLine; decide), ?_⟩
      intro t ht
      generalize gH6 : L2.upd _ t _ = H6
      obtain ⟨s6, e6⟩ := newS ht gH6
      clear gH6
      refine ⟨t, _, rfl, .inl (.inl e6), rfl, _, _, rfl, _, _, rfl, rfl, SS S5 s6, y, u, ?_, ?_, _, _, _, _, _, _, _, _, _, _, _, _, _, rfl⟩
      · have hi := (List.getElem?_eq_some_iff.mp ey).1
        have : i = 0 ∨ i = 1 ∨ i = 2 ∨ i = 3 := by
          have : i < 4 := hi
          omega
        rcases this with rfl | rfl | rfl | rfl <;> cases ey
        · exact ⟨rfl, (by show Str.length _ ≤ _; decide +kernel), by decide +kernel⟩
        · exact ⟨rfl, (by show Str.length _ ≤ _; decide +kernel), by decide +kernel⟩
        · exact ⟨rfl, True.intro, rfl⟩
        · exact ⟨rfl, True.intro, rfl⟩
      · have hj := (List.getElem?_eq_some_iff.mp eu).1
        have : j = 0 ∨ j = 1 ∨ j = 2 ∨ j = 3 := by
          have : j < 4 := hj
          omega
        rcases this with rfl | rfl | rfl | rfl <;> cases eu
        · exact ⟨rfl, by decide +kernel⟩
        · exact ⟨rfl, by decide +kernel⟩
        · exact ⟨rfl, rfl⟩
        · exact ⟨rfl, rfl⟩
    clear S1
    rintro σ H1 ⟨S1, y, u, ⟨ny, sy, ay⟩, ⟨nu, iu⟩, w1, w2, w4, w5, w6, w7, w8, w9, w10, w11, w12, w14, w17, rfl⟩
    refine ⟨fun σ' H' => St H' ∧ ∃ b, ∃ v1 v2 v4 v5 v6 v7 v8 v9 v10 v11 v12 v17, σ' = tl v1 v2 (some (.ref l)) v4 v5 v6 v7 v8 v9 v10 v11 v12 (some (y)) (some (.ref b)) (some (.ref rw)) (some (u)) v17, ?_, ?_⟩
    · refine ⟨_, rfl, l, as, os, rfl, SqL.of S1.2.2.1, S1.2.2.2, g, fun H2 p s2 fp B2 => ?_⟩
      exact ⟨SS S1 s2, p, _, _, _, _, _, _, _, _, _, _, _, _, rfl⟩
    clear S1
    rintro σ H1 ⟨S1, b, w1, w2, w4, w5, w6, w7, w8, w9, w10, w11, w12, w17, rfl⟩
    refine ⟨ST S1, fun f1 Ha xa Ta fna LM1 => ⟨Ta, fun f2 Hb xb Tb fnb LM2 => ?_⟩⟩
    refine ⟨(by show 2 ≤ sizeLine; decide), ?_⟩
    intro lw hlw
    generalize gHc : L2.upd _ lw _ = Hc
    obtain ⟨sc1, ec⟩ := newS hlw gHc
    clear gHc
    have xc : LamX.ExtN H1 Hc := (xa.trans xb).trans (LamX.ExtN.of sc1)
    replace LM1 := (LM1.keep fun b φ z => xb _ _ z (fun ps w => by cases w)).keep fun b φ z => sc1 _ _ z
    replace LM2 := LM2.keep fun b φ z => sc1 _ _ z
    have Sb := SN (SN S1 xa Ta) xb Tb
    have Sg := SS Sb sc1
    have nlw : lw ≠ rw := Sb.2.1.fresh hlw
    have eg' : Hc lw = some (.lst [.ref f1, .ref f2]) := ec
    have kg : LamX.ExtN Hb Hc := LamX.ExtN.of sc1
    clear sc1 ec xa xb xc Ta Tb fna fnb S1
    refine ⟨_, rfl, .inl ⟨rfl, _, SqL.of eg'⟩, ST Sg, fun f3 Ha xa Ta fna LM3 => ?_⟩
    have ea := xa _ _ eg' (fun ps z => by cases z)
    refine ⟨lw, _, _, rfl, rfl, ea, (by show 2 < sizeLine; decide), ?_⟩
    generalize gH8 : L2.upd _ lw _ = H8
    obtain ⟨upb, e8⟩ := updS gH8
    clear gH8
    have k8 : LamX.ExtN Hb H8 := fun b u e n => upb _ _ (xa _ _ (kg _ _ e n) n) (ne_of_none e hlw)
    have T8 := tabs_but ea Ta upb
    have S8 := SN Sb k8 T8
    have keepE : ∀ b φ, Ha b = some (.ext φ) → H8 b = some (.ext φ) := fun b φ z => upb _ _ z fun w => by rw [w, ea] at z; cases z
    replace LM1 := (LM1.keep fun b φ z => xa _ _ z (fun ps w => by cases w)).keep keepE
    replace LM2 := (LM2.keep fun b φ z => xa _ _ z (fun ps w => by cases w)).keep keepE
    replace LM3 := LM3.keep keepE
    have e8' : H8 lw = some (.lst [.ref f1, .ref f2, .ref f3]) := e8
    clear keepE upb xa ea Ta fna kg Sg eg' Sb k8 T8 e8 hlw
    refine ⟨(by show 2 ≤ sizeLine; decide), ?_⟩
    intro t1 ht1
    generalize gG1 : L2.upd _ t1 _ = G1
    obtain ⟨u1, c1⟩ := newS ht1 gG1
    clear gG1
    refine ⟨(by show 2 ≤ sizeLine; decide), ?_⟩
    intro t2 ht2
    generalize gG2 : L2.upd _ t2 _ = G2
    obtain ⟨u2, c2⟩ := newS ht2 gG2
    clear gG2
    refine ⟨(by show 2 ≤ sizeLine; decide), ?_⟩
    intro t3 ht3
    generalize gG3 : L2.upd _ t3 _ = G3
    obtain ⟨u3, c3⟩ := newS ht3 gG3
    clear gG3
    refine ⟨(by show 3 ≤ sizeLine; decide), ?_⟩
    intro due hdue
    generalize gG : L2.upd _ due _ = G
    obtain ⟨uc, cc⟩ := newS hdue gG
    clear gG
    have e_1 : G t1 = some (.tup [.str "error", .str "InvalidAddress"]) := uc _ _ (u3 _ _ (u2 _ _ c1))
    have e_2 : G t2 = some (.tup [.str "error", .str "InvalidDay"]) := uc _ _ (u3 _ _ c2)
    have e_3 : G t3 = some (.tup [.str "error", .str "InvalidNumber"]) := uc _ _ c3
    have e_d : G due = some (.lst [.ref t1, .ref t2, .ref t3]) := cc
    have u13 := (u1.trans u2).trans u3
    have uG := u13.trans uc
    have SG := SS S8 uG
    have eG := uG _ _ e8'
    replace LM1 := LM1.keep fun b φ z => uG _ _ z
    replace LM2 := LM2.keep fun b φ z => uG _ _ z
    replace LM3 := LM3.keep fun b φ z => uG _ _ z
    have ndue : due ≠ rw := (SS S8 u13).2.1.fresh hdue
    clear u1 u2 u3 uc u13 uG c1 c2 c3 cc ht1 ht2 ht3 hdue S8 e8'
    refine ⟨_, rfl, lw, rfl, ⟨_, SqL.of eG⟩, fun D hD => ?_⟩
    let nm3 : List Str := ["InvalidAddress", "InvalidDay", "InvalidNumber"]
    let RA (H' : Hp) (j : Nat) (r : Addr) : Prop := H' r = some (.tup [.str "error", .str (nm3.getD j "")])
    have nDrw : D ≠ rw := SG.2.1.fresh hD
    have sa : shortV (.str "a") := (by show Str.length _ ≤ _; decide +kernel)
    have aa : isAddrB (.str "a") = true := by decide +kernel
    have le1 : ∀ d n, routeErrR y d n = some .address := fun d n => by unfold routeErrR letErr; rw [if_neg (by rw [ay]; decide)]
    have le2 : ∀ n, routeErrR (.str "a") u n = some .day := fun n => by unfold routeErrR letErr; rw [if_pos aa, if_neg (by rw [iu]; decide)]
    have le3 : ∀ n, isIntB n 0 1000 = false → routeErrR (.str "a") (.int 0) n = some .number := fun n h => by
      unfold routeErrR letErr
      rw [if_pos aa, if_pos (by decide +kernel)]
      show (if isIntB n 0 1000 = true then none else some Err.number) = _
      rw [if_neg (by rw [h]; decide)]
    refine lc_it (walk_list (xs := [V.ref f1, V.ref f2, V.ref f3])) (fun i H' => KeepR rw G H' ∧ RowAt K H' rw a ns ∧ ∃ rs : List Addr, rs.length = i ∧ H' D = some (.lst (rs.map V.ref)) ∧ ∀ j r, rs[j]? = some r → RA H' j r) ⟨KeepR.of (Same.new hD), SG.2.1.keep (Same.new hD), [], rfl, upd_same, fun j r z => by cases z⟩ (fun i H' _ z => SqL.of (z.1 _ _ eG nlw)) ?_ ?_
    · rintro i yv Hx Hy hi ⟨kr, RX, rs, lrs, eD, hra⟩ ⟨rfl, ey⟩
      have hi3 : i < 3 := hi
      have SX := SR SG RX kr
      have keepE : ∀ b φ, G b = some (.ext φ) → Hy b = some (.ext φ) := fun b φ z => kr _ _ z fun w => by
        obtain ⟨xs, q⟩ := SG.2.1.ex
        rw [w, q] at z
        cases z
      have fin : ∀ (r : Addr) (H13 : Hp), KeepR rw Hy H13 → RowAt K H13 rw a ns → RA H13 i r → ∃ acc, H13 D = some (.lst acc) ∧ acc.length < sizeLine ∧ KeepR rw G (upd H13 D (.lst (acc ++ [V.ref r]))) ∧ RowAt K (upd H13 D (.lst (acc ++ [V.ref r]))) rw a ns ∧ ∃ rs : List Addr, rs.length = i + 1 ∧ (upd H13 D (.lst (acc ++ [V.ref r]))) D = some (.lst (rs.map V.ref)) ∧ ∀ j r', rs[j]? = some r' → RA (upd H13 D (.lst (acc ++ [V.ref r]))) j r' := fun r H13 k13 R13 ra => by
        have eD13 := k13 _ _ eD nDrw
        have up : ∀ b u, H13 b = some u → b ≠ D → (upd H13 D (.lst (rs.map V.ref ++ [V.ref r]))) b = some u := fun b u e n => by rw [upd_ne n]; exact e
        have tup : ∀ {b xs}, H13 b = some (.tup xs) → (upd H13 D (.lst (rs.map V.ref ++ [V.ref r]))) b = some (.tup xs) := fun {b xs} e => up _ _ e fun w => by rw [w, eD13] at e; cases e
        have krU : KeepR rw G (upd H13 D (.lst (rs.map V.ref ++ [V.ref r]))) := fun b u e n => up _ _ (k13 _ _ (kr _ _ e n) n) (ne_of_none e hD)
        refine ⟨_, eD13, by rw [List.length_map, lrs, sizeLine_eq]; omega, krU, SG.2.1.via krU R13 (fun u e => up _ _ e nDrw.symm), rs ++ [r], by rw [List.length_append, lrs]; rfl, by rw [upd_same, List.map_append]; rfl, fun j r' ej => ?_⟩
        by_cases c : j < rs.length
        · rw [List.getElem?_append_left c] at ej
          have h1 : Hy r' = some (HO.tup [.str "error", .str (nm3.getD j "")]) := hra j r' ej
          exact tup (k13 _ _ h1 (fun w => by obtain ⟨xs, q⟩ := RX.ex; rw [w, q] at h1; cases h1))
        · rw [List.getElem?_append_right (by omega)] at ej
          have hj := (List.getElem?_eq_some_iff.mp ej).1
          have ej0 : j - rs.length = 0 := by
            simp only [List.length_cons, List.length_nil] at hj
            omega
          rw [ej0] at ej
          cases ej
          have ji : j = i := by omega
          subst ji
          exact tup ra
      have i02 : i = 0 ∨ i = 1 ∨ i = 2 := by omega
      rcases i02 with rfl | rfl | rfl
      · cases ey
        refine ⟨rfl, yesT (iteT ?_)⟩
        refine ⟨_, rfl, _, f1, rfl, LM1.keep keepE, ?_⟩
        refine ⟨_, rfl, _, rfl, _, rfl, _, rfl, .ref b, y, .int (-1), .int (-1), .address, rfl, ny, sy, rfl, rfl, le1 _ _, fun H12 cls s12 e12 => ⟨.address, True.intro, e12, fun r H13 s13 fr ta => ?_⟩⟩
        have s23 := s12.trans s13
        exact fin r H13 (KeepR.of s23) (RX.keep s23) ta
      · cases ey
        refine ⟨rfl, yesT (iteT ?_)⟩
        refine ⟨_, rfl, _, f2, rfl, LM2.keep keepE, ?_⟩
        refine ⟨_, rfl, _, rfl, _, rfl, .ref b, .str "a", u, .int (-1), .day, rfl, rfl, sa, nu, rfl, le2 _, fun H12 cls s12 e12 => ⟨.day, True.intro, e12, fun r H13 s13 fr ta => ?_⟩⟩
        have s23 := s12.trans s13
        exact fin r H13 (KeepR.of s23) (RX.keep s23) ta
      · cases ey
        refine ⟨rfl, yesT (iteT ?_)⟩
        refine ⟨_, rfl, _, f3, rfl, LM3.keep keepE, ?_⟩
        refine ⟨_, rfl, _, rfl, _, rfl, (by show 4 ≤ sizeLine; decide), ?_⟩
        intro q6 hq6
        generalize gHz : L2.upd _ q6 _ = Hz
        obtain ⟨sz, ez⟩ := newS hq6 gHz
        clear gHz
        have Sz := SS SX sz
        refine ⟨rw, a, ns, q6, _, rfl, Sz.2.1, ez, RX.fresh hq6, by decide, by decide, fun i v Hw ev Rw kw => ?_⟩
        obtain ⟨nv, iv⟩ : notSeq v = true ∧ isIntB v 0 1000 = false := by
          have hi := (List.getElem?_eq_some_iff.mp ev).1
          have : i = 0 ∨ i = 1 ∨ i = 2 ∨ i = 3 := by
            have : i < 4 := hi
            omega
          rcases this with rfl | rfl | rfl | rfl <;> cases ev
          · exact ⟨rfl, by decide +kernel⟩
          · exact ⟨rfl, by decide +kernel⟩
          · exact ⟨rfl, rfl⟩
          · exact ⟨rfl, rfl⟩
        refine ⟨.ref b, .str "a", .int 0, v, .number, rfl, rfl, sa, rfl, nv, le3 _ iv, fun H12 cls s12 e12 => ⟨.number, True.intro, e12, fun r H13 s13 fr ta => ?_⟩⟩
        have s23 := s12.trans s13
        exact fin r H13 (fun b o e n => s23 _ _ (kw _ _ (sz _ _ e) n)) (Rw.keep s23) ta
    · rintro H' ⟨kr, RX, rs, lrs, eD, hra⟩
      obtain ⟨xsr, hxr⟩ := SG.2.1.ex
      have tk : ∀ {b : Addr} {xs : List V}, G b = some (.tup xs) → H' b = some (.tup xs) := fun {b xs} e => kr _ _ e fun w => by rw [w, hxr] at e; cases e
      match rs, lrs with
      | [r0, r1, r2], _ =>
        have g0 : H' r0 = some (.tup [.str "error", .str "InvalidAddress"]) := hra 0 r0 rfl
        have g1 : H' r1 = some (.tup [.str "error", .str "InvalidDay"]) := hra 1 r1 rfl
        have g2 : H' r2 = some (.tup [.str "error", .str "InvalidNumber"]) := hra 2 r2 rfl
        let E2 (z : Str) : PyData := .tuple [.str "error", .str z]
        have d2 : ∀ {r : Addr} {z : Str}, H' r = some (.tup [.str "error", .str z]) → Dp K H' (.ref r) (E2 z) := fun h => .tup (.inl (.inl h)) (.cons (.str _) (.cons (.str _) .nil))
        let DD : PyData := .list [E2 "InvalidAddress", E2 "InvalidDay", E2 "InvalidNumber"]
        have k2 : ∀ z : Str, PyData.strOk z = true → DK 2 (E2 z) := fun z h => DK.le (m := 2) (.tuple (.cons (.strk 0 (by decide +kernel)) (.cons (.strk 0 h) .nil)) (by show 2 ≤ _; decide) : DK 1 _) (by decide)
        have dk : DK 3 DD := .list (.cons (k2 _ (by decide +kernel)) (.cons (k2 _ (by decide +kernel)) (.cons (k2 _ (by decide +kernel)) .nil))) (by show 3 ≤ _; decide)
        refine ⟨_, rfl, DD, DD, .lst (SqL.of eD) (.cons (d2 g0) (.cons (d2 g1) (.cons (d2 g2) .nil))), .lst (SqL.of (kr _ _ e_d ndue)) (.cons (d2 (tk e_1)) (.cons (d2 (tk e_2)) (.cons (d2 (tk e_3)) .nil))), dk.shaped (by decide), dk.shaped (by decide), ?_⟩
        rw [show PyData.eqv DD DD = true from by simp [DD, E2, PyData.eqv, PyData.eqvAll]]
        have SX := SR SG RX kr
        exact ⟨_, rfl, iteF ⟨SX.1, SX.2.1, _, _, _, _, _, _, _, _, _, _, _, _, _, _, _, _, rfl⟩⟩
end

end MF
set_option Elab.async false
set_option linter.all false
set_option maxRecDepth 100000
set_option maxHeartbeats 2000000
set_option pp.maxSteps 600
namespace MF
open PySem PySem.Spec PyProof.Rows L2 StX
theorem all_mk {l : PySem.W.OpenLaw} {w : World} {K : PySem.W.Frag} {h : Heap} {mg : Str → Option Value} {fa C_Book C_Letter C_MailError C_InvalidOperation C_InvalidOrder C_UnknownOrder C_NotHolding C_DecodeError C_NotationError C_UnknownLetter C_InvalidAddress C_InvalidDay C_InvalidNumber C_Contradiction C_InvalidCount cL_q26 PL_q26 f_q0 f_q1 f_q2 f_q3 f_q4 f_q5 f_q6 f_q7 f_q8 f_q9 f_q10 f_q11 f_q12 f_q13 f_q14 f_q15 f_q16 f_q17 f_q18 f_q19 f_q20 f_q21 f_q22 f_q23 f_q24 f_q25 f_q26 : Addr} (X : K.In h) (G : h.Ns mainGlobals mg) (hfa : mg "law" = some (.ref fa))
    {odq0 anq0 odq1 anq1 odq2 anq2 odq3 anq3 odq4 anq4 odq5 anq5 odq6 anq6 odq7 anq7 odq8 anq8 odq9 anq9 odq10 anq10 odq11 anq11 odq12 anq12 odq13 anq13 odq14 anq14 odq15 anq15 odq16 anq16 odq17 anq17 odq18 anq18 odq19 anq19 odq20 anq20 odq21 anq21 odq22 anq22 odq23 anq23 odq24 anq24 odq25 anq25 odq26 anq26 : Option Addr} {slq0 slq1 slq2 slq3 slq4 slq5 slq6 slq7 slq8 slq9 slq10 slq11 slq12 slq13 slq14 slq15 slq16 slq17 slq18 slq19 slq20 slq21 slq22 slq23 slq24 slq25 slq26 : Array (Option Value)} {ocq0 kVq0 dcq0 pmq0 cdq0 ctq0 ocq1 kVq1 dcq1 pmq1 cdq1 ctq1 ocq2 kVq2 dcq2 pmq2 cdq2 ctq2 ocq3 kVq3 dcq3 pmq3 cdq3 ctq3 ocq4 kVq4 dcq4 pmq4 cdq4 ctq4 ocq5 kVq5 dcq5 pmq5 cdq5 ctq5 ocq6 kVq6 dcq6 pmq6 cdq6 ctq6 ocq7 kVq7 dcq7 pmq7 cdq7 ctq7 ocq8 kVq8 dcq8 pmq8 cdq8 ctq8 ocq9 kVq9 dcq9 pmq9 cdq9 ctq9 ocq10 kVq10 dcq10 pmq10 cdq10 ctq10 ocq11 kVq11 dcq11 pmq11 cdq11 ctq11 ocq12 kVq12 dcq12 pmq12 cdq12 ctq12 ocq13 kVq13 dcq13 pmq13 cdq13 ctq13 ocq14 kVq14 dcq14 pmq14 cdq14 ctq14 ocq15 kVq15 dcq15 pmq15 cdq15 ctq15 ocq16 kVq16 dcq16 pmq16 cdq16 ctq16 ocq17 kVq17 dcq17 pmq17 cdq17 ctq17 ocq18 kVq18 dcq18 pmq18 cdq18 ctq18 ocq19 kVq19 dcq19 pmq19 cdq19 ctq19 ocq20 kVq20 dcq20 pmq20 cdq20 ctq20 ocq21 kVq21 dcq21 pmq21 cdq21 ctq21 ocq22 kVq22 dcq22 pmq22 cdq22 ctq22 ocq23 kVq23 dcq23 pmq23 cdq23 ctq23 ocq24 kVq24 dcq24 pmq24 cdq24 ctq24 ocq25 kVq25 dcq25 pmq25 cdq25 ctq25 ocq26 kVq26 dcq26 pmq26 ctq26 mcB : Value} {tg_0 tg_1 tg_2 tg_3 tg_4 tg_5 : Tok}
    (aC_Book : PySem.W.nsIn K mainGlobals "Book" = some (some (.ref C_Book)))
    (aC_Letter : PySem.W.nsIn K mainGlobals "Letter" = some (some (.ref C_Letter)))
    (ge_MailError : PySem.W.nsIn K mainGlobals "MailError" = some (some (.ref C_MailError)))
    (ge_InvalidOperation : PySem.W.nsIn K mainGlobals "InvalidOperation" = some (some (.ref C_InvalidOperation)))
    (ge_InvalidOrder : PySem.W.nsIn K mainGlobals "InvalidOrder" = some (some (.ref C_InvalidOrder)))
    (ge_UnknownOrder : PySem.W.nsIn K mainGlobals "UnknownOrder" = some (some (.ref C_UnknownOrder)))
    (ge_NotHolding : PySem.W.nsIn K mainGlobals "NotHolding" = some (some (.ref C_NotHolding)))
    (ge_DecodeError : PySem.W.nsIn K mainGlobals "DecodeError" = some (some (.ref C_DecodeError)))
    (ge_NotationError : PySem.W.nsIn K mainGlobals "NotationError" = some (some (.ref C_NotationError)))
    (ge_UnknownLetter : PySem.W.nsIn K mainGlobals "UnknownLetter" = some (some (.ref C_UnknownLetter)))
    (ge_InvalidAddress : PySem.W.nsIn K mainGlobals "InvalidAddress" = some (some (.ref C_InvalidAddress)))
    (ge_InvalidDay : PySem.W.nsIn K mainGlobals "InvalidDay" = some (some (.ref C_InvalidDay)))
    (ge_InvalidNumber : PySem.W.nsIn K mainGlobals "InvalidNumber" = some (some (.ref C_InvalidNumber)))
    (ge_Contradiction : PySem.W.nsIn K mainGlobals "Contradiction" = some (some (.ref C_Contradiction)))
    (ge_InvalidCount : PySem.W.nsIn K mainGlobals "InvalidCount" = some (some (.ref C_InvalidCount)))
    (aq0 : PySem.W.nsIn K mainGlobals "is_integer" = some (some (.ref f_q0)))
    (lq0 : K.lookup f_q0 = some ⟨ocq0, odq0, .func (PySem.W.fnOf "is_integer" "is_integer" (defArgs s_is_integer) (defBody s_is_integer) (defScope s_is_integer) .none kVq0 dcq0 pmq0 anq0 cdq0 ctq0), slq0⟩)
    (cq0 : PySem.W.codeIn K cdq0 "is_integer" = true)
    (kq0 : PySem.W.keepIn K (.ref f_q0) = true)
    (aq1 : PySem.W.nsIn K mainGlobals "is_address" = some (some (.ref f_q1)))
    (lq1 : K.lookup f_q1 = some ⟨ocq1, odq1, .func (PySem.W.fnOf "is_address" "is_address" (defArgs s_is_address) (defBody s_is_address) (defScope s_is_address) .none kVq1 dcq1 pmq1 anq1 cdq1 ctq1), slq1⟩)
    (cq1 : PySem.W.codeIn K cdq1 "is_address" = true)
    (kq1 : PySem.W.keepIn K (.ref f_q1) = true)
    (aq2 : PySem.W.nsIn K mainGlobals "check_letter" = some (some (.ref f_q2)))
    (lq2 : K.lookup f_q2 = some ⟨ocq2, odq2, .func (PySem.W.fnOf "check_letter" "check_letter" (defArgs s_check_letter) (defBody s_check_letter) (defScope s_check_letter) .none kVq2 dcq2 pmq2 anq2 cdq2 ctq2), slq2⟩)
    (cq2 : PySem.W.codeIn K cdq2 "check_letter" = true)
    (kq2 : PySem.W.keepIn K (.ref f_q2) = true)
    (aq3 : PySem.W.nsIn K mainGlobals "is_order" = some (some (.ref f_q3)))
    (lq3 : K.lookup f_q3 = some ⟨ocq3, odq3, .func (PySem.W.fnOf "is_order" "is_order" (defArgs s_is_order) (defBody s_is_order) (defScope s_is_order) .none kVq3 dcq3 pmq3 anq3 cdq3 ctq3), slq3⟩)
    (cq3 : PySem.W.codeIn K cdq3 "is_order" = true)
    (kq3 : PySem.W.keepIn K (.ref f_q3) = true)
    (aq4 : PySem.W.nsIn K mainGlobals "do_overlap" = some (some (.ref f_q4)))
    (lq4 : K.lookup f_q4 = some ⟨ocq4, odq4, .func (PySem.W.fnOf "do_overlap" "do_overlap" (defArgs s_do_overlap) (defBody s_do_overlap) (defScope s_do_overlap) .none kVq4 dcq4 pmq4 anq4 cdq4 ctq4), slq4⟩)
    (cq4 : PySem.W.codeIn K cdq4 "do_overlap" = true)
    (kq4 : PySem.W.keepIn K (.ref f_q4) = true)
    (aq5 : PySem.W.findIn K (.ref C_Book) "__init__" = some (some (.ref f_q5)))
    (iq5 : PySem.W.isFn K (.ref f_q5) = true)
    (lq5 : K.lookup f_q5 = some ⟨ocq5, odq5, .func (PySem.W.fnOf "__init__" "Book.__init__" (defArgs s_BookX_initX) (defBody s_BookX_initX) (defScope s_BookX_initX) .none kVq5 dcq5 pmq5 anq5 cdq5 ctq5), slq5⟩)
    (cq5 : PySem.W.codeIn K cdq5 "Book.__init__" = true)
    (kq5 : PySem.W.keepIn K (.ref f_q5) = true)
    (aq6 : PySem.W.findIn K (.ref C_Book) "__add__" = some (some (.ref f_q6)))
    (iq6 : PySem.W.isFn K (.ref f_q6) = true)
    (lq6 : K.lookup f_q6 = some ⟨ocq6, odq6, .func (PySem.W.fnOf "__add__" "Book.__add__" (defArgs s_BookX_addX) (defBody s_BookX_addX) (defScope s_BookX_addX) .none kVq6 dcq6 pmq6 anq6 cdq6 ctq6), slq6⟩)
    (cq6 : PySem.W.codeIn K cdq6 "Book.__add__" = true)
    (kq6 : PySem.W.keepIn K (.ref f_q6) = true)
    (aq7 : PySem.W.findIn K (.ref C_Book) "order_for" = some (some (.ref f_q7)))
    (iq7 : PySem.W.isFn K (.ref f_q7) = true)
    (lq7 : K.lookup f_q7 = some ⟨ocq7, odq7, .func (PySem.W.fnOf "order_for" "Book.order_for" (defArgs s_Book_order_for) (defBody s_Book_order_for) (defScope s_Book_order_for) .none kVq7 dcq7 pmq7 anq7 cdq7 ctq7), slq7⟩)
    (cq7 : PySem.W.codeIn K cdq7 "Book.order_for" = true)
    (kq7 : PySem.W.keepIn K (.ref f_q7) = true)
    (aq8 : PySem.W.findIn K (.ref C_Book) "next_change" = some (some (.ref f_q8)))
    (iq8 : PySem.W.isFn K (.ref f_q8) = true)
    (lq8 : K.lookup f_q8 = some ⟨ocq8, odq8, .func (PySem.W.fnOf "next_change" "Book.next_change" (defArgs s_Book_next_change) (defBody s_Book_next_change) (defScope s_Book_next_change) .none kVq8 dcq8 pmq8 anq8 cdq8 ctq8), slq8⟩)
    (cq8 : PySem.W.codeIn K cdq8 "Book.next_change" = true)
    (kq8 : PySem.W.keepIn K (.ref f_q8) = true)
    (aq9 : PySem.W.nsIn K mainGlobals "book_of" = some (some (.ref f_q9)))
    (lq9 : K.lookup f_q9 = some ⟨ocq9, odq9, .func (PySem.W.fnOf "book_of" "book_of" (defArgs s_book_of) (defBody s_book_of) (defScope s_book_of) .none kVq9 dcq9 pmq9 anq9 cdq9 ctq9), slq9⟩)
    (cq9 : PySem.W.codeIn K cdq9 "book_of" = true)
    (kq9 : PySem.W.keepIn K (.ref f_q9) = true)
    (aq10 : PySem.W.findIn K (.ref C_Letter) "__init__" = some (some (.ref f_q10)))
    (iq10 : PySem.W.isFn K (.ref f_q10) = true)
    (lq10 : K.lookup f_q10 = some ⟨ocq10, odq10, .func (PySem.W.fnOf "__init__" "Letter.__init__" (defArgs s_LetterX_initX) (defBody s_LetterX_initX) (defScope s_LetterX_initX) .none kVq10 dcq10 pmq10 anq10 cdq10 ctq10), slq10⟩)
    (cq10 : PySem.W.codeIn K cdq10 "Letter.__init__" = true)
    (kq10 : PySem.W.keepIn K (.ref f_q10) = true)
    (aq11 : PySem.W.findIn K (.ref C_Letter) "order_now" = some (some (.ref f_q11)))
    (iq11 : PySem.W.isFn K (.ref f_q11) = true)
    (lq11 : K.lookup f_q11 = some ⟨ocq11, odq11, .func (PySem.W.fnOf "order_now" "Letter.order_now" (defArgs s_Letter_order_now) (defBody s_Letter_order_now) (defScope s_Letter_order_now) .none kVq11 dcq11 pmq11 anq11 cdq11 ctq11), slq11⟩)
    (cq11 : PySem.W.codeIn K cdq11 "Letter.order_now" = true)
    (kq11 : PySem.W.keepIn K (.ref f_q11) = true)
    (aq12 : PySem.W.findIn K (.ref C_Letter) "step" = some (some (.ref f_q12)))
    (iq12 : PySem.W.isFn K (.ref f_q12) = true)
    (lq12 : K.lookup f_q12 = some ⟨ocq12, odq12, .func (PySem.W.fnOf "step" "Letter.step" (defArgs s_Letter_step) (defBody s_Letter_step) (defScope s_Letter_step) .none kVq12 dcq12 pmq12 anq12 cdq12 ctq12), slq12⟩)
    (cq12 : PySem.W.codeIn K cdq12 "Letter.step" = true)
    (kq12 : PySem.W.keepIn K (.ref f_q12) = true)
    (aq13 : PySem.W.nsIn K mainGlobals "route" = some (some (.ref f_q13)))
    (lq13 : K.lookup f_q13 = some ⟨ocq13, odq13, .func (PySem.W.fnOf "route" "route" (defArgs s_route) (defBody s_route) (defScope s_route) .none kVq13 dcq13 pmq13 anq13 cdq13 ctq13), slq13⟩)
    (cq13 : PySem.W.codeIn K cdq13 "route" = true)
    (kq13 : PySem.W.keepIn K (.ref f_q13) = true)
    (aq14 : PySem.W.nsIn K mainGlobals "travel_list" = some (some (.ref f_q14)))
    (lq14 : K.lookup f_q14 = some ⟨ocq14, odq14, .func (PySem.W.fnOf "travel_list" "travel_list" (defArgs s_travel_list) (defBody s_travel_list) (defScope s_travel_list) .none kVq14 dcq14 pmq14 anq14 cdq14 ctq14), slq14⟩)
    (cq14 : PySem.W.codeIn K cdq14 "travel_list" = true)
    (kq14 : PySem.W.keepIn K (.ref f_q14) = true)
    (aq15 : PySem.W.nsIn K mainGlobals "_law_dice" = some (some (.ref f_q15)))
    (lq15 : K.lookup f_q15 = some ⟨ocq15, odq15, .func (PySem.W.fnOf "_law_dice" "_law_dice" (defArgs s__law_dice) (defBody s__law_dice) (defScope s__law_dice) .none kVq15 dcq15 pmq15 anq15 cdq15 ctq15), slq15⟩)
    (cq15 : PySem.W.codeIn K cdq15 "_law_dice" = true)
    (kq15 : PySem.W.keepIn K (.ref f_q15) = true)
    (aq16 : PySem.W.nsIn K mainGlobals "_law_next" = some (some (.ref f_q16)))
    (lq16 : K.lookup f_q16 = some ⟨ocq16, odq16, .func (PySem.W.fnOf "_law_next" "_law_next" (defArgs s__law_next) (defBody s__law_next) (defScope s__law_next) .none kVq16 dcq16 pmq16 anq16 cdq16 ctq16), slq16⟩)
    (cq16 : PySem.W.codeIn K cdq16 "_law_next" = true)
    (kq16 : PySem.W.keepIn K (.ref f_q16) = true)
    (aq17 : PySem.W.nsIn K mainGlobals "_law_pick" = some (some (.ref f_q17)))
    (lq17 : K.lookup f_q17 = some ⟨ocq17, odq17, .func (PySem.W.fnOf "_law_pick" "_law_pick" (defArgs s__law_pick) (defBody s__law_pick) (defScope s__law_pick) .none kVq17 dcq17 pmq17 anq17 cdq17 ctq17), slq17⟩)
    (cq17 : PySem.W.codeIn K cdq17 "_law_pick" = true)
    (kq17 : PySem.W.keepIn K (.ref f_q17) = true)
    (aq18 : PySem.W.nsIn K mainGlobals "_law_told" = some (some (.ref f_q18)))
    (lq18 : K.lookup f_q18 = some ⟨ocq18, odq18, .func (PySem.W.fnOf "_law_told" "_law_told" (defArgs s__law_told) (defBody s__law_told) (defScope s__law_told) .none kVq18 dcq18 pmq18 anq18 cdq18 ctq18), slq18⟩)
    (cq18 : PySem.W.codeIn K cdq18 "_law_told" = true)
    (kq18 : PySem.W.keepIn K (.ref f_q18) = true)
    (aq19 : PySem.W.nsIn K mainGlobals "_law_fits" = some (some (.ref f_q19)))
    (lq19 : K.lookup f_q19 = some ⟨ocq19, odq19, .func (PySem.W.fnOf "_law_fits" "_law_fits" (defArgs s__law_fits) (defBody s__law_fits) (defScope s__law_fits) .none kVq19 dcq19 pmq19 anq19 cdq19 ctq19), slq19⟩)
    (cq19 : PySem.W.codeIn K cdq19 "_law_fits" = true)
    (kq19 : PySem.W.keepIn K (.ref f_q19) = true)
    (aq20 : PySem.W.nsIn K mainGlobals "_law_order" = some (some (.ref f_q20)))
    (lq20 : K.lookup f_q20 = some ⟨ocq20, odq20, .func (PySem.W.fnOf "_law_order" "_law_order" (defArgs s__law_order) (defBody s__law_order) (defScope s__law_order) .none kVq20 dcq20 pmq20 anq20 cdq20 ctq20), slq20⟩)
    (cq20 : PySem.W.codeIn K cdq20 "_law_order" = true)
    (kq20 : PySem.W.keepIn K (.ref f_q20) = true)
    (aq21 : PySem.W.nsIn K mainGlobals "_law_orders" = some (some (.ref f_q21)))
    (lq21 : K.lookup f_q21 = some ⟨ocq21, odq21, .func (PySem.W.fnOf "_law_orders" "_law_orders" (defArgs s__law_orders) (defBody s__law_orders) (defScope s__law_orders) .none kVq21 dcq21 pmq21 anq21 cdq21 ctq21), slq21⟩)
    (cq21 : PySem.W.codeIn K cdq21 "_law_orders" = true)
    (kq21 : PySem.W.keepIn K (.ref f_q21) = true)
    (aq22 : PySem.W.nsIn K mainGlobals "_law_made" = some (some (.ref f_q22)))
    (lq22 : K.lookup f_q22 = some ⟨ocq22, odq22, .func (PySem.W.fnOf "_law_made" "_law_made" (defArgs s__law_made) (defBody s__law_made) (defScope s__law_made) .none kVq22 dcq22 pmq22 anq22 cdq22 ctq22), slq22⟩)
    (cq22 : PySem.W.codeIn K cdq22 "_law_made" = true)
    (kq22 : PySem.W.keepIn K (.ref f_q22) = true)
    (aq23 : PySem.W.nsIn K mainGlobals "_law_now" = some (some (.ref f_q23)))
    (lq23 : K.lookup f_q23 = some ⟨ocq23, odq23, .func (PySem.W.fnOf "_law_now" "_law_now" (defArgs s__law_now) (defBody s__law_now) (defScope s__law_now) .none kVq23 dcq23 pmq23 anq23 cdq23 ctq23), slq23⟩)
    (cq23 : PySem.W.codeIn K cdq23 "_law_now" = true)
    (kq23 : PySem.W.keepIn K (.ref f_q23) = true)
    (aq24 : PySem.W.nsIn K mainGlobals "_law_arrivals" = some (some (.ref f_q24)))
    (lq24 : K.lookup f_q24 = some ⟨ocq24, odq24, .func (PySem.W.fnOf "_law_arrivals" "_law_arrivals" (defArgs s__law_arrivals) (defBody s__law_arrivals) (defScope s__law_arrivals) .none kVq24 dcq24 pmq24 anq24 cdq24 ctq24), slq24⟩)
    (cq24 : PySem.W.codeIn K cdq24 "_law_arrivals" = true)
    (kq24 : PySem.W.keepIn K (.ref f_q24) = true)
    (aq25 : PySem.W.nsIn K mainGlobals "_law_grouped" = some (some (.ref f_q25)))
    (lq25 : K.lookup f_q25 = some ⟨ocq25, odq25, .func (PySem.W.fnOf "_law_grouped" "_law_grouped" (defArgs s__law_grouped) (defBody s__law_grouped) (defScope s__law_grouped) .none kVq25 dcq25 pmq25 anq25 cdq25 ctq25), slq25⟩)
    (cq25 : PySem.W.codeIn K cdq25 "_law_grouped" = true)
    (kq25 : PySem.W.keepIn K (.ref f_q25) = true)
    (aq26 : PySem.W.nsIn K mainGlobals "law" = some (some (.ref f_q26)))
    (lq26 : K.lookup f_q26 = some ⟨ocq26, odq26, .func (PySem.W.fnOf "law" "law" (defArgs s_law) (defBody s_law) (defScope s_law) .none kVq26 dcq26 pmq26 anq26 (.ref cL_q26) ctq26), slq26⟩)
    (cq26 : PySem.W.codeIn K (.ref cL_q26) "law" = true)
    (kq26 : PySem.W.keepIn K (.ref f_q26) = true)
    (pg_Book : PySem.W.plainGet K C_Book Str.empty = true)
    (hd_Book : PySem.W.hasDictIn K C_Book = true)
    (po_Book : PySem.W.plainOver K C_Book = true)
    (sa_Book : PySem.W.findIn K (.ref C_Book) "__setattr__" = some (some (.builtin "object.__setattr__")))
    (mk_Book : PySem.W.makesIn K C_Book = true)
    (kc_Book : PySem.W.keepIn K (.ref C_Book) = true)
    (pg_Letter : PySem.W.plainGet K C_Letter Str.empty = true)
    (hd_Letter : PySem.W.hasDictIn K C_Letter = true)
    (po_Letter : PySem.W.plainOver K C_Letter = true)
    (sa_Letter : PySem.W.findIn K (.ref C_Letter) "__setattr__" = some (some (.builtin "object.__setattr__")))
    (mk_Letter : PySem.W.makesIn K C_Letter = true)
    (kc_Letter : PySem.W.keepIn K (.ref C_Letter) = true)
    (n_Book_listed : PySem.W.findIn K (.ref C_Book) "listed" = some none)
    (n_Letter_book : PySem.W.findIn K (.ref C_Letter) "book" = some none)
    (n_Letter_address : PySem.W.findIn K (.ref C_Letter) "address" = some none)
    (n_Letter_day : PySem.W.findIn K (.ref C_Letter) "day" = some none)
    (n_Letter_count : PySem.W.findIn K (.ref C_Letter) "count" = some none)
    (n_Letter_known : PySem.W.findIn K (.ref C_Letter) "known" = some none)
    (n_Letter_is_endless : PySem.W.findIn K (.ref C_Letter) "is_endless" = some none)
    (n_Letter_change : PySem.W.findIn K (.ref C_Letter) "change" = some none)
    (c_LETTERS : PySem.W.nsIn K mainGlobals "LETTERS" = some (some (.str "abcdefghijklmnopqrstuvwxyz" tg_0)))
    (c_MAX_LETTERS : PySem.W.nsIn K mainGlobals "MAX_LETTERS" = some (some (.int 8 tg_1)))
    (c_MAX_ORDERS_books : PySem.W.nsIn K mainGlobals "MAX_ORDERS_books" = some (some (.int 30 tg_2)))
    (c_MAX_DAY : PySem.W.nsIn K mainGlobals "MAX_DAY" = some (some (.int 1000000000000000000 tg_3)))
    (c_MAX_WAY : PySem.W.nsIn K mainGlobals "MAX_WAY" = some (some (.int 30 tg_4)))
    (c_MAX_LISTED : PySem.W.nsIn K mainGlobals "MAX_LISTED" = some (some (.int 1000 tg_5)))
    (taB : PySem.W.typeIn K (.ref C_MailError) = some mcB)
    (raB : PySem.W.readsIn K C_MailError mcB = true)
    (rbB : PySem.W.specialIn K (.ref C_MailError) "__getattribute__" = some (some (.builtin "type.__getattribute__")))
    (fcB : PySem.W.findCls K (.ref C_MailError) mcB "__init__" = some (.val (.builtin "ValueError.__init__")))
    (xb_InvalidAddress : PySem.W.excIn K C_InvalidAddress [.type "ValueError", .type "Exception", .type "BaseException", .type "object"] "ValueError.__new__" = true)
    (xk_InvalidAddress : PySem.W.keepIn K (.ref C_InvalidAddress) = true)
    (xs_InvalidAddress : PySem.W.subIn K (.ref C_InvalidAddress) (.type "BaseException") = some true)
    (xt_InvalidAddress : PySem.W.typeIn K (.ref C_InvalidAddress) = some (.type "type"))
    (xb_InvalidDay : PySem.W.excIn K C_InvalidDay [.type "ValueError", .type "Exception", .type "BaseException", .type "object"] "ValueError.__new__" = true)
    (xk_InvalidDay : PySem.W.keepIn K (.ref C_InvalidDay) = true)
    (xs_InvalidDay : PySem.W.subIn K (.ref C_InvalidDay) (.type "BaseException") = some true)
    (xt_InvalidDay : PySem.W.typeIn K (.ref C_InvalidDay) = some (.type "type"))
    (xb_InvalidNumber : PySem.W.excIn K C_InvalidNumber [.type "ValueError", .type "Exception", .type "BaseException", .type "object"] "ValueError.__new__" = true)
    (xk_InvalidNumber : PySem.W.keepIn K (.ref C_InvalidNumber) = true)
    (xs_InvalidNumber : PySem.W.subIn K (.ref C_InvalidNumber) (.type "BaseException") = some true)
    (xt_InvalidNumber : PySem.W.typeIn K (.ref C_InvalidNumber) = some (.type "type"))
    (eg_InvalidAddress : PySem.W.findIn K (.ref C_InvalidAddress) "__getattribute__" = some (some (.builtin "BaseException.__getattribute__")))
    (ek_InvalidAddress : PySem.W.findIn K (.ref C_InvalidAddress) "__getattr__" = some none)
    (es_InvalidAddress : PySem.W.subIn K (.ref C_InvalidAddress) (.type "BaseException") = some true)
    (ed_InvalidAddress : PySem.W.hasDictIn K C_InvalidAddress = true)
    (ea_InvalidAddress : PySem.W.findIn K (.ref C_InvalidAddress) "__class__" = some (some (.builtin "object.__class__")))
    (en_InvalidAddress : PySem.W.specialIn K (.builtin "object.__class__") "__get__" = some (some (.builtin "getset_descriptor.__get__")))
    (et_InvalidAddress : PySem.W.takesIn K (.builtin "object.__class__") = some true)
    (em_InvalidAddress : PySem.W.mroIn K C_InvalidAddress (.type "object") = some true)
    (ex_InvalidAddress : PySem.W.exmOne K (.ref C_InvalidAddress) (.ref C_MailError) = some true)
    (ev_InvalidAddress : PySem.W.kitOne K (.ref C_InvalidAddress) (.type "ValueError") = some true)
    (kt_InvalidAddress_InvalidOperation : PySem.W.kitOne K (.ref C_InvalidAddress) (.ref C_InvalidOperation) = some false)
    (kt_InvalidAddress_InvalidOrder : PySem.W.kitOne K (.ref C_InvalidAddress) (.ref C_InvalidOrder) = some false)
    (kt_InvalidAddress_UnknownOrder : PySem.W.kitOne K (.ref C_InvalidAddress) (.ref C_UnknownOrder) = some false)
    (kt_InvalidAddress_NotHolding : PySem.W.kitOne K (.ref C_InvalidAddress) (.ref C_NotHolding) = some false)
    (kt_InvalidAddress_DecodeError : PySem.W.kitOne K (.ref C_InvalidAddress) (.ref C_DecodeError) = some false)
    (kt_InvalidAddress_NotationError : PySem.W.kitOne K (.ref C_InvalidAddress) (.ref C_NotationError) = some false)
    (kt_InvalidAddress_UnknownLetter : PySem.W.kitOne K (.ref C_InvalidAddress) (.ref C_UnknownLetter) = some false)
    (kt_InvalidAddress_InvalidAddress : PySem.W.kitOne K (.ref C_InvalidAddress) (.ref C_InvalidAddress) = some true)
    (kt_InvalidAddress_InvalidDay : PySem.W.kitOne K (.ref C_InvalidAddress) (.ref C_InvalidDay) = some false)
    (kt_InvalidAddress_InvalidNumber : PySem.W.kitOne K (.ref C_InvalidAddress) (.ref C_InvalidNumber) = some false)
    (kt_InvalidAddress_Contradiction : PySem.W.kitOne K (.ref C_InvalidAddress) (.ref C_Contradiction) = some false)
    (kt_InvalidAddress_InvalidCount : PySem.W.kitOne K (.ref C_InvalidAddress) (.ref C_InvalidCount) = some false)
    (eg_InvalidDay : PySem.W.findIn K (.ref C_InvalidDay) "__getattribute__" = some (some (.builtin "BaseException.__getattribute__")))
    (ek_InvalidDay : PySem.W.findIn K (.ref C_InvalidDay) "__getattr__" = some none)
    (es_InvalidDay : PySem.W.subIn K (.ref C_InvalidDay) (.type "BaseException") = some true)
    (ed_InvalidDay : PySem.W.hasDictIn K C_InvalidDay = true)
    (ea_InvalidDay : PySem.W.findIn K (.ref C_InvalidDay) "__class__" = some (some (.builtin "object.__class__")))
    (en_InvalidDay : PySem.W.specialIn K (.builtin "object.__class__") "__get__" = some (some (.builtin "getset_descriptor.__get__")))
    (et_InvalidDay : PySem.W.takesIn K (.builtin "object.__class__") = some true)
    (em_InvalidDay : PySem.W.mroIn K C_InvalidDay (.type "object") = some true)
    (ex_InvalidDay : PySem.W.exmOne K (.ref C_InvalidDay) (.ref C_MailError) = some true)
    (ev_InvalidDay : PySem.W.kitOne K (.ref C_InvalidDay) (.type "ValueError") = some true)
    (kt_InvalidDay_InvalidOperation : PySem.W.kitOne K (.ref C_InvalidDay) (.ref C_InvalidOperation) = some false)
    (kt_InvalidDay_InvalidOrder : PySem.W.kitOne K (.ref C_InvalidDay) (.ref C_InvalidOrder) = some false)
    (kt_InvalidDay_UnknownOrder : PySem.W.kitOne K (.ref C_InvalidDay) (.ref C_UnknownOrder) = some false)
    (kt_InvalidDay_NotHolding : PySem.W.kitOne K (.ref C_InvalidDay) (.ref C_NotHolding) = some false)
    (kt_InvalidDay_DecodeError : PySem.W.kitOne K (.ref C_InvalidDay) (.ref C_DecodeError) = some false)
    (kt_InvalidDay_NotationError : PySem.W.kitOne K (.ref C_InvalidDay) (.ref C_NotationError) = some false)
    (kt_InvalidDay_UnknownLetter : PySem.W.kitOne K (.ref C_InvalidDay) (.ref C_UnknownLetter) = some false)
    (kt_InvalidDay_InvalidAddress : PySem.W.kitOne K (.ref C_InvalidDay) (.ref C_InvalidAddress) = some false)
    (kt_InvalidDay_InvalidDay : PySem.W.kitOne K (.ref C_InvalidDay) (.ref C_InvalidDay) = some true)
    (kt_InvalidDay_InvalidNumber : PySem.W.kitOne K (.ref C_InvalidDay) (.ref C_InvalidNumber) = some false)
    (kt_InvalidDay_Contradiction : PySem.W.kitOne K (.ref C_InvalidDay) (.ref C_Contradiction) = some false)
    (kt_InvalidDay_InvalidCount : PySem.W.kitOne K (.ref C_InvalidDay) (.ref C_InvalidCount) = some false)
    (eg_InvalidNumber : PySem.W.findIn K (.ref C_InvalidNumber) "__getattribute__" = some (some (.builtin "BaseException.__getattribute__")))
    (ek_InvalidNumber : PySem.W.findIn K (.ref C_InvalidNumber) "__getattr__" = some none)
    (es_InvalidNumber : PySem.W.subIn K (.ref C_InvalidNumber) (.type "BaseException") = some true)
    (ed_InvalidNumber : PySem.W.hasDictIn K C_InvalidNumber = true)
    (ea_InvalidNumber : PySem.W.findIn K (.ref C_InvalidNumber) "__class__" = some (some (.builtin "object.__class__")))
    (en_InvalidNumber : PySem.W.specialIn K (.builtin "object.__class__") "__get__" = some (some (.builtin "getset_descriptor.__get__")))
    (et_InvalidNumber : PySem.W.takesIn K (.builtin "object.__class__") = some true)
    (em_InvalidNumber : PySem.W.mroIn K C_InvalidNumber (.type "object") = some true)
    (ex_InvalidNumber : PySem.W.exmOne K (.ref C_InvalidNumber) (.ref C_MailError) = some true)
    (ev_InvalidNumber : PySem.W.kitOne K (.ref C_InvalidNumber) (.type "ValueError") = some true)
    (kt_InvalidNumber_InvalidOperation : PySem.W.kitOne K (.ref C_InvalidNumber) (.ref C_InvalidOperation) = some false)
    (kt_InvalidNumber_InvalidOrder : PySem.W.kitOne K (.ref C_InvalidNumber) (.ref C_InvalidOrder) = some false)
    (kt_InvalidNumber_UnknownOrder : PySem.W.kitOne K (.ref C_InvalidNumber) (.ref C_UnknownOrder) = some false)
    (kt_InvalidNumber_NotHolding : PySem.W.kitOne K (.ref C_InvalidNumber) (.ref C_NotHolding) = some false)
    (kt_InvalidNumber_DecodeError : PySem.W.kitOne K (.ref C_InvalidNumber) (.ref C_DecodeError) = some false)
    (kt_InvalidNumber_NotationError : PySem.W.kitOne K (.ref C_InvalidNumber) (.ref C_NotationError) = some false)
    (kt_InvalidNumber_UnknownLetter : PySem.W.kitOne K (.ref C_InvalidNumber) (.ref C_UnknownLetter) = some false)
    (kt_InvalidNumber_InvalidAddress : PySem.W.kitOne K (.ref C_InvalidNumber) (.ref C_InvalidAddress) = some false)
    (kt_InvalidNumber_InvalidDay : PySem.W.kitOne K (.ref C_InvalidNumber) (.ref C_InvalidDay) = some false)
    (kt_InvalidNumber_InvalidNumber : PySem.W.kitOne K (.ref C_InvalidNumber) (.ref C_InvalidNumber) = some true)
    (kt_InvalidNumber_Contradiction : PySem.W.kitOne K (.ref C_InvalidNumber) (.ref C_Contradiction) = some false)
    (kt_InvalidNumber_InvalidCount : PySem.W.kitOne K (.ref C_InvalidNumber) (.ref C_InvalidCount) = some false)
    (ns_InvalidAddress : PySem.W.subIn K (.ref C_InvalidAddress) (.type "StopIteration") = some false)
    (ns_InvalidDay : PySem.W.subIn K (.ref C_InvalidDay) (.type "StopIteration") = some false)
    (ns_InvalidNumber : PySem.W.subIn K (.ref C_InvalidNumber) (.type "StopIteration") = some false)
    (b_isinstance : PySem.W.nsIn K mainGlobals "isinstance" = some none)
    (b_int : PySem.W.nsIn K mainGlobals "int" = some none)
    (b_bool : PySem.W.nsIn K mainGlobals "bool" = some none)
    (b_str : PySem.W.nsIn K mainGlobals "str" = some none)
    (b_tuple : PySem.W.nsIn K mainGlobals "tuple" = some none)
    (b_list : PySem.W.nsIn K mainGlobals "list" = some none)
    (b_len : PySem.W.nsIn K mainGlobals "len" = some none)
    (b_all : PySem.W.nsIn K mainGlobals "all" = some none)
    (b_enumerate : PySem.W.nsIn K mainGlobals "enumerate" = some none)
    (b_range : PySem.W.nsIn K mainGlobals "range" = some none)
    (b_min : PySem.W.nsIn K mainGlobals "min" = some none)
    (b_max : PySem.W.nsIn K mainGlobals "max" = some none)
    (b_ValueError : PySem.W.nsIn K mainGlobals "ValueError" = some none)
    (sf : PySem.W.selfFirst K C_Book = true)
    (hTb : ∀ P ∈ [PL_q26], h.get? P = some (PySem.W.tabObj #[]))
    (hnP_PL_q26 : K.lookup PL_q26 = none)
    (hcH_PL_q26 : PySem.W.codeHdIn K cL_q26 PL_q26 = true) :
    LamX.LawAtS l w K CX0 13 63 "_law_script" mg fa h := by
  have e := hfa.symm.trans (PySem.W.mg_of X G aq26)
  cases e
  have Fq0 := fun_mk (st := s_is_integer) lq0 cq0 kq0
  have bq0 := Fq0.binds (ps := ["value", "low", "high"]) fun _ _ _ _ _ _ us hl => match us, hl with | [_, _, _], _ => rfl
  have Fq1 := fun_mk (st := s_is_address) lq1 cq1 kq1
  have bq1 := Fq1.binds (ps := ["value"]) fun _ _ _ _ _ _ us hl => match us, hl with | [_], _ => rfl
  have Fq2 := fun_mk (st := s_check_letter) lq2 cq2 kq2
  have bq2 := Fq2.binds (ps := ["address", "day"]) fun _ _ _ _ _ _ us hl => match us, hl with | [_, _], _ => rfl
  have Fq3 := fun_mk (st := s_is_order) lq3 cq3 kq3
  have bq3 := Fq3.binds (ps := ["value"]) fun _ _ _ _ _ _ us hl => match us, hl with | [_], _ => rfl
  have Fq4 := fun_mk (st := s_do_overlap) lq4 cq4 kq4
  have bq4 := Fq4.binds (ps := ["one", "other"]) fun _ _ _ _ _ _ us hl => match us, hl with | [_, _], _ => rfl
  have Fq5 := fun_mk (st := s_BookX_initX) lq5 cq5 kq5
  have Fq6 := fun_mk (st := s_BookX_addX) lq6 cq6 kq6
  have bq6 := Fq6.binds (ps := ["self", "other"]) fun _ _ _ _ _ _ us hl => match us, hl with | [_, _], _ => rfl
  have Fq7 := fun_mk (st := s_Book_order_for) lq7 cq7 kq7
  have bq7 := Fq7.binds (ps := ["self", "address", "day"]) fun _ _ _ _ _ _ us hl => match us, hl with | [_, _, _], _ => rfl
  have Fq8 := fun_mk (st := s_Book_next_change) lq8 cq8 kq8
  have bq8 := Fq8.binds (ps := ["self", "day"]) fun _ _ _ _ _ _ us hl => match us, hl with | [_, _], _ => rfl
  have Fq9 := fun_mk (st := s_book_of) lq9 cq9 kq9
  have bq9 := Fq9.binds (ps := ["orders"]) fun _ _ _ _ _ _ us hl => match us, hl with | [_], _ => rfl
  have Fq10 := fun_mk (st := s_LetterX_initX) lq10 cq10 kq10
  have bq10 := Fq10.binds (ps := ["self", "book", "address", "day"]) fun _ _ _ _ _ _ us hl => match us, hl with | [_, _, _, _], _ => rfl
  have Fq11 := fun_mk (st := s_Letter_order_now) lq11 cq11 kq11
  have bq11 := Fq11.binds (ps := ["self"]) fun _ _ _ _ _ _ us hl => match us, hl with | [_], _ => rfl
  have Fq12 := fun_mk (st := s_Letter_step) lq12 cq12 kq12
  have bq12 := Fq12.binds (ps := ["self"]) fun _ _ _ _ _ _ us hl => match us, hl with | [_], _ => rfl
  have Fq13 := fun_mk (st := s_route) lq13 cq13 kq13
  have bq13 := Fq13.binds (ps := ["book", "address", "day", "count"]) fun _ _ _ _ _ _ us hl => match us, hl with | [_, _, _, _], _ => rfl
  have Fq14 := fun_mk (st := s_travel_list) lq14 cq14 kq14
  have bq14 := Fq14.binds (ps := ["book", "address", "day", "count"]) fun _ _ _ _ _ _ us hl => match us, hl with | [_, _, _, _], _ => rfl
  have Fq15 := fun_mk (st := s__law_dice) lq15 cq15 kq15
  have bq15 := Fq15.binds (ps := ["_law_script"]) fun _ _ _ _ _ _ us hl => match us, hl with | [_], _ => rfl
  have Fq16 := fun_mk (st := s__law_next) lq16 cq16 kq16
  have bq16 := Fq16.binds (ps := ["_law_dice_here", "_law_many"]) fun _ _ _ _ _ _ us hl => match us, hl with | [_, _], _ => rfl
  have Fq17 := fun_mk (st := s__law_pick) lq17 cq17 kq17
  have bq17 := Fq17.binds (ps := ["_law_d", "_law_some"]) fun _ _ _ _ _ _ us hl => match us, hl with | [_, _], _ => rfl
  have Fq18 := fun_mk (st := s__law_told) lq18 cq18 kq18
  have bq18 := Fq18.binds (ps := ["_law_work"]) fun _ _ _ _ _ _ us hl => match us, hl with | [_], _ => rfl
  have Fq19 := fun_mk (st := s__law_fits) lq19 cq19 kq19
  have bq19 := Fq19.binds (ps := ["_law_orders_here", "_law_order_here"]) fun _ _ _ _ _ _ us hl => match us, hl with | [_, _], _ => rfl
  have Fq20 := fun_mk (st := s__law_order) lq20 cq20 kq20
  have bq20 := Fq20.binds (ps := ["_law_d", "_law_most"]) fun _ _ _ _ _ _ us hl => match us, hl with | [_, _], _ => rfl
  have Fq21 := fun_mk (st := s__law_orders) lq21 cq21 kq21
  have bq21 := Fq21.binds (ps := ["_law_d", "_law_many", "_law_most"]) fun _ _ _ _ _ _ us hl => match us, hl with | [_, _, _], _ => rfl
  have Fq22 := fun_mk (st := s__law_made) lq22 cq22 kq22
  have bq22 := Fq22.binds (ps := ["_law_orders_here"]) fun _ _ _ _ _ _ us hl => match us, hl with | [_], _ => rfl
  have Fq23 := fun_mk (st := s__law_now) lq23 cq23 kq23
  have bq23 := Fq23.binds (ps := ["_law_orders_here", "_law_address", "_law_day"]) fun _ _ _ _ _ _ us hl => match us, hl with | [_, _, _], _ => rfl
  have Fq24 := fun_mk (st := s__law_arrivals) lq24 cq24 kq24
  have bq24 := Fq24.binds (ps := ["_law_orders_here", "_law_address", "_law_day", "_law_most"]) fun _ _ _ _ _ _ us hl => match us, hl with | [_, _, _, _], _ => rfl
  have Fq25 := fun_mk (st := s__law_grouped) lq25 cq25 kq25
  have bq25 := Fq25.binds (ps := ["_law_number"]) fun _ _ _ _ _ _ us hl => match us, hl with | [_], _ => rfl
  have Fq26 := fun_mk (st := s_law) lq26 cq26 kq26
  have bq26 := Fq26.binds (ps := ["_law_script"]) fun _ _ _ _ _ _ us hl => match us, hl with | [_], _ => rfl
  have FC : FunC K "law" "law" s_law _ _ cL_q26 := ⟨⟨_, _, _, _, _, _, _, _, rfl, lq26, cq26⟩⟩
  have T : Top K mg C_Book C_Letter C_MailError C_InvalidOperation C_InvalidOrder C_UnknownOrder C_NotHolding C_DecodeError C_NotationError C_UnknownLetter C_InvalidAddress C_InvalidDay C_InvalidNumber C_Contradiction C_InvalidCount := ⟨⟨_, _, Fq0, PySem.W.mg_of X G aq0, bq0⟩,
    ⟨_, _, Fq1, PySem.W.mg_of X G aq1, bq1⟩,
    ⟨_, _, Fq2, PySem.W.mg_of X G aq2, bq2⟩,
    ⟨_, _, Fq3, PySem.W.mg_of X G aq3, bq3⟩,
    ⟨_, _, Fq4, PySem.W.mg_of X G aq4, bq4⟩,
    ⟨_, _, Fq5, ⟨mk_Book, aq5, iq5, kc_Book⟩, PySem.W.mg_of X G aC_Book, bind_star1 (B := fun xs => bindArgs _ ⟨xs, []⟩) (fun _ => rfl) (fun _ _ _ => rfl)⟩,
    ⟨_, _, Fq6, ⟨aq6, iq6, kq6⟩, bq6⟩,
    ⟨_, _, Fq7, ⟨aq7, iq7, kq7⟩, bq7⟩,
    ⟨_, _, Fq8, ⟨aq8, iq8, kq8⟩, bq8⟩,
    ⟨_, _, Fq9, PySem.W.mg_of X G aq9, bq9⟩,
    ⟨_, _, Fq10, ⟨mk_Letter, aq10, iq10, kc_Letter⟩, PySem.W.mg_of X G aC_Letter, bq10⟩,
    ⟨_, _, Fq11, ⟨aq11, iq11, kq11⟩, bq11⟩,
    ⟨_, _, Fq12, ⟨aq12, iq12, kq12⟩, bq12⟩,
    ⟨_, _, Fq13, PySem.W.mg_of X G aq13, bq13⟩,
    ⟨_, _, Fq14, PySem.W.mg_of X G aq14, bq14⟩,
    ⟨_, _, Fq15, PySem.W.mg_of X G aq15, bq15⟩,
    ⟨_, _, Fq16, PySem.W.mg_of X G aq16, bq16⟩,
    ⟨_, _, Fq17, PySem.W.mg_of X G aq17, bq17⟩,
    ⟨_, _, Fq18, PySem.W.mg_of X G aq18, bq18⟩,
    ⟨_, _, Fq19, PySem.W.mg_of X G aq19, bq19⟩,
    ⟨_, _, Fq20, PySem.W.mg_of X G aq20, bq20⟩,
    ⟨_, _, Fq21, PySem.W.mg_of X G aq21, bq21⟩,
    ⟨_, _, Fq22, PySem.W.mg_of X G aq22, bq22⟩,
    ⟨_, _, Fq23, PySem.W.mg_of X G aq23, bq23⟩,
    ⟨_, _, Fq24, PySem.W.mg_of X G aq24, bq24⟩,
    ⟨_, _, Fq25, PySem.W.mg_of X G aq25, bq25⟩,
    ⟨_, _, Fq26, PySem.W.mg_of X G aq26, bq26⟩,
    ⟨pg_Book, hd_Book, po_Book, sa_Book⟩,
    ⟨pg_Letter, hd_Letter, po_Letter, sa_Letter⟩,
    n_Book_listed,
    n_Letter_book,
    n_Letter_address,
    n_Letter_day,
    n_Letter_count,
    n_Letter_known,
    n_Letter_is_endless,
    n_Letter_change,
    ⟨_, PySem.W.mg_of X G c_LETTERS⟩,
    ⟨_, PySem.W.mg_of X G c_MAX_LETTERS⟩,
    ⟨_, PySem.W.mg_of X G c_MAX_ORDERS_books⟩,
    ⟨_, PySem.W.mg_of X G c_MAX_DAY⟩,
    ⟨_, PySem.W.mg_of X G c_MAX_WAY⟩,
    ⟨_, PySem.W.mg_of X G c_MAX_LISTED⟩,
    PySem.W.mg_of X G ge_MailError,
    PySem.W.mg_of X G ge_InvalidOperation,
    PySem.W.mg_of X G ge_InvalidOrder,
    PySem.W.mg_of X G ge_UnknownOrder,
    PySem.W.mg_of X G ge_NotHolding,
    PySem.W.mg_of X G ge_DecodeError,
    PySem.W.mg_of X G ge_NotationError,
    PySem.W.mg_of X G ge_UnknownLetter,
    PySem.W.mg_of X G ge_InvalidAddress,
    PySem.W.mg_of X G ge_InvalidDay,
    PySem.W.mg_of X G ge_InvalidNumber,
    PySem.W.mg_of X G ge_Contradiction,
    PySem.W.mg_of X G ge_InvalidCount,
    ⟨⟨_, ⟨raB, rbB⟩, fcB⟩⟩,
    ⟨xb_InvalidAddress, PySem.W.mg_of X G ge_InvalidAddress, xk_InvalidAddress, xs_InvalidAddress, xt_InvalidAddress⟩,
    ⟨xb_InvalidDay, PySem.W.mg_of X G ge_InvalidDay, xk_InvalidDay, xs_InvalidDay, xt_InvalidDay⟩,
    ⟨xb_InvalidNumber, PySem.W.mg_of X G ge_InvalidNumber, xk_InvalidNumber, xs_InvalidNumber, xt_InvalidNumber⟩,
    ⟨⟨eg_InvalidAddress, ek_InvalidAddress, es_InvalidAddress, ed_InvalidAddress, ea_InvalidAddress, en_InvalidAddress, et_InvalidAddress, em_InvalidAddress⟩, ex_InvalidAddress, ev_InvalidAddress⟩,
    kt_InvalidAddress_InvalidOperation,
    kt_InvalidAddress_InvalidOrder,
    kt_InvalidAddress_UnknownOrder,
    kt_InvalidAddress_NotHolding,
    kt_InvalidAddress_DecodeError,
    kt_InvalidAddress_NotationError,
    kt_InvalidAddress_UnknownLetter,
    kt_InvalidAddress_InvalidAddress,
    kt_InvalidAddress_InvalidDay,
    kt_InvalidAddress_InvalidNumber,
    kt_InvalidAddress_Contradiction,
    kt_InvalidAddress_InvalidCount,
    ⟨⟨eg_InvalidDay, ek_InvalidDay, es_InvalidDay, ed_InvalidDay, ea_InvalidDay, en_InvalidDay, et_InvalidDay, em_InvalidDay⟩, ex_InvalidDay, ev_InvalidDay⟩,
    kt_InvalidDay_InvalidOperation,
    kt_InvalidDay_InvalidOrder,
    kt_InvalidDay_UnknownOrder,
    kt_InvalidDay_NotHolding,
    kt_InvalidDay_DecodeError,
    kt_InvalidDay_NotationError,
    kt_InvalidDay_UnknownLetter,
    kt_InvalidDay_InvalidAddress,
    kt_InvalidDay_InvalidDay,
    kt_InvalidDay_InvalidNumber,
    kt_InvalidDay_Contradiction,
    kt_InvalidDay_InvalidCount,
    ⟨⟨eg_InvalidNumber, ek_InvalidNumber, es_InvalidNumber, ed_InvalidNumber, ea_InvalidNumber, en_InvalidNumber, et_InvalidNumber, em_InvalidNumber⟩, ex_InvalidNumber, ev_InvalidNumber⟩,
    kt_InvalidNumber_InvalidOperation,
    kt_InvalidNumber_InvalidOrder,
    kt_InvalidNumber_UnknownOrder,
    kt_InvalidNumber_NotHolding,
    kt_InvalidNumber_DecodeError,
    kt_InvalidNumber_NotationError,
    kt_InvalidNumber_UnknownLetter,
    kt_InvalidNumber_InvalidAddress,
    kt_InvalidNumber_InvalidDay,
    kt_InvalidNumber_InvalidNumber,
    kt_InvalidNumber_Contradiction,
    kt_InvalidNumber_InvalidCount,
    ns_InvalidAddress,
    ns_InvalidDay,
    ns_InvalidNumber,
    PySem.W.mg_none_of X G b_isinstance,
    PySem.W.mg_none_of X G b_int,
    PySem.W.mg_none_of X G b_bool,
    PySem.W.mg_none_of X G b_str,
    PySem.W.mg_none_of X G b_tuple,
    PySem.W.mg_none_of X G b_list,
    PySem.W.mg_none_of X G b_len,
    PySem.W.mg_none_of X G b_all,
    PySem.W.mg_none_of X G b_enumerate,
    PySem.W.mg_none_of X G b_range,
    PySem.W.mg_none_of X G b_min,
    PySem.W.mg_none_of X G b_max,
    PySem.W.mg_none_of X G b_ValueError⟩
  refine ⟨_, [(cL_q26, PL_q26)], spLawT K [PL_q26], fun p hp => (by simp only [List.mem_cons, List.not_mem_nil, or_false] at hp; rw [hp]; exact hTb PL_q26 (by simp)), fun p hp => (by simp only [List.mem_cons, List.not_mem_nil, or_false] at hp; rw [hp]; exact hnP_PL_q26), fun p hp => (by simp only [List.mem_cons, List.not_mem_nil, or_false] at hp; rw [hp]; exact PySem.W.codeHd_of_K X hcH_PL_q26), fun s v => ?_, fun H a ns hl hb hH hS => ⟨a, ns, rfl, hS, hl, fun p hp => (by simp only [List.mem_cons, List.not_mem_nil, or_false] at hp; rw [hp]; exact hH (cL_q26, PL_q26) (by simp)), fun _ => rfl⟩, fun base _ _ tb => ok_law T sf FC (tb (cL_q26, PL_q26) (by simp))⟩
  exact .of_eq rfl
end MF
open PySem PySem.W PyProof.Rows
set_option maxRecDepth 100000 in
set_option maxHeartbeats 0 in
theorem PySem.Challenge.cw_mailforwards_k47_travel_lists_holds : PySem.Challenge.rw_mailforwards_k47_travel_lists.Holds := by
  w_on; o_law; k_head; (case hw => w_witness2)
  k_fill
  refine LamX.walk_ofTs (l := PySem.Challenge.rw_mailforwards_k47_travel_lists) (n := 63) (k := 13) (x := "_law_script") (CX := fun _ => C8.CX0) rfl (by decide) rfl ⟨rfl, by decide, by decide⟩ (fun w h Y => PySem.W.km_in_of Y) ?F (fun _ _ _ _ _ z => z)
  case F =>
    intro w mg fa h Y KX G hmg
    refine' MF.all_mk KX G hmg ?aC_Book ?aC_Letter ?ge_MailError ?ge_InvalidOperation ?ge_InvalidOrder ?ge_UnknownOrder ?ge_NotHolding ?ge_DecodeError ?ge_NotationError ?ge_UnknownLetter ?ge_InvalidAddress ?ge_InvalidDay ?ge_InvalidNumber ?ge_Contradiction ?ge_InvalidCount ?aq0 ?lq0 ?cq0 ?kq0 ?aq1 ?lq1 ?cq1 ?kq1 ?aq2 ?lq2 ?cq2 ?kq2 ?aq3 ?lq3 ?cq3 ?kq3 ?aq4 ?lq4 ?cq4 ?kq4 ?aq5 ?iq5 ?lq5 ?cq5 ?kq5 ?aq6 ?iq6 ?lq6 ?cq6 ?kq6 ?aq7 ?iq7 ?lq7 ?cq7 ?kq7 ?aq8 ?iq8 ?lq8 ?cq8 ?kq8 ?aq9 ?lq9 ?cq9 ?kq9 ?aq10 ?iq10 ?lq10 ?cq10 ?kq10 ?aq11 ?iq11 ?lq11 ?cq11 ?kq11 ?aq12 ?iq12 ?lq12 ?cq12 ?kq12 ?aq13 ?lq13 ?cq13 ?kq13 ?aq14 ?lq14 ?cq14 ?kq14 ?aq15 ?lq15 ?cq15 ?kq15 ?aq16 ?lq16 ?cq16 ?kq16 ?aq17 ?lq17 ?cq17 ?kq17 ?aq18 ?lq18 ?cq18 ?kq18 ?aq19 ?lq19 ?cq19 ?kq19 ?aq20 ?lq20 ?cq20 ?kq20 ?aq21 ?lq21 ?cq21 ?kq21 ?aq22 ?lq22 ?cq22 ?kq22 ?aq23 ?lq23 ?cq23 ?kq23 ?aq24 ?lq24 ?cq24 ?kq24 ?aq25 ?lq25 ?cq25 ?kq25 ?aq26 ?lq26 ?cq26 ?kq26 ?pg_Book ?hd_Book ?po_Book ?sa_Book ?mk_Book ?kc_Book ?pg_Letter ?hd_Letter ?po_Letter ?sa_Letter ?mk_Letter ?kc_Letter ?n_Book_listed ?n_Letter_book ?n_Letter_address ?n_Letter_day ?n_Letter_count ?n_Letter_known ?n_Letter_is_endless ?n_Letter_change ?c_LETTERS ?c_MAX_LETTERS ?c_MAX_ORDERS_books ?c_MAX_DAY ?c_MAX_WAY ?c_MAX_LISTED ?taB ?raB ?rbB ?fcB ?xb_InvalidAddress ?xk_InvalidAddress ?xs_InvalidAddress ?xt_InvalidAddress ?xb_InvalidDay ?xk_InvalidDay ?xs_InvalidDay ?xt_InvalidDay ?xb_InvalidNumber ?xk_InvalidNumber ?xs_InvalidNumber ?xt_InvalidNumber ?eg_InvalidAddress ?ek_InvalidAddress ?es_InvalidAddress ?ed_InvalidAddress ?ea_InvalidAddress ?en_InvalidAddress ?et_InvalidAddress ?em_InvalidAddress ?ex_InvalidAddress ?ev_InvalidAddress ?kt_InvalidAddress_InvalidOperation ?kt_InvalidAddress_InvalidOrder ?kt_InvalidAddress_UnknownOrder ?kt_InvalidAddress_NotHolding ?kt_InvalidAddress_DecodeError ?kt_InvalidAddress_NotationError ?kt_InvalidAddress_UnknownLetter ?kt_InvalidAddress_InvalidAddress ?kt_InvalidAddress_InvalidDay ?kt_InvalidAddress_InvalidNumber ?kt_InvalidAddress_Contradiction ?kt_InvalidAddress_InvalidCount ?eg_InvalidDay ?ek_InvalidDay ?es_InvalidDay ?ed_InvalidDay ?ea_InvalidDay ?en_InvalidDay ?et_InvalidDay ?em_InvalidDay ?ex_InvalidDay ?ev_InvalidDay ?kt_InvalidDay_InvalidOperation ?kt_InvalidDay_InvalidOrder ?kt_InvalidDay_UnknownOrder ?kt_InvalidDay_NotHolding ?kt_InvalidDay_DecodeError ?kt_InvalidDay_NotationError ?kt_InvalidDay_UnknownLetter ?kt_InvalidDay_InvalidAddress ?kt_InvalidDay_InvalidDay ?kt_InvalidDay_InvalidNumber ?kt_InvalidDay_Contradiction ?kt_InvalidDay_InvalidCount ?eg_InvalidNumber ?ek_InvalidNumber ?es_InvalidNumber ?ed_InvalidNumber ?ea_InvalidNumber ?en_InvalidNumber ?et_InvalidNumber ?em_InvalidNumber ?ex_InvalidNumber ?ev_InvalidNumber ?kt_InvalidNumber_InvalidOperation ?kt_InvalidNumber_InvalidOrder ?kt_InvalidNumber_UnknownOrder ?kt_InvalidNumber_NotHolding ?kt_InvalidNumber_DecodeError ?kt_InvalidNumber_NotationError ?kt_InvalidNumber_UnknownLetter ?kt_InvalidNumber_InvalidAddress ?kt_InvalidNumber_InvalidDay ?kt_InvalidNumber_InvalidNumber ?kt_InvalidNumber_Contradiction ?kt_InvalidNumber_InvalidCount ?ns_InvalidAddress ?ns_InvalidDay ?ns_InvalidNumber ?b_isinstance ?b_int ?b_bool ?b_str ?b_tuple ?b_list ?b_len ?b_all ?b_enumerate ?b_range ?b_min ?b_max ?b_ValueError ?sf ?hTb ?hnP_PL_q26 ?hcH_PL_q26
    (case aC_Book => k_is)
    (case aC_Letter => k_is)
    (case ge_MailError => k_is)
    (case ge_InvalidOperation => k_is)
    (case ge_InvalidOrder => k_is)
    (case ge_UnknownOrder => k_is)
    (case ge_NotHolding => k_is)
    (case ge_DecodeError => k_is)
    (case ge_NotationError => k_is)
    (case ge_UnknownLetter => k_is)
    (case ge_InvalidAddress => k_is)
    (case ge_InvalidDay => k_is)
    (case ge_InvalidNumber => k_is)
    (case ge_Contradiction => k_is)
    (case ge_InvalidCount => k_is)
    (case aq0 => k_is)
    (case lq0 => k_is)
    (case cq0 => k_is)
    (case kq0 => k_is)
    (case aq1 => k_is)
    (case lq1 => k_is)
    (case cq1 => k_is)
    (case kq1 => k_is)
    (case aq2 => k_is)
    (case lq2 => k_is)
    (case cq2 => k_is)
    (case kq2 => k_is)
    (case aq3 => k_is)
    (case lq3 => k_is)
    (case cq3 => k_is)
    (case kq3 => k_is)
    (case aq4 => k_is)
    (case lq4 => k_is)
    (case cq4 => k_is)
    (case kq4 => k_is)
    (case aq5 => k_is)
    (case iq5 => k_is)
    (case lq5 => k_is)
    (case cq5 => k_is)
    (case kq5 => k_is)
    (case aq6 => k_is)
    (case iq6 => k_is)
    (case lq6 => k_is)
    (case cq6 => k_is)
    (case kq6 => k_is)
    (case aq7 => k_is)
    (case iq7 => k_is)
    (case lq7 => k_is)
    (case cq7 => k_is)
    (case kq7 => k_is)
    (case aq8 => k_is)
    (case iq8 => k_is)
    (case lq8 => k_is)
    (case cq8 => k_is)
    (case kq8 => k_is)
    (case aq9 => k_is)
    (case lq9 => k_is)
    (case cq9 => k_is)
    (case kq9 => k_is)
    (case aq10 => k_is)
    (case iq10 => k_is)
    (case lq10 => k_is)
    (case cq10 => k_is)
    (case kq10 => k_is)
    (case aq11 => k_is)
    (case iq11 => k_is)
    (case lq11 => k_is)
    (case cq11 => k_is)
    (case kq11 => k_is)
    (case aq12 => k_is)
    (case iq12 => k_is)
    (case lq12 => k_is)
    (case cq12 => k_is)
    (case kq12 => k_is)
    (case aq13 => k_is)
    (case lq13 => k_is)
    (case cq13 => k_is)
    (case kq13 => k_is)
    (case aq14 => k_is)
    (case lq14 => k_is)
    (case cq14 => k_is)
    (case kq14 => k_is)
    (case aq15 => k_is)
    (case lq15 => k_is)
    (case cq15 => k_is)
    (case kq15 => k_is)
    (case aq16 => k_is)
    (case lq16 => k_is)
    (case cq16 => k_is)
    (case kq16 => k_is)
    (case aq17 => k_is)
    (case lq17 => k_is)
    (case cq17 => k_is)
    (case kq17 => k_is)
    (case aq18 => k_is)
    (case lq18 => k_is)
    (case cq18 => k_is)
    (case kq18 => k_is)
    (case aq19 => k_is)
    (case lq19 => k_is)
    (case cq19 => k_is)
    (case kq19 => k_is)
    (case aq20 => k_is)
    (case lq20 => k_is)
    (case cq20 => k_is)
    (case kq20 => k_is)
    (case aq21 => k_is)
    (case lq21 => k_is)
    (case cq21 => k_is)
    (case kq21 => k_is)
    (case aq22 => k_is)
    (case lq22 => k_is)
    (case cq22 => k_is)
    (case kq22 => k_is)
    (case aq23 => k_is)
    (case lq23 => k_is)
    (case cq23 => k_is)
    (case kq23 => k_is)
    (case aq24 => k_is)
    (case lq24 => k_is)
    (case cq24 => k_is)
    (case kq24 => k_is)
    (case aq25 => k_is)
    (case lq25 => k_is)
    (case cq25 => k_is)
    (case kq25 => k_is)
    (case aq26 => k_is)
    (case lq26 => k_is)
    (case cq26 => k_is)
    (case kq26 => k_is)
    (case pg_Book => k_is)
    (case hd_Book => k_is)
    (case po_Book => k_is)
    (case sa_Book => k_is)
    (case mk_Book => k_is)
    (case kc_Book => k_is)
    (case pg_Letter => k_is)
    (case hd_Letter => k_is)
    (case po_Letter => k_is)
    (case sa_Letter => k_is)
    (case mk_Letter => k_is)
    (case kc_Letter => k_is)
    (case n_Book_listed => k_is)
    (case n_Letter_book => k_is)
    (case n_Letter_address => k_is)
    (case n_Letter_day => k_is)
    (case n_Letter_count => k_is)
    (case n_Letter_known => k_is)
    (case n_Letter_is_endless => k_is)
    (case n_Letter_change => k_is)
    (case c_LETTERS => k_is)
    (case c_MAX_LETTERS => k_is)
    (case c_MAX_ORDERS_books => k_is)
    (case c_MAX_DAY => k_is)
    (case c_MAX_WAY => k_is)
    (case c_MAX_LISTED => k_is)
    (case taB => k_is)
    (case raB => k_is)
    (case rbB => k_is)
    (case fcB => k_is)
    (case xb_InvalidAddress => first | kernel_rfl | kit_is | rfl)
    (case xk_InvalidAddress => k_is)
    (case xs_InvalidAddress => k_is)
    (case xt_InvalidAddress => k_is)
    (case xb_InvalidDay => first | kernel_rfl | kit_is | rfl)
    (case xk_InvalidDay => k_is)
    (case xs_InvalidDay => k_is)
    (case xt_InvalidDay => k_is)
    (case xb_InvalidNumber => first | kernel_rfl | kit_is | rfl)
    (case xk_InvalidNumber => k_is)
    (case xs_InvalidNumber => k_is)
    (case xt_InvalidNumber => k_is)
    (case eg_InvalidAddress => k_is)
    (case ek_InvalidAddress => k_is)
    (case es_InvalidAddress => k_is)
    (case ed_InvalidAddress => k_is)
    (case ea_InvalidAddress => k_is)
    (case en_InvalidAddress => k_is)
    (case et_InvalidAddress => k_is)
    (case em_InvalidAddress => k_is)
    (case ex_InvalidAddress => first | kernel_rfl | kit_is | rfl)
    (case ev_InvalidAddress => first | kernel_rfl | kit_is | rfl)
    (case kt_InvalidAddress_InvalidOperation => first | kernel_rfl | kit_is | rfl)
    (case kt_InvalidAddress_InvalidOrder => first | kernel_rfl | kit_is | rfl)
    (case kt_InvalidAddress_UnknownOrder => first | kernel_rfl | kit_is | rfl)
    (case kt_InvalidAddress_NotHolding => first | kernel_rfl | kit_is | rfl)
    (case kt_InvalidAddress_DecodeError => first | kernel_rfl | kit_is | rfl)
    (case kt_InvalidAddress_NotationError => first | kernel_rfl | kit_is | rfl)
    (case kt_InvalidAddress_UnknownLetter => first | kernel_rfl | kit_is | rfl)
    (case kt_InvalidAddress_InvalidAddress => first | kernel_rfl | kit_is | rfl)
    (case kt_InvalidAddress_InvalidDay => first | kernel_rfl | kit_is | rfl)
    (case kt_InvalidAddress_InvalidNumber => first | kernel_rfl | kit_is | rfl)
    (case kt_InvalidAddress_Contradiction => first | kernel_rfl | kit_is | rfl)
    (case kt_InvalidAddress_InvalidCount => first | kernel_rfl | kit_is | rfl)
    (case eg_InvalidDay => k_is)
    (case ek_InvalidDay => k_is)
    (case es_InvalidDay => k_is)
    (case ed_InvalidDay => k_is)
    (case ea_InvalidDay => k_is)
    (case en_InvalidDay => k_is)
    (case et_InvalidDay => k_is)
    (case em_InvalidDay => k_is)
    (case ex_InvalidDay => first | kernel_rfl | kit_is | rfl)
    (case ev_InvalidDay => first | kernel_rfl | kit_is | rfl)
    (case kt_InvalidDay_InvalidOperation => first | kernel_rfl | kit_is | rfl)
    (case kt_InvalidDay_InvalidOrder => first | kernel_rfl | kit_is | rfl)
    (case kt_InvalidDay_UnknownOrder => first | kernel_rfl | kit_is | rfl)
    (case kt_InvalidDay_NotHolding => first | kernel_rfl | kit_is | rfl)
    (case kt_InvalidDay_DecodeError => first | kernel_rfl | kit_is | rfl)
    (case kt_InvalidDay_NotationError => first | kernel_rfl | kit_is | rfl)
    (case kt_InvalidDay_UnknownLetter => first | kernel_rfl | kit_is | rfl)
    (case kt_InvalidDay_InvalidAddress => first | kernel_rfl | kit_is | rfl)
    (case kt_InvalidDay_InvalidDay => first | kernel_rfl | kit_is | rfl)
    (case kt_InvalidDay_InvalidNumber => first | kernel_rfl | kit_is | rfl)
    (case kt_InvalidDay_Contradiction => first | kernel_rfl | kit_is | rfl)
    (case kt_InvalidDay_InvalidCount => first | kernel_rfl | kit_is | rfl)
    (case eg_InvalidNumber => k_is)
    (case ek_InvalidNumber => k_is)
    (case es_InvalidNumber => k_is)
    (case ed_InvalidNumber => k_is)
    (case ea_InvalidNumber => k_is)
    (case en_InvalidNumber => k_is)
    (case et_InvalidNumber => k_is)
    (case em_InvalidNumber => k_is)
    (case ex_InvalidNumber => first | kernel_rfl | kit_is | rfl)
    (case ev_InvalidNumber => first | kernel_rfl | kit_is | rfl)
    (case kt_InvalidNumber_InvalidOperation => first | kernel_rfl | kit_is | rfl)
    (case kt_InvalidNumber_InvalidOrder => first | kernel_rfl | kit_is | rfl)
    (case kt_InvalidNumber_UnknownOrder => first | kernel_rfl | kit_is | rfl)
    (case kt_InvalidNumber_NotHolding => first | kernel_rfl | kit_is | rfl)
    (case kt_InvalidNumber_DecodeError => first | kernel_rfl | kit_is | rfl)
    (case kt_InvalidNumber_NotationError => first | kernel_rfl | kit_is | rfl)
    (case kt_InvalidNumber_UnknownLetter => first | kernel_rfl | kit_is | rfl)
    (case kt_InvalidNumber_InvalidAddress => first | kernel_rfl | kit_is | rfl)
    (case kt_InvalidNumber_InvalidDay => first | kernel_rfl | kit_is | rfl)
    (case kt_InvalidNumber_InvalidNumber => first | kernel_rfl | kit_is | rfl)
    (case kt_InvalidNumber_Contradiction => first | kernel_rfl | kit_is | rfl)
    (case kt_InvalidNumber_InvalidCount => first | kernel_rfl | kit_is | rfl)
    (case ns_InvalidAddress => k_is)
    (case ns_InvalidDay => k_is)
    (case ns_InvalidNumber => k_is)
    (case b_isinstance => k_is)
    (case b_int => k_is)
    (case b_bool => k_is)
    (case b_str => k_is)
    (case b_tuple => k_is)
    (case b_list => k_is)
    (case b_len => k_is)
    (case b_all => k_is)
    (case b_enumerate => k_is)
    (case b_range => k_is)
    (case b_min => k_is)
    (case b_max => k_is)
    (case b_ValueError => k_is)
    (case sf => k_is)
    (case hTb => exact PySem.W.km_tabs_of Y)
    (case hnP_PL_q26 => first | kernel_rfl | rfl)
    (case hcH_PL_q26 => first | kernel_rfl | rfl)
