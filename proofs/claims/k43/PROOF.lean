import PyProof.Rows.All
import Wide.All
import OpenK.AllK
import Wide.FinOn
import HandS.ForMost
import HandS.Star
import HandS.Walk
import KE.GoesMore
import KE.KUnpack
import HandS.More
import HandS.IsInst
import HandS.Wide
import HandS.TupAny
import HandS.Codes
import HandS.Property
import HandS.ClsMeth
import PyProof.FString2
import HandS.FStr
import HandS.Exc
import HandS.ExcOwn
import HandS.ExcInit
import HandS.ExcIs
import HandS.ExcField
import HandS.Small
import HandS.Lambda
import HandS.EndTab
import KE.KDflt
import HandS.SetFor
import PyProof.SeqRoads2
import PyProof.Rows.CountFlat
import HandS.Deep
import KE.KExcInit
import HandS.GenList
import HandS.SortRule
import HandS.DictComp
import KE.KEqDict
import KE.KUnpackStar
import HandS.Base
import PyProof.EqAt
import HandS.Finally
import HandS.Dict
import HandS.MethStar
import HandS.ExcCtx
import HandS.HotCalls
import HandS.Hot
import KE.KWithOwn
import PySem.Challenge.RW_mailforwards_k43_operations_at_once
import KE.KEqSeq
import HandS.Style
import HandS.Conv
import HandS.Flow
import KE.KNestM
import KE.KLam
set_option Elab.async false
set_option linter.all false
set_option maxRecDepth 100000
set_option maxHeartbeats 1000000
namespace MF
open PySem PySem.Spec PyProof.Rows L2

def gFld (K : PySem.W.Frag) (to : TE) (f : Str) : TG := fun v σ H Q => to σ H fun x H1 => ∃ a C dx fs, x = .ref a ∧ H1 a = some (.ins C dx fs) ∧ Cls K C ∧ NoAttr K C f ∧ fs.length < 1000 ∧ Q σ (upd H1 a (.ins C dx (putF f v fs)))
theorem pg_fld {X : Cx} {o : Expr} {f : Str} {pos : Pos} {to : TE} (ho : PE X o to) : PG X (.Attribute o f pos) (gFld X.K to f) := by
  refine ⟨fun pins s σ H v u Q I r h => ?_⟩
  show wpAny _ _ (do
    let ov ← holding [u] (eval o X.env)
    standAt pos.atName
    holding [u, ov] (setAttr ov f u)
    release [u, ov] []) _ _ _
  refine wpAny_bind (wpAny_holding (thn (ho.run pins s σ H _ I h) fun ov s1 ⟨x, H1, I1, r1, a, C, dx, fs, ex, ea, c, n, l, q⟩ => ?_))
  subst ex
  obtain rfl : ov = Value.ref a := r1
  refine wpAny_bind (wpAny_standAt (wpAny_bind (wpAny_holding (setattr_ok I1 ea c n l r fun s2 I2 => ?_))))
  exact wpAny_release ⟨σ, _, I2, q⟩

theorem notNI {Q : Value → Shared → Prop} {v : V} {u : Value} {s' : Shared} (r : RelV v u) (h : Q u s') : PySem.W.CmpBack Q u s' := by
  cases v with
  | non => cases (show u = Value.none from r); exact h
  | bl b => cases (show u = Value.bool b from r); exact h
  | int i => obtain ⟨t, rfl⟩ := (show ∃ t, u = Value.int i t from r); exact h
  | str x => obtain ⟨t, rfl⟩ := (show ∃ t, u = Value.str x t from r); exact h
  | byt b => obtain ⟨t, rfl⟩ := (show ∃ t, u = Value.bytes b t from r); exact h
  | flt b => obtain ⟨t, rfl⟩ := (show ∃ t, u = Value.float b t from r); exact h
  | ref a => cases (show u = Value.ref a from r); exact h
  | ty n => cases (show u = Value.type n from r); exact h
theorem op_own {X : Cx} {op : Operator} {C f : Addr} {fd : FuncData} {ps : List Str} {CX : CXT} {k : Nat} {sp : Sp} {E : XK} (hc : PySem.W.selfFirst X.K C = true) (hs : PySem.W.findIn X.K (.ref C) (PySem.dunder op.info.2) = some (some (.ref f))) (hf : PySem.W.isFn X.K (.ref f) = true)
    (F : FnOk X.prog X.w X.K X.mg X.base CX k f fd ps sp) (hr : Room k X.A) (hb : Binds X.K fd ps []) (hx : Passes CX X E) :
    OpR X (binaryOp op) (fun x y H Q => ∃ a b dx dy fs gs, x = .ref a ∧ y = .ref b ∧ H a = some (.ins C dx fs) ∧ H b = some (.ins C dy gs) ∧ sp [.ref a, .ref b] H Q E) := by
  rintro pins s σ H x y u v Q I rx ry ⟨a, b, dx, dy, fs, gs, rfl, rfl, ea, eb, h⟩
  obtain rfl : u = Value.ref a := rx
  obtain rfl : v = Value.ref b := ry
  obtain ⟨mA, O, _⟩ := ins_get I.hok ea
  obtain ⟨mB, O', _⟩ := ins_get I.hok eb
  obtain ⟨od, ia, _⟩ := O.look
  obtain ⟨od', ib, _⟩ := O'.look
  obtain ⟨m, fr⟩ := I.fr
  refine PySem.W.binop_K fr I.mod.kin ia ib.type hc hs hf ?_
  refine thn (run_fn (us := [.ref a, .ref b]) (vs := [.ref a, .ref b]) F hr hb (dvs := []) .nil hx I (.cons rfl (.cons rfl .nil)) (by simpa using h)) fun r s' hq => ?_
  obtain ⟨z, H', I', rz, q⟩ := hq
  exact notNI rz ⟨z, H', I', rz, q⟩

theorem meets_enum_newT (t : Addr) (items : Array Value) :
    Meets (Builtin.«enumerate.__new__» ⟨[.type "enumerate", .ref t], []⟩) (fun _ R s => s.heap.IsTuple t items ∧
      R (.ok (.ret (.ref (s.heap.push { cls := .type "tuple_iterator", data := .fields #[.ref t, .int 0 0] }).objs.size))) { s with heap := (s.heap.push { cls := .type "tuple_iterator", data := .fields #[.ref t, .int 0 0] }).push { cls := .type "enumerate", data := .fields #[.none, .bool false, .ref s.heap.objs.size, rawInt 0, .none, .none] } }) :=
  .of_wp fun prog w A R s h => by
    obtain ⟨hp, g, d, tk, os⟩ := s; obtain ⟨h1, h⟩ := h
    have hsub := sub_enumerate
    have q1 : ∀ {A' : Around} {E : Value → Shared → Prop} {Q : Value → Shared → Prop}, Q (.ref hp.objs.size) ⟨hp.push { cls := .type "tuple_iterator", data := .fields #[.ref t, .int 0 0] }, g, d, tk, os⟩ → wpAny (model prog w) A' (pyIter (.ref t)) Q E ⟨hp, g, d, tk, os⟩ :=
      fun q => (begins_tuple t items).iter prog w _ _ ⟨hp, g, d, tk, os⟩ _ h1 q
    wp_walk using q1
    refine wpAny_stack_any fun st => wpAny_pure ?_
    split
    · rename_i c _ _ _ _ _
      cases (c == Value.type "enumerate")
      · wp_walk using q1
        exact ⟨_, rfl, h⟩
      · wp_walk using q1
        exact ⟨_, rfl, h⟩
    · wp_walk using q1
      exact ⟨_, rfl, h⟩
theorem call_enum_tuple {prog : Program} {w : World} {A : Around} {E : Value → Shared → Prop} {s : Shared} {t : Addr} {items : Array Value} {Q : Value → Shared → Prop} (ht : s.heap.IsTuple t items)
    (h : ∀ h', IsEnum h' (s.heap.objs.size + 1) s.heap.objs.size 0 .none → h'.IsTupleIter s.heap.objs.size t 0 → h'.objs.size = s.heap.objs.size + 2 →
      (∀ b o, s.heap.get? b = some o → h'.get? b = some o) → Q (.ref (s.heap.objs.size + 1)) { s with heap := h' }) :
    wpAny (model prog w) A (call (.type "enumerate") [.ref t]) Q E s := by
  refine callType_new F.called_enumerate (by decide) (F.typeCall_enumerate_1 _) (F.newCall_enumerate_1 _) (fun obj => F.args_object_init_2 obj _) F.entry_enumerate_new
    (meets_enum_newT t items) ⟨ht, ?_⟩
  have hz : (s.heap.push { cls := .type "tuple_iterator", data := .fields #[.ref t, .int 0 0] }).objs.size = s.heap.objs.size + 1 := Heap.size_push ..
  show _ ∧ _
  rw [hz]
  have he : IsEnum ((s.heap.push { cls := .type "tuple_iterator", data := .fields #[.ref t, .int 0 0] }).push
      { cls := .type "enumerate", data := .fields #[.none, .bool false, .ref s.heap.objs.size, rawInt 0, .none, .none] }) (s.heap.objs.size + 1) s.heap.objs.size 0 .none := by
    have := Heap.get?_push_size (s.heap.push { cls := .type "tuple_iterator", data := .fields #[.ref t, .int 0 0] })
      (o := { cls := .type "enumerate", data := .fields #[.none, .bool false, .ref s.heap.objs.size, rawInt 0, .none, .none] }) rfl
    rw [hz] at this; exact this
  exact ⟨⟨_, he, rfl⟩, h _ he ⟨_, Heap.get?_push_of_some _ (Heap.get?_push_size _ rfl), rfl, rfl⟩ (by rw [Heap.size_push, hz]) fun b o x => Heap.get?_push_of_some _ (Heap.get?_push_of_some _ x)⟩

def ItE (K : PySem.W.Frag) (a : Addr) : It :=
  ⟨fun i H => ∃ (xs : List V) (x : V), SqT K H a xs ∧ xs[i]? = some x, fun i H v H' => ∃ T x, v = .ref T ∧ H T = none ∧ H' = upd H T (.tup [.int (i : Nat), x]) ∧ ∀ xs, SqT K H a xs → xs[i]? = some x, fun i H => ∃ xs : List V, SqT K H a xs ∧ xs.length = i⟩
theorem turn_enumT {P : Program} {w : World} {K : PySem.W.Frag} {elts : List Expr} {kk : Nat} {tpos : Pos} (a e it : Addr) :
    Turn P w K (.Tuple elts kk tpos) (ItE K a) [e, it] e (fun i h => (∃ old, IsEnum h e it ((i : Nat) : Int) old) ∧ h.IsTupleIter it a i ∧ e ≠ it) where
  mem := by simp
  obj := fun i h st b hb => by
    obtain ⟨⟨old, he⟩, ⟨o, ho, hc, hd⟩, _⟩ := st
    have e' : b = e ∨ b = it := by simpa using hb
    rcases e' with z | z
    · rw [z]; exact ⟨_, he, fun v q => nomatch q⟩
    · rw [z]; exact ⟨o, ho, fun v q => by rw [hd] at q; cases q⟩
  keep := fun i h h' st k => let ⟨⟨old, he⟩, hi, hne⟩ := st; ⟨⟨old, k e (by simp) _ he⟩, hi.at fun o q => k it (by simp) o q, hne⟩
  item := by
    intro X hP hw hK hc i pins s σ H E I hf st hg
    subst hP hw hK
    obtain ⟨⟨old, he⟩, hit, hne⟩ := st
    obtain ⟨xs, x, hq, hx⟩ := hg
    obtain ⟨its, rv, p, hz⟩ := I.tuple hq
    obtain ⟨u, hu, ru⟩ := rv.get hx
    have hel : e < s.heap.objs.size := Heap.lt_size he
    have hil : it < s.heap.objs.size := by obtain ⟨_, q, _⟩ := hit; exact Heap.lt_size q
    have pt : s.heap.IsTuple a its.toArray := p
    have hai : a ≠ it := fun z => by
      subst z
      obtain ⟨o1, e1, c1, _⟩ := pt
      obtain ⟨o2, e2, c2, _⟩ := hit
      rw [e1] at e2; cases e2
      rw [c1] at c2
      exact absurd (Value.type.inj c2) (by decide)
    have hae : a ≠ e := fun z => by
      subst z
      obtain ⟨o1, e1, c1, _⟩ := pt
      rw [he] at e1; cases e1
      exact absurd (Value.type.inj c1) (by decide)
    have hlt : i < its.toArray.size := by
      have := (List.getElem?_eq_some_iff.mp hu).1
      simpa using this
    refine wpAny_pyNext_enum_itemD (Draws.tuple (A := X.A.in1) (by simpa using I.ok.hd hc) it a hai its.toArray) he ⟨hit, pt⟩ hlt hne (by simp [hne, Ne.symm hae]) fun x' h' tk hx' ho st' hT hsz hk => ?_
    have eu : x' = u := by
      have q : its.toArray[i]? = some u := by simpa using hu
      rw [q] at hx'; cases hx'; rfl
    subst eu
    refine ⟨_, rfl, wpAny_letOwnedTupleGo_enum (s := { s with heap := h', toks := tk + 1 }) ho fun h'' he' sb => ?_⟩
    have hT2 : h''.get? s.heap.objs.size = some { cls := .type "tuple", data := .seq #[.int i tk, x'] } := (sb.2 _ (Nat.ne_of_gt hel)).trans hT
    have new : ObjOk X.prog X.w (upd H s.heap.objs.size (.tup [.int (i : Nat), x])) h'' s.heap.objs.size (.tup [.int (i : Nat), x]) :=
      ⟨by show 2 ≤ sizeLine; decide, [.int i tk, x'], .cons ⟨_, rfl⟩ (.cons ru .nil), ⟨_, hT2, rfl, _, rfl⟩⟩
    have I1 : Inv X pins σ (upd H s.heap.objs.size (.tup [.int (i : Nat), x])) { s with heap := h'', toks := tk + 1 } :=
      I.turnedNew (ch := [e, it]) (fun b ob hb q => (sb.2 b (fun z => hb (by simp [z]))).trans (hk b ob (fun z => hb (by simp [z])) (fun z => hb (by simp [z])) q)) hf (Nat.le_refl _) new
    refine ⟨.ref s.heap.objs.size, _, I1, rfl, ⟨_, x, rfl, I.hok.fresh (Nat.le_refl _), rfl, fun ys hy => by rw [I.tuple_inj hy hq]; exact hx⟩, ⟨⟨x', ?_⟩, st'.1.at fun o q => (sb.2 it (Ne.symm hne)).trans q, hne⟩, fun b hb => ?_⟩
    · have e1 : ((i + 1 : Nat) : Int) = (i : Int) + 1 := by omega
      rw [e1]; exact he'
    · have hb' : b < s.heap.objs.size := by
        have e' : b = e ∨ b = it := by simpa using hb
        rcases e' with z | z
        · rw [z]; exact hel
        · rw [z]; exact hil
      rw [upd_ne (Nat.ne_of_lt hb')]
      exact (hf b hb).1
  done := by
    intro X hP hw hK hc i pins s σ H E I hf st hg
    subst hP hw hK
    obtain ⟨⟨old, he⟩, hit, hne⟩ := st
    obtain ⟨xs, hq, hx⟩ := hg
    obtain ⟨its, rv, p, hz⟩ := I.tuple hq
    obtain ⟨f0, f1, f2, f3, f4, f5⟩ := hf it (by simp)
    have pt : s.heap.IsTuple a its.toArray := p
    have hai : a ≠ it := fun z => by
      subst z
      obtain ⟨o1, e1, c1, _⟩ := pt
      obtain ⟨o2, e2, c2, _⟩ := hit
      rw [e1] at e2; cases e2
      rw [c1] at c2
      exact absurd (Value.type.inj c2) (by decide)
    have hl := rv.length
    have en : its.toArray.size = i := by simp; omega
    exact wpAny_pyNext_enum_endD (Draws.tuple (A := X.A.in1) (by simpa using I.ok.hd hc) it a hai its.toArray) he (by rw [en]; exact ⟨hit, pt⟩) fun h' eb => ⟨rfl, I.turned (t' := s.toks) (fun b o hb q => eb b o hb q) f0 f1 f3 f4 f5⟩
  self := fun A i s Q E st h => let ⟨⟨_, he⟩, _⟩ := st; wpAny_pyIter_enum he h
def iEnumT (K : PySem.W.Frag) (ta : TA) : TI := fun σ H R => ta σ H fun vs H1 => ∃ a xs, vs = [.ref a] ∧ SqT K H1 a xs ∧ R (ItE K a) H1
theorem pi_enumT {X : Cx} {e : Expr} {ta : TA} {p pos tpos : Pos} {elts : List Expr} {kk : Nat} (hg : Gl X "enumerate") (hm : X.mg "enumerate" = none) (ha : PA X [e] ta) (hs : starEach [e] X.env = [(false, eval e X.env)] := by rfl) :
    PI X (.Tuple elts kk tpos) (.Call (.Name "enumerate" p) [e] [] pos) (iEnumT X.K ta) := by
  refine ⟨fun pins s σ H R I h => ?_⟩
  refine Call_ (ld_blt I hg hm boot_enumerate (PyProof.Rows.callWith_type1 (thn (ha.run pos pins s σ H _ I h) fun us s1 ⟨vs, H1, I1, r1, q1⟩ => ?_) hs rfl))
  obtain ⟨a, xs, ex, hq, q⟩ := q1
  subst ex
  cases r1 with
  | cons r rr =>
    cases rr
    cases r
    obtain ⟨its, rv, p', hz⟩ := I1.tuple hq
    refine call_enum_tuple (show s1.heap.IsTuple a its.toArray from p') fun h' he hit hsz hk => wpAny_pyIter_enum he ?_
    have I2 : Inv X pins σ H1 { s1 with heap := h' } := I1.kept (t' := s1.toks) hk
    refine ⟨s1.heap.objs.size + 1, [s1.heap.objs.size + 1, s1.heap.objs.size], _, _, H1, rfl, I2, turn_enumT a (s1.heap.objs.size + 1) s1.heap.objs.size, ⟨⟨.none, he⟩, hit, Nat.succ_ne_self _⟩, fun b hb => ?_, q⟩
    have e' : b = s1.heap.objs.size + 1 ∨ b = s1.heap.objs.size := by simpa using hb
    have hle : s1.heap.objs.size ≤ b := by
      rcases e' with z | z
      · rw [z]; exact Nat.le_add_right _ _
      · rw [z]; exact Nat.le_refl _
    exact I1.fpOk hle (I1.hok.fresh hle)
theorem walk_enumT {K : PySem.W.Frag} {a : Addr} {xs : List V} : Walk (ItE K a) xs.length (fun H => SqT K H a xs) (YPair (fun i => some (.int (i : Nat))) (fun i => xs[i]?)) :=
  ⟨fun i H hi hg => ⟨xs, xs[i], hg, by simp [hi]⟩, fun H hg => ⟨xs, hg, rfl⟩, fun i H v H' hi hg ⟨T, x, e1, e2, e3, e4⟩ => ⟨T, _, x, e1, e2, e3, rfl, e4 xs hg⟩⟩


def setAll : List Nat → List V → L2.St → L2.St
  | i :: is, v :: vs, σ => setAll is vs (σ.set i (some v))
  | _, _, σ => σ
inductive Caps (X : Cx) : List Pattern → List Nat → Prop
  | nil : Caps X [] []
  | cons {x : Str} {p : Pos} {ps : List Pattern} {i : Nat} {is : List Nat} (hi : X.N[i]? = some x) (hx : Loc X.env.scope x) (hf : X.fn x = true ∨ X.env.scope.names.lookup x = some .local) (r : Caps X ps is) : Caps X (.MatchAs none (some x) p :: ps) (i :: is)
def capNames : List Pattern → List Str
  | .MatchAs none (some x) _ :: ps => x :: capNames ps
  | _ => []
theorem Caps.len {X : Cx} : ∀ {ps : List Pattern} {is : List Nat}, Caps X ps is → ps.length = is.length
  | _, _, .nil => rfl
  | _, _, .cons _ _ _ r => by simp [r.len]
theorem Caps.each {X : Cx} {A : Around} {E : Value → Shared → Prop} {s : Shared} : ∀ {ps : List Pattern} {is : List Nat} {us : List Value} {Q : Option (List (Str × Value)) → Shared → Prop}, Caps X ps is → us.length = ps.length →
    Q (some ((capNames ps).zip us)) s → wpAny (model X.prog X.w) A (matchEach ps X.env us) Q E s
  | _, _, [], Q, .nil, _, h => wpAny_matchEach_nil h
  | _, _, u :: us, Q, .cons hi hx hf r, hl, h => by
    refine wpAny_matchEach_cons (wpAny_matchPattern_Capture ?_)
    show wpAny _ _ (matchEach _ X.env us) _ _ _
    exact Caps.each r (by simpa using hl) h
theorem Caps.store {X : Cx} {pins : List (Addr × Obj)} {H : Hp} (hN : X.N.Nodup) : ∀ {ps : List Pattern} {is : List Nat} {us : List Value} {vs : List V} {σ : L2.St} {s : Shared} {Q : Unit → Shared → Prop}, Caps X ps is → Vals vs us → us.length = ps.length → Inv X pins σ H s →
    (∀ s', Inv X pins (setAll is vs σ) H s' → Q () s') → wpAny (model X.prog X.w) X.A (assignInOrder (((capNames ps).zip us).map fun (n, _) => bindName X.env n) (((capNames ps).zip us).map (·.2))) Q X.xe s
  | _, _, _, _, σ, s, Q, .nil, .nil, _, I, h => assignInOrder_nil (h s I)
  | _, _, _, _, σ, s, Q, .cons hi hx hf r, .cons rv rr, hl, I, h => by
    refine assignInOrder_cons (wpAny_bindName (store_ok I hN hi hx rv (fun s' I' => ?_) hf))
    exact Caps.store hN r rr (by simpa using hl) I' h
theorem fitL {n : Nat} (h : n ≤ sizeLine) : (n : Int) < 2 ^ 63 := by
  have h2 : n < 2 ^ 63 := Nat.lt_of_le_of_lt h line63
  exact Int.ofNat_lt.mpr h2
def notSeq : V → Bool
  | .non => true
  | .bl _ => true
  | .int _ => true
  | .str _ => true
  | _ => false
def tMatch (K : PySem.W.Frag) (is : List Nat) (te : TE) (tg : TT) (tb tc : TS) : TS := fun D σ H => te σ H fun x H1 =>
  (∃ a vs, x = .ref a ∧ (SqT K H1 a vs ∨ SqL K H1 a vs) ∧ ((vs.length = is.length ∧ tg (setAll is vs σ) H1 fun b H2 => if b = true then tb D (setAll is vs σ) H2 else tc D (setAll is vs σ) H2) ∨ (vs.length ≠ is.length ∧ tc D σ H1))) ∨
  (notSeq x = true ∧ tc D σ H1)
theorem ps_match {X : Cx} {subject g : Expr} {ps : List Pattern} {is : List Nat} {body other : List Stmt} {p1 p2 pos : Pos} {te : TE} {tg : TT} {tb tc : TS} (hc : X.calm = true) (hN : X.N.Nodup) (he : PE X subject te) (hp : Caps X ps is) (hg : PT X g tg) (hb : PSs X body tb) (ho : PSs X other tc)
    (hstar : ps.findIdx? (·.isStar) = none := by rfl) (hwild : (ps.all fun p => p.isWildcard || (p.isStar && p.names.isEmpty)) = false := by rfl) :
    PS X (.Match subject [⟨.MatchSequence ps p1, some g, body⟩, ⟨.MatchAs none none p2, none, other⟩] pos) (tMatch X.K is te tg tb tc) := by
  refine ⟨fun pins s σ H D I h => ?_⟩
  refine wpAny_Match (thn (he.run pins s σ H _ I h) fun u s1 ⟨x, H1, I1, r1, q1⟩ => ?_)
  have last : ∀ {s2 : Shared} {σ2 : L2.St} {H2 : Hp}, Inv X pins σ2 H2 s2 → tc D σ2 H2 → wpAny (model X.prog X.w) X.A (matchCases [⟨.MatchAs none none p2, none, other⟩] X.env u false) (SP X pins D) X.xe s2 := fun {s2 σ2 H2} I2 q2 => by
    refine wpAny_matchCases_cons (wpAny_matchPattern_Capture ?_)
    show wpAny _ _ (assignInOrder [] []) _ _ _
    exact assignInOrder_nil (ho.run pins s2 σ2 H2 D I2 q2)
  refine wpAny_matchCases_cons ?_
  rcases q1 with ⟨a, vs, rfl, hq, q⟩ | ⟨hn, q⟩
  · obtain rfl : u = Value.ref a := r1
    rcases hq with hq | hq
    · obtain ⟨its, rv, p, hz⟩ := I1.tuple hq
      have hl := rv.length
      have fit : (its.toArray.size : Int) < 2 ^ 63 := fitL (by rw [List.size_toArray, ← hl]; exact hz)
      have en : its.toArray.size = vs.length := by rw [List.size_toArray, hl]
      rcases q with ⟨el, q⟩ | ⟨el, q⟩
      · have e0 : ps.length = its.toArray.size := by rw [en, el, hp.len]
        refine matchSeq_tuple_hit p fit e0.symm ?_ hstar hwild
        rw [e0]
        refine unpackItems_tuple (s := { s1 with toks := s1.toks + 1 + 1 }) (I.ok.hd hc) p fun h' hx' => ?_
        have I2 := (I1.tok (s1.toks + 1 + 1)).kept (h' := h') (t' := s1.toks + 1 + 1) fun b o e => hx' b o (Nat.ne_of_lt (Heap.lt_size e)) e
        refine Caps.each hp (by rw [Array.length_toList, e0]) ?_
        refine Caps.store (us := its.toArray.toList) (vs := vs) hN hp (by simpa using rv) (by rw [Array.length_toList, e0]) I2 fun s3 I3 => ?_
        refine thn (hg.run pins s3 _ H1 _ I3 q) fun b s4 ⟨H2, I4, q4⟩ => ?_
        cases b with
        | true => exact hb.run pins s4 _ H2 D I4 (by simpa using q4)
        | false => exact last I4 (by simpa using q4)
      · refine matchSeq_tuple_miss p fit (by rw [en, hp.len]; exact el) ?_ hstar hwild
        exact last (I1.tok _) q
    · obtain ⟨its, rv, p, hz⟩ := I1.list hq
      have hl := rv.length
      have fit : (its.toArray.size : Int) < 2 ^ 63 := fitL (by rw [List.size_toArray, ← hl]; exact hz)
      have en : its.toArray.size = vs.length := by rw [List.size_toArray, hl]
      rcases q with ⟨el, q⟩ | ⟨el, q⟩
      · have e0 : ps.length = its.toArray.size := by rw [en, el, hp.len]
        refine matchSeq_list_hit p.isList fit e0.symm ?_ hstar hwild
        rw [e0]
        refine PySem.W.kun_itemsOf (s := { s1 with toks := s1.toks + 1 + 1 }) (I.ok.hd hc) p.isList fun h' hx' => ?_
        have I2 := (I1.tok (s1.toks + 1 + 1)).kept (h' := h') (t' := s1.toks + 1 + 1) fun b o e => hx' b o (Nat.ne_of_lt (Heap.lt_size e)) e
        refine Caps.each hp (by rw [Array.length_toList, e0]) ?_
        refine Caps.store (us := its.toArray.toList) (vs := vs) hN hp (by simpa using rv) (by rw [Array.length_toList, e0]) I2 fun s3 I3 => ?_
        refine thn (hg.run pins s3 _ H1 _ I3 q) fun b s4 ⟨H2, I4, q4⟩ => ?_
        cases b with
        | true => exact hb.run pins s4 _ H2 D I4 (by simpa using q4)
        | false => exact last I4 (by simpa using q4)
      · refine matchSeq_list_miss p.isList fit (by rw [en, hp.len]; exact el) ?_ hstar hwild
        exact last (I1.tok _) q
  · have miss : ∀ {T : String}, s1.TypeIs u T → flagOfType true (.type T) = pure false → wpAny (model X.prog X.w) X.A (matchPattern (.MatchSequence ps p1) X.env u) (fun r s₁ => match r with
          | none => wpAny (model X.prog X.w) X.A (matchCases [⟨.MatchAs none none p2, none, other⟩] X.env u false) (SP X pins D) X.xe s₁
          | some bs => wpAny (model X.prog X.w) X.A (assignInOrder (bs.map fun (n, _) => bindName X.env n) (bs.map (·.2))) (fun _ s₂ => wpAny (model X.prog X.w) X.A (isTrue g X.env (eval g X.env))
                  (fun ok s₃ => if ok then wpAny (model X.prog X.w) X.A (execs body X.env) (SP X pins D) X.xe s₃ else wpAny (model X.prog X.w) X.A (matchCases [⟨.MatchAs none none p2, none, other⟩] X.env u false) (SP X pins D) X.xe s₃) X.xe s₂) X.xe s₁) X.xe s1 := fun {T} hT hfl => by
      refine wpAny_matchPattern_Sequence (wpAny_collectionFlag hT hfl ?_) hstar hwild
      rw [if_neg (by decide)]
      exact last I1 q
    cases x with
    | non => cases (show u = Value.none from r1); exact miss (T := "NoneType") (by trivial) flag_seq_None
    | bl b => cases (show u = Value.bool b from r1); exact miss (T := "bool") (by trivial) flag_seq_bool
    | int i => obtain ⟨t, rfl⟩ := (show ∃ t, u = Value.int i t from r1); exact miss (T := "int") (by trivial) flag_seq_int
    | str z => obtain ⟨t, rfl⟩ := (show ∃ t, u = Value.str z t from r1); exact miss (T := "str") (by trivial) flag_seq_str
    | byt b => cases hn
    | flt b => cases hn
    | ref a => cases hn
    | ty n => cases hn

end MF
set_option Elab.async false
set_option linter.all false
set_option maxRecDepth 100000
set_option maxHeartbeats 1000000
namespace MF
open PySem PySem.Spec PyProof.Rows L2 StX

structure GFn (P : Program) (w : World) (K : PySem.W.Frag) (mg : Str → Option Value) (base : Heap) (CX : CXT) (k : Nat) (x : Str) (sp : Sp) : Prop where
  ex : ∃ f, FnR P w K mg base CX k f sp ∧ mg x = some (.ref f) ∧ PySem.W.keepIn K (.ref f) = true
structure MFn (P : Program) (w : World) (K : PySem.W.Frag) (mg : Str → Option Value) (base : Heap) (CX : CXT) (k : Nat) (C : Addr) (m : Str) (sp : Sp) : Prop where
  ex : ∃ f, FnR P w K mg base CX k f sp ∧ Meth K C m f
structure IFn (P : Program) (w : World) (K : PySem.W.Frag) (mg : Str → Option Value) (base : Heap) (CX : CXT) (k : Nat) (C : Addr) (x : Str) (sp : Sp) : Prop where
  ex : ∃ f, FnR P w K mg base CX k f sp ∧ Mk K C f ∧ mg x = some (.ref C)
section
variable {P : Program} {w : World} {K : PySem.W.Frag} {mg : Str → Option Value} {base : Heap} {CX : CXT} {j k : Nat} {C : Addr} {x m : Str} {sp sp' : Sp}
theorem GFn.mono (G : GFn P w K mg base CX j x sp) (h : j ≤ k) : GFn P w K mg base CX k x sp := let ⟨f, a, b⟩ := G.ex; ⟨f, a.mono h, b⟩
theorem GFn.imp (G : GFn P w K mg base CX k x sp) (h : ∀ vs H Q E, sp' vs H Q E → sp vs H Q E) : GFn P w K mg base CX k x sp' := let ⟨f, a, b⟩ := G.ex; ⟨f, a.imp h, b⟩
theorem MFn.mono (G : MFn P w K mg base CX j C m sp) (h : j ≤ k) : MFn P w K mg base CX k C m sp := let ⟨f, a, b⟩ := G.ex; ⟨f, a.mono h, b⟩
theorem MFn.imp (G : MFn P w K mg base CX k C m sp) (h : ∀ vs H Q E, sp' vs H Q E → sp vs H Q E) : MFn P w K mg base CX k C m sp' := let ⟨f, a, b⟩ := G.ex; ⟨f, a.imp h, b⟩
end
structure GDef (K : PySem.W.Frag) (mg : Str → Option Value) (x : Str) (st : Stmt) (ps : List Str) : Prop where
  ex : ∃ f fd, Fun K x x st f fd ∧ mg x = some (.ref f) ∧ Binds K fd ps []
structure MDef (K : PySem.W.Frag) (C : Addr) (m qual : Str) (st : Stmt) (ps : List Str) : Prop where
  ex : ∃ f fd, Fun K m qual st f fd ∧ Meth K C m f ∧ Binds K fd ps []
structure IDef (K : PySem.W.Frag) (mg : Str → Option Value) (C : Addr) (x qual : Str) (st : Stmt) (ps : List Str) : Prop where
  ex : ∃ f fd, Fun K "__init__" qual st f fd ∧ Mk K C f ∧ mg x = some (.ref C) ∧ Binds K fd ps []
section
variable {P : Program} {w : World} {K : PySem.W.Frag} {mg : Str → Option Value} {base : Heap} {CX : CXT} {k : Nat} {C : Addr} {x m qual : Str} {st : Stmt} {ps : List Str} {sp : Sp}
theorem raw0 {f : Addr} {fd : FuncData} (F : FnOk P w K mg base CX k f fd ps sp) (hb : Binds K fd ps []) : FnR P w K mg base CX k f sp :=
  (F.raw hb (dvs := []) .nil).imp fun vs H Q E h => by rw [List.append_nil]; exact h
theorem GDef.fn (D : GDef K mg x st ps) (h : ∀ f fd, Fun K x x st f fd → FnOk P w K mg base CX k f fd ps sp) : GFn P w K mg base CX k x sp :=
  let ⟨f, fd, a, b, c⟩ := D.ex
  ⟨f, raw0 (h f fd a) c, b, a.kp⟩
theorem MDef.fn (D : MDef K C m qual st ps) (h : ∀ f fd, Fun K m qual st f fd → FnOk P w K mg base CX k f fd ps sp) : MFn P w K mg base CX k C m sp :=
  let ⟨f, fd, a, b, c⟩ := D.ex
  ⟨f, raw0 (h f fd a) c, b⟩
theorem IDef.fn (D : IDef K mg C x qual st ps) (h : ∀ f fd, Fun K "__init__" qual st f fd → FnOk P w K mg base CX k f fd ps sp) : IFn P w K mg base CX k C x sp :=
  let ⟨f, fd, a, b, c, d⟩ := D.ex
  ⟨f, raw0 (h f fd a) d, b, c⟩
end
section
variable {X : Cx} {CX : CXT} {k : Nat} {C : Addr} {x m : Str} {sp : Sp} {E : XK} {e o : Expr} {es : List Expr} {ta te : TE} {t : TA} {p pos apos sp_ : Pos}
def tG (sp : Sp) (E : XK) (t : TA) : TE := fun σ H Q => t σ H fun vs H1 => sp vs H1 Q E
theorem pe_gX (G : GFn X.prog X.w X.K X.mg X.base CX k x sp) (hr : Room k X.A) (hx : Passes CX X E) (ha : PA X (e :: es) t) (hg : Gl X x := by rfl) (hdb : (x == ("__debug__" : Str)) = false := by decide)
    (he : starEach (e :: es) X.env = (false, eval e X.env) :: starEach es X.env := by rfl) (hpl : (backTo pos (starEach es X.env)).any (·.1) = false := by rfl) :
    PE X (.Call (.Name x p) (e :: es) [] pos) (tG sp E t) := by
  obtain ⟨f, F, hm, hk⟩ := G.ex
  refine ⟨fun pins s σ H Q I h => ?_⟩
  refine wpAny_Call_Name_kw (ld_glob I hg hm ?_ hdb)
  refine PySem.W.callWith_K (h₀ := X.base) I.ok.mod.kin hk (thn (ha.run pos pins s σ H _ I h) fun us s1 ⟨vs, H1, I1, r, q⟩ => ⟨I1.kIn, ?_⟩) he hpl
  exact wpAny_call (run_fnR F hr hx I1 r q)
theorem pe_g (G : GFn X.prog X.w X.K X.mg X.base CX0 k x sp) (hr : Room k X.A) (ha : PA X (e :: es) t) (hg : Gl X x := by rfl) (hdb : (x == ("__debug__" : Str)) = false := by decide)
    (he : starEach (e :: es) X.env = (false, eval e X.env) :: starEach es X.env := by rfl) (hpl : (backTo pos (starEach es X.env)).any (·.1) = false := by rfl) :
    PE X (.Call (.Name x p) (e :: es) [] pos) (tG sp E0 t) := pe_gX G hr pass0 ha hg hdb he hpl
theorem pe_g0X (G : GFn X.prog X.w X.K X.mg X.base CX k x sp) (hr : Room k X.A) (hx : Passes CX X E) (hg : Gl X x := by rfl) (hdb : (x == ("__debug__" : Str)) = false := by decide) :
    PE X (.Call (.Name x p) [] [] pos) (tG sp E tNil) := by
  obtain ⟨f, F, hm, hk⟩ := G.ex
  refine ⟨fun pins s σ H Q I h => ?_⟩
  refine wpAny_Call_Name_kw (ld_glob I hg hm ?_ hdb)
  exact PySem.W.callWith_K0 I.kIn hk (wpAny_call (run_fnR (us := []) F hr hx I .nil h))
theorem pe_gS (G : GFn X.prog X.w X.K X.mg X.base CX k x sp) (hr : Room k X.A) (hx : Passes CX X E) (he : PE X e te) (hg : Gl X x := by rfl) (hdb : (x == ("__debug__" : Str)) = false := by decide)
    (hst : starEach [.Starred e sp_] X.env = [(true, eval e X.env)] := by rfl) :
    PE X (.Call (.Name x p) [.Starred e sp_] [] pos) (tG sp E (tStar X.K te tNil)) := by
  obtain ⟨f, F, hm, hk⟩ := G.ex
  refine ⟨fun pins s σ H Q I h => ?_⟩
  refine wpAny_Call_Name_kw (ld_glob I hg hm ?_ hdb)
  refine PySem.W.callWith_S (h₀ := X.base) I.ok.mod.kin hk (thn (he.run pins s σ H _ I h) fun v s1 ⟨y, H1, I1, ry, a, xs, ey, hxs, q⟩ => ?_) hst
  subst ey
  obtain rfl : v = Value.ref a := ry
  refine star_any I1 hxs fun us s2 I2 rv => ⟨I2.kIn, wpAny_call (run_fnR F hr hx I2 rv ?_)⟩
  have q' : sp (xs ++ []) H1 Q E := q
  rw [List.append_nil] at q'
  exact q'
theorem pe_mkX (G : IFn X.prog X.w X.K X.mg X.base CX k C x sp) (hr : Room (k + 1) X.A) (hx : Passes CX X E) (ha : PA X (e :: es) t) (hg : Gl X x := by rfl) (hdb : (x == ("__debug__" : Str)) = false := by decide)
    (he : starEach (e :: es) X.env = (false, eval e X.env) :: starEach es X.env := by rfl) (hpl : (backTo pos (starEach es X.env)).any (·.1) = false := by rfl) : PE X (.Call (.Name x p) (e :: es) [] pos) (tMakeR C sp E t) := by
  obtain ⟨f, F, M, hm⟩ := G.ex
  exact pe_makeR M F hr hg hm hx ha hdb he hpl
theorem pe_mk0X (G : IFn X.prog X.w X.K X.mg X.base CX k C x sp) (hr : Room (k + 1) X.A) (hx : Passes CX X E) (hg : Gl X x := by rfl) (hdb : (x == ("__debug__" : Str)) = false := by decide) : PE X (.Call (.Name x p) [] [] pos) (tMakeR C sp E tNil) := by
  obtain ⟨f, F, M, hm⟩ := G.ex
  refine ⟨fun pins s σ H Q I h => ?_⟩
  refine wpAny_Call_Name_kw (ld_glob I hg hm ?_ hdb)
  exact PySem.W.callWith_K0 I.kIn M.kp (run_makeR (us := []) M F hr hx I .nil h)
theorem pe_mkS (G : IFn X.prog X.w X.K X.mg X.base CX k C x sp) (hr : Room (k + 1) X.A) (hx : Passes CX X E) (he : PE X e te) (hg : Gl X x := by rfl) (hdb : (x == ("__debug__" : Str)) = false := by decide)
    (hst : starEach [.Starred e sp_] X.env = [(true, eval e X.env)] := by rfl) : PE X (.Call (.Name x p) [.Starred e sp_] [] pos) (tMakeR C sp E (tStar X.K te tNil)) := by
  obtain ⟨f, F, M, hm⟩ := G.ex
  refine ⟨fun pins s σ H Q I h => ?_⟩
  refine wpAny_Call_Name_kw (ld_glob I hg hm ?_ hdb)
  refine PySem.W.callWith_S (h₀ := X.base) I.ok.mod.kin M.kp (thn (he.run pins s σ H _ I h) fun v s1 ⟨y, H1, I1, ry, a, xs, ey, hxs, q⟩ => ?_) hst
  subst ey
  obtain rfl : v = Value.ref a := ry
  refine star_any I1 hxs fun us s2 I2 rv => ⟨I2.kIn, run_makeR M F hr hx I2 rv ?_⟩
  have q' : ∀ x dx, H1 x = none → H1 dx = none → dx ≠ x → sp (V.ref x :: (xs ++ [])) (upd (upd H1 dx (.own x)) x (.ins C dx [])) (fun v H2 => v = .non ∧ Q (.ref x) H2) E := q
  rw [List.append_nil] at q'
  exact q'
theorem pe_mkS2 (G : IFn X.prog X.w X.K X.mg X.base CX k C x sp) (hr : Room (k + 1) X.A) (hx : Passes CX X E) (ha : PA X (e :: es) t) (hg : Gl X x := by rfl) (hdb : (x == ("__debug__" : Str)) = false := by decide)
    (he : starEach (e :: es) X.env = (false, eval e X.env) :: starEach es X.env := by rfl) (hst : (backTo pos (starEach es X.env)).any (·.1) = true := by rfl) : PE X (.Call (.Name x p) (e :: es) [] pos) (tMakeR C sp E t) := by
  obtain ⟨f, F, M, hm⟩ := G.ex
  refine ⟨fun pins s σ H Q I h => ?_⟩
  refine wpAny_Call_Name_kw (ld_glob I hg hm ?_ hdb)
  refine PySem.W.callWith_S2 (h₀ := X.base) I.ok.mod.kin M.kp (thn (ha.run pos pins s σ H _ I h) fun us s1 ⟨vs, H1, I1, r, q⟩ => ⟨I1.kIn, ?_⟩) he hst
  exact run_makeR M F hr hx I1 r q
def tM (C : Addr) (m : Str) (sp : Sp) (E : XK) (ta : TE) (t : TA) : TE := fun σ H Q => ta σ H fun x H1 => ∃ a dx fs, x = .ref a ∧ H1 a = some (.ins C dx fs) ∧ fs.lookup m = none ∧ t σ H1 fun vs H2 => sp (x :: vs) H2 Q E
theorem pe_mX {pl : Sem Bool} (G : MFn X.prog X.w X.K X.mg X.base CX k C m sp) (c : Cls X.K C) (hr : Room k X.A) (hx : Passes CX X E) (he : PE X o ta) (ha : PA X (e :: es) t)
    (hst : starEach (e :: es) X.env = (false, eval e X.env) :: starEach es X.env := by rfl) (hpl : (backTo pos (starEach es X.env)).any (·.1) = false := by rfl)
    (ht : eval (.Call (.Attribute o m apos) (e :: es) [] pos) X.env = (do
      let ov ← eval o X.env
      standAt apos.atName
      let (f, first) ← holding [ov] (getMethod ov m pl)
      callWith pos f first (backTo pos (starEach (e :: es) X.env)) (backToKw pos (keywordEach [] X.env))) := by rfl) :
    PE X (.Call (.Attribute o m apos) (e :: es) [] pos) (tM C m sp E ta t) := by
  obtain ⟨f, F, hm⟩ := G.ex
  refine ⟨fun pins s σ H Q I h => ?_⟩
  refine PySem.W.methodCall_KW (pl := pl) (thn (he.run pins s σ H _ I h) fun u s1 ⟨x, H1, I1, rx, a, dx, fs, ex, ea, l, q⟩ => ?_) ht
  subst ex
  obtain rfl : u = Value.ref a := rx
  refine getmeth_ok I1 ea c hm l ?_
  refine PySem.W.callWith_K (first := [.ref a]) (h₀ := X.base) I.ok.mod.kin hm.kp (thn (ha.run pos pins s1 σ H1 _ I1 q) fun us s2 ⟨vs, H2, I2, r, q2⟩ => ⟨I2.kIn, ?_⟩) hst hpl
  exact wpAny_call (run_fnR (us := .ref a :: us) (vs := .ref a :: vs) F hr hx I2 (.cons rfl r) q2)
theorem pe_m {pl : Sem Bool} (G : MFn X.prog X.w X.K X.mg X.base CX0 k C m sp) (c : Cls X.K C) (hr : Room k X.A) (he : PE X o ta) (ha : PA X (e :: es) t)
    (hst : starEach (e :: es) X.env = (false, eval e X.env) :: starEach es X.env := by rfl) (hpl : (backTo pos (starEach es X.env)).any (·.1) = false := by rfl)
    (ht : eval (.Call (.Attribute o m apos) (e :: es) [] pos) X.env = (do
      let ov ← eval o X.env
      standAt apos.atName
      let (f, first) ← holding [ov] (getMethod ov m pl)
      callWith pos f first (backTo pos (starEach (e :: es) X.env)) (backToKw pos (keywordEach [] X.env))) := by rfl) :
    PE X (.Call (.Attribute o m apos) (e :: es) [] pos) (tM C m sp E0 ta t) := pe_mX G c hr pass0 he ha hst hpl ht
theorem pe_mX0 {pl : Sem Bool} (G : MFn X.prog X.w X.K X.mg X.base CX k C m sp) (c : Cls X.K C) (hr : Room k X.A) (hx : Passes CX X E) (he : PE X o ta)
    (ht : eval (.Call (.Attribute o m apos) [] [] pos) X.env = (do
      let ov ← eval o X.env
      standAt apos.atName
      let (f, first) ← holding [ov] (getMethod ov m pl)
      callWith pos f first (backTo pos (starEach [] X.env)) (backToKw pos (keywordEach [] X.env))) := by rfl) :
    PE X (.Call (.Attribute o m apos) [] [] pos) (tM C m sp E ta tNil) := by
  obtain ⟨f, F, hm⟩ := G.ex
  refine ⟨fun pins s σ H Q I h => ?_⟩
  refine PySem.W.methodCall_KW (pl := pl) (thn (he.run pins s σ H _ I h) fun u s1 ⟨x, H1, I1, rx, a, dx, fs, ex, ea, l, q⟩ => ?_) ht
  subst ex
  obtain rfl : u = Value.ref a := rx
  refine getmeth_ok I1 ea c hm l ?_
  exact PySem.W.callWith_K0 (first := [.ref a]) I1.kIn hm.kp (wpAny_call (run_fnR (us := [.ref a]) (vs := [.ref a]) F hr hx I1 (.cons rfl .nil) q))
theorem pe_m0 {pl : Sem Bool} (G : MFn X.prog X.w X.K X.mg X.base CX0 k C m sp) (c : Cls X.K C) (hr : Room k X.A) (he : PE X o ta)
    (ht : eval (.Call (.Attribute o m apos) [] [] pos) X.env = (do
      let ov ← eval o X.env
      standAt apos.atName
      let (f, first) ← holding [ov] (getMethod ov m pl)
      callWith pos f first (backTo pos (starEach [] X.env)) (backToKw pos (keywordEach [] X.env))) := by rfl) :
    PE X (.Call (.Attribute o m apos) [] [] pos) (tM C m sp E0 ta tNil) := pe_mX0 G c hr pass0 he ht
theorem pe_gint {n : Int} (h : ∃ t, X.mg x = some (.int n t)) (hg : Gl X x := by rfl) (hd : (x == ("__debug__" : Str)) = false := by decide) : PE X (.Name x pos) (tC (.int n)) := by
  obtain ⟨t, h⟩ := h
  exact pe_glob hg h ⟨_, rfl⟩ hd
theorem pe_gstr {z : Str} (h : ∃ t, X.mg x = some (.str z t)) (hg : Gl X x := by rfl) (hd : (x == ("__debug__" : Str)) = false := by decide) : PE X (.Name x pos) (tC (.str z)) := by
  obtain ⟨t, h⟩ := h
  exact pe_glob hg h ⟨_, rfl⟩ hd
end
theorem op_ownR {X : Cx} {op : Operator} {C f : Addr} {m : Str} {CX : CXT} {k : Nat} {sp : Sp} {E : XK} (hc : PySem.W.selfFirst X.K C = true) (M : Meth X.K C m f) (F : FnR X.prog X.w X.K X.mg X.base CX k f sp) (hr : Room k X.A) (hx : Passes CX X E) (hm : PySem.dunder op.info.2 = m := by rfl) :
    OpR X (binaryOp op) (fun x y H Q => ∃ a b dx dy fs gs, x = .ref a ∧ y = .ref b ∧ H a = some (.ins C dx fs) ∧ H b = some (.ins C dy gs) ∧ sp [.ref a, .ref b] H Q E) := by
  subst hm
  rintro pins s σ H x y u v Q I rx ry ⟨a, b, dx, dy, fs, gs, rfl, rfl, ea, eb, h⟩
  obtain rfl : u = Value.ref a := rx
  obtain rfl : v = Value.ref b := ry
  obtain ⟨mA, O, _⟩ := ins_get I.hok ea
  obtain ⟨mB, O', _⟩ := ins_get I.hok eb
  obtain ⟨od, ia, _⟩ := O.look
  obtain ⟨od', ib, _⟩ := O'.look
  obtain ⟨mm, fr⟩ := I.fr
  refine PySem.W.binop_K fr I.mod.kin ia ib.type hc M.at_ M.fn ?_
  refine thn (wpAny_call (run_fnR (us := [.ref a, .ref b]) (vs := [.ref a, .ref b]) F hr hx I (.cons rfl (.cons rfl .nil)) h)) fun r s' hq => ?_
  obtain ⟨z, H', I', rz, q⟩ := hq
  exact notNI rz ⟨z, H', I', rz, q⟩
structure SDef (K : PySem.W.Frag) (mg : Str → Option Value) (C : Addr) (x qual : Str) (st : Stmt) (p1 pv : Str) : Prop where
  ex : ∃ f fd, Fun K "__init__" qual st f fd ∧ Mk K C f ∧ mg x = some (.ref C) ∧ ∀ us rest : List Value, us.length = [p1].length → bindArgs fd ⟨us ++ rest, []⟩ = (newTuple rest >>= fun t => pure ([p1].zip us ++ [(pv, t)]))
theorem SDef.fn0 {P : Program} {w : World} {K : PySem.W.Frag} {mg : Str → Option Value} {base : Heap} {k : Nat} {C : Addr} {x qual p1 pv : Str} {st : Stmt} {N : List Str} {sp : Sp} (D : SDef K mg C x qual st p1 pv) (S : FnScope N [p1, pv] (defScope st))
    (hbody : ∀ (f : Addr) (cdv : Value) (A : Around) (outer : List Env) (s : Shared) (H : Hp) (vs : List V) (Q : VK) (E : XK), Room k (A.deeper (envOfC qual (defScope st) s.heap.objs.size f cdv)) → sp vs H Q E →
      ∃ t, PSs (cxOf CX0 P w K mg base N qual (defScope st) f cdv A outer s H E).nox (defBody st) t ∧ t { nx := fun _ H' => Q .non H', rt := Q } (start N vs) H) :
    IFn P w K mg base CX0 (k + 1) C x (fun vs H Q E => ∃ v rest, vs = v :: rest ∧ rest.length ≤ sizeLine ∧ ∀ p, H p = Option.none → sp [v, V.ref p] (upd H p (.tup rest)) Q E) := by
  obtain ⟨f, fd, F, M, hm, hb⟩ := D.ex
  obtain ⟨oc, od, kV, doc, pm, an, cdv, ct, osl, rfl, lk, hcd⟩ := F.ex
  refine ⟨f, (fn_star (ps := [p1]) (pv := pv) (sp := sp) lk hcd S cxUp_none hb fun A outer s H vs Q E hr hsp => ?_).imp fun vs H Q E h => ?_, M, hm⟩
  · obtain ⟨t, h, q⟩ := hbody f cdv A outer s H vs Q E hr hsp
    exact ⟨t, h.nox, q⟩
  · obtain ⟨v, rest, rfl, hl, q⟩ := h
    exact ⟨[v], rest, rfl, rfl, hl, q⟩
end MF
set_option Elab.async false
set_option linter.all false
set_option maxRecDepth 100000
set_option maxHeartbeats 1000000
namespace MF
open PySem PySem.Spec PyProof.Rows L2 StX
section
variable {X : Cx} {pins : List (Addr × Obj)} {σ : L2.St} {H : Hp} {s : Shared} {CX : CXT} {k : Nat} {C f : Addr} {sp : Sp} {E : XK}
theorem run_in1 {us : List Value} {vs : List V} {Q : VK} (F : FnR X.prog X.w X.K X.mg X.base CX k f sp) (hr : Room (k + 1) X.A) (hx : Passes CX X E) (I : Inv X pins σ H s) (r : Vals vs us) (h : sp vs H Q E) : wpAny (model X.prog X.w) X.A.in1 (call (.ref f) us) (EP X pins σ Q) X.xe s := by
  have e0 := I.env0
  refine wpAny_call (codeAny_mono (F X.A.in1 X.stack s H us vs Q E hr.in1 ⟨e0.frames, e0.mod, e0.bs, e0.bsz, e0.funs, e0.frf, e0.hok, e0.bare⟩ r h) fun r s' hq => ?_)
  cases r with
  | error e => exact hx pins σ H s e s' I hq
  | ok fl =>
    cases fl with
    | ret u => exact I.after hq
    | next => exact False.elim hq
    | brk => exact False.elim hq
    | cont => exact False.elim hq
def rLenO (C : Addr) (sp : Sp) (E : XK) : List V → Hp → VK → Prop := fun xs H Q => ∃ a dx fs, xs = [.ref a] ∧ H a = some (.ins C dx fs) ∧ sp [.ref a] H (fun v H' => ∃ n : Nat, v = .int (n : Int) ∧ (n : Int) < 2 ^ 63 ∧ Q (.int (n : Int)) H') E
theorem cr_lenO (M : Meth X.K C "__len__" f) (F : FnR X.prog X.w X.K X.mg X.base CX k f sp) (hr : Room (k + 1) X.A) (hx : Passes CX X E) : CallR X (.builtin "len") (rLenO C sp E) := by
  rintro pins s σ H xs us Q I r ⟨a, dx, fs, rfl, ea, h⟩
  rw [Vals.ref1 r]
  obtain ⟨mA, O, _⟩ := ins_get I.hok ea
  obtain ⟨od, ia, _⟩ := O.look
  obtain ⟨mm, fr⟩ := I.fr
  refine PySem.W.len_K fr I.mod.kin ia M.at_ M.fn ?_
  refine thn (run_in1 (us := [.ref a]) (vs := [.ref a]) F hr hx I (.cons rfl .nil) h) fun r s' hq => ?_
  obtain ⟨z, H', I', rz, n, rfl, hn, q⟩ := hq
  obtain ⟨t, rfl⟩ := rz
  exact ⟨⟨by omega, hn⟩, .int n, H', I'.tok _, ⟨_, rfl⟩, q⟩
def rIxO (C : Addr) (sp : Sp) (E : XK) : R2 := fun x y H Q => ∃ a dx fs, x = .ref a ∧ H a = some (.ins C dx fs) ∧ sp [.ref a, y] H Q E
theorem pe_ixO {a b : Expr} {ta tb : TE} {pos : Pos} (M : Meth X.K C "__getitem__" f) (F : FnR X.prog X.w X.K X.mg X.base CX k f sp) (hr : Room (k + 1) X.A) (hx : Passes CX X E) (hfi : PySem.W.fnIn X.K f = true) (ha : PE X a ta) (hb : PE X b tb)
    (hsl : ∀ o i, subscripted b true o i = runValue (.builtin "lifetime.subscript" ⟨[o, i], []⟩)) : PE X (.Subscript a b pos) (tOp (rIxO C sp E) ta tb) := by
  refine ⟨fun pins s σ H Q I h => ?_⟩
  refine Subscript_ (binT ha hb I h fun v u s2 x y H2 I2 rx ry q => ?_)
  obtain ⟨c, dx, fs, rfl, ec, q⟩ := q
  obtain rfl : v = Value.ref c := rx
  obtain ⟨mA, O, _⟩ := ins_get I2.hok ec
  obtain ⟨od, ia, _⟩ := O.look
  obtain ⟨mm, fr⟩ := I2.fr
  refine PySem.W.sub_K fr I2.mod.kin ia M.at_ hfi M.fn ?_ (hsl _ _)
  exact run_in1 (us := [.ref c, u]) (vs := [.ref c, y]) F hr hx I2 (.cons rfl (.cons ry .nil)) q
end
end MF
set_option Elab.async false
set_option linter.all false
set_option maxRecDepth 100000
set_option maxHeartbeats 1000000
namespace MF
open PySem PySem.Spec PyProof.Rows L2 StX

theorem Same.tup {K : PySem.W.Frag} {H H' : Hp} {a : Addr} {xs : List V} (e : Same H H') (h : SqT K H a xs) : SqT K H' a xs := by
  rcases h with (h | ⟨o, h⟩) | h
  · exact .inl (.inl (e _ _ h))
  · exact .inl (.inr ⟨o, e _ _ h⟩)
  · exact .inr h
theorem Same.upd {H H' : Hp} {p : Addr} {o : HO} (e : Same H H') (h : H' p = none) : Same H (L2.upd H' p o) := fun b u q => by
  rw [upd_ne (ne_of_none (e b u q) h)]
  exact e b u q
theorem Same.new {H : Hp} {p : Addr} {o : HO} (h : H p = none) : Same H (L2.upd H p o) := Same.upd (Same.refl H) h
theorem tyT {K : PySem.W.Frag} {H : Hp} {a : Addr} {xs : List V} (h : SqT K H a xs) : TyX K H (.ref a) (.type "tuple") := by
  rcases h with (h | ⟨o, h⟩) | ⟨o, its, n, e, c, _⟩
  · exact .base (.tup h)
  · exact .fTuple h
  · exact .kTuple e c
theorem tyL {K : PySem.W.Frag} {H : Hp} {a : Addr} {xs : List V} (h : SqL K H a xs) : TyX K H (.ref a) (.type "list") := by
  rcases h with (h | ⟨o, h⟩) | ⟨o, its, n, e, c, _⟩
  · exact .base (.lst h)
  · exact .base (.frz h)
  · exact .kList e c
def tyN : V → String
  | .non => "NoneType"
  | .bl _ => "bool"
  | .int _ => "int"
  | .str _ => "str"
  | _ => ""
theorem ty_flat {K : PySem.W.Frag} {H : Hp} : ∀ {v : V}, notSeq v = true → TyX K H v (.type (tyN v))
  | .non, _ => .base .non
  | .bl b, _ => .base (.bl b)
  | .int i, _ => .base (.int i)
  | .str x, _ => .base (.str x)
theorem isi_flat {K : PySem.W.Frag} {v : V} {T : String} (h : notSeq v = true) (b : Bool) (hb : ∀ w, notSeq w = true → tyN w = tyN v → kitB (tyN w) T = some b) : PySem.W.kitOne K (.type (tyN v)) (.type T) = some b := kit_ty (hb v h rfl)

theorem kt_int_int {K : PySem.W.Frag} : PySem.W.kitOne K (.type "int") (.type "int") = some true := kit_ty (by decide +kernel)
theorem kt_int_bool {K : PySem.W.Frag} : PySem.W.kitOne K (.type "int") (.type "bool") = some false := kit_ty (by decide +kernel)
theorem kt_int_str {K : PySem.W.Frag} : PySem.W.kitOne K (.type "int") (.type "str") = some false := kit_ty (by decide +kernel)
theorem kt_int_tuple {K : PySem.W.Frag} : PySem.W.kitOne K (.type "int") (.type "tuple") = some false := kit_ty (by decide +kernel)
theorem kt_int_list {K : PySem.W.Frag} : PySem.W.kitOne K (.type "int") (.type "list") = some false := kit_ty (by decide +kernel)
theorem kt_bool_int {K : PySem.W.Frag} : PySem.W.kitOne K (.type "bool") (.type "int") = some true := kit_ty (by decide +kernel)
theorem kt_bool_bool {K : PySem.W.Frag} : PySem.W.kitOne K (.type "bool") (.type "bool") = some true := kit_ty (by decide +kernel)
theorem kt_bool_str {K : PySem.W.Frag} : PySem.W.kitOne K (.type "bool") (.type "str") = some false := kit_ty (by decide +kernel)
theorem kt_bool_tuple {K : PySem.W.Frag} : PySem.W.kitOne K (.type "bool") (.type "tuple") = some false := kit_ty (by decide +kernel)
theorem kt_bool_list {K : PySem.W.Frag} : PySem.W.kitOne K (.type "bool") (.type "list") = some false := kit_ty (by decide +kernel)
theorem kt_NoneType_int {K : PySem.W.Frag} : PySem.W.kitOne K (.type "NoneType") (.type "int") = some false := kit_ty (by decide +kernel)
theorem kt_NoneType_bool {K : PySem.W.Frag} : PySem.W.kitOne K (.type "NoneType") (.type "bool") = some false := kit_ty (by decide +kernel)
theorem kt_NoneType_str {K : PySem.W.Frag} : PySem.W.kitOne K (.type "NoneType") (.type "str") = some false := kit_ty (by decide +kernel)
theorem kt_NoneType_tuple {K : PySem.W.Frag} : PySem.W.kitOne K (.type "NoneType") (.type "tuple") = some false := kit_ty (by decide +kernel)
theorem kt_NoneType_list {K : PySem.W.Frag} : PySem.W.kitOne K (.type "NoneType") (.type "list") = some false := kit_ty (by decide +kernel)
theorem kt_str_int {K : PySem.W.Frag} : PySem.W.kitOne K (.type "str") (.type "int") = some false := kit_ty (by decide +kernel)
theorem kt_str_bool {K : PySem.W.Frag} : PySem.W.kitOne K (.type "str") (.type "bool") = some false := kit_ty (by decide +kernel)
theorem kt_str_str {K : PySem.W.Frag} : PySem.W.kitOne K (.type "str") (.type "str") = some true := kit_ty (by decide +kernel)
theorem kt_str_tuple {K : PySem.W.Frag} : PySem.W.kitOne K (.type "str") (.type "tuple") = some false := kit_ty (by decide +kernel)
theorem kt_str_list {K : PySem.W.Frag} : PySem.W.kitOne K (.type "str") (.type "list") = some false := kit_ty (by decide +kernel)
theorem kt_tuple_int {K : PySem.W.Frag} : PySem.W.kitOne K (.type "tuple") (.type "int") = some false := kit_ty (by decide +kernel)
theorem kt_tuple_bool {K : PySem.W.Frag} : PySem.W.kitOne K (.type "tuple") (.type "bool") = some false := kit_ty (by decide +kernel)
theorem kt_tuple_str {K : PySem.W.Frag} : PySem.W.kitOne K (.type "tuple") (.type "str") = some false := kit_ty (by decide +kernel)
theorem kt_tuple_tuple {K : PySem.W.Frag} : PySem.W.kitOne K (.type "tuple") (.type "tuple") = some true := kit_ty (by decide +kernel)
theorem kt_tuple_list {K : PySem.W.Frag} : PySem.W.kitOne K (.type "tuple") (.type "list") = some false := kit_ty (by decide +kernel)
theorem kt_list_int {K : PySem.W.Frag} : PySem.W.kitOne K (.type "list") (.type "int") = some false := kit_ty (by decide +kernel)
theorem kt_list_bool {K : PySem.W.Frag} : PySem.W.kitOne K (.type "list") (.type "bool") = some false := kit_ty (by decide +kernel)
theorem kt_list_str {K : PySem.W.Frag} : PySem.W.kitOne K (.type "list") (.type "str") = some false := kit_ty (by decide +kernel)
theorem kt_list_tuple {K : PySem.W.Frag} : PySem.W.kitOne K (.type "list") (.type "tuple") = some false := kit_ty (by decide +kernel)
theorem kt_list_list {K : PySem.W.Frag} : PySem.W.kitOne K (.type "list") (.type "list") = some true := kit_ty (by decide +kernel)
def isIntB : V → Int → Int → Bool
  | .int i, lo, hi => decide (lo ≤ i) && decide (i ≤ hi)
  | _, _, _ => false
def letters : Str := "abcdefghijklmnopqrstuvwxyz"
def isAddrB : V → Bool
  | .str z => decide (1 ≤ z.length) && decide (z.length ≤ 8) && z.cps.toList.all fun c => decide (c ∈ letters.cps.toList)
  | _ => false
structure Ordr where
  src : Str
  tgt : Str
  first : Int
  last : Int
  way : Int
  deriving DecidableEq
def Ordr.vals (o : Ordr) : List V := [.str o.src, .str o.tgt, .int o.first, .int o.last, .int o.way]
def OrdAt (K : PySem.W.Frag) (H : Hp) (a : Addr) (o : Ordr) : Prop := SqT K H a o.vals
theorem OrdAt.mono {K : PySem.W.Frag} {H H' : Hp} {a : Addr} {o : Ordr} (h : OrdAt K H a o) (e : Same H H') : OrdAt K H' a o := MF.Same.tup e h
def overB (o p : Ordr) : Bool := decide (o.src = p.src) && (decide (o.first ≤ p.last) && decide (p.first ≤ o.last))
def isOrdB : List V → Bool
  | [s, t, f, l, w] => (isAddrB s && isAddrB t && !decide (s = t)) && ((isIntB l 0 1000000000000000000 && (match l with | .int i => isIntB f 0 i | _ => false)) && isIntB w 1 30)
  | _ => false
structure Ordr.Ok (o : Ordr) : Prop where
  as : isAddrB (.str o.src) = true
  at_ : isAddrB (.str o.tgt) = true
  ne : o.src ≠ o.tgt
  f0 : 0 ≤ o.first
  fl : o.first ≤ o.last
  lm : o.last ≤ 1000000000000000000
  w1 : 1 ≤ o.way
  w30 : o.way ≤ 30
theorem Ordr.Ok.b {o : Ordr} (h : o.Ok) : isOrdB o.vals = true := by
  obtain ⟨a, b, c, d, e, f, g, k⟩ := h
  have c' : decide (V.str o.src = V.str o.tgt) = false := decide_eq_false fun q => c (V.str.inj q)
  unfold isOrdB Ordr.vals
  simp only [a, b, c', isIntB, Bool.and_true, Bool.true_and, Bool.not_false]
  simp [d, e, f, g, k]
  omega

theorem iteD {c A B : Prop} [Decidable c] (hc : c) (h : A) : if decide c = true then A else B := by
  rw [if_pos (decide_eq_true hc)]
  exact h
theorem iteDN {c A B : Prop} [Decidable c] (hc : ¬ c) (h : B) : if decide c = true then A else B := by
  rw [if_neg (by rw [decide_eq_false hc]; exact Bool.false_ne_true)]
  exact h
theorem iteND {c A B : Prop} [Decidable c] (hc : c) (h : B) : if (!decide c) = true then A else B := by
  rw [decide_eq_true hc]
  exact iteF h
theorem iteNDN {c A B : Prop} [Decidable c] (hc : ¬ c) (h : A) : if (!decide c) = true then A else B := by
  rw [decide_eq_false hc]
  exact iteT h
theorem yesT {σ : L2.St} {H : Hp} {Q : Bool → Hp → Prop} (h : Q true H) : tYes σ H Q := h
theorem Paired.get {α β : Type} {R : α → β → Prop} : ∀ {l : List α} {r : List β} {i : Nat} {a : α}, Paired R l r → l[i]? = some a → ∃ b, r[i]? = some b ∧ R a b
  | _, _, _, _, .nil, e => by simp at e
  | _, _, 0, _, .cons h _, e => by simp at e; subst e; exact ⟨_, rfl, h⟩
  | _, _, i + 1, _, .cons _ t, e => by
    obtain ⟨b, h1, h2⟩ := Paired.get (i := i) t (by simpa using e)
    exact ⟨b, by simpa using h1, h2⟩
theorem Paired.append {α β : Type} {R : α → β → Prop} : ∀ {l l' : List α} {r r' : List β}, Paired R l r → Paired R l' r' → Paired R (l ++ l') (r ++ r')
  | _, _, _, _, .nil, h => h
  | _, _, _, _, .cons a t, h => .cons a (Paired.append t h)
def OrdsAt (K : PySem.W.Frag) (H : Hp) (as : List Addr) (os : List Ordr) : Prop := Paired (OrdAt K H) as os
theorem OrdsAt.mono {K : PySem.W.Frag} {H H' : Hp} {as : List Addr} {os : List Ordr} (h : OrdsAt K H as os) (e : Same H H') : OrdsAt K H' as os := PySem.Paired.mono (fun _ _ q => OrdAt.mono q e) h
structure Good (os : List Ordr) : Prop where
  len : os.length ≤ 30
  ok : ∀ o ∈ os, o.Ok
  apart : os.Pairwise fun o p => overB o p = false
def BookAt (K : PySem.W.Frag) (C : Addr) (H : Hp) (p : Addr) (os : List Ordr) : Prop :=
  ∃ dx t as, H p = some (.ins C dx [("listed", .ref t)]) ∧ SqT K H t (as.map V.ref) ∧ OrdsAt K H as os
theorem BookAt.mono {K : PySem.W.Frag} {C : Addr} {H H' : Hp} {p : Addr} {os : List Ordr} (h : BookAt K C H p os) (e : Same H H') : BookAt K C H' p os := by
  obtain ⟨dx, t, as, h1, h2, h3⟩ := h
  exact ⟨dx, t, as, e _ _ h1, MF.Same.tup e h2, h3.mono e⟩
theorem cut_take (xs : List V) (i : Nat) (h : i ≤ xs.length) : cutV xs none (some (i : Int)) = xs.take i := by
  unfold cutV
  rw [HT.sIx_none, HT.sIx_nat, Nat.min_eq_left h]
  simp
theorem ix_listK {X : Cx} {K : PySem.W.Frag} (h : X.K = K := by rfl) : IxR X (rIxL K) := h ▸ ix_list
theorem ix_seqK {X : Cx} {K : PySem.W.Frag} (h : X.K = K := by rfl) : IxR X (rIx K) := h ▸ ix_seq
theorem ix_tupK {X : Cx} {K : PySem.W.Frag} (h : X.K = K := by rfl) : IxR X (rIxT K) := h ▸ ix_tup
theorem pe_fldK {X : Cx} {K : PySem.W.Frag} {e : Expr} {ta : TE} {f : Str} {pos : Pos} (he : PE X e ta) (hb : attributeBase e f X.env (eval e X.env) = eval e X.env) (h : X.K = K := by rfl) : PE X (.Attribute e f pos) (tFld K ta f) := h ▸ pe_fld he hb
def spIsInteger : Sp := fun vs H Q _ => ∃ v lo hi, vs = [v, .int lo, .int hi] ∧ notSeq v = true ∧ Q (.bl (isIntB v lo hi)) H
def shortV : V → Prop
  | .str z => z.length ≤ sizeLine
  | _ => True
def spIsAddress : Sp := fun vs H Q _ => ∃ v, vs = [v] ∧ notSeq v = true ∧ shortV v ∧ ∀ H', Same H H' → Q (.bl (isAddrB v)) H'
def spOverlap (K : PySem.W.Frag) : Sp := fun vs H Q _ => ∃ a b o p, vs = [.ref a, .ref b] ∧ OrdAt K H a o ∧ OrdAt K H b p ∧ Q (.bl (overB o p)) H
def spIsOrder (K : PySem.W.Frag) : Sp := fun vs H Q _ => ∃ v b, vs = [v] ∧ ((∃ a xs, v = .ref a ∧ SqT K H a xs ∧ (∀ x ∈ xs, notSeq x = true ∧ shortV x) ∧ b = isOrdB xs) ∨ (∃ a xs, v = .ref a ∧ SqL K H a xs ∧ b = false) ∨ (notSeq v = true ∧ b = false)) ∧ ∀ H', Same H H' → Q (.bl b) H'
end MF
set_option Elab.async false
set_option linter.all false
namespace MF
open PySem PySem.Spec PyProof.Rows L2 StX
theorem newS {H H2 : Hp} {q : Addr} {o : HO} (h : H q = none) (e : L2.upd H q o = H2) : Same H H2 ∧ H2 q = some o := by
  subst e
  exact ⟨Same.new h, upd_same⟩
end MF
set_option Elab.async false
set_option linter.all false
set_option maxRecDepth 100000
set_option maxHeartbeats 1000000
namespace MF
open PySem PySem.Spec PyProof.Rows L2 StX ClX
structure PDef (K : PySem.W.Frag) (C : Addr) (m qual : Str) (st : Stmt) (ps : List Str) : Prop where
  ex : ∃ p f fd, Fun K m qual st f fd ∧ PropOf K C m p f ∧ Binds K fd ps []
structure PFn (P : Program) (w : World) (K : PySem.W.Frag) (mg : Str → Option Value) (base : Heap) (CX : CXT) (k : Nat) (C : Addr) (m : Str) (sp : Sp) : Prop where
  ex : ∃ p f fd ps, FnOk P w K mg base CX k f fd ps sp ∧ PropOf K C m p f ∧ Binds K fd ps []
theorem PDef.fn {P : Program} {w : World} {K : PySem.W.Frag} {mg : Str → Option Value} {base : Heap} {CX : CXT} {k : Nat} {C : Addr} {m qual : Str} {st : Stmt} {ps : List Str} {sp : Sp} (D : PDef K C m qual st ps) (h : ∀ f fd, Fun K m qual st f fd → FnOk P w K mg base CX k f fd ps sp) : PFn P w K mg base CX k C m sp :=
  let ⟨p, f, fd, a, b, c⟩ := D.ex
  ⟨p, f, fd, ps, h f fd a, b, c⟩
theorem pe_pr {X : Cx} {k : Nat} {C : Addr} {m : Str} {sp : Sp} {e : Expr} {ta : TE} {pos : Pos} (G : PFn X.prog X.w X.K X.mg X.base CX0 k C m sp) (c : Cls X.K C) (hr : Room (k + 1) X.A) (he : PE X e ta) (hab : attributeBase e m X.env (eval e X.env) = eval e X.env := by rfl) : PE X (.Attribute e m pos) (tProp C sp [] E0 ta) := by
  obtain ⟨p, f, fd, ps, F, hp, hb⟩ := G.ex
  exact pe_prop he c hp F hr hb .nil pass0 hab
structure CDef (K : PySem.W.Frag) (C : Addr) (m qual : Str) (st : Stmt) (ps : List Str) (pv : Str) : Prop where
  ex : ∃ mc p f fd, Fun K m qual st f fd ∧ CRead K C mc ∧ CMet K C mc m p f ∧ ∀ us rest : List Value, us.length = ps.length → bindArgs fd ⟨us ++ rest, []⟩ = (newTuple rest >>= fun t => pure (ps.zip us ++ [(pv, t)]))
structure CFn (P : Program) (w : World) (K : PySem.W.Frag) (mg : Str → Option Value) (base : Heap) (CX : CXT) (k : Nat) (C : Addr) (m : Str) (sp : Sp) : Prop where
  ex : ∃ mc p f, FnR P w K mg base CX k f sp ∧ CRead K C mc ∧ CMet K C mc m p f
theorem CDef.fn0 {P : Program} {w : World} {K : PySem.W.Frag} {mg : Str → Option Value} {base : Heap} {k : Nat} {C : Addr} {m qual pv : Str} {ps : List Str} {st : Stmt} {N : List Str} {sp : Sp} (D : CDef K C m qual st ps pv) (S : FnScope N (ps ++ [pv]) (defScope st))
    (hbody : ∀ (f : Addr) (cdv : Value) (A : Around) (outer : List Env) (s : Shared) (H : Hp) (vs : List V) (Q : VK) (E : XK), Room k (A.deeper (envOfC qual (defScope st) s.heap.objs.size f cdv)) → sp vs H Q E →
      ∃ t, PSs (cxOf CX0 P w K mg base N qual (defScope st) f cdv A outer s H E).nox (defBody st) t ∧ t { nx := fun _ H' => Q .non H', rt := Q } (start N vs) H) :
    CFn P w K mg base CX0 (k + 1) C m (fun vs H Q E => ∃ ws rest, vs = ws ++ rest ∧ ws.length = ps.length ∧ rest.length ≤ sizeLine ∧ ∀ p, H p = Option.none → sp (ws ++ [V.ref p]) (upd H p (.tup rest)) Q E) := by
  obtain ⟨mc, p, f, fd, F, R, M, hb⟩ := D.ex
  obtain ⟨oc, od, kV, doc, pm, an, cdv, ct, osl, rfl, lk, hcd⟩ := F.ex
  refine ⟨mc, p, f, fn_star (ps := ps) (pv := pv) (sp := sp) lk hcd S cxUp_none hb fun A outer s H vs Q E hr hsp => ?_, R, M⟩
  obtain ⟨t, h, q⟩ := hbody f cdv A outer s H vs Q E hr hsp
  exact ⟨t, h.nox, q⟩
theorem bind_star4 {B : List Value → Sem (List (Str × Value))} {p1 p2 p3 p4 pv : Str} (h0 : ∀ a b c d, B [a, b, c, d] = (newTuple [] >>= fun t => pure [(p1, a), (p2, b), (p3, c), (p4, d), (pv, t)])) (h1 : ∀ a b c d r rs, B (a :: b :: c :: d :: r :: rs) = (newTuple (r :: rs) >>= fun t => pure [(p1, a), (p2, b), (p3, c), (p4, d), (pv, t)])) :
    ∀ us rest : List Value, us.length = [p1, p2, p3, p4].length → B (us ++ rest) = (newTuple rest >>= fun t => pure ([p1, p2, p3, p4].zip us ++ [(pv, t)])) := by
  intro us rest hl
  match us, hl with
  | [a, b, c, d], _ =>
    cases rest with
    | nil => exact h0 a b c d
    | cons r rs => exact h1 a b c d r rs
theorem pe_cm {X : Cx} {k : Nat} {C : Addr} {m : Str} {sp : Sp} {o e : Expr} {es : List Expr} {ta : TE} {t : TA} {pos apos : Pos} {pl : Sem Bool} (G : CFn X.prog X.w X.K X.mg X.base CX0 k C m sp) (hr : Room k X.A) (he : PE X o ta) (ha : PA X (e :: es) t)
    (hst : starEach (e :: es) X.env = (false, eval e X.env) :: starEach es X.env := by rfl) (hpl : (backTo pos (starEach es X.env)).any (·.1) = false := by rfl)
    (ht : eval (.Call (.Attribute o m apos) (e :: es) [] pos) X.env = (do
      let ov ← eval o X.env
      standAt apos.atName
      let (f, first) ← holding [ov] (getMethod ov m pl)
      callWith pos f first (backTo pos (starEach (e :: es) X.env)) (backToKw pos (keywordEach [] X.env))) := by rfl) :
    PE X (.Call (.Attribute o m apos) (e :: es) [] pos) (tCMeth C sp E0 ta t) := by
  obtain ⟨mc, p, f, F, R, M⟩ := G.ex
  exact pe_cmeth he R M F hr pass0 ha hst hpl ht
def tMkL (i : Nat) (C : Addr) (sp : Sp) (E : XK) (t : TA) : TE := fun σ H Q => σ[i]? = some (some (.ref C)) ∧ tMakeR C sp E t σ H Q
theorem pe_mkSL {X : Cx} {CX : CXT} {k i : Nat} {C : Addr} {x y : Str} {sp : Sp} {E : XK} {e : Expr} {te : TE} {p pos sp_ : Pos} (G : IFn X.prog X.w X.K X.mg X.base CX k C y sp) (hr : Room (k + 1) X.A) (hx : Passes CX X E) (hN : X.N[i]? = some x) (hv : Vis X.env.scope x) (he : PE X e te)
    (hdb : (x == ("__debug__" : Str)) = false := by decide) (hcd : (x == ("__classdict__" : Str)) = false := by decide)
    (hst : starEach [.Starred e sp_] X.env = [(true, eval e X.env)] := by rfl) : PE X (.Call (.Name x p) [.Starred e sp_] [] pos) (tMkL i C sp E (tStar X.K te tNil)) := by
  obtain ⟨f, F, M, hm⟩ := G.ex
  refine ⟨fun pins s σ H Q I h => ?_⟩
  obtain ⟨hs, ht⟩ := h
  refine wpAny_Call_Name_kw (thn ((pe_var (pos := p) hN hv hdb hcd).run pins s σ H (fun v H1 => v = .ref C ∧ H1 = H) I ⟨.ref C, hs, rfl, rfl⟩) fun u s1 ⟨v, H1, I1, r1, q1⟩ => ?_)
  obtain ⟨rfl, rfl⟩ := q1
  cases r1
  refine PySem.W.callWith_S (h₀ := X.base) I.ok.mod.kin M.kp (thn (he.run pins s1 σ _ _ I1 ht) fun v s1 ⟨y, H1, I1, ry, a, xs, ey, hxs, q⟩ => ?_) hst
  subst ey
  obtain rfl : v = Value.ref a := ry
  refine star_any I1 hxs fun us s2 I2 rv => ⟨I2.kIn, run_makeR M F hr hx I2 rv ?_⟩
  have q' : ∀ x dx, H1 x = none → H1 dx = none → dx ≠ x → sp (V.ref x :: (xs ++ [])) (upd (upd H1 dx (.own x)) x (.ins C dx [])) (fun v H2 => v = .non ∧ Q (.ref x) H2) E := q
  rw [List.append_nil] at q'
  exact q'
end MF
set_option Elab.async false
set_option linter.all false
set_option maxRecDepth 100000
set_option maxHeartbeats 2000000
namespace MF
open PySem PySem.Spec PyProof.Rows L2 StX ClX
theorem passE {P : Program} {w : World} {K : PySem.W.Frag} {mg : Str → Option Value} {base : Heap} {N : List Str} {q : Str} {sc : Scope} {f : Addr} {cdv : Value} {A : Around} {outer : List Env} {s : Shared} {H : Hp} {E : XK} :
    Passes (L2.CX P w) (cxOf (L2.CX P w) P w K mg base N q sc f cdv A outer s H E) E := passes_call (W := fun cls d _ H => E cls d H) (takes_of rfl rfl rfl rfl) fun _ _ _ _ h => h
theorem takeE {P : Program} {w : World} {K : PySem.W.Frag} {mg : Str → Option Value} {base : Heap} {N : List Str} {q : Str} {sc : Scope} {f : Addr} {cdv : Value} {A : Around} {outer : List Env} {s : Shared} {H : Hp} {E : XK} :
    Takes (cxOf (L2.CX P w) P w K mg base N q sc f cdv A outer s H E) (fun cls d _ H => E cls d H) := takes_of rfl rfl rfl rfl
def txtOf : V → Str
  | .str y => y
  | .int i => toString i
  | .bl b => if b then "True" else "False"
  | _ => "None"
def FmtOk : V → Prop
  | .str y => y.length ≤ 1000
  | .int i => i.natAbs.log2 < 1920
  | .bl _ => True
  | .non => True
  | _ => False
def tFmtV (te : TE) : TE := fun σ H Q => te σ H fun x H1 => FmtOk x ∧ ∀ y : Str, y.length ≤ 100000 → Q (.str y) H1
theorem int_len (i : Int) (h : i.natAbs.log2 < 1920) : (Str.ofString (toString i)).length ≤ 100000 := by
  have e := int_text_length_le (k := 1920) (by decide) h
  rw [PySem.ofString_length]
  omega
section
variable {X : Cx}
theorem pe_fmtV {e : Expr} {te : TE} {pos : Pos} (he : PE X e te) : PE X (.FormattedValue e (-1) none pos) (tFmtV te) := by
  refine ⟨fun pins s σ H Q I h => ?_⟩
  refine wpAny_FormattedValue_plain (thn (he.run pins s σ H _ I h) fun v s1 hv => ?_)
  obtain ⟨x, H1, I1, r1, hx, q⟩ := hv
  cases x with
  | str y =>
    obtain ⟨t, rfl⟩ := r1
    have hz : y.length ≤ 1000 := hx
    have hz2 : y.length ≤ sizeLine := Nat.le_trans hz (by rw [sizeLine_eq]; omega)
    exact wpAny_formatField_str ⟨.str y, H1, I1, ⟨t, rfl⟩, q y (by omega)⟩ ⟨.str y, H1, I1.tok _, ⟨_, rfl⟩, q y (by omega)⟩ hz2
  | int i =>
    obtain ⟨t, rfl⟩ := r1
    exact wpAny_formatField_int hx ⟨.str (toString i), H1, I1.tok _, ⟨_, rfl⟩, q _ (int_len i hx)⟩
  | bl b =>
    obtain rfl : v = Value.bool b := r1
    refine wpAny_formatField_bool ⟨.str (if b then "True" else "False"), H1, I1.tok _, ⟨_, rfl⟩, q _ ?_⟩
    cases b <;> decide +kernel
  | non =>
    obtain rfl : v = Value.none := r1
    exact wpAny_formatField_none ⟨.str "None", H1, I1.tok _, ⟨_, rfl⟩, q _ (by decide +kernel)⟩
  | _ => exact hx.elim
structure BaseC (K : PySem.W.Frag) (B : Addr) : Prop where
  ex : ∃ mc, CRead K B mc ∧ PySem.W.findCls K (.ref B) mc "__init__" = some (.val (.builtin "ValueError.__init__"))
theorem pe_binit {pl : Sem Bool} {B : Addr} {x : Str} {e : Expr} {es : List Expr} {ta : TA} {p1 p2 pos : Pos} (hg : Gl X x) (hm : X.mg x = some (.ref B)) (b : BaseC X.K B) (ha : PA X (e :: es) ta) (hdb : (x == ("__debug__" : Str)) = false := by decide)
    (hc : eval (.Call (.Attribute (.Name x p1) "__init__" p2) (e :: es) [] pos) X.env = (do
      let ov ← eval (.Name x p1) X.env
      standAt p2.atName
      let (f, first) ← holding [ov] (getMethod ov "__init__" pl)
      callWith pos f first (backTo pos (starEach (e :: es) X.env)) (backToKw pos (keywordEach [] X.env))) := by rfl)
    (he : starEach (e :: es) X.env = (false, eval e X.env) :: starEach es X.env := by rfl) (hpl : (backTo pos (starEach es X.env)).any (·.1) = false := by rfl) :
    PE X (.Call (.Attribute (.Name x p1) "__init__" p2) (e :: es) [] pos) (tVeI X.K ta) := by
  refine ⟨fun pins s σ H Q I h => ?_⟩
  obtain ⟨mc, r, f0⟩ := b.ex
  refine PySem.W.methodCall_KW (ld_glob I hg hm ?_ hdb) hc
  refine PySem.W.method_cls I.kIn r.ga (PySem.W.cls_value I.kIn r.rd f0 rfl ?_)
  show wpAny _ _ (callWith pos (Value.builtin "ValueError.__init__") [] (backTo pos (starEach (e :: es) X.env)) []) _ _ _
  refine PyProof.Rows.callWith_method1 (thn (ha.run pos pins _ σ H _ (I.tok _) h) fun us s1 ⟨vs, H1, I1, r1, a, C, ws, ev, hl, T, ea, q⟩ => ?_) he hpl
  subst ev
  cases r1 with
  | @cons _ u0 _ ur ra rw' =>
    obtain rfl : u0 = Value.ref a := ra
    have hlen : ur.length ≤ sizeLine := by
      rw [← Paired.length rw', sizeLine_eq]
      omega
    exact oinit_ok T I1 ea hlen fun s' J => ⟨.non, H1, J, rfl, q⟩
end
structure EDef0 (K : PySem.W.Frag) (mg : Str → Option Value) (C : Addr) (x : Str) : Prop where
  bm : PySem.W.excIn K C [.type "ValueError", .type "Exception", .type "BaseException", .type "object"] "ValueError.__new__" = true
  gC : mg x = some (.ref C)
  kC : PySem.W.keepIn K (.ref C) = true
  exC : PySem.W.subIn K (.ref C) (.type "BaseException") = some true
  tyC : PySem.W.typeIn K (.ref C) = some (.type "type")
theorem pmk_0 {X : Cx} {C : Addr} {x : Str} {e : Expr} {es : List Expr} {t : TA} {p pos : Pos} (D : EDef0 X.K X.mg C x) (ha : PA X (e :: es) t) (hg : Gl X x := by rfl) (hdb : (x == ("__debug__" : Str)) = false := by decide)
    (he : starEach (e :: es) X.env = (false, eval e X.env) :: starEach es X.env := by rfl) (hpl : (backTo pos (starEach es X.env)).any (·.1) = false := by rfl) :
    PMk X (.Call (.Name x p) (e :: es) [] pos) (fun σ H Q => t σ H fun vs H1 => vs.length ≤ sizeLine ∧ Q (.ref C) none H1) :=
  pmk_ownA F.excBase_ValueError D.bm D.gC D.kC (raises_own D.exC D.tyC) hg ha hdb he hpl
structure EDef (K : PySem.W.Frag) (mg : Str → Option Value) (C : Addr) (x qual : Str) (st : Stmt) (ps : List Str) : Prop where
  ex : ∃ f fd, Fun K "__init__" qual st f fd ∧ PySem.W.findIn K (.ref C) "__init__" = some (some (.ref f)) ∧ PySem.W.typeIn K (.ref f) = some (.type "function") ∧ Binds K fd ps []
  ox : OexC K C
  gC : mg x = some (.ref C)
structure EFn (P : Program) (w : World) (K : PySem.W.Frag) (mg : Str → Option Value) (base : Heap) (CX : CXT) (k : Nat) (C : Addr) (x : Str) (ps : List Str) (sp : Sp) : Prop where
  ex : ∃ f fd, FnOk P w K mg base CX k f fd ps sp ∧ PySem.W.findIn K (.ref C) "__init__" = some (some (.ref f)) ∧ PySem.W.typeIn K (.ref f) = some (.type "function") ∧ Binds K fd ps []
  ox : OexC K C
  gC : mg x = some (.ref C)
theorem EDef.fn {P : Program} {w : World} {K : PySem.W.Frag} {mg : Str → Option Value} {base : Heap} {CX : CXT} {k : Nat} {C : Addr} {x qual : Str} {st : Stmt} {ps : List Str} {sp : Sp} (D : EDef K mg C x qual st ps) (h : ∀ f fd, Fun K "__init__" qual st f fd → FnOk P w K mg base CX k f fd ps sp) : EFn P w K mg base CX k C x ps sp :=
  let ⟨f, fd, a, b, c, d⟩ := D.ex
  ⟨⟨f, fd, h f fd a, b, c, d⟩, D.ox, D.gC⟩
def spE1 (K : PySem.W.Frag) (C : Addr) (n : Str) : Sp := fun vs H Q _ => ∃ a v, vs = [.ref a, v] ∧ FmtOk v ∧ H a = some (exo a C none) ∧ ∀ dx, H dx = none → dx ≠ a → Q .non (upd (upd H dx (exd dx [(n, v)])) a (exo a C (some dx)))
theorem pmk_1 {X : Cx} {k : Nat} {C : Addr} {x : Str} {ps : List Str} {sp : Sp} {e : Expr} {es : List Expr} {t : TA} {p pos : Pos} (D : EFn X.prog X.w X.K X.mg X.base CX0 k C x ps sp) (hr : Room (k + 1) X.A) (ha : PA X (e :: es) t) (hg : Gl X x := by rfl) (hdb : (x == ("__debug__" : Str)) = false := by decide)
    (he : starEach (e :: es) X.env = (false, eval e X.env) :: starEach es X.env := by rfl) (hpl : (backTo pos (starEach es X.env)).any (·.1) = false := by rfl) :
    PMk X (.Call (.Name x p) (e :: es) [] pos) (tMkO C sp [] t) := by
  obtain ⟨f, fd, F1, b, c, d⟩ := D.ex
  exact pmk_oex (p := p) (pos := pos) (dvs := []) (ds := []) D.ox b c F1 hr d .nil pass0 hg D.gC ha hdb he hpl
theorem e1_fin {K : PySem.W.Frag} {C : Addr} {n : Str} {v : V} {H1 : Hp} {Q : XK} (hf : FmtOk v) (h : ∀ d H3, Same H1 H3 → H1 d = none → H3 d = some (.xd [(n, v)]) → Q (.ref C) (some d) H3) :
    [v].length ≤ 1000 ∧ ∀ a, H1 a = none → spE1 K C n (.ref a :: ([v] ++ [])) (upd H1 a (exo a C none))
      (fun v H2 => v = .non ∧ ∃ (d : Addr) (fs : List (Str × V)), H2 a = some (exo a C (some d)) ∧ H2 d = some (exd d fs) ∧ H1 d = none ∧ Q (.ref C) (some d) (upd (del H2 a) d (.xd fs))) (fun _ _ _ => False) := by
  refine ⟨by simp, fun a ha => ⟨a, v, rfl, hf, upd_same, fun dx hd ne => ⟨rfl, dx, [(n, v)], upd_same, ?_, ?_, ?_⟩⟩⟩
  · rw [upd_ne ne, upd_same]
  · rw [upd_ne ne] at hd
    exact hd
  · have hd1 : H1 dx = none := by
      rw [upd_ne ne] at hd
      exact hd
    refine h dx _ (fun b u e => ?_) hd1 upd_same
    rw [upd_ne (ne_of_none e hd1), del_ne (ne_of_none e ha), upd_ne (ne_of_none e ha), upd_ne (ne_of_none e hd1), upd_ne (ne_of_none e ha)]
    exact e
end MF
namespace PySem.W
open PySem PySem.Spec PySem.Calls PyProof.Rows
section
variable {prog : Program} {w : World} {A : Around} {E : Value → Shared → Prop} {s : Shared} {K : Frag} {x D : Addr} {ox : Obj} {od : Option Obj}
theorem mf_findObj {C : Addr} {name : Str} {a g : Value} (hc : (clsIn K C).isSome = true) (ha : findIn K (.ref C) name = some (some a)) (hg : specialIn K a "__get__" = some (some g)) (ht : takesIn K a = some true) : findObj K C od name = some (.bind g a) := by
  cases od with
  | none => exact findObj_dataN hc ha hg ht
  | some od => exact findObj_data hc ha hg ht
theorem mf_classE {Q : Option Value → Shared → Prop} (hga : findIn K (.ref D) "__getattribute__" = some (some (.builtin "BaseException.__getattribute__"))) (hgt : findIn K (.ref D) "__getattr__" = some none) (hsub : subIn K (.ref D) (.type "BaseException") = some true)
    (hdct : hasDictIn K D = true) (ha : findIn K (.ref D) "__class__" = some (some (.builtin "object.__class__")))
    (hn : specialIn K (.builtin "object.__class__") "__get__" = some (some (.builtin "getset_descriptor.__get__"))) (htk : takesIn K (.builtin "object.__class__") = some true) (hm : mroIn K D (.type "object") = some true)
    (X : K.In s.heap) (I : InstAt s.heap x ox D od) (h : Q (some (.ref D)) { s with toks := s.toks + 1 }) : wpAny (model prog w) A (getAttr? (.ref x) "__class__") Q E s := by
  have hf : findObj K D od "__class__" = some (.bind (.builtin "getset_descriptor.__get__") (.builtin "object.__class__")) := mf_findObj (by obtain ⟨cd, hc, _⟩ := any_some hdct; rw [hc]; rfl) ha hn htk
  obtain ⟨hp, g, d, t, os⟩ := s
  have L0 := I.type (M := model prog w)
  have L1 := looks_findIn (M := model prog w) X hga
  have L2 := looks_findIn (M := model prog w) X hgt
  have L3 := looks_find (M := model prog w) X I hf
  have sub : Looks (model prog w) hp (isInstance (.ref x) (.type "BaseException")) true := L0.andThen (looks_subIn X hsub)
  have hx0 : (false && onTheHeap (Value.builtin "BaseException.__getattribute__")) = false := rfl
  have hx2 : (Value.builtin "BaseException.__getattribute__" == Value.builtin "object.__getattribute__") = false := by decide +kernel
  have hx1 : (onTheHeap (Value.ref D) && Value.builtin "BaseException.__getattribute__" == Value.builtin "object.__getattribute__") = false := by rw [hx2]; rfl
  unfold getAttr? getAttrBy? getAttrBy
  refine wpAny_bind (wpAny_mkText (wpAny_bind (wpAny_attempt (wpAny_holding (wpAny_bind (L0.at (wpAny_bind (L1.at ?_))))))))
  show wpAny _ _ (if (onTheHeap (Value.ref D) && Value.builtin "BaseException.__getattribute__" == Value.builtin "object.__getattribute__") = true then _ else _) _ _ _
  rw [hx1, if_neg Bool.false_ne_true]
  unfold getAttrByItsOwn hookBefore
  refine wpAny_bind ?_
  rw [if_pos (show onTheHeap (Value.ref D) = true from rfl)]
  refine L2.at ?_
  refine wpAny_bind (wpAny_attempt (wpAny_holding ?_))
  unfold callGetattribute
  rw [hx0, if_neg Bool.false_ne_true]
  unfold boundAndCalled
  rw [PySem.F.excAttr_ValueError.ga.bind (.ref x)]
  refine wpAny_bind (wpAny_pure ?_)
  show wpAny _ _ (call (.builtin "BaseException.__getattribute__") [.ref x, .str "__class__" t]) _ _ _
  refine wpAny_call (codeAny_call_builtin PySem.F.excAttr_ValueError.ga.plain PySem.F.entry_bexc_ga ?_)
  refine @check_slot (model prog w) _ _ ⟨hp, g, d, t + 1, os⟩ "BaseException.__getattribute__" "BaseException" "__getattribute__" (.ref x) [.str "__class__" t] [] _ (by decide +kernel) (by decide +kernel) sub (PySem.F.args_bexc_ga (.ref x) (.str "__class__" t)) ?_
  unfold Builtin.«object.__getattribute__»
  refine wpAny_bind (wpAny_of_eq (a := ((Value.ref x : Value), [Value.str "__class__" t])) (by first | rfl | (simp only [slotArgs]; rfl)) ?_)
  refine wpAny_bind (wpAny_pure (wpAny_bind (L0.at (wpAny_bind (L3.at ?_)))))
  show wpAny _ _ (holding [Value.builtin "object.__class__"] (call (.builtin "getset_descriptor.__get__") [.builtin "object.__class__", .ref x, .ref D]) >>= ret) _ _ _
  refine wpAny_bind (wpAny_holding (wpAny_call (class_get (s := ⟨hp, g, d, t + 1, os⟩) (ox := ox) (od := od) X I hm ?_)))
  refine wpAny_pure ?_
  show wpAny _ _ (handedOut (.ref D)) _ _ _
  rw [handedOut_of (v := .ref D) rfl]
  first
    | exact wpAny_pure (wpAny_pure h)
    | exact wpAny_pure h
    | exact wpAny_pure (wpAny_bind (wpAny_pure (wpAny_pure h)))
theorem mf_kitx (hga : findIn K (.ref D) "__getattribute__" = some (some (.builtin "BaseException.__getattribute__"))) (hgt : findIn K (.ref D) "__getattr__" = some none) (hsub : subIn K (.ref D) (.type "BaseException") = some true) (hdct : hasDictIn K D = true) (ha : findIn K (.ref D) "__class__" = some (some (.builtin "object.__class__")))
    (hn : specialIn K (.builtin "object.__class__") "__get__" = some (some (.builtin "getset_descriptor.__get__"))) (htk : takesIn K (.builtin "object.__class__") = some true) (hm : mroIn K D (.type "object") = some true) :
    KitX K (.ref x) (.ref D) (fun h => InstAt h x ox D od) where
  ty := fun _ _ _ I => I.type
  it := fun _ _ X _ => by
    obtain ⟨cdD, hcD, _⟩ := any_some hdct
    unfold clsIn at hcD
    split at hcD
    · rename_i c' d' cd' sl' ho
      intro A' Q' E' s' k q
      unfold isType loadHead
      exact wpAny_bind (wpAny_loadPart (k _ _ (X _ _ ho)) (wpAny_pure q))
    · cases hcD
  ne := fun h tp dd its n sl X htp => by
    obtain ⟨cdD, hcD, _⟩ := any_some hdct
    refine Bool.eq_false_iff.mpr fun q => ?_
    have e : D = tp := Value.ref.inj (beq_iff_eq.mp q)
    subst e
    unfold clsIn at hcD
    split at hcD
    · rename_i c' d' cd' sl' ho
      have z := (X _ _ ho).symm.trans htp
      cases z
    · cases hcD
  ca := fun X I k => mf_classE hga hgt hsub hdct ha hn htk hm X I k
end
end PySem.W
namespace MF
open PySem PySem.Spec PyProof.Rows L2 StX ClX
def DictSt (H : Hp) (d : Option Addr) : Prop := ∀ dd, d = some dd → ∃ fs : List (Str × V), H dd = some (.xd fs)
def rIsX (K : PySem.W.Frag) (D a : Addr) (d : Option Addr) : List V → Hp → VK → Prop := fun xs H Q => ∃ (c : V) (cv : Value) (b : Bool), xs = [.ref a, c] ∧ (∀ u, RelV c u → u = cv) ∧ PySem.W.kitOne K (.ref D) cv = some b ∧ DictSt H d ∧ Q (.bl b) H
theorem call_isX {X : Cx} {a D : Addr} {d : Option Addr} {oe : Obj} {pn : List (Addr × Obj)} (C : ExcC X.K D) (hz : Zc (.ref D) d oe) (hf : ∃ vs, oe.data = .fields vs) : CallR (X.suite a ((a, oe) :: pn)) (.builtin "isinstance") (rIsX X.K D a d) := by
  intro pins s σ H xs us Q I r h
  obtain ⟨c, cv, b, rfl, hcv, e, hd, q⟩ := h
  cases r with
  | cons rx rr =>
    cases rr with
    | cons rt rr =>
      cases rr
      cases rx
      have ec := hcv _ rt
      subst ec
      obtain ⟨hget, _⟩ := I.pin (a, oe) (List.mem_append.mpr (.inl List.mem_cons_self))
      obtain ⟨vs, hv⟩ := hf
      have J : ∃ od, PySem.W.InstAt s.heap a oe D od := by
        cases d with
        | none =>
          obtain ⟨oc, odd, oda, osl⟩ := oe
          obtain ⟨h1, h2⟩ := hz
          dsimp only at h1 h2 hv
          subst h1 h2 hv
          exact ⟨none, hget, rfl, rfl, trivial⟩
        | some dd =>
          obtain ⟨fs, hx⟩ := hd dd rfl
          have hx' : ObjOk X.prog X.w H s.heap dd (.xd fs) := I.hok dd _ hx
          obtain ⟨mA, hns, hr⟩ := hx'
          obtain ⟨od, ho, hl⟩ := lookIn_ns hns
          exact ⟨some od, hget, hz.1, by unfold PySem.W.notCls; rw [hv] <;> rfl, by rw [hz.2]; exact ho⟩
      obtain ⟨od, J⟩ := J
      exact PySem.W.kia_one (PySem.W.mf_kitx C.hg C.hk C.hs C.hd C.ha C.hn C.ht C.hm) I.kIn J e (fun z => nomatch z) fun tk => ⟨.bl b, H, I.kept (t' := tk) fun _ _ z => z, rfl, q⟩
end MF
set_option Elab.async false
set_option linter.all false
set_option maxRecDepth 100000
set_option maxHeartbeats 2000000
namespace MF
open PySem PySem.Spec PyProof.Rows L2 StX LamX
abbrev lamFd (q : Str) (params : Arguments) (body : Expr) (scope : Scope) (cl : List (Str × Addr)) (dV doc pm cv ctv : Value) : FuncData := PySem.W.kdv_fn "<lambda>" q params (.expr body) scope cl dV doc pm cv ctv
def LamO (f : Addr) (q : Str) (params : Arguments) (body : Expr) (scope : Scope) (cl : List (Str × Addr)) (dV : Value) (c' : Addr) : HO :=
  .ext fun h => ∃ doc pm ctv : Value, h.get? f = some { cls := .type "function", data := .func (lamFd q params body scope cl dV doc pm (.ref c') ctv) }
def DfO (T : Addr) : HO := .ext fun h => ∃ u : Value, h.get? T = some (PySem.W.kdv_tup [u])
section
variable {P : Program} {w : World} {H : Hp} {h : Heap} {f c' T : Addr} {q : Str} {params : Arguments} {body : Expr} {scope : Scope} {cl : List (Str × Addr)} {dV doc pm ctv u : Value}
theorem lamO_ok (e : h.get? f = some { cls := .type "function", data := .func (lamFd q params body scope cl dV doc pm (.ref c') ctv) }) : ObjOk P w H h f (LamO f q params body scope cl dV c') :=
  ⟨⟨doc, pm, ctv, e⟩, ⟨_, e⟩, fun h1 h2 z k => by
    obtain ⟨d, p, t, a⟩ := z
    exact ⟨d, p, t, k _ a⟩⟩
theorem lamO_ne (ps : Array Value) : LamO f q params body scope cl dV c' ≠ .tbl ps := fun z => by
  unfold LamO at z
  cases z
theorem lamO_at (hok : HOk P w H h) (e : H f = some (LamO f q params body scope cl dV c')) : ∃ doc pm ctv : Value, h.get? f = some { cls := .type "function", data := .func (lamFd q params body scope cl dV doc pm (.ref c') ctv) } := by
  have x : ObjOk P w H h f (LamO f q params body scope cl dV c') := hok f _ e
  exact x.1
theorem dfO_ok (e : h.get? T = some (PySem.W.kdv_tup [u])) : ObjOk P w H h T (DfO T) :=
  ⟨⟨u, e⟩, ⟨_, e⟩, fun h1 h2 z k => by
    obtain ⟨v, a⟩ := z
    exact ⟨v, k _ a⟩⟩
theorem dfO_at (hok : HOk P w H h) (e : H T = some (DfO T)) : ∃ u : Value, h.get? T = some (PySem.W.kdv_tup [u]) := by
  have x : ObjOk P w H h T (DfO T) := hok T _ e
  exact x.1
end
def DflAt (dx : Option Str) (dV : Value) (H : Hp) : Prop := match dx with
  | none => dV = .none
  | some _ => ∃ T, dV = .ref T ∧ H T = some (DfO T)
theorem DflAt.keep {dx : Option Str} {dV : Value} {H H' : Hp} (h : DflAt dx dV H) (e : ∀ b φ, H b = some (.ext φ) → H' b = some (.ext φ)) : DflAt dx dV H' := by
  cases dx with
  | none => exact h
  | some x =>
    obtain ⟨T, e1, e2⟩ := h
    exact ⟨T, e1, e _ _ e2⟩
theorem DflAt.extN {dx : Option Str} {dV : Value} {H H' : Hp} (h : DflAt dx dV H) (e : ExtN H H') : DflAt dx dV H' := h.keep fun b φ z => e _ _ z fun ps y => by cases y
section
variable {X : Cx} {pins : List (Addr × Obj)} {σ : L2.St} {H : Hp} {s : Shared}
theorem lam_tailO {dx : Option Str} {dV : Value} {T : List (Addr × Str)} {c P : Addr} {params : Arguments} {body : Expr} {scope : Scope} {pos : Pos} {E : Value → Shared → Prop} {Q : Value → Shared → Prop} (I : Inv X pins σ H s) (TB : TabB X.base X.mg c P) (hcode : X.env.code = .ref c)
    (hm : (P, X.env.qual ++ "<lambda>") ∈ T) (hu : ∀ p ∈ T, p.1 = P → p.2 = X.env.qual ++ "<lambda>") (hT : Tabs T H) (hfree : ∀ y ∈ scope.names, y.2 = .free → ∃ c, X.env.cells.lookup y.1 = some c) (hD : DflAt dx dV H)
    (h : ∀ (f c' : Addr) (H1 : Hp) (s' : Shared), Inv X pins σ H1 s' → ExtN H H1 → Tabs T H1 → H f = none → H1 f = some (LamO f (X.env.qual ++ "<lambda>") params body scope (cloFrom X.env.cells scope.names []) dV c') → DflAt dx dV H1 → H1 c' = some (CodeO c' (X.env.qual ++ "<lambda>")) → Q (.ref f) s') :
    wpAny (model X.prog X.w) X.A (makeTail "<lambda>" (X.env.qual ++ "<lambda>") params (.expr body) scope X.env dV .none none pos pos.line) Q E s := by
  obtain ⟨ps, hP, ht, ha⟩ := hT _ hm
  have bP : s.heap.BuiltinsAt X.mg P := TB.bm.keeps I.bk
  have hP' : s.heap.get? P = some { cls := .none, data := .fields ps } := I.hok P _ hP
  have step : ∀ (h' : Heap) (tk : Nat) (H1 : Hp) (c' : Addr) (doc ctv : Value), Inv X pins σ H1 { s with heap := h', toks := tk } → s.heap.objs.size ≤ h'.objs.size → ExtN H H1 → Tabs T H1 → H1 c' = some (CodeO c' (X.env.qual ++ "<lambda>")) →
      Q (.ref h'.objs.size) { s with heap := h'.push (PySem.W.kdv_obj "<lambda>" (X.env.qual ++ "<lambda>") params (.expr body) scope (cloFrom X.env.cells scope.names []) dV doc ((X.mg "__name__").getD .none) c' ctv), toks := tk } := by
    intro h' tk H1 c' doc ctv I1 hsz eN T1 hc
    have n1 : H1 h'.objs.size = none := I1.hok.fresh (Nat.le_refl _)
    have J := I1.laid (t' := tk) (a := h'.objs.size) (h' := h'.push (PySem.W.kdv_obj "<lambda>" (X.env.qual ++ "<lambda>") params (.expr body) scope (cloFrom X.env.cells scope.names []) dV doc ((X.mg "__name__").getD .none) c' ctv)) (o := LamO h'.objs.size (X.env.qual ++ "<lambda>") params body scope (cloFrom X.env.cells scope.names []) dV c')
      (fun b o e => Heap.get?_push_of_some _ e) (Nat.le_refl _) (lamO_ok (Heap.get?_push_size _ rfl))
    have e2 : ExtN H1 (upd H1 h'.objs.size (LamO h'.objs.size (X.env.qual ++ "<lambda>") params body scope (cloFrom X.env.cells scope.names []) dV c')) := ExtN.of fun b o e => by rw [upd_ne (ne_of_none e n1)]; exact e
    refine h h'.objs.size c' _ _ J (eN.trans e2) (T1.ext fun b o e => by rw [upd_ne (ne_of_none e n1)]; exact e) (I.hok.fresh hsz) upd_same ((hD.extN eN).extN e2) (by rw [upd_ne (ne_of_none hc n1)]; exact hc)
  cases hc : codeAmong pos ps.toList with
  | none =>
    refine PySem.W.kdv_makeTail (mg := X.mg) (c := c) (P := P) (ps := ps) (closure_ok hfree) I.ok.glob (I.mod.glob.keeps I.bk) hcode (TB.code.keeps I.bk) hP' ht hc TB.gP bP fun c' ctv doc h' tk hx hge hlt hrec htb => ?_
    obtain ⟨c2, oc, vs, t, e2, hoc, hd, hv⟩ := hrec
    cases e2
    have nC : H c' = none := I.hok.fresh hge
    have I1 := inv_table (t' := tk) (q := X.env.qual ++ "<lambda>") (more := #[rawInt pos.line, rawInt pos.col, .ref c']) (h' := h') I hP (fun b o hb e => hx b o hb e) htb hge ⟨oc, vs, t, hoc, hd, hv⟩
    have hE : ExtN H (upd (upd H P (.tbl (ps ++ #[rawInt pos.line, rawInt pos.col, .ref c']))) c' (CodeO c' (X.env.qual ++ "<lambda>"))) := fun b o e n => by
      rw [upd_ne (ne_of_none e nC), upd_ne (fun z => n ps (Option.some.inj (e.symm.trans (by rw [z]; exact hP))))]
      exact e
    have eL : (ps ++ #[rawInt pos.line, rawInt pos.col, .ref c']).toList = ps.toList ++ [rawInt pos.line, rawInt pos.col, .ref c'] := by simp
    refine step h' tk _ c' doc ctv I1 (Nat.le_trans hge (Nat.le_of_lt hlt)) hE (fun p hp => ?_) upd_same
    by_cases hb : p.1 = P
    · rw [hu p hp hb, hb]
      refine ⟨_, by rw [upd_ne (ne_of_none hP nC), upd_same], by rw [eL]; exact PySem.TriplesOk_snoc _ _ _ _ ht, fun p' cv hcv => ?_⟩
      rw [eL] at hcv
      rcases among_app _ ht hcv with z | z
      · obtain ⟨c0, e1, e2⟩ := ha p' cv z
        exact ⟨c0, e1, hE _ _ e2 codeO_ne⟩
      · exact ⟨c', z, upd_same⟩
    · obtain ⟨ps', a1, a2, a3⟩ := hT p hp
      refine ⟨ps', by rw [upd_ne (ne_of_none a1 nC), upd_ne hb]; exact a1, a2, fun p' cv hcv => ?_⟩
      obtain ⟨c0, e1, e2⟩ := a3 p' cv hcv
      exact ⟨c0, e1, hE _ _ e2 codeO_ne⟩
  | some cv =>
    obtain ⟨c', e, hco⟩ := ha pos cv hc
    subst e
    refine PySem.W.kdv_makeTailHit (mg := X.mg) (c := c) (P := P) (ps := ps) (closure_ok hfree) I.ok.glob (I.mod.glob.keeps I.bk) hcode (TB.code.keeps I.bk) hP' ht hc bP fun ctv doc h' tk hx hsz => ?_
    exact step h' tk H c' doc ctv (I.kept (t' := tk) hx) hsz (ExtN.refl H) hT hco
theorem lam_makeO {T : List (Addr × Str)} {c P : Addr} {params : Arguments} {body : Expr} {scope : Scope} {pos : Pos} {E : Value → Shared → Prop} {Q : Value → Shared → Prop} (I : Inv X pins σ H s) (TB : TabB X.base X.mg c P) (hcode : X.env.code = .ref c)
    (hm : (P, X.env.qual ++ "<lambda>") ∈ T) (hu : ∀ p ∈ T, p.1 = P → p.2 = X.env.qual ++ "<lambda>") (hT : Tabs T H) (hdef : defaultsOf params X.env = ([], [])) (hfree : ∀ y ∈ scope.names, y.2 = .free → ∃ c, X.env.cells.lookup y.1 = some c)
    (h : ∀ (f c' : Addr) (H1 : Hp) (s' : Shared), Inv X pins σ H1 s' → ExtN H H1 → Tabs T H1 → H f = none → H1 f = some (LamO f (X.env.qual ++ "<lambda>") params body scope (cloFrom X.env.cells scope.names []) .none c') → H1 c' = some (CodeO c' (X.env.qual ++ "<lambda>")) → Q (.ref f) s') :
    wpAny (model X.prog X.w) X.A (eval (.Lambda params body scope pos) X.env) Q E s := by
  refine PySem.W.kla_eval hdef ?_
  rw [makeFunction_eq]
  simp only [List.zip_nil_right, List.filterMap_nil, List.isEmpty_nil, if_true, pure_bind]
  exact lam_tailO (dx := none) I TB hcode hm hu hT hfree rfl fun f c' H1 s' I1 eN T1 fn hf _ hc => h f c' H1 s' I1 eN T1 fn hf hc
theorem lam_makeD {x : Str} {T : List (Addr × Str)} {c P : Addr} {params : Arguments} {body : Expr} {scope : Scope} {pos p0 : Pos} {i0 : Int} {j0 : Nat} {E : Value → Shared → Prop} {Q : Value → Shared → Prop} (I : Inv X pins σ H s) (TB : TabB X.base X.mg c P) (hcode : X.env.code = .ref c)
    (hm : (P, X.env.qual ++ "<lambda>") ∈ T) (hu : ∀ p ∈ T, p.1 = P → p.2 = X.env.qual ++ "<lambda>") (hT : Tabs T H) (hdef : params.defaults = [.Constant (.int i0) j0 p0]) (hkw : params.kw_defaults = []) (hfree : ∀ y ∈ scope.names, y.2 = .free → ∃ c, X.env.cells.lookup y.1 = some c)
    (h : ∀ (f c' : Addr) (dV : Value) (H1 : Hp) (s' : Shared), Inv X pins σ H1 s' → ExtN H H1 → Tabs T H1 → H f = none → H1 f = some (LamO f (X.env.qual ++ "<lambda>") params body scope (cloFrom X.env.cells scope.names []) dV c') → DflAt (some x) dV H1 → H1 c' = some (CodeO c' (X.env.qual ++ "<lambda>")) → Q (.ref f) s') :
    wpAny (model X.prog X.w) X.A (eval (.Lambda params body scope pos) X.env) Q E s := by
  refine PySem.W.kdv_lam (by rw [hdef]; rfl) hkw ?_
  rw [hdef]
  refine PySem.W.kdv_all1 (wpAny_Constant_int (PySem.W.kdv_all0 ?_))
  rw [makeFunction_eq]
  simp only [List.zip_nil_right, List.filterMap_nil, List.isEmpty_nil, if_true, pure_bind, List.isEmpty_cons, Bool.false_eq_true, if_false]
  refine wpAny_bind (wpAny_newTextTuple ?_)
  have I0 := I.tok (s.toks + 1)
  have n1 : H s.heap.objs.size = none := I.hok.fresh (Nat.le_refl _)
  have sm : ∀ b o, H b = some o → upd H s.heap.objs.size (DfO s.heap.objs.size) b = some o := fun b o e => by rw [upd_ne (ne_of_none e n1)]; exact e
  refine lam_tailO (dx := some x) (H := upd H s.heap.objs.size (DfO s.heap.objs.size)) (I.laid (fun b o e => Heap.get?_push_of_some _ e) (Nat.le_refl _) (dfO_ok (Heap.get?_push_size _ rfl))) TB hcode hm hu (hT.ext sm) hfree ⟨_, rfl, upd_same⟩ fun f c' H1 s' I1 eN T1 fn hf hd hc => ?_
  refine h f c' _ H1 s' I1 ((ExtN.of sm).trans eN) T1 ?_ hf hd hc
  cases z : H f with
  | none => rfl
  | some o => rw [sm _ _ z] at fn; cases fn
end
structure LamSN (N : List Str) (sc scope : Scope) : Prop where
  kind : scope.kind = .function
  co : scope.isCoroutine = false
  gen : scope.isGenerator = false
  cell : ∀ y ∈ scope.names, y.2 ≠ .cell
  loc : ∀ y ∈ scope.names, y.2 = .local → y.1 ∉ N
  free : ∀ y ∈ scope.names, y.2 = .free → sc.names.lookup y.1 = some .cell ∨ sc.names.lookup y.1 = some .free
theorem lamSN_of {N : List Str} {sc scope : Scope} (L : LamS sc scope) : LamSN N sc scope := ⟨L.kind, L.co, L.gen, fun y hy => (L.own y hy).2, fun y hy e => absurd e (L.own y hy).1, L.free⟩
def lamSNB (N : List Str) (sc scope : Scope) : Bool :=
  decide (scope.kind = .function) && (!scope.isCoroutine && (!scope.isGenerator && scope.names.all fun y => match y.2 with
    | .cell => false
    | .local => !N.contains y.1
    | .free => decide (sc.names.lookup y.1 = some .cell) || decide (sc.names.lookup y.1 = some .free)
    | _ => true))
theorem lamSN_by {N : List Str} {sc scope : Scope} (h : lamSNB N sc scope = true) : LamSN N sc scope := by
  unfold lamSNB at h
  simp only [Bool.and_eq_true, Bool.not_eq_true', decide_eq_true_eq, List.all_eq_true] at h
  obtain ⟨h1, h2, h3, h4⟩ := h
  refine ⟨h1, h2, h3, fun y hy e => ?_, fun y hy e z => ?_, fun y hy e => ?_⟩ <;> have := h4 y hy <;> rw [e] at this
  · cases this
  · simp [z] at this
  · simpa using this
theorem LamSN.has {X : Cx} {N : List Str} {scope : Scope} (L : LamSN N X.env.scope scope) (ok : X.Ok) : ∀ y ∈ scope.names, y.2 = .free → ∃ c, X.env.cells.lookup y.1 = some c := fun y hy e => ok.has _ (L.free y hy e)
section
variable {X : Cx} {pins : List (Addr × Obj)} {σ : L2.St} {H HZ : Hp} {s s1 : Shared}
theorem lam_startN {A : Around} {outer : List Env} {E : XK} {scope : Scope} {f c' : Addr} {h₁ : Heap} {tk : Nat} {m : Str → Option Value} (I : Inv X pins σ H s) (L : LamSN X.N X.env.scope scope) (e0 : Env0 X.prog X.w X.K X.mg X.base A outer s1 HZ) (hd : A.handled = none)
    (un : Un (frs X.stack) [] H HZ s.heap s1.heap) (hns : h₁.Ns s1.heap.objs.size m) (kp : ∀ b o, s1.heap.get? b = some o → h₁.get? b = some o) :
    Inv (lamCx X A outer s1 HZ E scope f c') [] σ HZ { s1 with heap := h₁, toks := tk } := by
  have toMaker : ∀ {y c}, (cloFrom X.env.cells scope.names []).lookup y = some c → X.env.cells.lookup y = some c := fun {y c} e => by
    rcases cloFrom_mem (PySem.mem_of_lookup e) with z | ⟨h1, h2⟩
    · cases z
    · obtain ⟨c1, hc⟩ := L.has I.ok _ h1 rfl
      have hc : X.env.cells.lookup y = some c1 := hc
      have e2 : c = c1 := by
        rw [h2, hc] <;> rfl
      exact e2 ▸ hc
  have ofFree : ∀ {y}, scope.names.lookup y = some .free → ∃ c, (cloFrom X.env.cells scope.names []).lookup y = some c := fun {y} hl => mem_lookup (cloFrom_has (cells := X.env.cells) (acc := []) (PySem.mem_of_lookup hl))
  have notCell : ∀ {y : Str}, scope.names.lookup y ≠ some .cell := fun {y} z => L.cell _ (PySem.mem_of_lookup z) rfl
  have cellK : ∀ {c : Addr} {v : Option Value}, H c = none → s.heap.IsCell c v → h₁.IsCell c v := fun {c v} n ⟨o, ho, z⟩ => by
    obtain ⟨sl, q⟩ := un.any ho n (by simp)
    exact ⟨_, kp _ _ q, z⟩
  have noX : ∀ b : Addr, b ∉ (lamCx X A outer s1 HZ E scope f c').ex := fun b z => by
    have z : b ∈ ([] : List Addr) := z
    cases z
  have hasC : ∀ y, scope.names.lookup y = some .cell ∨ scope.names.lookup y = some .free → ∃ c, (cloFrom X.env.cells scope.names []).lookup y = some c := fun y hy => hy.elim (fun z => absurd z notCell) ofFree
  have okL : (lamCx X A outer s1 HZ E scope f c').Ok := ⟨e0.mod, L.kind, rfl, rfl, Nat.le_refl _, fun y z c e1 e2 => I.ok.inj y z c (toMaker e1) (toMaker e2), hasC, fun y c z _ => (by
      have z : false = true := z
      cases z), fun _ => hd, Around.frames_deeper e0.frames, .inr ⟨rfl, rfl⟩, fun b z => absurd z (noX b), e0.bs, e0.bsz, fun b _ _ => noX b, fun b z => absurd z (noX b), e0.funs, e0.frf⟩
  have seen : ∀ (i : Nat) (y : Str) (v : V), X.N[i]? = some y → σ[i]? = some (some v) → Vis scope y → ∃ u, RelV v u ∧ Look (lamEnv X scope s1.heap.objs.size f c') h₁ m y u := fun i y v e1 e2 e3 => by
    rcases e3 with k | k | k
    · exact absurd (List.mem_of_getElem? e1) (L.loc _ (PySem.mem_of_lookup k) rfl)
    · exact absurd k notCell
    · obtain ⟨m', _, hl⟩ := I.loc
      have fr := L.free _ (PySem.mem_of_lookup k) rfl
      obtain ⟨u, r, q⟩ := hl i y v e1 e2 (fr.elim (fun z => .inr (.inl z)) fun z => .inr (.inr z))
      obtain ⟨c2, h2⟩ := ofFree k
      refine ⟨u, r, .inr ⟨.inr k, c2, h2, ?_⟩⟩
      rcases q with ⟨k', _⟩ | ⟨_, c3, e', z⟩
      · have k' : X.env.scope.names.lookup y = some .local := k'
        have fr : X.env.scope.names.lookup y = some .cell ∨ X.env.scope.names.lookup y = some .free := fr
        rw [k'] at fr
        rcases fr with z | z <;> cases z
      · have c1 := toMaker h2
        rw [c1] at e'
        cases e'
        exact cellK (I.freeC y _ c1) z
  refine ⟨okL, rfl, e0.bare, Un.kept kp, ⟨m, hns, seen⟩, fun y c e => ?_, e0.hok.fresh (Nat.le_refl _), fun y c e => ?_, fun q hq => ?_, e0.hok.kept kp, I.len⟩
  · obtain ⟨u, z⟩ := I.cell y c (toMaker e)
    exact ⟨u, cellK (I.freeC y c (toMaker e)) z⟩
  · obtain ⟨v, o, ho, _⟩ := I.cell y c (toMaker e)
    exact un.free c o ho (I.freeC y c (toMaker e)) (by simp)
  · have hq : q ∈ ([] : List (Addr × Obj)) ++ [] := hq
    cases hq
end
def BindL (dx : Option Str) (params : Arguments) (body : Expr) (scope : Scope) : Prop := match dx with
  | none => ∀ (q : Str) (cl : List (Str × Addr)) (doc pm cv ctv : Value), bindArgs (lamFd q params body scope cl .none doc pm cv ctv) ⟨[], []⟩ = pure []
  | some x => scope.names.lookup x = some .local ∧ ∀ (q : Str) (cl : List (Str × Addr)) (T : Addr) (doc pm cv ctv : Value), ∃ k, bindArgs (lamFd q params body scope cl (.ref T) doc pm cv ctv) ⟨[], []⟩ = seqItems? (.ref T) >>= k ∧ ∀ u, k (some #[u]) = pure [(x, u)]
structure LamT (X : Cx) (k : Nat) where
  dx : Option Str
  params : Arguments
  body : Expr
  scope : Scope
  t : XK → TE
  L : LamSN X.N X.env.scope scope
  bind : BindL dx params body scope
  run : ∀ (A : Around) (outer : List Env) (s : Shared) (H : Hp) (E : XK) (f c' : Addr), Room k (A.deeper (lamEnv X scope s.heap.objs.size f c')) → PE (lamCx X A outer s H E scope f c') body (t E)
def LamAt (X : Cx) {k : Nat} (l : LamT X k) (H : Hp) (f : Addr) : Prop := ∃ (c' : Addr) (dV : Value), H f = some (LamO f (X.env.qual ++ "<lambda>") l.params l.body l.scope (cloFrom X.env.cells l.scope.names []) dV c') ∧ DflAt l.dx dV H ∧ H c' = some (CodeO c' (X.env.qual ++ "<lambda>"))
theorem LamAt.keep {X : Cx} {k : Nat} {l : LamT X k} {H H' : Hp} {f : Addr} (h : LamAt X l H f) (e : ∀ b φ, H b = some (.ext φ) → H' b = some (.ext φ)) : LamAt X l H' f := by
  obtain ⟨c', dV, h1, h2, h3⟩ := h
  exact ⟨c', dV, e _ _ h1, h2.keep e, e _ _ h3⟩
def tLamE (T : List (Addr × Str)) (X : Cx) {k : Nat} (l : LamT X k) : TE := fun σ H Q => Tabs T H ∧ ∀ f H1, ExtN H H1 → Tabs T H1 → H f = none → LamAt X l H1 f → Q (.ref f) H1
theorem pe_lamE {X : Cx} {k : Nat} (l : LamT X k) (hx : l.dx = none) {T : List (Addr × Str)} {c P : Addr} {lpos : Pos} (TB : TabB X.base X.mg c P) (hcode : X.env.code = .ref c) (hmT : (P, X.env.qual ++ "<lambda>") ∈ T) (hu : ∀ p ∈ T, p.1 = P → p.2 = X.env.qual ++ "<lambda>")
    (hdef : defaultsOf l.params X.env = ([], [])) : PE X (.Lambda l.params l.body l.scope lpos) (tLamE T X l) := by
  refine ⟨fun pins s σ H Q I h => ?_⟩
  obtain ⟨hT, h⟩ := h
  exact lam_makeO I TB hcode hmT hu hT hdef (l.L.has I.ok) fun f c' H1 s' I1 eN T1 fn hf hc => ⟨.ref f, H1, I1, rfl, h f H1 eN T1 fn ⟨c', _, hf, by rw [hx]; rfl, hc⟩⟩
theorem pe_lamD {X : Cx} {k : Nat} (l : LamT X k) {x : Str} (hx : l.dx = some x) {T : List (Addr × Str)} {c P : Addr} {lpos p0 : Pos} {i0 : Int} {j0 : Nat} (TB : TabB X.base X.mg c P) (hcode : X.env.code = .ref c) (hmT : (P, X.env.qual ++ "<lambda>") ∈ T) (hu : ∀ p ∈ T, p.1 = P → p.2 = X.env.qual ++ "<lambda>")
    (hdef : l.params.defaults = [.Constant (.int i0) j0 p0]) (hkw : l.params.kw_defaults = []) : PE X (.Lambda l.params l.body l.scope lpos) (tLamE T X l) := by
  refine ⟨fun pins s σ H Q I h => ?_⟩
  obtain ⟨hT, h⟩ := h
  exact lam_makeD (x := x) I TB hcode hmT hu hT hdef hkw (l.L.has I.ok) fun f c' dV H1 s' I1 eN T1 fn hf hd hc => ⟨.ref f, H1, I1, rfl, h f H1 eN T1 fn ⟨c', dV, hf, by rw [hx]; exact hd, hc⟩⟩
theorem LamT.binds {X : Cx} {k : Nat} (l : LamT X k) {P : Program} {w : World} {H : Hp} {s : Shared} {q : Str} {cl : List (Str × Addr)} {dV doc pm cv ctv : Value} (hok : HOk P w H s.heap) (hD : DflAt l.dx dV H) :
    ∃ bs : List (Str × Value), (∀ y ∈ bs, l.scope.names.lookup y.1 = some .local) ∧ BindsTo s (lamFd q l.params l.body l.scope cl dV doc pm cv ctv) ⟨[], []⟩ bs := by
  have hb := l.bind
  unfold BindL at hb
  cases hx : l.dx with
  | none =>
    rw [hx] at hb hD
    have hD : dV = .none := hD
    refine ⟨[], fun y hy => (by cases hy), ?_⟩
    subst hD
    exact BindsTo.of_eq (hb q cl doc pm cv ctv)
  | some x =>
    rw [hx] at hb hD
    obtain ⟨T, e1, e2⟩ := hD
    obtain ⟨u, hu⟩ := dfO_at hok e2
    subst e1
    obtain ⟨k, b1, b2⟩ := hb.2 q cl T doc pm cv ctv
    refine ⟨[(x, u)], fun y hy => ?_, BindsTo.of_defaults rfl hu rfl b1 (b2 u)⟩
    rw [List.mem_singleton.mp hy]
    exact hb.1
section
variable {X : Cx} {pins : List (Addr × Obj)} {σ : L2.St} {H : Hp} {s : Shared}
theorem pe_actO {CXg : CXT} {Eg : XK} {Ng : List Str} {qg : Str} {sg : Scope} {g f : Addr} {cdg : Value} {k i : Nat} {a : Str} {pn : List (Addr × Obj)} {xe : Value → Shared → Prop} {W : WX} {p1 p2 : Pos} {l : LamT X k}
    (I : Inv X pins σ H s) (tk : Takes ((cxOf CXg X.prog X.w X.K X.mg X.base Ng qg sg g cdg X.A X.stack s H Eg).tr pn xe) W) (hr : Room (k + 1) (X.A.deeper (envOfC qg sg s.heap.objs.size g cdg)))
    (hN : Ng[i]? = some a) (hv : Vis sg a) (hd : (a == ("__debug__" : Str)) = false := by decide) (hcd : (a == ("__classdict__" : Str)) = false := by decide) :
    PE ((cxOf CXg X.prog X.w X.K X.mg X.base Ng qg sg g cdg X.A X.stack s H Eg).tr pn xe) (.Call (.Name a p1) [] [] p2) (fun σZ HZ Q => σZ[i]? = some (some (.ref f)) ∧ LamAt X l HZ f ∧ ∃ E : XK, (∀ cls d H', E cls d H' → W cls d σZ H') ∧ l.t E σ HZ Q) := by
  refine ⟨fun pinsZ sZ σZ HZ Q IZ h => ?_⟩
  obtain ⟨hs, ⟨c', dV, hfO, hDf, hcO⟩, E, hW, ht⟩ := h
  refine wpAny_Call_Name_kw (thn ((pe_var (pos := p1) (i := i) hN hv hd hcd).run pinsZ sZ σZ HZ (fun v H1 => v = .ref f ∧ H1 = HZ) IZ ⟨.ref f, hs, rfl, rfl⟩) fun u s1 ⟨v, H1, I1, r1, q1⟩ => ?_)
  obtain ⟨ev, eH⟩ := q1
  subst ev
  rw [eH] at I1
  obtain rfl : u = Value.ref f := r1
  obtain ⟨doc, pm, ctv, of1⟩ := lamO_at I1.hok hfO
  refine PySem.W.callWith_F0 ⟨_, _, _, _, of1⟩ ?_
  have un : Un (frs X.stack) [] H HZ s.heap s1.heap := I1.base
  obtain ⟨⟨oc, vs, t, hoc, hdc, hvc⟩, _, _⟩ := I1.hok c' _ hcO
  obtain ⟨bs, hloc, hbs⟩ := l.binds (s := s1) (q := X.env.qual ++ "<lambda>") (cl := cloFrom X.env.cells l.scope.names []) (doc := doc) (pm := pm) (cv := .ref c') (ctv := ctv) I1.hok hDf
  have rc : codeAny (model X.prog X.w) (X.A.deeper (envOfC qg sg s.heap.objs.size g cdg)) (.call (.ref f) ⟨[], []⟩) (CR (L2.CX X.prog X.w) (envOfC qg sg s.heap.objs.size g cdg :: X.stack) X.prog X.w HZ s1 Q E) s1 := by
    refine PySem.W.kla_callFunE hr.depth of1 rfl l.L.co l.L.gen rfl ⟨c', oc, vs, t, rfl, hoc, hdc, hvc⟩ (hbs _ _ _ _ ?_)
    refine wpAny_newFunctionEnv l.L.cell hloc (fun h₁ hns hsb => ⟨I1.nolimit.fresh _ hsb, ?_⟩) l.L.kind
    show codeAny _ _ (.expr l.body (lamEnv X l.scope s1.heap.objs.size f c')) _ _
    have kp : ∀ b o, s1.heap.get? b = some o → h₁.get? b = some o := fun b o e => hsb.extBut b o (Nat.ne_of_lt (Heap.lt_size e)) (Heap.get?_push_of_some _ e)
    have J : Inv (lamCx X (X.A.deeper (envOfC qg sg s.heap.objs.size g cdg)) (envOfC qg sg s.heap.objs.size g cdg :: X.stack) s1 HZ E l.scope f c') [] σ HZ { s1 with heap := h₁, toks := s1.toks + bs.length } :=
      lam_startN I l.L I1.env0 hr.hd un hns kp
    refine PySem.W.kla_codeExpr (wpAny_mono ((l.run _ _ s1 HZ E f c' (hr.deeper _)).run [] _ _ HZ Q J ht) (fun v s' hq => ?_) fun e s' hq => hq)
    obtain ⟨w', H', J', rv, q⟩ := hq
    exact ⟨w', H', J'.os, J'.bare, J'.base, J'.hok, rv, q⟩
  refine wpAny_call (codeAny_mono rc fun r s' hq => ?_)
  cases r with
  | error e => exact tk e s' (XE.of_call I1 (fun cls d H' h => hW cls d H' h) hq)
  | ok fl =>
    cases fl with
    | ret u => exact I1.after hq
    | next => exact False.elim hq
    | brk => exact False.elim hq
    | cont => exact False.elim hq
end
def GivesL (X : Cx) (Ng : List Str) (x : Str) (sg : Scope) (g : Addr) (cdg : Value) (bg : List Stmt) (a : Str) (TT : (XK → Hp → VK → Prop) → Hp → VK → Prop) : Prop :=
  ∀ (f : Addr) (s : Shared) (H : Hp) (Q : VK) (ok : Hp → Prop) (tl : XK → Hp → VK → Prop), (∀ (H H' : Hp), (∀ b φ, H b = some (.ext φ) → H' b = some (.ext φ)) → ok H → ok H') →
    (∀ (W : WX) (pn : List (Addr × Obj)) (xe : Value → Shared → Prop) (p1 p2 : Pos), Takes ((cxOf C8.CX0 X.prog X.w X.K X.mg X.base Ng x sg g cdg X.A X.stack s H C8.E0).tr pn xe) W →
      PE ((cxOf C8.CX0 X.prog X.w X.K X.mg X.base Ng x sg g cdg X.A X.stack s H C8.E0).tr pn xe) (.Call (.Name a p1) [] [] p2) (fun σZ HZ Q => σZ[0]? = some (some (.ref f)) ∧ ok HZ ∧ ∃ E : XK, (∀ cls d H', E cls d H' → W cls d σZ H') ∧ tl E HZ Q)) →
    ok H → TT tl H Q → (X.A.deeper (envOfC x sg s.heap.objs.size g cdg)).units + 65 < cLine →
    ∃ t, PSs (cxOf C8.CX0 X.prog X.w X.K X.mg X.base Ng x sg g cdg X.A X.stack s H C8.E0).nox bg t ∧ t { nx := fun _ H' => Q .non H', rt := Q } (L2.start Ng [.ref f]) H
structure LFn (X : Cx) (x a : Str) (TT : (XK → Hp → VK → Prop) → Hp → VK → Prop) : Prop where
  ex : ∃ (g : Addr) (oc : Value) (od : Option Addr) (pg : Arguments) (bg : List Stmt) (sg : Scope) (dV kV doc pm cdv ct : Value) (an : Option Addr) (osl : Array (Option Value)) (Ng : List Str),
    X.mg x = some (.ref g) ∧ PySem.W.keepIn X.K (.ref g) = true ∧ X.K.lookup g = some ⟨oc, od, .func (PySem.W.fnOf x x pg bg sg dV kV doc pm an cdv ct), osl⟩ ∧ PySem.W.codeIn X.K cdv x = true ∧ L2.Binds X.K (PySem.W.fnOf x x pg bg sg dV kV doc pm an cdv ct) [a] [] ∧ FnScope Ng [a] sg ∧ Ng[0]? = some a ∧ Vis sg a ∧
    GivesL X Ng x sg g cdv bg a TT
section
variable {X : Cx} {pins : List (Addr × Obj)} {σ : L2.St} {H : Hp} {s : Shared}
theorem lam_run {k : Nat} {x a : Str} {TT : (XK → Hp → VK → Prop) → Hp → VK → Prop} {l : LamT X k} {f : Addr} {Q : VK} (D : LFn X x a TT) (hr : Room (k + 2) X.A) (I : Inv X pins σ H s) (hl : LamAt X l H f) (h : TT (fun E H' Q' => l.t E σ H' Q') H Q)
    (hd : (a == ("__debug__" : Str)) = false := by decide) (hcd : (a == ("__classdict__" : Str)) = false := by decide) :
    ∃ g : Addr, X.mg x = some (.ref g) ∧ PySem.W.keepIn X.K (.ref g) = true ∧ codeAny (model X.prog X.w) X.A (.call (.ref g) ⟨[.ref f], []⟩) (CR C8.CX0 X.stack X.prog X.w H s Q C8.E0) s := by
  obtain ⟨g, oc, od, pg, bg, sg, dV, kV, doc, pm, cdv, ct, an, osl, Ng, hm, hk, lk, hcg, hb, Sg, hNg, hva, hG⟩ := D.ex
  refine ⟨g, hm, hk, ?_⟩
  refine run_ofS (N := Ng) (ps := [a]) (us := [.ref f]) (vs := [.ref f]) lk hcg Sg hr I.env0 (hb s [.ref f] I.kIn rfl) (.cons rfl .nil) rfl fun hr' => ?_
  obtain ⟨t', ht', hq'⟩ := hG f s H Q (fun H => LamAt X l H f) (fun E H' Q' => l.t E σ H' Q') (fun H H' e z => z.keep e) (fun W pn xe p1 p2 tk => pe_actO (i := 0) (l := l) I tk hr' hNg hva hd hcd) hl h (by have := hr'.un; omega)
  exact ⟨t', ht'.nox, hq'⟩
def tLamC (X : Cx) (k : Nat) (TT : (XK → Hp → VK → Prop) → Hp → VK → Prop) (te : TE) : TE := fun σ H Q => te σ H fun v H1 => ∃ (l : LamT X k) (f : Addr), v = .ref f ∧ LamAt X l H1 f ∧ TT (fun E H' Q' => l.t E σ H' Q') H1 Q
theorem pe_lamC {k : Nat} {x a : Str} {TT : (XK → Hp → VK → Prop) → Hp → VK → Prop} {e : Expr} {te : TE} {p pos : Pos} (D : LFn X x a TT) (hr : Room (k + 2) X.A) (ha : PA X [e] (tCons te tNil)) (hg : Gl X x := by rfl) (hdb : (x == ("__debug__" : Str)) = false := by decide)
    (hst : starEach (e :: []) X.env = (false, eval e X.env) :: starEach [] X.env := by rfl) (hpl : (backTo pos (starEach [] X.env)).any (·.1) = false := by rfl) (hd : (a == ("__debug__" : Str)) = false := by decide) (hcd : (a == ("__classdict__" : Str)) = false := by decide) :
    PE X (.Call (.Name x p) [e] [] pos) (tLamC X k TT te) := by
  obtain ⟨g0, _, _, _, _, _, _, _, _, _, _, _, _, _, _, hm0, hk0, _⟩ := D.ex
  refine ⟨fun pins s σ H Q I h => ?_⟩
  refine wpAny_Call_Name_kw (ld_glob I hg hm0 ?_ hdb)
  let R : V → Hp → Prop := fun v H1 => ∃ (l : LamT X k) (f : Addr), v = .ref f ∧ LamAt X l H1 f ∧ TT (fun E H' Q' => l.t E σ H' Q') H1 Q
  refine PySem.W.callWith_K (h₀ := X.base) I.ok.mod.kin hk0 (thn (ha.run pos pins s σ H (fun vs H1 => match vs with | [v] => R v H1 | _ => False) I h) fun us s1 hh => ?_) hst hpl
  obtain ⟨vs, H1, I1, r1, hR⟩ := hh
  match vs, r1, hR with
  | [v], r1, hR =>
  obtain ⟨l, f, ef, hl, q⟩ := hR
  subst ef
  refine ⟨I1.kIn, ?_⟩
  cases r1 with
  | cons ru rn =>
    cases rn
    cases ru
    obtain ⟨g, hm, hk, rc⟩ := lam_run D hr I1 hl q hd hcd
    rw [hm0] at hm
    cases hm
    refine wpAny_call (codeAny_mono rc fun r s2 hq => ?_)
    cases r with
    | error e => exact (show False from hq).elim
    | ok fl =>
      cases fl with
      | ret u => exact I1.after hq
      | next => exact False.elim hq
      | brk => exact False.elim hq
      | cont => exact False.elim hq
end
end MF
set_option Elab.async false
set_option linter.all false
set_option maxRecDepth 100000
set_option maxHeartbeats 2000000
namespace MF
open PySem PySem.Spec PyProof.Rows L2 StX LamX
structure BI (X : Cx) (pins : List (Addr × Obj)) (σ : L2.St) (H : Hp) (s : Shared) (fp : List Addr) : Prop where
  inv : Inv X pins σ H s
  fp : ∀ b ∈ fp, FpOk X pins H b ∧ b < s.heap.objs.size
theorem BI.now {X : Cx} {pins pins' : List (Addr × Obj)} {σ σ' : L2.St} {H H' : Hp} {s s' : Shared} {fp : List Addr} {scope : Scope} {cenv : Env} (B : BI X pins σ H s fp) (I : Inv (X.blk s H scope cenv fp) pins' σ' H' s') : Inv X pins σ H' s' :=
  B.inv.call' (ch := fp) I.os I.base I.hok I.bare fun b hb => ⟨(B.fp b hb).1.2.2.2.1, (B.fp b hb).1.2.1, (B.fp b hb).1.2.2.2.2.1, (B.fp b hb).1.2.2.2.2.2⟩
section
variable {X : Cx}
theorem lcI_core {pins : List (Addr × Obj)} {s : Shared} {σ : L2.St} {H : Hp} {Q : VK} {elt tg iter : Expr} {ifs : List Expr} {scope : Scope} {own : List (Str × Nat)} {pos pos' : Pos} {wi : TI} {g : TG} {tt : TT} {te : TE} {use : Option (Value → Sem Unit)} {Qf : Value → Shared → Prop}
    (hc : X.calm = true) (hN : X.N.Nodup) (I : Inv X pins σ H s) (hi : PI X tg iter wi) (ok : BlkOk X.N X.env.scope scope own)
    (hg : ∀ (s : Shared) (H : Hp) (C : Addr) (cl : List (Str × Addr)) (fp : List Addr), PG (X.blk s H scope (compEnvC scope cl C X.env) fp) tg g)
    (ht : ∀ (s : Shared) (H : Hp) (C : Addr) (cl : List (Str × Addr)) (fp : List Addr), BI X pins σ H s fp → PTs (X.blk s H scope (compEnvC scope cl C X.env) fp) ifs tt)
    (he : ∀ (s : Shared) (H : Hp) (C : Addr) (cl : List (Str × Addr)) (fp : List Addr), BI X pins σ H s fp → PE (X.blk s H scope (compEnvC scope cl C X.env) fp) elt te) (hs : ∀ x, foldedSetIterable iter X.env x = pure x)
    (h : tLc wi g tt te (own.map (·.2)) σ H Q)
    (hRR : ∀ D C s' m H', Inv X pins σ H' s' → Q (.ref D) H' → s'.heap.Ns C m → FpOk X pins H' C → compPost (model X.prog X.w) X.A X.xe use Qf (.ref D) C (.ok .next) s') :
    wpAny (model X.prog X.w) X.A (comprehension (.ListComp elt [⟨tg, iter, ifs, 0⟩] scope pos) scope X.env pos' (newList []) false (eval iter X.env) use) Qf X.xe s := by
  have hfree : ∀ y ∈ scope.names, y.2 = .free → ∃ c, X.env.cells.lookup y.1 = some c := fun y hy e => by
    rcases ok.free y hy e with k | k
    · exact I.ok.has _ (.inl k)
    · exact I.ok.has _ (.inr k)
  refine wpAny_comprehension_free (use := use) rfl hs (closure_ok hfree) ok.kind (fun y hy e => by rw [ok.uniq y hy, e])
    (thn (hi.run pins s σ H _ I h) fun xv s1 hx => thn hx fun itv s2 h2 => ?_)
  obtain ⟨it, fp, tn, J, H2, e, I2, T, st2, f2, q⟩ := h2
  subst e
  refine wpAny_newObj_type (newEnv_comp ?_) (by show 0 ≤ sizeLine; decide)
  generalize hD : s2.heap.objs.size = D
  have hDn : H2 D = none := I2.hok.fresh (Nat.le_of_eq hD)
  obtain ⟨W, ⟨m0, w0⟩, turn⟩ := q D hDn
  generalize hs3 : ({ s2 with heap := s2.heap.push { cls := .type "list", data := .seq ([] : List Value).toArray } } : Shared) = s3
  have I3 : Inv X pins σ (upd H2 D (.lst [])) s3 := by
    rw [← hs3]
    refine I2.laid (t' := s2.toks) (fun b o e => Heap.get?_push_of_some _ e) (Nat.le_of_eq hD) ⟨Nat.zero_le _, [], 0, .nil, ?_⟩
    rw [← hD]
    exact Heap.get?_push_size _ rfl
  have h3 : s3.heap = s2.heap.push { cls := .type "list", data := .seq ([] : List Value).toArray } := by rw [← hs3]
  have f3 : ∀ b ∈ fp, FpOk X pins (upd H2 D (.lst [])) b ∧ b < s3.heap.objs.size := fun b hb => by
    obtain ⟨o, e, _⟩ := T.obj _ _ st2 b hb
    have hlt := Heap.lt_size e
    refine ⟨⟨?_, (f2 b hb).2⟩, by rw [h3, Heap.size_push]; exact Nat.lt_succ_of_lt hlt⟩
    rw [upd_ne (by rw [← hD]; exact Nat.ne_of_lt hlt)]
    exact (f2 b hb).1
  have BB : BI X pins σ (upd H2 D (.lst [])) s3 fp := ⟨I3, f3⟩
  have st3 : tn 0 s3.heap := T.keep _ _ _ st2 fun b _ o e => by rw [h3]; exact Heap.get?_push_of_some _ e
  have I4 := block_start I3 ok hN f3
  have pg := hg s3 (upd H2 D (.lst [])) s3.heap.objs.size (cellsFrom (s3.heap.objs.size + 1) scope.names (cloFrom X.env.cells scope.names [])) fp
  have pt := ht s3 (upd H2 D (.lst [])) s3.heap.objs.size (cellsFrom (s3.heap.objs.size + 1) scope.names (cloFrom X.env.cells scope.names [])) fp BB
  have pe := he s3 (upd H2 D (.lst [])) s3.heap.objs.size (cellsFrom (s3.heap.objs.size + 1) scope.names (cloFrom X.env.cells scope.names [])) fp BB
  show codeAny _ _ (.compStart (.ListComp elt [⟨tg, iter, ifs, 0⟩] scope pos) 0 (.ref it) (.ref D) (compEnvC scope (cellsFrom (s3.heap.objs.size + 1) scope.names (cloFrom X.env.cells scope.names [])) s3.heap.objs.size X.env)) (compPost (model X.prog X.w) X.A X.xe use Qf (.ref D) s3.heap.objs.size) { s3 with heap := pushCells (s3.heap.push { cls := .type "dict", data := .dict #[] }) scope.names }
  have nfp : ∀ b ∈ fp, (upd H2 D (.lst [])) b = none := fun b hb => (f3 b hb).1.1
  generalize hce : compEnvC scope (cellsFrom (s3.heap.objs.size + 1) scope.names (cloFrom X.env.cells scope.names [])) s3.heap.objs.size X.env = ce at I4 pg pt pe ⊢
  have cL : ce.locals = s3.heap.objs.size := by subst hce; rfl
  generalize hH3 : upd H2 D (.lst []) = H3 at I3 I4 pg pt pe w0 nfp f3 BB
  generalize hs4 : ({ s3 with heap := pushCells (s3.heap.push { cls := .type "dict", data := .dict #[] }) scope.names } : Shared) = s4 at I4 ⊢
  have st4 : tn 0 s4.heap := T.keep _ _ _ st3 fun b _ o e => by rw [← hs4]; exact pushCells_keeps _ _ _ _ (Heap.get?_push_of_some _ e)
  have stat : ∀ {σ' : L2.St} {H' : Hp} {s' : Shared}, Inv (X.blk s3 H3 scope ce fp) [] σ' H' s' → (∀ b ∈ fp, H' b = none) → ∀ b ∈ fp, FpOk (X.blk s3 H3 scope ce fp) [] H' b := fun {σ' H' s'} I' hn b hb =>
    ⟨hn b hb, (I'.ok.exf b hb).1, I'.ok.exfs b hb, .inl hb, fun x c e => (I'.ok.exf b hb).2 x c e, fun p hp => absurd (show p ∈ ([] : List (Addr × Obj)) ++ [] from hp) (by simp)⟩
  have loop : codeAny (model X.prog X.w) X.A (.compLoop (.ListComp elt [⟨tg, iter, ifs, 0⟩] scope pos) 0 (.ref it) (.ref D) ce) (compPost (model X.prog X.w) X.A X.xe use Qf (.ref D) s3.heap.objs.size) s4 := by
    refine compLoop_any (fun n s' => ∃ i H', Inv (X.blk s3 H3 scope ce fp) [] (wipe σ (own.map (·.2))) H' s' ∧ tn i s'.heap ∧ (∀ b ∈ fp, H' b = none) ∧ W i n H') ?_ m0 ⟨0, H3, I4, st4, nfp, w0⟩
    rintro n s5 ⟨i, H5, I5, st5, n5, w5⟩
    rcases turn i n H5 w5 with ⟨stop, qq⟩ | ⟨go, Nx, hNx, step⟩
    · have td := T.done (X.blk s3 H3 scope ce fp) rfl rfl rfl hc i [] s5 _ H5 (fun _ _ => False) I5 (stat I5 n5) st5 stop
      refine thnF td fun r s6 ⟨hr, I6⟩ => ?_
      subst hr
      have I7 : Inv X pins σ H5 s6 := BB.now I6
      have nC : H5 s3.heap.objs.size = none := by
        have z : H5 ce.locals = none := I6.free
        rw [cL] at z
        exact z
      obtain ⟨m, hn, _⟩ := I6.loc
      have hn : s6.heap.Ns ce.locals m := hn
      rw [cL] at hn
      exact hRR D s3.heap.objs.size s6 m H5 I7 qq hn (I3.fpOk (Nat.le_refl _) nC)
    · have ti := T.item (X.blk s3 H3 scope ce fp) rfl rfl rfl hc i [] s5 _ H5 (fun _ _ => False) I5 (stat I5 n5) st5 go
      refine thnF ti fun r s6 ⟨u, hr, h6⟩ => ?_
      subst hr
      refine thnF h6 fun _ s7 ⟨x, H7, I7, r7, y7, st7, n7⟩ => ?_
      have I7' := I7.pinned (stat I7 n7) (T.obj _ _ st7)
      refine thnF (pg.run _ s7 _ H7 x u _ I7' r7 (step x H7 y7)) fun _ s8 ⟨σ8, H8, I8, hw8, q8⟩ => ?_
      refine thnF (pt.run _ s8 σ8 H8 _ I8 q8) fun b s9 ⟨H9, I9, q9⟩ => ?_
      have fin : ∀ {s' : Shared} {H' : Hp}, Inv (X.blk s3 H3 scope ce fp) ([] ++ pinsAt fp s7.heap) σ8 H' s' → Nx H' → ∃ m, m < n ∧ ∃ i H', Inv (X.blk s3 H3 scope ce fp) [] (wipe σ (own.map (·.2))) H' s' ∧ tn i s'.heap ∧ (∀ b ∈ fp, H' b = none) ∧ W i m H' := fun {s' H'} I' nx => by
        obtain ⟨m', hm, w'⟩ := hNx H' nx
        have pin' : ∀ b ∈ fp, ∀ o, s7.heap.get? b = some o → s'.heap.get? b = some o ∧ H' b = none := fun b hb o e =>
          let z := I'.pin (b, o) (List.mem_append_right _ (List.mem_append_right _ (mem_pinsAt hb e)))
          ⟨z.1, z.2.1⟩
        have hl : (wipe σ (own.map (·.2))).length = σ8.length := by rw [← hw8, wipe_length]
        refine ⟨m', hm, i + 1, H', (I'.unpinned (pins := [])).weak hl (fun j v e => ?_), T.keep _ _ _ st7 fun b hb o e => (pin' b hb o e).1, fun b hb => ?_, w'⟩
        · rw [← hw8] at e
          exact (wipe_some e).1
        · obtain ⟨o, e, _⟩ := T.obj _ _ st7 b hb
          exact (pin' b hb o e).2
      cases b with
      | false =>
        simp only [Bool.false_eq_true, if_false] at q9 ⊢
        exact fin I9 q9
      | true =>
        simp only [if_true] at q9 ⊢
        refine thnF (pe.run _ s9 σ8 H9 _ I9 q9) fun z s10 ⟨yv, H10, I10, r10, acc, hD10, hz10, nx⟩ => ?_
        exact app_ok (X := X.blk s3 H3 scope ce fp) I10 hD10 hz10 r10 fun s11 I11 => fin I11 nx
  exact codeAny_compStart_list loop (T.self X.A 0 _ _ _ st4 loop)
def tLcI (wi : TI) (g : TG) (tt : L2.St → TT) (te : L2.St → TE) (vs : List Nat) : TE := fun σ H Q => tLc wi g (tt σ) (te σ) vs σ H Q
theorem pe_lcI {elt tg iter : Expr} {ifs : List Expr} {scope : Scope} {own : List (Str × Nat)} {pos : Pos} {wi : TI} {g : TG} {tt : L2.St → TT} {te : L2.St → TE} (hc : X.calm = true) (hN : X.N.Nodup) (hi : PI X tg iter wi) (ok : BlkOk X.N X.env.scope scope own)
    (hg : ∀ (s : Shared) (H : Hp) (C : Addr) (cl : List (Str × Addr)) (fp : List Addr), PG (X.blk s H scope (compEnvC scope cl C X.env) fp) tg g)
    (ht : ∀ (pins : List (Addr × Obj)) (σ : L2.St) (s : Shared) (H : Hp) (C : Addr) (cl : List (Str × Addr)) (fp : List Addr), BI X pins σ H s fp → PTs (X.blk s H scope (compEnvC scope cl C X.env) fp) ifs (tt σ))
    (he : ∀ (pins : List (Addr × Obj)) (σ : L2.St) (s : Shared) (H : Hp) (C : Addr) (cl : List (Str × Addr)) (fp : List Addr), BI X pins σ H s fp → PE (X.blk s H scope (compEnvC scope cl C X.env) fp) elt (te σ)) (hs : ∀ x, foldedSetIterable iter X.env x = pure x := by intro _; rfl) :
    PE X (.ListComp elt [⟨tg, iter, ifs, 0⟩] scope pos) (tLcI wi g tt te (own.map (·.2))) := by
  refine ⟨fun pins s σ H Q I h => ?_⟩
  rw [eval_ListComp]
  refine lcI_core hc hN I hi ok hg (ht pins σ) (he pins σ) hs h fun D C s' m H' I' q hn f => ⟨m, hn, fun h'' sb => ?_⟩
  obtain ⟨f0, f1, f2, f3, f4, f5⟩ := f
  exact ⟨.ref D, H', I'.turned (t' := s'.toks) (fun b o hb e => (sb.2 b hb).trans e) f0 f1 f3 f4 f5, rfl, q⟩
def tLamB (X : Cx) (k : Nat) (TT : (XK → Hp → VK → Prop) → Hp → VK → Prop) (te : TE) (σ : L2.St) : TE := fun σ' H Q => te σ' H fun v H1 => ∃ (l : LamT X k) (f : Addr), v = .ref f ∧ LamAt X l H1 f ∧ TT (fun E H' Q' => l.t E σ H' Q') H1 Q
theorem pe_lamB {pins : List (Addr × Obj)} {σ : L2.St} {H0 : Hp} {s0 : Shared} {fp : List Addr} {scope : Scope} {cenv : Env} {k : Nat} {x a : Str} {TT : (XK → Hp → VK → Prop) → Hp → VK → Prop} {e : Expr} {te : TE} {p pos : Pos} (B : BI X pins σ H0 s0 fp) (D : LFn X x a TT) (hr : Room (k + 2) X.A)
    (ha : PA (X.blk s0 H0 scope cenv fp) [e] (tCons te tNil)) (hg : Gl (X.blk s0 H0 scope cenv fp) x := by rfl) (hdb : (x == ("__debug__" : Str)) = false := by decide)
    (hst : starEach (e :: []) cenv = (false, eval e cenv) :: starEach [] cenv := by rfl) (hpl : (backTo pos (starEach [] cenv)).any (·.1) = false := by rfl) (hd : (a == ("__debug__" : Str)) = false := by decide) (hcd : (a == ("__classdict__" : Str)) = false := by decide) :
    PE (X.blk s0 H0 scope cenv fp) (.Call (.Name x p) [e] [] pos) (tLamB X k TT te σ) := by
  obtain ⟨g0, _, _, _, _, _, _, _, _, _, _, _, _, _, _, hm0, hk0, _⟩ := D.ex
  refine ⟨fun pins' s σ' H Q I h => ?_⟩
  refine wpAny_Call_Name_kw (ld_glob I hg hm0 ?_ hdb)
  let R : V → Hp → Prop := fun v H1 => ∃ (l : LamT X k) (f : Addr), v = .ref f ∧ LamAt X l H1 f ∧ TT (fun E H' Q' => l.t E σ H' Q') H1 Q
  refine PySem.W.callWith_K (h₀ := X.base) I.ok.mod.kin hk0 (thn (ha.run pos pins' s σ' H (fun vs H1 => match vs with | [v] => R v H1 | _ => False) I h) fun us s1 hh => ?_) hst hpl
  obtain ⟨vs, H1, I1, r1, hR⟩ := hh
  match vs, r1, hR with
  | [v], r1, hR =>
  obtain ⟨l, f, ef, hl, q⟩ := hR
  subst ef
  refine ⟨I1.kIn, ?_⟩
  cases r1 with
  | cons ru rn =>
    cases rn
    cases ru
    obtain ⟨g, hm, hk, rc⟩ := lam_run D hr (B.now I1) hl q hd hcd
    rw [hm0] at hm
    cases hm
    refine wpAny_call (codeAny_mono rc fun r s2 hq => ?_)
    cases r with
    | error e => exact (show False from hq).elim
    | ok fl =>
      cases fl with
      | ret u => exact I1.after hq
      | next => exact False.elim hq
      | brk => exact False.elim hq
      | cont => exact False.elim hq
end
end MF
set_option Elab.async false
set_option linter.all false
set_option maxRecDepth 100000
set_option maxHeartbeats 1000000
namespace MF
open PySem PySem.Spec PyProof.Rows L2
def eqs (z : Str) (v : Value) : Bool := match v with
  | .str n _ => n.cps.toList == z.cps.toList
  | _ => false
theorem strEq (a b : Str) : (a.cps.toList == b.cps.toList) = (a == b) := by
  rw [Bool.eq_iff_iff, beq_iff_eq, beq_iff_eq]
  constructor
  · intro h
    obtain ⟨x⟩ := a
    obtain ⟨y⟩ := b
    have : x = y := Array.toList_inj.mp h
    rw [this]
  · intro h; rw [h]
theorem eqs_gives {z : Str} {t : Tok} : ∀ {ys : List Str} {us : List Value}, Vals (ys.map V.str) us → ∀ y ∈ us, MeetsSeq.EqGives y (.str z t) (eqs z y)
  | [], _, .nil => fun y hy => by cases hy
  | n :: ys, _, .cons r h => fun y hy => by
    obtain ⟨t', rfl⟩ := r
    rcases List.mem_cons.mp hy with e | e
    · rw [e]
      exact PySem.SeqRoads2.EqGives.str n z t' t
    · exact eqs_gives h y e
theorem eqs_count {z : Str} : ∀ {ys : List Str} {us : List Value}, Vals (ys.map V.str) us → us.countP (eqs z) = ys.count z
  | [], _, .nil => rfl
  | n :: ys, _, .cons r h => by
    obtain ⟨t', rfl⟩ := r
    have ih := eqs_count (z := z) h
    rw [List.countP_cons, List.count_cons, ih, show eqs z (.str n t') = (n == z) from strEq n z]
def rCntS (K : PySem.W.Frag) : V → List V → Hp → VK → Prop := fun x xs H Q => ∃ (p : Addr) (ys : List Str) (z : Str), x = .ref p ∧ xs = [.str z] ∧ SqL K H p (ys.map V.str) ∧ Q (.int (ys.count z : Nat)) H
theorem mt_lcountS {X : Cx} {K : PySem.W.Frag} (hK : X.K = K := by rfl) : MtR X "list.count" (rCntS K) := by
  subst hK
  intro pins s σ H x xs v us Q I rx rxs h
  obtain ⟨p, ns, k, rfl, rfl, hs, q⟩ := h
  cases rx
  obtain ⟨u, rfl, ru⟩ := rxs.one
  obtain ⟨t, rfl⟩ := ru
  obtain ⟨its, rv, ⟨⟨cls, dd, data, sl⟩, n, ho, hc, hdn, hd⟩, hlen⟩ := I.list hs
  simp only at hc hd
  subst hc hd
  refine call_meets PySem.F.slot_list_count ⟨_, ho, rfl⟩ PySem.F.entry_list_count (PySem.F.args_list_count_2 _ _)
    (SeqAt.list_countAt p its.toArray n dd sl (.str k t) (eqs k)) ⟨ho, fun y hy => (eqs_gives rv y (by simpa using hy)).at _ _, ?_⟩
  have ec : its.toArray.toList.countP (eqs k) = ns.count k := eqs_count rv
  refine ⟨.int (ns.count k : Nat), H, I.tok _, ⟨s.toks, ?_⟩, q⟩
  show Value.int ((its.toArray.toList.countP (eqs k) : Nat) : Int) s.toks = Value.int ((ns.count k : Nat) : Int) s.toks
  rw [ec]
theorem pe_bmK {X : Cx} {K : PySem.W.Frag} {o e : Expr} {es : List Expr} {to : TE} {t : TA} {name : Str} {apos cpos : Pos} {T id : String} {r : V → List V → Hp → VK → Prop} (pa : PlainAttrs T) (slot : Slot T name id) (hty : typeOf (.builtin id) = pure (.type "method_descriptor")) (hm : MtR X id r) (ho : PE X o to) (ha : PA X (e :: es) t)
    (hK : X.K = K := by rfl) (hbase : attributeBase o name X.env (eval o X.env) = eval o X.env := by rfl)
    (hfew : ((backTo cpos (starEach (e :: es) X.env)).all (fun x => !x.1) && (backToKw cpos (keywordEach [] X.env)).all (fun x => x.1.isSome)
      && decide ((e :: es).length + ([] : List Keyword).length + (if ([] : List Keyword).isEmpty then 0 else 1) < 30)) = true := by rfl)
    (hline : (apos.endLine == cpos.line) = true := by rfl) (hs : starEach (e :: es) X.env = (false, eval e X.env) :: starEach es X.env := by rfl) (hplain : (backTo cpos (starEach es X.env)).any (·.1) = false := by rfl) :
    PE X (.Call (.Attribute o name apos) (e :: es) [] cpos) (tBM K T r to t) := hK ▸ pe_bm pa slot hty hm ho ha hbase hfew hline hs hplain
end MF
set_option Elab.async false
set_option linter.all false
set_option maxRecDepth 100000
set_option maxHeartbeats 2000000
namespace MF
open PySem PySem.Spec PyProof.Rows L2 StX
theorem eqb_at {k : Bool} : ∀ {ys : List Bool} {us : List Value}, Vals (ys.map V.bl) us → ∀ y ∈ us, ∀ (A : Around) (s : Shared), SeqAt.EqAt A s y (.bool k) (isBoolOf k y)
  | [], _, .nil => fun y hy => by cases hy
  | b :: ys, _, .cons r h => fun y hy A s => by
    cases r
    rcases List.mem_cons.mp hy with e | e
    · rw [e]
      exact SeqAt.EqAt.bool_bool b k
    · exact eqb_at h y e A s
theorem eqb_count {k : Bool} : ∀ {ys : List Bool} {us : List Value}, Vals (ys.map V.bl) us → us.countP (isBoolOf k) = ys.count k
  | [], _, .nil => rfl
  | b :: ys, _, .cons r h => by
    cases r
    have ih := eqb_count (k := k) h
    rw [List.countP_cons, List.count_cons, ih]
    rfl
def rCntB (K : PySem.W.Frag) : V → List V → Hp → VK → Prop := fun x xs H Q => ∃ (p : Addr) (ys : List Bool) (k : Bool), x = .ref p ∧ xs = [.bl k] ∧ SqL K H p (ys.map V.bl) ∧ Q (.int (ys.count k : Nat)) H
theorem mt_lcountB {X : Cx} : MtR X "list.count" (rCntB X.K) := by
  intro pins s σ H x xs v us Q I rx rxs h
  obtain ⟨p, ys, k, rfl, rfl, hs, q⟩ := h
  cases rx
  obtain ⟨u, rfl, ru⟩ := rxs.one
  obtain rfl : u = Value.bool k := ru
  obtain ⟨its, rv, ⟨⟨cls, dd, data, sl⟩, n, ho, hc, hdn, hd⟩, hlen⟩ := I.list hs
  simp only at hc hd
  subst hc hd
  refine call_meets PySem.F.slot_list_count ⟨_, ho, rfl⟩ PySem.F.entry_list_count (PySem.F.args_list_count_2 _ _)
    (SeqAt.list_countAt p its.toArray n dd sl (.bool k) (isBoolOf k)) ⟨ho, fun y hy => eqb_at rv y (by simpa using hy) _ _, ?_⟩
  have ec : its.toArray.toList.countP (isBoolOf k) = ys.count k := eqb_count rv
  refine ⟨.int (ys.count k : Nat), H, I.tok _, ⟨s.toks, ?_⟩, q⟩
  show Value.int ((its.toArray.toList.countP (isBoolOf k) : Nat) : Int) s.toks = Value.int ((ys.count k : Nat) : Int) s.toks
  rw [ec]
theorem mt_lcountBK {X : Cx} {K : PySem.W.Frag} (h : X.K = K := by rfl) : MtR X "list.count" (rCntB K) := h ▸ mt_lcountB
theorem mt_indexDK {X : Cx} {K : PySem.W.Frag} (hu : X.A.units + 65 < cLine) (h : X.K = K := by rfl) : MtR X "list.index" (rIndexD K) := h ▸ mt_indexD hu
def rIsY (K : PySem.W.Frag) (cls : Value) (a : Addr) (d : Option Addr) : List V → Hp → VK → Prop := fun xs H Q => ∃ (D : Addr) (c : V) (cv : Value) (b : Bool), xs = [.ref a, c] ∧ cls = .ref D ∧ ExcC K D ∧ (∀ u, RelV c u → u = cv) ∧ PySem.W.kitOne K (.ref D) cv = some b ∧ DictSt H d ∧ Q (.bl b) H
theorem call_isY {X : Cx} {a : Addr} {cls : Value} {d : Option Addr} {oe : Obj} {pn : List (Addr × Obj)} (hz : Zc cls d oe) (hf : ∃ vs, oe.data = .fields vs) : CallR (X.suite a ((a, oe) :: pn)) (.builtin "isinstance") (rIsY X.K cls a d) := by
  intro pins s σ H xs us Q I r h
  obtain ⟨D, c, cv, b, e1, rfl, hC, hcv, e, hd, q⟩ := h
  exact call_isX hC hz hf pins s σ H xs us Q I r ⟨c, cv, b, e1, hcv, e, hd, q⟩
def tXfY (K : PySem.W.Frag) (a : Addr) (cls : Value) (d : Option Addr) (f : Str) (te : TE) : TE := fun σ H Q => te σ H fun x H1 => x = .ref a ∧ ∃ (C dd : Addr) (fs : List (Str × V)) (v : V), cls = .ref C ∧ XfC K C ∧ PySem.W.findIn K (.ref C) f = some none ∧ d = some dd ∧ H1 dd = some (.xd fs) ∧ fs.lookup f = some v ∧ Q v H1
theorem pe_xfY {X : Cx} {a : Addr} {oe : Obj} {cls : Value} {d : Option Addr} {pn : List (Addr × Obj)} {e : Expr} {te : TE} {pos : Pos} {n : Str}
    (hz : Zc cls d oe) (hf : ∃ vs, oe.data = .fields vs) (he : PE (X.suite a ((a, oe) :: pn)) e te) (hb : attributeBase e n X.env (eval e X.env) = eval e X.env := by rfl) :
    PE (X.suite a ((a, oe) :: pn)) (.Attribute e n pos) (tXfY X.K a cls d n te) := by
  refine ⟨fun pins s σ H Q I h => ?_⟩
  refine attr_of hb (thn (he.run pins s σ H _ I h) fun u s1 hh => ?_)
  obtain ⟨x, H1, I1, rx, ex, C, dd, fs, v, ec, T, hno, ed, ea, l, q⟩ := hh
  subst ex
  obtain rfl : u = Value.ref a := rx
  subst ec
  subst ed
  obtain ⟨ha, _⟩ := I1.pin (a, oe) (List.mem_append_left _ List.mem_cons_self)
  obtain ⟨vs, hd⟩ := hf
  have hx : ObjOk X.prog X.w H1 s1.heap dd (.xd fs) := I1.hok dd _ ea
  obtain ⟨mA, hns, hr⟩ := hx
  obtain ⟨od, ho, hl⟩ := lookIn_ns hns
  obtain ⟨u, hu, ru⟩ := RelO.some_of (v := v) (o := mA n) (by rw [← l]; exact hr n)
  have J : PySem.W.InstAt s1.heap a oe C (some od) := ⟨ha, hz.1, by unfold PySem.W.notCls; rw [hd] <;> rfl, by rw [hz.2]; exact ho⟩
  exact HandSPX.exc_get I1.kIn J T.ga T.gg T.exC (PySem.W.findObj_own T.hdC hno rfl (by rw [hl, hu])) (handed_of ru) ⟨v, H1, I1.tok _, ru, q⟩
structure ErrC (K : PySem.W.Frag) (C M : Addr) : Prop where
  exc : ExcC K C
  exm : PySem.W.exmOne K (.ref C) (.ref M) = some true
  ve : PySem.W.kitOne K (.ref C) (.type "ValueError") = some true
theorem ErrC.xf {K : PySem.W.Frag} {C M : Addr} (h : ErrC K C M) : XfC K C := ⟨h.exc.hg, h.exc.hk, h.exc.hs, h.exc.hd⟩
inductive Err where
  | order (i : V)
  | unknown (i : V)
  | address
  | day
  | number
  | letter (i : V)
  | holding (i : V)
  | operation (i : V)
  | contra
  | count
  | decode (i : V)
  | note (r w : V)
structure Cls5 where
  order : Addr
  unknown : Addr
  address : Addr
  day : Addr
  number : Addr
  letter : Addr
  holding : Addr
  operation : Addr
  contra : Addr
  count : Addr
  decode : Addr
  note : Addr
def ErrAt (c : Cls5) (cls : Value) (d : Option Addr) (H : Hp) : Err → Prop
  | .order v => cls = .ref c.order ∧ ∃ dd, d = some dd ∧ H dd = some (.xd [("index", v)])
  | .unknown v => cls = .ref c.unknown ∧ ∃ dd, d = some dd ∧ H dd = some (.xd [("index", v)])
  | .address => cls = .ref c.address ∧ d = none
  | .day => cls = .ref c.day ∧ d = none
  | .number => cls = .ref c.number ∧ d = none
  | .letter v => cls = .ref c.letter ∧ ∃ dd, d = some dd ∧ H dd = some (.xd [("letter", v)])
  | .holding v => cls = .ref c.holding ∧ ∃ dd, d = some dd ∧ H dd = some (.xd [("index", v)])
  | .operation v => cls = .ref c.operation ∧ ∃ dd, d = some dd ∧ H dd = some (.xd [("index", v)])
  | .contra => cls = .ref c.contra ∧ d = none
  | .count => cls = .ref c.count ∧ d = none
  | .decode v => cls = .ref c.decode ∧ ∃ dd, d = some dd ∧ H dd = some (.xd [("offset", v)])
  | .note r w => cls = .ref c.note ∧ ∃ dd, d = some dd ∧ H dd = some (.xd [("word", w), ("row", r)])
def errV : Err → List V
  | .order v => [.str "order", v]
  | .unknown v => [.str "unknown", v]
  | .address => [.str "address"]
  | .day => [.str "day"]
  | .number => [.str "number"]
  | _ => []
def TRaised (rk : Err → Prop) (c : Cls5) : (XK → Hp → VK → Prop) → Hp → VK → Prop := fun tl H Q =>
  tl (fun cls d H' => ∃ r, rk r ∧ ErrAt c cls d H' r ∧ ∀ p H2, Same H' H2 → H' p = none → H2 p = some (.tup (errV r)) → Q (.ref p) H2) H (fun _ H' => Q .non H')
def errT : Err → Str × List V
  | .order v => ("InvalidOrder", [v])
  | .unknown v => ("UnknownOrder", [v])
  | .address => ("InvalidAddress", [])
  | .day => ("InvalidDay", [])
  | .number => ("InvalidNumber", [])
  | .letter v => ("UnknownLetter", [v])
  | .holding v => ("NotHolding", [v])
  | .operation v => ("InvalidOperation", [v])
  | .contra => ("Contradiction", [])
  | .count => ("InvalidCount", [])
  | .decode v => ("DecodeError", [v])
  | .note r w => ("NotationError", [r, w])
def ToldAt (H : Hp) (p : Addr) (r : Err) : Prop := match (errT r).2 with
  | [] => H p = some (.tup [.str "error", .str (errT r).1])
  | vs => ∃ l, H p = some (.tup [.str "error", .str (errT r).1, .ref l]) ∧ H l = some (.lst vs)
def TTold (rk : Err → Prop) (c : Cls5) : (XK → Hp → VK → Prop) → Hp → VK → Prop := fun tl H Q =>
  tl (fun cls d H' => ∃ r, rk r ∧ ErrAt c cls d H' r ∧ ∀ p H2, Same H' H2 → H' p = none → ToldAt H2 p r → Q (.ref p) H2) H Q
def wordAt : Nat → Str
  | 0 => "order"
  | 1 => "unknown"
  | 2 => "address"
  | 3 => "day"
  | _ => "number"
end MF
set_option Elab.async false
set_option linter.all false
set_option maxRecDepth 100000
set_option maxHeartbeats 2000000
namespace MF
open PySem PySem.Spec PyProof.Rows L2 StX LamX
theorem pss_no {X : Cx} {ss : List Stmt} : PSs X ss (fun _ _ _ => False) := ⟨fun _ _ _ _ _ _ h => h.elim⟩
theorem ps_no {X : Cx} {st : Stmt} : PS X st (fun _ _ _ => False) := ⟨fun _ _ _ _ _ _ h => h.elim⟩
theorem pe_no {X : Cx} {e : Expr} : PE X e (fun _ _ _ => False) := ⟨fun _ _ _ _ _ _ h => h.elim⟩
theorem passM {X : Cx} {A : Around} {outer : List Env} {s : Shared} {H : Hp} {E : XK} {scope : Scope} {f c' : Addr} : Passes (L2.CX X.prog X.w) (lamCx X A outer s H E scope f c') E := passes_call (W := fun cls d _ H => E cls d H) (takes_of rfl rfl rfl rfl) fun _ _ _ _ h => h
theorem passN {X : Cx} : Passes (L2.CX X.prog X.w) X E0 := fun _ _ _ _ _ _ _ h => by
  obtain ⟨_, _, _, _, _, _, _, _, _, _, _, _, z⟩ := h
  exact z.elim
theorem pe_lamX {X : Cx} {k : Nat} {params : Arguments} {body : Expr} {scope : Scope} {t : XK → TE} {T : List (Addr × Str)} {q : Str} {c P : Addr} {lpos : Pos} (TB : TabB X.base X.mg c P) (hmT : (P, q) ∈ T) (hu : ∀ p ∈ T, p.1 = P → p.2 = q) (hq : X.env.qual ++ "<lambda>" = q) (hcode : X.env.code = .ref c)
    (hdef : defaultsOf params X.env = ([], [])) (L : LamS X.env.scope scope) (bind : ∀ (q : Str) (cl : List (Str × Addr)) (doc pm cv ctv : Value), bindArgs (lamFd q params body scope cl .none doc pm cv ctv) ⟨[], []⟩ = pure [])
    (run : ∀ (A : Around) (outer : List Env) (s : Shared) (H : Hp) (E : XK) (f c' : Addr), Room k (A.deeper (lamEnv X scope s.heap.objs.size f c')) → PE (lamCx X A outer s H E scope f c') body (t E)) :
    PE X (.Lambda params body scope lpos) (tLamE T X (k := k) ⟨none, params, body, scope, t, lamSN_of L, bind, run⟩) := by
  subst hq
  exact pe_lamE (k := k) ⟨none, params, body, scope, t, lamSN_of L, bind, run⟩ rfl TB hcode hmT hu hdef
theorem pe_lamXD {X : Cx} {k : Nat} {x : Str} {params : Arguments} {body : Expr} {scope : Scope} {t : XK → TE} {T : List (Addr × Str)} {q : Str} {c P : Addr} {lpos p0 : Pos} {i0 : Int} {j0 : Nat} (TB : TabB X.base X.mg c P) (hmT : (P, q) ∈ T) (hu : ∀ p ∈ T, p.1 = P → p.2 = q) (hq : X.env.qual ++ "<lambda>" = q) (hcode : X.env.code = .ref c)
    (hdef : params.defaults = [.Constant (.int i0) j0 p0]) (hkw : params.kw_defaults = []) (L : LamSN X.N X.env.scope scope) (hl : scope.names.lookup x = some .local) (bind : ∀ (q : Str) (cl : List (Str × Addr)) (T : Addr) (doc pm cv ctv : Value), ∃ k, bindArgs (lamFd q params body scope cl (.ref T) doc pm cv ctv) ⟨[], []⟩ = seqItems? (.ref T) >>= k ∧ ∀ u, k (some #[u]) = pure [(x, u)])
    (run : ∀ (A : Around) (outer : List Env) (s : Shared) (H : Hp) (E : XK) (f c' : Addr), Room k (A.deeper (lamEnv X scope s.heap.objs.size f c')) → PE (lamCx X A outer s H E scope f c') body (t E)) :
    PE X (.Lambda params body scope lpos) (tLamE T X (k := k) ⟨some x, params, body, scope, t, L, ⟨hl, bind⟩, run⟩) := by
  subst hq
  exact pe_lamD (k := k) ⟨some x, params, body, scope, t, L, ⟨hl, bind⟩, run⟩ rfl TB hcode hmT hu hdef hkw
structure FunC (K : PySem.W.Frag) (x qual : Str) (st : Stmt) (f : Addr) (fd : FuncData) (c : Addr) : Prop where
  ex : ∃ (oc : Value) (od : Option Addr) (kV doc pm : Value) (an : Option Addr) (ct : Value) (osl : Array (Option Value)), fd = PySem.W.fnOf x qual (defArgs st) (defBody st) (defScope st) .none kV doc pm an (.ref c) ct ∧ K.lookup f = some ⟨oc, od, .func fd, osl⟩ ∧ PySem.W.codeIn K (.ref c) qual = true
theorem FunC.ok {P : Program} {w : World} {K : PySem.W.Frag} {mg : Str → Option Value} {base : Heap} {x qual : Str} {st : Stmt} {f c : Addr} {fd : FuncData} {N ps : List Str} {k : Nat} {sp : Sp} (F : FunC K x qual st f fd c) (S : FnScope N ps (defScope st)) (len : ∀ vs H Q E, sp vs H Q E → vs.length = ps.length)
    (hbody : ∀ (A : Around) (outer : List Env) (s : Shared) (H : Hp) (vs : List V) (Q : VK) (E : XK), Room k (A.deeper (envOfC qual (defScope st) s.heap.objs.size f (.ref c))) → sp vs H Q E →
      ∃ t, PSs (cxOf CX0 P w K mg base N qual (defScope st) f (.ref c) A outer s H E).nox (defBody st) t ∧ t { nx := fun _ H' => Q .non H', rt := Q } (start N vs) H) : FnOk P w K mg base CX0 (k + 1) f fd ps sp := by
  obtain ⟨oc, od, kV, doc, pm, an, ct, osl, rfl, lk, hcd⟩ := F.ex
  refine fn_of lk hcd S len fun A outer s H vs Q E hr hsp => ?_
  obtain ⟨t, h, q⟩ := hbody A outer s H vs Q E hr hsp
  exact ⟨t, h.nox, q⟩
theorem GDef.fnX {P : Program} {w : World} {K : PySem.W.Frag} {mg : Str → Option Value} {base : Heap} {k : Nat} {x : Str} {st : Stmt} {ps N : List Str} {sp : Sp} (D : GDef K mg x st ps) (S : FnScope N ps (defScope st)) (len : ∀ vs H Q E, sp vs H Q E → vs.length = ps.length)
    (hbody : ∀ (f : Addr) (cdv : Value) (A : Around) (outer : List Env) (s : Shared) (H : Hp) (vs : List V) (Q : VK) (E : XK), Room k (A.deeper (envOfC x (defScope st) s.heap.objs.size f cdv)) → sp vs H Q E →
      ∃ t, PSs (cxOf (L2.CX P w) P w K mg base N x (defScope st) f cdv A outer s H E) (defBody st) t ∧ t { nx := fun _ H' => Q .non H', rt := Q } (start N vs) H) : GFn P w K mg base (L2.CX P w) (k + 1) x sp :=
  D.fn fun f fd F => by
    obtain ⟨oc, od, kV, doc, pm, an, cdv, ct, osl, rfl, lk, hcd⟩ := F.ex
    exact fn_of lk hcd S len fun A outer s H vs Q E hr hsp => hbody f cdv A outer s H vs Q E hr hsp
theorem MDef.fnX {P : Program} {w : World} {K : PySem.W.Frag} {mg : Str → Option Value} {base : Heap} {k : Nat} {C : Addr} {m qual : Str} {st : Stmt} {ps N : List Str} {sp : Sp} (D : MDef K C m qual st ps) (S : FnScope N ps (defScope st)) (len : ∀ vs H Q E, sp vs H Q E → vs.length = ps.length)
    (hbody : ∀ (f : Addr) (cdv : Value) (A : Around) (outer : List Env) (s : Shared) (H : Hp) (vs : List V) (Q : VK) (E : XK), Room k (A.deeper (envOfC qual (defScope st) s.heap.objs.size f cdv)) → sp vs H Q E →
      ∃ t, PSs (cxOf (L2.CX P w) P w K mg base N qual (defScope st) f cdv A outer s H E) (defBody st) t ∧ t { nx := fun _ H' => Q .non H', rt := Q } (start N vs) H) : MFn P w K mg base (L2.CX P w) (k + 1) C m sp :=
  D.fn fun f fd F => by
    obtain ⟨oc, od, kV, doc, pm, an, cdv, ct, osl, rfl, lk, hcd⟩ := F.ex
    exact fn_of lk hcd S len fun A outer s H vs Q E hr hsp => hbody f cdv A outer s H vs Q E hr hsp
def spLawT (K : PySem.W.Frag) (Ps : List Addr) : Sp := fun vs H Q _ => ∃ (a : Addr) (ns : List Int), vs = [.ref a] ∧ SqL K H a (ns.map V.int) ∧ ns.length ≤ 63 ∧ (∀ P ∈ Ps, H P = some (.tbl #[])) ∧ ∀ H', Q (.bl true) H'
theorem op_neDK {X : Cx} {K : PySem.W.Frag} (hu : X.A.units + 64 < cLine) (h : X.K = K := by rfl) : OpR X (compareOp .NotEq) (rNeD K) := h ▸ op_neD hu
theorem op_eqDK {X : Cx} {K : PySem.W.Frag} (hu : X.A.units + 64 < cLine) (h : X.K = K := by rfl) : OpR X (compareOp .Eq) (rEqD K) := h ▸ op_eqD hu
theorem ExtN.ext {H H' : Hp} (e : ExtN H H') : ∀ b φ, H b = some (.ext φ) → H' b = some (.ext φ) := fun b φ h => e _ _ h fun ps z => by cases z
end MF
set_option Elab.async false
set_option linter.all false
set_option maxRecDepth 100000
set_option maxHeartbeats 2000000
namespace MF
open PySem PySem.Spec PyProof.Rows L2 StX LamX
structure GDefC (K : PySem.W.Frag) (mg : Str → Option Value) (x : Str) (st : Stmt) (ps : List Str) (c : Addr) : Prop where
  ex : ∃ f fd, FunC K x x st f fd c ∧ mg x = some (.ref f) ∧ Binds K fd ps [] ∧ PySem.W.keepIn K (.ref f) = true
theorem GDefC.fn {P : Program} {w : World} {K : PySem.W.Frag} {mg : Str → Option Value} {base : Heap} {CX : CXT} {k : Nat} {x : Str} {st : Stmt} {ps : List Str} {sp : Sp} {c : Addr} (D : GDefC K mg x st ps c) (h : ∀ f fd, FunC K x x st f fd c → FnOk P w K mg base CX k f fd ps sp) : GFn P w K mg base CX k x sp :=
  let ⟨f, fd, a, b, d, e⟩ := D.ex
  ⟨f, raw0 (h f fd a) d, b, e⟩
end MF
set_option Elab.async false
set_option linter.all false
set_option maxRecDepth 100000
set_option maxHeartbeats 2000000
namespace MF
open PySem PySem.Spec PyProof.Rows L2 StX
def oexB (K : PySem.W.Frag) (C : Addr) : Bool := match K.lookup C with
  | some ⟨.type "type", _, .cls cd, sl⟩ => (match cd.mro, sl.toList with
    | .ref C' :: bm, [_, _, _, _, some (.builtin n), _] => C' == C && n == "ValueError.__new__" && cd.hasDict && !cd.hasDel && PySem.HandSPX.refsVE bm
    | _, _ => false)
  | _ => false
theorem oex_cls {K : PySem.W.Frag} {C : Addr} (q : oexB K C = true) : ∃ nm q N bs bm sn sub ab col dd k0 k1 k2 k3 k5, K.lookup C = some (excClassObj nm q C N bs bm true sn sub ab col dd k0 k1 k2 k3 k5 "ValueError.__new__") ∧ PySem.HandSPX.refsVE bm = true := by
  unfold oexB at q
  split at q
  · rename_i dd cd sl hk
    split at q
    · rename_i C' bm k0 k1 k2 k3 n k5 hm hs
      simp only [Bool.and_eq_true, Bool.not_eq_true'] at q
      obtain ⟨⟨⟨⟨e1, e2⟩, e3⟩, e4⟩, e5⟩ := q
      obtain rfl : C' = C := beq_iff_eq.mp e1
      obtain rfl : n = "ValueError.__new__" := beq_iff_eq.mp e2
      obtain ⟨nm, bs, mro, N, qn, hdct, sn, sub, ab, col, del⟩ := cd
      simp only at hm e3 e4
      subst hm e3 e4
      have : sl = #[k0, k1, k2, k3, some (.builtin "ValueError.__new__"), k5] := Array.ext' hs
      subst this
      exact ⟨nm, qn, N, bs, bm, sn, sub, ab, col, dd, k0, k1, k2, k3, k5, hk, e5⟩
    · cases q
  · cases q
theorem oex_of {K : PySem.W.Frag} {C : Addr} (q : oexB K C = true) (sa : PySem.W.findIn K (.ref C) "__setattr__" = some (some (.builtin "object.__setattr__"))) (exC : PySem.W.subIn K (.ref C) (.type "BaseException") = some true) (tyC : PySem.W.typeIn K (.ref C) = some (.type "type")) (kC : PySem.W.keepIn K (.ref C) = true) : OexC K C := ⟨oex_cls q, sa, exC, tyC, kC⟩
end MF
set_option Elab.async false
set_option linter.all false
set_option maxRecDepth 100000
set_option maxHeartbeats 2000000
namespace MF
open PySem PySem.Spec PyProof.Rows L2 StX
theorem SDef.fnX {P : Program} {w : World} {K : PySem.W.Frag} {mg : Str → Option Value} {base : Heap} {k : Nat} {C : Addr} {x qual p1 pv : Str} {st : Stmt} {N : List Str} {sp : Sp} (D : SDef K mg C x qual st p1 pv) (S : FnScope N [p1, pv] (defScope st))
    (hbody : ∀ (f : Addr) (cdv : Value) (A : Around) (outer : List Env) (s : Shared) (H : Hp) (vs : List V) (Q : VK) (E : XK), Room k (A.deeper (envOfC qual (defScope st) s.heap.objs.size f cdv)) → sp vs H Q E →
      ∃ t, PSs (cxOf (L2.CX P w) P w K mg base N qual (defScope st) f cdv A outer s H E) (defBody st) t ∧ t { nx := fun _ H' => Q .non H', rt := Q } (start N vs) H) :
    IFn P w K mg base (L2.CX P w) (k + 1) C x (fun vs H Q E => ∃ v rest, vs = v :: rest ∧ rest.length ≤ sizeLine ∧ ∀ p, H p = Option.none → sp [v, V.ref p] (upd H p (.tup rest)) Q E) := by
  obtain ⟨f, fd, F, M, hm, hb⟩ := D.ex
  obtain ⟨oc, od, kV, doc, pm, an, cdv, ct, osl, rfl, lk, hcd⟩ := F.ex
  refine ⟨f, (fn_star (ps := [p1]) (pv := pv) (sp := sp) lk hcd S cxUp hb fun A outer s H vs Q E hr hsp => hbody f cdv A outer s H vs Q E hr hsp).imp fun vs H Q E h => ?_, M, hm⟩
  obtain ⟨v, rest, rfl, hl, q⟩ := h
  exact ⟨[v], rest, rfl, rfl, hl, q⟩
theorem owns_cx {P : Program} {w : World} {K : PySem.W.Frag} {mg : Str → Option Value} {base : Heap} {N : List Str} {qual : Str} {scope : Scope} {f : Addr} {cd : Value} {A : Around} {outer : List Env} {s : Shared} {H : Hp} {E : XK} :
    PassesOwn (model P w) (cxOf (L2.CX P w) P w K mg base N qual scope f cd A outer s H E).A (cxOf (L2.CX P w) P w K mg base N qual scope f cd A outer s H E).env (cxOf (L2.CX P w) P w K mg base N qual scope f cd A outer s H E).xe :=
  passes_of (X := cxOf (L2.CX P w) P w K mg base N qual scope f cd A outer s H E) rfl
end MF
set_option Elab.async false
set_option linter.all false
set_option maxHeartbeats 1000000
namespace MF
open PySem

def holds (o : Ordr) (x : Str) (d : Int) : Bool := decide (o.src = x) && (decide (o.first ≤ d) && decide (d ≤ o.last))
def ordFor : List Ordr → Str → Int → Option Nat
  | [], _, _ => none
  | o :: os, x, d => if holds o x d = true then some 0 else (ordFor os x d).map (· + 1)
theorem ordFor_some {x : Str} {d : Int} : ∀ {os : List Ordr} {i : Nat}, ordFor os x d = some i → ∃ o, os[i]? = some o ∧ holds o x d = true
  | [], i, h => by cases h
  | o :: os, i, h => by
    unfold ordFor at h
    by_cases q : holds o x d = true
    · rw [if_pos q] at h
      cases h
      exact ⟨o, rfl, q⟩
    · rw [if_neg q] at h
      cases e : ordFor os x d with
      | none => rw [e] at h; cases h
      | some j =>
        rw [e] at h
        cases h
        obtain ⟨p, h1, h2⟩ := ordFor_some e
        exact ⟨p, by simpa using h1, h2⟩
theorem ordFor_is {x : Str} {d : Int} {o : Ordr} : ∀ {os : List Ordr} {i : Nat}, (∀ (j : Nat) p, j < i → os[j]? = some p → holds p x d = false) → os[i]? = some o → holds o x d = true → ordFor os x d = some i
  | [], i, _, h, _ => by simp at h
  | p :: os, 0, _, h, q => by
    simp at h
    subst h
    unfold ordFor
    rw [if_pos q]
  | p :: os, i + 1, hn, h, q => by
    have h0 : holds p x d = false := hn 0 p (Nat.succ_pos _) rfl
    unfold ordFor
    rw [h0, if_neg Bool.false_ne_true, ordFor_is (i := i) (fun j r hj e => hn (j + 1) r (Nat.succ_lt_succ hj) (by simpa using e)) (by simpa using h) q]
    rfl
theorem ordFor_none {x : Str} {d : Int} : ∀ {os : List Ordr}, (∀ p ∈ os, holds p x d = false) → ordFor os x d = none
  | [], _ => rfl
  | p :: os, h => by
    unfold ordFor
    rw [h p (by simp), if_neg Bool.false_ne_true, ordFor_none fun q hq => h q (by simp [hq])]
    rfl
theorem ordFor_none_iff {x : Str} {d : Int} {os : List Ordr} : ordFor os x d = none ↔ ∀ p ∈ os, holds p x d = false := by
  refine ⟨fun h => ?_, ordFor_none⟩
  induction os with
  | nil => intro p hp; cases hp
  | cons o os ih =>
    unfold ordFor at h
    by_cases q : holds o x d = true
    · rw [if_pos q] at h; cases h
    · rw [if_neg q] at h
      have h' : ordFor os x d = none := by
        cases e : ordFor os x d with
        | none => rfl
        | some j => rw [e] at h; cases h
      intro p hp
      rcases List.mem_cons.mp hp with rfl | hp
      · simpa using q
      · exact ih h' p hp
theorem ordFor_congr {x : Str} {d e : Int} : ∀ {os : List Ordr}, (∀ p ∈ os, holds p x d = holds p x e) → ordFor os x d = ordFor os x e
  | [], _ => rfl
  | p :: os, h => by
    unfold ordFor
    rw [h p (by simp), ordFor_congr fun q hq => h q (by simp [hq])]
def changes : List Ordr → Int → List Int
  | [], _ => []
  | o :: os, d => ([o.first, o.last + 1].filter fun c => decide (d < c)) ++ changes os d
theorem mem_changes {d c : Int} : ∀ {os : List Ordr}, c ∈ changes os d ↔ d < c ∧ ∃ o ∈ os, c = o.first ∨ c = o.last + 1
  | [] => by simp [changes]
  | o :: os => by
    unfold changes
    rw [List.mem_append, mem_changes (os := os), List.mem_filter]
    simp only [List.mem_cons, List.not_mem_nil, or_false, decide_eq_true_eq, exists_eq_or_imp]
    constructor
    · rintro (⟨h1, h2⟩ | ⟨h1, o', h2, h3⟩)
      · exact ⟨h2, .inl h1⟩
      · exact ⟨h1, .inr ⟨o', h2, h3⟩⟩
    · rintro ⟨h1, h2 | ⟨o', h2, h3⟩⟩
      · exact .inl ⟨h2, h1⟩
      · exact .inr ⟨h1, o', h2, h3⟩
def leastOf : List Int → Option Int
  | [] => none
  | a :: as => match leastOf as with
    | none => some a
    | some b => some (if a ≤ b then a else b)
theorem leastOf_none {l : List Int} : leastOf l = none ↔ l = [] := by
  cases l with
  | nil => simp [leastOf]
  | cons a as =>
    unfold leastOf
    cases leastOf as <;> simp
theorem leastOf_some : ∀ {l : List Int} {m : Int}, leastOf l = some m ↔ m ∈ l ∧ ∀ c ∈ l, m ≤ c
  | [], m => by simp [leastOf]
  | a :: as, m => by
    unfold leastOf
    cases e : leastOf as with
    | none =>
      have := leastOf_none.mp e
      subst this
      simp only [Option.some.injEq, List.mem_singleton]
      constructor
      · rintro rfl; exact ⟨rfl, fun c hc => by rw [hc]; exact Int.le_refl _⟩
      · rintro ⟨h, _⟩; exact h.symm
    | some b =>
      obtain ⟨hb, hm⟩ := (leastOf_some (l := as) (m := b)).mp e
      simp only [Option.some.injEq, List.mem_cons]
      constructor
      · intro h
        by_cases q : a ≤ b
        · rw [if_pos q] at h
          subst h
          exact ⟨.inl rfl, fun c hc => by
            rcases hc with rfl | hc
            · exact Int.le_refl _
            · have := hm c hc; omega⟩
        · rw [if_neg q] at h
          subst h
          exact ⟨.inr hb, fun c hc => by
            rcases hc with rfl | hc
            · omega
            · exact hm c hc⟩
      · rintro ⟨h1, h2⟩
        have ha := h2 a (.inl rfl)
        have hb' := h2 b (.inr hb)
        rcases h1 with rfl | h1
        · rw [if_pos hb']
        · have := hm m h1
          by_cases q : a ≤ b
          · rw [if_pos q]; omega
          · rw [if_neg q]; omega
def nextCh (os : List Ordr) (d : Int) : Option Int := leastOf (changes os d)
theorem nextCh_gt {os : List Ordr} {d c : Int} (h : nextCh os d = some c) : d < c := (mem_changes.mp (leastOf_some.mp h).1).1
theorem nextCh_const {os : List Ordr} {d e : Int} (hd : d ≤ e) (hc : ∀ c, nextCh os d = some c → e < c) : nextCh os e = nextCh os d := by
  have sub : ∀ c, c ∈ changes os e ↔ c ∈ changes os d := fun c => by
    rw [mem_changes, mem_changes]
    constructor
    · rintro ⟨h1, h2⟩; exact ⟨by omega, h2⟩
    · rintro ⟨h1, h2⟩
      refine ⟨?_, h2⟩
      cases q : nextCh os d with
      | none =>
        have := leastOf_none.mp q
        have hm : c ∈ changes os d := mem_changes.mpr ⟨h1, h2⟩
        rw [this] at hm; cases hm
      | some m =>
        have := (leastOf_some.mp q).2 c (mem_changes.mpr ⟨h1, h2⟩)
        have := hc m q
        omega
  unfold nextCh
  cases q : leastOf (changes os d) with
  | none =>
    have h0 := leastOf_none.mp q
    refine leastOf_none.mpr ?_
    cases r : changes os e with
    | nil => rfl
    | cons a as =>
      have : a ∈ changes os d := (sub a).mp (by rw [r]; simp)
      rw [h0] at this; cases this
  | some m =>
    obtain ⟨h1, h2⟩ := leastOf_some.mp q
    exact leastOf_some.mpr ⟨(sub m).mpr h1, fun c hc' => h2 c ((sub c).mp hc')⟩
theorem ordFor_const {os : List Ordr} {x : Str} {d e : Int} (hd : d ≤ e) (hc : ∀ c ∈ changes os d, e < c) : ordFor os x e = ordFor os x d := by
  refine ordFor_congr fun o ho => ?_
  have h1 : d < o.first → e < o.first := fun h => hc _ (mem_changes.mpr ⟨h, o, ho, .inl rfl⟩)
  have h2 : d < o.last + 1 → e < o.last + 1 := fun h => hc _ (mem_changes.mpr ⟨h, o, ho, .inr rfl⟩)
  have e1 : decide (o.first ≤ e) = decide (o.first ≤ d) := by
    by_cases q : o.first ≤ d
    · rw [decide_eq_true q, decide_eq_true (by omega)]
    · rw [decide_eq_false q, decide_eq_false (by omega)]
  have e2 : decide (e ≤ o.last) = decide (d ≤ o.last) := by
    by_cases q : d ≤ o.last
    · rw [decide_eq_true q, decide_eq_true (by omega)]
    · rw [decide_eq_false q, decide_eq_false (by omega)]
  unfold holds
  rw [e1, e2]

abbrev Pt := Str × Int
def nxt (os : List Ordr) (s : Pt) : Option Pt := (ordFor os s.1 s.2).bind fun i => os[i]?.map fun o => (o.tgt, s.2 + o.way)
inductive Go (os : List Ordr) : Pt → Nat → Pt → Prop
  | refl (s : Pt) : Go os s 0 s
  | step {s s' t : Pt} {n : Nat} (h : nxt os s = some s') (r : Go os s' n t) : Go os s (n + 1) t
def Ends (os : List Ordr) (s : Pt) (n : Nat) (t : Pt) : Prop := Go os s n t ∧ nxt os t = none
theorem nxt_of {os : List Ordr} {x : Str} {d : Int} {i : Nat} {o : Ordr} (h : ordFor os x d = some i) (e : os[i]? = some o) : nxt os (x, d) = some (o.tgt, d + o.way) := by
  unfold nxt
  simp only [h, Option.bind_some, e, Option.map_some]
theorem nxt_none {os : List Ordr} {x : Str} {d : Int} : nxt os (x, d) = none ↔ ordFor os x d = none := by
  unfold nxt
  cases h : ordFor os x d with
  | none => simp
  | some i =>
    obtain ⟨o, e, _⟩ := ordFor_some h
    simp [e]
theorem nxt_some {os : List Ordr} {s s' : Pt} (h : nxt os s = some s') : ∃ i o, ordFor os s.1 s.2 = some i ∧ os[i]? = some o ∧ holds o s.1 s.2 = true ∧ s' = (o.tgt, s.2 + o.way) := by
  obtain ⟨x, d⟩ := s
  unfold nxt at h
  cases q : ordFor os x d with
  | none => simp [q] at h
  | some i =>
    obtain ⟨o, e, ho⟩ := ordFor_some q
    simp [q, e] at h
    exact ⟨i, o, rfl, e, ho, h.symm⟩
theorem Go.trans {os : List Ordr} {s t u : Pt} {n m : Nat} (a : Go os s n t) (b : Go os t m u) : Go os s (n + m) u := by
  induction a with
  | refl s => rw [Nat.zero_add]; exact b
  | step h r ih => rw [Nat.succ_add]; exact .step h (ih b)
theorem Go.one {os : List Ordr} {s t : Pt} (h : nxt os s = some t) : Go os s 1 t := .step h (.refl t)
theorem Go.det {os : List Ordr} {s t u : Pt} {n : Nat} (a : Go os s n t) (b : Go os s n u) : t = u := by
  induction a with
  | refl s => cases b; rfl
  | step h r ih =>
    cases b with
    | step h' r' => rw [h] at h'; cases h'; exact ih r'
theorem Ends.after {os : List Ordr} {s t u : Pt} {n m : Nat} (e : Ends os s n t) (g : Go os s m u) : m ≤ n ∧ Ends os u (n - m) t := by
  induction g generalizing n with
  | refl s => exact ⟨Nat.zero_le _, e⟩
  | step h r ih =>
    obtain ⟨a, b⟩ := e
    cases a with
    | refl => rw [b] at h; cases h
    | step h' r' =>
      rw [h] at h'
      cases h'
      obtain ⟨h1, h2⟩ := ih ⟨r', b⟩
      exact ⟨Nat.succ_le_succ h1, by rw [Nat.succ_sub_succ]; exact h2⟩
theorem Ends.before {os : List Ordr} {s t u : Pt} {n m : Nat} (g : Go os s m u) (e : Ends os u n t) : Ends os s (m + n) t := ⟨g.trans e.1, e.2⟩
theorem Ends.uniq {os : List Ordr} {s t u : Pt} {n m : Nat} (a : Ends os s n t) (b : Ends os s m u) : n = m ∧ t = u := by
  obtain ⟨h1, h2⟩ := a.after b.1
  obtain ⟨h3, h4⟩ := b.after a.1
  have e : n = m := Nat.le_antisymm h3 h1
  subst e
  exact ⟨rfl, a.1.det b.1⟩
structure Fine (os : List Ordr) (M : Int) : Prop where
  way : ∀ o ∈ os, 1 ≤ o.way
  last : ∀ o ∈ os, o.last ≤ M
theorem Good.fine {os : List Ordr} (g : Good os) : Fine os 1000000000000000000 := ⟨fun o h => (g.ok o h).w1, fun o h => (g.ok o h).lm⟩
theorem nxt_day {os : List Ordr} {M : Int} (f : Fine os M) {s s' : Pt} (h : nxt os s = some s') : s.2 < s'.2 ∧ s.2 ≤ M := by
  obtain ⟨i, o, h1, h2, h3, rfl⟩ := nxt_some h
  have ho : o ∈ os := List.mem_of_getElem? h2
  have := f.way o ho
  have := f.last o ho
  simp only [holds, Bool.and_eq_true, decide_eq_true_eq] at h3
  refine ⟨?_, by omega⟩
  show s.2 < s.2 + o.way
  omega
theorem Go.day {os : List Ordr} {M : Int} (f : Fine os M) {s t : Pt} {n : Nat} (g : Go os s n t) : s.2 + (n : Int) ≤ t.2 := by
  induction g with
  | refl s => simp
  | step h r ih =>
    have := (nxt_day f h).1
    push_cast
    omega
theorem ends_ex {os : List Ordr} {M : Int} (f : Fine os M) : ∀ s : Pt, ∃ n t, Ends os s n t := by
  have all : ∀ (k : Nat) (s : Pt), (M + 1 - s.2).toNat ≤ k → ∃ n t, Ends os s n t := by
    intro k
    induction k with
    | zero =>
      intro s hs
      refine ⟨0, s, .refl s, ?_⟩
      cases q : nxt os s with
      | none => rfl
      | some s' => have := nxt_day f q; omega
    | succ k ih =>
      intro s hs
      cases q : nxt os s with
      | none => exact ⟨0, s, .refl s, q⟩
      | some s' =>
        have := nxt_day f q
        obtain ⟨n, t, h1, h2⟩ := ih s' (by omega)
        exact ⟨n + 1, t, .step q h1, h2⟩
  exact fun s => all _ s (Nat.le_refl _)
theorem Go.shift {os : List Ordr} {M : Int} (f : Fine os M) {hi δ : Int} (h0 : 0 ≤ δ) {s t : Pt} {n : Nat} (g : Go os s n t) (hc : ∀ c ∈ changes os s.2, hi < c) (ht : t.2 + δ ≤ hi) : Go os (s.1, s.2 + δ) n (t.1, t.2 + δ) := by
  induction g with
  | refl s => exact .refl _
  | @step s s' t n h r ih =>
    have hd := (nxt_day f h).1
    have hl := r.day f
    have hle : s.2 + δ ≤ hi := by omega
    obtain ⟨i, o, h1, h2, h3, e⟩ := nxt_some h
    have e1 : ordFor os s.1 (s.2 + δ) = some i := by
      rw [← h1]
      exact ordFor_const (by omega) fun c hc' => by have := hc c hc'; omega
    have e2 : nxt os (s.1, s.2 + δ) = some (s'.1, s'.2 + δ) := by
      rw [nxt_of e1 h2, e]
      simp only [Option.some.injEq, Prod.mk.injEq, true_and]
      omega
    refine .step e2 (ih (fun c hc' => hc c ?_) ht)
    obtain ⟨q1, q2⟩ := mem_changes.mp hc'
    exact mem_changes.mpr ⟨by omega, q2⟩
theorem Go.rounds {os : List Ordr} {M : Int} (f : Fine os M) {x : Str} {d d1 hi : Int} {k : Nat} (g : Go os (x, d1) k (x, d)) (hd : d1 ≤ d) (hc : ∀ c ∈ changes os d1, hi < c) : ∀ j : Nat, d + (j : Int) * (d - d1) ≤ hi → Go os (x, d) (j * k) (x, d + (j : Int) * (d - d1))
  | 0, _ => by simp; exact .refl _
  | j + 1, h => by
    have hp : 0 ≤ (j : Int) * (d - d1) := Int.mul_nonneg (Int.natCast_nonneg _) (by omega)
    have e : ((j + 1 : Nat) : Int) * (d - d1) = (j : Int) * (d - d1) + (d - d1) := by
      push_cast
      rw [Int.add_mul, Int.one_mul]
    rw [e] at h ⊢
    have a := Go.rounds f g hd hc j (by omega)
    have b := Go.shift f (δ := (j : Int) * (d - d1) + (d - d1)) (by omega) g hc (by show d + _ ≤ hi; omega)
    have e3 : (x, d1 + ((j : Int) * (d - d1) + (d - d1))) = (x, d + (j : Int) * (d - d1)) := by
      congr 1
      omega
    have b' : Go os (x, d + (j : Int) * (d - d1)) k (x, d + ((j : Int) * (d - d1) + (d - d1))) := by
      rw [← e3]
      exact b
    rw [Nat.succ_mul]
    exact a.trans b'
end MF
set_option Elab.async false
set_option linter.all false
set_option maxRecDepth 100000
set_option maxHeartbeats 1000000
namespace MF
open PySem PySem.Spec PyProof.Rows L2 StX
def routeL (os : List Ordr) : Nat → Pt → List Pt
  | 0, _ => []
  | n + 1, s => s :: (match nxt os s with
    | none => []
    | some t => routeL os n t)
theorem routeL_len {os : List Ordr} : ∀ {n : Nat} {s : Pt}, (routeL os n s).length ≤ n
  | 0, s => Nat.le_refl _
  | n + 1, s => by
    unfold routeL
    cases nxt os s with
    | none => simp
    | some t => have := routeL_len (os := os) (n := n) (s := t); simp only [List.length_cons]; omega
theorem routeL_go {os : List Ordr} : ∀ {n i : Nat} {s t : Pt}, (routeL os n s)[i]? = some t ↔ i < n ∧ Go os s i t
  | 0, i, s, t => by unfold routeL; simp
  | n + 1, 0, s, t => by
    unfold routeL
    constructor
    · intro h; simp at h; subst h; exact ⟨by omega, .refl _⟩
    · rintro ⟨_, h⟩; cases h; simp
  | n + 1, i + 1, s, t => by
    unfold routeL
    cases e : nxt os s with
    | none =>
      simp only [List.getElem?_cons_succ, List.getElem?_nil]
      constructor
      · intro h; cases h
      · rintro ⟨_, h⟩
        cases h with
        | step h1 h2 => rw [e] at h1; cases h1
    | some u =>
      simp only [List.getElem?_cons_succ]
      rw [routeL_go]
      constructor
      · rintro ⟨h1, h2⟩; exact ⟨by omega, .step e h2⟩
      · rintro ⟨h1, h2⟩
        cases h2 with
        | step h3 h4 => rw [e] at h3; cases h3; exact ⟨by omega, h4⟩
theorem routeL_mem {os : List Ordr} {n : Nat} {s t : Pt} : t ∈ routeL os n s ↔ ∃ i, i < n ∧ Go os s i t := by
  rw [List.mem_iff_getElem?]
  constructor
  · rintro ⟨i, h⟩; exact ⟨i, routeL_go.mp h⟩
  · rintro ⟨i, h⟩; exact ⟨i, routeL_go.mpr h⟩
theorem routeL_short {os : List Ordr} : ∀ {n : Nat} {s : Pt}, (routeL os n s).length < n → ∃ t, Ends os s ((routeL os n s).length - 1) t ∧ (routeL os n s)[(routeL os n s).length - 1]? = some t ∧ 1 ≤ (routeL os n s).length
  | 0, s, h => absurd h (Nat.not_lt_zero _)
  | n + 1, s, h => by
    unfold routeL at h ⊢
    cases e : nxt os s with
    | none => simp only [List.length_cons, List.length_nil]; exact ⟨s, ⟨.refl _, e⟩, rfl, Nat.le_refl _⟩
    | some u =>
      rw [e] at h
      simp only [List.length_cons] at h ⊢
      obtain ⟨t, h1, h2, h3⟩ := routeL_short (os := os) (n := n) (s := u) (by omega)
      obtain ⟨m, hm⟩ : ∃ m, (routeL os n u).length = m + 1 := ⟨_, (Nat.sub_add_cancel h3).symm⟩
      rw [hm] at h1 h2 ⊢
      refine ⟨t, ⟨.step e h1.1, h1.2⟩, ?_, by omega⟩
      simp only [Nat.add_sub_cancel, List.getElem?_cons_succ] at h2 ⊢
      exact h2
theorem routeL_full {os : List Ordr} {n : Nat} {s : Pt} {N : Nat} {t : Pt} (e : Ends os s N t) (h : N < n) : (routeL os n s).length = N + 1 := by
  have h1 : (routeL os n s)[N]? = some t := routeL_go.mpr ⟨h, e.1⟩
  have h2 := (List.getElem?_eq_some_iff.mp h1).1
  by_cases c : (routeL os n s).length = N + 1
  · exact c
  · have h3 : N + 1 < (routeL os n s).length := by omega
    have h4 : (routeL os n s)[N + 1]? = some ((routeL os n s)[N + 1]) := List.getElem?_eq_getElem h3
    obtain ⟨_, g⟩ := routeL_go.mp h4
    have := (e.after g).1
    omega
structure PGn (P : Program) (w : World) (K : PySem.W.Frag) (mg : Str → Option Value) (base : Heap) (k : Nat) (x : Str) (sp : SpG) : Prop where
  ex : ∃ f fd ps, L2.GFn P w K mg base k f fd ps sp ∧ mg x = some (.ref f) ∧ PySem.W.keepIn K (.ref f) = true ∧ Binds K fd ps []
theorem passCX {X : Cx} : Passes (CX X.prog X.w) X E0 := fun _ _ _ _ _ _ _ ⟨_, _, _, _, _, _, _, _, _, _, _, _, h⟩ => h.elim
theorem noStop0 {K : PySem.W.Frag} : NoStop K E0 := fun _ _ _ h => h.elim
theorem pe_listGn {X : Cx} {k : Nat} {x : Str} {sp : SpG} {e : Expr} {es : List Expr} {t : TA} {p p' pos pos' : Pos} (G : PGn X.prog X.w X.K X.mg X.base k x sp) (hr : Room (k + 3) X.A) (hmg : X.mg "list" = none) (ha : PA X (e :: es) t)
    (hg : Gl X "list" := by rfl) (hx : Gl X x := by rfl) (hdb : (x == ("__debug__" : Str)) = false := by decide) (he : starEach (e :: es) X.env = (false, eval e X.env) :: starEach es X.env := by rfl) (hpl : (backTo pos' (starEach es X.env)).any (·.1) = false := by rfl)
    (he' : starEach [.Call (.Name x p') (e :: es) [] pos'] X.env = (false, eval (.Call (.Name x p') (e :: es) [] pos') X.env) :: starEach [] X.env := by rfl) :
    PE X (.Call (.Name "list" p) [.Call (.Name x p') (e :: es) [] pos'] [] pos) (tListG (tCallG sp [] E0 t)) := by
  obtain ⟨f, fd, ps, F, hm, hk, hb⟩ := G.ex
  exact pe_listG (pgen_call F (hr.mono (by omega)) hx hm hk hb .nil ha hdb he hpl) passCX noStop0 hr hg hmg rfl (by decide) (by decide) he'
theorem GDef.gen {P : Program} {w : World} {K : PySem.W.Frag} {mg : Str → Option Value} {base : Heap} {k : Nat} {x : Str} {st : Stmt} {ps N : List Str} {sp : SpG} (D : GDef K mg x st ps) (S : GScope N ps (defScope st)) (len : ∀ vs H Q E, sp vs H Q E → vs.length = ps.length)
    (hbody : ∀ (f : Addr) (cdv : Value) (A : Around) (outer : List Env) (s : Shared) (H : Hp) (vs : List V) (Q : List V → Hp → Prop) (E : XK) (pn : List (Addr × Obj)), Room k (A.deeper (envOfC x (defScope st) s.heap.objs.size f cdv)) → sp vs H Q E →
      ∃ t, GSs (gcxOf P w K mg base N x (defScope st) f cdv A outer s H E pn) (defBody st) t ∧ t { nx := fun ys _ H' => Q ys H', rt := fun ys v H' => v = .non ∧ Q ys H' } [] (start N vs) H) : PGn P w K mg base (k + 1) x sp := by
  obtain ⟨f, fd, F, hm, hb⟩ := D.ex
  have kp := F.kp
  obtain ⟨oc, od, kV, doc, pm, an, cdv, ct, osl, rfl, lk, hcd⟩ := F.ex
  exact ⟨f, _, ps, gfn_of lk hcd S len fun A outer s H vs Q E pn hr hsp => hbody f cdv A outer s H vs Q E pn hr hsp, hm, kp, hb⟩
end MF
set_option Elab.async false
set_option linter.all false
set_option maxRecDepth 100000
set_option maxHeartbeats 1000000
namespace MF
open PySem PySem.Spec PyProof.Rows L2 StX
theorem IDef.fnX {P : Program} {w : World} {K : PySem.W.Frag} {mg : Str → Option Value} {base : Heap} {k : Nat} {C : Addr} {x qual : Str} {st : Stmt} {ps N : List Str} {sp : Sp} (D : IDef K mg C x qual st ps) (S : FnScope N ps (defScope st)) (len : ∀ vs H Q E, sp vs H Q E → vs.length = ps.length)
    (hbody : ∀ (f : Addr) (cdv : Value) (A : Around) (outer : List Env) (s : Shared) (H : Hp) (vs : List V) (Q : VK) (E : XK), Room k (A.deeper (envOfC qual (defScope st) s.heap.objs.size f cdv)) → sp vs H Q E →
      ∃ t, PSs (cxOf (L2.CX P w) P w K mg base N qual (defScope st) f cdv A outer s H E) (defBody st) t ∧ t { nx := fun _ H' => Q .non H', rt := Q } (start N vs) H) : IFn P w K mg base (L2.CX P w) (k + 1) C x sp :=
  D.fn fun f fd F => by
    obtain ⟨oc, od, kV, doc, pm, an, cdv, ct, osl, rfl, lk, hcd⟩ := F.ex
    exact fn_of lk hcd S len fun A outer s H vs Q E hr hsp => hbody f cdv A outer s H vs Q E hr hsp
theorem call_len_seqK {X : Cx} {K : PySem.W.Frag} (h : X.K = K := by rfl) : CallR X (.builtin "len") (fun xs H Q => ∃ p ys, xs = [.ref p] ∧ (SqL K H p ys ∨ SqT K H p ys) ∧ Q (.int ys.length) H) := h ▸ call_len_seq
theorem bind_star3 {B : List Value → Sem (List (Str × Value))} {p1 p2 p3 pv : Str} (h0 : ∀ a b c, B [a, b, c] = (newTuple [] >>= fun t => pure [(p1, a), (p2, b), (p3, c), (pv, t)])) (h1 : ∀ a b c r rs, B (a :: b :: c :: r :: rs) = (newTuple (r :: rs) >>= fun t => pure [(p1, a), (p2, b), (p3, c), (pv, t)])) :
    ∀ us rest : List Value, us.length = [p1, p2, p3].length → B (us ++ rest) = (newTuple rest >>= fun t => pure ([p1, p2, p3].zip us ++ [(pv, t)])) := by
  intro us rest hl
  match us, hl with
  | [a, b, c], _ =>
    cases rest with
    | nil => exact h0 a b c
    | cons r rs => exact h1 a b c r rs
theorem pe_mkSN {X : Cx} {CX : CXT} {k i : Nat} {C : Addr} {x y : Str} {sp : Sp} {E : XK} {e : Expr} {es : List Expr} {t : TA} {p pos : Pos} (G : IFn X.prog X.w X.K X.mg X.base CX k C y sp) (hr : Room (k + 1) X.A) (hx : Passes CX X E) (hN : X.N[i]? = some x) (hv : Vis X.env.scope x) (ha : PA X (e :: es) t)
    (hdb : (x == ("__debug__" : Str)) = false := by decide) (hcd : (x == ("__classdict__" : Str)) = false := by decide)
    (he : starEach (e :: es) X.env = (false, eval e X.env) :: starEach es X.env := by rfl) (hpl : (backTo pos (starEach es X.env)).any (·.1) = false := by rfl) : PE X (.Call (.Name x p) (e :: es) [] pos) (tMkL i C sp E t) := by
  obtain ⟨f, F, M, hm⟩ := G.ex
  refine ⟨fun pins s σ H Q I h => ?_⟩
  obtain ⟨hs, ht⟩ := h
  refine wpAny_Call_Name_kw (thn ((pe_var (pos := p) hN hv hdb hcd).run pins s σ H (fun v H1 => v = .ref C ∧ H1 = H) I ⟨.ref C, hs, rfl, rfl⟩) fun u s1 ⟨v, H1, I1, r1, q1⟩ => ?_)
  obtain ⟨rfl, rfl⟩ := q1
  cases r1
  refine PySem.W.callWith_K (h₀ := X.base) I.ok.mod.kin M.kp (thn (ha.run pos pins s1 σ _ _ I1 ht) fun us s2 ⟨vs, H2, I2, r, q⟩ => ⟨I2.kIn, ?_⟩) he hpl
  exact run_makeR M F hr hx I2 r q
end MF
set_option Elab.async false
set_option linter.all false
set_option maxHeartbeats 1000000
namespace MF
open PySem

abbrev Pr := Pt × Pt
def norm (A B : Pt) : Pr := if B.2 < A.2 then (B, A) else (A, B)
def nstep (os : List Ordr) (p : Pr) : Option Pr := (nxt os p.1).map fun e => norm e p.2
inductive MGo (os : List Ordr) : Pr → Nat → Pr → Prop
  | refl (p : Pr) : MGo os p 0 p
  | step {p p' r : Pr} {n : Nat} (ne : p.1 ≠ p.2) (h : nstep os p = some p') (g : MGo os p' n r) : MGo os p (n + 1) r
def Meets (os : List Ordr) (p : Pr) (r : Option Pt) : Prop := (∃ n A, MGo os p n (A, A) ∧ r = some A) ∨ ∃ n q, MGo os p n q ∧ q.1 ≠ q.2 ∧ nxt os q.1 = none ∧ r = none
theorem MGo.trans {os : List Ordr} {p q r : Pr} {n m : Nat} (a : MGo os p n q) (b : MGo os q m r) : MGo os p (n + m) r := by
  induction a with
  | refl p => rw [Nat.zero_add]; exact b
  | step ne h g ih => rw [Nat.succ_add]; exact .step ne h (ih b)
theorem Meets.after {os : List Ordr} {p q : Pr} {r : Option Pt} {n : Nat} (g : MGo os p n q) (m : Meets os p r) : Meets os q r := by
  induction g with
  | refl p => exact m
  | step ne h g ih =>
    refine ih ?_
    rcases m with ⟨k, A, a, e⟩ | ⟨k, R, a, b, c, e⟩
    · cases a with
      | refl => exact absurd rfl ne
      | step ne' h' g' => rw [h] at h'; cases h'; exact .inl ⟨_, A, g', e⟩
    · cases a with
      | refl =>
        unfold nstep at h
        rw [c] at h
        cases h
      | step ne' h' g' => rw [h] at h'; cases h'; exact .inr ⟨_, R, g', b, c, e⟩
theorem Meets.before {os : List Ordr} {p q : Pr} {r : Option Pt} {n : Nat} (g : MGo os p n q) (m : Meets os q r) : Meets os p r := by
  rcases m with ⟨k, A, a, e⟩ | ⟨k, R, a, b, c, e⟩
  · exact .inl ⟨_, A, g.trans a, e⟩
  · exact .inr ⟨_, R, g.trans a, b, c, e⟩
theorem Meets.same {os : List Ordr} {A : Pt} {r : Option Pt} (m : Meets os (A, A) r) : r = some A := by
  rcases m with ⟨k, B, a, e⟩ | ⟨k, R, a, b, c, e⟩
  · cases a with
    | refl => exact e
    | step ne _ _ => exact absurd rfl ne
  · cases a with
    | refl => exact absurd rfl b
    | step ne _ _ => exact absurd rfl ne
theorem Meets.none {os : List Ordr} {p : Pr} {r : Option Pt} (m : Meets os p r) (ne : p.1 ≠ p.2) (h : nxt os p.1 = none) : r = none := by
  rcases m with ⟨k, B, a, e⟩ | ⟨k, R, a, b, c, e⟩
  · cases a with
    | refl => exact absurd rfl ne
    | step _ h' _ =>
      unfold nstep at h'
      rw [h] at h'
      cases h'
  · exact e
theorem norm_le (A B : Pt) : (norm A B).1.2 ≤ (norm A B).2.2 := by
  unfold norm
  split
  · show B.2 ≤ A.2; omega
  · show A.2 ≤ B.2; omega
theorem norm_sum (A B : Pt) : (norm A B).1.2 + (norm A B).2.2 = A.2 + B.2 := by
  unfold norm
  split
  · show B.2 + A.2 = _; omega
  · rfl
theorem MGo.days {os : List Ordr} {M : Int} (f : Fine os M) {p q : Pr} {n : Nat} (g : MGo os p n q) (hp : p.1.2 ≤ p.2.2) : p.1.2 + p.2.2 + (n : Int) ≤ q.1.2 + q.2.2 ∧ p.1.2 ≤ q.1.2 ∧ q.1.2 ≤ q.2.2 := by
  induction g with
  | refl p => exact ⟨by simp, Int.le_refl _, hp⟩
  | @step p p' r n ne h g ih =>
    unfold nstep at h
    cases q : nxt os p.1 with
    | none => rw [q] at h; cases h
    | some e =>
      rw [q] at h
      have hpe : norm e p.2 = p' := Option.some.inj h
      subst hpe
      have h1 := (nxt_day f q).1
      have h2 := norm_sum e p.2
      have h3 := norm_le e p.2
      obtain ⟨i1, i2, i3⟩ := ih h3
      have h4 : p.1.2 ≤ (norm e p.2).1.2 := by
        unfold norm
        split
        · exact hp
        · show p.1.2 ≤ e.2; omega
      refine ⟨?_, by omega, i3⟩
      push_cast
      omega
def shiftP (p : Pr) (δ : Int) : Pr := ((p.1.1, p.1.2 + δ), (p.2.1, p.2.2 + δ))
theorem shift_inj {p : Pr} {δ : Int} (z : (shiftP p δ).1 = (shiftP p δ).2) : p.1 = p.2 := by
  obtain ⟨⟨a, b⟩, ⟨c, d⟩⟩ := p
  simp only [shiftP, Prod.mk.injEq] at z ⊢
  exact ⟨z.1, by omega⟩
theorem norm_shift (A B : Pt) (δ : Int) : norm (A.1, A.2 + δ) (B.1, B.2 + δ) = shiftP (norm A B) δ := by
  unfold norm shiftP
  by_cases h : B.2 < A.2
  · rw [if_pos h, if_pos (show B.2 + δ < A.2 + δ by omega)]
  · rw [if_neg h, if_neg (show ¬ B.2 + δ < A.2 + δ by omega)]
theorem MGo.shift {os : List Ordr} {M : Int} (f : Fine os M) {hi δ : Int} (h0 : 0 ≤ δ) {p q : Pr} {n : Nat} (g : MGo os p n q) (hp : p.1.2 ≤ p.2.2) (hc : ∀ c ∈ changes os p.1.2, hi < c) (hq : q.1.2 + δ ≤ hi) : MGo os (shiftP p δ) n (shiftP q δ) := by
  induction g with
  | refl p => exact .refl _
  | @step p p' r n ne h g ih =>
    have hh := h
    unfold nstep at h
    cases q : nxt os p.1 with
    | none => rw [q] at h; cases h
    | some e =>
      rw [q] at h
      have hpe : norm e p.2 = p' := Option.some.inj h
      subst hpe
      have h1 := (nxt_day f q).1
      have h3 := norm_le e p.2
      have d2 := g.days f h3
      have h4 : p.1.2 ≤ (norm e p.2).1.2 := by
        unfold norm
        split
        · exact hp
        · show p.1.2 ≤ e.2; omega
      obtain ⟨i, o, g1, g2, g3, eE⟩ := nxt_some q
      have e1 : ordFor os p.1.1 (p.1.2 + δ) = some i := by
        rw [← g1]
        exact ordFor_const (by omega) fun c hc' => by have := hc c hc'; omega
      have e2 : nxt os (shiftP p δ).1 = some (e.1, e.2 + δ) := by
        show nxt os (p.1.1, p.1.2 + δ) = _
        rw [nxt_of e1 g2, eE]
        simp only [Option.some.injEq, Prod.mk.injEq, true_and]
        omega
      have e3 : nstep os (shiftP p δ) = some (shiftP (norm e p.2) δ) := by
        unfold nstep
        rw [e2]
        show some (norm (e.1, e.2 + δ) (p.2.1, p.2.2 + δ)) = _
        rw [norm_shift]
      refine .step (fun z => ne (shift_inj z)) e3 (ih h3 (fun c hc' => hc c ?_) hq)
      obtain ⟨q1, q2⟩ := mem_changes.mp hc'
      exact mem_changes.mpr ⟨by omega, q2⟩
theorem MGo.rounds {os : List Ordr} {M : Int} (f : Fine os M) {p : Pr} {δ hi : Int} {k : Nat} (g : MGo os p k (shiftP p δ)) (hp : p.1.2 ≤ p.2.2) (hd : 0 ≤ δ) (hc : ∀ c ∈ changes os p.1.2, hi < c) : ∀ j : Nat, p.1.2 + δ + (j : Int) * δ ≤ hi → MGo os (shiftP p δ) (j * k) (shiftP p (δ + (j : Int) * δ))
  | 0, _ => by simp; exact .refl _
  | j + 1, h => by
    have hj : 0 ≤ (j : Int) * δ := Int.mul_nonneg (Int.natCast_nonneg _) hd
    have e : ((j + 1 : Nat) : Int) * δ = (j : Int) * δ + δ := by
      push_cast
      rw [Int.add_mul, Int.one_mul]
    rw [e] at h ⊢
    have a := MGo.rounds f g hp hd hc j (by omega)
    have b := MGo.shift f (δ := δ + (j : Int) * δ) (by omega) g hp hc (by show p.1.2 + δ + _ ≤ hi; omega)
    have e3 : shiftP (shiftP p δ) (δ + (j : Int) * δ) = shiftP p (δ + ((j : Int) * δ + δ)) := by
      unfold shiftP
      simp only [Prod.mk.injEq, true_and]
      constructor <;> omega
    rw [e3] at b
    rw [Nat.succ_mul]
    exact a.trans b
theorem meets_of_go {os : List Ordr} {M : Int} (f : Fine os M) {E L : Pt} {j : Nat} (g : Go os E j L) : Meets os (E, L) (some L) := by
  have : ∃ n, MGo os (E, L) n (L, L) := by
    induction g with
    | refl s => exact ⟨0, .refl _⟩
    | @step s s' t n h r ih =>
      obtain ⟨m, im⟩ := ih
      have h1 := (nxt_day f h).1
      have h2 := r.day f
      have e : nstep os (s, t) = some (s', t) := by
        unfold nstep
        rw [h]
        show some (norm s' t) = _
        unfold norm
        rw [if_neg (by omega)]
      exact ⟨m + 1, .step (fun z => by have : s.2 = t.2 := congrArg Prod.snd z; omega) e im⟩
  obtain ⟨n, h⟩ := this
  exact .inl ⟨n, L, h, rfl⟩
theorem meets_ex {os : List Ordr} {M : Int} (f : Fine os M) (p : Pr) (hp : p.1.2 ≤ p.2.2) : ∃ r, Meets os p r := by
  have all : ∀ (k : Nat) (p : Pr), p.1.2 ≤ p.2.2 → ((M + 1 - p.1.2).toNat + (M + 1 - p.2.2).toNat) ≤ k → ∃ r, Meets os p r := by
    intro k
    induction k with
    | zero =>
      intro p hp hk
      by_cases ne : p.1 = p.2
      · exact ⟨some p.1, .inl ⟨0, p.1, by have : p = (p.1, p.1) := Prod.ext rfl ne.symm; rw [← this]; exact .refl _, rfl⟩⟩
      · cases q : nxt os p.1 with
        | none => exact ⟨none, .inr ⟨0, p, .refl _, ne, q, rfl⟩⟩
        | some s' => have := nxt_day f q; omega
    | succ k ih =>
      intro p hp hk
      by_cases ne : p.1 = p.2
      · exact ⟨some p.1, .inl ⟨0, p.1, by have : p = (p.1, p.1) := Prod.ext rfl ne.symm; rw [← this]; exact .refl _, rfl⟩⟩
      · cases q : nxt os p.1 with
        | none => exact ⟨none, .inr ⟨0, p, .refl _, ne, q, rfl⟩⟩
        | some e =>
          have h1 := nxt_day f q
          obtain ⟨r, hr⟩ := ih (norm e p.2) (norm_le _ _) (by
            unfold norm
            split
            · show (M + 1 - p.2.2).toNat + (M + 1 - e.2).toNat ≤ k
              omega
            · show (M + 1 - e.2).toNat + (M + 1 - p.2.2).toNat ≤ k
              omega)
          exact ⟨r, .before (.step ne (by unfold nstep; rw [q]; rfl) (.refl _)) hr⟩
  exact all _ p hp (Nat.le_refl _)
end MF
set_option Elab.async false
set_option linter.all false
set_option maxHeartbeats 1000000
namespace MF
open PySem
def On (os : List Ordr) (s t : Pt) : Prop := ∃ n, Go os s n t
theorem On.refl (os : List Ordr) (s : Pt) : On os s s := ⟨0, .refl s⟩
theorem On.trans {os : List Ordr} {s t u : Pt} (a : On os s t) (b : On os t u) : On os s u := let ⟨n, g⟩ := a; let ⟨m, h⟩ := b; ⟨n + m, g.trans h⟩
theorem On.tail {os : List Ordr} {s t : Pt} (h : On os s t) (ne : s ≠ t) : ∃ u, nxt os s = some u ∧ On os u t := by
  obtain ⟨n, g⟩ := h
  cases g with
  | refl => exact absurd rfl ne
  | step h g => exact ⟨_, h, _, g⟩
theorem On.day {os : List Ordr} {M : Int} (f : Fine os M) {s t : Pt} (h : On os s t) : s.2 ≤ t.2 ∧ (t.2 ≤ s.2 → s = t) := by
  obtain ⟨n, g⟩ := h
  have h1 := g.day f
  refine ⟨by omega, fun h2 => ?_⟩
  have : n = 0 := by omega
  subst this
  cases g
  rfl
theorem On.line {os : List Ordr} {s t u : Pt} (a : On os s t) (b : On os s u) : On os t u ∨ On os u t := by
  obtain ⟨n, g⟩ := a
  obtain ⟨m, h⟩ := b
  induction g generalizing m with
  | refl => exact .inl ⟨m, h⟩
  | step e g ih =>
    cases h with
    | refl => exact .inr ⟨_, .step e g⟩
    | step e' h => rw [e] at e'; cases e'; exact ih _ h
theorem go_same {os : List Ordr} {M : Int} (f : Fine os M) {s t : Pt} {n m : Nat} (a : Go os s n t) (b : Go os s m t) : n = m := by
  induction a generalizing m with
  | refl s =>
    have := b.day f
    omega
  | step e g ih =>
    cases b with
    | refl =>
      have := (Go.step e g).day f
      omega
    | step e' h => rw [e] at e'; cases e'; rw [ih h]
def FirstIn (os : List Ordr) (A B : Pt) : Option Pt → Prop
  | some C => On os A C ∧ On os B C ∧ ∀ D, On os A D → On os B D → On os C D
  | none => ∀ D, On os A D → ¬ On os B D
theorem FirstIn.symm {os : List Ordr} {A B : Pt} : ∀ {r : Option Pt}, FirstIn os A B r → FirstIn os B A r
  | some _, ⟨a, b, c⟩ => ⟨b, a, fun D x y => c D y x⟩
  | none, h => fun D a b => h D b a
theorem FirstIn.uniq {os : List Ordr} {M : Int} (f : Fine os M) {A B : Pt} : ∀ {r r' : Option Pt}, FirstIn os A B r → FirstIn os A B r' → r = r'
  | none, none, _, _ => rfl
  | none, some C, h, ⟨a, b, _⟩ => absurd b (h C a)
  | some C, none, ⟨a, b, _⟩, h => absurd b (h C a)
  | some C, some D, ⟨a, b, c⟩, ⟨a', b', c'⟩ => by
    have h1 := (c D a' b').day f
    have h2 := (c' C a b).day f
    rw [h1.2 h2.1]
theorem FirstIn.norm {os : List Ordr} {A B : Pt} {r : Option Pt} (h : FirstIn os (norm A B).1 (norm A B).2 r) : FirstIn os A B r := by
  unfold MF.norm at h
  split at h
  · exact h.symm
  · exact h
theorem FirstIn.back {os : List Ordr} {M : Int} (f : Fine os M) {A B e : Pt} (hp : A.2 ≤ B.2) (ne : A ≠ B) (hn : nxt os A = some e) : ∀ {r : Option Pt}, FirstIn os e B r → FirstIn os A B r := by
  have key : ∀ D, On os A D → On os B D → On os e D := fun D h1 h2 => by
    have nD : A ≠ D := fun z => by
      subst z
      have := (h2.day f).2 hp
      exact ne this.symm
    obtain ⟨u, h3, h4⟩ := h1.tail nD
    rw [hn] at h3
    cases h3
    exact h4
  intro r h
  cases r with
  | some C => exact ⟨On.trans ⟨1, Go.one hn⟩ h.1, h.2.1, fun D h1 h2 => h.2.2 D (key D h1 h2) h2⟩
  | none => exact fun D h1 h2 => h D (key D h1 h2) h2
theorem MGo.first {os : List Ordr} {M : Int} (f : Fine os M) {p q : Pr} {n : Nat} (g : MGo os p n q) (hp : p.1.2 ≤ p.2.2) {r : Option Pt} (h : FirstIn os q.1 q.2 r) : FirstIn os p.1 p.2 r := by
  induction g with
  | refl => exact h
  | @step p p' q n ne hs g ih =>
    unfold nstep at hs
    cases e : nxt os p.1 with
    | none => rw [e] at hs; cases hs
    | some u =>
      rw [e] at hs
      have hs' := Option.some.inj hs
      subst hs'
      exact (ih (norm_le _ _) h).norm.back f hp ne e
theorem Meets.first {os : List Ordr} {M : Int} (f : Fine os M) {A B : Pt} {r : Option Pt} (m : Meets os (MF.norm A B) r) : FirstIn os A B r := by
  refine FirstIn.norm ?_
  have hp := norm_le A B
  rcases m with ⟨n, C, g, rfl⟩ | ⟨n, q, g, ne, hn, rfl⟩
  · exact g.first f hp ⟨On.refl _ _, On.refl _ _, fun D h _ => h⟩
  · refine g.first f hp fun D h1 h2 => ?_
    have d := (g.days f hp).2.2
    by_cases c : q.1 = D
    · rw [← c] at h2
      exact ne ((h2.day f).2 d).symm
    · obtain ⟨u, h3, _⟩ := h1.tail c
      rw [hn] at h3
      cases h3
theorem Meets.comm {os : List Ordr} {M : Int} (f : Fine os M) {A B : Pt} {r r' : Option Pt} (m : Meets os (MF.norm A B) r) (m' : Meets os (MF.norm B A) r') : r' = r := FirstIn.uniq f (m'.first f).symm (m.first f)
theorem On.ends {os : List Ordr} {s t u : Pt} {n : Nat} (h : On os s t) (e : Ends os s n u) : ∃ m, Ends os t m u := by
  obtain ⟨k, g⟩ := h
  exact ⟨_, (e.after g).2⟩
theorem Ends.on {os : List Ordr} {s u : Pt} {n : Nat} (e : Ends os s n u) : On os s u := ⟨n, e.1⟩
end MF
set_option Elab.async false
set_option linter.all false
set_option maxHeartbeats 1000000
namespace MF
open PySem
def pot (s : Pt) (o : Ordr) : Int := max 0 ((o.last - max o.first (if s.1 = o.src then s.2 else s.2 + 1) + 2) / 2)
def potS (f : Ordr → Int) : List Ordr → Int
  | [] => 0
  | o :: os => f o + potS f os
theorem potS_le {f g : Ordr → Int} : ∀ {os : List Ordr}, (∀ o ∈ os, f o ≤ g o) → potS f os ≤ potS g os
  | [], _ => Int.le_refl _
  | o :: os, h => by
    have h1 := h o List.mem_cons_self
    have h2 := potS_le (os := os) fun p hp => h p (List.mem_cons_of_mem _ hp)
    show f o + potS f os ≤ g o + potS g os
    omega
theorem potS_lt {f g : Ordr → Int} : ∀ {os : List Ordr} {i : Nat} {o : Ordr}, (∀ o ∈ os, f o ≤ g o) → os[i]? = some o → f o + 1 ≤ g o → potS f os + 1 ≤ potS g os
  | [], i, o, _, e, _ => by simp at e
  | p :: os, 0, o, h, e, hl => by
    have h2 := potS_le (os := os) fun p hp => h p (List.mem_cons_of_mem _ hp)
    simp at e
    subst e
    show f p + potS f os + 1 ≤ g p + potS g os
    omega
  | p :: os, i + 1, o, h, e, hl => by
    have h1 := h p List.mem_cons_self
    have h2 := potS_lt (os := os) (i := i) (fun p hp => h p (List.mem_cons_of_mem _ hp)) (by simpa using e) hl
    show f p + potS f os + 1 ≤ g p + potS g os
    omega
theorem potS_const {f : Ordr → Int} {c : Int} : ∀ {os : List Ordr}, (∀ o ∈ os, f o ≤ c) → potS f os ≤ (os.length : Int) * c
  | [], _ => by simp [potS]
  | o :: os, h => by
    have h1 := h o List.mem_cons_self
    have h2 := potS_const (os := os) fun p hp => h p (List.mem_cons_of_mem _ hp)
    show f o + potS f os ≤ ((os.length + 1 : Nat) : Int) * c
    push_cast
    rw [Int.add_mul, Int.one_mul]
    omega
theorem potS_nonneg {f : Ordr → Int} : ∀ {os : List Ordr}, (∀ o ∈ os, 0 ≤ f o) → 0 ≤ potS f os
  | [], _ => Int.le_refl _
  | o :: os, h => by
    have h1 := h o List.mem_cons_self
    have h2 := potS_nonneg (os := os) fun p hp => h p (List.mem_cons_of_mem _ hp)
    show 0 ≤ f o + potS f os
    omega
theorem pot_nonneg (s : Pt) (o : Ordr) : 0 ≤ pot s o := by unfold pot; omega
theorem pot_step {os : List Ordr} (g : Good os) {s t : Pt} (h : nxt os s = some t) : potS (pot t) os + 1 ≤ potS (pot s) os := by
  obtain ⟨i, o, _, eo, ho, rfl⟩ := nxt_some h
  have om := List.mem_of_getElem? eo
  have ok := g.ok o om
  have w1 := ok.w1
  unfold holds at ho
  simp only [Bool.and_eq_true, decide_eq_true_eq] at ho
  refine potS_lt (i := i) (fun p _ => ?_) eo ?_
  · unfold pot
    simp only
    split <;> split <;> omega
  · unfold pot
    simp only
    rw [if_neg (show ¬ o.tgt = o.src from fun z => ok.ne z.symm), if_pos ho.1.symm]
    omega
theorem Go.pot {os : List Ordr} (g : Good os) {s t : Pt} {n : Nat} (h : Go os s n t) : (n : Int) ≤ potS (MF.pot s) os := by
  induction h with
  | refl => exact potS_nonneg fun o _ => pot_nonneg _ o
  | step e _ ih =>
    have := pot_step g e
    push_cast
    omega
theorem Go.few {os : List Ordr} (g : Good os) {L : Int} {m : Nat} (hl : os.length ≤ m) (hL : ∀ o ∈ os, o.last - o.first < L) (h0 : 0 ≤ L) {s t : Pt} {n : Nat} (h : Go os s n t) : (n : Int) ≤ (m : Int) * ((L + 1) / 2) := by
  have h1 := h.pot g
  have h2 := potS_const (f := MF.pot s) (c := (L + 1) / 2) (os := os) fun o ho => by
    have := hL o ho
    unfold MF.pot
    split <;> omega
  have h3 : (os.length : Int) * ((L + 1) / 2) ≤ (m : Int) * ((L + 1) / 2) := Int.mul_le_mul_of_nonneg_right (by omega) (by omega)
  omega
theorem Go.upto {os : List Ordr} (g : Good os) {s t : Pt} {n : Nat} (h : Go os s n t) : t.2 ≤ s.2 + 30 * (n : Int) := by
  induction h with
  | refl => simp
  | step e _ ih =>
    obtain ⟨i, o, _, eo, _, rfl⟩ := nxt_some e
    have := (g.ok o (List.mem_of_getElem? eo)).w30
    simp only at ih
    push_cast
    omega
theorem routeL_whole {os : List Ordr} {n : Nat} {s : Pt} (h : ∀ t i, Go os s i t → i < n) {t : Pt} : t ∈ routeL os n s ↔ On os s t := by
  rw [routeL_mem]
  exact ⟨fun ⟨i, _, g⟩ => ⟨i, g⟩, fun ⟨i, g⟩ => ⟨i, h t i g, g⟩⟩
theorem shared_first {os : List Ordr} {M : Int} (f : Fine os M) {n : Nat} {A B : Pt} {p : Pt → Bool} (hp : ∀ t, p t = true ↔ On os B t) (hA : ∀ t i, Go os A i t → i < n) : ∀ {r : Option Pt}, FirstIn os A B r → ((routeL os n A).filter p).head? = r
  | none, h => by
    have : (routeL os n A).filter p = [] := List.filter_eq_nil_iff.mpr fun t ht hpt => h t ((routeL_whole hA).mp ht) ((hp t).mp hpt)
    rw [this]
    rfl
  | some C, ⟨h1, h2, h3⟩ => by
    have hC : C ∈ (routeL os n A).filter p := List.mem_filter.mpr ⟨(routeL_whole hA).mpr h1, (hp C).mpr h2⟩
    have pw : ((routeL os n A).filter p).Pairwise fun s t => s.2 < t.2 := by
      refine List.Pairwise.filter _ ?_
      rw [List.pairwise_iff_getElem]
      intro i j hi hj hij
      obtain ⟨_, g1⟩ := routeL_go.mp (List.getElem?_eq_getElem hi)
      obtain ⟨_, g2⟩ := routeL_go.mp (List.getElem?_eq_getElem hj)
      obtain ⟨k, rfl⟩ : ∃ k, j = i + (k + 1) := ⟨j - i - 1, by omega⟩
      have g3 : Go os (routeL os n A)[i] (k + 1) (routeL os n A)[i + (k + 1)] := by
        rcases On.line ⟨i, g1⟩ ⟨_, g2⟩ with ⟨m, z⟩ | ⟨m, z⟩
        · have := (g1.trans z)
          by_cases c : m = k + 1
          · subst c; exact z
          · exfalso
            have e1 := go_same f this g2
            omega
        · exfalso
          have e1 := go_same f (g2.trans z) g1
          omega
      have := g3.day f
      omega
    cases q : (routeL os n A).filter p with
    | nil => rw [q] at hC; cases hC
    | cons c cs =>
      rw [q] at hC pw
      show some c = some C
      rcases List.mem_cons.mp hC with z | z
      · rw [z]
      · have h4 := (List.pairwise_cons.mp pw).1 C z
        have hc : c ∈ (routeL os n A).filter p := by rw [q]; exact List.mem_cons_self
        obtain ⟨hc1, hc2⟩ := List.mem_filter.mp hc
        have h5 := (h3 c ((routeL_whole hA).mp hc1) ((hp c).mp hc2)).day f
        omega
end MF
set_option Elab.async false
set_option linter.all false
set_option maxHeartbeats 1000000
namespace MF
open PySem
inductive Way (os : List Ordr) (td : Int) : Pt → Nat → Pt → Prop
  | refl (s : Pt) : Way os td s 0 s
  | step {s s' t : Pt} {n : Nat} (hd : s.2 ≤ td) (h : nxt os s = some s') (r : Way os td s' n t) : Way os td s (n + 1) t
theorem Way.go {os : List Ordr} {td : Int} {s t : Pt} {n : Nat} (a : Way os td s n t) : Go os s n t := by
  induction a with
  | refl s => exact .refl s
  | step _ h _ ih => exact .step h ih
theorem Way.trans {os : List Ordr} {td : Int} {s t u : Pt} {n m : Nat} (a : Way os td s n t) (b : Way os td t m u) : Way os td s (n + m) u := by
  induction a with
  | refl s => rw [Nat.zero_add]; exact b
  | step hd h _ ih =>
    rw [Nat.add_right_comm]
    exact .step hd h (ih b)
theorem Way.later {os : List Ordr} {td td' : Int} (le : td ≤ td') {s t : Pt} {n : Nat} (a : Way os td s n t) : Way os td' s n t := by
  induction a with
  | refl s => exact .refl s
  | step hd h _ ih => exact .step (Int.le_trans hd le) h ih
theorem ordFor_last {x : Str} {d : Int} {o : Ordr} (ho : holds o x d = false) : ∀ {os : List Ordr}, ordFor (os ++ [o]) x d = ordFor os x d
  | [] => by
    show ordFor [o] x d = none
    exact ordFor_none fun p hp => by rw [List.mem_singleton.mp hp]; exact ho
  | p :: os => by
    rw [List.cons_append]
    unfold ordFor
    rw [ordFor_last ho]
theorem nxt_last {os : List Ordr} {o : Ordr} {s : Pt} (h : s.2 < o.first) : nxt (os ++ [o]) s = nxt os s := by
  have ho : holds o s.1 s.2 = false := by
    unfold holds
    rw [decide_eq_false (show ¬ o.first ≤ s.2 by omega)]
    simp
  unfold nxt
  rw [ordFor_last ho]
  cases e : ordFor os s.1 s.2 with
  | none => rfl
  | some i =>
    obtain ⟨p, hp, _⟩ := ordFor_some e
    show (os ++ [o])[i]?.map _ = os[i]?.map _
    rw [List.getElem?_append_left (List.getElem?_eq_some_iff.mp hp).1]
theorem Way.more {os : List Ordr} {o : Ordr} {td : Int} (ht : td < o.first) {s t : Pt} {n : Nat} (a : Way os td s n t) : Way (os ++ [o]) td s n t := by
  induction a with
  | refl s => exact .refl s
  | step hd h _ ih => exact .step hd (by rw [nxt_last (by omega)]; exact h) ih
theorem Way.few {os : List Ordr} (g : Good os) {td : Int} {s t : Pt} {n : Nat} (a : Way os td s n t) : n = 0 ∨ s.2 + (n : Int) ≤ td + 1 := by
  induction a with
  | refl s => exact .inl rfl
  | step hd h r ih =>
    have g1 := (Go.step h (.refl _)).day g.fine
    rcases ih with z | z
    · right; subst z; simp; omega
    · right
      simp only [Int.natCast_add] at *
      omega
def At (os : List Ordr) (td : Int) (s t : Pt) (r : Bool) : Prop := ∃ n, Way os td s n t ∧ (r = true → t.2 ≤ td ∧ nxt os t = none) ∧ (r = false → td < t.2)
theorem At.rest {os : List Ordr} {td : Int} {s t : Pt} (a : At os td s t true) : ∃ n, Ends os s n t := let ⟨n, w, h, _⟩ := a; ⟨n, w.go, (h rfl).2⟩
theorem At.iff {os : List Ordr} {td : Int} {s t : Pt} {r : Bool} (a : At os td s t r) : r = decide (t.2 ≤ td) := by
  obtain ⟨n, w, h1, h2⟩ := a
  cases r with
  | true => exact (decide_eq_true (h1 rfl).1).symm
  | false => exact (decide_eq_false (by have := h2 rfl; omega)).symm
theorem At.on {os : List Ordr} (g : Good os) {td : Int} {s t : Pt} {r : Bool} (a : At os td s t r) (s0 : 0 ≤ s.2) (h : td < 398) : t ∈ routeL os 400 s := by
  obtain ⟨n, w, _⟩ := a
  refine routeL_mem.mpr ⟨n, ?_, w.go⟩
  rcases w.few g with z | z <;> omega
theorem At.more {os : List Ordr} {o : Ordr} {td : Int} (ht : td < o.first) {s t : Pt} {r : Bool} (a : At os td s t r) : At (os ++ [o]) td s t r := by
  obtain ⟨n, w, h1, h2⟩ := a
  exact ⟨n, w.more ht, fun z => ⟨(h1 z).1, by rw [nxt_last (by have := (h1 z).1; omega)]; exact (h1 z).2⟩, h2⟩
theorem At.stays {os : List Ordr} {td td' : Int} (le : td ≤ td') {s t : Pt} (a : At os td s t true) : At os td' s t true := by
  obtain ⟨n, w, h1, h2⟩ := a
  exact ⟨n, w.later le, fun _ => ⟨Int.le_trans (h1 rfl).1 le, (h1 rfl).2⟩, fun z => by cases z⟩
theorem At.goes {os : List Ordr} {td td' : Int} (le : td ≤ td') {s t u : Pt} {r q : Bool} (a : At os td s t r) (b : At os td' t u q) : At os td' s u q := by
  obtain ⟨n, w, _⟩ := a
  obtain ⟨m, v, h1, h2⟩ := b
  exact ⟨n + m, (w.later le).trans v, h1, h2⟩
end MF
set_option Elab.async false
set_option linter.all false
set_option maxRecDepth 100000
set_option maxHeartbeats 1000000
namespace MF
open PySem PySem.Spec L2
abbrev LRow := Str × Int × Bool
structure Scn where
  day : Int
  os : List Ordr
  rows : List LRow
theorem Way.uniq {os : List Ordr} {td : Int} {s t u : Pt} {n m : Nat} (a : Way os td s n t) (ha : t.2 ≤ td → nxt os t = none) (b : Way os td s m u) (hb : u.2 ≤ td → nxt os u = none) : t = u := by
  induction a generalizing m with
  | refl s =>
    cases b with
    | refl _ => rfl
    | step hd h _ =>
      rw [ha hd] at h
      cases h
  | step hd h r ih =>
    cases b with
    | refl _ =>
      rw [hb hd] at h
      cases h
    | step hd' h' r' =>
      rw [h] at h'
      cases h'
      exact ih ha r'
theorem At.ended {os : List Ordr} {td : Int} {s t : Pt} {r : Bool} (a : At os td s t r) : t.2 ≤ td → nxt os t = none := fun h => by
  obtain ⟨n, _, h1, h2⟩ := a
  cases r with
  | true => exact (h1 rfl).2
  | false => have := h2 rfl; omega
theorem At.uniq {os : List Ordr} {td : Int} {s t u : Pt} {r q : Bool} (a : At os td s t r) (b : At os td s u q) : t = u ∧ r = q := by
  have e : t = u := by
    obtain ⟨n, wa, _⟩ := id a
    obtain ⟨m, wb, _⟩ := id b
    exact wa.uniq a.ended wb b.ended
  subst e
  exact ⟨rfl, a.iff.trans b.iff.symm⟩
open Classical in
noncomputable def sentF (os : List Ordr) (td : Int) (s : Pt) : LRow := if h : ∃ z : LRow, At os td s (z.1, z.2.1) z.2.2 then Classical.choose h else (s.1, s.2, false)
theorem sentF_of {os : List Ordr} {td : Int} {s t : Pt} {r : Bool} (a : At os td s t r) : sentF os td s = (t.1, t.2, r) := by
  have h : ∃ z : LRow, At os td s (z.1, z.2.1) z.2.2 := ⟨(t.1, t.2, r), a⟩
  unfold sentF
  rw [dif_pos h]
  have := a.uniq (Classical.choose_spec h)
  obtain ⟨e1, e2⟩ := this
  rw [e1, e2]
noncomputable def rowF (os : List Ordr) (td : Int) (x : LRow) : LRow := if x.2.2 = true then x else sentF os td (x.1, x.2.1)
def newP (rows rows' : List LRow) (n : Nat) : List (Int × Int) := (List.range n).filterMap fun i => match rows[i]?, rows'[i]? with
  | some x, some y => if (y.2.2 && !x.2.2) = true then some (y.2.1, ((i : Nat) : Int)) else none
  | _, _ => none
theorem newP_step {rows rows' : List LRow} {n : Nat} {x y : LRow} (h : rows[n]? = some x) (h' : rows'[n]? = some y) : newP rows rows' (n + 1) = newP rows rows' n ++ (if (y.2.2 && !x.2.2) = true then [(y.2.1, ((n : Nat) : Int))] else []) := by
  unfold newP
  rw [List.range_succ, List.filterMap_append]
  congr 1
  show [n].filterMap _ = _
  by_cases c : (y.2.2 && !x.2.2) = true
  · rw [if_pos c]
    simp only [List.filterMap_cons, List.filterMap_nil, h, h', c, if_true]
  · rw [if_neg c]
    simp only [List.filterMap_cons, List.filterMap_nil, h, h', if_neg c]
theorem newP_len (rows rows' : List LRow) (n : Nat) : (newP rows rows' n).length ≤ n := by
  have := List.length_filterMap_le (fun i => match rows[i]?, rows'[i]? with
    | some x, some y => if (y.2.2 && !x.2.2) = true then some (y.2.1, ((i : Nat) : Int)) else none
    | _, _ => none) (List.range n)
  rw [List.length_range] at this
  exact this
abbrev ltI : Int × Int → Int × Int → Bool := fun x y => SrtO.lexB x y
theorem ltI_swo : SrtO.Swo ltI := by
  refine ⟨fun x y h => ?_, fun x y z h1 h2 => ?_⟩
  · have a := SrtO.lexB_iff.mp h
    refine SrtO.lexB_no.mpr ?_
    omega
  · have a := SrtO.lexB_no.mp h1
    have b := SrtO.lexB_no.mp h2
    refine SrtO.lexB_no.mpr ?_
    omega
def Srt2 (ps l : List (Int × Int)) : Prop := SrtO.Srtd ltI ps ∧ SrtO.Stb ltI ps l
theorem Srt2.uniq {ps qs l : List (Int × Int)} (a : Srt2 ps l) (b : Srt2 qs l) : ps = qs := by
  refine SrtO.stb_uniq ltI_swo a.1 b.1 ⟨a.2.perm.trans b.2.perm.symm, fun x => (a.2.cls x).trans (b.2.cls x).symm⟩
open Classical in
noncomputable def sort2 (l : List (Int × Int)) : List (Int × Int) := if h : ∃ ps, Srt2 ps l then Classical.choose h else []
theorem sort2_of {ps l : List (Int × Int)} (a : Srt2 ps l) : sort2 l = ps := by
  have h : ∃ ps, Srt2 ps l := ⟨ps, a⟩
  unfold sort2
  rw [dif_pos h]
  exact (Classical.choose_spec h).uniq a
inductive Deed where
  | post (y : V)
  | pass (v : V)
  | give (o : Option Ordr)
  | stop (v : V)
def Deed.word : Deed → Str
  | .post _ => "post"
  | .pass _ => "pass_days"
  | .give _ => "give"
  | .stop _ => "stop"
inductive Rs where
  | num (n : Nat)
  | nums (ns : List Int)
  | day (v : Int)
  | err (e : Err)
def Rs.bad : Rs → Bool
  | .err _ => true
  | _ => false
def strV : V → Str
  | .str z => z
  | _ => ""
def intV : V → Int
  | .int i => i
  | _ => 0
theorem isAddrB_str {y : V} (h : isAddrB y = true) : y = .str (strV y) := by
  cases y <;> first | rfl | cases h
theorem isIntB_int {y : V} {lo hi : Int} (h : isIntB y lo hi = true) : y = .int (intV y) ∧ lo ≤ intV y ∧ intV y ≤ hi := by
  cases y with
  | int i =>
    simp only [isIntB, Bool.and_eq_true, decide_eq_true_eq] at h
    exact ⟨rfl, h.1, h.2⟩
  | _ => cases h
noncomputable def actF (S : Scn) : Deed → Rs × Scn
  | .post y => if isAddrB y = true then (.num S.rows.length, ⟨S.day, S.os, S.rows ++ [sentF S.os S.day (strV y, S.day)]⟩) else (.err .address, S)
  | .pass v => if isIntB v 0 400 = true then
      (.nums ((sort2 (newP S.rows (S.rows.map (rowF S.os (S.day + intV v))) S.rows.length)).map (·.2)), ⟨S.day + intV v, S.os, S.rows.map (rowF S.os (S.day + intV v))⟩)
    else (.err .number, S)
  | .give none => (.err (.order (.int (S.os.length : Nat))), S)
  | .give (some o) => if (decide (1 ≤ o.way) && decide (o.way ≤ 30)) = true ∧ (S.os.any fun p => overB p o) = false then (.num S.os.length, ⟨S.day, S.os ++ [o], S.rows⟩) else (.err (.order (.int (S.os.length : Nat))), S)
  | .stop v => if isIntB v 0 ((S.os.length : Int) - 1) = true then
      match S.os[(intV v).toNat]? with
      | some o => if o.first < S.day ∧ S.day ≤ o.last then (.day o.last, ⟨S.day, S.os.set (intV v).toNat ⟨o.src, o.tgt, o.first, S.day - 1, o.way⟩, S.rows⟩) else (.err (.holding v), S)
      | none => (.err (.unknown v), S)
    else (.err (.unknown v), S)
structure RawW (o : Ordr) : Prop where
  as : isAddrB (.str o.src) = true
  at_ : isAddrB (.str o.tgt) = true
  ne : o.src ≠ o.tgt
  f0 : 0 ≤ o.first
  fl : o.first ≤ o.last
  lm : o.last ≤ 1000000000000000000
theorem RawW.ok {o : Ordr} (h : RawW o) (w : (decide (1 ≤ o.way) && decide (o.way ≤ 30)) = true) : o.Ok := by
  rw [Bool.and_eq_true, decide_eq_true_eq, decide_eq_true_eq] at w
  exact ⟨h.as, h.at_, h.ne, h.f0, h.fl, h.lm, w.1, w.2⟩
def Deed.Ok : Deed → Prop
  | .post y => notSeq y = true ∧ shortV y
  | .pass v => notSeq v = true
  | .give none => True
  | .give (some o) => RawW o
  | .stop v => notSeq v = true ∧ FmtOk v
structure Scn.Ok (S : Scn) : Prop where
  good : Good S.os
  addr : ∀ x ∈ S.rows, isAddrB (.str x.1) = true
theorem Good.snocP {os : List Ordr} (g : Good os) {o : Ordr} (ok : o.Ok) (hl : os.length < 30) (hf : (os.any fun p => overB p o) = false) : Good (os ++ [o]) := by
  refine ⟨by rw [List.length_append]; show os.length + 1 ≤ 30; omega, fun p hp => ?_, List.pairwise_append.mpr ⟨g.apart, by simp, fun p hp q hq => ?_⟩⟩
  · rcases List.mem_append.mp hp with z | z
    · exact g.ok p z
    · rw [List.mem_singleton.mp z]; exact ok
  · rw [List.mem_singleton.mp hq]
    cases c : overB p o with
    | false => rfl
    | true =>
      rw [List.any_eq_true.mpr ⟨p, hp, c⟩] at hf
      cases hf
theorem overB_shrink {p o : Ordr} {d : Int} (h : overB p o = false) (hd : d ≤ o.last) : overB p ⟨o.src, o.tgt, o.first, d, o.way⟩ = false := by
  unfold overB at h ⊢
  simp only
  cases c : decide (p.src = o.src) with
  | false => rfl
  | true =>
    rw [c] at h
    simp only [Bool.true_and] at h ⊢
    cases c2 : decide (o.first ≤ p.last) with
    | false => rw [Bool.and_false]
    | true =>
      rw [c2, Bool.and_true] at h
      rw [Bool.and_true]
      have := of_decide_eq_false h
      exact decide_eq_false (by omega)
theorem overB_shrink' {p o : Ordr} {d : Int} (h : overB o p = false) (hd : d ≤ o.last) : overB ⟨o.src, o.tgt, o.first, d, o.way⟩ p = false := by
  unfold overB at h ⊢
  simp only
  cases c : decide (o.src = p.src) with
  | false => rfl
  | true =>
    rw [c] at h
    simp only [Bool.true_and] at h ⊢
    cases c2 : decide (o.first ≤ p.last) with
    | false => rfl
    | true =>
      rw [c2, Bool.true_and] at h
      rw [Bool.true_and]
      have := of_decide_eq_false h
      exact decide_eq_false (by omega)
theorem pw_set {α : Type} {R : α → α → Prop} {b : α} : ∀ {l : List α} {i : Nat} {a : α}, l.Pairwise R → l[i]? = some a → (∀ p ∈ l, R p a → R p b) → (∀ p ∈ l, R a p → R b p) → (l.set i b).Pairwise R
  | [], _, _, _, e, _, _ => by simp at e
  | x :: l, 0, a, h, e, h1, h2 => by
    simp at e
    subst e
    obtain ⟨q1, q2⟩ := List.pairwise_cons.mp h
    exact List.pairwise_cons.mpr ⟨fun p hp => h2 p (List.mem_cons_of_mem _ hp) (q1 p hp), q2⟩
  | x :: l, i + 1, a, h, e, h1, h2 => by
    obtain ⟨q1, q2⟩ := List.pairwise_cons.mp h
    have e' : l[i]? = some a := by simpa using e
    have ha : a ∈ l := List.mem_of_getElem? e'
    refine List.pairwise_cons.mpr ⟨fun p hp => ?_, pw_set q2 e' (fun p hp => h1 p (List.mem_cons_of_mem _ hp)) (fun p hp => h2 p (List.mem_cons_of_mem _ hp))⟩
    rcases List.mem_or_eq_of_mem_set hp with z | z
    · exact q1 p z
    · rw [z]
      exact h1 x List.mem_cons_self (q1 a ha)
theorem Good.shrink {os : List Ordr} (g : Good os) {i : Nat} {o : Ordr} (h : os[i]? = some o) {d : Int} (d0 : o.first ≤ d) (d1 : d ≤ o.last) : Good (os.set i ⟨o.src, o.tgt, o.first, d, o.way⟩) := by
  have ok := g.ok o (List.mem_of_getElem? h)
  refine ⟨by rw [List.length_set]; exact g.len, fun p hp => ?_, pw_set g.apart h (fun p _ z => overB_shrink z d1) fun p _ z => overB_shrink' z d1⟩
  rcases List.mem_or_eq_of_mem_set hp with z | z
  · exact g.ok p z
  · rw [z]
    exact ⟨ok.as, ok.at_, ok.ne, ok.f0, d0, by have := ok.lm; show d ≤ _; omega, ok.w1, ok.w30⟩
theorem actF_post0 {S : Scn} {y : V} (h : isAddrB y = false) : actF S (.post y) = (.err .address, S) := by
  show (if isAddrB y = true then _ else _) = _
  rw [if_neg (by rw [h]; decide)]
theorem actF_post1 {S : Scn} {y : V} (h : isAddrB y = true) : actF S (.post y) = (.num S.rows.length, ⟨S.day, S.os, S.rows ++ [sentF S.os S.day (strV y, S.day)]⟩) := by
  show (if isAddrB y = true then _ else _) = _
  rw [if_pos h]
theorem actF_pass0 {S : Scn} {v : V} (h : isIntB v 0 400 = false) : actF S (.pass v) = (.err .number, S) := by
  show (if isIntB v 0 400 = true then _ else _) = _
  rw [if_neg (by rw [h]; decide)]
theorem actF_pass1 {S : Scn} {v : V} (h : isIntB v 0 400 = true) : actF S (.pass v) = (.nums ((sort2 (newP S.rows (S.rows.map (rowF S.os (S.day + intV v))) S.rows.length)).map (·.2)), ⟨S.day + intV v, S.os, S.rows.map (rowF S.os (S.day + intV v))⟩) := by
  show (if isIntB v 0 400 = true then _ else _) = _
  rw [if_pos h]
theorem actF_give1 {S : Scn} {o : Ordr} (h : (decide (1 ≤ o.way) && decide (o.way ≤ 30)) = true) (h2 : (S.os.any fun p => overB p o) = false) : actF S (.give (some o)) = (.num S.os.length, ⟨S.day, S.os ++ [o], S.rows⟩) := by
  show (if (decide (1 ≤ o.way) && decide (o.way ≤ 30)) = true ∧ (S.os.any fun p => overB p o) = false then _ else _) = _
  rw [if_pos ⟨h, h2⟩]
theorem actF_give0 {S : Scn} {o : Ordr} (h : ¬ ((decide (1 ≤ o.way) && decide (o.way ≤ 30)) = true ∧ (S.os.any fun p => overB p o) = false)) : actF S (.give (some o)) = (.err (.order (.int (S.os.length : Nat))), S) := by
  show (if (decide (1 ≤ o.way) && decide (o.way ≤ 30)) = true ∧ (S.os.any fun p => overB p o) = false then _ else _) = _
  rw [if_neg h]
theorem actF_stop0 {S : Scn} {v : V} (h : isIntB v 0 ((S.os.length : Int) - 1) = false) : actF S (.stop v) = (.err (.unknown v), S) := by
  show (if isIntB v 0 ((S.os.length : Int) - 1) = true then _ else _) = _
  rw [if_neg (by rw [h]; decide)]
theorem actF_stop1 {S : Scn} {n : Nat} {o : Ordr} (h : S.os[n]? = some o) : actF S (.stop (.int (n : Nat))) = if o.first < S.day ∧ S.day ≤ o.last then (.day o.last, ⟨S.day, S.os.set n ⟨o.src, o.tgt, o.first, S.day - 1, o.way⟩, S.rows⟩) else (.err (.holding (.int (n : Nat))), S) := by
  have hn := (List.getElem?_eq_some_iff.mp h).1
  have hi : isIntB (.int (n : Nat)) 0 ((S.os.length : Int) - 1) = true := by
    simp only [isIntB, Bool.and_eq_true, decide_eq_true_eq]
    omega
  show (if isIntB (.int (n : Nat)) 0 ((S.os.length : Int) - 1) = true then (match S.os[(intV (.int (n : Nat))).toNat]? with
    | some o => if o.first < S.day ∧ S.day ≤ o.last then (.day o.last, ⟨S.day, S.os.set (intV (.int (n : Nat))).toNat ⟨o.src, o.tgt, o.first, S.day - 1, o.way⟩, S.rows⟩) else (.err (.holding (.int (n : Nat))), S)
    | none => (.err (.unknown (.int (n : Nat))), S)) else (.err (.unknown (.int (n : Nat))), S) : Rs × Scn) = _
  have e : (intV (.int (n : Nat))).toNat = n := Int.toNat_natCast n
  rw [if_pos hi, e, h]
def flatI : V → Prop
  | .int i => i.natAbs.log2 < 1920
  | .bl _ => True
  | .non => True
  | _ => False
def five : List Str := ["a", "b", "c", "dd", "e"]
def Deed.Law : Deed → Prop
  | .post y => (∃ z ∈ five, y = .str z) ∨ y = .str "A" ∨ y = .str "" ∨ y = .non ∨ y = .int 5
  | .pass v => flatI v
  | .give none => True
  | .give (some o) => RawW o
  | .stop v => flatI v
theorem flatI_seq {v : V} (h : flatI v) : notSeq v = true := by
  cases v <;> first | rfl | cases h
theorem flatI_fmt {v : V} (h : flatI v) : FmtOk v := by
  cases v with
  | int i => exact h
  | bl b => exact True.intro
  | non => exact True.intro
  | _ => cases h
theorem five_addr : ∀ z ∈ five, isAddrB (.str z) = true := by decide +kernel
theorem Deed.Law.ok {d : Deed} (h : d.Law) : d.Ok := by
  cases d with
  | post y =>
    rcases h with ⟨z, hz, rfl⟩ | rfl | rfl | rfl | rfl
    · refine ⟨rfl, ?_⟩
      show Str.length z ≤ _
      revert z
      decide +kernel
    · exact ⟨rfl, by show Str.length _ ≤ _; decide +kernel⟩
    · exact ⟨rfl, by show Str.length _ ≤ _; decide +kernel⟩
    · exact ⟨rfl, True.intro⟩
    · exact ⟨rfl, True.intro⟩
  | pass v => exact flatI_seq h
  | give o => cases o with
    | none => exact True.intro
    | some o => exact h
  | stop v => exact ⟨flatI_seq h, flatI_fmt h⟩
def vD : V → PyData
  | .int i => .int i
  | .bl b => .bool b
  | .str z => .str z
  | _ => .none
def errD (e : Err) : PyData := match (errT e).2 with
  | [] => .tuple [.str "error", .str (errT e).1]
  | vs => .tuple [.str "error", .str (errT e).1, .list (vs.map vD)]
def dueD : Rs → PyData
  | .num n => .int (n : Nat)
  | .nums ns => .list (ns.map PyData.int)
  | .day v => .int v
  | .err e => errD e
theorem way_addr {os : List Ordr} (g : Good os) {td : Int} {s t : Pt} {n : Nat} (a : Way os td s n t) (h : isAddrB (.str s.1) = true) : isAddrB (.str t.1) = true := by
  induction a with
  | refl s => exact h
  | step hd hn r ih =>
    refine ih ?_
    obtain ⟨i, o, _, eo, _, rfl⟩ := nxt_some hn
    exact (g.ok o (List.mem_of_getElem? eo)).at_
theorem sent_addr {os : List Ordr} (g : Good os) {td : Int} {s : Pt} (h : isAddrB (.str s.1) = true) : isAddrB (.str (sentF os td s).1) = true := by
  unfold sentF
  split
  · rename_i q
    obtain ⟨n, w, _⟩ := Classical.choose_spec q
    exact way_addr g w h
  · exact h
theorem row_addr {os : List Ordr} (g : Good os) {td : Int} {x : LRow} (h : isAddrB (.str x.1) = true) : isAddrB (.str (rowF os td x).1) = true := by
  unfold rowF
  split
  · exact h
  · exact sent_addr g h
structure StepOk (S S' : Scn) : Prop where
  ok : S'.Ok
  rows : S'.rows.length ≤ S.rows.length + 1
  os : S'.os.length ≤ S.os.length + 1
  d0 : S.day ≤ S'.day
  d1 : S'.day ≤ S.day + 400
theorem StepOk.refl {S : Scn} (ok : S.Ok) : StepOk S S := ⟨ok, by omega, by omega, Int.le_refl _, by omega⟩
theorem actF_bad {S : Scn} {d : Deed} (h : (actF S d).1.bad = true) : (actF S d).2 = S := by
  cases d with
  | post y =>
    cases c : isAddrB y with
    | false => rw [actF_post0 c]
    | true => rw [actF_post1 c] at h; cases h
  | pass v =>
    cases c : isIntB v 0 400 with
    | false => rw [actF_pass0 c]
    | true => rw [actF_pass1 c] at h; cases h
  | give o =>
    cases o with
    | none => rfl
    | some o =>
      by_cases c : (decide (1 ≤ o.way) && decide (o.way ≤ 30)) = true ∧ (S.os.any fun p => overB p o) = false
      · rw [actF_give1 c.1 c.2] at h; cases h
      · rw [actF_give0 c]
  | stop v =>
    cases c : isIntB v 0 ((S.os.length : Int) - 1) with
    | false => rw [actF_stop0 c]
    | true =>
      obtain ⟨e, h0, h1⟩ := isIntB_int c
      obtain ⟨n, en⟩ := Int.eq_ofNat_of_zero_le h0
      rw [en] at e h1
      subst e
      have hn : n < S.os.length := by have : ((n : Nat) : Int) ≤ _ := h1; omega
      rw [actF_stop1 (List.getElem?_eq_getElem hn)] at h ⊢
      split at h
      · cases h
      · rename_i q
        rw [if_neg q]
theorem actF_ok {S : Scn} {d : Deed} (ok : S.Ok) (dk : d.Ok) (hl : S.os.length < 30) : StepOk S (actF S d).2 := by
  cases d with
  | post y =>
    cases c : isAddrB y with
    | false => rw [actF_post0 c]; exact .refl ok
    | true =>
      rw [actF_post1 c]
      refine ⟨⟨ok.good, fun x hx => ?_⟩, by rw [List.length_append]; exact Nat.le_refl _, by show S.os.length ≤ _; omega, Int.le_refl _, by show S.day ≤ _; omega⟩
      rcases List.mem_append.mp hx with z | z
      · exact ok.addr x z
      · rw [List.mem_singleton.mp z]
        refine sent_addr ok.good ?_
        rw [← isAddrB_str c]
        exact c
  | pass v =>
    cases c : isIntB v 0 400 with
    | false => rw [actF_pass0 c]; exact .refl ok
    | true =>
      rw [actF_pass1 c]
      obtain ⟨_, h0, h1⟩ := isIntB_int c
      refine ⟨⟨ok.good, fun x hx => ?_⟩, by show (List.map _ _).length ≤ _; rw [List.length_map]; omega, by show S.os.length ≤ _; omega, by show S.day ≤ S.day + intV v; omega, by show S.day + intV v ≤ _; omega⟩
      obtain ⟨y, hy, rfl⟩ := List.mem_map.mp hx
      exact row_addr ok.good (ok.addr y hy)
  | give o =>
    cases o with
    | none => exact .refl ok
    | some o =>
      by_cases c : (decide (1 ≤ o.way) && decide (o.way ≤ 30)) = true ∧ (S.os.any fun p => overB p o) = false
      · rw [actF_give1 c.1 c.2]
        exact ⟨⟨ok.good.snocP (RawW.ok dk c.1) hl c.2, ok.addr⟩, by show S.rows.length ≤ _; omega, by show (S.os ++ [o]).length ≤ _; rw [List.length_append]; exact Nat.le_refl _, Int.le_refl _, by show S.day ≤ _; omega⟩
      · rw [actF_give0 c]; exact .refl ok
  | stop v =>
    cases c : isIntB v 0 ((S.os.length : Int) - 1) with
    | false => rw [actF_stop0 c]; exact .refl ok
    | true =>
      obtain ⟨e, h0, h1⟩ := isIntB_int c
      obtain ⟨n, en⟩ := Int.eq_ofNat_of_zero_le h0
      rw [en] at e h1
      subst e
      have hn : n < S.os.length := by have : ((n : Nat) : Int) ≤ _ := h1; omega
      have eo := List.getElem?_eq_getElem hn
      rw [actF_stop1 eo]
      split
      · rename_i q
        exact ⟨⟨ok.good.shrink eo (by omega) (by omega), ok.addr⟩, by show S.rows.length ≤ _; omega, by show (S.os.set _ _).length ≤ _; rw [List.length_set]; omega, Int.le_refl _, by show S.day ≤ _; omega⟩
      · exact .refl ok
def Err.Flat (e : Err) : Prop := ∀ v ∈ (errT e).2, flatI v
theorem actF_flat {S : Scn} {d : Deed} (dl : d.Law) (hl : S.os.length < 1000) {e : Err} (h : (actF S d).1 = .err e) : e.Flat := by
  have one : ∀ {v : V} {nm : Str}, flatI v → errT e = (nm, [v]) → e.Flat := fun {v nm} fv en => by
    unfold Err.Flat
    rw [en]
    intro u hu
    rw [List.mem_singleton.mp hu]
    exact fv
  have len : flatI (.int (S.os.length : Nat)) := by
    show ((S.os.length : Nat) : Int).natAbs.log2 < 1920
    rw [Int.natAbs_natCast]
    have := Nat.log2_le_self S.os.length
    omega
  cases d with
  | post y =>
    cases c : isAddrB y with
    | false => rw [actF_post0 c] at h; cases h; intro v hv; cases hv
    | true => rw [actF_post1 c] at h; cases h
  | pass v =>
    cases c : isIntB v 0 400 with
    | false => rw [actF_pass0 c] at h; cases h; intro v hv; cases hv
    | true => rw [actF_pass1 c] at h; cases h
  | give o =>
    cases o with
    | none => cases h; exact one len rfl
    | some o =>
      by_cases c : (decide (1 ≤ o.way) && decide (o.way ≤ 30)) = true ∧ (S.os.any fun p => overB p o) = false
      · rw [actF_give1 c.1 c.2] at h; cases h
      · rw [actF_give0 c] at h; cases h; exact one len rfl
  | stop v =>
    cases c : isIntB v 0 ((S.os.length : Int) - 1) with
    | false => rw [actF_stop0 c] at h; cases h; exact one dl rfl
    | true =>
      obtain ⟨e', h0, h1⟩ := isIntB_int c
      obtain ⟨n, en⟩ := Int.eq_ofNat_of_zero_le h0
      rw [en] at e' h1
      subst e'
      have hn : n < S.os.length := by have : ((n : Nat) : Int) ≤ _ := h1; omega
      rw [actF_stop1 (List.getElem?_eq_getElem hn)] at h
      split at h
      · cases h
      · cases h; exact one (v := .int ((n : Nat) : Int)) dl rfl
def Err.live : Err → Prop
  | .address => True
  | .number => True
  | .order _ => True
  | .unknown _ => True
  | .holding _ => True
  | _ => False
theorem actF_live {S : Scn} {d : Deed} {e : Err} (h : (actF S d).1 = .err e) : e.live := by
  cases d with
  | post y =>
    cases c : isAddrB y with
    | false => rw [actF_post0 c] at h; cases h; exact True.intro
    | true => rw [actF_post1 c] at h; cases h
  | pass v =>
    cases c : isIntB v 0 400 with
    | false => rw [actF_pass0 c] at h; cases h; exact True.intro
    | true => rw [actF_pass1 c] at h; cases h
  | give o =>
    cases o with
    | none => cases h; exact True.intro
    | some o =>
      by_cases c : (decide (1 ≤ o.way) && decide (o.way ≤ 30)) = true ∧ (S.os.any fun p => overB p o) = false
      · rw [actF_give1 c.1 c.2] at h; cases h
      · rw [actF_give0 c] at h; cases h; exact True.intro
  | stop v =>
    cases c : isIntB v 0 ((S.os.length : Int) - 1) with
    | false => rw [actF_stop0 c] at h; cases h; exact True.intro
    | true =>
      obtain ⟨e', h0, h1⟩ := isIntB_int c
      obtain ⟨n, en⟩ := Int.eq_ofNat_of_zero_le h0
      rw [en] at e' h1
      subst e'
      have hn : n < S.os.length := by have : ((n : Nat) : Int) ≤ _ := h1; omega
      rw [actF_stop1 (List.getElem?_eq_getElem hn)] at h
      split at h
      · cases h
      · cases h; exact True.intro
end MF
set_option Elab.async false
set_option linter.all false
set_option maxRecDepth 100000
set_option maxHeartbeats 1000000
namespace MF
open PySem PySem.Spec PyProof.Rows L2 StX
structure SMDef (K : PySem.W.Frag) (C : Addr) (m qual : Str) (st : Stmt) (p1 pv : Str) : Prop where
  ex : ∃ f fd, Fun K m qual st f fd ∧ Meth K C m f ∧ ∀ us rest : List Value, us.length = [p1].length → bindArgs fd ⟨us ++ rest, []⟩ = (newTuple rest >>= fun t => pure ([p1].zip us ++ [(pv, t)]))
theorem SMDef.fn0 {P : Program} {w : World} {K : PySem.W.Frag} {mg : Str → Option Value} {base : Heap} {k : Nat} {C : Addr} {m qual p1 pv : Str} {st : Stmt} {N : List Str} {sp : Sp} (D : SMDef K C m qual st p1 pv) (S : FnScope N [p1, pv] (defScope st))
    (hbody : ∀ (f : Addr) (cdv : Value) (A : Around) (outer : List Env) (s : Shared) (H : Hp) (vs : List V) (Q : VK) (E : XK), Room k (A.deeper (envOfC qual (defScope st) s.heap.objs.size f cdv)) → sp vs H Q E →
      ∃ t, PSs (cxOf CX0 P w K mg base N qual (defScope st) f cdv A outer s H E).nox (defBody st) t ∧ t { nx := fun _ H' => Q .non H', rt := Q } (start N vs) H) :
    MFn P w K mg base CX0 (k + 1) C m (fun vs H Q E => ∃ v rest, vs = v :: rest ∧ rest.length ≤ sizeLine ∧ ∀ p, H p = Option.none → sp [v, V.ref p] (upd H p (.tup rest)) Q E) := by
  obtain ⟨f, fd, F, M, hb⟩ := D.ex
  obtain ⟨oc, od, kV, doc, pm, an, cdv, ct, osl, rfl, lk, hcd⟩ := F.ex
  refine ⟨f, (fn_star (ps := [p1]) (pv := pv) (sp := sp) lk hcd S cxUp_none hb fun A outer s H vs Q E hr hsp => ?_).imp fun vs H Q E h => ?_, M⟩
  · obtain ⟨t, h, q⟩ := hbody f cdv A outer s H vs Q E hr hsp
    exact ⟨t, h.nox, q⟩
  · obtain ⟨v, rest, rfl, hl, q⟩ := h
    exact ⟨[v], rest, rfl, rfl, hl, q⟩
theorem op_notIn_seqK {X : Cx} {K : PySem.W.Frag} (h : X.K = K := by rfl) : OpR X (compareOp .NotIn) (rIn K true) := h ▸ op_notIn_seq
theorem op_in_seqK {X : Cx} {K : PySem.W.Frag} (h : X.K = K := by rfl) : OpR X (compareOp .In) (rIn K false) := h ▸ op_in_seq
end MF
set_option Elab.async false
set_option linter.all false
set_option maxRecDepth 100000
set_option maxHeartbeats 1000000
namespace MF
open PySem PySem.Spec PyProof.Rows L2 StX ClX
section
variable {P : Program} {w : World} {K : PySem.W.Frag} {mg : Str → Option Value} {base : Heap} {k : Nat} {C : Addr} {m qual p1 pv : Str} {ps : List Str} {st : Stmt} {N : List Str} {sp : Sp}
theorem SMDef.fnX (D : SMDef K C m qual st p1 pv) (S : FnScope N [p1, pv] (defScope st))
    (hbody : ∀ (f : Addr) (cdv : Value) (A : Around) (outer : List Env) (s : Shared) (H : Hp) (vs : List V) (Q : VK) (E : XK), Room k (A.deeper (envOfC qual (defScope st) s.heap.objs.size f cdv)) → sp vs H Q E →
      ∃ t, PSs (cxOf (L2.CX P w) P w K mg base N qual (defScope st) f cdv A outer s H E) (defBody st) t ∧ t { nx := fun _ H' => Q .non H', rt := Q } (start N vs) H) :
    MFn P w K mg base (L2.CX P w) (k + 1) C m (fun vs H Q E => ∃ v rest, vs = v :: rest ∧ rest.length ≤ sizeLine ∧ ∀ p, H p = Option.none → sp [v, V.ref p] (upd H p (.tup rest)) Q E) := by
  obtain ⟨f, fd, F, M, hb⟩ := D.ex
  obtain ⟨oc, od, kV, doc, pm, an, cdv, ct, osl, rfl, lk, hcd⟩ := F.ex
  refine ⟨f, (fn_star (ps := [p1]) (pv := pv) (sp := sp) lk hcd S cxUp hb fun A outer s H vs Q E hr hsp => hbody f cdv A outer s H vs Q E hr hsp).imp fun vs H Q E h => ?_, M⟩
  obtain ⟨v, rest, rfl, hl, q⟩ := h
  exact ⟨[v], rest, rfl, rfl, hl, q⟩
theorem CDef.fnX (D : CDef K C m qual st ps pv) (S : FnScope N (ps ++ [pv]) (defScope st))
    (hbody : ∀ (f : Addr) (cdv : Value) (A : Around) (outer : List Env) (s : Shared) (H : Hp) (vs : List V) (Q : VK) (E : XK), Room k (A.deeper (envOfC qual (defScope st) s.heap.objs.size f cdv)) → sp vs H Q E →
      ∃ t, PSs (cxOf (L2.CX P w) P w K mg base N qual (defScope st) f cdv A outer s H E) (defBody st) t ∧ t { nx := fun _ H' => Q .non H', rt := Q } (start N vs) H) :
    CFn P w K mg base (L2.CX P w) (k + 1) C m (fun vs H Q E => ∃ ws rest, vs = ws ++ rest ∧ ws.length = ps.length ∧ rest.length ≤ sizeLine ∧ ∀ p, H p = Option.none → sp (ws ++ [V.ref p]) (upd H p (.tup rest)) Q E) := by
  obtain ⟨mc, p, f, fd, F, R, M, hb⟩ := D.ex
  obtain ⟨oc, od, kV, doc, pm, an, cdv, ct, osl, rfl, lk, hcd⟩ := F.ex
  exact ⟨mc, p, f, fn_star (ps := ps) (pv := pv) (sp := sp) lk hcd S cxUp hb fun A outer s H vs Q E hr hsp => hbody f cdv A outer s H vs Q E hr hsp, R, M⟩
end
theorem pe_cmX {X : Cx} {CX : CXT} {k : Nat} {C : Addr} {m : Str} {sp : Sp} {E : XK} {o e : Expr} {es : List Expr} {ta : TE} {t : TA} {pos apos : Pos} {pl : Sem Bool} (G : CFn X.prog X.w X.K X.mg X.base CX k C m sp) (hr : Room k X.A) (hx : Passes CX X E) (he : PE X o ta) (ha : PA X (e :: es) t)
    (hst : starEach (e :: es) X.env = (false, eval e X.env) :: starEach es X.env := by rfl) (hpl : (backTo pos (starEach es X.env)).any (·.1) = false := by rfl)
    (ht : eval (.Call (.Attribute o m apos) (e :: es) [] pos) X.env = (do
      let ov ← eval o X.env
      standAt apos.atName
      let (f, first) ← holding [ov] (getMethod ov m pl)
      callWith pos f first (backTo pos (starEach (e :: es) X.env)) (backToKw pos (keywordEach [] X.env))) := by rfl) :
    PE X (.Call (.Attribute o m apos) (e :: es) [] pos) (tCMeth C sp E ta t) := by
  obtain ⟨mc, p, f, F, R, M⟩ := G.ex
  exact pe_cmeth he R M F hr hx ha hst hpl ht
end MF
set_option Elab.async false
set_option linter.all false
set_option maxRecDepth 100000
set_option maxHeartbeats 1000000
namespace MF
open PySem PySem.Spec PyProof.Rows L2 StX ClX
structure CPDef (K : PySem.W.Frag) (C : Addr) (m qual : Str) (st : Stmt) (ps : List Str) : Prop where
  ex : ∃ mc p f fd, Fun K m qual st f fd ∧ CRead K C mc ∧ CMet K C mc m p f ∧ Binds K fd ps []
theorem CPDef.fn {P : Program} {w : World} {K : PySem.W.Frag} {mg : Str → Option Value} {base : Heap} {CX : CXT} {k : Nat} {C : Addr} {m qual : Str} {st : Stmt} {ps : List Str} {sp : Sp} (D : CPDef K C m qual st ps) (h : ∀ f fd, Fun K m qual st f fd → FnOk P w K mg base CX k f fd ps sp) : CFn P w K mg base CX k C m sp :=
  let ⟨mc, p, f, fd, F, R, M, hb⟩ := D.ex
  ⟨mc, p, f, raw0 (h f fd F) hb, R, M⟩
theorem CPDef.fnX {P : Program} {w : World} {K : PySem.W.Frag} {mg : Str → Option Value} {base : Heap} {k : Nat} {C : Addr} {m qual : Str} {st : Stmt} {ps N : List Str} {sp : Sp} (D : CPDef K C m qual st ps) (S : FnScope N ps (defScope st)) (len : ∀ vs H Q E, sp vs H Q E → vs.length = ps.length)
    (hbody : ∀ (f : Addr) (cdv : Value) (A : Around) (outer : List Env) (s : Shared) (H : Hp) (vs : List V) (Q : VK) (E : XK), Room k (A.deeper (envOfC qual (defScope st) s.heap.objs.size f cdv)) → sp vs H Q E →
      ∃ t, PSs (cxOf (L2.CX P w) P w K mg base N qual (defScope st) f cdv A outer s H E) (defBody st) t ∧ t { nx := fun _ H' => Q .non H', rt := Q } (start N vs) H) : CFn P w K mg base (L2.CX P w) (k + 1) C m sp :=
  D.fn fun f fd F => by
    obtain ⟨oc, od, kV, doc, pm, an, cdv, ct, osl, rfl, lk, hcd⟩ := F.ex
    exact fn_of lk hcd S len fun A outer s H vs Q E hr hsp => hbody f cdv A outer s H vs Q E hr hsp
theorem pe_mkL {X : Cx} {CX : CXT} {k i : Nat} {C : Addr} {x y : Str} {sp : Sp} {E : XK} {e : Expr} {es : List Expr} {t : TA} {p pos : Pos} (G : IFn X.prog X.w X.K X.mg X.base CX k C y sp) (hr : Room (k + 1) X.A) (hx : Passes CX X E) (hN : X.N[i]? = some x) (hv : Vis X.env.scope x) (ha : PA X (e :: es) t)
    (hdb : (x == ("__debug__" : Str)) = false := by decide) (hcd : (x == ("__classdict__" : Str)) = false := by decide)
    (he : starEach (e :: es) X.env = (false, eval e X.env) :: starEach es X.env := by rfl) (hpl : (backTo pos (starEach es X.env)).any (·.1) = false := by rfl) : PE X (.Call (.Name x p) (e :: es) [] pos) (tMkL i C sp E t) := by
  obtain ⟨f, F, M, hm⟩ := G.ex
  refine ⟨fun pins s σ H Q I h => ?_⟩
  obtain ⟨hs, ht⟩ := h
  refine wpAny_Call_Name_kw (thn ((pe_var (pos := p) hN hv hdb hcd).run pins s σ H (fun v H1 => v = .ref C ∧ H1 = H) I ⟨.ref C, hs, rfl, rfl⟩) fun u s1 ⟨v, H1, I1, r1, q1⟩ => ?_)
  obtain ⟨rfl, rfl⟩ := q1
  cases r1
  refine PySem.W.callWith_K (first := []) (h₀ := X.base) I.ok.mod.kin M.kp (thn (ha.run pos pins s1 σ _ _ I1 ht) fun us s2 ⟨vs, H2, I2, rv, q2⟩ => ⟨I2.kIn, ?_⟩) he hpl
  exact run_makeR M F hr hx I2 rv q2
end MF
set_option Elab.async false
set_option linter.all false
set_option maxRecDepth 100000
set_option maxHeartbeats 1000000
namespace MF
open PySem PySem.Spec PyProof.Rows L2 StX
section
variable {X : Cx} {CX : CXT} {k : Nat} {C f : Addr} {sp : Sp} {E : XK}
def rInO (C : Addr) (sp : Sp) (E : XK) (neg : Bool) : R2 := fun x y H Q => ∃ a dx fs, y = .ref a ∧ H a = some (.ins C dx fs) ∧ sp [.ref a, x] H (fun v H' => ∃ b : Bool, v = .bl b ∧ Q (.bl (if neg = true then !b else b)) H') E
theorem truthy_bl {M : Model} {A : Around} {E : Value → Shared → Prop} {s : Shared} {b : Bool} {Q : Bool → Shared → Prop} (h : Q b s) : wpAny M A (truthy (.bool b)) Q E s := by
  first
    | exact wpAny_pure h
    | (unfold truthy; exact wpAny_pure h)
theorem op_inO (M : Meth X.K C "__contains__" f) (F : FnR X.prog X.w X.K X.mg X.base CX k f sp) (hr : Room k X.A) (hx : Passes CX X E) : OpR X (compareOp .In) (rInO C sp E false) := by
  rintro pins s σ H x y u v Q I rx ry ⟨a, dx, fs, rfl, ea, h⟩
  obtain rfl : v = Value.ref a := ry
  obtain ⟨mA, O, _⟩ := ins_get I.hok ea
  obtain ⟨od, ia, _⟩ := O.look
  obtain ⟨mm, fr⟩ := I.fr
  refine PySem.W.in_K fr I.mod.kin ia M.at_ M.fn ?_
  refine thn (wpAny_call (run_fnR (us := [.ref a, u]) (vs := [.ref a, x]) F hr hx I (.cons rfl (.cons rx .nil)) h)) fun r s' hq => ?_
  obtain ⟨z, H', I', rz, b, rfl, q⟩ := hq
  cases (show r = Value.bool b from rz)
  exact truthy_bl ⟨.bl b, H', I', rfl, q⟩
theorem op_notInO (M : Meth X.K C "__contains__" f) (F : FnR X.prog X.w X.K X.mg X.base CX k f sp) (hr : Room k X.A) (hx : Passes CX X E) : OpR X (compareOp .NotIn) (rInO C sp E true) := by
  rintro pins s σ H x y u v Q I rx ry ⟨a, dx, fs, rfl, ea, h⟩
  obtain rfl : v = Value.ref a := ry
  obtain ⟨mA, O, _⟩ := ins_get I.hok ea
  obtain ⟨od, ia, _⟩ := O.look
  obtain ⟨mm, fr⟩ := I.fr
  refine PySem.W.notIn_K fr I.mod.kin ia M.at_ M.fn ?_
  refine thn (wpAny_call (run_fnR (us := [.ref a, u]) (vs := [.ref a, x]) F hr hx I (.cons rfl (.cons rx .nil)) h)) fun r s' hq => ?_
  obtain ⟨z, H', I', rz, b, rfl, q⟩ := hq
  cases (show r = Value.bool b from rz)
  exact truthy_bl ⟨.bl (!b), H', I', rfl, q⟩
def rEqD0 : R2 := fun x y H Q => ∃ a b ks, x = .ref a ∧ y = .ref b ∧ H a = some (.dK ks) ∧ H b = some (.dK []) ∧ Q (.bl (decide (ks = []))) H
theorem op_eq_dict0 (hu : X.A.units < cLine) : OpR X (compareOp .Eq) rEqD0 := by
  intro pins s σ H x y v u Q I rx ry h
  obtain ⟨a, b, ks, rfl, rfl, ea, eb, q⟩ := h
  obtain rfl : v = Value.ref a := rx
  obtain rfl : u = Value.ref b := ry
  obtain ⟨_, ya, va, ra, da⟩ := (show ObjOk X.prog X.w H s.heap a (.dK ks) from I.hok a _ ea)
  obtain ⟨_, yb, vb, rb, db⟩ := (show ObjOk X.prog X.w H s.heap b (.dK []) from I.hok b _ eb)
  have l1 := ra.length
  have l2 := rb.length
  cases ks with
  | nil =>
    cases ra
    cases rb
    refine PySem.W.keq_eq (knd := mixKind X.prog X.w) (r := true) ya yb da db hu (fun _ => ?_) (fin_bl I q (by simp))
    exact hits_all .nil .nil (fun p hp => by cases hp)
  | cons c cs =>
    refine PySem.W.keq_eq (knd := mixKind X.prog X.w) (r := true) ya yb da db hu (fun e => ?_) (fin_bl I q ?_)
    · rw [← l1, ← l2] at e
      simp at e
    · have : (va.length == vb.length) = false := by rw [← l1, ← l2]; simp
      rw [this]
      simp
end
theorem dc_itW {J : It} {n : Nat} {Gd : Hp → Prop} {Y : Nat → Hp → V → Hp → Prop} {g : TG} {tt : TT} {tk tv : TE} {vs : List Nat} {σ : L2.St} {H1 : Hp} {D : Addr} {Qd : Hp → Prop} (k : Walk J n Gd Y) (Pv : Nat → Hp → Prop) (h0 : Pv 0 (upd H1 D (.dK []))) (hl : ∀ i H, i ≤ n → Pv i H → Gd H)
    (hs : ∀ i x H H', i < n → Pv i H → Y i H x H' → g x (wipe σ vs) H' fun σ2 H2 => wipe σ2 vs = wipe σ vs ∧ tt σ2 H2 fun b H3 =>
      if b = true then tk σ2 H3 fun y H4 => tv σ2 H4 fun z H5 => ∃ kvs k, y = kV k ∧ H5 D = some (.dK kvs) ∧ kvs.length < sizeLine ∧ Pv (i + 1) (upd H5 D (.dK (putK kvs k z))) else Pv (i + 1) H3) (hd : ∀ H, Pv n H → Qd H) :
    ∃ W : Nat → Nat → Hp → Prop, (∃ m, W 0 m (upd H1 D (.dK []))) ∧ ∀ i m H, W i m H →
      (J.stop i H ∧ Qd H) ∨ (J.go i H ∧ ∃ Nx : Hp → Prop, (∀ H', Nx H' → ∃ m', m' < m ∧ W (i + 1) m' H') ∧ ∀ x H', J.yld i H x H' → g x (wipe σ vs) H' fun σ2 H2 => wipe σ2 vs = wipe σ vs ∧ tt σ2 H2 fun b H3 =>
        if b = true then tk σ2 H3 fun y H4 => tv σ2 H4 fun z H5 => ∃ kvs k, y = kV k ∧ H5 D = some (.dK kvs) ∧ kvs.length < sizeLine ∧ Nx (upd H5 D (.dK (putK kvs k z))) else Nx H3) := by
  refine ⟨fun i m H => m = n - i ∧ i ≤ n ∧ Pv i H, ⟨n, by simp, Nat.zero_le _, h0⟩, ?_⟩
  rintro i m H ⟨rfl, hi, p⟩
  have q := hl i H hi p
  by_cases hlt : i < n
  · exact .inr ⟨k.goes i H hlt q, Pv (i + 1), fun H' p' => ⟨n - (i + 1), by omega, rfl, hlt, p'⟩, fun x H' y => hs i x H H' hlt p (k.yields i H x H' hlt q y)⟩
  · have e : i = n := by omega
    subst e
    exact .inl ⟨k.stops H q, hd H p⟩
theorem ps_setDc {X : Cx} {i : Nat} {y : Str} {py : Pos} {kx vx tg iter : Expr} {ifs : List Expr} {scope : Scope} {own : List (Str × Nat)} {pos spos : Pos} {wi : TI} {g : TG} {tt : TT} {tk tv : TE} (hc : X.calm = true) (hN : X.N.Nodup) (hy : X.N[i]? = some y) (hyl : X.env.scope.names.lookup y = some .local)
    (hsw : swapsWith (.DictComp kx vx [⟨tg, iter, ifs, 0⟩] scope pos) (some (.Name y py)) spos.line X.env = pure true) (hi : PI X tg iter wi) (ok : BlkOk X.N X.env.scope scope own)
    (hg : ∀ (s : Shared) (H : Hp) (C : Addr) (cl : List (Str × Addr)) (fp : List Addr), PG (X.blk s H scope (compEnvC scope cl C X.env) fp) tg g) (ht : ∀ (s : Shared) (H : Hp) (C : Addr) (cl : List (Str × Addr)) (fp : List Addr), PTs (X.blk s H scope (compEnvC scope cl C X.env) fp) ifs tt)
    (hk : ∀ (s : Shared) (H : Hp) (C : Addr) (cl : List (Str × Addr)) (fp : List Addr), PE (X.blk s H scope (compEnvC scope cl C X.env) fp) kx tk)
    (he : ∀ (s : Shared) (H : Hp) (C : Addr) (cl : List (Str × Addr)) (fp : List Addr), PE (X.blk s H scope (compEnvC scope cl C X.env) fp) vx tv) (hs : ∀ x, foldedSetIterable iter X.env x = pure x := by intro _; rfl) :
    PS X (.Assign [.Name y py] (.DictComp kx vx [⟨tg, iter, ifs, 0⟩] scope pos) spos) (tAsg (tDc wi g tt tk tv (own.map (·.2))) (gName i)) := by
  refine ⟨fun pins s σ H D I h => ?_⟩
  rw [exec_Assign_Name_used _ _ _ _ hsw]
  refine wpAny_bind (wpAny_standAt (wpAny_bind ?_))
  show wpAny _ X.A (do let _ ← comprehension (.DictComp kx vx [⟨tg, iter, ifs, 0⟩] scope pos) scope X.env (firstIterPos [⟨tg, iter, ifs, 0⟩] pos) newDict false (eval iter X.env) (some (assign (.Name y py) X.env))) _ _ s
  have h : tDc wi g tt tk tv (own.map (·.2)) σ H (fun x H1 => gName i x σ H1 D.nx) := h
  refine wpAny_bind (thn (dc_core (Qf := fun _ s' => SP X pins D .next s') hc hN I hi ok hg ht hk he hs h fun L C s' m H' I' q hn f => ?_) fun _ s' hq => wpAny_pure (wpAny_pure hq))
  show wpAny _ _ (assign (.Name y py) X.env (.ref L)) _ _ _
  refine wpAny_assign_Name (store_ok2 (v := V.ref L) I' hN hy (.inl hyl) rfl (fun s2 I2 ⟨a, sb, ha⟩ => ?_) (.inr hyl))
  obtain ⟨f0, f1, f2, f3, f4, f5⟩ := f
  have haC : C ≠ a := by
    rcases ha with z | z
    · rw [z]; exact f1
    · exact fun e => f4 y a z e.symm
  refine ⟨m, hn.sameBut sb haC, fun h3 sb3 => ?_⟩
  exact ⟨_, H', I2.turned (t' := s2.toks) (fun b o hb e => (sb3.2 b hb).trans e) f0 f1 f3 f4 f5, q⟩
theorem sw_trueD {kx vx : Expr} {gs : List Comprehension} {scope : Scope} {pos py : Pos} {y : Str} {l : Nat} {env : Env} (hk : env.scope.kind = .function) (hy : env.scope.names.lookup y = some .local) (hl : (py.line == pos.line) = true)
    (ha : (scope.names.any fun (n, k) => n == y && (k == .local || k == .cell)) = false) : swapsWith (.DictComp kx vx gs scope pos) (some (.Name y py)) l env = pure true := by
  have ky : env.kindOf y = some .local := hy
  have hb : env.blockKind = .function := by unfold Env.blockKind; rw [hk]; rfl
  unfold swapsWith
  simp only [hb, ky, ha, Expr.pos, hl]
  rfl
end MF
set_option Elab.async false
set_option linter.all false
set_option maxRecDepth 100000
set_option maxHeartbeats 1000000
namespace MF
open PySem PySem.Spec PyProof.Rows L2 StX
section
variable {prog : Program} {w : World} {A : Around} {E : Value → Shared → Prop} {s : Shared} {env : Env}
theorem unpack_starT {t : Addr} {items : Array Value} {Q : List Value → Shared → Prop} (ht : IsTup s.heap t items) (hh : A.handled = none) (hn : 1 ≤ items.size) (hz : items.size ≤ sizeLine)
    (h : ∀ h' tk, Heap.ExtBut s.heap.objs.size s.heap h' → Q ([.ref h'.objs.size] ++ items.toList.drop (items.size - 1)) { s with heap := h'.push { cls := .type "list", data := .seq (items.toList.take (items.size - 1)).toArray }, toks := tk }) :
    wpAny (model prog w) A (unpackItems (.ref t) 2 (some 0)) Q E s := by
  have hlt : t ≠ s.heap.objs.size := by obtain ⟨o, ho, _⟩ := ht; exact Nat.ne_of_lt (Heap.lt_size ho)
  have hll : t < s.heap.objs.size := by obtain ⟨o, ho, _⟩ := ht; exact Heap.lt_size ho
  unfold unpackItems
  refine wpAny_bind ?_
  unfold notIterableAtAll
  refine wpAny_bind (wpAny_specialOf ht.typeIs slot_tuple_iter.lookup ?_)
  refine wpAny_pure ?_
  simp only [Bool.false_eq_true, if_false]
  refine wpAny_bind (wpAny_holding (iter_tuple ht ?_))
  refine wpAny_bind (wpAny_holding (draw_tuple hlt 0 0 _ _ ⟨_, Heap.get?_push_size _ rfl, rfl, rfl⟩ (ht.push _) (by omega) fun h₁ hit₁ hs₁ => ?_))
  have hl₁ : IsTup h₁ t items := (ht.push _).extBut hs₁.extBut hlt
  rw [Nat.zero_add] at hit₁
  have hit₁' := hit₁
  obtain ⟨oi, hoi, _⟩ := hit₁'
  have hl₁' := hl₁
  obtain ⟨ol, hol, _⟩ := hl₁'
  rw [List.take_zero]
  rw [if_neg (show ¬ (([] : List Value).length < 0) by exact Nat.lt_irrefl 0)]
  refine wpAny_bind (wpAny_holding (PySem.W.kun_collect (s := { s with heap := h₁ }) (T := "tuple_iterator") (.inr (.inr (.inr rfl))) (Walks.tuple (A := A.in1) hh s.heap.objs.size t hlt items) (fun j u st => st.1.typeIs) (k := 0) (by omega) ⟨hit₁, hl₁⟩ (Heap.lt_size hoi) (Heap.lt_size hol) (fun h₂ tk hk => ?_) hz))
  rw [List.drop_zero]
  have hrl : items.toList.length = items.size := Array.length_toList
  show wpAny _ _ (if items.toList.length < 2 - 1 - 0 then _ else _) _ _ _
  rw [if_neg (by rw [hrl]; omega)]
  show wpAny _ _ (newList (items.toList.take (items.toList.length - (2 - 1 - 0))) >>= fun d => pure ([] ++ [d] ++ items.toList.drop (items.toList.length - (2 - 1 - 0)))) _ _ _
  rw [hrl]
  have he : Heap.ExtBut s.heap.objs.size s.heap h₂ := fun b o hb e => hk b o hb (hs₁.extBut b o hb (Heap.get?_push_of_some _ e))
  exact wpAny_bind (wpAny_newList (s := { s with heap := h₂, toks := tk }) (wpAny_pure (h h₂ tk he)))
end
section
variable {X : Cx}
def gStar (K : PySem.W.Frag) (t : TGs) : TG := fun v σ H Q => ∃ a xs y, v = .ref a ∧ SqT K H a (xs ++ [y]) ∧ ∀ D, H D = none → t [.ref D, y] σ (upd H D (.lst xs)) Q
theorem pg_starT {es : List Expr} {k : Nat} {t : TGs} {pos : Pos} (hc : X.calm = true) (h : PGs X es t)
    (hn : (assignEach es X.env).length = 2 := by rfl) (hst : (assignEach es X.env).findIdx? (·.1) = some 0 := by rfl) : PG X (.Tuple es k pos) (gStar X.K t) := by
  refine ⟨fun pins s σ H v u Q I r hw => ?_⟩
  obtain ⟨a, xs, y, e1, hq, hw⟩ := hw
  subst e1
  cases r
  obtain ⟨its, rv, ht, hz⟩ := I.tuple hq
  have hl := rv.length
  rw [List.length_append] at hl hz
  simp only [List.length_cons, List.length_nil] at hl hz
  obtain ⟨u1, u2, e, r1, r2⟩ := vals_split rv
  have l1 := r1.length
  have l2 := r2.length
  subst e
  rw [assign_Tuple]
  refine wpAny_bind (wpAny_standAt ?_)
  unfold unpack
  rw [hn, hst]
  refine wpAny_bind (wpAny_holding (unpack_starT ht (I.ok.hd hc) (by simp at hl l1 l2 ⊢; omega) (by simp at hl l1 l2 hz ⊢; omega) fun h' tk hx => ?_))
  have I1 : Inv X pins σ H { s with heap := h', toks := tk } := I.kept (t' := tk) fun b o e => hx b o (Nat.ne_of_lt (Heap.lt_size e)) e
  have sz : (u1 ++ u2).toArray.size - 1 = u1.length := by simp at l1 l2 ⊢; omega
  rw [sz]
  simp only [List.toList_toArray, List.take_left', List.drop_left', List.take_left, List.drop_left]
  have I2 := I1.laid (t' := tk) (o := .lst xs) (h' := h'.push { cls := .type "list", data := .seq u1.toArray }) (fun b ob q => Heap.get?_push_of_some _ q) (Nat.le_refl _) ⟨by omega, _, 0, r1, Heap.get?_push_size _ rfl⟩
  exact h.run pins _ σ _ _ _ Q I2 (.cons (show RelV (.ref h'.objs.size) (.ref h'.objs.size) from rfl) r2) (hw _ (I1.hok.fresh (Nat.le_refl _)))
theorem pgs_star {e : Expr} {p : Pos} {es : List Expr} {t : TG} {u : TGs} (h1 : PG X e t) (h2 : PGs X es u)
    (hs : (assignEach (.Starred e p :: es) X.env).map (·.2) = assign e X.env :: (assignEach es X.env).map (·.2) := by rfl) : PGs X (.Starred e p :: es) (gCons t u) := by
  refine ⟨fun pins s σ H vs us Q I r h => ?_⟩
  obtain ⟨v, vr, e1, h⟩ := h
  subst e1
  cases r with
  | cons r rr =>
    rw [hs]
    refine assignInOrder_cons (thn (h1.run pins s σ H _ _ _ I r h) fun _ s1 ⟨σ1, H1, I1, q1⟩ => ?_)
    exact h2.run pins s1 σ1 H1 _ _ Q I1 rr q1
def rEqT0 (K : PySem.W.Frag) : R2 := fun x y H Q => ∃ a b xs, x = .ref a ∧ y = .ref b ∧ SqT K H a xs ∧ SqT K H b [] ∧ Q (.bl xs.isEmpty) H
theorem op_eqT0 (hu : X.A.units < cLine) : OpR X (compareOp .Eq) (rEqT0 X.K) := by
  intro pins s σ H x y v u Q I rx ry h
  obtain ⟨a, b, xs, rfl, rfl, ea, eb, q⟩ := h
  obtain rfl : v = Value.ref a := rx
  obtain rfl : u = Value.ref b := ry
  obtain ⟨ia, ra, ta, _⟩ := I.tuple ea
  obtain ⟨ib, rb, tb, _⟩ := I.tuple eb
  cases rb
  refine PySem.SeqAt.eq_tupleAt (e := fun _ => true) (items := ia.toArray) (items2 := #[]) ta tb hu (fun j _ h2 => absurd h2 (by simp)) ?_
  refine fin_bl I q ?_
  have := ra.length
  cases xs <;> cases ia <;> simp_all
end
end MF
set_option Elab.async false
set_option linter.all false
set_option maxRecDepth 100000
set_option maxHeartbeats 2000000
namespace MF
open PySem PySem.Spec PyProof.Rows L2 StX
def tAll (tfs : Addr → List (Addr × Obj) → TS) : TS := fun D σ H => ∀ a pn, tfs a pn D σ H
def tFin (X : Cx) (tb : ∀ (W : WX) (pn : List (Addr × Obj)) (xe : Value → Shared → Prop), Takes (X.tr pn xe) W → PassesOwn (model X.prog X.w) X.A X.env xe → TS) (tf : TS) (tfs : Addr → List (Addr × Obj) → TS) (Wout : WX) : TS := fun D σ H =>
  ∀ pn xe tk po, tb (wFin (tAll tfs) Wout) pn xe tk po { nx := fun σ1 H1 => tf D σ1 H1, rt := fun _ _ => False } σ H
section
variable {X : Cx} {body : List Stmt} {f₀ : Stmt} {fs : List Stmt} {pos : Pos} {tf : TS} {tfs : Addr → List (Addr × Obj) → TS} {Wout : WX}
theorem ps_fin {tb : ∀ (W : WX) (pn : List (Addr × Obj)) (xe : Value → Shared → Prop), Takes (X.tr pn xe) W → PassesOwn (model X.prog X.w) X.A X.env xe → TS} (hs : X.stack = X.env :: X.outer) (hf : X.env.frame = some X.env.locals) (hex : X.ex = []) (tk : Takes X Wout)
    (hb : ∀ (W : WX) (pn : List (Addr × Obj)) (xe : Value → Shared → Prop) (tk : Takes (X.tr pn xe) W) (po : PassesOwn (model X.prog X.w) X.A X.env xe), PSs (X.tr pn xe) body (tb W pn xe tk po))
    (hfin : PSs X.nox (f₀ :: fs) tf) (hsu : ∀ (a : Addr) (pn : List (Addr × Obj)), PSs (X.suite a pn) (f₀ :: fs) (tfs a pn)) : PS X (.Try body [] [] (f₀ :: fs) pos) (tFin X tb tf tfs Wout) := by
  refine ⟨fun pins s σ H D I h => ?_⟩
  have ok := I.ok
  have hsu' : ∀ (a : Addr) (pn : List (Addr × Obj)), PSs (X.suite a pn) (f₀ :: fs) (tAll tfs) := fun a pn => ⟨fun pins s σ H D I h => (hsu a pn).run pins s σ H D I (h a pn)⟩
  refine wpAny_Try_finally ?_
  have tk' : Takes (X.tr (X.pn ++ pins) fun x s₁ => wpAny (model X.prog X.w) X.A (noteFrame x X.env) (fun _ s₂ => FinallyRaised X.prog X.w X.A X.xe X.env (f₀ :: fs) (SP X pins D) x s₂) (FinallyRaised X.prog X.w X.A X.xe X.env (f₀ :: fs) (SP X pins D)) s₁) (wFin (tAll tfs) Wout) :=
    fun u s' xx => fin_exc hs hf hex ok tk hsu' xx
  refine wpAny_mono ((hb (wFin (tAll tfs) Wout) (X.pn ++ pins) _ tk' PassesOwn.looking).run [] s σ H { nx := fun σ1 H1 => tf D σ1 H1, rt := fun _ _ => False } (I.toTry _) (h _ _ _ _)) (fun g s1 z => ?_) (fun x s1 hx => hx)
  cases g with
  | ret u =>
    obtain ⟨_, _, _, _, _, q⟩ := z
    exact False.elim q
  | brk =>
    obtain ⟨_, _, _, q⟩ := z
    exact False.elim q
  | cont =>
    obtain ⟨_, _, _, q⟩ := z
    exact False.elim q
  | next =>
    obtain ⟨σ1, H1, J1, q1⟩ := z
    refine wpAny_execs_nil ?_
    refine wpAny_mono (hfin.run pins s1 σ1 H1 D ((J1.ofTry ok).wish _) q1) (fun g2 s2 q2 => ?_) fun _ _ e => False.elim e
    have q3 : SP X pins D g2 s2 := q2.unwish
    cases g2 <;> exact q3
end
theorem ps_forT {X : Cx} {pn : List (Addr × Obj)} {xe : Value → Shared → Prop} {tg iter : Expr} {body : List Stmt} {wi : TI} {g : TG} {tb : TS} {pos : Pos} (hp : PassesOwn (model X.prog X.w) X.A X.env xe) (hc : X.calm = true) (hi : PI (X.tr pn xe) tg iter wi) (hg : PG (X.tr pn xe) tg g) (hb : PSs (X.tr pn xe) body tb)
    (hs : ∀ x, foldedSetIterable iter X.env x = pure x := by intro _; rfl) : PS (X.tr pn xe) (.For tg iter body [] pos) (tFor wi g tb) := ps_for (X := X.tr pn xe) hp hc hi hg hb hs
section
variable {X : Cx} {CX : CXT} {k : Nat} {C : Addr} {sp : Sp} {E : L2.St → XK} {m : Str} {pos apos p : Pos} {e o : Expr} {es : List Expr} {ta te : TE} {t : TA}
theorem run_fnRS {pins : List (Addr × Obj)} {σ : L2.St} {H : Hp} {s : Shared} {f : Addr} {E : XK} {Q : VK} {us : List Value} {vs : List V} (F : FnR X.prog X.w X.K X.mg X.base CX k f sp) (hr : Room k X.A) (hx : PassesAt CX X σ E) (I : Inv X pins σ H s) (r : Vals vs us) (h : sp vs H Q E) :
    codeAny (model X.prog X.w) X.A (.call (.ref f) ⟨us, []⟩) (fun r s' => match r with | .ok (.ret v) => EP X pins σ Q v s' | .ok _ => False | .error e => X.xe e s') s := by
  refine codeAny_mono (F X.A X.stack s H us vs Q E hr I.env0 r h) fun r s' hq => ?_
  cases r with
  | error e => exact hx pins H s e s' I hq
  | ok fl =>
    cases fl with
    | ret u => exact I.after hq
    | next => exact False.elim hq
    | brk => exact False.elim hq
    | cont => exact False.elim hq
def tMS (C : Addr) (m : Str) (sp : Sp) (E : L2.St → XK) (ta : TE) (t : TA) : TE := fun σ H Q => ta σ H fun x H1 => ∃ a dx fs, x = .ref a ∧ H1 a = some (.ins C dx fs) ∧ fs.lookup m = none ∧ t σ H1 fun vs H2 => sp (x :: vs) H2 Q (E σ)
theorem pe_mXS {pl : Sem Bool} (G : MFn X.prog X.w X.K X.mg X.base CX k C m sp) (c : Cls X.K C) (hr : Room k X.A) (hx : ∀ σ, PassesAt CX X σ (E σ)) (he : PE X o ta) (ha : PA X (e :: es) t)
    (hst : starEach (e :: es) X.env = (false, eval e X.env) :: starEach es X.env := by rfl) (hpl : (backTo pos (starEach es X.env)).any (·.1) = false := by rfl)
    (ht : eval (.Call (.Attribute o m apos) (e :: es) [] pos) X.env = (do
      let ov ← eval o X.env
      standAt apos.atName
      let (f, first) ← holding [ov] (getMethod ov m pl)
      callWith pos f first (backTo pos (starEach (e :: es) X.env)) (backToKw pos (keywordEach [] X.env))) := by rfl) :
    PE X (.Call (.Attribute o m apos) (e :: es) [] pos) (tMS C m sp E ta t) := by
  obtain ⟨f, F, hm⟩ := G.ex
  refine ⟨fun pins s σ H Q I h => ?_⟩
  refine PySem.W.methodCall_KW (pl := pl) (thn (he.run pins s σ H _ I h) fun u s1 ⟨x, H1, I1, rx, a, dx, fs, ex, ea, l, q⟩ => ?_) ht
  subst ex
  obtain rfl : u = Value.ref a := rx
  refine getmeth_ok I1 ea c hm l ?_
  refine PySem.W.callWith_K (first := [.ref a]) (h₀ := X.base) I.ok.mod.kin hm.kp (thn (ha.run pos pins s1 σ H1 _ I1 q) fun us s2 ⟨vs, H2, I2, r, q2⟩ => ⟨I2.kIn, ?_⟩) hst hpl
  exact wpAny_call (run_fnRS (us := .ref a :: us) (vs := .ref a :: vs) F hr (hx σ) I2 (.cons rfl r) q2)
theorem bmeth_of {K : PySem.W.Frag} {C g : Addr} {m : Str} (hm : Meth K C m g) (fi : PySem.W.fnIn K g = true) (cp : PySem.W.copiedNames.contains m = false := by decide +kernel) : BMeth K C m g := by
  have ty : PySem.W.typeIn K (.ref g) = some (.type "function") := eq_of_beq hm.fn
  have sp : ∀ n r, PySem.W.findIn K (.type "function") n = r → PySem.W.specialIn K (.ref g) n = r := fun n r e => by
    unfold PySem.W.specialIn
    rw [ty]
    exact e
  refine ⟨hm, sp _ _ (by rfl), ?_, cp, fi⟩
  unfold PySem.W.takesIn
  rw [sp "__set__" (some none) (by rfl), sp "__delete__" (some none) (by rfl)]
  rfl
theorem star_lst {pins : List (Addr × Obj)} {σ : L2.St} {H : Hp} {s : Shared} {a : Addr} {xs : List V} {E : Value → Shared → Prop} {Q : List Value → Shared → Prop} (I : Inv X pins σ H s) (h : SqL X.K H a xs) (hQ : ∀ us s', Inv X pins σ H s' → Vals xs us → Q us s') :
    PySem.W.StarOf (model X.prog X.w) X.A E (.ref a) Q s := by
  obtain ⟨its, r, p, hz⟩ := I.list h
  obtain ⟨o, ho, hc, n, hd⟩ := p.isList
  have hT : s.TypeIs (.ref a) "list" := ⟨o, ho, hc⟩
  have hl := r.length
  have z : wpAny (model X.prog X.w) X.A (collect (.ref a)) Q E s := by
    refine wpAny_collect_seq a (.inl rfl) ho hc hd (fun h' hk => ?_) (by rw [List.size_toArray]; omega)
    have e : its.toArray.toList = its := by simp
    rw [e]
    exact hQ its _ (I.kept (t' := s.toks) hk) r
  unfold PySem.W.StarOf notIterableAtAll
  exact wpAny_bind (wpAny_specialOf hT PySem.F.slot_list_iter.lookup (wpAny_pure ⟨rfl, z⟩))
def tMStar (K : PySem.W.Frag) (C : Addr) (m : Str) (sp : Sp) (E : XK) (ta te : TE) : TE := fun σ H Q => ta σ H fun x H1 => ∃ a dx fs, x = .ref a ∧ H1 a = some (.ins C dx fs) ∧ fs.lookup m = none ∧
  ∀ q g, H1 q = none → te σ (upd H1 q (.met g a)) fun y H2 => ∃ b vs, y = .ref b ∧ (SqT K H2 b vs ∨ SqL K H2 b vs) ∧ H2 q = some (.met g a) ∧ sp (.ref a :: vs) H2 Q E
theorem pe_mStar {E : XK} (G : MFn X.prog X.w X.K X.mg X.base CX k C m sp) (fi : ∀ f, PySem.W.findIn X.K (.ref C) m = some (some (.ref f)) → PySem.W.fnIn X.K f = true) (c : Cls X.K C) (hr : Room k X.A) (hx : Passes CX X E) (he : PE X o ta) (ha : PE X e te)
    (cp : PySem.W.copiedNames.contains m = false := by decide +kernel) (hbase : attributeBase o m X.env (eval o X.env) = eval o X.env := by rfl) : PE X (.Call (.Attribute o m apos) [.Starred e p] [] pos) (tMStar X.K C m sp E ta te) := by
  obtain ⟨g, F, hm⟩ := G.ex
  have b : BMeth X.K C m g := bmeth_of hm (fi g hm.at_) cp
  refine ⟨fun pins s σ H Q I h => ?_⟩
  refine starcall_of hbase (thn (he.run pins s σ H _ I h) fun u s1 ⟨x, H1, I1, rx, a, dx, fs, ex, ea, l, q⟩ => ?_)
  subst ex
  obtain rfl : u = Value.ref a := rx
  refine getbound_ok I1 ea c b l fun q1 s2 hq1 I2 => ?_
  refine PySem.W.ks_call (P := PySem.W.MethP X.K q1 g (.ref a)) rfl (PySem.W.keeps_M b.fi) (PySem.W.ks_lone ?_)
  refine thn (ha.run pins s2 σ _ _ I2 (q q1 g hq1)) fun v s3 ⟨y, H2, I3, ry, t, vs, ey, ht, hm, hsp⟩ => ?_
  subst ey
  obtain rfl : v = Value.ref t := ry
  have fin : ∀ us s', Inv X pins σ H2 s' → Vals vs us → PySem.W.MethP X.K q1 g (.ref a) s'.heap ∧ wpAny (model X.prog X.w) X.A (call (.ref q1) us) (EP X pins σ Q) X.xe s' := fun us s4 I4 rv =>
    ⟨met_P I4 hm, wpAny_call (PySem.W.method_call (met_P I4 hm).1 (run_fnR (us := Value.ref a :: us) (vs := V.ref a :: vs) F hr hx I4 (.cons rfl rv) hsp))⟩
  rcases ht with ht | ht
  · exact star_tup I3 ht fin
  · exact star_lst I3 ht fin
end
section
variable {X : Cx} {o e f : Expr} {apos cpos : Pos} {td ty tx : TE}
def tKGet (K : PySem.W.Frag) (w : World) (td ty tx : TE) : TE := fun σ H Q => td σ H fun x H1 => ∃ d es n, x = .ref d ∧ KDict K w d es n ∧ ty σ H1 fun y H2 => tx σ H2 fun z H3 => ∃ k r, y = .str k ∧ PySem.W.nsIn K d k = some r ∧ ((∃ u v, r = some u ∧ RelV v u ∧ Q v H3) ∨ (r = none ∧ Q z H3))
theorem pe_kget (ho : PE X o td) (he : PE X e ty) (hf : PE X f tx) (m : M2 X o "get" apos e f cpos) : PE X (.Call (.Attribute o "get" apos) [e, f] [] cpos) (tKGet X.K X.w td ty tx) := by
  refine ⟨fun pins s σ H Q I h => ?_⟩
  refine wpAny_Call_method m.base m.few m.line PySem.F.plainAttrs_dict PySem.F.slot_dict_get PySem.F.type_dict_get (thn (ho.run pins s σ H _ I h) fun u s1 ⟨x, H1, I1, rx, d, es, n, ex, D, q1⟩ => ?_)
  subst ex
  obtain rfl : u = Value.ref d := rx
  have g1 := I1.kIn _ _ D.at_
  refine ⟨kd_type D I1, fun b q => by cases q; exact ⟨_, g1, rfl⟩, ?_⟩
  rw [m.trees]
  refine Calls.callWith_builtin rfl (Calls.evalArgs_plain (Calls.spliced_cons (thn (he.run pins s1 σ H1 _ I1 q1) fun iv s2 ⟨y, H2, I2, ry, q2⟩ =>
    Calls.spliced_cons (thn (hf.run pins s2 σ H2 _ I2 q2) fun fv s3 ⟨z, H3, I3, rz, k, r, ey, ek, q3⟩ => Calls.spliced_nil ?_))))
  subst ey
  obtain ⟨t, rfl⟩ := ry
  have hm := PySem.W.mapOf_K (prog := X.prog) (w := X.w) I3.kIn D.at_ D.lit
  refine call_meetsIn PySem.F.slot_dict_get (kd_type D I3) PySem.F.entry_dict_get (PySem.F.args_dict_get_3 _ _ _) (meets_dict_get_default (strKind X.prog X.w) d (PySem.strKind_is X.prog X.w k t) D.low fv) ⟨_, hm, ?_⟩
  rw [PySem.W.find_K D.at_ ek]
  rcases q3 with ⟨u, v, er, rv, q⟩ | ⟨er, q⟩
  · subst er
    exact ⟨_, H3, I3.tok _, rv, q⟩
  · subst er
    exact ⟨_, H3, I3.tok _, rz, q⟩
theorem pe_gref {x : Str} {d : Addr} {pos : Pos} (h : X.mg x = some (.ref d)) (hg : Gl X x := by rfl) (hd : (x == ("__debug__" : Str)) = false := by decide) : PE X (.Name x pos) (tC (.ref d)) := by
  exact pe_glob hg h rfl hd
end
section
variable {prog : Program} {w : World} {A : Around} {E : Value → Shared → Prop} {s : Shared} {env : Env}
theorem unpack_headT {t : Addr} {items : Array Value} {Q : List Value → Shared → Prop} (ht : IsTup s.heap t items) (hh : A.handled = none) (hn : 1 ≤ items.size) (hz : items.size ≤ sizeLine)
    (h : ∀ h' tk, Heap.ExtBut s.heap.objs.size s.heap h' → Q (items.toList.take 1 ++ [.ref h'.objs.size]) { s with heap := h'.push { cls := .type "list", data := .seq (items.toList.drop 1).toArray }, toks := tk }) :
    wpAny (model prog w) A (unpackItems (.ref t) 2 (some 1)) Q E s := by
  have hlt : t ≠ s.heap.objs.size := by obtain ⟨o, ho, _⟩ := ht; exact Nat.ne_of_lt (Heap.lt_size ho)
  unfold unpackItems
  refine wpAny_bind ?_
  unfold notIterableAtAll
  refine wpAny_bind (wpAny_specialOf ht.typeIs slot_tuple_iter.lookup ?_)
  refine wpAny_pure ?_
  simp only [Bool.false_eq_true, if_false]
  refine wpAny_bind (wpAny_holding (iter_tuple ht ?_))
  refine wpAny_bind (wpAny_holding (draw_tuple hlt 1 0 _ _ ⟨_, Heap.get?_push_size _ rfl, rfl, rfl⟩ (ht.push _) (by omega) fun h₁ hit₁ hs₁ => ?_))
  have hl₁ : IsTup h₁ t items := (ht.push _).extBut hs₁.extBut hlt
  rw [Nat.zero_add] at hit₁
  have hit₁' := hit₁
  obtain ⟨oi, hoi, _⟩ := hit₁'
  have hl₁' := hl₁
  obtain ⟨ol, hol, _⟩ := hl₁'
  rw [List.drop_zero]
  have hfl : (items.toList.take 1).length = 1 := by rw [List.length_take, Array.length_toList]; omega
  rw [if_neg (show ¬ ((items.toList.take 1).length < 1) by rw [hfl]; omega)]
  refine wpAny_bind (wpAny_holding (PySem.W.kun_collect (s := { s with heap := h₁ }) (T := "tuple_iterator") (.inr (.inr (.inr rfl))) (Walks.tuple (A := A.in1) hh s.heap.objs.size t hlt items) (fun j u st => st.1.typeIs) (k := 1) (by omega) ⟨hit₁, hl₁⟩ (Heap.lt_size hoi) (Heap.lt_size hol) (fun h₂ tk hk => ?_) hz))
  have hrl : (items.toList.drop 1).length = items.size - 1 := by rw [List.length_drop, Array.length_toList]
  show wpAny _ _ (if (items.toList.drop 1).length < 2 - 1 - 1 then _ else _) _ _ _
  rw [if_neg (by omega)]
  show wpAny _ _ (newList ((items.toList.drop 1).take ((items.toList.drop 1).length - (2 - 1 - 1))) >>= fun d => pure (items.toList.take 1 ++ [d] ++ (items.toList.drop 1).drop ((items.toList.drop 1).length - (2 - 1 - 1)))) _ _ _
  have e1 : (items.toList.drop 1).take ((items.toList.drop 1).length - (2 - 1 - 1)) = items.toList.drop 1 := List.take_length
  have e2 : (items.toList.drop 1).drop ((items.toList.drop 1).length - (2 - 1 - 1)) = [] := List.drop_length
  rw [e1, e2]
  have he : Heap.ExtBut s.heap.objs.size s.heap h₂ := fun b o hb e => hk b o hb (hs₁.extBut b o hb (Heap.get?_push_of_some _ e))
  exact wpAny_bind (wpAny_newList (s := { s with heap := h₂, toks := tk }) (wpAny_pure (by rw [List.append_nil]; exact h h₂ tk he)))
theorem unpack_headL {t : Addr} {items : Array Value} {Q : List Value → Shared → Prop} (ht : s.heap.IsList t items) (hh : A.handled = none) (hn : 1 ≤ items.size) (hz : items.size ≤ sizeLine)
    (h : ∀ h' tk, Heap.ExtBut s.heap.objs.size s.heap h' → Q (items.toList.take 1 ++ [.ref h'.objs.size]) { s with heap := h'.push { cls := .type "list", data := .seq (items.toList.drop 1).toArray }, toks := tk }) :
    wpAny (model prog w) A (unpackItems (.ref t) 2 (some 1)) Q E s := by
  have hlt : t ≠ s.heap.objs.size := by obtain ⟨o, ho, _⟩ := ht; exact Nat.ne_of_lt (Heap.lt_size ho)
  unfold unpackItems
  refine wpAny_bind ?_
  unfold notIterableAtAll
  refine wpAny_bind (wpAny_specialOf ht.typeIs slot_list_iter.lookup ?_)
  refine wpAny_pure ?_
  simp only [Bool.false_eq_true, if_false]
  refine wpAny_bind (wpAny_holding (wpAny_pyIter_list ht ?_))
  refine wpAny_bind (wpAny_holding (PySem.W.kun_draw hlt 1 0 _ _ ⟨_, Heap.get?_push_size _ rfl, rfl, rfl⟩ (ht.push _) (by omega) fun h₁ hit₁ hs₁ => ?_))
  have hl₁ : h₁.IsList t items := (ht.push _).extBut hs₁.extBut hlt
  rw [Nat.zero_add] at hit₁
  have hit₁' := hit₁
  obtain ⟨oi, hoi, _⟩ := hit₁'
  have hl₁' := hl₁
  obtain ⟨ol, hol, _⟩ := hl₁'
  rw [List.drop_zero]
  have hfl : (items.toList.take 1).length = 1 := by rw [List.length_take, Array.length_toList]; omega
  rw [if_neg (show ¬ ((items.toList.take 1).length < 1) by rw [hfl]; omega)]
  refine wpAny_bind (wpAny_holding (PySem.W.kun_collect (s := { s with heap := h₁ }) (T := "list_iterator") (.inr (.inr (.inl rfl))) (Walks.list (A := A.in1) hh s.heap.objs.size t hlt items) (fun j u st => st.1.typeIs) (k := 1) (by omega) ⟨hit₁, hl₁⟩ (Heap.lt_size hoi) (Heap.lt_size hol) (fun h₂ tk hk => ?_) hz))
  have hrl : (items.toList.drop 1).length = items.size - 1 := by rw [List.length_drop, Array.length_toList]
  show wpAny _ _ (if (items.toList.drop 1).length < 2 - 1 - 1 then _ else _) _ _ _
  rw [if_neg (by omega)]
  show wpAny _ _ (newList ((items.toList.drop 1).take ((items.toList.drop 1).length - (2 - 1 - 1))) >>= fun d => pure (items.toList.take 1 ++ [d] ++ (items.toList.drop 1).drop ((items.toList.drop 1).length - (2 - 1 - 1)))) _ _ _
  have e1 : (items.toList.drop 1).take ((items.toList.drop 1).length - (2 - 1 - 1)) = items.toList.drop 1 := List.take_length
  have e2 : (items.toList.drop 1).drop ((items.toList.drop 1).length - (2 - 1 - 1)) = [] := List.drop_length
  rw [e1, e2]
  have he : Heap.ExtBut s.heap.objs.size s.heap h₂ := fun b o hb e => hk b o hb (hs₁.extBut b o hb (Heap.get?_push_of_some _ e))
  exact wpAny_bind (wpAny_newList (s := { s with heap := h₂, toks := tk }) (wpAny_pure (by rw [List.append_nil]; exact h h₂ tk he)))
end
def tMatchS (K : PySem.W.Frag) (i j : Nat) (te : TE) (tg : TT) (tb tc : TS) : TS := fun D σ H => te σ H fun v H1 =>
  (∃ a v0 rest, v = .ref a ∧ (SqT K H1 a (v0 :: rest) ∨ SqL K H1 a (v0 :: rest)) ∧ ∀ L, H1 L = none → tg ((σ.set i (some v0)).set j (some (.ref L))) (upd H1 L (.lst rest)) fun b H2 =>
    if b = true then tb D ((σ.set i (some v0)).set j (some (.ref L))) H2 else tc D ((σ.set i (some v0)).set j (some (.ref L))) H2) ∨
  (∃ a, v = .ref a ∧ (SqT K H1 a [] ∨ SqL K H1 a []) ∧ tc D σ H1) ∨ (notSeq v = true ∧ tc D σ H1)
theorem ps_matchS {X : Cx} {subject g : Expr} {x y : Str} {i j : Nat} {px py p1 p2 pos : Pos} {body other : List Stmt} {te : TE} {tg : TT} {tb tc : TS} (hc : X.calm = true) (hN : X.N.Nodup) (he : PE X subject te)
    (hi : X.N[i]? = some x) (hx : Loc X.env.scope x) (hfx : X.fn x = true ∨ X.env.scope.names.lookup x = some .local) (hj : X.N[j]? = some y) (hy : Loc X.env.scope y) (hfy : X.fn y = true ∨ X.env.scope.names.lookup y = some .local)
    (hg : PT X g tg) (hb : PSs X body tb) (ho : PSs X other tc) :
    PS X (.Match subject [⟨.MatchSequence [.MatchAs none (some x) px, .MatchStar (some y) py] p1, some g, body⟩, ⟨.MatchAs none none p2, none, other⟩] pos) (tMatchS X.K i j te tg tb tc) := by
  refine ⟨fun pins s σ H D I h => ?_⟩
  refine wpAny_Match (thn (he.run pins s σ H _ I h) fun u s1 ⟨v, H1, I1, r1, q1⟩ => ?_)
  have last : ∀ {s2 : Shared} {σ2 : L2.St} {H2 : Hp}, Inv X pins σ2 H2 s2 → tc D σ2 H2 → wpAny (model X.prog X.w) X.A (matchCases [⟨.MatchAs none none p2, none, other⟩] X.env u false) (SP X pins D) X.xe s2 := fun {s2 σ2 H2} I2 q2 => by
    refine wpAny_matchCases_cons (wpAny_matchPattern_Capture ?_)
    show wpAny _ _ (assignInOrder [] []) _ _ _
    exact assignInOrder_nil (ho.run pins s2 σ2 H2 D I2 q2)
  refine wpAny_matchCases_cons ?_
  rcases q1 with ⟨a, v0, rest, rfl, hq, q⟩ | ⟨a, rfl, hq, q⟩ | ⟨hn, q⟩
  · obtain rfl : u = Value.ref a := r1
    have go : ∀ {u0 : Value} {us : List Value} {h' : Heap} {tk : Nat}, RelV v0 u0 → Vals rest us → us.length ≤ sizeLine → Heap.ExtBut s1.heap.objs.size s1.heap h' →
        wpAny (model X.prog X.w) X.A (matchEach [.MatchAs none (some x) px, .MatchStar (some y) py] X.env [u0, .ref h'.objs.size]) (fun r s₁ => match r with
          | none => wpAny (model X.prog X.w) X.A (matchCases [⟨.MatchAs none none p2, none, other⟩] X.env (.ref a) false) (SP X pins D) X.xe s₁
          | some bs => wpAny (model X.prog X.w) X.A (assignInOrder (bs.map fun (n, _) => bindName X.env n) (bs.map (·.2))) (fun _ s₂ => wpAny (model X.prog X.w) X.A (isTrue g X.env (eval g X.env))
                  (fun ok s₃ => if ok then wpAny (model X.prog X.w) X.A (execs body X.env) (SP X pins D) X.xe s₃ else wpAny (model X.prog X.w) X.A (matchCases [⟨.MatchAs none none p2, none, other⟩] X.env (.ref a) false) (SP X pins D) X.xe s₃) X.xe s₂) X.xe s₁) X.xe { s1 with heap := h'.push { cls := .type "list", data := .seq us.toArray }, toks := tk } := fun {u0 us h' tk} r0 rr hz hx' => by
      have I2 : Inv X pins σ H1 { s1 with heap := h', toks := tk } := I1.kept (t' := tk) fun b o e => hx' b o (Nat.ne_of_lt (Heap.lt_size e)) e
      have I3 := I2.laid (t' := tk) (o := .lst rest) (h' := h'.push { cls := .type "list", data := .seq us.toArray }) (fun b ob q => Heap.get?_push_of_some _ q) (Nat.le_refl _) ⟨by rw [rr.length]; exact hz, _, 0, rr, Heap.get?_push_size _ rfl⟩
      refine wpAny_matchEach_cons (wpAny_matchPattern_Capture ?_)
      refine PySem.W.kun_each (wpAny_matchEach_nil ?_)
      show wpAny _ _ (assignInOrder [bindName X.env x, bindName X.env y] [u0, .ref h'.objs.size]) _ _ _
      refine assignInOrder_cons (wpAny_bindName (store_ok I3 hN hi hx r0 (fun s4 I4 => ?_) hfx))
      refine assignInOrder_cons (wpAny_bindName (store_ok I4 hN hj hy (show RelV (.ref h'.objs.size) (.ref h'.objs.size) from rfl) (fun s5 I5 => ?_) hfy))
      refine assignInOrder_nil ?_
      refine thn (hg.run pins s5 _ _ _ I5 (q _ (I2.hok.fresh (Nat.le_refl _)))) fun b s6 ⟨H2, I6, q6⟩ => ?_
      cases b with
      | true => exact hb.run pins s6 _ H2 D I6 (by simpa using q6)
      | false => exact last I6 (by simpa using q6)
    rcases hq with hq | hq
    · obtain ⟨its, rv, p, hz⟩ := I1.tuple hq
      have hl := rv.length
      cases rv with
      | @cons _ u0 _ us r0 rr =>
      have fit : (((u0 :: us).toArray.size : Nat) : Int) < 2 ^ 63 := fitL (by rw [List.size_toArray, ← hl]; exact hz)
      refine PySem.W.kun_seqT (i := 1) p fit rfl rfl rfl (by show 2 > 1; decide) (by rw [List.size_toArray]; show 2 ≤ us.length + 1 + 1; omega) ?_
      have hz' : us.length + 1 ≤ sizeLine := by have := rr.length; simp only [List.length_cons] at hz hl; omega
      refine unpack_headT (s := { s1 with toks := s1.toks + 1 + 1 }) p (I.ok.hd hc) (by simp) (by simp; omega) fun h' tk hx' => ?_
      exact go (us := us) r0 rr (by omega) hx'
    · obtain ⟨its, rv, p, hz⟩ := I1.list hq
      have hl := rv.length
      cases rv with
      | @cons _ u0 _ us r0 rr =>
      have fit : (((u0 :: us).toArray.size : Nat) : Int) < 2 ^ 63 := fitL (by rw [List.size_toArray, ← hl]; exact hz)
      refine PySem.W.kun_seqL (i := 1) p.isList fit rfl rfl rfl (by show 2 > 1; decide) (by rw [List.size_toArray]; show 2 ≤ us.length + 1 + 1; omega) ?_
      have hz' : us.length + 1 ≤ sizeLine := by have := rr.length; simp only [List.length_cons] at hz hl; omega
      refine unpack_headL (s := { s1 with toks := s1.toks + 1 + 1 }) p.isList (I.ok.hd hc) (by simp) (by simp; omega) fun h' tk hx' => ?_
      exact go (us := us) r0 rr (by omega) hx'
  · obtain rfl : u = Value.ref a := r1
    rcases hq with hq | hq
    · obtain ⟨its, rv, p, hz⟩ := I1.tuple hq
      cases rv
      refine PySem.W.kun_fewT (i := 1) p (by decide) rfl (by show 2 > 1; decide) (by show 0 + 1 < 2; decide) ?_
      exact last (I1.tok _) q
    · obtain ⟨its, rv, p, hz⟩ := I1.list hq
      cases rv
      refine PySem.W.kun_fewL (i := 1) p.isList (by decide) rfl (by show 2 > 1; decide) (by show 0 + 1 < 2; decide) ?_
      exact last (I1.tok _) q
  · have miss : ∀ {T : String}, s1.TypeIs u T → flagOfType true (.type T) = pure false → wpAny (model X.prog X.w) X.A (matchPattern (.MatchSequence [.MatchAs none (some x) px, .MatchStar (some y) py] p1) X.env u) (fun r s₁ => match r with
          | none => wpAny (model X.prog X.w) X.A (matchCases [⟨.MatchAs none none p2, none, other⟩] X.env u false) (SP X pins D) X.xe s₁
          | some bs => wpAny (model X.prog X.w) X.A (assignInOrder (bs.map fun (n, _) => bindName X.env n) (bs.map (·.2))) (fun _ s₂ => wpAny (model X.prog X.w) X.A (isTrue g X.env (eval g X.env))
                  (fun ok s₃ => if ok then wpAny (model X.prog X.w) X.A (execs body X.env) (SP X pins D) X.xe s₃ else wpAny (model X.prog X.w) X.A (matchCases [⟨.MatchAs none none p2, none, other⟩] X.env u false) (SP X pins D) X.xe s₃) X.xe s₂) X.xe s₁) X.xe s1 := fun {T} hT hfl => by
      rw [arm_matchPattern_MatchSequence]
      refine wpAny_bind (wpAny_standAt ?_)
      refine wpAny_bind (wpAny_collectionFlag hT hfl ?_)
      exact wpAny_pure (last I1 q)
    cases v with
    | non => cases (show u = Value.none from r1); exact miss (T := "NoneType") (by trivial) flag_seq_None
    | bl b => cases (show u = Value.bool b from r1); exact miss (T := "bool") (by trivial) flag_seq_bool
    | int i => obtain ⟨t, rfl⟩ := (show ∃ t, u = Value.int i t from r1); exact miss (T := "int") (by trivial) flag_seq_int
    | str z => obtain ⟨t, rfl⟩ := (show ∃ t, u = Value.str z t from r1); exact miss (T := "str") (by trivial) flag_seq_str
    | byt b => cases hn
    | flt b => cases hn
    | ref a => cases hn
    | ty n => cases hn
end MF
set_option Elab.async false
set_option linter.all false
set_option maxRecDepth 100000
set_option maxHeartbeats 1000000
namespace MF
open PySem PySem.Spec PyProof.Rows L2 StX
section
variable {P : Program} {w : World} {K : PySem.W.Frag} {mg : Str → Option Value} {base : Heap} {k : Nat} {C : Addr} {x m : Str} {f : Addr} {sp sp' : Sp}
theorem FnR.up (F : FnR P w K mg base CX0 k f sp) : FnR P w K mg base (L2.CX P w) k f sp := fun A outer s H us vs Q E hr e0 r hs => codeAny_mono (F A outer s H us vs Q E hr e0 r hs) fun r s' h => by
  unfold CR at h ⊢
  match r, h with
  | .ok (.ret u), h => exact h
  | .ok .next, h => exact h
  | .ok .brk, h => exact h
  | .ok .cont, h => exact h
  | .error e, h => exact False.elim h
theorem FnR.or {CX : CXT} (F : FnR P w K mg base CX k f sp) (F' : FnR P w K mg base CX k f sp') : FnR P w K mg base CX k f (fun vs H Q E => sp vs H Q E ∨ sp' vs H Q E) := fun A outer s H us vs Q E hr e0 r hs => by
  rcases hs with h | h
  · exact F A outer s H us vs Q E hr e0 r h
  · exact F' A outer s H us vs Q E hr e0 r h
theorem GFn.up (G : GFn P w K mg base CX0 k x sp) : GFn P w K mg base (L2.CX P w) k x sp := let ⟨f, a, b⟩ := G.ex; ⟨f, FnR.up a, b⟩
theorem MFn.up (G : MFn P w K mg base CX0 k C m sp) : MFn P w K mg base (L2.CX P w) k C m sp := let ⟨f, a, b⟩ := G.ex; ⟨f, FnR.up a, b⟩
theorem GFn.or {CX : CXT} (G : GFn P w K mg base CX k x sp) (G' : GFn P w K mg base CX k x sp') : GFn P w K mg base CX k x (fun vs H Q E => sp vs H Q E ∨ sp' vs H Q E) := by
  obtain ⟨f, a, b, c⟩ := G.ex
  obtain ⟨f', a', b', c'⟩ := G'.ex
  rw [b] at b'
  cases b'
  exact ⟨f, FnR.or a a', b, c⟩
theorem FnR.le {CX : CXT} {j : Nat} (F : FnR P w K mg base CX j f sp) (h : j ≤ k) : FnR P w K mg base CX k f sp := fun A outer s H us vs Q E hr e0 r hs => F A outer s H us vs Q E (hr.mono h) e0 r hs
theorem GFn.le {CX : CXT} {j : Nat} (G : GFn P w K mg base CX j x sp) (h : j ≤ k) : GFn P w K mg base CX k x sp := let ⟨f, a, b⟩ := G.ex; ⟨f, FnR.le a h, b⟩
theorem MFn.le {CX : CXT} {j : Nat} (G : MFn P w K mg base CX j C m sp) (h : j ≤ k) : MFn P w K mg base CX k C m sp := let ⟨f, a, b⟩ := G.ex; ⟨f, FnR.le a h, b⟩
theorem MFn.or {CX : CXT} (G : MFn P w K mg base CX k C m sp) (G' : MFn P w K mg base CX k C m sp') : MFn P w K mg base CX k C m (fun vs H Q E => sp vs H Q E ∨ sp' vs H Q E) := by
  obtain ⟨f, a, M⟩ := G.ex
  obtain ⟨f', a', M'⟩ := G'.ex
  have e := M.at_
  rw [M'.at_] at e
  cases e
  exact ⟨_, FnR.or a a', M⟩
end
end MF
set_option Elab.async false
set_option linter.all false
set_option maxRecDepth 100000
set_option maxHeartbeats 2000000
namespace MF
open PySem PySem.Spec PyProof.Rows L2 StX ClX
section
variable {P : Program} {w : World} {K : PySem.W.Frag} {mg : Str → Option Value} {base : Heap}
theorem takeEN {N : List Str} {q : Str} {sc : Scope} {f : Addr} {cdv : Value} {A : Around} {outer : List Env} {s : Shared} {H : Hp} {E : XK} :
    L2N.Takes (cxOf (L2N.CX P w) P w K mg base N q sc f cdv A outer s H E) (fun cls d _ H => E cls d H) := L2N.takes_of rfl rfl rfl rfl
theorem passEN {N : List Str} {q : Str} {sc : Scope} {f : Addr} {cdv : Value} {A : Around} {outer : List Env} {s : Shared} {H : Hp} {E : XK} :
    Passes (L2N.CX P w) (cxOf (L2N.CX P w) P w K mg base N q sc f cdv A outer s H E) E := L2N.passes_call (W := fun cls d _ H => E cls d H) takeEN fun _ _ _ _ h => h
theorem cxUpN : CXUp (L2N.CX P w) := by
  rintro outer s H s2 H2 E e s' un kp ho ⟨a, B, H', cls, d, ea, fl, hok, ub, na, os, ag, he⟩
  refine ⟨a, B, H', cls, d, ea, fl, hok, ⟨fun b o q n hb => ub.keep b o (kp b o q) (un.free b o q n (by simp)) hb, fun b o q hb => ub.slot b o (kp b o q) hb, fun b o q n => ub.free b o (kp b o q) (un.free b o q n (by simp)),
    fun b o q hb => ub.there b o (kp b o q) hb, fun b xs q => ub.tups b xs (un.tups b xs q), fun b o xs q => ub.frzs b o xs (un.frzs b o xs q), fun b ps q => ?_⟩, na, os.trans ho, ag, he⟩
  obtain ⟨m1, e1⟩ := un.tbls b ps q
  obtain ⟨m2, e2⟩ := ub.tbls b _ e1
  exact ⟨m1 ++ m2, by rw [e2, Array.append_assoc]⟩
theorem MDef.fnXN {k : Nat} {C : Addr} {m qual : Str} {st : Stmt} {ps N : List Str} {sp : Sp} (D : MDef K C m qual st ps) (S : FnScope N ps (defScope st)) (len : ∀ vs H Q E, sp vs H Q E → vs.length = ps.length)
    (hbody : ∀ (f : Addr) (cdv : Value) (A : Around) (outer : List Env) (s : Shared) (H : Hp) (vs : List V) (Q : VK) (E : XK), Room k (A.deeper (envOfC qual (defScope st) s.heap.objs.size f cdv)) → sp vs H Q E →
      ∃ t, PSs (cxOf (L2N.CX P w) P w K mg base N qual (defScope st) f cdv A outer s H E) (defBody st) t ∧ t { nx := fun _ H' => Q .non H', rt := Q } (start N vs) H) : MFn P w K mg base (L2N.CX P w) (k + 1) C m sp :=
  D.fn fun f fd F => by
    obtain ⟨oc, od, kV, doc, pm, an, cdv, ct, osl, rfl, lk, hcd⟩ := F.ex
    exact fn_of lk hcd S len fun A outer s H vs Q E hr hsp => hbody f cdv A outer s H vs Q E hr hsp
theorem GDef.fnXN {k : Nat} {x : Str} {st : Stmt} {ps N : List Str} {sp : Sp} (D : GDef K mg x st ps) (S : FnScope N ps (defScope st)) (len : ∀ vs H Q E, sp vs H Q E → vs.length = ps.length)
    (hbody : ∀ (f : Addr) (cdv : Value) (A : Around) (outer : List Env) (s : Shared) (H : Hp) (vs : List V) (Q : VK) (E : XK), Room k (A.deeper (envOfC x (defScope st) s.heap.objs.size f cdv)) → sp vs H Q E →
      ∃ t, PSs (cxOf (L2N.CX P w) P w K mg base N x (defScope st) f cdv A outer s H E) (defBody st) t ∧ t { nx := fun _ H' => Q .non H', rt := Q } (start N vs) H) : GFn P w K mg base (L2N.CX P w) (k + 1) x sp :=
  D.fn fun f fd F => by
    obtain ⟨oc, od, kV, doc, pm, an, cdv, ct, osl, rfl, lk, hcd⟩ := F.ex
    exact fn_of lk hcd S len fun A outer s H vs Q E hr hsp => hbody f cdv A outer s H vs Q E hr hsp
theorem SDef.fnXN {k : Nat} {C : Addr} {x qual p1 pv : Str} {st : Stmt} {N : List Str} {sp : Sp} (D : SDef K mg C x qual st p1 pv) (S : FnScope N [p1, pv] (defScope st))
    (hbody : ∀ (f : Addr) (cdv : Value) (A : Around) (outer : List Env) (s : Shared) (H : Hp) (vs : List V) (Q : VK) (E : XK), Room k (A.deeper (envOfC qual (defScope st) s.heap.objs.size f cdv)) → sp vs H Q E →
      ∃ t, PSs (cxOf (L2N.CX P w) P w K mg base N qual (defScope st) f cdv A outer s H E) (defBody st) t ∧ t { nx := fun _ H' => Q .non H', rt := Q } (start N vs) H) :
    IFn P w K mg base (L2N.CX P w) (k + 1) C x (fun vs H Q E => ∃ v rest, vs = v :: rest ∧ rest.length ≤ sizeLine ∧ ∀ p, H p = Option.none → sp [v, V.ref p] (upd H p (.tup rest)) Q E) := by
  obtain ⟨f, fd, F, M, hm, hb⟩ := D.ex
  obtain ⟨oc, od, kV, doc, pm, an, cdv, ct, osl, rfl, lk, hcd⟩ := F.ex
  refine ⟨f, (fn_star (ps := [p1]) (pv := pv) (sp := sp) lk hcd S cxUpN hb fun A outer s H vs Q E hr hsp => hbody f cdv A outer s H vs Q E hr hsp).imp fun vs H Q E h => ?_, M, hm⟩
  obtain ⟨v, rest, rfl, hl, q⟩ := h
  exact ⟨[v], rest, rfl, rfl, hl, q⟩
theorem owns_cxN {N : List Str} {qual : Str} {scope : Scope} {f : Addr} {cd : Value} {A : Around} {outer : List Env} {s : Shared} {H : Hp} {E : XK} :
    PassesOwn (model P w) (cxOf (L2N.CX P w) P w K mg base N qual scope f cd A outer s H E).A (cxOf (L2N.CX P w) P w K mg base N qual scope f cd A outer s H E).env (cxOf (L2N.CX P w) P w K mg base N qual scope f cd A outer s H E).xe :=
  passes_of (X := cxOf (L2N.CX P w) P w K mg base N qual scope f cd A outer s H E) rfl
theorem FnR.upN {k : Nat} {f : Addr} {sp : Sp} (F : FnR P w K mg base CX0 k f sp) : FnR P w K mg base (L2N.CX P w) k f sp := fun A outer s H us vs Q E hr e0 r hs => codeAny_mono (F A outer s H us vs Q E hr e0 r hs) fun r s' h => by
  unfold CR at h ⊢
  match r, h with
  | .ok (.ret u), h => exact h
  | .ok .next, h => exact h
  | .ok .brk, h => exact h
  | .ok .cont, h => exact h
  | .error e, h => exact False.elim h
theorem GFn.upN {k : Nat} {x : Str} {sp : Sp} (G : GFn P w K mg base CX0 k x sp) : GFn P w K mg base (L2N.CX P w) k x sp := let ⟨f, a, b⟩ := G.ex; ⟨f, FnR.upN a, b⟩
theorem MFn.upN {k : Nat} {C : Addr} {m : Str} {sp : Sp} (G : MFn P w K mg base CX0 k C m sp) : MFn P w K mg base (L2N.CX P w) k C m sp := let ⟨f, a, b⟩ := G.ex; ⟨f, FnR.upN a, b⟩
theorem cx_drop {outer : List Env} {H : Hp} {s s' : Shared} {E : XK} {u : Value} (h : L2N.CX P w outer H s E u s') : L2.CX P w outer H s E u s' := by
  obtain ⟨a, B, H', cls, d, ea, ⟨f1, f2, f3, f4⟩, hok, ub, na, os, ag, he⟩ := h
  refine ⟨a, B, H', cls, d, ea, ⟨f1, f2, f3, ?_⟩, hok, ub, na, os, ag, he⟩
  obtain ⟨oe, vs, T, oT, ts, g1, g2, g3⟩ := f4
  exact ⟨oe, vs, T, oT, ts, g1, g2.zc, g3⟩
theorem FnR.drop {k : Nat} {f : Addr} {sp : Sp} (F : FnR P w K mg base (L2N.CX P w) k f sp) : FnR P w K mg base (L2.CX P w) k f sp := fun A outer s H us vs Q E hr e0 r hs => codeAny_mono (F A outer s H us vs Q E hr e0 r hs) fun r s' h => by
  unfold CR at h ⊢
  match r, h with
  | .ok (.ret u), h => exact h
  | .ok .next, h => exact h
  | .ok .brk, h => exact h
  | .ok .cont, h => exact h
  | .error e, h => exact cx_drop h
theorem GFn.drop {k : Nat} {x : Str} {sp : Sp} (G : GFn P w K mg base (L2N.CX P w) k x sp) : GFn P w K mg base (L2.CX P w) k x sp := let ⟨f, a, b⟩ := G.ex; ⟨f, FnR.drop a, b⟩
theorem MFn.drop {k : Nat} {C : Addr} {m : Str} {sp : Sp} (G : MFn P w K mg base (L2N.CX P w) k C m sp) : MFn P w K mg base (L2.CX P w) k C m sp := let ⟨f, a, b⟩ := G.ex; ⟨f, FnR.drop a, b⟩
theorem SMDef.fnXN {k : Nat} {C : Addr} {m qual p1 pv : Str} {st : Stmt} {N : List Str} {sp : Sp} (D : SMDef K C m qual st p1 pv) (S : FnScope N [p1, pv] (defScope st))
    (hbody : ∀ (f : Addr) (cdv : Value) (A : Around) (outer : List Env) (s : Shared) (H : Hp) (vs : List V) (Q : VK) (E : XK), Room k (A.deeper (envOfC qual (defScope st) s.heap.objs.size f cdv)) → sp vs H Q E →
      ∃ t, PSs (cxOf (L2N.CX P w) P w K mg base N qual (defScope st) f cdv A outer s H E) (defBody st) t ∧ t { nx := fun _ H' => Q .non H', rt := Q } (start N vs) H) :
    MFn P w K mg base (L2N.CX P w) (k + 1) C m (fun vs H Q E => ∃ v rest, vs = v :: rest ∧ rest.length ≤ sizeLine ∧ ∀ p, H p = Option.none → sp [v, V.ref p] (upd H p (.tup rest)) Q E) := by
  obtain ⟨f, fd, F, M, hb⟩ := D.ex
  obtain ⟨oc, od, kV, doc, pm, an, cdv, ct, osl, rfl, lk, hcd⟩ := F.ex
  refine ⟨f, (fn_star (ps := [p1]) (pv := pv) (sp := sp) lk hcd S cxUpN hb fun A outer s H vs Q E hr hsp => hbody f cdv A outer s H vs Q E hr hsp).imp fun vs H Q E h => ?_, M⟩
  obtain ⟨v, rest, rfl, hl, q⟩ := h
  exact ⟨[v], rest, rfl, rfl, hl, q⟩
theorem CPDef.fnXN {k : Nat} {C : Addr} {m qual : Str} {st : Stmt} {ps N : List Str} {sp : Sp} (D : CPDef K C m qual st ps) (S : FnScope N ps (defScope st)) (len : ∀ vs H Q E, sp vs H Q E → vs.length = ps.length)
    (hbody : ∀ (f : Addr) (cdv : Value) (A : Around) (outer : List Env) (s : Shared) (H : Hp) (vs : List V) (Q : VK) (E : XK), Room k (A.deeper (envOfC qual (defScope st) s.heap.objs.size f cdv)) → sp vs H Q E →
      ∃ t, PSs (cxOf (L2N.CX P w) P w K mg base N qual (defScope st) f cdv A outer s H E) (defBody st) t ∧ t { nx := fun _ H' => Q .non H', rt := Q } (start N vs) H) : CFn P w K mg base (L2N.CX P w) (k + 1) C m sp :=
  D.fn fun f fd F => by
    obtain ⟨oc, od, kV, doc, pm, an, cdv, ct, osl, rfl, lk, hcd⟩ := F.ex
    exact fn_of lk hcd S len fun A outer s H vs Q E hr hsp => hbody f cdv A outer s H vs Q E hr hsp
theorem CFn.drop {k : Nat} {C : Addr} {m : Str} {sp : Sp} (G : CFn P w K mg base (L2N.CX P w) k C m sp) : CFn P w K mg base (L2.CX P w) k C m sp := let ⟨mc, p, f, a, b, c⟩ := G.ex; ⟨mc, p, f, FnR.drop a, b, c⟩
end
theorem pmk_0N {X : Cx} {C : Addr} {x : Str} {e : Expr} {es : List Expr} {t : TA} {p pos : Pos} (D : EDef0 X.K X.mg C x) (ha : PA X (e :: es) t) (hg : Gl X x := by rfl) (hdb : (x == ("__debug__" : Str)) = false := by decide)
    (he : starEach (e :: es) X.env = (false, eval e X.env) :: starEach es X.env := by rfl) (hpl : (backTo pos (starEach es X.env)).any (·.1) = false := by rfl) :
    L2N.PMk X (.Call (.Name x p) (e :: es) [] pos) (fun σ H Q => t σ H fun vs H1 => vs.length ≤ sizeLine ∧ Q (.ref C) none H1) := by
  intro pins s σ H Q I h
  refine wpAny_Call_Name_kw (ld_glob I hg D.gC ?_ hdb)
  refine PySem.W.callWith_K (h₀ := X.base) I.ok.mod.kin D.kC (thn (ha.run pos pins s σ H _ I h) fun us s1 ⟨vs, H1, I1, r1, hz, q1⟩ => ⟨I1.kIn, ?_⟩) he hpl
  show wpAny _ _ (call (.ref C) us) _ _ _
  obtain ⟨bm, N, nm, qn, bs, hdct, sn, sub, ab, col, dd, k0, k1, k2, k3, k5, mN, hC, hN, hni, T⟩ := exc_obj I1.kIn D.bm
  refine wpAny_call_exc_subT F.excBase_ValueError T hC hN hni (fun h' e hm => ?_) (by rw [← r1.length]; exact hz)
  exact L2N.mk_of I1 hm (raises_own D.exC D.tyC) q1 (I1.hok.gone hm.new)
theorem mk_endN {X : Cx} {pins : List (Addr × Obj)} {σ : L2.St} {H1 H2 : Hp} {Q : XK} {hp hp2 h2 : Heap} {g1 g2 : Array GenState} {d1 d2 : Drawn} {t1 t2 : Nat} {os1 os2 : OsState} {a C d : Addr} {fs : List (Str × V)} (T : Raises X (.ref C)) (I1 : Inv X pins σ H1 ⟨hp, g1, d1, t1, os1⟩)
    (ha : hp.objs.size ≤ a) (k : ∀ b o, hp.get? b = some o → hp2.get? b = some o) (un : Un (frs X.stack) [] (upd H1 a (exo a C none)) H2 hp2 h2) (hok : HOk X.prog X.w H2 h2) (ho : os2 = os1) (hb : AllBare g2)
    (ea : H2 a = some (exo a C (some d))) (ed : H2 d = some (exd d fs)) (hd1 : H1 d = none) (q : Q (.ref C) (some d) (upd (del H2 a) d (.xd fs))) : L2N.MkP X pins σ Q (.ref a) ⟨h2, g2, d2, t2, os2⟩ := by
  obtain ⟨t0, G, J, kG, ge, hoe, na⟩ := mk_end0 (d2 := d2) (t2 := t2) I1 ha k un hok ho hb ea ed hd1
  exact ⟨a, _, _, ⟨G, g2, d2, t2, os2⟩, _, .ref C, some d, rfl, J, kG, ge, hoe, ⟨rfl, rfl, fun vs e => by cases e; rfl⟩, rfl, rfl, na, rfl, hb, T, q⟩
theorem pmk_oexN {X : Cx} {CX : CXT} {x : Str} {C fI : Addr} {k : Nat} {fd : FuncData} {ps : List Str} {sp : Sp} {ds : List Value} {dvs : List V} {e : Expr} {es : List Expr} {ta : TA} {p pos : Pos} (T : OexC X.K C) (iC : PySem.W.findIn X.K (.ref C) "__init__" = some (some (.ref fI))) (tI : PySem.W.typeIn X.K (.ref fI) = some (.type "function"))
    (F1 : FnOk X.prog X.w X.K X.mg X.base CX k fI fd ps sp) (hr : Room (k + 1) X.A) (hb : Binds X.K fd ps ds) (hd : Vals dvs ds) (hx : Passes CX X (fun _ _ _ => False)) (hg : Gl X x) (hm : X.mg x = some (.ref C)) (ha : PA X (e :: es) ta)
    (hdb : (x == ("__debug__" : Str)) = false := by decide) (he : starEach (e :: es) X.env = (false, eval e X.env) :: starEach es X.env := by rfl) (hpl : (backTo pos (starEach es X.env)).any (·.1) = false := by rfl) :
    L2N.PMk X (.Call (.Name x p) (e :: es) [] pos) (tMkO C sp dvs ta) := by
  intro pins s σ H Q I h
  obtain ⟨nm, q, N, bs, bm, sn, sub, ab, col, dd, k0, k1, k2, k3, k5, hC, hbm⟩ := T.cls
  refine wpAny_Call_Name_kw (ld_glob I hg hm ?_ hdb)
  refine PySem.W.callWith_K (h₀ := X.base) I.ok.mod.kin T.kC (thn (ha.run pos pins s σ H _ I h) fun us s1 ⟨vs, H1, I1, r1, hz, q1⟩ => ⟨I1.kIn, ?_⟩) he hpl
  show wpAny _ _ (call (.ref C) us) _ _ _
  obtain ⟨hp, g, dr, tk, os⟩ := s1
  have hsz : hp.objs.size ≤ hp.objs.size + 1 := Nat.le_succ _
  have hn : H1 (hp.objs.size + 1) = none := I1.hok.fresh hsz
  have hq := q1 (hp.objs.size + 1) hn
  have kk : ∀ b o, hp.get? b = some o → ((hp.push (PySem.W.kdv_tup us)).push (PySem.HandSPX.excO C hp.objs.size)).get? b = some o := fun b o e => Heap.get?_push_of_some _ (Heap.get?_push_of_some _ e)
  have hget : ((hp.push (PySem.W.kdv_tup us)).push (PySem.HandSPX.excO C hp.objs.size)).get? (hp.objs.size + 1) = some (PySem.HandSPX.excO C hp.objs.size) := by heap_get
  have I2 : Inv X pins σ (upd H1 (hp.objs.size + 1) (exo (hp.objs.size + 1) C none)) ⟨(hp.push (PySem.W.kdv_tup us)).push (PySem.HandSPX.excO C hp.objs.size), g, dr, tk, os⟩ :=
    I1.laid (t' := tk) (a := hp.objs.size + 1) (o := exo (hp.objs.size + 1) C none) (h' := (hp.push (PySem.W.kdv_tup us)).push (PySem.HandSPX.excO C hp.objs.size)) kk hsz (exo_ok hget)
  have r2 : Vals (V.ref (hp.objs.size + 1) :: (vs ++ dvs)) (Value.ref (hp.objs.size + 1) :: (us ++ ds)) := .cons rfl (r1.append hd)
  have hl : (Value.ref (hp.objs.size + 1) :: us ++ ds).length = ps.length := by
    have e := r2.length
    rw [F1.len _ _ _ _ hq] at e
    exact e.symm
  have hus : us.length ≤ sizeLine := by
    rw [← Paired.length r1, sizeLine_eq]
    omega
  refine wpAny_call (PySem.HandSPX.call_own F.excBase_ValueError (fun Y => PySem.HandSPX.refsVE_contains Y bm hbm) (I1.kIn _ _ hC) (PySem.W.looks_findIn I1.kIn iC) (fun self => PySem.W.bind_fn I1.kIn self tI) hus
    (codeAny_mono (F1.run _ X.stack _ _ ⟨Value.ref (hp.objs.size + 1) :: us, []⟩ (Value.ref (hp.objs.size + 1) :: (us ++ ds)) _ _ (fun _ _ _ => False) (hr.make C us []) (I2.env0.make C us []) (hb _ (Value.ref (hp.objs.size + 1) :: us) I2.kIn hl) r2 hq) fun r s' hq' => ?_))
  cases r with
  | error er => exact hx pins σ _ _ er s' I2 hq'
  | ok fl =>
    cases fl with
    | ret u =>
      obtain ⟨v, H2, os2, bare2, un2, hok2, rv, ev, d, fs, ea, ed, hd1, q2⟩ := hq'
      subst ev
      obtain ⟨h2, g2, d2, t2, os'⟩ := s'
      exact ⟨rv, mk_endN (raises_own T.exC T.tyC) I1 hsz kk un2 hok2 os2 bare2 ea ed hd1 q2⟩
    | next => exact False.elim hq'
    | brk => exact False.elim hq'
    | cont => exact False.elim hq'
theorem pmk_1N {X : Cx} {k : Nat} {C : Addr} {x : Str} {ps : List Str} {sp : Sp} {e : Expr} {es : List Expr} {t : TA} {p pos : Pos} (D : EFn X.prog X.w X.K X.mg X.base CX0 k C x ps sp) (hr : Room (k + 1) X.A) (ha : PA X (e :: es) t) (hg : Gl X x := by rfl) (hdb : (x == ("__debug__" : Str)) = false := by decide)
    (he : starEach (e :: es) X.env = (false, eval e X.env) :: starEach es X.env := by rfl) (hpl : (backTo pos (starEach es X.env)).any (·.1) = false := by rfl) :
    L2N.PMk X (.Call (.Name x p) (e :: es) [] pos) (tMkO C sp [] t) := by
  obtain ⟨f, fd, F1, b, c, d⟩ := D.ex
  exact pmk_oexN (p := p) (pos := pos) (dvs := []) (ds := []) D.ox b c F1 hr d .nil pass0 hg D.gC ha hdb he hpl
end MF
set_option Elab.async false
set_option linter.all false
set_option maxRecDepth 100000
set_option maxHeartbeats 2000000
namespace MF
open PySem PySem.Spec PyProof.Rows L2 StX HotX L2H
section
variable {prog : Program} {w : World} {A : Around} {E : Value → Shared → Prop} {s : Shared}
theorem next_tuple_end_hot {it t x1 : Addr} {i : Nat} {items} {Q : Option Value → Shared → Prop} (hot : HotAt A x1 s.heap)
    (hit : IsTupIter s.heap it t i) (ht : IsTup s.heap t items) (hx : items[i]? = none)
    (hQ : ∀ h', Heap.ExtBut it s.heap h' → Q none { s with heap := h' }) : wpAny (model prog w) A (pyNext (.ref it)) Q E s := by
  obtain ⟨o, ho, hc, hd⟩ := id hit
  obtain ⟨ol, hol, _, nl, hdl⟩ := ht
  obtain ⟨hh, o1, vs1, h1, d1, c1⟩ := hot
  have nx : x1 ≠ it := fun z => by
    rw [z, ho] at h1
    cases h1
    rw [hd] at d1
    cases d1
    simp [rawInt] at c1
  unfold pyNext
  refine wpAny_bind (wpAny_attempt (wpAny_callSpecial?_slot (name := Str.ofString "__next__") hit.typeIs slot_tupleiter_next
    (wpAny_call_entry slot_tupleiter_next hit.typeIs entry_tupleiter_next ?_ (args_tupleiter_next _))))
  show wpAny _ _ (field (.ref it) 0 >>= _) _ _ s
  refine wpAny_bind (wpAny_field ho hd (x := .ref t) rfl ?_)
  show wpAny _ _ (if (Value.ref t == Value.none) = true then _ else _) _ _ s
  rw [if_neg (show ¬ ((Value.ref t == Value.none) = true) from Bool.false_ne_true)]
  show wpAny _ _ (field (.ref it) 1 >>= _) _ _ s
  refine wpAny_bind (wpAny_field ho hd (x := .int i 0) rfl ?_)
  show wpAny _ _ (seqItems? (.ref t) >>= _) _ _ s
  refine wpAny_bind (wpAny_seqItems hol hdl ?_)
  simp only [Int.toNat_natCast, hx]
  refine wpAny_bind (wpAny_rule (wpAny_bind (wpAny_setField ho hd (by simp) ?_)))
  show wpAny _ _ (newExc (.type "StopIteration") [] >>= _) _ _ _
  refine wpAny_bind ?_
  simp only [newExc, newTuple]
  refine wpAny_bind (wpAny_newObj_type ?_ (by size_fits))
  refine wpAny_bind (m := firstArgMember _ _) (wpAny_of_eq (a := Value.none) (by first | rfl | (simp only [firstArgMember]; rfl)) ?_)
  refine wpAny_newObj_type ?_ (by size_fits)
  have other : ∀ b ob, b ≠ it → s.heap.get? b = some ob → ∀ (f : Array Value → Array Value) (o2 o3 : Obj), (((s.heap.update it (Obj.mapFields f)).push o2).push o3).get? b = some ob := fun b ob nb e f o2 o3 =>
    Heap.get?_push_of_some _ (Heap.get?_push_of_some _ (by rw [Heap.get?_update_other _ _ (Ne.symm nb)]; exact e))
  refine raiseNew_hot ⟨hh, o1, vs1, other x1 o1 nx h1 _ _ _, d1, c1⟩ (Nat.ne_of_lt (Heap.lt_size (Heap.get?_push_of_some _ (by rw [Heap.get?_update_other _ _ (Ne.symm nx)]; exact h1)))) (Heap.get?_push_size _ rfl) rfl (by first | (simp; done) | (simp; omega) | (simp only [Array.size_append]; simp; omega)) ?_
  refine wpAny_bind (wpAny_isInstance (T := "StopIteration") (b := true) ⟨_, Heap.get?_update_self _ (Heap.get?_push_size _ rfl) rfl, rfl⟩ isSubtype_stop ?_)
  refine wpAny_pure (hQ _ fun b o hb e => ?_)
  rw [Heap.get?_update_other _ _ (Nat.ne_of_gt (Heap.lt_size (Heap.get?_push_of_some _ (show (s.heap.update it _).get? b = some o by rw [Heap.get?_update_other _ _ (Ne.symm hb)]; exact e))))]
  exact other b o hb e _ _ _
theorem unpackItems_tuple_hot {t x1 : Addr} {items : Array Value} {Q : List Value → Shared → Prop} (hot : HotAt A x1 s.heap) (ht : IsTup s.heap t items)
    (hQ : ∀ h', Heap.ExtBut s.heap.objs.size s.heap h' → Q items.toList { s with heap := h' }) : wpAny (model prog w) A (unpackItems (.ref t) items.size none) Q E s := by
  have hlt : t ≠ s.heap.objs.size := by obtain ⟨o, ho, _⟩ := ht; exact Nat.ne_of_lt (Heap.lt_size ho)
  obtain ⟨hh, o1, vs1, h1, d1, c1⟩ := hot
  have hx1 : x1 ≠ s.heap.objs.size := Nat.ne_of_lt (Heap.lt_size h1)
  unfold unpackItems
  refine wpAny_bind ?_
  unfold notIterableAtAll
  refine wpAny_bind (wpAny_specialOf ht.typeIs slot_tuple_iter.lookup ?_)
  refine wpAny_pure ?_
  simp only [Bool.false_eq_true, if_false]
  refine wpAny_bind (wpAny_holding (iter_tuple ht ?_))
  refine wpAny_bind (wpAny_holding (draw_tuple hlt items.size 0 _ _ ⟨_, Heap.get?_push_size _ rfl, rfl, rfl⟩ (ht.push _) (by omega) fun h₁ hit₁ hs₁ => ?_))
  have hall : List.take items.size (List.drop 0 items.toList) = items.toList := by
    rw [List.drop_zero]; exact List.take_of_length_le (by simp)
  rw [hall]
  rw [if_neg (by simp)]
  have ht₁ : IsTup h₁ t items := (ht.push _).extBut hs₁.extBut hlt
  have hx₁ : h₁.get? x1 = some o1 := hs₁.extBut x1 o1 hx1 (Heap.get?_push_of_some _ h1)
  refine wpAny_bind (wpAny_holding (next_tuple_end_hot ⟨hh, o1, vs1, hx₁, d1, c1⟩ hit₁ ht₁ (by simp) fun h₂ he₂ => ?_))
  simp only [Option.isSome_none, Bool.false_eq_true, if_false]
  refine wpAny_pure (hQ h₂ fun b o hb e => he₂ b o hb (hs₁.extBut b o hb (Heap.get?_push_of_some _ e)))
end
theorem pg_tupH {X : Cx} {es : List Expr} {k : Nat} {pos : Pos} {t : TGs} {n : Nat} (hc : HotC X) (h : PGs X es t)
    (hn : (assignEach es X.env).length = n := by rfl) (hst : (assignEach es X.env).findIdx? (·.1) = none := by rfl) : PG X (.Tuple es k pos) (gTup X.K n t) := by
  refine ⟨fun pins s σ H v u Q I r hw => ?_⟩
  obtain ⟨a, xs, e1, hq, hl, hw⟩ := hw
  subst e1
  cases r
  obtain ⟨its, rv, ht, hz⟩ := I.tuple hq
  obtain ⟨x1, hot⟩ := hc.at I
  rw [assign_Tuple]
  refine wpAny_bind (wpAny_standAt ?_)
  unfold unpack
  rw [hst, show (assignEach es X.env).length = its.toArray.size by simp [hn, ← hl, rv.length]]
  refine wpAny_bind (wpAny_holding (unpackItems_tuple_hot hot ht fun h' hx => ?_))
  have I1 : Inv X pins σ H { s with heap := h' } := I.kept (t' := s.toks) fun b o e => hx b o (Nat.ne_of_lt (Heap.lt_size e)) e
  exact h.run pins _ σ H xs _ Q I1 (by simpa using rv) hw
theorem fin_excN {X : Cx} {f₀ : Stmt} {fs : List Stmt} {tfs : TS} {Wout : WX} {pins : List (Addr × Obj)} {D : L2.Ends} {u : Value} {s' : Shared} (hs : X.stack = X.env :: X.outer) (hf : X.env.frame = some X.env.locals) (hex : X.ex = []) (ok : X.Ok) (tk : L2N.Takes X Wout)
    (hsu : ∀ (a : Addr) (pn : List (Addr × Obj)), HotC (X.suite a pn) → PSs (X.suite a pn) (f₀ :: fs) tfs) (xx : L2N.XE (X.tr (X.pn ++ pins) (fun x s₁ => wpAny (model X.prog X.w) X.A (noteFrame x X.env) (fun _ s₂ => FinallyRaised X.prog X.w X.A X.xe X.env (f₀ :: fs) (SP X pins D) x s₂) (FinallyRaised X.prog X.w X.A X.xe X.env (f₀ :: fs) (SP X pins D)) s₁)) (wFin tfs Wout) u s') :
    wpAny (model X.prog X.w) X.A (noteFrame u X.env) (fun _ s₂ => FinallyRaised X.prog X.w X.A X.xe X.env (f₀ :: fs) (SP X pins D) u s₂) (FinallyRaised X.prog X.w X.A X.xe X.env (f₀ :: fs) (SP X pins D)) s' := by
  have hfr : X.A.frames = some (X.env :: X.outer) := by rw [ok.frames, hs]
  obtain ⟨a, B, sI, pins', σ', H', cls, d, rfl, J', nb, up, sky, na, os, ag, hw⟩ := xx
  have J : Inv X pins σ' H' sI := J'.ofTry ok
  have sky' : Sky B (X.env :: X.outer) a (L2N.Zn cls d) X.env.locals s'.heap := by rw [← hs]; exact sky
  have fin : ∀ h1, HandSPX.HeldZ B (X.env :: X.outer) a (L2N.Zn cls d) X.env.locals h1 → s'.heap.UpToSlots h1 → FinallyRaised X.prog X.w X.A X.xe X.env (f₀ :: fs) (SP X pins D) (.ref a) { s' with heap := h1 } := fun h1 hh1 up1 => by
    refine ⟨ref_ne_byPass a, HandSPX.againZ hf hh1.2.2.2 (HandSPX.landsZ hh1 fun h3 fl3 up3 => ?_)⟩
    have J3 : Inv X pins σ' H' { s' with heap := h3 } := J.landed nb fl3.1 ((up.trans up1).trans up3) os ag
    obtain ⟨k1, k2, k3, oe, vs, T, oT, ts, he3, hz, hd, hv1, hnT, hTe, hT, hdT, ht3⟩ := id fl3
    have nT : H' T = none := (J.inGround nb).gone hnT
    have notFr : ∀ (b : Addr) (o : Obj) (fv : Array Value), h3.get? b = some o → o.data = .fields fv → b ∉ frs (X.env :: X.outer) := fun b o fv e dd hm => by
      obtain ⟨_, o', e', hnf⟩ := k3.mem hm
      have eo : o = o' := Option.some.inj (e.symm.trans e')
      rw [← eo] at hnf
      exact hnf _ dd
    have locF : X.env.locals ∈ frs (X.env :: X.outer) := List.mem_filterMap.mpr ⟨X.env, List.mem_cons_self, hf⟩
    have fsF : ∀ b, b ∈ X.fs → b ∈ frs (X.env :: X.outer) := fun b hm => by
      obtain ⟨e, he, q⟩ := List.mem_filterMap.mp hm
      exact List.mem_filterMap.mpr ⟨e, List.mem_cons_of_mem _ he, q⟩
    have fa := notFr a oe vs he3 hd
    have fT := notFr T oT ts hT hdT
    have S3 : Inv (X.suite a ((a, oe) :: (T, oT) :: (X.pn ++ pins))) [] σ' H' { s' with heap := h3 } :=
      ⟨J3.ok.suite _ _, J3.os, J3.bare, J3.base, J3.loc, J3.cell, J3.free, J3.freeC, fun p hp => by
        rw [List.append_nil] at hp
        rcases List.mem_cons.mp hp with z | hp
        · rw [z]
          exact ⟨he3, na, fun z2 => fa (by rw [show a = X.env.locals from z2]; exact locF), fun z2 => fa (fsF _ z2), fun v z2 => by
            have z3 : oe.data = .cell v := z2
            rw [hd] at z3
            cases z3⟩
        · rcases List.mem_cons.mp hp with z | hp
          · rw [z]
            exact ⟨hT, nT, fun z2 => fT (by rw [show T = X.env.locals from z2]; exact locF), fun z2 => fT (fsF _ z2), fun v z2 => by
              have z3 : oT.data = .cell v := z2
              rw [hdT] at z3
              cases z3⟩
          · exact J3.pin p hp, J3.hok, J3.len⟩
    refine wpAny_mono ((hsu a ((a, oe) :: (T, oT) :: (X.pn ++ pins)) ⟨(a, oe), ⟨rfl, vs, hd, hz.2.2 vs hd⟩, List.mem_cons_self⟩).run [] { s' with heap := h3 } σ' H' { nx := fun σ2 H2 => Wout cls d σ2 H2, rt := fun _ _ => False } S3 hw) (fun g s6 hsp => ?_) fun _ _ z => False.elim z
    cases g with
    | ret u =>
      obtain ⟨_, _, _, _, _, q⟩ := hsp
      exact False.elim q
    | brk =>
      obtain ⟨_, _, _, q⟩ := hsp
      exact False.elim q
    | cont =>
      obtain ⟨_, _, _, q⟩ := hsp
      exact False.elim q
    | next =>
      obtain ⟨σ6, H6, S6, q6⟩ := hsp
      have J6 : Inv X pins σ6 H6 s6 := ⟨ok, S6.os, S6.bare, S6.base, S6.loc, S6.cell, S6.free, S6.freeC, fun p hp => S6.pin p (List.mem_append_left _ (List.mem_cons_of_mem _ (List.mem_cons_of_mem _ hp))), S6.hok, S6.len⟩
      have pa := S6.pin (a, oe) (List.mem_append_left _ List.mem_cons_self)
      have pT := S6.pin (T, oT) (List.mem_append_left _ (List.mem_cons_of_mem _ List.mem_cons_self))
      have ga : s6.heap.get? a = some oe := pa.1
      have gT : s6.heap.get? T = some oT := pT.1
      have na6 : H6 a = none := pa.2.1
      have nT6 : H6 T = none := pT.2.1
      have far : ∀ b o, sI.heap.get? b = some o → b ≠ a ∧ b ≠ T := fun b o e => by
        by_cases hb : b ∈ frs X.stack
        · rw [hs] at hb
          exact ⟨fun z => fa (by rw [← z]; exact hb), fun z => fT (by rw [← z]; exact hb)⟩
        · have q := nb b o e hb
          exact ⟨fun z => by
            rw [z, k2] at q
            exact (nomatch q), fun z => by
            rw [z, hnT] at q
            cases q⟩
      have far0 : ∀ b o, X.s_0.heap.get? b = some o → b ≠ a ∧ b ≠ T := fun b o e => by
        obtain ⟨o', q⟩ := J.base.there b o e (by rw [hex]; simp)
        exact far b o' q
      have farP : ∀ p ∈ X.pn ++ pins, p.1 ≠ a ∧ p.1 ≠ T := fun p hp => far p.1 p.2 (J.pin p hp).1
      obtain ⟨G, g1, g2⟩ := restrict s6.heap fun b => !(decide (b = a) || decide (b = T))
      have gIn : ∀ b o, G.get? b = some o → s6.heap.get? b = some o ∧ b ≠ a ∧ b ≠ T := fun b o e => by
        cases q : (!(decide (b = a) || decide (b = T))) with
        | false =>
          rw [g2 b q] at e
          cases e
        | true =>
          rw [g1 b q] at e
          simp only [Bool.not_eq_true', Bool.or_eq_false_iff, decide_eq_false_iff_not] at q
          exact ⟨e, q.1, q.2⟩
      have gOf : ∀ b o, b ≠ a → b ≠ T → s6.heap.get? b = some o → G.get? b = some o := fun b o h1 h2 e => by
        rw [g1 b (by simp [h1, h2])]
        exact e
      have I6 : Inv X pins σ6 H6 { s6 with heap := G } := J6.less (fun b o e => (gIn b o e).1) gOf ⟨oe, vs, ga, hd⟩ ⟨oT, ts, gT, hdT⟩ na6 nT6 far0 farP
      have B6in : ∀ b o, (PySem.W.hideAll G (frs X.stack)).get? b = some o → s6.heap.get? b = some o := fun b o e => (gIn b o (PySem.W.of_hideAll _ e)).1
      have Bno : ∀ b, (b = a ∨ b = T) → (PySem.W.hideAll G (frs X.stack)).get? b = none := fun b hb => by
        cases q : (PySem.W.hideAll G (frs X.stack)).get? b with
        | none => rfl
        | some o =>
          obtain ⟨_, n1, n2⟩ := gIn b o (PySem.W.of_hideAll _ q)
          rcases hb with z | z
          · exact absurd z n1
          · exact absurd z n2
      have fl6 : HandSPX.FlyingZ (PySem.W.hideAll G (frs X.stack)) (X.env :: X.outer) a (L2N.Zn cls d) s6.heap := by
        refine ⟨B6in, Bno a (.inl rfl), ?_, oe, vs, T, oT, ts, ga, hz, hd, hv1, Bno T (.inr rfl), hTe, gT, hdT, ht3⟩
        have ff := funFrames_none (B := PySem.W.hideAll G (frs X.stack)) J6.stack fun b hb => PySem.W.hideAll_none _ hb
        rw [← hs]
        exact ff
      show wpAny (model X.prog X.w) X.A (PySem.passOn "try.finally" (.ref a) X.env) (SP X pins D) X.xe s6
      unfold PySem.passOn
      refine wpAny_bind (wpAny_field ga hd hv1 ?_)
      rw [if_neg (show ¬ ((Value.ref T == Value.none) = true) from by simp)]
      have goOn : wpAny (model X.prog X.w) X.A (setFlight (.ref a) X.env.frame) (fun _ s7 => wpAny (model X.prog X.w) X.A (throw (.ref a) : Sem Flow) (SP X pins D) X.xe s7) X.xe s6 := by
        rw [hf]
        refine HandSPX.setFlight_upZ fl6 fun h7 hh7 up7 => wpAny_throw (tk _ _ ?_)
        refine ⟨a, PySem.W.hideAll G (frs X.stack), { s6 with heap := G }, pins, σ6, H6, cls, d, rfl, I6, fun b o e hb => PySem.W.hideAll_get _ e hb, ?_, .inr (.inr (by rw [← hs] at hh7; exact hh7)), na6, rfl, J6.bare, q6⟩
        exact Heap.UpToSlots.trans (Heap.UpToSlots.of_keeps fun b o e => (gIn b o e).1) up7
      first
        | exact wpAny_bind (wpAny_pure (wpAny_bind goOn))
        | exact wpAny_bind goOn
  show wpAny (model X.prog X.w) X.A (noteFrame (.ref a) X.env) _ _ _
  rcases sky' with ⟨hB, hn, hl, oe, vs, he0, hz, hd, hv1⟩ | fl | hh
  · exact PySem.PXN.look_newZ L2N.Zn.steady hfr hl hf he0 hB hn hd hv1 hz fin
  · exact PySem.PXN.looks_onZ L2N.Zn.steady hfr hf fl fin
  · exact HandSPX.againZ hf hh.2.2.2 (fin s'.heap hh (Heap.UpToSlots.refl _))
def tAllH (X : Cx) (tfs : ∀ (a : Addr) (pn : List (Addr × Obj)), HotC (X.suite a pn) → TS) : TS := fun D σ H => ∀ a pn hot, tfs a pn hot D σ H
def tFinN (X : Cx) (tb : ∀ (W : WX) (pn : List (Addr × Obj)) (xe : Value → Shared → Prop), L2N.Takes (X.tr pn xe) W → PassesOwn (model X.prog X.w) X.A X.env xe → TS) (tf : TS) (tfs : ∀ (a : Addr) (pn : List (Addr × Obj)), HotC (X.suite a pn) → TS) (Wout : WX) : TS := fun D σ H =>
  ∀ pn xe tk po, tb (wFin (tAllH X tfs) Wout) pn xe tk po { nx := fun σ1 H1 => tf D σ1 H1, rt := fun _ _ => False } σ H
theorem ps_finN {X : Cx} {body : List Stmt} {f₀ : Stmt} {fs : List Stmt} {pos : Pos} {tf : TS} {tfs : ∀ (a : Addr) (pn : List (Addr × Obj)), HotC (X.suite a pn) → TS} {Wout : WX} {tb : ∀ (W : WX) (pn : List (Addr × Obj)) (xe : Value → Shared → Prop), L2N.Takes (X.tr pn xe) W → PassesOwn (model X.prog X.w) X.A X.env xe → TS} (hs : X.stack = X.env :: X.outer) (hf : X.env.frame = some X.env.locals) (hex : X.ex = []) (tk : L2N.Takes X Wout)
    (hb : ∀ (W : WX) (pn : List (Addr × Obj)) (xe : Value → Shared → Prop) (tk : L2N.Takes (X.tr pn xe) W) (po : PassesOwn (model X.prog X.w) X.A X.env xe), PSs (X.tr pn xe) body (tb W pn xe tk po))
    (hfin : PSs X.nox (f₀ :: fs) tf) (hsu : ∀ (a : Addr) (pn : List (Addr × Obj)) (hot : HotC (X.suite a pn)), PSs (X.suite a pn) (f₀ :: fs) (tfs a pn hot)) : PS X (.Try body [] [] (f₀ :: fs) pos) (tFinN X tb tf tfs Wout) := by
  refine ⟨fun pins s σ H D I h => ?_⟩
  have ok := I.ok
  have hsu' : ∀ (a : Addr) (pn : List (Addr × Obj)), HotC (X.suite a pn) → PSs (X.suite a pn) (f₀ :: fs) (tAllH X tfs) := fun a pn hot => ⟨fun pins s σ H D I h => (hsu a pn hot).run pins s σ H D I (h a pn hot)⟩
  refine wpAny_Try_finally ?_
  have tk' : L2N.Takes (X.tr (X.pn ++ pins) fun x s₁ => wpAny (model X.prog X.w) X.A (noteFrame x X.env) (fun _ s₂ => FinallyRaised X.prog X.w X.A X.xe X.env (f₀ :: fs) (SP X pins D) x s₂) (FinallyRaised X.prog X.w X.A X.xe X.env (f₀ :: fs) (SP X pins D)) s₁) (wFin (tAllH X tfs) Wout) :=
    fun u s' xx => fin_excN hs hf hex ok tk hsu' xx
  refine wpAny_mono ((hb (wFin (tAllH X tfs) Wout) (X.pn ++ pins) _ tk' PassesOwn.looking).run [] s σ H { nx := fun σ1 H1 => tf D σ1 H1, rt := fun _ _ => False } (I.toTry _) (h _ _ _ _)) (fun g s1 z => ?_) (fun x s1 hx => hx)
  cases g with
  | ret u =>
    obtain ⟨_, _, _, _, _, q⟩ := z
    exact False.elim q
  | brk =>
    obtain ⟨_, _, _, q⟩ := z
    exact False.elim q
  | cont =>
    obtain ⟨_, _, _, q⟩ := z
    exact False.elim q
  | next =>
    obtain ⟨σ1, H1, J1, q1⟩ := z
    refine wpAny_execs_nil ?_
    refine wpAny_mono (hfin.run pins s1 σ1 H1 D ((J1.ofTry ok).wish _) q1) (fun g2 s2 q2 => ?_) fun _ _ e => False.elim e
    have q3 : SP X pins D g2 s2 := q2.unwish
    cases g2 <;> exact q3
end MF
set_option Elab.async false
set_option linter.all false
set_option maxRecDepth 100000
set_option maxHeartbeats 2000000
namespace MF
open PySem PySem.Spec PyProof.Rows L2 StX HotX L2H
structure HFn (P : Program) (w : World) (K : PySem.W.Frag) (mg : Str → Option Value) (base : Heap) (CX : CXT) (k : Nat) (C : Addr) (m : Str) (sp : Sp) : Prop where
  ex : ∃ f fd ps, FnH P w K mg base CX k f fd ps sp ∧ Meth K C m f ∧ Binds K fd ps []
section
variable {P : Program} {w : World} {K : PySem.W.Frag} {mg : Str → Option Value} {base : Heap}
theorem MDef.fnH {k : Nat} {C : Addr} {m qual : Str} {st : Stmt} {ps N : List Str} {sp : Sp} (D : MDef K C m qual st ps) (S : FnScope N ps (defScope st)) (len : ∀ vs H Q E, sp vs H Q E → vs.length = ps.length)
    (hbody : ∀ (f : Addr) (cdv : Value) (A : Around) (outer : List Env) (s : Shared) (H : Hp) (vs : List V) (Q : VK) (E : XK) (p : Addr × Obj), Hot1 A p → RoomH k (A.deeper (envOfC qual (defScope st) s.heap.objs.size f cdv)) → sp vs H Q E →
      ∃ t, PSs (cxH CX0 P w K mg base N qual (defScope st) f cdv A outer s H E p) (defBody st) t ∧ t { nx := fun _ H' => Q .non H', rt := Q } (start N vs) H) : HFn P w K mg base CX0 (k + 1) C m sp := by
  obtain ⟨f, fd, F, M, hb⟩ := D.ex
  obtain ⟨oc, od, kV, doc, pm, an, cdv, ct, osl, rfl, lk, hcd⟩ := F.ex
  exact ⟨f, _, ps, fn_ofH lk hcd S len fun A outer s H vs Q E p hot hr hsp => hbody f cdv A outer s H vs Q E p hot hr hsp, M, hb⟩
end
section
variable {X : Cx} {CX : CXT} {k : Nat} {f C : Addr} {fd : FuncData} {ps : List Str} {sp : Sp}
theorem run_fnHS {pins : List (Addr × Obj)} {σ : L2.St} {H : Hp} {s : Shared} {E : XK} {Q : VK} {us : List Value} {vs : List V} (F : FnH X.prog X.w X.K X.mg X.base CX k f fd ps sp) (hr : RoomH k X.A) (hc : HotC X) (hb : Binds X.K fd ps []) (hx : PassesAt CX X σ E)
    (I : Inv X pins σ H s) (r : Vals vs us) (h : sp vs H Q E) : codeAny (model X.prog X.w) X.A (.call (.ref f) ⟨us, []⟩) (fun r s' => match r with | .ok (.ret v) => EP X pins σ Q v s' | .ok _ => False | .error e => X.xe e s') s := by
  obtain ⟨p, hot, hp⟩ := hc
  have hl : us.length = ps.length := by rw [← r.length]; exact F.len _ _ _ _ h
  have b := hb s us I.kIn (by rw [List.append_nil]; exact hl)
  rw [List.append_nil] at b
  have P1 := I.pin p (List.mem_append_left _ hp)
  have hpin : PinOk X.stack H s p := ⟨P1.1, P1.2.1, fun hm => (List.mem_cons.mp (I.stkSub p.1 hm)).elim P1.2.2.1 P1.2.2.2.1, P1.2.2.2.2⟩
  refine codeAny_mono (F.run X.A X.stack s H ⟨us, []⟩ us vs Q E p hr hot hpin I.env0 b r h) fun r s' hq => ?_
  cases r with
  | error e => exact hx pins H s e s' I hq
  | ok fl =>
    cases fl with
    | ret u => exact I.after hq
    | next => exact False.elim hq
    | brk => exact False.elim hq
    | cont => exact False.elim hq
end
def withTail (pos : Pos) (env : Env) (x fx : Addr) (e : Value) : Sem Flow := do
  standAt pos
  holding [e] do
    let r ← withItem.marked e (.call (.ref fx) ⟨[.ref x] ++ [← typeOf e, e, ← tracebackOf e], []⟩)
    let swallow ← match r with
      | .none => pure false
      | .bool b => pure b
      | _ => do pure ((← withItem.marked e (.call (.type "bool") ⟨[r], []⟩)) == .bool true)
    if swallow then rule "with.exit-swallows"; setFlight e none; pure .next else passOn "with" e env
abbrev WithX (prog : Program) (w : World) (A : Around) (E : Value → Shared → Prop) (env : Env) (pos : Pos) (x fx : Addr) (Q : Flow → Shared → Prop) (e : Value) (s : Shared) : Prop :=
  wpAny (model prog w) A (noteFrame e env) (fun _ s₅ => wpAny (model prog w) A (setFlight e none) (fun _ s₆ => wpAny (model prog w) A (withTail pos env x fx e) Q E s₆) E s₅) E s
section
open PySem.W
variable {prog : Program} {w : World} {A : Around} {E : Value → Shared → Prop} {s : Shared} {env : Env} {K : Frag} {x C fe fx : Addr} {ox : Obj} {od : Option Obj} {pos : Pos}
theorem with_core {b : Value → Sem Unit} {bdy : Sem Flow} {Q : Flow → Shared → Prop} (X : K.In s.heap) (I : PySem.W.InstAt s.heap x ox C od) (he : findIn K (.ref C) "__enter__" = some (some (.ref fe))) (hfe : isFn K (.ref fe) = true) (hx : findIn K (.ref C) "__exit__" = some (some (.ref fx))) (hfx : isFn K (.ref fx) = true)
    (h : wpAny (model prog w) A (call (.ref fe) [.ref x]) (fun v s₂ => wpAny (model prog w) A (b v) (fun _ s₃ => wpAny (model prog w) A bdy (fun f s₄ => wpAny (model prog w) A (call (.ref fx) [.ref x, .none, .none, .none]) (fun _ s₅ => Q f s₅) E s₄)
      (WithX prog w A E env pos x fx Q) s₃) (WithX prog w A E env pos x fx Q) s₂) E s) :
    wpAny (model prog w) A (withItem false pos env (pure (.ref x)) (some b) bdy) Q E s := by
  obtain ⟨cd, hcd, ae⟩ := kw_along he
  obtain ⟨cd', hcd', ax⟩ := kw_along hx
  cases hcd.symm.trans hcd'
  obtain ⟨hh, g, d, tt, os⟩ := s
  have L1 : Looks (model prog w) hh (specialOnItsLine (.ref x) "__enter__") (some (.ref fe), cd.mro) := kw_special X I hcd ae
  have L2 : Looks (model prog w) hh (specialOnItsLine (.ref x) "__exit__") (some (.ref fx), cd.mro) := kw_special X I hcd ax
  have L3 : Looks (model prog w) hh (bindSpecial (.ref fe) (.ref x)) (.ref fe, [.ref x]) := bind_fn X _ (beq_iff_eq.mp hfe)
  have L4 : Looks (model prog w) hh (bindSpecial (.ref fx) (.ref x)) (.ref fx, [.ref x]) := bind_fn X _ (beq_iff_eq.mp hfx)
  have L5 : Looks (model prog w) hh (aMethodOfAnotherBuiltinTypeStops (.ref fe) cd.mro) () := Looks.of_pure rfl
  have L6 : Looks (model prog w) hh (aMethodOfAnotherBuiltinTypeStops (.ref fx) cd.mro) () := Looks.of_pure rfl
  unfold withItem
  refine wpAny_bind (wpAny_pure ?_)
  refine wpAny_bind (wpAny_standAt ?_)
  simp only [Bool.false_eq_true, if_false]
  kw_lk
  refine wpAny_mono h (fun v s₂ h₂ => ?_) fun _ _ z => z
  kw_lk
  refine wpAny_attempt (kw_held ?_)
  show wpAny _ _ (b v >>= fun _ => bdy) _ _ _
  refine wpAny_bind (wpAny_mono h₂ (fun _ s₃ h₃ => wpAny_mono h₃ (fun f s₄ h₄ => ?_) fun e s₄ h₄ => ?_) fun e s₄ h₄ => ?_)
  · kw_lk
    refine wpAny_mono h₄ (fun _ s₅ h₅ => ?_) fun _ _ z => z
    kw_lk
    exact h₅
  · exact wpAny_bind (wpAny_mono h₄ (fun _ s₅ h₅ => wpAny_bind (wpAny_mono h₅ (fun _ s₆ h₆ => h₆) fun _ _ z => z)) fun _ _ z => z)
  · exact wpAny_bind (wpAny_mono h₄ (fun _ s₅ h₅ => wpAny_bind (wpAny_mono h₅ (fun _ s₆ h₆ => h₆) fun _ _ z => z)) fun _ _ z => z)
end
def wWith (spX : Sp) (x : Addr) (Wout : WX) : WX := fun cls d σ H => ∃ C, cls = .ref C ∧ ∀ v1 v2 v3, spX [.ref x, v1, v2, v3] H (fun r H2 => r = .non ∧ Wout cls d σ H2) (fun _ _ _ => False)
def tWith (X : Cx) (C : Addr) (i : Nat) (spE spX : Sp) (te : TE) (tb : ∀ (W : WX) (pn : List (Addr × Obj)) (xe : Value → Shared → Prop), L2N.Takes (X.tr pn xe) W → PassesOwn (model X.prog X.w) X.A X.env xe → TS) (Wout : WX) : TS := fun D σ H =>
  te σ H fun v H1 => ∃ a dx fs, v = .ref a ∧ H1 a = some (.ins C dx fs) ∧ spE [.ref a] H1 (fun v2 H2 => ∀ pn xe tk po, tb (wWith spX a Wout) pn xe tk po { nx := fun σ3 H3 => spX [.ref a, .non, .non, .non] H3 (fun _ H4 => D.nx σ3 H4) (fun _ _ _ => False), rt := fun _ _ => False } (σ.set i (some v2)) H2) (fun _ _ _ => False)
section
variable {X : Cx} {k : Nat} {C : Addr} {spE spX : Sp} {Wout : WX} {e : Expr} {y : Str} {i : Nat} {py pos : Pos} {body : List Stmt} {te : TE}
theorem with_excN {D : L2.Ends} {u : Value} {s' : Shared} {x fx : Addr} {fd : FuncData} {ps : List Str} {pins : List (Addr × Obj)} {wp : Pos} (hs : X.stack = X.env :: X.outer) (hf : X.env.frame = some X.env.locals) (hex : X.ex = []) (ok : X.Ok) (tk : L2N.Takes X Wout) (hr : Room k X.A)
    (F : FnH X.prog X.w X.K X.mg X.base CX0 k fx fd ps spX) (hb : Binds X.K fd ps [])
    (xx : L2N.XE (X.tr (X.pn ++ pins) (WithX X.prog X.w X.A X.xe X.env wp x fx (SP X pins D))) (wWith spX x Wout) u s') : WithX X.prog X.w X.A X.xe X.env wp x fx (SP X pins D) u s' := by
  have hfr : X.A.frames = some (X.env :: X.outer) := by rw [ok.frames, hs]
  obtain ⟨a, B, sI, pins', σ', H', cls, d, rfl, J', nb, up, sky, na, os, ag, hw⟩ := xx
  have J : Inv X pins σ' H' sI := J'.ofTry ok
  have sky' : Sky B (X.env :: X.outer) a (L2N.Zn cls d) X.env.locals s'.heap := by rw [← hs]; exact sky
  refine L2N.Sky.land L2N.Zn.steady hfr hf sky' fun h3 fl3 up3 => ?_
  have J3 : Inv X pins σ' H' { s' with heap := h3 } := J.landed nb fl3.1 (up.trans up3) os ag
  obtain ⟨k1, k2, k3, oe, vs, T, oT, ts, he3, hz, hd, hv1, hnT, hTe, hT, hdT, ht3⟩ := id fl3
  have nT : H' T = none := (J.inGround nb).gone hnT
  have notFr : ∀ (b : Addr) (o : Obj) (fv : Array Value), h3.get? b = some o → o.data = .fields fv → b ∉ frs (X.env :: X.outer) := fun b o fv e dd hm => by
    obtain ⟨_, o', e', hnf⟩ := k3.mem hm
    have eo : o = o' := Option.some.inj (e.symm.trans e')
    rw [← eo] at hnf
    exact hnf _ dd
  have locF : X.env.locals ∈ frs (X.env :: X.outer) := List.mem_filterMap.mpr ⟨X.env, List.mem_cons_self, hf⟩
  have fsF : ∀ b, b ∈ X.fs → b ∈ frs (X.env :: X.outer) := fun b hm => by
    obtain ⟨e, he, q⟩ := List.mem_filterMap.mp hm
    exact List.mem_filterMap.mpr ⟨e, List.mem_cons_of_mem _ he, q⟩
  have fa := notFr a oe vs he3 hd
  have fT := notFr T oT ts hT hdT
  have S3 : Inv (X.suite a ((a, oe) :: (T, oT) :: (X.pn ++ pins))) [] σ' H' { s' with heap := h3 } :=
    ⟨J3.ok.suite _ _, J3.os, J3.bare, J3.base, J3.loc, J3.cell, J3.free, J3.freeC, fun p hp => by
      rw [List.append_nil] at hp
      rcases List.mem_cons.mp hp with z | hp
      · rw [z]
        exact ⟨he3, na, fun z2 => fa (by rw [show a = X.env.locals from z2]; exact locF), fun z2 => fa (fsF _ z2), fun v z2 => by
          have z3 : oe.data = .cell v := z2
          rw [hd] at z3
          cases z3⟩
      · rcases List.mem_cons.mp hp with z | hp
        · rw [z]
          exact ⟨hT, nT, fun z2 => fT (by rw [show T = X.env.locals from z2]; exact locF), fun z2 => fT (fsF _ z2), fun v z2 => by
            have z3 : oT.data = .cell v := z2
            rw [hdT] at z3
            cases z3⟩
        · exact J3.pin p hp, J3.hok, J3.len⟩
  obtain ⟨Cc, ecls, hw⟩ := hw
  have hcls : oe.cls = .ref Cc := hz.1.trans ecls
  unfold withTail
  refine wpAny_bind (wpAny_standAt (wpAny_holding ?_))
  refine wpAny_bind (wpAny_typeOf_ref he3 ?_)
  have tail : ∀ (vt : V) (tv : Value), RelV vt tv → wpAny (model X.prog X.w) X.A (do
      let r ← withItem.marked (.ref a) (.call (.ref fx) ⟨[.ref x] ++ [oe.cls, .ref a, tv], []⟩)
      let swallow ← match r with
        | .none => pure false
        | .bool b => pure b
        | _ => do pure ((← withItem.marked (.ref a) (.call (.type "bool") ⟨[r], []⟩)) == .bool true)
      if swallow then rule "with.exit-swallows"; setFlight (.ref a) none; pure .next else passOn "with" (.ref a) X.env) (SP X pins D) X.xe { s' with heap := h3 } := fun vt tv rt => by
    unfold withItem.marked
    refine wpAny_bind ?_
    refine wpAny_bind (wpAny_run (codeAny_mono (run_fnHS (X := X.suite a ((a, oe) :: (T, oT) :: (X.pn ++ pins))) (us := [.ref x, oe.cls, .ref a, tv]) (vs := [.ref x, .ref Cc, .ref a, vt]) (E := fun _ _ _ => False) F (⟨hr.dp, hr.un⟩) ⟨(a, oe), ⟨rfl, vs, hd, hz.2.2 vs hd⟩, List.mem_cons_self⟩ hb
      (fun pins H s e s' I c => pass0 pins σ' H s e s' I c) S3 (.cons rfl (.cons hcls (.cons rfl (.cons rt .nil)))) (hw _ _ _)) fun r s6 hq => ?_) (by intro z; cases z))
    cases r with
    | error e => exact False.elim hq
    | ok fl =>
    cases fl with
    | next => exact False.elim hq
    | brk => exact False.elim hq
    | cont => exact False.elim hq
    | ret uu =>
    obtain ⟨v6, H6, S6, r6, ev6, q6⟩ := hq
    subst ev6
    obtain rfl : uu = Value.none := r6
    refine wpAny_pure ?_
    refine wpAny_bind (wpAny_pure ?_)
    show wpAny (model X.prog X.w) X.A (PySem.passOn "with" (.ref a) X.env) (SP X pins D) X.xe s6
    have J6 : Inv X pins σ' H6 s6 := ⟨ok, S6.os, S6.bare, S6.base, S6.loc, S6.cell, S6.free, S6.freeC, fun p hp => S6.pin p (List.mem_append_left _ (List.mem_cons_of_mem _ (List.mem_cons_of_mem _ hp))), S6.hok, S6.len⟩
    have pa := S6.pin (a, oe) (List.mem_append_left _ List.mem_cons_self)
    have pT := S6.pin (T, oT) (List.mem_append_left _ (List.mem_cons_of_mem _ List.mem_cons_self))
    have ga : s6.heap.get? a = some oe := pa.1
    have gT : s6.heap.get? T = some oT := pT.1
    have na6 : H6 a = none := pa.2.1
    have nT6 : H6 T = none := pT.2.1
    have far : ∀ b o, sI.heap.get? b = some o → b ≠ a ∧ b ≠ T := fun b o e => by
      by_cases hb : b ∈ frs X.stack
      · rw [hs] at hb
        exact ⟨fun z => fa (by rw [← z]; exact hb), fun z => fT (by rw [← z]; exact hb)⟩
      · have q := nb b o e hb
        exact ⟨fun z => by
          rw [z, k2] at q
          exact (nomatch q), fun z => by
          rw [z, hnT] at q
          cases q⟩
    have far0 : ∀ b o, X.s_0.heap.get? b = some o → b ≠ a ∧ b ≠ T := fun b o e => by
      obtain ⟨o', q⟩ := J.base.there b o e (by rw [hex]; simp)
      exact far b o' q
    have farP : ∀ p ∈ X.pn ++ pins, p.1 ≠ a ∧ p.1 ≠ T := fun p hp => far p.1 p.2 (J.pin p hp).1
    obtain ⟨G, g1, g2⟩ := restrict s6.heap fun b => !(decide (b = a) || decide (b = T))
    have gIn : ∀ b o, G.get? b = some o → s6.heap.get? b = some o ∧ b ≠ a ∧ b ≠ T := fun b o e => by
      cases q : (!(decide (b = a) || decide (b = T))) with
      | false =>
        rw [g2 b q] at e
        cases e
      | true =>
        rw [g1 b q] at e
        simp only [Bool.not_eq_true', Bool.or_eq_false_iff, decide_eq_false_iff_not] at q
        exact ⟨e, q.1, q.2⟩
    have gOf : ∀ b o, b ≠ a → b ≠ T → s6.heap.get? b = some o → G.get? b = some o := fun b o h1 h2 e => by
      rw [g1 b (by simp [h1, h2])]
      exact e
    have I6 : Inv X pins σ' H6 { s6 with heap := G } := J6.less (fun b o e => (gIn b o e).1) gOf ⟨oe, vs, ga, hd⟩ ⟨oT, ts, gT, hdT⟩ na6 nT6 far0 farP
    have B6in : ∀ b o, (PySem.W.hideAll G (frs X.stack)).get? b = some o → s6.heap.get? b = some o := fun b o e => (gIn b o (PySem.W.of_hideAll _ e)).1
    have Bno : ∀ b, (b = a ∨ b = T) → (PySem.W.hideAll G (frs X.stack)).get? b = none := fun b hb => by
      cases q : (PySem.W.hideAll G (frs X.stack)).get? b with
      | none => rfl
      | some o =>
        obtain ⟨_, n1, n2⟩ := gIn b o (PySem.W.of_hideAll _ q)
        rcases hb with z | z
        · exact absurd z n1
        · exact absurd z n2
    have fl6 : HandSPX.FlyingZ (PySem.W.hideAll G (frs X.stack)) (X.env :: X.outer) a (L2N.Zn cls d) s6.heap := by
      refine ⟨B6in, Bno a (.inl rfl), ?_, oe, vs, T, oT, ts, ga, hz, hd, hv1, Bno T (.inr rfl), hTe, gT, hdT, ht3⟩
      have ff := funFrames_none (B := PySem.W.hideAll G (frs X.stack)) J6.stack fun b hb => PySem.W.hideAll_none _ hb
      rw [← hs]
      exact ff
    show wpAny (model X.prog X.w) X.A (PySem.passOn "with" (.ref a) X.env) (SP X pins D) X.xe s6
    unfold PySem.passOn
    refine wpAny_bind (wpAny_field ga hd hv1 ?_)
    rw [if_neg (show ¬ ((Value.ref T == Value.none) = true) from by simp)]
    have goOn : wpAny (model X.prog X.w) X.A (setFlight (.ref a) X.env.frame) (fun _ s7 => wpAny (model X.prog X.w) X.A (throw (.ref a) : Sem Flow) (SP X pins D) X.xe s7) X.xe s6 := by
      rw [hf]
      refine HandSPX.setFlight_upZ fl6 fun h7 hh7 up7 => wpAny_throw (tk _ _ ?_)
      refine ⟨a, PySem.W.hideAll G (frs X.stack), { s6 with heap := G }, pins, σ', H6, cls, d, rfl, I6, fun b o e hb => PySem.W.hideAll_get _ e hb, ?_, .inr (.inr (by rw [← hs] at hh7; exact hh7)), na6, rfl, J6.bare, q6⟩
      exact Heap.UpToSlots.trans (Heap.UpToSlots.of_keeps fun b o e => (gIn b o e).1) up7
    first
      | exact wpAny_bind (wpAny_pure (wpAny_bind goOn))
      | exact wpAny_bind goOn
  unfold tracebackOf
  obtain ⟨t1, ht1⟩ : ∃ t1, ts[1]? = some t1 := by
    have l3 : 1 < ts.size := by
      have := (Array.getElem?_eq_some_iff.mp ht3).1
      omega
    exact ⟨ts[1], by simp [l3]⟩
  refine wpAny_bind (wpAny_bind (wpAny_field he3 hd hv1 ?_))
  refine wpAny_bind (wpAny_field hT hdT ht1 ?_)
  by_cases hn : (t1 == Value.none) = true
  · rw [if_pos hn]
    exact wpAny_pure (tail .non .none rfl)
  · rw [if_neg hn]
    exact wpAny_pure (tail (.ref T) (.ref T) rfl)
theorem ps_withN {tb : ∀ (W : WX) (pn : List (Addr × Obj)) (xe : Value → Shared → Prop), L2N.Takes (X.tr pn xe) W → PassesOwn (model X.prog X.w) X.A X.env xe → TS} (hs : X.stack = X.env :: X.outer) (hf : X.env.frame = some X.env.locals) (hex : X.ex = []) (tk : L2N.Takes X Wout) (hr : Room k X.A) (c : Cls X.K C)
    (GE : MFn X.prog X.w X.K X.mg X.base CX0 k C "__enter__" spE) (GX : MFn X.prog X.w X.K X.mg X.base CX0 k C "__exit__" spX) (GH : HFn X.prog X.w X.K X.mg X.base CX0 k C "__exit__" spX) (hN : X.N.Nodup) (hi : X.N[i]? = some y) (hx : Loc X.env.scope y) (he : PE X e te)
    (hb : ∀ (W : WX) (pn : List (Addr × Obj)) (xe : Value → Shared → Prop) (tk : L2N.Takes (X.tr pn xe) W) (po : PassesOwn (model X.prog X.w) X.A X.env xe), PSs (X.tr pn xe) body (tb W pn xe tk po))
    (hfn : X.fn y = true ∨ X.env.scope.names.lookup y = some .local := by first | exact .inl rfl | exact .inr rfl | assumption) : PS X (.With [⟨e, some (.Name y py)⟩] body pos) (tWith X C i spE spX te tb Wout) := by
  obtain ⟨fe, FE, me⟩ := GE.ex
  obtain ⟨fx, FX, mx⟩ := GX.ex
  obtain ⟨fh, fd, ps, FH, mh, bh⟩ := GH.ex
  have efh : fh = fx := by
    have h1 := mh.at_
    rw [mx.at_] at h1
    cases h1
    rfl
  subst efh
  refine ⟨fun pins s σ H D I h => ?_⟩
  have ok := I.ok
  refine PySem.W.kw_execN (thn (he.run pins s σ H _ I h) fun u s1 ⟨v, H1, I1, r1, a, dx, fs, ev, e1, q1⟩ => ?_)
  subst ev
  obtain rfl : u = Value.ref a := r1
  have J : ∃ od, PySem.W.InstAt s1.heap a (PySem.W.instObj C dx) C od := by
    obtain ⟨mA, O, _, _, _, _⟩ := ins_get I1.hok e1
    obtain ⟨od, ho, _⟩ := lookIn_ns O.ns
    exact ⟨some od, O.obj, rfl, rfl, ho⟩
  obtain ⟨od, J⟩ := J
  refine with_core (b := PySem.assign (.Name y py) X.env) I1.kIn J me.at_ me.fn mx.at_ mx.fn ?_
  refine wpAny_mono (wpAny_call (run_fnR (us := [Value.ref a]) (vs := [V.ref a]) FE hr pass0 I1 (.cons rfl .nil) q1)) (fun u2 s2 z2 => ?_) fun _ _ z => ?_
  · obtain ⟨v2, H2, I2, r2, q2⟩ := z2
    refine wpAny_assign_Name (store_ok I2 hN hi hx r2 (fun s3 I3 => ?_) hfn)
    have tk' : L2N.Takes (X.tr (X.pn ++ pins) (WithX X.prog X.w X.A X.xe X.env e.pos a fh (SP X pins D))) (wWith spX a Wout) := fun u s' xx => with_excN hs hf hex ok tk hr FH bh xx
    refine wpAny_mono ((hb (wWith spX a Wout) (X.pn ++ pins) _ tk' PassesOwn.looking).run [] s3 _ H2 _ (I3.toTry _) (q2 _ _ tk' _)) (fun g s4 z4 => ?_) fun x s4 hx4 => hx4
    cases g with
    | ret u4 =>
      obtain ⟨_, _, _, _, _, q⟩ := z4
      exact False.elim q
    | brk =>
      obtain ⟨_, _, _, q⟩ := z4
      exact False.elim q
    | cont =>
      obtain ⟨_, _, _, q⟩ := z4
      exact False.elim q
    | next =>
      obtain ⟨σ4, H4, J4, q4⟩ := z4
      have I4 := J4.ofTry ok
      refine wpAny_mono (wpAny_call (run_fnR (us := [Value.ref a, .none, .none, .none]) (vs := [V.ref a, .non, .non, .non]) FX hr pass0 I4 (.cons rfl (.cons rfl (.cons rfl (.cons rfl .nil)))) q4)) (fun u5 s5 z5 => ?_) fun _ _ z => z
      obtain ⟨v5, H5, I5, r5, q5⟩ := z5
      exact ⟨σ4, H5, I5, q5⟩
  · exact z
end
def tMStarS (K : PySem.W.Frag) (C : Addr) (m : Str) (sp : Sp) (E : L2.St → XK) (ta te : TE) : TE := fun σ H Q => ta σ H fun x H1 => ∃ a dx fs, x = .ref a ∧ H1 a = some (.ins C dx fs) ∧ fs.lookup m = none ∧
  ∀ q g, H1 q = none → te σ (upd H1 q (.met g a)) fun y H2 => ∃ b vs, y = .ref b ∧ (SqT K H2 b vs ∨ SqL K H2 b vs) ∧ H2 q = some (.met g a) ∧ sp (.ref a :: vs) H2 Q (E σ)
theorem pe_mStarS {X : Cx} {CX : CXT} {k : Nat} {C : Addr} {sp : Sp} {E : L2.St → XK} {m : Str} {pos apos p : Pos} {e o : Expr} {ta te : TE} (G : MFn X.prog X.w X.K X.mg X.base CX k C m sp) (fi : ∀ f, PySem.W.findIn X.K (.ref C) m = some (some (.ref f)) → PySem.W.fnIn X.K f = true) (c : Cls X.K C) (hr : Room k X.A) (hx : ∀ σ, PassesAt CX X σ (E σ)) (he : PE X o ta) (ha : PE X e te)
    (cp : PySem.W.copiedNames.contains m = false := by decide +kernel) (hbase : attributeBase o m X.env (eval o X.env) = eval o X.env := by rfl) : PE X (.Call (.Attribute o m apos) [.Starred e p] [] pos) (tMStarS X.K C m sp E ta te) := by
  obtain ⟨g, F, hm⟩ := G.ex
  have b : BMeth X.K C m g := bmeth_of hm (fi g hm.at_) cp
  refine ⟨fun pins s σ H Q I h => ?_⟩
  refine starcall_of hbase (thn (he.run pins s σ H _ I h) fun u s1 ⟨x, H1, I1, rx, a, dx, fs, ex, ea, l, q⟩ => ?_)
  subst ex
  obtain rfl : u = Value.ref a := rx
  refine getbound_ok I1 ea c b l fun q1 s2 hq1 I2 => ?_
  refine PySem.W.ks_call (P := PySem.W.MethP X.K q1 g (.ref a)) rfl (PySem.W.keeps_M b.fi) (PySem.W.ks_lone ?_)
  refine thn (ha.run pins s2 σ _ _ I2 (q q1 g hq1)) fun v s3 ⟨y, H2, I3, ry, t, vs, ey, ht, hm, hsp⟩ => ?_
  subst ey
  obtain rfl : v = Value.ref t := ry
  have fin : ∀ us s', Inv X pins σ H2 s' → Vals vs us → PySem.W.MethP X.K q1 g (.ref a) s'.heap ∧ wpAny (model X.prog X.w) X.A (call (.ref q1) us) (EP X pins σ Q) X.xe s' := fun us s4 I4 rv =>
    ⟨met_P I4 hm, wpAny_call (PySem.W.method_call (met_P I4 hm).1 (run_fnRS (us := Value.ref a :: us) (vs := V.ref a :: vs) F hr (hx σ) I4 (.cons rfl rv) hsp))⟩
  rcases ht with ht | ht
  · exact star_tup I3 ht fin
  · exact star_lst I3 ht fin
end MF
set_option Elab.async false
set_option linter.all false
set_option maxRecDepth 100000
set_option maxHeartbeats 1000000
namespace MF
open PySem PySem.Spec L2
noncomputable def scnF (S : Scn) (ds : List Deed) : Scn := ds.foldl (fun T d => (actF T d).2) S
theorem scnF_nil {S : Scn} : scnF S [] = S := rfl
theorem scnF_snoc {S : Scn} {ds : List Deed} {d : Deed} : scnF S (ds ++ [d]) = (actF (scnF S ds) d).2 := by
  unfold scnF
  rw [List.foldl_append]
  rfl
theorem scnF_cons {S : Scn} {ds : List Deed} {d : Deed} : scnF S (d :: ds) = scnF (actF S d).2 ds := rfl
noncomputable def entF (S : Scn) : List Deed → List (Deed × Scn × Scn)
  | [] => []
  | d :: ds => (d, S, (actF S d).2) :: entF (actF S d).2 ds
theorem entF_snoc {ds : List Deed} {d : Deed} : ∀ {S : Scn}, entF S (ds ++ [d]) = entF S ds ++ [(d, scnF S ds, scnF S (ds ++ [d]))] := by
  induction ds with
  | nil => intro S; rfl
  | cons e ds ih =>
    intro S
    show (e, S, (actF S e).2) :: entF (actF S e).2 (ds ++ [d]) = _
    rw [ih]
    rfl
theorem entF_len {ds : List Deed} : ∀ {S : Scn}, (entF S ds).length = ds.length := by
  induction ds with
  | nil => intro S; rfl
  | cons e ds ih => intro S; show (entF _ ds).length + 1 = _; rw [ih]; rfl
noncomputable def resF (S : Scn) : List Deed → List Rs
  | [] => []
  | d :: ds => (actF S d).1 :: resF (actF S d).2 ds
theorem resF_snoc {ds : List Deed} {d : Deed} : ∀ {S : Scn}, resF S (ds ++ [d]) = resF S ds ++ [(actF (scnF S ds) d).1] := by
  induction ds with
  | nil => intro S; rfl
  | cons e ds ih =>
    intro S
    show (actF S e).1 :: resF (actF S e).2 (ds ++ [d]) = _
    rw [ih]
    rfl
theorem resF_append {as bs : List Deed} : ∀ {S : Scn}, resF S (as ++ bs) = resF S as ++ resF (scnF S as) bs := by
  induction as with
  | nil => intro S; rfl
  | cons e ds ih =>
    intro S
    show (actF S e).1 :: resF (actF S e).2 (ds ++ bs) = _
    rw [ih]
    rfl
theorem resF_len {ds : List Deed} : ∀ {S : Scn}, (resF S ds).length = ds.length := by
  induction ds with
  | nil => intro S; rfl
  | cons e ds ih => intro S; show (resF _ ds).length + 1 = _; rw [ih]; rfl
def goodF (S : Scn) (ds : List Deed) : Prop := ∀ r ∈ resF S ds, r.bad = false
theorem goodF_snoc {S : Scn} {ds : List Deed} {d : Deed} : goodF S (ds ++ [d]) ↔ goodF S ds ∧ (actF (scnF S ds) d).1.bad = false := by
  unfold goodF
  rw [resF_snoc]
  constructor
  · intro h
    exact ⟨fun r hr => h r (List.mem_append_left _ hr), h _ (List.mem_append_right _ (List.mem_singleton.mpr rfl))⟩
  · rintro ⟨h1, h2⟩ r hr
    rcases List.mem_append.mp hr with z | z
    · exact h1 r z
    · rw [List.mem_singleton.mp z]; exact h2
theorem goodF_take {S : Scn} {ds : List Deed} (h : goodF S ds) (i : Nat) : goodF S (ds.take i) := fun r hr => h r (by
  have e : ds = ds.take i ++ ds.drop i := (List.take_append_drop _ _).symm
  rw [e, resF_append]
  exact List.mem_append_left _ hr)
theorem goodF_nil {S : Scn} : goodF S [] := fun r h => by cases h
theorem Rs.good {r : Rs} (h : r.bad = true) : ∃ e, r = .err e := by
  cases r with
  | err e => exact ⟨e, rfl⟩
  | _ => cases h
theorem entF_deeds {D : List Deed} : ∀ {S : Scn}, (entF S D).map (·.1) = D := by
  induction D with
  | nil => intro S; rfl
  | cons d D ih =>
    intro S
    show d :: (entF (actF S d).2 D).map (·.1) = _
    rw [ih]
theorem entF_take {D : List Deed} : ∀ {S : Scn} {k : Nat}, (entF S D).take k = entF S (D.take k) := by
  induction D with
  | nil => intro S k; simp [entF]
  | cons d D ih =>
    intro S k
    cases k with
    | zero => rfl
    | succ k =>
      show (d, S, (actF S d).2) :: (entF (actF S d).2 D).take k = _
      rw [ih]
      rfl
theorem entF_get {S : Scn} {D : List Deed} {i : Nat} {d : Deed} (h : D[i]? = some d) : (entF S D)[i]? = some (d, scnF S (D.take i), scnF S (D.take (i + 1))) := by
  have hi := (List.getElem?_eq_some_iff.mp h).1
  have e : D.take (i + 1) = D.take i ++ [d] := by rw [List.take_add_one, h]; rfl
  have h2 : (entF S D).take (i + 1) = entF S (D.take i) ++ [(d, scnF S (D.take i), scnF S (D.take (i + 1)))] := by rw [entF_take, e, entF_snoc]
  have h3 : ((entF S D).take (i + 1))[i]? = (entF S D)[i]? := List.getElem?_take_of_lt (by omega)
  rw [← h3, h2, List.getElem?_append_right (by rw [entF_len, List.length_take]; omega), entF_len, List.length_take, Nat.min_eq_left (by omega), Nat.sub_self]
  rfl
noncomputable def pastF (S : Scn) (D : List Deed) : List Scn := (List.range (D.length + 1)).map fun i => scnF S (D.take i)
theorem pastF_len {S : Scn} {D : List Deed} : (pastF S D).length = D.length + 1 := by simp [pastF]
theorem pastF_get {S : Scn} {D : List Deed} {i : Nat} (h : i ≤ D.length) : (pastF S D)[i]? = some (scnF S (D.take i)) := by
  unfold pastF
  rw [List.getElem?_map, List.getElem?_range (by omega)]
  rfl
theorem pastF_snoc {S : Scn} {D : List Deed} {k : Nat} {d : Deed} (h : k ≤ D.length) : pastF S (D.take k ++ [d]) = (pastF S D).take (k + 1) ++ [scnF S (D.take k ++ [d])] := by
  have l1 : (D.take k).length = k := by rw [List.length_take]; omega
  have l2 : (D.take k ++ [d]).length = k + 1 := by rw [List.length_append, l1]; rfl
  refine List.ext_getElem? fun i => ?_
  by_cases c : i ≤ k
  · rw [pastF_get (by omega), List.getElem?_append_left (by rw [List.length_take, pastF_len]; omega), List.getElem?_take_of_lt (by omega), pastF_get (by omega), List.take_append_of_le_length (by omega), List.take_take, Nat.min_eq_left c]
  · by_cases c2 : i = k + 1
    · subst c2
      rw [pastF_get (by omega), List.getElem?_append_right (by rw [List.length_take, pastF_len]; omega), List.length_take, pastF_len, Nat.min_eq_left (by omega), Nat.sub_self, List.take_of_length_le (by omega)]
      rfl
    · rw [List.getElem?_eq_none (by rw [pastF_len]; omega), List.getElem?_eq_none (by rw [List.length_append, List.length_take, pastF_len]; simp; omega)]
noncomputable def undF (S : Scn) (D : List Deed) (k : Nat) : List (Deed × Scn × Scn) := ((entF S D).drop k).reverse
theorem undF_all {S : Scn} {D : List Deed} {k : Nat} (h : D.length ≤ k) : undF S D k = [] := by
  unfold undF
  rw [List.drop_of_length_le (by rw [entF_len]; exact h)]
  rfl
theorem undF_len {S : Scn} {D : List Deed} {k : Nat} : (undF S D k).length = D.length - k := by
  unfold undF
  rw [List.length_reverse, List.length_drop, entF_len]
theorem undF_step {S : Scn} {D : List Deed} {k : Nat} {d : Deed} (h : D[k]? = some d) : undF S D k = undF S D (k + 1) ++ [(d, scnF S (D.take k), scnF S (D.take (k + 1)))] := by
  unfold undF
  have hg := entF_get (S := S) h
  obtain ⟨hi, ei⟩ := List.getElem?_eq_some_iff.mp hg
  rw [List.drop_eq_getElem_cons hi, ei, List.reverse_cons]
theorem entF_step {S : Scn} {D : List Deed} {k : Nat} {d : Deed} (h : D[k]? = some d) : entF S (D.take (k + 1)) = entF S (D.take k) ++ [(d, scnF S (D.take k), scnF S (D.take (k + 1)))] := by
  have e : D.take (k + 1) = D.take k ++ [d] := by rw [List.take_add_one, h]; rfl
  rw [e, entF_snoc]
theorem snoc_inj {α : Type} {as bs : List α} {a b : α} (h : as ++ [a] = bs ++ [b]) : as = bs ∧ a = b := by
  have := List.append_inj' h rfl
  exact ⟨this.1, by injection this.2⟩
end MF
set_option Elab.async false
set_option linter.all false
set_option maxRecDepth 100000
set_option maxHeartbeats 1000000
namespace MF
open PySem PySem.Spec PyProof.Rows L2 StX
section
variable {X : Cx} {CX : CXT} {k : Nat} {C : Addr} {sp : Sp} {E : XK} {fe e : Expr} {es : List Expr} {tf : TE} {t : TA} {pos : Pos}
def tCallO1 (C : Addr) (sp : Sp) (E : XK) (tf : TE) (t : TA) : TE := fun σ H Q => tf σ H fun y H1 => ∃ a, y = V.ref a ∧ t σ H1 fun vs H2 => (∃ dx fs, H2 a = some (.ins C dx fs)) ∧ sp (V.ref a :: vs) H2 Q E
theorem pe_callO1 {g : Addr} (hf : PE X fe tf) (c : CallO X.K C g) (F : FnR X.prog X.w X.K X.mg X.base CX k g sp) (hr : Room k X.A) (hx : Passes CX X E) (ha : PA X (e :: es) t)
    (ht : eval (.Call fe (e :: es) [] pos) X.env = (do callWith pos (← eval fe X.env) [] (backTo pos (starEach (e :: es) X.env)) (backToKw pos (keywordEach [] X.env))) := by rfl)
    (he : starEach (e :: es) X.env = (false, eval e X.env) :: starEach es X.env := by rfl) (hpl : (backTo pos (starEach es X.env)).any (·.1) = false := by rfl) : PE X (.Call fe (e :: es) [] pos) (tCallO1 C sp E tf t) := by
  refine ⟨fun pins s σ H Q I h => ?_⟩
  refine Call_ (thn (hf.run pins s σ H _ I h) fun u s1 ⟨y, H1, I1, ry, a, ey, q⟩ => ?_) ht
  subst ey
  obtain rfl : u = Value.ref a := ry
  refine callO_with (thn (ha.run pos pins s1 σ H1 _ I1 q) fun us s2 ⟨vs, H2, I2, r, ⟨dx, fs, hi⟩, q2⟩ => ?_) he hpl
  have hi' : InsC X H2 a C := .inr ⟨dx, fs, hi⟩
  obtain ⟨ox, od, J, hd⟩ := insC_at I2 hi'
  exact ⟨⟨C, ox, od, J, hd⟩, run_callO c F hr hx I2 hi' r q2⟩
end
end MF
set_option Elab.async false
set_option linter.all false
set_option maxRecDepth 100000
set_option maxHeartbeats 2000000
set_option pp.maxSteps 600
namespace MF
open PySem PySem.Spec PyProof.Rows L2 StX
def top (i : Nat) : Stmt := PySem.Challenge.pw_mailforwards_k43_operations_at_once.main.body.getD i (.Pass ⟨0, 0, 0, 0⟩)
abbrev s_is_integer : Stmt := top 22
abbrev s_is_address : Stmt := top 23
abbrev s_is_order : Stmt := top 24
abbrev s_do_overlap : Stmt := top 25
abbrev s_BookX_initX : Stmt := inClass (top 26) 1
abbrev s_Book_orders : Stmt := inClass (top 26) 3
abbrev s_BookX_addX : Stmt := inClass (top 26) 10
abbrev s_Book_check_order : Stmt := inClass (top 26) 12
abbrev s_Book_order_for : Stmt := inClass (top 26) 14
abbrev s_book_of : Stmt := top 27
abbrev s_is_operation : Stmt := top 32
abbrev s_sent_on : Stmt := top 33
abbrev s_LivePostX_initX : Stmt := inClass (top 34) 0
abbrev s_LivePostX_enterX : Stmt := inClass (top 34) 1
abbrev s_LivePostX_exitX : Stmt := inClass (top 34) 2
abbrev s_LivePost_replay : Stmt := inClass (top 34) 3
abbrev s_LivePost_today : Stmt := inClass (top 34) 4
abbrev s_LivePost_present_book : Stmt := inClass (top 34) 5
abbrev s_LivePost_resting : Stmt := inClass (top 34) 6
abbrev s_LivePost_under_way : Stmt := inClass (top 34) 7
abbrev s_LivePostX_lenX : Stmt := inClass (top 34) 9
abbrev s_LivePostX_callX : Stmt := inClass (top 34) 10
abbrev s_LivePost_enter : Stmt := inClass (top 34) 11
abbrev s_LivePost_post : Stmt := inClass (top 34) 12
abbrev s_LivePost_pass_days : Stmt := inClass (top 34) 13
abbrev s_LivePost_give : Stmt := inClass (top 34) 14
abbrev s_LivePost_stop : Stmt := inClass (top 34) 15
abbrev s_LivePost_undo : Stmt := inClass (top 34) 16
abbrev s_LivePost_redo : Stmt := inClass (top 34) 17
abbrev s_LivePost_execute : Stmt := inClass (top 34) 18
abbrev s_LivePost_apply : Stmt := inClass (top 34) 19
abbrev s_LivePost_resting_after : Stmt := inClass (top 34) 20
abbrev s_InvalidOperationX_initX : Stmt := inClass (top 11) 0
abbrev s_InvalidOrderX_initX : Stmt := inClass (top 3) 0
abbrev s_UnknownOrderX_initX : Stmt := inClass (top 7) 0
abbrev s_NotHoldingX_initX : Stmt := inClass (top 9) 0
abbrev s_UnknownLetterX_initX : Stmt := inClass (top 10) 0
abbrev s__law_dice : Stmt := top 36
abbrev s__law_next : Stmt := top 37
abbrev s__law_like : Stmt := top 38
abbrev s__law_pick : Stmt := top 39
abbrev s__law_told : Stmt := top 40
abbrev s__law_fits : Stmt := top 41
abbrev s__law_order : Stmt := top 42
abbrev s__law_orders : Stmt := top 43
abbrev s__law_made : Stmt := top 44
abbrev s__law_now : Stmt := top 45
abbrev s__law_sent : Stmt := top 46
abbrev s__law_after : Stmt := top 47
abbrev s__law_deed : Stmt := top 48
abbrev s__law_is_error : Stmt := top 49
abbrev s__law_at_once : Stmt := top 51
abbrev s__law_by_apply : Stmt := top 52
abbrev s__law_by_trial : Stmt := top 53
abbrev s__law_stands : Stmt := top 50
abbrev s_law : Stmt := top 54
theorem sc_is_integer : FnScope ["value", "low", "high"] ["value", "low", "high"] (defScope s_is_integer) := ⟨rfl, rfl, rfl, by decide +kernel, rfl, by decide +kernel, by decide +kernel⟩
theorem sc_is_address : FnScope ["value", "letter"] ["value"] (defScope s_is_address) := ⟨rfl, rfl, rfl, by decide +kernel, rfl, by decide +kernel, by decide +kernel⟩
theorem sc_is_order : FnScope ["value", "source", "target", "first", "last", "way"] ["value"] (defScope s_is_order) := ⟨rfl, rfl, rfl, by decide +kernel, rfl, by decide +kernel, by decide +kernel⟩
theorem sc_do_overlap : FnScope ["one", "other"] ["one", "other"] (defScope s_do_overlap) := ⟨rfl, rfl, rfl, by decide +kernel, rfl, by decide +kernel, by decide +kernel⟩
theorem sc_BookX_initX : FnScope ["self", "orders", "index", "order", "earlier"] ["self", "orders"] (defScope s_BookX_initX) := ⟨rfl, rfl, rfl, by decide +kernel, rfl, by decide +kernel, by decide +kernel⟩
theorem sc_Book_orders : FnScope ["self"] ["self"] (defScope s_Book_orders) := ⟨rfl, rfl, rfl, by decide +kernel, rfl, by decide +kernel, by decide +kernel⟩
theorem sc_BookX_addX : FnScope ["self", "other"] ["self", "other"] (defScope s_BookX_addX) := ⟨rfl, rfl, rfl, by decide +kernel, rfl, by decide +kernel, by decide +kernel⟩
theorem sc_Book_check_order : FnScope ["self", "index"] ["self", "index"] (defScope s_Book_check_order) := ⟨rfl, rfl, rfl, by decide +kernel, rfl, by decide +kernel, by decide +kernel⟩
theorem sc_Book_order_for : FnScope ["self", "address", "day", "index", "source", "target", "first", "last", "way"] ["self", "address", "day"] (defScope s_Book_order_for) := ⟨rfl, rfl, rfl, by decide +kernel, rfl, by decide +kernel, by decide +kernel⟩
theorem sc_book_of : FnScope ["orders"] ["orders"] (defScope s_book_of) := ⟨rfl, rfl, rfl, by decide +kernel, rfl, by decide +kernel, by decide +kernel⟩
theorem sc_is_operation : FnScope ["value", "word", "arguments"] ["value"] (defScope s_is_operation) := ⟨rfl, rfl, rfl, by decide +kernel, rfl, by decide +kernel, by decide +kernel⟩
theorem sc_sent_on : FnScope ["book", "address", "day", "today", "index"] ["book", "address", "day", "today"] (defScope s_sent_on) := ⟨rfl, rfl, rfl, by decide +kernel, rfl, by decide +kernel, by decide +kernel⟩
theorem sc_LivePostX_initX : FnScope ["self", "book"] ["self", "book"] (defScope s_LivePostX_initX) := ⟨rfl, rfl, rfl, by decide +kernel, rfl, by decide +kernel, by decide +kernel⟩
theorem sc_LivePostX_enterX : FnScope ["self"] ["self"] (defScope s_LivePostX_enterX) := ⟨rfl, rfl, rfl, by decide +kernel, rfl, by decide +kernel, by decide +kernel⟩
theorem sc_LivePostX_exitX : FnScope ["self", "kind", "value", "trace"] ["self", "kind", "value", "trace"] (defScope s_LivePostX_exitX) := ⟨rfl, rfl, rfl, by decide +kernel, rfl, by decide +kernel, by decide +kernel⟩
theorem sc_LivePost_replay : FnScope ["cls", "book", "operations", "live"] ["cls", "book", "operations"] (defScope s_LivePost_replay) := ⟨rfl, rfl, rfl, by decide +kernel, rfl, by decide +kernel, by decide +kernel⟩
theorem sc_LivePost_today : FnScope ["self"] ["self"] (defScope s_LivePost_today) := ⟨rfl, rfl, rfl, by decide +kernel, rfl, by decide +kernel, by decide +kernel⟩
theorem sc_LivePost_present_book : FnScope ["self"] ["self"] (defScope s_LivePost_present_book) := ⟨rfl, rfl, rfl, by decide +kernel, rfl, by decide +kernel, by decide +kernel⟩
theorem sc_LivePost_resting : FnScope ["self", "number", "row"] ["self"] (defScope s_LivePost_resting) := ⟨rfl, rfl, rfl, by decide +kernel, rfl, by decide +kernel, by decide +kernel⟩
theorem sc_LivePost_under_way : FnScope ["self", "number", "row"] ["self"] (defScope s_LivePost_under_way) := ⟨rfl, rfl, rfl, by decide +kernel, rfl, by decide +kernel, by decide +kernel⟩
theorem sc_LivePostX_lenX : FnScope ["self"] ["self"] (defScope s_LivePostX_lenX) := ⟨rfl, rfl, rfl, by decide +kernel, rfl, by decide +kernel, by decide +kernel⟩
theorem sc_LivePostX_callX : FnScope ["self", "letter"] ["self", "letter"] (defScope s_LivePostX_callX) := ⟨rfl, rfl, rfl, by decide +kernel, rfl, by decide +kernel, by decide +kernel⟩
theorem sc_LivePost_enter : FnScope ["self", "operation", "after"] ["self", "operation", "after"] (defScope s_LivePost_enter) := ⟨rfl, rfl, rfl, by decide +kernel, rfl, by decide +kernel, by decide +kernel⟩
theorem sc_LivePost_post : FnScope ["self", "address", "day", "book", "letters"] ["self", "address"] (defScope s_LivePost_post) := ⟨rfl, rfl, rfl, by decide +kernel, rfl, by decide +kernel, by decide +kernel⟩
theorem sc_LivePost_pass_days : FnScope ["self", "count", "day", "book", "letters", "later", "address", "arrival", "is_resting", "row", "found", "number"] ["self", "count"] (defScope s_LivePost_pass_days) := ⟨rfl, rfl, rfl, by decide +kernel, rfl, by decide +kernel, by decide +kernel⟩
theorem sc_LivePost_give : FnScope ["self", "order", "day", "book", "letters", "larger"] ["self", "order"] (defScope s_LivePost_give) := ⟨rfl, rfl, rfl, by decide +kernel, rfl, by decide +kernel, by decide +kernel⟩
theorem sc_LivePost_stop : FnScope ["self", "index", "day", "book", "letters", "source", "target", "first", "last", "way", "orders"] ["self", "index"] (defScope s_LivePost_stop) := ⟨rfl, rfl, rfl, by decide +kernel, rfl, by decide +kernel, by decide +kernel⟩
theorem sc_LivePost_undo : FnScope ["self", "earlier", "entry"] ["self"] (defScope s_LivePost_undo) := ⟨rfl, rfl, rfl, by decide +kernel, rfl, by decide +kernel, by decide +kernel⟩
theorem sc_LivePost_redo : FnScope ["self", "earlier", "entry"] ["self"] (defScope s_LivePost_redo) := ⟨rfl, rfl, rfl, by decide +kernel, rfl, by decide +kernel, by decide +kernel⟩
theorem sc_LivePost_execute : FnScope ["self", "operation", "word", "argument"] ["self", "operation"] (defScope s_LivePost_execute) := ⟨rfl, rfl, rfl, by decide +kernel, rfl, by decide +kernel, by decide +kernel⟩
theorem sc_LivePost_apply : FnScope ["self", "operations", "index", "operation", "scene", "done", "undone", "results", "finished"] ["self", "operations"] (defScope s_LivePost_apply) := ⟨rfl, rfl, rfl, by decide +kernel, rfl, by decide +kernel, by decide +kernel⟩
theorem sc_LivePost_resting_after : FnScope ["self", "operations", "live", "found"] ["self", "operations"] (defScope s_LivePost_resting_after) := ⟨rfl, rfl, rfl, by decide +kernel, rfl, by decide +kernel, by decide +kernel⟩
theorem sc_InvalidOperationX_initX : FnScope ["self", "index"] ["self", "index"] (defScope s_InvalidOperationX_initX) := ⟨rfl, rfl, rfl, by decide +kernel, rfl, by decide +kernel, by decide +kernel⟩
theorem sc_InvalidOrderX_initX : FnScope ["self", "index"] ["self", "index"] (defScope s_InvalidOrderX_initX) := ⟨rfl, rfl, rfl, by decide +kernel, rfl, by decide +kernel, by decide +kernel⟩
theorem sc_UnknownOrderX_initX : FnScope ["self", "index"] ["self", "index"] (defScope s_UnknownOrderX_initX) := ⟨rfl, rfl, rfl, by decide +kernel, rfl, by decide +kernel, by decide +kernel⟩
theorem sc_NotHoldingX_initX : FnScope ["self", "index"] ["self", "index"] (defScope s_NotHoldingX_initX) := ⟨rfl, rfl, rfl, by decide +kernel, rfl, by decide +kernel, by decide +kernel⟩
theorem sc_UnknownLetterX_initX : FnScope ["self", "letter"] ["self", "letter"] (defScope s_UnknownLetterX_initX) := ⟨rfl, rfl, rfl, by decide +kernel, rfl, by decide +kernel, by decide +kernel⟩
theorem sc__law_dice : FnScope ["_law_script", "_law_mixed", "_law_cell"] ["_law_script"] (defScope s__law_dice) := ⟨rfl, rfl, rfl, by decide +kernel, rfl, by decide +kernel, by decide +kernel⟩
theorem sc__law_next : FnScope ["_law_dice_here", "_law_many", "_law_found", "_law_cell"] ["_law_dice_here", "_law_many"] (defScope s__law_next) := ⟨rfl, rfl, rfl, by decide +kernel, rfl, by decide +kernel, by decide +kernel⟩
theorem sc__law_like : FnScope ["_law_found", "_law_due", "_law_k"] ["_law_found", "_law_due"] (defScope s__law_like) := ⟨rfl, rfl, rfl, by decide +kernel, rfl, by decide +kernel, by decide +kernel⟩
theorem sc__law_pick : FnScope ["_law_d", "_law_some"] ["_law_d", "_law_some"] (defScope s__law_pick) := ⟨rfl, rfl, rfl, by decide +kernel, rfl, by decide +kernel, by decide +kernel⟩
theorem sc__law_told : FnScope ["_law_work", "e", "_law_some", "_law_terms", "_law_k"] ["_law_work"] (defScope s__law_told) := ⟨rfl, rfl, rfl, by decide +kernel, rfl, by decide +kernel, by decide +kernel⟩
theorem sc__law_fits : FnScope ["_law_orders_here", "_law_order_here", "_law_one"] ["_law_orders_here", "_law_order_here"] (defScope s__law_fits) := ⟨rfl, rfl, rfl, by decide +kernel, rfl, by decide +kernel, by decide +kernel⟩
theorem sc__law_order : FnScope ["_law_d", "_law_most", "_law_names", "_law_source", "_law_first"] ["_law_d", "_law_most"] (defScope s__law_order) := ⟨rfl, rfl, rfl, by decide +kernel, rfl, by decide +kernel, by decide +kernel⟩
theorem sc__law_orders : FnScope ["_law_d", "_law_many", "_law_most", "_law_found", "_law_k", "_law_order_here"] ["_law_d", "_law_many", "_law_most"] (defScope s__law_orders) := ⟨rfl, rfl, rfl, by decide +kernel, rfl, by decide +kernel, by decide +kernel⟩
theorem sc__law_made : FnScope ["_law_orders_here", "_law_book", "_law_order_here"] ["_law_orders_here"] (defScope s__law_made) := ⟨rfl, rfl, rfl, by decide +kernel, rfl, by decide +kernel, by decide +kernel⟩
theorem sc__law_now : FnScope ["_law_orders_here", "_law_address", "_law_day", "_law_order_here"] ["_law_orders_here", "_law_address", "_law_day"] (defScope s__law_now) := ⟨rfl, rfl, rfl, by decide +kernel, rfl, by decide +kernel, by decide +kernel⟩
theorem sc__law_sent : FnScope ["_law_orders_here", "_law_address", "_law_day", "_law_today", "_law_order_here"] ["_law_orders_here", "_law_address", "_law_day", "_law_today"] (defScope s__law_sent) := ⟨rfl, rfl, rfl, by decide +kernel, rfl, by decide +kernel, by decide +kernel⟩
theorem sc__law_after : FnScope ["_law_scene", "_law_operation", "_law_day", "_law_orders_here", "_law_letters", "_law_word", "_law_one", "_law_later", "_law_new", "_law_source", "_law_target", "_law_first", "_law_last", "_law_way", "_law_row", "_law_k", "_law_arrival"] ["_law_scene", "_law_operation"] (defScope s__law_after) := ⟨rfl, rfl, rfl, by decide +kernel, rfl, by decide +kernel, by decide +kernel⟩
theorem sc__law_deed : FnScope ["_law_d", "_law_scene", "_law_odd", "_law_pick_here", "_law_source", "_law_target", "_law_first", "_law_last", "_law_way", "_law_good", "_law_size"] ["_law_d", "_law_scene", "_law_odd"] (defScope s__law_deed) := ⟨rfl, rfl, rfl, by decide +kernel, rfl, by decide +kernel, by decide +kernel⟩
theorem sc__law_is_error : FnScope ["_law_due"] ["_law_due"] (defScope s__law_is_error) := ⟨rfl, rfl, rfl, by decide +kernel, rfl, by decide +kernel, by decide +kernel⟩
theorem sc__law_at_once : FnScope ["_law_scene", "_law_deeds", "_law_results", "_law_start", "_law_deed_here", "_law_due"] ["_law_scene", "_law_deeds"] (defScope s__law_at_once) := ⟨rfl, rfl, rfl, by decide +kernel, rfl, by decide +kernel, by decide +kernel⟩
theorem sc__law_by_apply : FnScope ["_law_live", "_law_deeds", "_law_work", "_law_one", "_law_three", "_law_two"] ["_law_live", "_law_deeds"] (defScope s__law_by_apply) := ⟨rfl, rfl, rfl, by decide +kernel, rfl, by decide +kernel, by decide +kernel⟩
theorem sc__law_by_trial : FnScope ["_law_live", "_law_deeds", "_law_work", "_law_one", "_law_three", "_law_two"] ["_law_live", "_law_deeds"] (defScope s__law_by_trial) := ⟨rfl, rfl, rfl, by decide +kernel, rfl, by decide +kernel, by decide +kernel⟩
theorem sc__law_stands : FnScope ["_law_live", "_law_scene", "_law_day", "_law_orders_here", "_law_letters", "_law_rows", "_law_resting", "_law_under_way", "_law_k", "_law_row"] ["_law_live", "_law_scene"] (defScope s__law_stands) := ⟨rfl, rfl, rfl, by decide +kernel, rfl, by decide +kernel, by decide +kernel⟩
theorem sc_law : FnScope ["_law_script", "_law_d", "_law_turn", "_law_live", "_law_scene", "_law_k", "_law_deeds", "_law_odd", "_law_due", "_law_later", "_law_failed", "_law_rows", "_law_numbers", "_law_trial", "_law_bad", "_law_orders_here", "_law_j"] ["_law_script"] (defScope s_law) := ⟨rfl, rfl, rfl, by decide +kernel, rfl, by decide +kernel, by decide +kernel⟩
structure Top (K : PySem.W.Frag) (mg : Str → Option Value) (C_Book : Addr) (C_LivePost : Addr) (C_MailError : Addr) (C_InvalidOperation : Addr) (C_InvalidOrder : Addr) (C_UnknownOrder : Addr) (C_NotHolding : Addr) (C_DecodeError : Addr) (C_NotationError : Addr) (C_UnknownLetter : Addr) (C_InvalidAddress : Addr) (C_InvalidDay : Addr) (C_InvalidNumber : Addr) (C_Contradiction : Addr) (C_InvalidCount : Addr) : Prop where
  d_is_integer : GDef K mg "is_integer" s_is_integer ["value", "low", "high"]
  d_is_address : GDef K mg "is_address" s_is_address ["value"]
  d_is_order : GDef K mg "is_order" s_is_order ["value"]
  d_do_overlap : GDef K mg "do_overlap" s_do_overlap ["one", "other"]
  d_BookX_initX : SDef K mg C_Book "Book" "Book.__init__" s_BookX_initX "self" "orders"
  d_Book_orders : PDef K C_Book "orders" "Book.orders" s_Book_orders ["self"]
  d_BookX_addX : MDef K C_Book "__add__" "Book.__add__" s_BookX_addX ["self", "other"]
  d_Book_check_order : MDef K C_Book "check_order" "Book.check_order" s_Book_check_order ["self", "index"]
  d_Book_order_for : MDef K C_Book "order_for" "Book.order_for" s_Book_order_for ["self", "address", "day"]
  d_book_of : GDef K mg "book_of" s_book_of ["orders"]
  d_is_operation : GDef K mg "is_operation" s_is_operation ["value"]
  d_sent_on : GDef K mg "sent_on" s_sent_on ["book", "address", "day", "today"]
  d_LivePostX_initX : IDef K mg C_LivePost "LivePost" "LivePost.__init__" s_LivePostX_initX ["self", "book"]
  d_LivePostX_enterX : MDef K C_LivePost "__enter__" "LivePost.__enter__" s_LivePostX_enterX ["self"]
  d_LivePostX_exitX : MDef K C_LivePost "__exit__" "LivePost.__exit__" s_LivePostX_exitX ["self", "kind", "value", "trace"]
  d_LivePost_replay : CPDef K C_LivePost "replay" "LivePost.replay" s_LivePost_replay ["cls", "book", "operations"]
  d_LivePost_today : PDef K C_LivePost "today" "LivePost.today" s_LivePost_today ["self"]
  d_LivePost_present_book : PDef K C_LivePost "present_book" "LivePost.present_book" s_LivePost_present_book ["self"]
  d_LivePost_resting : PDef K C_LivePost "resting" "LivePost.resting" s_LivePost_resting ["self"]
  d_LivePost_under_way : PDef K C_LivePost "under_way" "LivePost.under_way" s_LivePost_under_way ["self"]
  d_LivePostX_lenX : MDef K C_LivePost "__len__" "LivePost.__len__" s_LivePostX_lenX ["self"]
  d_LivePostX_callX : MDef K C_LivePost "__call__" "LivePost.__call__" s_LivePostX_callX ["self", "letter"]
  d_LivePost_enter : MDef K C_LivePost "enter" "LivePost.enter" s_LivePost_enter ["self", "operation", "after"]
  d_LivePost_post : MDef K C_LivePost "post" "LivePost.post" s_LivePost_post ["self", "address"]
  d_LivePost_pass_days : MDef K C_LivePost "pass_days" "LivePost.pass_days" s_LivePost_pass_days ["self", "count"]
  d_LivePost_give : MDef K C_LivePost "give" "LivePost.give" s_LivePost_give ["self", "order"]
  d_LivePost_stop : MDef K C_LivePost "stop" "LivePost.stop" s_LivePost_stop ["self", "index"]
  d_LivePost_undo : MDef K C_LivePost "undo" "LivePost.undo" s_LivePost_undo ["self"]
  d_LivePost_redo : MDef K C_LivePost "redo" "LivePost.redo" s_LivePost_redo ["self"]
  d_LivePost_execute : MDef K C_LivePost "execute" "LivePost.execute" s_LivePost_execute ["self", "operation"]
  d_LivePost_apply : SMDef K C_LivePost "apply" "LivePost.apply" s_LivePost_apply "self" "operations"
  d_LivePost_resting_after : SMDef K C_LivePost "resting_after" "LivePost.resting_after" s_LivePost_resting_after "self" "operations"
  d_InvalidOperationX_initX : EDef K mg C_InvalidOperation "InvalidOperation" "InvalidOperation.__init__" s_InvalidOperationX_initX ["self", "index"]
  d_InvalidOrderX_initX : EDef K mg C_InvalidOrder "InvalidOrder" "InvalidOrder.__init__" s_InvalidOrderX_initX ["self", "index"]
  d_UnknownOrderX_initX : EDef K mg C_UnknownOrder "UnknownOrder" "UnknownOrder.__init__" s_UnknownOrderX_initX ["self", "index"]
  d_NotHoldingX_initX : EDef K mg C_NotHolding "NotHolding" "NotHolding.__init__" s_NotHoldingX_initX ["self", "index"]
  d_UnknownLetterX_initX : EDef K mg C_UnknownLetter "UnknownLetter" "UnknownLetter.__init__" s_UnknownLetterX_initX ["self", "letter"]
  d__law_dice : GDef K mg "_law_dice" s__law_dice ["_law_script"]
  d__law_next : GDef K mg "_law_next" s__law_next ["_law_dice_here", "_law_many"]
  d__law_like : GDef K mg "_law_like" s__law_like ["_law_found", "_law_due"]
  d__law_pick : GDef K mg "_law_pick" s__law_pick ["_law_d", "_law_some"]
  d__law_told : GDef K mg "_law_told" s__law_told ["_law_work"]
  d__law_fits : GDef K mg "_law_fits" s__law_fits ["_law_orders_here", "_law_order_here"]
  d__law_order : GDef K mg "_law_order" s__law_order ["_law_d", "_law_most"]
  d__law_orders : GDef K mg "_law_orders" s__law_orders ["_law_d", "_law_many", "_law_most"]
  d__law_made : GDef K mg "_law_made" s__law_made ["_law_orders_here"]
  d__law_now : GDef K mg "_law_now" s__law_now ["_law_orders_here", "_law_address", "_law_day"]
  d__law_sent : GDef K mg "_law_sent" s__law_sent ["_law_orders_here", "_law_address", "_law_day", "_law_today"]
  d__law_after : GDef K mg "_law_after" s__law_after ["_law_scene", "_law_operation"]
  d__law_deed : GDef K mg "_law_deed" s__law_deed ["_law_d", "_law_scene", "_law_odd"]
  d__law_is_error : GDef K mg "_law_is_error" s__law_is_error ["_law_due"]
  d__law_at_once : GDef K mg "_law_at_once" s__law_at_once ["_law_scene", "_law_deeds"]
  d__law_by_apply : GDef K mg "_law_by_apply" s__law_by_apply ["_law_live", "_law_deeds"]
  d__law_by_trial : GDef K mg "_law_by_trial" s__law_by_trial ["_law_live", "_law_deeds"]
  d__law_stands : GDef K mg "_law_stands" s__law_stands ["_law_live", "_law_scene"]
  d_law : GDef K mg "law" s_law ["_law_script"]
  cl_Book : Cls K C_Book
  cl_LivePost : Cls K C_LivePost
  fi_LivePost_XcallX : ∀ f, PySem.W.findIn K (.ref C_LivePost) "__call__" = some (some (.ref f)) → PySem.W.fnIn K f = true
  fi_LivePost_apply : ∀ f, PySem.W.findIn K (.ref C_LivePost) "apply" = some (some (.ref f)) → PySem.W.fnIn K f = true
  n_Book_listed : NoAttr K C_Book "listed"
  n_LivePost_scene : NoAttr K C_LivePost "scene"
  n_LivePost_done : NoAttr K C_LivePost "done"
  n_LivePost_undone : NoAttr K C_LivePost "undone"
  n_LivePost_is_open : NoAttr K C_LivePost "is_open"
  n_LivePost_kept_scene : NoAttr K C_LivePost "kept_scene"
  n_LivePost_kept_done : NoAttr K C_LivePost "kept_done"
  n_LivePost_kept_undone : NoAttr K C_LivePost "kept_undone"
  c_LETTERS : ∃ t, mg "LETTERS" = some (.str "abcdefghijklmnopqrstuvwxyz" t)
  c_MAX_LETTERS : ∃ t, mg "MAX_LETTERS" = some (.int 8 t)
  c_MAX_ORDERS_books : ∃ t, mg "MAX_ORDERS_books" = some (.int 30 t)
  c_MAX_DAY : ∃ t, mg "MAX_DAY" = some (.int 1000000000000000000 t)
  c_MAX_WAY : ∃ t, mg "MAX_WAY" = some (.int 30 t)
  c_MAX_PASSED : ∃ t, mg "MAX_PASSED" = some (.int 400 t)
  g_MailError : mg "MailError" = some (.ref C_MailError)
  g_InvalidOperation : mg "InvalidOperation" = some (.ref C_InvalidOperation)
  g_InvalidOrder : mg "InvalidOrder" = some (.ref C_InvalidOrder)
  g_UnknownOrder : mg "UnknownOrder" = some (.ref C_UnknownOrder)
  g_NotHolding : mg "NotHolding" = some (.ref C_NotHolding)
  g_DecodeError : mg "DecodeError" = some (.ref C_DecodeError)
  g_NotationError : mg "NotationError" = some (.ref C_NotationError)
  g_UnknownLetter : mg "UnknownLetter" = some (.ref C_UnknownLetter)
  g_InvalidAddress : mg "InvalidAddress" = some (.ref C_InvalidAddress)
  g_InvalidDay : mg "InvalidDay" = some (.ref C_InvalidDay)
  g_InvalidNumber : mg "InvalidNumber" = some (.ref C_InvalidNumber)
  g_Contradiction : mg "Contradiction" = some (.ref C_Contradiction)
  g_InvalidCount : mg "InvalidCount" = some (.ref C_InvalidCount)
  base_MailError : BaseC K C_MailError
  x_InvalidAddress : EDef0 K mg C_InvalidAddress "InvalidAddress"
  x_InvalidNumber : EDef0 K mg C_InvalidNumber "InvalidNumber"
  e_InvalidAddress : ErrC K C_InvalidAddress C_MailError
  k_InvalidAddress_InvalidOperation : PySem.W.kitOne K (.ref C_InvalidAddress) (.ref C_InvalidOperation) = some false
  k_InvalidAddress_InvalidOrder : PySem.W.kitOne K (.ref C_InvalidAddress) (.ref C_InvalidOrder) = some false
  k_InvalidAddress_UnknownOrder : PySem.W.kitOne K (.ref C_InvalidAddress) (.ref C_UnknownOrder) = some false
  k_InvalidAddress_NotHolding : PySem.W.kitOne K (.ref C_InvalidAddress) (.ref C_NotHolding) = some false
  k_InvalidAddress_DecodeError : PySem.W.kitOne K (.ref C_InvalidAddress) (.ref C_DecodeError) = some false
  k_InvalidAddress_NotationError : PySem.W.kitOne K (.ref C_InvalidAddress) (.ref C_NotationError) = some false
  k_InvalidAddress_UnknownLetter : PySem.W.kitOne K (.ref C_InvalidAddress) (.ref C_UnknownLetter) = some false
  k_InvalidAddress_InvalidAddress : PySem.W.kitOne K (.ref C_InvalidAddress) (.ref C_InvalidAddress) = some true
  k_InvalidAddress_InvalidDay : PySem.W.kitOne K (.ref C_InvalidAddress) (.ref C_InvalidDay) = some false
  k_InvalidAddress_InvalidNumber : PySem.W.kitOne K (.ref C_InvalidAddress) (.ref C_InvalidNumber) = some false
  k_InvalidAddress_Contradiction : PySem.W.kitOne K (.ref C_InvalidAddress) (.ref C_Contradiction) = some false
  k_InvalidAddress_InvalidCount : PySem.W.kitOne K (.ref C_InvalidAddress) (.ref C_InvalidCount) = some false
  e_InvalidNumber : ErrC K C_InvalidNumber C_MailError
  k_InvalidNumber_InvalidOperation : PySem.W.kitOne K (.ref C_InvalidNumber) (.ref C_InvalidOperation) = some false
  k_InvalidNumber_InvalidOrder : PySem.W.kitOne K (.ref C_InvalidNumber) (.ref C_InvalidOrder) = some false
  k_InvalidNumber_UnknownOrder : PySem.W.kitOne K (.ref C_InvalidNumber) (.ref C_UnknownOrder) = some false
  k_InvalidNumber_NotHolding : PySem.W.kitOne K (.ref C_InvalidNumber) (.ref C_NotHolding) = some false
  k_InvalidNumber_DecodeError : PySem.W.kitOne K (.ref C_InvalidNumber) (.ref C_DecodeError) = some false
  k_InvalidNumber_NotationError : PySem.W.kitOne K (.ref C_InvalidNumber) (.ref C_NotationError) = some false
  k_InvalidNumber_UnknownLetter : PySem.W.kitOne K (.ref C_InvalidNumber) (.ref C_UnknownLetter) = some false
  k_InvalidNumber_InvalidAddress : PySem.W.kitOne K (.ref C_InvalidNumber) (.ref C_InvalidAddress) = some false
  k_InvalidNumber_InvalidDay : PySem.W.kitOne K (.ref C_InvalidNumber) (.ref C_InvalidDay) = some false
  k_InvalidNumber_InvalidNumber : PySem.W.kitOne K (.ref C_InvalidNumber) (.ref C_InvalidNumber) = some true
  k_InvalidNumber_Contradiction : PySem.W.kitOne K (.ref C_InvalidNumber) (.ref C_Contradiction) = some false
  k_InvalidNumber_InvalidCount : PySem.W.kitOne K (.ref C_InvalidNumber) (.ref C_InvalidCount) = some false
  e_InvalidOperation : ErrC K C_InvalidOperation C_MailError
  k_InvalidOperation_InvalidOperation : PySem.W.kitOne K (.ref C_InvalidOperation) (.ref C_InvalidOperation) = some true
  k_InvalidOperation_InvalidOrder : PySem.W.kitOne K (.ref C_InvalidOperation) (.ref C_InvalidOrder) = some false
  k_InvalidOperation_UnknownOrder : PySem.W.kitOne K (.ref C_InvalidOperation) (.ref C_UnknownOrder) = some false
  k_InvalidOperation_NotHolding : PySem.W.kitOne K (.ref C_InvalidOperation) (.ref C_NotHolding) = some false
  k_InvalidOperation_DecodeError : PySem.W.kitOne K (.ref C_InvalidOperation) (.ref C_DecodeError) = some false
  k_InvalidOperation_NotationError : PySem.W.kitOne K (.ref C_InvalidOperation) (.ref C_NotationError) = some false
  k_InvalidOperation_UnknownLetter : PySem.W.kitOne K (.ref C_InvalidOperation) (.ref C_UnknownLetter) = some false
  k_InvalidOperation_InvalidAddress : PySem.W.kitOne K (.ref C_InvalidOperation) (.ref C_InvalidAddress) = some false
  k_InvalidOperation_InvalidDay : PySem.W.kitOne K (.ref C_InvalidOperation) (.ref C_InvalidDay) = some false
  k_InvalidOperation_InvalidNumber : PySem.W.kitOne K (.ref C_InvalidOperation) (.ref C_InvalidNumber) = some false
  k_InvalidOperation_Contradiction : PySem.W.kitOne K (.ref C_InvalidOperation) (.ref C_Contradiction) = some false
  k_InvalidOperation_InvalidCount : PySem.W.kitOne K (.ref C_InvalidOperation) (.ref C_InvalidCount) = some false
  e_InvalidOrder : ErrC K C_InvalidOrder C_MailError
  k_InvalidOrder_InvalidOperation : PySem.W.kitOne K (.ref C_InvalidOrder) (.ref C_InvalidOperation) = some false
  k_InvalidOrder_InvalidOrder : PySem.W.kitOne K (.ref C_InvalidOrder) (.ref C_InvalidOrder) = some true
  k_InvalidOrder_UnknownOrder : PySem.W.kitOne K (.ref C_InvalidOrder) (.ref C_UnknownOrder) = some false
  k_InvalidOrder_NotHolding : PySem.W.kitOne K (.ref C_InvalidOrder) (.ref C_NotHolding) = some false
  k_InvalidOrder_DecodeError : PySem.W.kitOne K (.ref C_InvalidOrder) (.ref C_DecodeError) = some false
  k_InvalidOrder_NotationError : PySem.W.kitOne K (.ref C_InvalidOrder) (.ref C_NotationError) = some false
  k_InvalidOrder_UnknownLetter : PySem.W.kitOne K (.ref C_InvalidOrder) (.ref C_UnknownLetter) = some false
  k_InvalidOrder_InvalidAddress : PySem.W.kitOne K (.ref C_InvalidOrder) (.ref C_InvalidAddress) = some false
  k_InvalidOrder_InvalidDay : PySem.W.kitOne K (.ref C_InvalidOrder) (.ref C_InvalidDay) = some false
  k_InvalidOrder_InvalidNumber : PySem.W.kitOne K (.ref C_InvalidOrder) (.ref C_InvalidNumber) = some false
  k_InvalidOrder_Contradiction : PySem.W.kitOne K (.ref C_InvalidOrder) (.ref C_Contradiction) = some false
  k_InvalidOrder_InvalidCount : PySem.W.kitOne K (.ref C_InvalidOrder) (.ref C_InvalidCount) = some false
  e_UnknownOrder : ErrC K C_UnknownOrder C_MailError
  k_UnknownOrder_InvalidOperation : PySem.W.kitOne K (.ref C_UnknownOrder) (.ref C_InvalidOperation) = some false
  k_UnknownOrder_InvalidOrder : PySem.W.kitOne K (.ref C_UnknownOrder) (.ref C_InvalidOrder) = some false
  k_UnknownOrder_UnknownOrder : PySem.W.kitOne K (.ref C_UnknownOrder) (.ref C_UnknownOrder) = some true
  k_UnknownOrder_NotHolding : PySem.W.kitOne K (.ref C_UnknownOrder) (.ref C_NotHolding) = some false
  k_UnknownOrder_DecodeError : PySem.W.kitOne K (.ref C_UnknownOrder) (.ref C_DecodeError) = some false
  k_UnknownOrder_NotationError : PySem.W.kitOne K (.ref C_UnknownOrder) (.ref C_NotationError) = some false
  k_UnknownOrder_UnknownLetter : PySem.W.kitOne K (.ref C_UnknownOrder) (.ref C_UnknownLetter) = some false
  k_UnknownOrder_InvalidAddress : PySem.W.kitOne K (.ref C_UnknownOrder) (.ref C_InvalidAddress) = some false
  k_UnknownOrder_InvalidDay : PySem.W.kitOne K (.ref C_UnknownOrder) (.ref C_InvalidDay) = some false
  k_UnknownOrder_InvalidNumber : PySem.W.kitOne K (.ref C_UnknownOrder) (.ref C_InvalidNumber) = some false
  k_UnknownOrder_Contradiction : PySem.W.kitOne K (.ref C_UnknownOrder) (.ref C_Contradiction) = some false
  k_UnknownOrder_InvalidCount : PySem.W.kitOne K (.ref C_UnknownOrder) (.ref C_InvalidCount) = some false
  e_NotHolding : ErrC K C_NotHolding C_MailError
  k_NotHolding_InvalidOperation : PySem.W.kitOne K (.ref C_NotHolding) (.ref C_InvalidOperation) = some false
  k_NotHolding_InvalidOrder : PySem.W.kitOne K (.ref C_NotHolding) (.ref C_InvalidOrder) = some false
  k_NotHolding_UnknownOrder : PySem.W.kitOne K (.ref C_NotHolding) (.ref C_UnknownOrder) = some false
  k_NotHolding_NotHolding : PySem.W.kitOne K (.ref C_NotHolding) (.ref C_NotHolding) = some true
  k_NotHolding_DecodeError : PySem.W.kitOne K (.ref C_NotHolding) (.ref C_DecodeError) = some false
  k_NotHolding_NotationError : PySem.W.kitOne K (.ref C_NotHolding) (.ref C_NotationError) = some false
  k_NotHolding_UnknownLetter : PySem.W.kitOne K (.ref C_NotHolding) (.ref C_UnknownLetter) = some false
  k_NotHolding_InvalidAddress : PySem.W.kitOne K (.ref C_NotHolding) (.ref C_InvalidAddress) = some false
  k_NotHolding_InvalidDay : PySem.W.kitOne K (.ref C_NotHolding) (.ref C_InvalidDay) = some false
  k_NotHolding_InvalidNumber : PySem.W.kitOne K (.ref C_NotHolding) (.ref C_InvalidNumber) = some false
  k_NotHolding_Contradiction : PySem.W.kitOne K (.ref C_NotHolding) (.ref C_Contradiction) = some false
  k_NotHolding_InvalidCount : PySem.W.kitOne K (.ref C_NotHolding) (.ref C_InvalidCount) = some false
  e_UnknownLetter : ErrC K C_UnknownLetter C_MailError
  k_UnknownLetter_InvalidOperation : PySem.W.kitOne K (.ref C_UnknownLetter) (.ref C_InvalidOperation) = some false
  k_UnknownLetter_InvalidOrder : PySem.W.kitOne K (.ref C_UnknownLetter) (.ref C_InvalidOrder) = some false
  k_UnknownLetter_UnknownOrder : PySem.W.kitOne K (.ref C_UnknownLetter) (.ref C_UnknownOrder) = some false
  k_UnknownLetter_NotHolding : PySem.W.kitOne K (.ref C_UnknownLetter) (.ref C_NotHolding) = some false
  k_UnknownLetter_DecodeError : PySem.W.kitOne K (.ref C_UnknownLetter) (.ref C_DecodeError) = some false
  k_UnknownLetter_NotationError : PySem.W.kitOne K (.ref C_UnknownLetter) (.ref C_NotationError) = some false
  k_UnknownLetter_UnknownLetter : PySem.W.kitOne K (.ref C_UnknownLetter) (.ref C_UnknownLetter) = some true
  k_UnknownLetter_InvalidAddress : PySem.W.kitOne K (.ref C_UnknownLetter) (.ref C_InvalidAddress) = some false
  k_UnknownLetter_InvalidDay : PySem.W.kitOne K (.ref C_UnknownLetter) (.ref C_InvalidDay) = some false
  k_UnknownLetter_InvalidNumber : PySem.W.kitOne K (.ref C_UnknownLetter) (.ref C_InvalidNumber) = some false
  k_UnknownLetter_Contradiction : PySem.W.kitOne K (.ref C_UnknownLetter) (.ref C_Contradiction) = some false
  k_UnknownLetter_InvalidCount : PySem.W.kitOne K (.ref C_UnknownLetter) (.ref C_InvalidCount) = some false
  na_InvalidOperation : PySem.W.findIn K (.ref C_InvalidOperation) "index" = some none
  na_InvalidOrder : PySem.W.findIn K (.ref C_InvalidOrder) "index" = some none
  na_UnknownOrder : PySem.W.findIn K (.ref C_UnknownOrder) "index" = some none
  na_NotHolding : PySem.W.findIn K (.ref C_NotHolding) "index" = some none
  na_UnknownLetter_letter : PySem.W.findIn K (.ref C_UnknownLetter) "letter" = some none
  b_isinstance : mg "isinstance" = none
  b_int : mg "int" = none
  b_bool : mg "bool" = none
  b_str : mg "str" = none
  b_tuple : mg "tuple" = none
  b_list : mg "list" = none
  b_len : mg "len" = none
  b_all : mg "all" = none
  b_enumerate : mg "enumerate" = none
  b_range : mg "range" = none
  b_min : mg "min" = none
  b_max : mg "max" = none
  b_sorted : mg "sorted" = none
  b_ValueError : mg "ValueError" = none

end MF
set_option Elab.async false
set_option linter.all false
set_option maxRecDepth 100000
set_option maxHeartbeats 2000000
set_option pp.maxSteps 600
namespace MF
open PySem PySem.Spec PyProof.Rows L2 StX
section
variable {P : Program} {w : World} {K : PySem.W.Frag} {mg : Str → Option Value} {base : Heap} {C_Book C_LivePost C_MailError C_InvalidOperation C_InvalidOrder C_UnknownOrder C_NotHolding C_DecodeError C_NotationError C_UnknownLetter C_InvalidAddress C_InvalidDay C_InvalidNumber C_Contradiction C_InvalidCount : Addr}
theorem ok_is_integer (T : Top K mg C_Book C_LivePost C_MailError C_InvalidOperation C_InvalidOrder C_UnknownOrder C_NotHolding C_DecodeError C_NotationError C_UnknownLetter C_InvalidAddress C_InvalidDay C_InvalidNumber C_Contradiction C_InvalidCount) : GFn P w K mg base CX0 1 "is_integer" spIsInteger := by
  refine T.d_is_integer.fn fun f fd F => F.ok sc_is_integer (fun vs H Q E h => ?_) (fun cdv A outer s H vs Q E hr h => ?_)
  · obtain ⟨v, lo, hi, rfl, _⟩ := h
    rfl
  · obtain ⟨v, lo, hi, rfl, hn, k⟩ := h
    refine ⟨_, (pss_one (ps_ret (pe_and (pe_callB call_isi (by rfl) T.b_isinstance (by decide +kernel) (pa_cons (pv 0) (pa_cons (pe_bltn (v := .ty "int") (by rfl) T.b_int (by decide +kernel) rfl) pa_nil))) (pe_and (pe_not (pe_callB call_isi (by rfl) T.b_isinstance (by decide +kernel) (pa_cons (pv 0) (pa_cons (pe_bltn (v := .ty "bool") (by rfl) T.b_bool (by decide +kernel) rfl) pa_nil)))) (pe_one (pe_chain op_le op_le (pv 1) (pv 0) (pv 2))))))), ?_⟩
    cases v with
    | int i =>
      refine ⟨_, rfl, _, _, _, _, true, rfl, .ty "int", ty_flat hn, kt_int_int, true, rfl, iteT ?_⟩
      refine ⟨_, rfl, _, _, _, _, false, rfl, .ty "bool", ty_flat hn, kt_int_bool, false, rfl, true, rfl, iteT ?_⟩
      refine ⟨_, rfl, _, rfl, _, _, rfl, rfl, _, rfl, ?_⟩
      refine ite2 (fun h1 => ?_) (fun h1 => ?_)
      · have h1' : lo ≤ i := of_decide_eq_true h1
        refine ⟨_, rfl, _, _, rfl, rfl, ?_⟩
        simpa [isIntB, h1'] using k
      · have h1' : decide (lo ≤ i) = false := by simpa using h1
        simpa [isIntB, h1'] using k
    | bl b =>
      refine ⟨_, rfl, _, _, _, _, true, rfl, .ty "int", ty_flat hn, kt_bool_int, true, rfl, iteT ?_⟩
      refine ⟨_, rfl, _, _, _, _, true, rfl, .ty "bool", ty_flat hn, kt_bool_bool, true, rfl, false, rfl, iteF ?_⟩
      exact k
    | non =>
      refine ⟨_, rfl, _, _, _, _, false, rfl, .ty "int", ty_flat hn, kt_NoneType_int, false, rfl, iteF ?_⟩
      exact k
    | str x =>
      refine ⟨_, rfl, _, _, _, _, false, rfl, .ty "int", ty_flat hn, kt_str_int, false, rfl, iteF ?_⟩
      exact k
    | byt b => cases hn
    | flt b => cases hn
    | ref a => cases hn
    | ty n => cases hn
theorem ok_do_overlap (T : Top K mg C_Book C_LivePost C_MailError C_InvalidOperation C_InvalidOrder C_UnknownOrder C_NotHolding C_DecodeError C_NotationError C_UnknownLetter C_InvalidAddress C_InvalidDay C_InvalidNumber C_Contradiction C_InvalidCount) : GFn P w K mg base CX0 1 "do_overlap" (spOverlap K) := by
  refine T.d_do_overlap.fn fun f fd F => F.ok sc_do_overlap (fun vs H Q E h => ?_) (fun cdv A outer s H vs Q E hr h => ?_)
  · obtain ⟨a, b, o, p, rfl, _⟩ := h
    rfl
  · obtain ⟨a, b, o, p, rfl, ha, hb, k⟩ := h
    refine ⟨_, (pss_one (ps_ret (pe_and (pe_cmpR op_eq (pe_ix ix_tup (pv 0) pe_int (fun _ _ => rfl)) (pe_ix ix_tup (pv 1) pe_int (fun _ _ => rfl)) (nomark _)) (pe_and (pe_cmpR op_le (pe_ix ix_tup (pv 0) pe_int (fun _ _ => rfl)) (pe_ix ix_tup (pv 1) pe_int (fun _ _ => rfl)) (nomark _)) (pe_one (pe_cmpR op_le (pe_ix ix_tup (pv 1) pe_int (fun _ _ => rfl)) (pe_ix ix_tup (pv 0) pe_int (fun _ _ => rfl)) (nomark _))))))), ?_⟩
    refine ⟨_, rfl, a, _, _, _, rfl, rfl, ha, rfl, _, rfl, b, _, _, _, rfl, rfl, hb, rfl, rfl, _, rfl, ?_⟩
    refine ite2 (fun h1 => ?_) (fun h1 => ?_)
    · have h1' : o.src = p.src := V.str.inj (of_decide_eq_true h1)
      refine ⟨_, rfl, a, _, _, _, rfl, rfl, ha, rfl, _, rfl, b, _, _, _, rfl, rfl, hb, rfl, _, _, rfl, rfl, _, rfl, ?_⟩
      refine ite2 (fun h2 => ?_) (fun h2 => ?_)
      · have h2' : o.first ≤ p.last := of_decide_eq_true h2
        refine ⟨_, rfl, b, _, _, _, rfl, rfl, hb, rfl, _, rfl, a, _, _, _, rfl, rfl, ha, rfl, _, _, rfl, rfl, ?_⟩
        simpa [overB, h1', h2'] using k
      · have h2' : ¬ o.first ≤ p.last := by simpa using h2
        simpa [overB, h1', h2'] using k
    · have h1' : ¬ o.src = p.src := fun q => h1 (decide_eq_true (congrArg V.str q))
      simpa [overB, h1'] using k
end

end MF
set_option Elab.async false
set_option linter.all false
set_option maxRecDepth 100000
set_option maxHeartbeats 2000000
set_option pp.maxSteps 600
namespace MF
open PySem PySem.Spec PyProof.Rows L2 StX
section
variable {P : Program} {w : World} {K : PySem.W.Frag} {mg : Str → Option Value} {base : Heap} {C_Book C_LivePost C_MailError C_InvalidOperation C_InvalidOrder C_UnknownOrder C_NotHolding C_DecodeError C_NotationError C_UnknownLetter C_InvalidAddress C_InvalidDay C_InvalidNumber C_Contradiction C_InvalidCount : Addr}
theorem ok_is_address (T : Top K mg C_Book C_LivePost C_MailError C_InvalidOperation C_InvalidOrder C_UnknownOrder C_NotHolding C_DecodeError C_NotationError C_UnknownLetter C_InvalidAddress C_InvalidDay C_InvalidNumber C_Contradiction C_InvalidCount) : GFn P w K mg base CX0 1 "is_address" spIsAddress := by
  refine T.d_is_address.fn fun f fd F => F.ok sc_is_address (fun vs H Q E h => ?_) (fun cdv A outer s H vs Q E hr h => ?_)
  · obtain ⟨v, rfl, _⟩ := h
    rfl
  · obtain ⟨v, rfl, hn, hs, k⟩ := h
    refine ⟨_, (pss_cons (ps_if (PW.pt (pw_or (pt_not (pt_val (pe_callB call_isi (by rfl) T.b_isinstance (by decide +kernel) (pa_cons (pv 0) (pa_cons (pe_bltn (v := .ty "str") (by rfl) T.b_str (by decide +kernel) rfl) pa_nil))))) (pw_or1 (pt_not (pt_chain op_le op_le pe_int (pe_callB call_len_str (by rfl) T.b_len (by decide +kernel) (pa_cons (pv 0) pa_nil)) (pe_gint T.c_MAX_LETTERS))))))
  (pss_one (ps_ret pe_bl))
  pss_nil)
  (pss_one (ps_ret (pe_callB (cr_all rfl) (by rfl) T.b_all (by decide +kernel) (pa_cons (pe_lc (own := [("letter", 1)]) (g := (gName 1)) (by rfl) sc_is_address.nd (pi_str (pv 0)) (blkOk_by (own := [("letter", 1)]) (N := ["value", "letter"]) (sc := defScope s_is_address) (by decide +kernel)) (fun _ _ _ _ _ => (pg_name (i := 1) sc_is_address.nd rfl (Or.inl rfl))) (fun _ _ _ _ _ => pts_nil) (fun _ _ _ _ _ => (pe_cmpR op_in_sign (pv 1) (pe_gstr T.c_LETTERS) rfl))) pa_nil))))), ?_⟩
    cases v with
    | str z =>
      refine ⟨_, rfl, _, _, _, _, true, rfl, .ty "str", ty_flat hn, kt_str_str, true, rfl, iteF ?_⟩
      refine ⟨_, rfl, z, rfl, hs, _, _, rfl, rfl, _, rfl, ?_⟩
      have h8 : ∀ b, isAddrB (.str z) = b → Q (.bl b) H := fun b e => by rw [← e]; exact k H (Same.refl H)
      refine ite2 (fun h1 => ?_) (fun h1 => ?_)
      · have h1' : 1 ≤ z.length := by have := of_decide_eq_true h1; omega
        refine ⟨_, _, rfl, rfl, _, rfl, ?_⟩
        by_cases h2 : z.length ≤ 8
        · have h2' : decide (((z.length : Nat) : Int) ≤ 8) = true := decide_eq_true (by omega)
          rw [h2']
          refine iteF ?_
          refine ⟨_, rfl, z, rfl, fun D hD => lc_it walk_str (fun i H' => Same H H' ∧ H' D = some (.lst ((z.cps.toList.take i).map fun c => V.bl (decide (c ∈ letters.cps.toList))))) ⟨Same.new hD, upd_same⟩ (fun _ _ _ _ => trivial) ?_ ?_⟩
          · rintro i x H1 H2 hi ⟨s1, l1⟩ ⟨rfl, c, hc, rfl⟩
            have hlt : i < z.cps.size := hi
            have hlen : z.cps.size = z.length := rfl
            refine ⟨rfl, yesT ?_⟩
            refine iteT ?_
            refine ⟨_, rfl, c, _, rfl, rfl, _, l1, ?_, ?_, ?_⟩
            · rw [List.length_map]
              exact Nat.lt_of_le_of_lt (List.length_take_le _ _) (Nat.lt_of_lt_of_le (Nat.lt_of_lt_of_le hlt (hlen ▸ h2)) (by decide))
            · intro b o e
              have nb : b ≠ D := ne_of_none e hD
              rw [upd_ne nb]
              exact s1 b o e
            · rw [upd_same]
              have e1 : z.cps.toList[i]? = some c := by simpa using hc
              rw [List.take_add_one, e1]
              simp [letters]
          · rintro H1 ⟨s1, l1⟩
            have e1 : z.cps.toList.take z.cps.size = z.cps.toList := List.take_of_length_le (by simp)
            rw [e1] at l1
            have e2 : (z.cps.toList.map fun c => V.bl (decide (c ∈ letters.cps.toList))) = (z.cps.toList.map fun c => decide (c ∈ letters.cps.toList)).map V.bl := by rw [List.map_map]; rfl
            rw [e2] at l1
            refine ⟨D, _, rfl, SqL.of l1, ?_⟩
            have e3 : ((z.cps.toList.map fun c => decide (c ∈ letters.cps.toList)).all id) = isAddrB (.str z) := by
              show _ = (decide (1 ≤ z.length) && decide (z.length ≤ 8) && z.cps.toList.all fun c => decide (c ∈ letters.cps.toList))
              rw [decide_eq_true h1', decide_eq_true h2, List.all_map]
              rfl
            rw [e3]
            exact k H1 s1
        · have h2' : decide (((z.length : Nat) : Int) ≤ 8) = false := decide_eq_false (by omega)
          rw [h2']
          exact iteT (h8 _ (by simp [isAddrB, h2]))
      · have h1' : ¬ 1 ≤ z.length := fun q => h1 (decide_eq_true (by omega))
        exact ⟨false, rfl, iteT (h8 _ (by simp [isAddrB, h1']))⟩
    | int i =>
      refine ⟨_, rfl, _, _, _, _, false, rfl, .ty "str", ty_flat hn, kt_int_str, false, rfl, iteT ?_⟩
      exact iteT (k H (Same.refl H))
    | bl b =>
      refine ⟨_, rfl, _, _, _, _, false, rfl, .ty "str", ty_flat hn, kt_bool_str, false, rfl, iteT ?_⟩
      exact iteT (k H (Same.refl H))
    | non =>
      refine ⟨_, rfl, _, _, _, _, false, rfl, .ty "str", ty_flat hn, kt_NoneType_str, false, rfl, iteT ?_⟩
      exact iteT (k H (Same.refl H))
    | byt b => cases hn
    | flt b => cases hn
    | ref a => cases hn
    | ty n => cases hn
end

end MF
set_option Elab.async false
set_option linter.all false
set_option maxRecDepth 100000
set_option maxHeartbeats 2000000
set_option pp.maxSteps 600
namespace MF
open PySem PySem.Spec PyProof.Rows L2 StX
section
variable {P : Program} {w : World} {K : PySem.W.Frag} {mg : Str → Option Value} {base : Heap} {C_Book C_LivePost C_MailError C_InvalidOperation C_InvalidOrder C_UnknownOrder C_NotHolding C_DecodeError C_NotationError C_UnknownLetter C_InvalidAddress C_InvalidDay C_InvalidNumber C_Contradiction C_InvalidCount : Addr}
theorem ok_is_order (T : Top K mg C_Book C_LivePost C_MailError C_InvalidOperation C_InvalidOrder C_UnknownOrder C_NotHolding C_DecodeError C_NotationError C_UnknownLetter C_InvalidAddress C_InvalidDay C_InvalidNumber C_Contradiction C_InvalidCount) : GFn P w K mg base CX0 2 "is_order" (spIsOrder K) := by
  have G_is_address : GFn P w K mg base CX0 1 "is_address" spIsAddress := ok_is_address T
  have G_is_integer : GFn P w K mg base CX0 1 "is_integer" spIsInteger := ok_is_integer T
  refine T.d_is_order.fn fun f fd F => F.ok sc_is_order (fun vs H Q E h => ?_) (fun cdv A outer s H vs Q E hr h => ?_)
  · obtain ⟨v, b, rfl, _⟩ := h
    rfl
  · obtain ⟨v, b, rfl, hv, k⟩ := h
    refine ⟨_, (pss_one (ps_match rfl sc_is_order.nd (pv 0) (Caps.cons (i := 1) rfl (Or.inl rfl) (Or.inl rfl) (Caps.cons (i := 2) rfl (Or.inl rfl) (Or.inl rfl) (Caps.cons (i := 3) rfl (Or.inl rfl) (Or.inl rfl) (Caps.cons (i := 4) rfl (Or.inl rfl) (Or.inl rfl) (Caps.cons (i := 5) rfl (Or.inl rfl) (Or.inl rfl) Caps.nil))))) (pt_val (pe_callB call_isi (by rfl) T.b_isinstance (by decide +kernel) (pa_cons (pv 0) (pa_cons (pe_bltn (v := .ty "tuple") (by rfl) T.b_tuple (by decide +kernel) rfl) pa_nil))))
  (pss_cons (ps_if (PW.pt (pw_or (pt_not (pt_val (pe_g G_is_address (hr.mono (by decide)) (pa_cons (pv 1) pa_nil)))) (pw_or (pt_not (pt_val (pe_g G_is_address (hr.mono (by decide)) (pa_cons (pv 2) pa_nil)))) (pw_or1 (pt_cmpR op_eq (pv 1) (pv 2) (nomark _))))))
  (pss_one (ps_ret pe_bl))
  pss_nil)
  (pss_cons (ps_if (PW.pt (pw_or (pt_not (pt_val (pe_g G_is_integer (hr.mono (by decide)) (pa_cons (pv 4) (pa_cons pe_int (pa_cons (pe_gint T.c_MAX_DAY) pa_nil)))))) (pw_or1 (pt_not (pt_val (pe_g G_is_integer (hr.mono (by decide)) (pa_cons (pv 3) (pa_cons pe_int (pa_cons (pv 4) pa_nil)))))))))
  (pss_one (ps_ret pe_bl))
  pss_nil)
  (pss_one (ps_ret (pe_g G_is_integer (hr.mono (by decide)) (pa_cons (pv 5) (pa_cons pe_int (pa_cons (pe_gint T.c_MAX_WAY) pa_nil))))))))
  (pss_one (ps_ret pe_bl)))), ?_⟩
    rcases hv with ⟨a, xs, rfl, hq, hf, rfl⟩ | ⟨a, xs, rfl, hq, rfl⟩ | ⟨hn, rfl⟩
    · by_cases hl : xs.length = 5
      · obtain ⟨s, t, f, l, y, rfl⟩ : ∃ s t f l y, xs = [s, t, f, l, y] := by
          match xs, hl with
          | [s, t, f, l, y], _ => exact ⟨s, t, f, l, y, rfl⟩
        refine ⟨_, rfl, .inl ⟨a, _, rfl, .inl hq, .inl ⟨rfl, ?_⟩⟩⟩
        refine ⟨_, rfl, _, _, _, _, true, rfl, .ty "tuple", tyT hq, kt_tuple_tuple, true, rfl, iteT ?_⟩
        have hs := hf s (by simp)
        have ht := hf t (by simp)
        have hf1 := hf f (by simp)
        have hl1 := hf l (by simp)
        have hy := hf y (by simp)
        have no : isOrdB [s, t, f, l, y] = false → ∀ H', Same H H' → Q (.bl false) H' := fun e H' q => by
          have := k H' q
          rw [e] at this
          exact this
        have yes : isOrdB [s, t, f, l, y] = true → ∀ H', Same H H' → Q (.bl true) H' := fun e H' q => by
          have := k H' q
          rw [e] at this
          exact this
        refine ⟨_, rfl, s, rfl, hs.1, hs.2, fun H1 e1 => ⟨_, rfl, ?_⟩⟩
        cases h1 : isAddrB s with
        | false => exact iteT (iteT (no (by simp [isOrdB, h1]) H1 e1))
        | true =>
          refine iteF ?_
          refine ⟨_, rfl, t, rfl, ht.1, ht.2, fun H2 e2 => ⟨_, rfl, ?_⟩⟩
          have e12 := e1.trans e2
          cases h2 : isAddrB t with
          | false => exact iteT (iteT (no (by simp [isOrdB, h1, h2]) H2 e12))
          | true =>
            refine iteF ?_
            obtain ⟨zs, rfl⟩ : ∃ z, s = V.str z := by
              cases s with
              | str z => exact ⟨z, rfl⟩
              | _ => cases h1
            obtain ⟨zt, rfl⟩ : ∃ z, t = V.str z := by
              cases t with
              | str z => exact ⟨z, rfl⟩
              | _ => cases h2
            refine ⟨_, rfl, _, rfl, rfl, _, rfl, ?_⟩
            refine ite2 (fun h3 => no ?_ H2 e12) (fun h3 => ?_)
            · simp [isOrdB, of_decide_eq_true h3]
            have h3' : decide (V.str zs = V.str zt) = false := by simpa using h3
            refine ⟨_, rfl, l, _, _, rfl, hl1.1, _, rfl, ?_⟩
            cases h4 : isIntB l 0 1000000000000000000 with
            | false => exact iteT (iteT (no (by simp [isOrdB, h4]) H2 e12))
            | true =>
              refine iteF ?_
              obtain ⟨il, rfl⟩ : ∃ i, l = V.int i := by
                cases l with
                | int i => exact ⟨i, rfl⟩
                | _ => cases h4
              refine ⟨_, rfl, _, rfl, f, _, _, rfl, hf1.1, _, rfl, ?_⟩
              cases h5 : isIntB f 0 il with
              | false => exact iteT (no (by simp [isOrdB, h5]) H2 e12)
              | true =>
                refine iteF ?_
                refine ⟨_, rfl, y, _, _, rfl, hy.1, ?_⟩
                have e6 : isOrdB [V.str zs, V.str zt, f, V.int il, y] = isIntB y 1 30 := by
                  simp only [isOrdB, h1, h2, h3', h4, h5, Bool.not_false, Bool.true_and]
                rw [← e6]
                exact k H2 e12
      · have e : isOrdB xs = false := by
          unfold isOrdB
          split
          · exact absurd rfl hl
          · rfl
        refine ⟨_, rfl, .inl ⟨a, _, rfl, .inl hq, .inr ⟨hl, ?_⟩⟩⟩
        have := k H (Same.refl H)
        rw [e] at this
        exact this
    · by_cases hl : xs.length = 5
      · refine ⟨_, rfl, .inl ⟨a, _, rfl, .inr hq, .inl ⟨hl, ?_⟩⟩⟩
        match xs, hl with
        | [s, t, f, l, y], _ =>
          exact ⟨_, rfl, _, _, _, _, false, rfl, .ty "tuple", tyL hq, kt_list_tuple, false, rfl, iteF (k H (Same.refl H))⟩
      · exact ⟨_, rfl, .inl ⟨a, _, rfl, .inr hq, .inr ⟨hl, k H (Same.refl H)⟩⟩⟩
    · exact ⟨_, rfl, .inr ⟨hn, k H (Same.refl H)⟩⟩
def spCheckOk : Sp := fun vs H Q _ => ∃ z d, vs = [.str z, .int d] ∧ isAddrB (.str z) = true ∧ 0 ≤ d ∧ d ≤ 1000000000000000000 ∧ ∀ H', Same H H' → Q .non H'
theorem isAddr_short {z : Str} (h : isAddrB (.str z) = true) : z.length ≤ 8 := by
  simp only [isAddrB, Bool.and_eq_true, decide_eq_true_eq] at h
  exact h.1.2
end

end MF
set_option Elab.async false
set_option linter.all false
set_option maxRecDepth 100000
set_option maxHeartbeats 2000000
set_option pp.maxSteps 600
namespace MF
open PySem PySem.Spec PyProof.Rows L2 StX
section
variable {P : Program} {w : World} {K : PySem.W.Frag} {mg : Str → Option Value} {base : Heap} {C_Book C_LivePost C_MailError C_InvalidOperation C_InvalidOrder C_UnknownOrder C_NotHolding C_DecodeError C_NotationError C_UnknownLetter C_InvalidAddress C_InvalidDay C_InvalidNumber C_Contradiction C_InvalidCount : Addr}
def spInitIn (K : PySem.W.Frag) (C : Addr) : Sp := fun vs H Q _ => ∃ x dx t as os, vs = [.ref x, .ref t] ∧ H x = some (.ins C dx []) ∧ SqT K H t (as.map V.ref) ∧ OrdsAt K H as os ∧ Good os ∧
  ∀ H', H' x = some (.ins C dx [("listed", .ref t)]) → (∀ b o, H b = some o → b ≠ x → H' b = some o) → Q .non H'
def spBookInit (K : PySem.W.Frag) (C : Addr) : Sp := fun vs H Q E => ∃ v rest, vs = v :: rest ∧ rest.length ≤ sizeLine ∧ ∀ p, H p = Option.none → spInitIn K C [v, V.ref p] (upd H p (.tup rest)) Q E
theorem isOrd_flat {o : Ordr} (h : o.Ok) : ∀ x ∈ o.vals, notSeq x = true ∧ shortV x := by
  intro x hx
  have ls : o.src.length ≤ sizeLine := Nat.le_trans (by have := h.as; simp only [isAddrB, Bool.and_eq_true, decide_eq_true_eq] at this; exact this.1.2) (by decide)
  have lt : o.tgt.length ≤ sizeLine := Nat.le_trans (by have := h.at_; simp only [isAddrB, Bool.and_eq_true, decide_eq_true_eq] at this; exact this.1.2) (by decide)
  simp only [Ordr.vals, List.mem_cons, List.not_mem_nil, or_false] at hx
  rcases hx with rfl | rfl | rfl | rfl | rfl
  · exact ⟨rfl, ls⟩
  · exact ⟨rfl, lt⟩
  · exact ⟨rfl, trivial⟩
  · exact ⟨rfl, trivial⟩
  · exact ⟨rfl, trivial⟩
theorem ok_Book (T : Top K mg C_Book C_LivePost C_MailError C_InvalidOperation C_InvalidOrder C_UnknownOrder C_NotHolding C_DecodeError C_NotationError C_UnknownLetter C_InvalidAddress C_InvalidDay C_InvalidNumber C_Contradiction C_InvalidCount) : IFn P w K mg base CX0 3 C_Book "Book" (spBookInit K C_Book) := by
  have G_is_order : GFn P w K mg base CX0 2 "is_order" (spIsOrder K) := ok_is_order T
  have G_do_overlap : GFn P w K mg base CX0 1 "do_overlap" (spOverlap K) := ok_do_overlap T
  refine T.d_BookX_initX.fn0 (sp := spInitIn K C_Book) sc_BookX_initX fun f cdv A outer s H vs Q E hr h => ?_
  obtain ⟨x, dx, t, as, os, rfl, hx, ht, ho, g, k⟩ := h
  refine ⟨_, (pss_cons (ps_for PassesOwn.never rfl (pi_enumT (by rfl) T.b_enumerate (pa_cons (pv 1) pa_nil)) (pg_tup rfl (pgs_cons (pg_name (i := 2) sc_BookX_initX.nd rfl (Or.inl rfl)) (pgs_cons (pg_name (i := 3) sc_BookX_initX.nd rfl (Or.inl rfl)) pgs_nil)))
  (pss_cons (ps_if (PW.pt (pw_or (pt_cmpR op_eq (pv 2) (pe_gint T.c_MAX_ORDERS_books) (nomark _)) (pw_or1 (pt_not (pt_val (pe_g G_is_order (hr.mono (by decide)) (pa_cons (pv 3) pa_nil)))))))
  (pss_one ps_never)
  pss_nil)
  (pss_one (ps_for PassesOwn.never rfl (pi_tup (pe_slice sl_tup (pv 1) po_none (po_some (pv 2)))) (pg_name (i := 4) sc_BookX_initX.nd rfl (Or.inl rfl))
  (pss_one (ps_if (pt_val (pe_g G_do_overlap (hr.mono (by decide)) (pa_cons (pv 4) (pa_cons (pv 3) pa_nil))))
  (pss_one ps_never)
  pss_nil))))))
  (pss_one (ps_fld (pv 0) (pv 1) rfl))), ?_⟩
  have hl : as.length = os.length := PySem.Paired.length ho
  refine ⟨_, rfl, t, _, rfl, ht, for_it walk_enumT (fun i σ H' => Same H H' ∧ ∃ v2 v3 v4, σ = [some (.ref x), some (.ref t), v2, v3, v4]) ⟨Same.refl H, _, _, _, rfl⟩ (fun i σ H' _ ⟨s1, _⟩ => MF.Same.tup s1 ht) ?_ ?_⟩
  · rintro i y σ H1 H2 hi ⟨s1, v2, v3, v4, rfl⟩ ⟨p, z1, z2, rfl, hp, rfl, e1, e2⟩
    cases e1
    rw [List.length_map] at hi
    obtain ⟨a, ea⟩ : ∃ a, as[i]? = some a := ⟨as[i], by simp [hi]⟩
    replace e2 : (as.map V.ref)[i]? = some z2 := e2
    rw [List.getElem?_map, ea] at e2
    cases e2
    obtain ⟨o, eo, oa⟩ := Paired.get ho ea
    have s2 : Same H (upd H1 p (.tup [.int (i : Nat), .ref a])) := MF.Same.upd s1 hp
    have om : o ∈ os := List.mem_of_getElem? eo
    refine ⟨p, _, rfl, .inl (.inl upd_same), rfl, _, _, rfl, _, _, rfl, rfl, ?_⟩
    refine ⟨_, rfl, rfl, _, rfl, ?_⟩
    have hi30 : i < 30 := Nat.lt_of_lt_of_le (hl ▸ hi) g.len
    have ne30 : decide (V.int ((i : Nat) : Int) = V.int 30) = false := decide_eq_false fun q => by
      have := V.int.inj q
      omega
    rw [ne30]
    refine iteF ?_
    refine ⟨_, rfl, _, true, rfl, .inl ⟨a, _, rfl, oa.mono s2, isOrd_flat (g.ok o om), (g.ok o om).b.symm⟩, fun H3 s3 => ⟨_, rfl, iteF ?_⟩⟩
    have s13 := s2.trans s3
    have tt : SqT K H3 t (as.map V.ref) := MF.Same.tup s13 ht
    refine ⟨_, rfl, _, rfl, _, rfl, t, _, rfl, tt, ?_, fun p2 hp2 => ?_⟩
    · rw [HT.sIx_nat, List.length_map]
      omega
    rw [cut_take _ _ (by rw [List.length_map]; omega)]
    refine ⟨p2, rfl, ⟨_, .inl (.inl upd_same)⟩, for_it (walk_tup (xs := (as.map V.ref).take i)) (fun j σ H' => Same H H' ∧ SqT K H' p2 ((as.map V.ref).take i) ∧ ∃ v4, σ = [some (.ref x), some (.ref t), some (.int (i : Nat)), some (.ref a), v4]) ⟨MF.Same.upd s13 hp2, .inl (.inl upd_same), _, rfl⟩ (fun j σ H' _ ⟨_, q, _⟩ => q) ?_ ?_⟩
    · rintro j y σ H4 H5 hj ⟨s4, q4, v4', rfl⟩ ⟨rfl, ey⟩
      rw [List.length_take, List.length_map] at hj
      have hji : j < i := by omega
      obtain ⟨b, eb⟩ : ∃ b, as[j]? = some b := ⟨as[j]'(by omega), by simp [show j < as.length by omega]⟩
      rw [List.getElem?_take, if_pos hji, List.getElem?_map, eb] at ey
      cases ey
      obtain ⟨o', eo', ob⟩ := Paired.get ho eb
      refine ⟨_, rfl, _, rfl, b, a, o', o, rfl, ob.mono s4, oa.mono s4, ⟨_, rfl, ?_⟩⟩
      have hov : overB o' o = false := by
        have hj' : j < os.length := by omega
        have hi' : i < os.length := by omega
        have := List.pairwise_iff_getElem.mp g.apart j i hj' hi' hji
        rw [List.getElem?_eq_getElem hj'] at eo'
        rw [List.getElem?_eq_getElem hi'] at eo
        cases eo'
        cases eo
        exact this
      rw [hov]
      exact iteF ⟨s4, q4, _, rfl⟩
    · rintro σ H4 ⟨s4, _, v4', rfl⟩
      exact ⟨s4, _, _, _, rfl⟩
  · rintro σ H1 ⟨s1, v2, v3, v4, rfl⟩
    refine ⟨_, rfl, _, rfl, x, C_Book, dx, [], rfl, s1 _ _ hx, T.cl_Book, T.n_Book_listed, (by show 0 < 1000; decide), ?_⟩
    refine k _ upd_same fun b o e hb => ?_
    rw [upd_ne hb]
    exact s1 b o e
theorem book_made' {C : Addr} {H : Hp} {as : List Addr} {os : List Ordr} {R : VK} {E : XK} (h : OrdsAt K H as os) (g : Good os) {x dx : Addr} (hx : H x = none) (hdx : H dx = none) (ne : dx ≠ x) (k : ∀ H', Same H H' → BookAt K C H' x os → R .non H') :
    spBookInit K C (.ref x :: as.map V.ref) (upd (upd H dx (.own x)) x (.ins C dx [])) R E := by
  have hl : as.length = os.length := PySem.Paired.length h
  have s0 : Same H (upd (upd H dx (.own x)) x (.ins C dx [])) := fun b o e => by
    rw [upd_ne (ne_of_none e hx), upd_ne (ne_of_none e hdx)]
    exact e
  refine ⟨_, _, rfl, ?_, fun p hp => ?_⟩
  · rw [List.length_map, hl]
    exact Nat.le_trans g.len (by decide)
  have s1 := s0.trans (Same.new (o := .tup (as.map V.ref)) hp)
  have nxp : x ≠ p := fun q => by
    subst q
    rw [upd_same] at hp
    cases hp
  refine ⟨x, dx, p, as, os, rfl, by rw [upd_ne nxp, upd_same], .inl (.inl upd_same), h.mono s1, g, fun H' hx' kp => ?_⟩
  have s2 : Same H H' := fun b o e => kp b o (s1 b o e) (ne_of_none e hx)
  refine k H' s2 ⟨dx, p, as, hx', .inl (.inl (kp p _ upd_same nxp.symm)), h.mono s2⟩
theorem book_made {C : Addr} {H : Hp} {as : List Addr} {os : List Ordr} {Q : VK} {E : XK} (h : OrdsAt K H as os) (g : Good os) (k : ∀ H' p, Same H H' → H p = none → BookAt K C H' p os → Q (.ref p) H') :
    ∀ x dx, H x = none → H dx = none → dx ≠ x → spBookInit K C (.ref x :: as.map V.ref) (upd (upd H dx (.own x)) x (.ins C dx [])) (fun v H2 => v = .non ∧ Q (.ref x) H2) E := by
  intro x dx hx hdx ne
  exact book_made' h g hx hdx ne fun H' s b => ⟨rfl, k H' x s hx b⟩
def spBookOf (K : PySem.W.Frag) (C : Addr) : Sp := fun vs H Q _ => ∃ t as os, vs = [.ref t] ∧ (SqT K H t (as.map V.ref) ∨ SqL K H t (as.map V.ref)) ∧ OrdsAt K H as os ∧ Good os ∧ ∀ H' p, Same H H' → H p = none → BookAt K C H' p os → Q (.ref p) H'
theorem ok_book_of (T : Top K mg C_Book C_LivePost C_MailError C_InvalidOperation C_InvalidOrder C_UnknownOrder C_NotHolding C_DecodeError C_NotationError C_UnknownLetter C_InvalidAddress C_InvalidDay C_InvalidNumber C_Contradiction C_InvalidCount) : GFn P w K mg base CX0 5 "book_of" (spBookOf K C_Book) := by
  have G_Book : IFn P w K mg base CX0 3 C_Book "Book" (spBookInit K C_Book) := ok_Book T
  refine T.d_book_of.fn fun f fd F => F.ok sc_book_of (fun vs H Q E h => ?_) (fun cdv A outer s H vs Q E hr h => ?_)
  · obtain ⟨t, as, os, rfl, _⟩ := h
    rfl
  · obtain ⟨t, as, os, rfl, ht, ho, g, k⟩ := h
    refine ⟨_, (pss_one (ps_ret (pe_mkS G_Book (hr.mono (by decide)) pass0 (pv 0)))), ?_⟩
    refine ⟨_, rfl, t, _, rfl, ht, ?_⟩
    show ∀ x dx, H x = none → H dx = none → dx ≠ x → spBookInit K C_Book (.ref x :: (as.map V.ref ++ [])) _ _ _
    rw [List.append_nil]
    exact book_made ho g k
def spBookAdd (K : PySem.W.Frag) (C : Addr) : Sp := fun vs H Q _ => ∃ a b os ps, vs = [.ref a, .ref b] ∧ BookAt K C H a os ∧ BookAt K C H b ps ∧ Good (os ++ ps) ∧ ∀ H' p, Same H H' → H p = none → BookAt K C H' p (os ++ ps) → Q (.ref p) H'
theorem ok_Book_add (T : Top K mg C_Book C_LivePost C_MailError C_InvalidOperation C_InvalidOrder C_UnknownOrder C_NotHolding C_DecodeError C_NotationError C_UnknownLetter C_InvalidAddress C_InvalidDay C_InvalidNumber C_Contradiction C_InvalidCount) : MFn P w K mg base CX0 6 C_Book "__add__" (spBookAdd K C_Book) := by
  have G_book_of : GFn P w K mg base CX0 5 "book_of" (spBookOf K C_Book) := ok_book_of T
  refine T.d_BookX_addX.fn fun f fd F => F.ok sc_BookX_addX (fun vs H Q E h => ?_) (fun cdv A outer s H vs Q E hr h => ?_)
  · obtain ⟨a, b, os, ps, rfl, _⟩ := h
    rfl
  · obtain ⟨a, b, os, ps, rfl, ⟨dx, t, as, h1, h2, h3⟩, ⟨dy, u, bs, h4, h5, h6⟩, g, k⟩ := h
    refine ⟨_, (pss_one (ps_ret (pe_g G_book_of (hr.mono (by decide)) (pa_cons (pe_op op_catA (pe_fld (pv 0) rfl) (pe_fld (pv 1) rfl)) pa_nil)))), ?_⟩
    have la : as.length = os.length := PySem.Paired.length h3
    have lb : bs.length = ps.length := PySem.Paired.length h6
    refine ⟨_, rfl, a, C_Book, dx, _, _, rfl, h1, T.cl_Book, T.n_Book_listed, rfl, _, rfl, b, C_Book, dy, _, _, rfl, h4, T.cl_Book, T.n_Book_listed, rfl, t, u, _, _, rfl, rfl, h2, h5, ?_, fun e => ?_, fun _ e => ?_, fun _ _ p hp => ?_⟩
    · rw [List.length_map, List.length_map, la, lb, ← List.length_append]
      exact Nat.le_trans g.len (by decide)
    · have : os = [] := List.eq_nil_of_length_eq_zero (by rw [← la]; simpa using e)
      subst this
      exact ⟨u, bs, ps, rfl, .inl h5, h6, g, k⟩
    · have : ps = [] := List.eq_nil_of_length_eq_zero (by rw [← lb]; simpa using e)
      subst this
      rw [List.append_nil] at g k
      exact ⟨t, as, os, rfl, .inl h2, h3, g, k⟩
    · have s1 := Same.new (o := .tup (as.map V.ref ++ bs.map V.ref)) hp
      refine ⟨p, as ++ bs, os ++ ps, rfl, .inl ?_, Paired.append (OrdsAt.mono h3 s1) (OrdsAt.mono h6 s1), g, fun H' q e1 e2 e3 => k H' q (s1.trans e1) (s1.free e2) e3⟩
      rw [List.map_append]
      exact .inl (.inl upd_same)
end

end MF
set_option Elab.async false
set_option linter.all false
set_option maxRecDepth 100000
set_option maxHeartbeats 2000000
set_option pp.maxSteps 600
namespace MF
open PySem PySem.Spec PyProof.Rows L2 StX
section
variable {P : Program} {w : World} {K : PySem.W.Frag} {mg : Str → Option Value} {base : Heap} {C_Book C_LivePost C_MailError C_InvalidOperation C_InvalidOrder C_UnknownOrder C_NotHolding C_DecodeError C_NotationError C_UnknownLetter C_InvalidAddress C_InvalidDay C_InvalidNumber C_Contradiction C_InvalidCount : Addr}
def optI : Option Nat → V
  | none => .non
  | some i => .int (i : Nat)
def optZ : Option Int → V
  | none => .non
  | some i => .int i
def spOrderFor (K : PySem.W.Frag) (C : Addr) : Sp := fun vs H Q _ => ∃ p os z d, vs = [.ref p, .str z, .int d] ∧ BookAt K C H p os ∧ ∀ H', Same H H' → Q (optI (ordFor os z d)) H'
theorem ok_order_for (T : Top K mg C_Book C_LivePost C_MailError C_InvalidOperation C_InvalidOrder C_UnknownOrder C_NotHolding C_DecodeError C_NotationError C_UnknownLetter C_InvalidAddress C_InvalidDay C_InvalidNumber C_Contradiction C_InvalidCount) : MFn P w K mg base CX0 1 C_Book "order_for" (spOrderFor K C_Book) := by
  refine T.d_Book_order_for.fn fun f fd F => F.ok sc_Book_order_for (fun vs H Q E h => ?_) (fun cdv A outer s H vs Q E hr h => ?_)
  · obtain ⟨p, os, z, d, rfl, _⟩ := h
    rfl
  · obtain ⟨p, os, z, d, rfl, ⟨dx, t, as, h1, h2, h3⟩, k⟩ := h
    refine ⟨_, (pss_cons (ps_for PassesOwn.never rfl (pi_enumT (by rfl) T.b_enumerate (pa_cons (pe_fld (pv 0) rfl) pa_nil)) (pg_tup rfl (pgs_cons (pg_name (i := 3) sc_Book_order_for.nd rfl (Or.inl rfl)) (pgs_cons (pg_tup rfl (pgs_cons (pg_name (i := 4) sc_Book_order_for.nd rfl (Or.inl rfl)) (pgs_cons (pg_name (i := 5) sc_Book_order_for.nd rfl (Or.inl rfl)) (pgs_cons (pg_name (i := 6) sc_Book_order_for.nd rfl (Or.inl rfl)) (pgs_cons (pg_name (i := 7) sc_Book_order_for.nd rfl (Or.inl rfl)) (pgs_cons (pg_name (i := 8) sc_Book_order_for.nd rfl (Or.inl rfl)) pgs_nil)))))) pgs_nil)))
  (pss_one (ps_if (PW.pt (pw_and (pt_cmpR op_eq (pv 4) (pv 1) (nomark _)) (pw_and1 (pt_chain op_le op_le (pv 6) (pv 2) (pv 7)))))
  (pss_one (ps_ret (pv 3)))
  pss_nil)))
  (pss_one (ps_ret pe_non))), ?_⟩
    have hl : as.length = os.length := PySem.Paired.length h3
    refine ⟨_, rfl, p, C_Book, dx, _, _, rfl, h1, T.cl_Book, T.n_Book_listed, rfl, t, _, rfl, h2, for_it walk_enumT (fun i σ H' => Same H H' ∧ (∃ v3 v4 v5 v6 v7 v8, σ = [some (.ref p), some (.str z), some (.int d), v3, v4, v5, v6, v7, v8]) ∧ ∀ (j : Nat) q, j < i → os[j]? = some q → holds q z d = false)
      ⟨Same.refl H, ⟨_, _, _, _, _, _, rfl⟩, fun j q hj => absurd hj (Nat.not_lt_zero _)⟩ (fun i σ H' _ ⟨s1, _⟩ => MF.Same.tup s1 h2) ?_ ?_⟩
    · rintro i y σ H1 H2 hi ⟨s1, ⟨v3, v4, v5, v6, v7, v8, rfl⟩, hn⟩ ⟨q, z1, z2, rfl, hq, rfl, e1, e2⟩
      cases e1
      rw [List.length_map] at hi
      obtain ⟨a, ea⟩ : ∃ a, as[i]? = some a := ⟨as[i], by simp [hi]⟩
      replace e2 : (as.map V.ref)[i]? = some z2 := e2
      rw [List.getElem?_map, ea] at e2
      cases e2
      obtain ⟨o, eo, oa⟩ := Paired.get h3 ea
      have s2 : Same H (upd H1 q (.tup [.int (i : Nat), .ref a])) := MF.Same.upd s1 hq
      refine ⟨q, _, rfl, .inl (.inl upd_same), rfl, _, _, rfl, _, _, rfl, a, o.vals, rfl, oa.mono s2, rfl, _, _, rfl, _, _, rfl, _, _, rfl, _, _, rfl, _, _, rfl, rfl, rfl, ?_⟩
      refine ⟨_, rfl, _, rfl, rfl, _, rfl, ?_⟩
      have fin : holds o z d = false → (Same H (upd H1 q (.tup [.int (i : Nat), .ref a])) ∧ (∃ v3 v4 v5 v6 v7 v8, ([some (.ref p), some (.str z), some (.int d), some (.int (i : Nat)), some (.str o.src), some (.str o.tgt), some (.int o.first), some (.int o.last), some (.int o.way)] : L2.St) = [some (.ref p), some (.str z), some (.int d), v3, v4, v5, v6, v7, v8]) ∧ ∀ (j : Nat) q, j < i + 1 → os[j]? = some q → holds q z d = false) := fun hh =>
        ⟨s2, ⟨_, _, _, _, _, _, rfl⟩, fun j q hj ej => by
          by_cases hji : j < i
          · exact hn j q hji ej
          · have : j = i := by omega
            subst this
            rw [eo] at ej
            cases ej
            exact hh⟩
      refine ite2 (fun c1 => ?_) (fun c1 => ?_)
      · have c1' : o.src = z := V.str.inj (of_decide_eq_true c1)
        refine ⟨_, rfl, _, rfl, _, _, rfl, rfl, _, rfl, ?_⟩
        refine ite2 (fun c2 => ?_) (fun c2 => ?_)
        · have c2' : o.first ≤ d := of_decide_eq_true c2
          refine ⟨_, rfl, _, _, rfl, rfl, _, rfl, ?_⟩
          refine ite2 (fun c3 => ?_) (fun c3 => ?_)
          · have c3' : d ≤ o.last := of_decide_eq_true c3
            refine ⟨_, rfl, ?_⟩
            have e : ordFor os z d = some i := ordFor_is hn eo (by simp [holds, c1', c2', c3'])
            have := k _ s2
            rw [e] at this
            exact this
          · have c3' : ¬ d ≤ o.last := fun q => c3 (decide_eq_true q)
            exact fin (by simp [holds, c3'])
        · have c2' : ¬ o.first ≤ d := fun q => c2 (decide_eq_true q)
          refine ⟨_, rfl, ?_⟩
          exact iteF (fin (by simp [holds, c2']))
      · have c1' : ¬ o.src = z := fun q => c1 (decide_eq_true (congrArg V.str q))
        exact iteF (fin (by simp [holds, c1']))
    · rintro σ H1 ⟨s1, ⟨v3, v4, v5, v6, v7, v8, rfl⟩, hn⟩
      have e : ordFor os z d = none := ordFor_none fun q hq => by
        obtain ⟨j, hj, ej⟩ := List.getElem_of_mem hq
        exact hn j q (by rw [List.length_map, hl]; exact hj) (by rw [List.getElem?_eq_getElem hj, ej])
      have := k _ s1
      rw [e] at this
      exact this
end

end MF
set_option Elab.async false
set_option linter.all false
set_option maxRecDepth 100000
set_option maxHeartbeats 2000000
set_option pp.maxSteps 600
namespace MF
open PySem PySem.Spec PyProof.Rows L2 StX
section
variable {P : Program} {w : World} {K : PySem.W.Frag} {mg : Str → Option Value} {base : Heap} {C_Book C_LivePost C_MailError C_InvalidOperation C_InvalidOrder C_UnknownOrder C_NotHolding C_DecodeError C_NotationError C_UnknownLetter C_InvalidAddress C_InvalidDay C_InvalidNumber C_Contradiction C_InvalidCount : Addr}
theorem changes_append (d : Int) : ∀ a b : List Ordr, changes (a ++ b) d = changes a d ++ changes b d
  | [], b => rfl
  | o :: a, b => by
    show ([o.first, o.last + 1].filter fun c => decide (d < c)) ++ changes (a ++ b) d = (([o.first, o.last + 1].filter fun c => decide (d < c)) ++ changes a d) ++ changes b d
    rw [changes_append d a b, List.append_assoc]
theorem changes_len (d : Int) : ∀ a : List Ordr, (changes a d).length ≤ 2 * a.length
  | [] => Nat.zero_le _
  | o :: a => by
    unfold changes
    have h1 := List.length_filter_le (fun c => decide (d < c)) [o.first, o.last + 1]
    have h2 := changes_len d a
    rw [List.length_append, List.length_cons]
    simp only [List.length_cons, List.length_nil] at h1
    omega
theorem DpAll.ints {H : Hp} : ∀ ns : List Int, DpAll K H (ns.map V.int) (ns.map PyData.int)
  | [] => .nil
  | n :: ns => .cons (.int n) (DpAll.ints ns)
def spNextChange (K : PySem.W.Frag) (C : Addr) : Sp := fun vs H Q _ => ∃ p os d, vs = [.ref p, .int d] ∧ BookAt K C H p os ∧ os.length ≤ 30 ∧ ∀ H', Same H H' → Q (optZ (nextCh os d)) H'
def tupl : HO → Bool
  | .tup _ => true
  | .frz _ (.tup _) => true
  | _ => false
theorem BookAt.kept {C : Addr} {H H' : Hp} {p : Addr} {os : List Ordr} (h : BookAt K C H p os) (hp : ∀ u, H p = some u → H' p = some u) (ht : ∀ b u, H b = some u → tupl u = true → H' b = some u) : BookAt K C H' p os := by
  obtain ⟨dx, t, as, h1, h2, h3⟩ := h
  have tp : ∀ a xs, SqT K H a xs → SqT K H' a xs := fun a xs z => by
    rcases z with (z | ⟨u, z⟩) | z
    · exact .inl (.inl (ht _ _ z rfl))
    · exact .inl (.inr ⟨u, ht _ _ z rfl⟩)
    · exact .inr z
  exact ⟨dx, t, as, hp _ h1, tp _ _ h2, PySem.Paired.mono (fun a o z => tp a _ z) h3⟩
end

end MF
set_option Elab.async false
set_option linter.all false
set_option maxRecDepth 100000
set_option maxHeartbeats 2000000
set_option pp.maxSteps 600
namespace MF
open PySem PySem.Spec PyProof.Rows L2 StX
section
variable {P : Program} {w : World} {K : PySem.W.Frag} {mg : Str → Option Value} {base : Heap} {C_Book C_LivePost C_MailError C_InvalidOperation C_InvalidOrder C_UnknownOrder C_NotHolding C_DecodeError C_NotationError C_UnknownLetter C_InvalidAddress C_InvalidDay C_InvalidNumber C_Contradiction C_InvalidCount : Addr}
def ScAt (K : PySem.W.Frag) (H : Hp) (rw sc : Addr) (xs : List V) : Prop := (Rd H sc (.lst xs) ∧ sc ≠ rw) ∨
    ∃ (o : Obj) (its : Array Value) (n : Nat), K.lookup sc = some o ∧ o.cls = .type "list" ∧ o.dict = none ∧ o.data = .seq its n ∧ its.size ≤ sizeLine ∧ Vals xs its.toList
theorem ScAt.sq {H : Hp} {rw sc : Addr} {xs : List V} (h : ScAt K H rw sc xs) : SqL K H sc xs := by
  rcases h with ⟨h, _⟩ | h
  · exact .inl h
  · exact .inr h
theorem ScAt.keep {H H' : Hp} {rw sc : Addr} {xs : List V} (h : ScAt K H rw sc xs) (k : ∀ b u, H b = some u → b ≠ rw → H' b = some u) : ScAt K H' rw sc xs := by
  rcases h with ⟨h | ⟨o, h⟩, n⟩ | h
  · exact .inl ⟨.inl (k _ _ h n), n⟩
  · exact .inl ⟨.inr ⟨o, k _ _ h n⟩, n⟩
  · exact .inr h
def RowAt (K : PySem.W.Frag) (H : Hp) (rw sc : Addr) (ns : List Int) : Prop := ∃ j : Nat, ∃ m r, H rw = some (.lst [.ref sc, .int (j : Nat), .int m, .int r]) ∧ ScAt K H rw sc (ns.map V.int) ∧ 0 ≤ m ∧ m < 2147483647
theorem RowAt.keep {H H' : Hp} {rw sc : Addr} {ns : List Int} (h : RowAt K H rw sc ns) (s : Same H H') : RowAt K H' rw sc ns := by
  obtain ⟨j, m, r, h1, h2, h3⟩ := h
  exact ⟨j, m, r, s _ _ h1, h2.keep fun b u e _ => s _ _ e, h3⟩
theorem ScAt.of0 {H H' : Hp} {rw sc : Addr} {xs : List V} (h : SqL K H sc xs) (s : Same H H') (n : H rw = none) : ScAt K H' rw sc xs := by
  rcases h with (z | ⟨o, z⟩) | z
  · exact .inl ⟨.inl (s _ _ z), ne_of_none z n⟩
  · exact .inl ⟨.inr ⟨o, s _ _ z⟩, ne_of_none z n⟩
  · exact .inr z
theorem RowAt.other {H0 H H' : Hp} {rw sc : Addr} {ns : List Int} (h : RowAt K H rw sc ns) (h0 : SqL K H0 sc (ns.map V.int)) (n : H0 rw = none) (s : Same H0 H') (e : ∀ u, H rw = some u → H' rw = some u) : RowAt K H' rw sc ns := by
  obtain ⟨j, m, r, h1, h2, h3⟩ := h
  exact ⟨j, m, r, e _ h1, .of0 h0 s n, h3⟩
def spTaken (K : PySem.W.Frag) : Sp := fun vs H Q _ => ∃ rw sc ns many, vs = [.ref rw, .int many] ∧ RowAt K H rw sc ns ∧ 0 < many ∧ many ≤ 1000000000000000000 ∧
  ∀ v H', 0 ≤ v → v < many → RowAt K H' rw sc ns → (∀ b u, H b = some u → b ≠ rw → H' b = some u) → Q (.int v) H'
theorem pow18 : (10 : Int) ^ (18 : Int).toNat = 1000000000000000000 := by decide
end

end MF
set_option Elab.async false
set_option linter.all false
set_option maxRecDepth 100000
set_option maxHeartbeats 2000000
set_option pp.maxSteps 600
namespace MF
open PySem PySem.Spec PyProof.Rows L2 StX
section
variable {P : Program} {w : World} {K : PySem.W.Frag} {mg : Str → Option Value} {base : Heap} {C_Book C_LivePost C_MailError C_InvalidOperation C_InvalidOrder C_UnknownOrder C_NotHolding C_DecodeError C_NotationError C_UnknownLetter C_InvalidAddress C_InvalidDay C_InvalidNumber C_Contradiction C_InvalidCount : Addr}
theorem Good.take {os : List Ordr} (g : Good os) (i : Nat) : Good (os.take i) :=
  ⟨by have := g.len; rw [List.length_take]; omega, fun o ho => g.ok o (List.mem_of_mem_take ho), g.apart.sublist (List.take_sublist _ _)⟩
theorem Good.one {o : Ordr} (h : o.Ok) : Good [o] := ⟨by show 1 ≤ 30; decide, fun p hp => by rw [List.mem_singleton.mp hp]; exact h, by simp⟩
theorem Good.nil : Good [] := ⟨Nat.zero_le _, (fun p hp => by cases hp), List.Pairwise.nil⟩
def spLawBook (K : PySem.W.Frag) (C : Addr) : Sp := fun vs H Q _ => ∃ l as os, vs = [.ref l] ∧ SqL K H l (as.map V.ref) ∧ OrdsAt K H as os ∧ Good os ∧ ∀ H' p, Same H H' → H p = none → BookAt K C H' p os → Q (.ref p) H'
theorem ok_law_made (T : Top K mg C_Book C_LivePost C_MailError C_InvalidOperation C_InvalidOrder C_UnknownOrder C_NotHolding C_DecodeError C_NotationError C_UnknownLetter C_InvalidAddress C_InvalidDay C_InvalidNumber C_Contradiction C_InvalidCount) (sf : PySem.W.selfFirst K C_Book = true) : GFn P w K mg base CX0 7 "_law_made" (spLawBook K C_Book) := by
  have G_Book : IFn P w K mg base CX0 3 C_Book "Book" (spBookInit K C_Book) := ok_Book T
  obtain ⟨fa, Fa, Ma⟩ := (ok_Book_add (P := P) (w := w) (base := base) T).ex
  refine T.d__law_made.fn fun f fd F => F.ok sc__law_made (fun vs H Q E h => ?_) (fun cdv A outer s H vs Q E hr h => ?_)
  · obtain ⟨l, as, os, rfl, _⟩ := h
    rfl
  · obtain ⟨l, as, os, rfl, hl, ho, g, k⟩ := h
    refine ⟨_, (pss_cons (ps_set (i := 1) sc__law_made.nd rfl (Or.inl rfl) (pe_mk0X G_Book (hr.mono (by decide)) pass0))
  (pss_cons (ps_for PassesOwn.never rfl (pi_list (pv 0)) (pg_name (i := 2) sc__law_made.nd rfl (Or.inl rfl))
  (pss_one (ps_set (i := 1) sc__law_made.nd rfl (Or.inl rfl) (pe_op (op_ownR sf Ma Fa (hr.mono (by decide)) pass0) (pv 1) (pe_mkX G_Book (hr.mono (by decide)) pass0 (pa_cons (pv 2) pa_nil))))))
  (pss_one (ps_ret (pv 1))))), ?_⟩
    have la : as.length = os.length := PySem.Paired.length ho
    intro x0 dx0 hx0 hdx0 ne0
    refine book_made' (as := []) (os := []) .nil Good.nil hx0 hdx0 ne0 (fun H1 s1 B1 => ⟨rfl, ?_⟩)
    refine ⟨_, rfl, l, rfl, ⟨_, s1.seq hl⟩, for_it (walk_list (xs := as.map V.ref)) (fun i σ H' => Same H H' ∧ ∃ p v2, σ = [some (.ref l), some (.ref p), v2] ∧ H p = none ∧ BookAt K C_Book H' p (os.take i)) ⟨s1, x0, _, rfl, hx0, B1⟩ (fun i σ H' _ ⟨s2, _⟩ => s2.seq hl) ?_ ?_⟩
    · rintro i y σ H2 H3 hi ⟨s2, p, v2, rfl, fp, B2⟩ ⟨rfl, ey⟩
      rw [List.length_map] at hi
      obtain ⟨a, ea⟩ : ∃ a, as[i]? = some a := ⟨as[i], by simp [hi]⟩
      rw [List.getElem?_map, ea] at ey
      cases ey
      obtain ⟨o, eo, oa⟩ := Paired.get ho ea
      have om : o ∈ os := List.mem_of_getElem? eo
      have et : os.take (i + 1) = os.take i ++ [o] := by rw [List.take_add_one, eo]; rfl
      refine ⟨_, rfl, _, rfl, ?_⟩
      have oa3 : OrdsAt K H3 [a] [o] := .cons (oa.mono s2) .nil
      intro p4 dx4 hp4 hdx4 ne4
      refine book_made' (as := [a]) (os := [o]) oa3 (Good.one (g.ok o om)) hp4 hdx4 ne4 (fun H4 s4 B4 => ⟨rfl, ?_⟩)
      obtain ⟨dx, t, bs, b1, b2, b3⟩ := id (B2.mono s4)
      obtain ⟨dy, u, cs, c1, c2, c3⟩ := id B4
      refine ⟨p, p4, dx, dy, _, _, rfl, rfl, b1, c1, p, p4, os.take i, [o], rfl, B2.mono s4, B4, by rw [← et]; exact g.take _, fun H5 p5 s5 f5 B5 => ?_⟩
      have s25 := (s2.trans s4).trans s5
      exact ⟨s25, p5, _, rfl, (s2.trans s4).free f5, by rw [et]; exact B5⟩
    · rintro σ H2 ⟨s2, p, v2, rfl, fp, B2⟩
      rw [List.length_map, la, List.take_length] at B2
      exact ⟨_, rfl, k H2 p s2 fp B2⟩
end

end MF
set_option Elab.async false
set_option linter.all false
set_option maxRecDepth 100000
set_option maxHeartbeats 2000000
set_option pp.maxSteps 600
namespace MF
open PySem PySem.Spec PyProof.Rows L2 StX
section
variable {P : Program} {w : World} {K : PySem.W.Frag} {mg : Str → Option Value} {base : Heap} {C_Book C_LivePost C_MailError C_InvalidOperation C_InvalidOrder C_UnknownOrder C_NotHolding C_DecodeError C_NotationError C_UnknownLetter C_InvalidAddress C_InvalidDay C_InvalidNumber C_Contradiction C_InvalidCount : Addr}
def nmS (k : Nat) : Str := ⟨#[97 + k]⟩
theorem nmS_inj {i j : Nat} (h : nmS i = nmS j) : i = j := by
  have h1 : (#[97 + i] : Array Nat) = #[97 + j] := congrArg Str.cps h
  have h2 : 97 + i = 97 + j := by simpa using h1
  omega
theorem nmS_addr {k : Nat} (h : k < 6) : isAddrB (.str (nmS k)) = true := by
  have : k = 0 ∨ k = 1 ∨ k = 2 ∨ k = 3 ∨ k = 4 ∨ k = 5 := by omega
  rcases this with rfl | rfl | rfl | rfl | rfl | rfl <;> decide +kernel
def nameT (n : Nat) : Str := cutS "abcdef" none (some ((n : Nat) : Int))
theorem names_at {n : Nat} (h2 : 2 ≤ n) (h6 : n ≤ 6) : (nameT n).length ≤ sizeLine ∧ ∀ k : Nat, k < n → (nameT n).cps.toList[k]? = some (97 + k) := by
  have : n = 2 ∨ n = 3 ∨ n = 4 ∨ n = 5 ∨ n = 6 := by omega
  rcases this with rfl | rfl | rfl | rfl | rfl <;> (refine ⟨by decide +kernel, ?_⟩; decide +kernel)
theorem names_ix {n : Nat} (h2 : 2 ≤ n) (h6 : n ≤ 6) {i : Int} (h0 : 0 ≤ i) (h1 : i < n) : atI (nameT n).cps.toList i = some (97 + i.toNat) := by
  have e : i = ((i.toNat : Nat) : Int) := by omega
  rw [e]
  exact atI_nat ((names_at h2 h6).2 _ (by omega))
theorem ints_ix {l : List Int} {i : Nat} (h : i < l.length) : atI (l.map V.int) (0 + (i : Int)) = some (V.int (l.getD i 0)) := by
  rw [Int.zero_add]
  refine atI_nat ?_
  rw [List.getElem?_map, List.getElem?_eq_getElem h, List.getD_eq_getElem?_getD, List.getElem?_eq_getElem h]
  rfl
def KeepR (rw : Addr) (H H' : Hp) : Prop := ∀ b u, H b = some u → b ≠ rw → H' b = some u
theorem KeepR.trans {rw : Addr} {H H1 H2 : Hp} (a : KeepR rw H H1) (b : KeepR rw H1 H2) : KeepR rw H H2 := fun c u e n => b c u (a c u e n) n
theorem KeepR.of {rw : Addr} {H H' : Hp} (s : Same H H') : KeepR rw H H' := fun b u e _ => s b u e
theorem RowAt.ex {H : Hp} {rw sc : Addr} {ns : List Int} (h : RowAt K H rw sc ns) : ∃ xs, H rw = some (.lst xs) := by
  obtain ⟨j, m, r, h1, _⟩ := h
  exact ⟨_, h1⟩
theorem KeepR.tup {rw sc : Addr} {ns : List Int} {H H' : Hp} (k : KeepR rw H H') (r : RowAt K H rw sc ns) : ∀ b u, H b = some u → tupl u = true → H' b = some u := fun b u e y => k b u e fun z => by
  obtain ⟨xs, h⟩ := r.ex
  rw [z, h] at e
  cases e
  cases y
theorem OrdsAt.keepR {H H' : Hp} {as : List Addr} {os : List Ordr} (h : OrdsAt K H as os) (k : ∀ b u, H b = some u → tupl u = true → H' b = some u) : OrdsAt K H' as os := PySem.Paired.mono (fun a o z => by
    rcases z with (z | ⟨u, z⟩) | z
    · exact .inl (.inl (k _ _ z rfl))
    · exact .inl (.inr ⟨u, k _ _ z rfl⟩)
    · exact .inr z) h
def spLaw (K : PySem.W.Frag) : Sp := fun vs H Q _ => ∃ (a : Addr) (ns : List Int), vs = [.ref a] ∧ SqL K H a (ns.map V.int) ∧ ns.length ≤ 63 ∧ ∀ H', Q (.bl true) H'
theorem row_new {H : Hp} {a rw : Addr} {ns : List Int} (hS : SqL K H a (ns.map V.int)) (h : H rw = none) : RowAt K (upd H rw (.lst [.ref a, .int 0, .int 0, .int 0])) rw a ns :=
  ⟨0, 0, 0, upd_same, .of0 hS (Same.new h) h, by decide, by decide⟩
theorem RowAt.via {H H1 H2 : Hp} {rw sc : Addr} {ns : List Int} (h : RowAt K H rw sc ns) (k : KeepR rw H H2) (h1 : RowAt K H1 rw sc ns) (e : ∀ u, H1 rw = some u → H2 rw = some u) : RowAt K H2 rw sc ns := by
  obtain ⟨j, m, r, a1, a2, a3⟩ := h1
  obtain ⟨j', m', r', b1, b2, b3⟩ := h
  exact ⟨j, m, r, e _ a1, b2.keep k, a3⟩
end

end MF
set_option Elab.async false
set_option linter.all false
set_option maxRecDepth 100000
set_option maxHeartbeats 2000000
set_option pp.maxSteps 600
namespace MF
open PySem PySem.Spec PyProof.Rows L2 StX
section
variable {P : Program} {w : World} {K : PySem.W.Frag} {mg : Str → Option Value} {base : Heap} {C_Book C_LivePost C_MailError C_InvalidOperation C_InvalidOrder C_UnknownOrder C_NotHolding C_DecodeError C_NotationError C_UnknownLetter C_InvalidAddress C_InvalidDay C_InvalidNumber C_Contradiction C_InvalidCount : Addr}
def spDice (K : PySem.W.Frag) : Sp := fun vs H Q _ => ∃ sc ns, vs = [.ref sc] ∧ SqL K H sc ((ns : List Int).map V.int) ∧ ns.length ≤ 63 ∧ ∀ H' rw, Same H H' → H rw = none → RowAt K H' rw sc ns → Q (.ref rw) H'
theorem ok_dice (T : Top K mg C_Book C_LivePost C_MailError C_InvalidOperation C_InvalidOrder C_UnknownOrder C_NotHolding C_DecodeError C_NotationError C_UnknownLetter C_InvalidAddress C_InvalidDay C_InvalidNumber C_Contradiction C_InvalidCount) : GFn P w K mg base CX0 1 "_law_dice" (spDice K) := by
  refine T.d__law_dice.fn fun f fd F => F.ok sc__law_dice (fun vs H Q E h => ?_) (fun cdv A outer s H vs Q E hr h => ?_)
  · obtain ⟨sc, ns, rfl, _⟩ := h
    rfl
  · obtain ⟨sc, ns, rfl, hS, hl, k⟩ := h
    refine ⟨_, (pss_cons (ps_set (i := 1) sc__law_dice.nd rfl (Or.inl rfl) pe_int)
  (pss_cons (ps_for PassesOwn.never rfl (pi_list (pv 0)) (pg_name (i := 2) sc__law_dice.nd rfl (Or.inl rfl))
  (pss_one (ps_set (i := 1) sc__law_dice.nd rfl (Or.inl rfl) (pe_op op_mod (pe_callTy call_int1 (by rfl) T.b_int (by decide +kernel) (pa_cons (pe_op op_add (pe_op op_add (pe_op op_mul (pv 1) pe_int) (pe_op op_mul (pe_op op_mod (pe_callTy call_int1 (by rfl) T.b_int (by decide +kernel) (pa_cons (pv 2) pa_nil)) pe_int) pe_int)) pe_int) pa_nil)) pe_int))))
  (pss_one (ps_ret (pe_lst (pa_cons (pv 0) (pa_cons pe_int (pa_cons (pe_op op_mul (pv 1) (pe_callTy call_int1 (by rfl) T.b_int (by decide +kernel) (pa_cons (pe_cmpR op_gt (pe_callB call_len_seq (by rfl) T.b_len (by decide +kernel) (pa_cons (pv 0) pa_nil)) pe_int (nomark _)) pa_nil))) (pa_cons pe_int pa_nil))))))))), ?_⟩
    refine ⟨_, rfl, sc, rfl, ⟨_, hS⟩, for_it (walk_list (xs := ns.map V.int)) (fun i σ H' => Same H H' ∧ ∃ m v2, σ = [some (.ref sc), some (.int m), v2] ∧ 0 ≤ m ∧ m < 2147483647) ⟨Same.refl _, 0, _, rfl, by decide, by decide⟩ (fun i σ H' _ p => p.1.seq hS) ?_ ?_⟩
    · rintro i y σ Hx H2 hi ⟨s2, m, v2, rfl, m0, m1⟩ ⟨rfl, ey⟩
      rw [List.length_map] at hi
      rw [List.getElem?_map, List.getElem?_eq_getElem hi] at ey
      cases ey
      generalize ns[i] = c
      have c0 : 0 ≤ c % 2147483647 := Int.emod_nonneg _ (by decide)
      have c1 : c % 2147483647 < 2147483647 := Int.emod_lt_of_pos _ (by decide)
      refine ⟨_, rfl, _, _, rfl, rfl, .inl ⟨by omega, by omega⟩, _, rfl, .inl ⟨_, rfl, _, _, rfl, rfl, (by show (0 : Int) < 2147483647; decide), _, _, rfl, rfl, .inl ⟨by omega, by omega⟩, _, _, rfl, rfl, _, _, rfl, rfl, .inl ⟨_, rfl, _, _, rfl, rfl, (by show (0 : Int) < 2147483647; decide), ?_⟩⟩⟩
      exact ⟨s2, _, _, rfl, Int.emod_nonneg _ (by decide), Int.emod_lt_of_pos _ (by decide)⟩
    · rintro σ H2 ⟨s2, m, v2, rfl, m0, m1⟩
      refine ⟨_, rfl, _, rfl, _, rfl, sc, _, rfl, .inl (s2.seq hS), _, _, rfl, rfl, .inr ⟨_, rfl, ?_⟩⟩
      generalize (decide ((2 : Int) < ((ns.map V.int).length : Nat))) = b
      refine ⟨_, _, rfl, rfl, .inl ⟨by omega, by omega⟩, (by show 4 ≤ sizeLine; decide), fun q hq => ?_⟩
      refine k _ q (s2.trans (Same.new hq)) (s2.free hq) ⟨0, m * (if b = true then 1 else 0), 0, upd_same, .of0 hS (s2.trans (Same.new hq)) (s2.free hq), ?_, ?_⟩
      · cases b <;> simp <;> omega
      · cases b <;> simp <;> omega
theorem ok_next (T : Top K mg C_Book C_LivePost C_MailError C_InvalidOperation C_InvalidOrder C_UnknownOrder C_NotHolding C_DecodeError C_NotationError C_UnknownLetter C_InvalidAddress C_InvalidDay C_InvalidNumber C_Contradiction C_InvalidCount) : GFn P w K mg base CX0 1 "_law_next" (spTaken K) := by
  refine T.d__law_next.fn fun f fd F => F.ok sc__law_next (fun vs H Q E h => ?_) (fun cdv A outer s H vs Q E hr h => ?_)
  · obtain ⟨rw, sc, ns, many, rfl, _⟩ := h
    rfl
  · obtain ⟨rw', sc, ns, many, rfl, ⟨j, m, r, h1, h2, m0, m1⟩, p0, p1, k⟩ := h
    refine ⟨_, (pss_cons (ps_if (pt_cmpR op_gt (pe_ix ix_list (pv 0) pe_int (fun _ _ => rfl)) pe_int (nomark _))
  (pss_cons (ps_set (i := 2) sc__law_next.nd rfl (Or.inl rfl) (pe_op op_mod (pe_callTy call_int1 (by rfl) T.b_int (by decide +kernel) (pa_cons (pe_ix ix_list (pv 0) pe_int (fun _ _ => rfl)) pa_nil)) (pv 1)))
  (pss_cons (ps_asg (pe_op op_fdivW (pe_ix ix_list (pv 0) pe_int (fun _ _ => rfl)) (pv 1)) (pg_sub (pv 0) pe_int set_list))
  (pss_one (ps_ret (pv 2)))))
  pss_nil)
  (pss_cons (ps_asg (pe_op op_add (pe_ix ix_list (pv 0) pe_int (fun _ _ => rfl)) pe_int) (pg_sub (pv 0) pe_int set_list))
  (pss_cons (ps_if (pt_cmpR op_le (pe_ix ix_list (pv 0) pe_int (fun _ _ => rfl)) (pe_callB call_len_seq (by rfl) T.b_len (by decide +kernel) (pa_cons (pe_ix ix_list (pv 0) pe_int (fun _ _ => rfl)) pa_nil)) (nomark _))
  (pss_cons (ps_set (i := 3) sc__law_next.nd rfl (Or.inl rfl) (pe_ix ix_list (pe_ix ix_list (pv 0) pe_int (fun _ _ => rfl)) (pe_op op_sub (pe_ix ix_list (pv 0) pe_int (fun _ _ => rfl)) pe_int) (fun _ _ => rfl)))
  (pss_cons (ps_asg (pe_ifExp (pt_cmpR op_ge (pv 3) (pe_op op_pow pe_int pe_int) (nomark _)) (pe_op op_fdivW (pv 3) (pv 1)) pe_int) (pg_sub (pv 0) pe_int set_list))
  (pss_one (ps_ret (pe_op op_mod (pe_callTy call_int1 (by rfl) T.b_int (by decide +kernel) (pa_cons (pv 3) pa_nil)) (pv 1))))))
  pss_nil)
  (pss_cons (ps_asg (pe_op op_mod (pe_callTy call_int1 (by rfl) T.b_int (by decide +kernel) (pa_cons (pe_op op_mul (pe_ix ix_list (pv 0) pe_int (fun _ _ => rfl)) pe_int) pa_nil)) pe_int) (pg_sub (pv 0) pe_int set_list))
  (pss_one (ps_ret (pe_op op_mod (pe_callTy call_int1 (by rfl) T.b_int (by decide +kernel) (pa_cons (pe_op op_fdivW (pe_ix ix_list (pv 0) pe_int (fun _ _ => rfl)) pe_int) pa_nil)) (pv 1)))))))), ?_⟩
    have S1 := SqL.of (K := K) h1
    have dv : ∀ x, CDivW x many := fun x => ⟨p0, by
      have : many.natAbs < 2 ^ 60 := by omega
      have := (Nat.log2_lt (n := many.natAbs) (k := 60) (by omega)).mpr this
      omega⟩
    have mod0 : ∀ x : Int, 0 ≤ x % many ∧ x % many < many := fun x => ⟨Int.emod_nonneg _ (by omega), Int.emod_lt_of_pos _ p0⟩
    have fr : ∀ (o : HO) b u, H b = some u → b ≠ rw' → upd H rw' o b = some u := fun o b u e nb => by rw [upd_ne nb]; exact e
    refine ⟨_, rfl, rw', _, _, _, rfl, rfl, S1, rfl, _, _, rfl, rfl, _, rfl, ?_⟩
    refine ite2 (fun c1 => ?_) (fun c1 => ?_)
    · refine ⟨_, rfl, rw', _, _, _, rfl, rfl, S1, rfl, .inl ⟨_, rfl, _, rfl, _, _, rfl, rfl, p0, ?_⟩⟩
      refine ⟨_, rfl, rw', _, _, _, rfl, rfl, S1, rfl, _, rfl, _, _, rfl, rfl, dv _, _, rfl, rw', _, _, 3, rfl, rfl, h1, rfl, ?_⟩
      refine ⟨_, rfl, k _ _ (mod0 r).1 (mod0 r).2 ?_ (fr _)⟩
      exact ⟨j, m, r / many, upd_same, h2.keep (fr _), m0, m1⟩
    · refine ⟨_, rfl, rw', _, _, _, rfl, rfl, S1, rfl, _, _, rfl, rfl, _, rfl, rw', _, _, 1, rfl, rfl, h1, rfl, ?_⟩
      have h1' : upd H rw' (.lst ([.ref sc, .int (j : Nat), .int m, .int r].set 1 (.int ((j : Nat) + 1)))) rw' = some (.lst [.ref sc, .int ((j : Nat) + 1), .int m, .int r]) := upd_same
      have h2' := h2.keep (H' := upd H rw' (.lst ([.ref sc, .int (j : Nat), .int m, .int r].set 1 (.int ((j : Nat) + 1))))) (fr _)
      have fr1 := fr (.lst ([.ref sc, .int (j : Nat), .int m, .int r].set 1 (.int ((j : Nat) + 1))))
      generalize upd H rw' _ = H1 at h1' h2' fr1
      have S2 := SqL.of (K := K) h1'
      have fr2 : ∀ (o : HO) b u, H b = some u → b ≠ rw' → upd H1 rw' o b = some u := fun o b u e nb => by rw [upd_ne nb]; exact fr1 b u e nb
      have fr3 : ∀ (o : HO) b u, H1 b = some u → b ≠ rw' → upd H1 rw' o b = some u := fun o b u e nb => by rw [upd_ne nb]; exact e
      have modm : ∀ x : Int, 0 ≤ x % 2147483647 ∧ x % 2147483647 < 2147483647 := fun x => ⟨Int.emod_nonneg _ (by omega), Int.emod_lt_of_pos _ (by omega)⟩
      refine ⟨_, rfl, rw', _, _, _, rfl, rfl, S2, rfl, _, rfl, rw', _, _, _, rfl, rfl, S2, rfl, sc, _, rfl, .inl h2'.sq, _, _, rfl, rfl, _, rfl, ?_⟩
      refine ite2 (fun c2 => ?_) (fun c2 => ?_)
      · have c2' : (j : Int) + 1 ≤ ((ns.map V.int).length : Int) := of_decide_eq_true c2
        rw [List.length_map] at c2'
        have hj : j < ns.length := by omega
        have at1 : atI (ns.map V.int) ((j : Int) + 1 - 1) = some (V.int ns[j]) := by
          have : (j : Int) + 1 - 1 = (j : Int) := by omega
          rw [this]
          exact atI_nat (by simp [hj])
        refine ⟨_, rfl, rw', _, _, _, rfl, rfl, S2, rfl, _, rfl, rw', _, _, _, rfl, rfl, S2, rfl, _, _, rfl, rfl, sc, _, _, _, rfl, rfl, h2'.sq, at1, ?_⟩
        generalize ns[j] = cell
        have fin : ∀ z : Int, tRet (tOp (rI (fun _ j => 0 < j) fun i j => V.int (i % j)) (tCB (fun xs H Q => (∃ i, xs = [V.int i] ∧ Q (V.int i) H) ∨ ∃ k, xs = [V.bl k] ∧ Q (V.int (if k = true then 1 else 0)) H) (tCons (tVar 3) tNil)) (tVar 1)) { nx := fun _ _ => False, rt := Q } [some (.ref rw'), some (.int many), none, some (.int cell)] (upd H1 rw' (.lst [.ref sc, .int ((j : Nat) + 1), .int m, .int z])) := fun z => by
          refine ⟨_, rfl, .inl ⟨_, rfl, _, rfl, _, _, rfl, rfl, p0, ?_⟩⟩
          exact k _ _ (mod0 _).1 (mod0 _).2 ⟨j + 1, m, z, upd_same, h2'.keep (fr3 _), m0, m1⟩ (fr2 _)
        refine ⟨_, rfl, _, _, rfl, rfl, ⟨by decide, by decide, by decide⟩, _, _, rfl, rfl, _, rfl, ?_⟩
        refine ite2 (fun c3 => ?_) (fun c3 => ?_)
        · exact ⟨_, rfl, _, rfl, _, _, rfl, rfl, dv _, _, rfl, rw', _, _, 3, rfl, rfl, h1', rfl, fin _⟩
        · exact ⟨_, rfl, rw', _, _, 3, rfl, rfl, h1', rfl, fin _⟩
      · refine ⟨_, rfl, rw', _, _, _, rfl, rfl, S2, rfl, _, _, rfl, rfl, .inl ⟨by omega, by omega⟩, .inl ⟨_, rfl, _, _, rfl, rfl, (by show (0 : Int) < 2147483647; decide), _, rfl, rw', _, _, 2, rfl, rfl, h1', rfl, ?_⟩⟩
        refine ⟨_, rfl, rw', _, _, _, rfl, rfl, SqL.of upd_same, rfl, _, _, rfl, rfl, ⟨by decide, by decide⟩, .inl ⟨_, rfl, _, rfl, _, _, rfl, rfl, p0, ?_⟩⟩
        exact k _ _ (mod0 _).1 (mod0 _).2 ⟨j + 1, _, r, upd_same, h2'.keep (fr3 _), (modm _).1, (modm _).2⟩ (fr2 _)
def spPick (K : PySem.W.Frag) : Sp := fun vs H Q _ => ∃ rw sc ns l, ∃ xs : List V, vs = [.ref rw, .ref l] ∧ RowAt K H rw sc ns ∧ H l = some (.lst xs) ∧ l ≠ rw ∧ 0 < xs.length ∧ xs.length ≤ 1000000 ∧ ∀ (i : Nat) v H', xs[i]? = some v → RowAt K H' rw sc ns → KeepR rw H H' → Q v H'
theorem ok_pick (T : Top K mg C_Book C_LivePost C_MailError C_InvalidOperation C_InvalidOrder C_UnknownOrder C_NotHolding C_DecodeError C_NotationError C_UnknownLetter C_InvalidAddress C_InvalidDay C_InvalidNumber C_Contradiction C_InvalidCount) : GFn P w K mg base CX0 2 "_law_pick" (spPick K) := by
  have G__law_next : GFn P w K mg base CX0 1 "_law_next" (spTaken K) := ok_next T
  refine T.d__law_pick.fn fun f fd F => F.ok sc__law_pick (fun vs H Q E h => ?_) (fun cdv A outer s H vs Q E hr h => ?_)
  · obtain ⟨rw, sc, ns, l, xs, rfl, _⟩ := h
    rfl
  · obtain ⟨rw, sc, ns, l, xs, rfl, R, hl, nl, x0, x1, k⟩ := h
    refine ⟨_, (pss_one (ps_ret (pe_ix ix_list (pv 1) (pe_g G__law_next (hr.mono (by decide)) (pa_cons (pv 0) (pa_cons (pe_callB call_len_seq (by rfl) T.b_len (by decide +kernel) (pa_cons (pv 1) pa_nil)) pa_nil))) (fun _ _ => rfl)))), ?_⟩
    refine ⟨_, rfl, _, rfl, _, rfl, l, _, rfl, .inl (SqL.of hl), rw, sc, ns, _, rfl, R, by omega, by omega, fun v H1 v0 v1 R1 k1 => ?_⟩
    obtain ⟨i, rfl⟩ := Int.eq_ofNat_of_zero_le v0
    have hi : i < xs.length := by omega
    have e : xs[i]? = some xs[i] := List.getElem?_eq_getElem hi
    exact ⟨l, xs, _, _, rfl, rfl, SqL.of (k1 _ _ hl nl), atI_nat e, k i _ H1 e R1 k1⟩
end

end MF
set_option Elab.async false
set_option linter.all false
set_option maxRecDepth 100000
set_option maxHeartbeats 2000000
set_option pp.maxSteps 600
namespace MF
open PySem PySem.Spec PyProof.Rows L2 StX
section
variable {P : Program} {w : World} {K : PySem.W.Frag} {mg : Str → Option Value} {base : Heap} {C_Book C_LivePost C_MailError C_InvalidOperation C_InvalidOrder C_UnknownOrder C_NotHolding C_DecodeError C_NotationError C_UnknownLetter C_InvalidAddress C_InvalidDay C_InvalidNumber C_Contradiction C_InvalidCount : Addr}
theorem kA_tuple : PySem.W.kitAny K (.type "tuple") [.type "tuple", .type "list"] = some true := kitAny_cons kt_tuple_tuple (fun z => by cases z) (fun _ => rfl)
theorem kA_list : PySem.W.kitAny K (.type "list") [.type "tuple", .type "list"] = some true := kitAny_cons kt_list_tuple (fun _ => kitAny_cons kt_list_list (fun z => by cases z) (fun _ => rfl)) (fun z => by cases z)
theorem kA_int : PySem.W.kitAny K (.type "int") [.type "tuple", .type "list"] = some false := kitAny_cons kt_int_tuple (fun _ => kitAny_cons kt_int_list (fun _ => kitAny_nil) (fun z => by cases z)) (fun z => by cases z)
theorem kA_bool : PySem.W.kitAny K (.type "bool") [.type "tuple", .type "list"] = some false := kitAny_cons kt_bool_tuple (fun _ => kitAny_cons kt_bool_list (fun _ => kitAny_nil) (fun z => by cases z)) (fun z => by cases z)
theorem kA_str : PySem.W.kitAny K (.type "str") [.type "tuple", .type "list"] = some false := kitAny_cons kt_str_tuple (fun _ => kitAny_cons kt_str_list (fun _ => kitAny_nil) (fun z => by cases z)) (fun z => by cases z)
theorem kA_none : PySem.W.kitAny K (.type "NoneType") [.type "tuple", .type "list"] = some false := kitAny_cons kt_NoneType_tuple (fun _ => kitAny_cons kt_NoneType_list (fun _ => kitAny_nil) (fun z => by cases z)) (fun z => by cases z)
theorem canLay_mem {d : PyData} : ∀ {ds : List PyData}, PyData.canLayAll0 ds = true → d ∈ ds → d.canLay0 = true
  | [], _, h => by cases h
  | e :: ds, c, h => by
    simp only [PyData.canLayAll0, Bool.and_eq_true] at c
    rcases List.mem_cons.mp h with rfl | h
    · exact c.1
    · exact canLay_mem c.2 h
theorem depth_mem {d : PyData} : ∀ {ds : List PyData}, d ∈ ds → d.depth ≤ PyData.depthAll ds
  | [], h => by cases h
  | e :: ds, h => by
    rw [PyData.depthAll]
    rcases List.mem_cons.mp h with rfl | h
    · exact Nat.le_max_left _ _
    · exact Nat.le_trans (depth_mem h) (Nat.le_max_right _ _)
theorem DpAll.get {H : Hp} : ∀ {xs : List V} {ds : List PyData} {i : Nat} {x : V}, DpAll K H xs ds → xs[i]? = some x → ∃ d, ds[i]? = some d ∧ Dp K H x d
  | _, _, _, _, .nil, e => by simp at e
  | _, _, 0, _, .cons h _, e => by simp at e; subst e; exact ⟨_, rfl, h⟩
  | _, _, i + 1, _, .cons _ t, e => by
    obtain ⟨d, h1, h2⟩ := DpAll.get (i := i) t (by simpa using e)
    exact ⟨d, by simpa using h1, h2⟩
theorem DpAll.len {H : Hp} : ∀ {xs : List V} {ds : List PyData}, DpAll K H xs ds → xs.length = ds.length
  | _, _, .nil => rfl
  | _, _, .cons _ t => by simp [DpAll.len t]
mutual
theorem Dp.mono {H H' : Hp} (s : Same H H') : ∀ {x : V} {d : PyData}, Dp K H x d → Dp K H' x d
  | _, _, .non => .non
  | _, _, .bl b => .bl b
  | _, _, .int i => .int i
  | _, _, .str x => .str x
  | _, _, .lst h a => .lst (s.seq h) (DpAll.mono s a)
  | _, _, .tup h a => .tup (MF.Same.tup s h) (DpAll.mono s a)
theorem DpAll.mono {H H' : Hp} (s : Same H H') : ∀ {xs : List V} {ds : List PyData}, DpAll K H xs ds → DpAll K H' xs ds
  | _, _, .nil => .nil
  | _, _, .cons h t => .cons (Dp.mono s h) (DpAll.mono s t)
end
mutual
def smallD : PyData → Bool
  | .list ds | .tuple ds => decide (ds.length ≤ 1000000) && smallAll ds
  | .none | .bool _ | .int _ | .str _ => true
  | .dict _ => false
def smallAll : List PyData → Bool
  | [] => true
  | d :: ds => smallD d && smallAll ds
end
theorem small_mem {d : PyData} : ∀ {ds : List PyData}, smallAll ds = true → d ∈ ds → smallD d = true
  | [], _, h => by cases h
  | e :: ds, c, h => by
    simp only [smallAll, Bool.and_eq_true] at c
    rcases List.mem_cons.mp h with rfl | h
    · exact c.1
    · exact small_mem c.2 h
def spAlike (K : PySem.W.Frag) (n : Nat) : Sp := fun vs H Q _ => ∃ x y d, vs = [x, y] ∧ Dp K H x d ∧ Dp K H y d ∧ d.canLay0 = true ∧ d.depth ≤ n ∧ smallD d = true ∧ ∀ H', Same H H' → Q (.bl true) H'
def SeqAt' (K : PySem.W.Frag) (H : Hp) (a : Addr) (tp : Bool) (xs : List V) : Prop := if tp = true then SqT K H a xs else SqL K H a xs
theorem SeqAt'.mono {H H' : Hp} {a : Addr} {tp : Bool} {xs : List V} (s : Same H H') (h : SeqAt' K H a tp xs) : SeqAt' K H' a tp xs := by
  cases tp
  · exact s.seq h
  · exact MF.Same.tup s h
theorem SeqAt'.ty {H : Hp} {a : Addr} {tp : Bool} {xs : List V} (h : SeqAt' K H a tp xs) : TyX K H (.ref a) (.type (if tp = true then "tuple" else "list")) := by
  cases tp
  · exact tyL h
  · exact tyT h
theorem SeqAt'.ix {H : Hp} {a : Addr} {tp : Bool} {xs : List V} {i : Nat} {v : V} {Q : VK} (h : SeqAt' K H a tp xs) (e : xs[i]? = some v) (q : Q v H) : rIx K (.ref a) (.int (0 + (i : Int))) H Q := by
  rw [Int.zero_add]
  cases tp
  · exact .inl ⟨a, xs, _, v, rfl, rfl, h, atI_nat e, q⟩
  · exact .inr (.inl ⟨a, xs, _, v, rfl, rfl, h, atI_nat e, q⟩)
theorem SeqAt'.len {H : Hp} {a : Addr} {tp : Bool} {xs : List V} (h : SeqAt' K H a tp xs) : SqL K H a xs ∨ SqT K H a xs := by
  cases tp
  · exact .inl h
  · exact .inr h
theorem kA_seq (tp : Bool) : PySem.W.kitAny K (.type (if tp = true then "tuple" else "list")) [.type "tuple", .type "list"] = some true := by
  cases tp
  · exact kA_list
  · exact kA_tuple
theorem kt_seq (tp : Bool) : PySem.W.kitOne K (.type (if tp = true then "tuple" else "list")) (.type "tuple") = some tp := by
  cases tp
  · exact kt_list_tuple
  · exact kt_tuple_tuple
def spAl (K : PySem.W.Frag) : Nat → Sp
  | 0 => fun _ _ _ _ => False
  | m + 1 => spAlike K m
theorem alike_cases {H : Hp} {x y : V} {d : PyData} {n : Nat} (hx : Dp K H x d) (hy : Dp K H y d) (cl : d.canLay0 = true) (dp : d.depth ≤ n) (sm : smallD d = true) :
    (∃ T1 b, y = x ∧ (∀ H', TyX K H' x (.type T1)) ∧ PySem.W.kitAny K (.type T1) [.type "tuple", .type "list"] = some false ∧ scal x x = true ∧ PySem.W.kitOne K (.type T1) (.type "bool") = some b) ∨
    (∃ a a' tp xs ys ds, x = .ref a ∧ y = .ref a' ∧ SeqAt' K H a tp xs ∧ SeqAt' K H a' tp ys ∧ DpAll K H xs ds ∧ DpAll K H ys ds ∧ PyData.canLayAll0 ds = true ∧ PyData.depthAll ds + 1 ≤ n ∧ ds.length ≤ 1000000 ∧ smallAll ds = true) := by
  cases hx with
  | non => cases hy; exact .inl ⟨"NoneType", _, rfl, fun _ => .base .non, kA_none, rfl, kt_NoneType_bool⟩
  | bl b => cases hy; exact .inl ⟨"bool", _, rfl, fun _ => .base (.bl b), kA_bool, rfl, kt_bool_bool⟩
  | int i => cases hy; exact .inl ⟨"int", _, rfl, fun _ => .base (.int i), kA_int, rfl, kt_int_bool⟩
  | str z => cases hy; exact .inl ⟨"str", _, rfl, fun _ => .base (.str z), kA_str, rfl, kt_str_bool⟩
  | lst h1 a1 =>
    cases hy with
    | lst h2 a2 =>
      simp only [smallD, Bool.and_eq_true, decide_eq_true_eq] at sm
      exact .inr ⟨_, _, false, _, _, _, rfl, rfl, h1, h2, a1, a2, cl, dp, sm.1, sm.2⟩
  | tup h1 a1 =>
    cases hy with
    | tup h2 a2 =>
      simp only [smallD, Bool.and_eq_true, decide_eq_true_eq] at sm
      exact .inr ⟨_, _, true, _, _, _, rfl, rfl, h1, h2, a1, a2, cl, dp, sm.1, sm.2⟩
end

end MF
set_option Elab.async false
set_option linter.all false
set_option maxRecDepth 100000
set_option maxHeartbeats 2000000
set_option pp.maxSteps 600
namespace MF
open PySem PySem.Spec PyProof.Rows L2 StX
section
theorem strOk_addr {z : Str} (h : isAddrB (.str z) = true) : PyData.strOk z = true := by
  simp only [isAddrB, Bool.and_eq_true, decide_eq_true_eq, List.all_eq_true] at h
  unfold PyData.strOk
  rw [← Array.all_toList, List.all_eq_true]
  intro c hc
  have hl : ∀ c ∈ letters.cps.toList, c < 1114112 := by decide
  exact decide_eq_true (hl c (by have := h.2 c hc; simpa using this))
theorem shaped_pt {z : Str} {d : Int} (h : isAddrB (.str z) = true) : SeqAt.shaped (.tuple [.str z, .int d]) = true := by
  have : (PyData.tuple [.str z, .int d]).canLay0 = true := by
    simp only [PyData.canLay0, PyData.canLayAll0, strOk_addr h, Bool.and_true]
  unfold SeqAt.shaped
  rw [this]
  rfl
theorem eqv_pt (A B : Pt) : PyData.eqv (.tuple [.str A.1, .int A.2]) (.tuple [.str B.1, .int B.2]) = decide (A = B) := by
  obtain ⟨a, b⟩ := A
  obtain ⟨c, d⟩ := B
  simp only [PyData.eqv, PyData.eqvAll, Bool.and_true]
  rw [Bool.eq_iff_iff]
  simp
end

end MF
set_option Elab.async false
set_option linter.all false
set_option maxRecDepth 100000
set_option maxHeartbeats 2000000
set_option pp.maxSteps 600
namespace MF
open PySem PySem.Spec PyProof.Rows L2 StX
section
variable {P : Program} {w : World} {K : PySem.W.Frag} {mg : Str → Option Value} {base : Heap} {C_Book C_LivePost C_MailError C_InvalidOperation C_InvalidOrder C_UnknownOrder C_NotHolding C_DecodeError C_NotationError C_UnknownLetter C_InvalidAddress C_InvalidDay C_InvalidNumber C_Contradiction C_InvalidCount : Addr}
theorem dp_strs {H : Hp} : ∀ ys : List Str, DpAll K H (ys.map V.str) (ys.map PyData.str)
  | [] => .nil
  | y :: ys => .cons (.str y) (dp_strs ys)
theorem eqv_strs : ∀ a b : List Str, PyData.eqvAll (a.map PyData.str) (b.map PyData.str) = decide (a = b)
  | [], [] => by simp [PyData.eqvAll]
  | [], b :: bs => by simp [PyData.eqvAll]
  | a :: as, [] => by simp [PyData.eqvAll]
  | a :: as, b :: bs => by
    rw [List.map_cons, List.map_cons, PyData.eqvAll, eqv_strs as bs]
    by_cases c : a = b
    · subst c
      simp [PyData.eqv]
    · simp [PyData.eqv, c]
theorem lay_strs {ys : List Str} (h : ∀ y ∈ ys, isAddrB (.str y) = true) : PyData.canLayAll0 (ys.map PyData.str) = true := by
  induction ys with
  | nil => simp [PyData.canLayAll0]
  | cons y ys ih =>
    rw [List.map_cons]
    simp only [PyData.canLayAll0, PyData.canLay0, ih fun z hz => h z (by simp [hz]), strOk_addr (h y (by simp)), Bool.and_self]
theorem depth_strs : ∀ ys : List Str, PyData.depthAll (ys.map PyData.str) ≤ 1
  | [] => by simp [PyData.depthAll]
  | y :: ys => by
    have := depth_strs ys
    rw [List.map_cons]
    simp only [PyData.depthAll, PyData.depth]
    omega
theorem shaped_strs {ys : List Str} (h : ∀ y ∈ ys, isAddrB (.str y) = true) : SeqAt.shaped (.list (ys.map PyData.str)) = true := by
  show ((PyData.list (ys.map PyData.str)).canLay0 && decide ((PyData.list (ys.map PyData.str)).depth ≤ 64)) = true
  rw [Bool.and_eq_true]
  refine ⟨?_, decide_eq_true ?_⟩
  · simp only [PyData.canLay0]
    exact lay_strs h
  · have := depth_strs ys
    simp only [PyData.depth]
    omega
end

end MF
set_option Elab.async false
set_option linter.all false
set_option maxRecDepth 100000
set_option maxHeartbeats 2000000
set_option pp.maxSteps 600
namespace MF
open PySem PySem.Spec PyProof.Rows L2 StX
section
variable {P : Program} {w : World} {K : PySem.W.Frag} {mg : Str → Option Value} {base : Heap} {C_Book C_LivePost C_MailError C_InvalidOperation C_InvalidOrder C_UnknownOrder C_NotHolding C_DecodeError C_NotationError C_UnknownLetter C_InvalidAddress C_InvalidDay C_InvalidNumber C_Contradiction C_InvalidCount : Addr}
theorem sl_listK {X : Cx} {K : PySem.W.Frag} (h : X.K = K := by rfl) : SlR X (rSlL K) := h ▸ sl_list
structure DK (n : Nat) (d : PyData) : Prop where
  lay : d.canLay0 = true
  dep : d.depth ≤ n
  sm : smallD d = true
theorem dk_lay : ∀ {ds : List PyData}, (∀ d ∈ ds, d.canLay0 = true) → PyData.canLayAll0 ds = true
  | [], _ => by simp [PyData.canLayAll0]
  | d :: ds, h => by simp only [PyData.canLayAll0, h d List.mem_cons_self, dk_lay fun e he => h e (List.mem_cons_of_mem _ he), Bool.and_self]
theorem dk_dep {n : Nat} : ∀ {ds : List PyData}, (∀ d ∈ ds, d.depth ≤ n) → PyData.depthAll ds ≤ n
  | [], _ => by simp [PyData.depthAll]
  | d :: ds, h => by
    rw [PyData.depthAll]
    exact Nat.max_le.mpr ⟨h d List.mem_cons_self, dk_dep fun e he => h e (List.mem_cons_of_mem _ he)⟩
theorem dk_small : ∀ {ds : List PyData}, (∀ d ∈ ds, smallD d = true) → smallAll ds = true
  | [], _ => rfl
  | d :: ds, h => by simp only [smallAll, h d List.mem_cons_self, dk_small fun e he => h e (List.mem_cons_of_mem _ he), Bool.and_self]
theorem DK.list {n : Nat} {ds : List PyData} (h : ∀ d ∈ ds, DK n d) (hl : ds.length ≤ 1000000) : DK (n + 1) (.list ds) :=
  ⟨by simp only [PyData.canLay0]; exact dk_lay fun d hd => (h d hd).lay, by simp only [PyData.depth]; have := dk_dep fun d hd => (h d hd).dep; omega, by simp only [smallD, Bool.and_eq_true]; exact ⟨decide_eq_true hl, dk_small fun d hd => (h d hd).sm⟩⟩
theorem DK.tuple {n : Nat} {ds : List PyData} (h : ∀ d ∈ ds, DK n d) (hl : ds.length ≤ 1000000) : DK (n + 1) (.tuple ds) :=
  ⟨by simp only [PyData.canLay0]; exact dk_lay fun d hd => (h d hd).lay, by simp only [PyData.depth]; have := dk_dep fun d hd => (h d hd).dep; omega, by simp only [smallD, Bool.and_eq_true]; exact ⟨decide_eq_true hl, dk_small fun d hd => (h d hd).sm⟩⟩
theorem DK.int (n : Nat) (i : Int) : DK n (.int i) := ⟨by simp only [PyData.canLay0], by simp only [PyData.depth]; omega, rfl⟩
theorem DK.bl (n : Nat) (b : Bool) : DK n (.bool b) := ⟨by simp only [PyData.canLay0], by simp only [PyData.depth]; omega, rfl⟩
theorem DK.non (n : Nat) : DK n .none := ⟨by simp only [PyData.canLay0], by simp only [PyData.depth]; omega, rfl⟩
theorem DK.strk (n : Nat) {z : Str} (h : PyData.strOk z = true) : DK n (.str z) := ⟨by simp only [PyData.canLay0, h], by simp only [PyData.depth]; omega, rfl⟩
theorem DK.str (n : Nat) {z : Str} (h : isAddrB (.str z) = true) : DK n (.str z) := DK.strk n (strOk_addr h)
theorem DK.le {n m : Nat} {d : PyData} (h : DK n d) (hm : n ≤ m) : DK m d := ⟨h.lay, Nat.le_trans h.dep hm, h.sm⟩
theorem DK.cons {n : Nat} {d : PyData} {ds : List PyData} (h : DK n d) (t : ∀ e ∈ ds, DK n e) : ∀ e ∈ d :: ds, DK n e := fun e he => by
  rcases List.mem_cons.mp he with rfl | he
  · exact h
  · exact t e he
theorem DK.nil {n : Nat} : ∀ e ∈ ([] : List PyData), DK n e := fun e he => by cases he
theorem DK.map {α : Type} {n : Nat} {f : α → PyData} {l : List α} (h : ∀ x ∈ l, DK n (f x)) : ∀ d ∈ l.map f, DK n d := fun d hd => by
  obtain ⟨x, hx, rfl⟩ := List.mem_map.mp hd
  exact h x hx
theorem DK.rep {n k : Nat} {d : PyData} (h : DK n d) : ∀ e ∈ List.replicate k d, DK n e := fun e he => by
  rw [(List.mem_replicate.mp he).2]
  exact h
theorem DK.shaped {n : Nat} {d : PyData} (h : DK n d) (hn : n ≤ 64) : SeqAt.shaped d = true := by
  unfold SeqAt.shaped
  rw [h.lay, Bool.true_and]
  exact decide_eq_true (Nat.le_trans h.dep hn)
theorem dkMap {H : Hp} {α : Type} {f : α → V} {g : α → PyData} (h : ∀ x, Dp K H (f x) (g x)) : ∀ l : List α, DpAll K H (l.map f) (l.map g)
  | [] => .nil
  | x :: l => .cons (h x) (dkMap h l)
theorem dkMem {H : Hp} {f : V → PyData} : ∀ l : List V, (∀ x ∈ l, Dp K H x (f x)) → DpAll K H l (l.map f)
  | [], _ => .nil
  | x :: l, h => .cons (h x List.mem_cons_self) (dkMem l fun y hy => h y (List.mem_cons_of_mem _ hy))
theorem dkPair {H : Hp} {α β : Type} {R : α → β → Prop} {f : α → V} {g : β → PyData} (h : ∀ a b, R a b → Dp K H (f a) (g b)) : ∀ {as : List α} {bs : List β}, Paired R as bs → DpAll K H (as.map f) (bs.map g)
  | _, _, .nil => .nil
  | _, _, .cons a t => .cons (h _ _ a) (dkPair h t)
theorem dkRep {H : Hp} {v : V} {d : PyData} (h : Dp K H v d) : ∀ n, DpAll K H (List.replicate n v) (List.replicate n d)
  | 0 => .nil
  | n + 1 => .cons h (dkRep h n)
theorem eqvMap {α : Type} [DecidableEq α] {f : α → PyData} (h : ∀ a b, PyData.eqv (f a) (f b) = decide (a = b)) : ∀ l l' : List α, PyData.eqvAll (l.map f) (l'.map f) = decide (l = l')
  | [], [] => by simp [PyData.eqvAll]
  | [], b :: bs => by simp [PyData.eqvAll]
  | a :: as, [] => by simp [PyData.eqvAll]
  | a :: as, b :: bs => by
    rw [List.map_cons, List.map_cons, PyData.eqvAll, eqvMap h as bs, h]
    by_cases c : a = b
    · subst c
      simp
    · simp [c]
def ordDK (o : Ordr) : PyData := .tuple [.str o.src, .str o.tgt, .int o.first, .int o.last, .int o.way]
theorem DK.ord {o : Ordr} (h : o.Ok) : DK 1 (ordDK o) := .tuple (.cons (.str 0 h.as) (.cons (.str 0 h.at_) (.cons (.int 0 _) (.cons (.int 0 _) (.cons (.int 0 _) .nil))))) (by show 5 ≤ _; decide)
theorem dkOrds {H : Hp} {as : List Addr} {os : List Ordr} (h : OrdsAt K H as os) : DpAll K H (as.map V.ref) (os.map ordDK) :=
  dkPair (R := OrdAt K H) (fun a o oa => .tup oa (.cons (.str _) (.cons (.str _) (.cons (.int _) (.cons (.int _) (.cons (.int _) .nil)))))) h
theorem eqvOrd (o p : Ordr) : PyData.eqv (ordDK o) (ordDK p) = decide (o = p) := by
  obtain ⟨a, b, c, d, e⟩ := o
  obtain ⟨a', b', c', d', e'⟩ := p
  unfold ordDK
  simp only [PyData.eqv, PyData.eqvAll, Bool.and_true]
  rw [Bool.eq_iff_iff]
  simp
theorem eqvOrds (l l' : List Ordr) : PyData.eqvAll (l.map ordDK) (l'.map ordDK) = decide (l = l') := eqvMap eqvOrd l l'
theorem eqvInt (i j : Int) : PyData.eqv (.int i) (.int j) = decide (i = j) := rfl
end

end MF
set_option Elab.async false
set_option linter.all false
set_option maxRecDepth 100000
set_option maxHeartbeats 2000000
set_option pp.maxSteps 600
namespace MF
open PySem PySem.Spec PyProof.Rows L2 StX
section
variable {P : Program} {w : World} {K : PySem.W.Frag} {mg : Str → Option Value} {base : Heap} {C_Book C_LivePost C_MailError C_InvalidOperation C_InvalidOrder C_UnknownOrder C_NotHolding C_DecodeError C_NotationError C_UnknownLetter C_InvalidAddress C_InvalidDay C_InvalidNumber C_Contradiction C_InvalidCount : Addr}
structure DrawnOs (most long : Nat) (os : List Ordr) : Prop where
  good : Good os
  len : os.length ≤ most
  names : ∀ o ∈ os, ∃ i j, i < 6 ∧ j < 6 ∧ o.src = nmS i ∧ o.tgt = nmS j
  tight : ∀ o ∈ os, o.last < (most : Int) * (14 + max 12 (long : Int))
  lasts : ∀ o ∈ os, o.last < (most : Int) * (27 + long)
  ways : ∀ o ∈ os, o.way ≤ 14
  spans : ∀ o ∈ os, o.last - o.first < max 12 (long : Int)
structure DrawnSo (B : Int) (i : Nat) (os : List Ordr) (kvs : List (Key × V)) : Prop where
  len : os.length ≤ i
  klen : kvs.length ≤ i
  ok : ∀ o ∈ os, o.Ok
  apart : os.Pairwise fun o p => overB o p = false
  names : ∀ o ∈ os, ∃ i j, i < 6 ∧ j < 6 ∧ o.src = nmS i ∧ o.tgt = nmS j
  ways : ∀ o ∈ os, o.way ≤ 14
  vals : ∀ s v, valV kvs (.inr s : Key) = some v → ∃ z : Int, v = .int z ∧ 0 ≤ z ∧ z ≤ i * B
  free : ∀ o ∈ os, ∃ z : Int, valV kvs (.inr o.src : Key) = some (.int z) ∧ o.last < z
  spans : ∀ o ∈ os, o.last - o.first < B - 14
theorem DrawnSo.nil (B : Int) : DrawnSo B 0 [] [] := ⟨Nat.le_refl _, Nat.le_refl _, (fun _ z => by cases z), .nil, (fun _ z => by cases z), (fun _ z => by cases z), (fun _ _ z => by cases z), (fun _ z => by cases z), (fun _ z => by cases z)⟩
theorem DrawnSo.skip {B : Int} {i : Nat} {os : List Ordr} {kvs : List (Key × V)} (b0 : 0 ≤ B) (D : DrawnSo B i os kvs) : DrawnSo B (i + 1) os kvs :=
  ⟨by have := D.len; omega, by have := D.klen; omega, D.ok, D.apart, D.names, D.ways, fun s v h => by
    obtain ⟨z, a, b, c⟩ := D.vals s v h
    refine ⟨z, a, b, ?_⟩
    push_cast
    rw [Int.add_mul, Int.one_mul]
    omega, D.free, D.spans⟩
theorem DrawnSo.snoc {B : Int} {i : Nat} {os : List Ordr} {kvs : List (Key × V)} (b0 : 0 ≤ B) (hB : (i : Int) * B ≤ 1000000) (hb : B ≤ 1000000) (D : DrawnSo B i os kvs) {a b : Nat} (ha : a < 6) (hb' : b < 6) (hne : nmS a ≠ nmS b) {f l w z : Int} (hz : (valV kvs (.inr (nmS a) : Key)).getD (.int 0) = .int z)
    (f0 : z ≤ f) (fl : f ≤ l) (lB : l + 1 ≤ z + B) (lf : l - f < B - 14) (w1 : 1 ≤ w) (w14 : w ≤ 14) : DrawnSo B (i + 1) (os ++ [⟨nmS a, nmS b, f, l, w⟩]) (putK kvs (.inr (nmS a)) (.int (l + 1))) := by
  have z0 : 0 ≤ z ∧ z ≤ i * B := by
    cases q : valV kvs (.inr (nmS a) : Key) with
    | none =>
      rw [q] at hz
      cases hz
      exact ⟨Int.le_refl _, Int.mul_nonneg (Int.natCast_nonneg _) b0⟩
    | some v =>
      obtain ⟨z', e1, e2, e3⟩ := D.vals _ _ q
      rw [q, e1] at hz
      cases hz
      exact ⟨e2, e3⟩
  have mem : ∀ {o}, o ∈ os ++ [(⟨nmS a, nmS b, f, l, w⟩ : Ordr)] → o ∈ os ∨ o = ⟨nmS a, nmS b, f, l, w⟩ := fun {o} h => by
    rcases List.mem_append.mp h with h | h
    · exact .inl h
    · exact .inr (List.mem_singleton.mp h)
  have eB : ((i + 1 : Nat) : Int) * B = i * B + B := by
    push_cast
    rw [Int.add_mul, Int.one_mul]
  refine ⟨?_, ?_, ?_, ?_, ?_, ?_, ?_, ?_, ?_⟩
  · rw [List.length_append]
    have := D.len
    show os.length + 1 ≤ i + 1
    omega
  · have := length_putK kvs (.inr (nmS a)) (.int (l + 1))
    have := D.klen
    omega
  · intro o h
    rcases mem h with h | rfl
    · exact D.ok o h
    · exact ⟨nmS_addr ha, nmS_addr hb', hne, by show 0 ≤ f; omega, fl, by show l ≤ _; omega, w1, by show w ≤ 30; omega⟩
  · refine List.pairwise_append.mpr ⟨D.apart, by simp, fun o ho p hp => ?_⟩
    rw [List.mem_singleton.mp hp]
    by_cases q : o.src = nmS a
    · obtain ⟨z', e1, e2⟩ := D.free o ho
      rw [q] at e1
      rw [e1] at hz
      cases hz
      have : ¬ f ≤ o.last := by omega
      show (_ && (_ && decide (f ≤ o.last))) = false
      rw [decide_eq_false this, Bool.and_false, Bool.and_false]
    · show (decide (o.src = nmS a) && _) = false
      rw [decide_eq_false q, Bool.false_and]
  · intro o h
    rcases mem h with h | rfl
    · exact D.names o h
    · exact ⟨a, b, ha, hb', rfl, rfl⟩
  · intro o h
    rcases mem h with h | rfl
    · exact D.ways o h
    · exact w14
  · intro s v h
    rw [valV_put] at h
    rw [eB]
    by_cases ea : (Sum.inr s : Key) = Sum.inr (nmS a)
    · rw [if_pos ea] at h
      cases h
      exact ⟨l + 1, rfl, by omega, by omega⟩
    · rw [if_neg ea] at h
      obtain ⟨z', e1, e2, e3⟩ := D.vals s v h
      exact ⟨z', e1, e2, by omega⟩
  · intro o h
    rw [valV_put]
    rcases mem h with h | rfl
    · by_cases ea : (Sum.inr o.src : Key) = Sum.inr (nmS a)
      · rw [if_pos ea]
        refine ⟨l + 1, rfl, ?_⟩
        obtain ⟨z', e1, e2⟩ := D.free o h
        rw [ea] at e1
        rw [e1] at hz
        cases hz
        omega
      · rw [if_neg ea]
        exact D.free o h
    · rw [if_pos rfl]
      exact ⟨l + 1, rfl, by show l < l + 1; omega⟩
  · intro o h
    rcases mem h with h | rfl
    · exact D.spans o h
    · exact lf
theorem overB_comm (o p : Ordr) : overB o p = overB p o := by
  unfold overB
  by_cases e : o.src = p.src
  · rw [decide_eq_true e, decide_eq_true e.symm, Bool.true_and, Bool.true_and, Bool.and_comm]
  · rw [decide_eq_false e, decide_eq_false (show ¬ p.src = o.src from fun z => e z.symm), Bool.false_and, Bool.false_and]
theorem DrawnSo.done {most long i t : Nat} {os : List Ordr} {kvs : List (Key × V)} (D : DrawnSo (14 + max 12 (long : Int)) i os kvs) (hi : i ≤ most) (hm : most ≤ 30) : DrawnOs most long (os.drop t ++ os.take t) := by
  have mem : ∀ {o}, o ∈ os.drop t ++ os.take t → o ∈ os := fun {o} h => by
    rcases List.mem_append.mp h with h | h
    · exact List.mem_of_mem_drop h
    · exact List.mem_of_mem_take h
  have el : (os.drop t ++ os.take t).length = os.length := by
    rw [List.length_append, List.length_drop, List.length_take]
    omega
  have hl := D.len
  have ap : (os.take t ++ os.drop t).Pairwise fun o p => overB o p = false := by
    rw [List.take_append_drop]
    exact D.apart
  obtain ⟨a1, a2, a3⟩ := List.pairwise_append.mp ap
  have tg : ∀ o ∈ os.drop t ++ os.take t, o.last < (most : Int) * (14 + max 12 (long : Int)) := fun o h => by
    obtain ⟨z, e1, e2⟩ := D.free o (mem h)
    obtain ⟨z', e3, e4, e5⟩ := D.vals _ _ e1
    cases e3
    have : (i : Int) * (14 + max 12 (long : Int)) ≤ (most : Int) * (14 + max 12 (long : Int)) := Int.mul_le_mul_of_nonneg_right (by omega) (by omega)
    omega
  refine ⟨⟨by omega, fun o h => D.ok o (mem h), ?_⟩, by omega, fun o h => D.names o (mem h), tg, fun o h => ?_, fun o h => D.ways o (mem h), fun o h => by have := D.spans o (mem h); omega⟩
  · exact List.pairwise_append.mpr ⟨a2, a1, fun o ho p hp => by rw [overB_comm]; exact a3 p hp o ho⟩
  · have h1 := tg o h
    have h2 : (most : Int) * (14 + max 12 (long : Int)) ≤ (most : Int) * (27 + long) := Int.mul_le_mul_of_nonneg_left (by omega) (by omega)
    omega
theorem cut_drop (xs : List V) (i : Nat) (h : i ≤ xs.length) : cutV xs (some (i : Int)) none = xs.drop i := by
  unfold cutV
  rw [HT.sIx_none, HT.sIx_nat, Nat.min_eq_left h, List.take_of_length_le (by rw [List.length_drop]; omega)]
theorem pairedDrop {α β : Type} {r : α → β → Prop} : ∀ {as : List α} {bs : List β} (n : Nat), PySem.Paired r as bs → PySem.Paired r (as.drop n) (bs.drop n)
  | _, _, 0, h => h
  | _, _, n + 1, .nil => .nil
  | _, _, n + 1, .cons _ h => pairedDrop n h
theorem pairedTake {α β : Type} {r : α → β → Prop} : ∀ {as : List α} {bs : List β} (n : Nat), PySem.Paired r as bs → PySem.Paired r (as.take n) (bs.take n)
  | _, _, 0, h => .nil
  | _, _, n + 1, .nil => .nil
  | _, _, n + 1, .cons h1 h => .cons h1 (pairedTake n h)
structure OSt (K : PySem.W.Frag) (H0 H : Hp) (rw sc : Addr) (ns : List Int) (lf df : Addr) (as : List Addr) (os : List Ordr) (kvs : List (Key × V)) (B : Int) (i : Nat) : Prop where
  kr : KeepR rw H0 H
  row : RowAt K H rw sc ns
  hl : H lf = some (.lst (as.map V.ref))
  hd : H df = some (.dK kvs)
  ords : OrdsAt K H as os
  D : DrawnSo B i os kvs
  nl : H0 lf = none
  nd : H0 df = none
  lr : lf ≠ rw
  dr : df ≠ rw
section
variable {H0 H H' : Hp} {rw sc lf df : Addr} {ns : List Int} {as : List Addr} {os : List Ordr} {kvs : List (Key × V)} {B : Int} {i : Nat}
theorem OSt.taken (S : OSt K H0 H rw sc ns lf df as os kvs B i) (R : RowAt K H' rw sc ns) (k : KeepR rw H H') : OSt K H0 H' rw sc ns lf df as os kvs B i :=
  ⟨S.kr.trans k, R, k _ _ S.hl S.lr, k _ _ S.hd S.dr, S.ords.keepR (k.tup S.row), S.D, S.nl, S.nd, S.lr, S.dr⟩
theorem OSt.same (S : OSt K H0 H rw sc ns lf df as os kvs B i) (s : Same H H') : OSt K H0 H' rw sc ns lf df as os kvs B i := S.taken (S.row.keep s) (KeepR.of s)
end
theorem pick3 {a b c v : Int} (h0 : 0 ≤ v) (h3 : v < 3) : ∃ z, atI [V.int a, .int b, .int c] v = some (.int z) ∧ (z = a ∨ z = b ∨ z = c) := by
  have : v = 0 ∨ v = 1 ∨ v = 2 := by omega
  rcases this with rfl | rfl | rfl
  · exact ⟨a, rfl, .inl rfl⟩
  · exact ⟨b, rfl, .inr (.inl rfl)⟩
  · exact ⟨c, rfl, .inr (.inr rfl)⟩
def spOrders (K : PySem.W.Frag) : Sp := fun vs H Q _ => ∃ rw sc ns, ∃ most long : Nat, vs = [.ref rw, .int (most : Nat), .int (long : Nat)] ∧ RowAt K H rw sc ns ∧ most ≤ 20 ∧ 1 ≤ long ∧ long ≤ 200 ∧
  ∀ H' l as os, KeepR rw H H' → H l = none → RowAt K H' rw sc ns → H' l = some (.lst (as.map V.ref)) → OrdsAt K H' as os → DrawnOs most long os → Q (.ref l) H'
end

end MF
set_option Elab.async false
set_option linter.all false
set_option maxRecDepth 100000
set_option maxHeartbeats 2000000
set_option pp.maxSteps 600
namespace MF
open PySem PySem.Spec PyProof.Rows L2 StX
section
variable {P : Program} {w : World} {K : PySem.W.Frag} {mg : Str → Option Value} {base : Heap} {C_Book C_LivePost C_MailError C_InvalidOperation C_InvalidOrder C_UnknownOrder C_NotHolding C_DecodeError C_NotationError C_UnknownLetter C_InvalidAddress C_InvalidDay C_InvalidNumber C_Contradiction C_InvalidCount : Addr}
theorem abc_len : Str.length "abcdef" ≤ sizeLine := by decide +kernel
theorem abc_ix {i : Int} (h0 : 0 ≤ i) (h1 : i < 6) : atI (Str.cps "abcdef").toList i = some (97 + i.toNat) := by
  have : i = 0 ∨ i = 1 ∨ i = 2 ∨ i = 3 ∨ i = 4 ∨ i = 5 := by omega
  rcases this with rfl | rfl | rfl | rfl | rfl | rfl <;> decide +kernel
theorem KeepR.free {rw sc t : Addr} {ns : List Int} {H H' : Hp} (k : KeepR rw H H') (r : RowAt K H' rw sc ns) (h : H' t = none) : H t = none := by
  cases q : H t with
  | none => rfl
  | some u =>
    by_cases z : t = rw
    · obtain ⟨xs, e⟩ := r.ex
      rw [z, e] at h
      cases h
    · rw [k t u q z] at h
      cases h
end

end MF
set_option Elab.async false
set_option linter.all false
set_option maxRecDepth 100000
set_option maxHeartbeats 2000000
set_option pp.maxSteps 600
namespace MF
open PySem PySem.Spec PyProof.Rows L2 StX
section
variable {P : Program} {w : World} {K : PySem.W.Frag} {mg : Str → Option Value} {base : Heap} {C_Book C_LivePost C_MailError C_InvalidOperation C_InvalidOrder C_UnknownOrder C_NotHolding C_DecodeError C_NotationError C_UnknownLetter C_InvalidAddress C_InvalidDay C_InvalidNumber C_Contradiction C_InvalidCount : Addr}
structure PS (K : PySem.W.Frag) (H0 H : Hp) (rw sc : Addr) (ns : List Int) (l : Addr) (as : List Addr) (os : List Ordr) : Prop where
  s0 : Same H0 H
  row : RowAt K H rw sc ns
  el : H l = some (.lst (as.map V.ref))
  ords : OrdsAt K H as os
  nl : l ≠ rw
theorem PS.same {H0 H H' : Hp} {rw sc : Addr} {ns : List Int} {l : Addr} {as : List Addr} {os : List Ordr} (S : PS K H0 H rw sc ns l as os) (s : Same H H') : PS K H0 H' rw sc ns l as os := ⟨S.s0.trans s, S.row.keep s, s _ _ S.el, S.ords.mono s, S.nl⟩
theorem PS.keepR {H0 H H' : Hp} {rw sc : Addr} {ns : List Int} {l : Addr} {as : List Addr} {os : List Ordr} (S : PS K H0 H rw sc ns l as os) (h0 : H0 rw = none) (r : RowAt K H' rw sc ns) (k : KeepR rw H H') : PS K H0 H' rw sc ns l as os :=
  ⟨fun b u e => k b u (S.s0 b u e) (ne_of_none e h0), r, k _ _ S.el S.nl, S.ords.keepR (k.tup S.row), S.nl⟩
theorem BookAt.keepR {C rw sc : Addr} {ns : List Int} {H H' : Hp} {bk : Addr} {os : List Ordr} (B : BookAt K C H bk os) (nb : bk ≠ rw) (R : RowAt K H rw sc ns) (k : KeepR rw H H') : BookAt K C H' bk os := B.kept (fun u e => k _ _ e nb) (k.tup R)
theorem RowAt.fresh {H : Hp} {rw sc p : Addr} {ns : List Int} (R : RowAt K H rw sc ns) (h : H p = none) : p ≠ rw := by
  obtain ⟨xs, q⟩ := R.ex
  exact (ne_of_none q h).symm
def farO (f l w : Int) : Ordr := ⟨"a", "g", f, l, w⟩
theorem far_good {most long : Nat} {os : List Ordr} {f l w : Int} (D : DrawnOs most long os) (hm : most ≤ 29) (hf : (most : Int) * (14 + max 12 (long : Int)) ≤ f) (h0 : 0 ≤ f) (hl : f ≤ l) (hl' : l ≤ 1000000000000000000) (hw : 1 ≤ w) (hw' : w ≤ 30) : Good (os ++ [farO f l w]) := by
  refine ⟨?_, fun o ho => ?_, ?_⟩
  · have := D.len
    rw [List.length_append]
    simp only [List.length_cons, List.length_nil]
    omega
  · rcases List.mem_append.mp ho with z | z
    · exact D.good.ok o z
    · rw [List.mem_singleton.mp z]
      exact ⟨by show isAddrB (.str "a") = true; decide, by show isAddrB (.str "g") = true; decide, by show ("a" : Str) ≠ "g"; decide, h0, hl, hl', hw, hw'⟩
  · refine List.pairwise_append.mpr ⟨D.good.apart, by simp, fun o ho p hp => ?_⟩
    rw [List.mem_singleton.mp hp]
    unfold overB
    have := D.tight o ho
    have : ¬ (farO f l w).first ≤ o.last := by
      show ¬ f ≤ o.last
      omega
    rw [decide_eq_false this, Bool.and_false, Bool.and_false]
end

end MF
set_option Elab.async false
set_option linter.all false
set_option maxRecDepth 100000
set_option maxHeartbeats 2000000
set_option pp.maxSteps 600
namespace MF
open PySem PySem.Spec PyProof.Rows L2 StX
section
variable {P : Program} {w : World} {K : PySem.W.Frag} {mg : Str → Option Value} {base : Heap} {C_Book C_LivePost C_MailError C_InvalidOperation C_InvalidOrder C_UnknownOrder C_NotHolding C_DecodeError C_NotationError C_UnknownLetter C_InvalidAddress C_InvalidDay C_InvalidNumber C_Contradiction C_InvalidCount : Addr}
def RK : Err → Prop
  | .address => True
  | .number => True
  | .operation _ => True
  | .order _ => True
  | .unknown _ => True
  | .holding _ => True
  | .letter _ => True
  | _ => False
end

end MF
set_option Elab.async false
set_option linter.all false
set_option maxRecDepth 100000
set_option maxHeartbeats 2000000
set_option pp.maxSteps 600
namespace MF
open PySem PySem.Spec PyProof.Rows L2 StX
section
variable {P : Program} {w : World} {K : PySem.W.Frag} {mg : Str → Option Value} {base : Heap} {C_Book C_LivePost C_MailError C_InvalidOperation C_InvalidOrder C_UnknownOrder C_NotHolding C_DecodeError C_NotationError C_UnknownLetter C_InvalidAddress C_InvalidDay C_InvalidNumber C_Contradiction C_InvalidCount : Addr}
theorem tabs_keepR {T : List (Addr × Str)} {H H' : Hp} {rw sc : Addr} {ns : List Int} (R : RowAt K H rw sc ns) (t : LamX.Tabs T H) (k : KeepR rw H H') : LamX.Tabs T H' := fun p hp => by
  obtain ⟨xs, hr⟩ := R.ex
  obtain ⟨ps, h1, h2, h3⟩ := t p hp
  have ne : ∀ {b : Addr} {o : HO}, H b = some o → (∀ l, o ≠ .lst l) → H' b = some o := fun {b o} e n => k _ _ e fun z => by
    rw [z, hr] at e
    cases e
    exact n _ rfl
  refine ⟨ps, ne h1 (fun l z => by cases z), h2, fun pos cv hc => ?_⟩
  obtain ⟨c, e1, e2⟩ := h3 pos cv hc
  exact ⟨c, e1, ne e2 (fun l z => by cases z)⟩
theorem row_nil {H : Hp} {rw sc r : Addr} {ns : List Int} (R : RowAt K H rw sc ns) (z : H r = none) : r ≠ rw := fun e => by
  obtain ⟨xs, q⟩ := R.ex
  rw [← e, z] at q
  cases q
theorem row_extN {H H' : Hp} {rw sc : Addr} {ns : List Int} (R : RowAt K H rw sc ns) (e : LamX.ExtN H H') : RowAt K H' rw sc ns := by
  obtain ⟨j, m, r, h1, h2, h3⟩ := R
  refine ⟨j, m, r, e _ _ h1 (fun ps z => by cases z), ?_, h3⟩
  rcases h2 with ⟨h | ⟨o, h⟩, n⟩ | h
  · exact .inl ⟨.inl (e _ _ h (fun ps z => by cases z)), n⟩
  · exact .inl ⟨.inr ⟨o, e _ _ h (fun ps z => by cases z)⟩, n⟩
  · exact .inr h
theorem book_extN {C : Addr} {H H' : Hp} {p : Addr} {os : List Ordr} (h : BookAt K C H p os) (e : LamX.ExtN H H') : BookAt K C H' p os := by
  have h0 := h
  obtain ⟨dx, t, as, h1, _, _⟩ := h0
  refine h.kept (fun u hu => e _ _ hu (fun ps z => ?_)) (fun b u hu y => e _ _ hu (fun ps z => by rw [z] at y; cases y))
  rw [h1, Option.some.injEq] at hu
  rw [← hu] at z
  cases z
theorem tabs_but {T : List (Addr × Str)} {H H' : Hp} {lw : Addr} {xs : List V} (hr : H lw = some (.lst xs)) (t : LamX.Tabs T H) (k : ∀ b u, H b = some u → b ≠ lw → H' b = some u) : LamX.Tabs T H' := fun p hp => by
  obtain ⟨ps, h1, h2, h3⟩ := t p hp
  have ne : ∀ {b : Addr} {o : HO}, H b = some o → (∀ l, o ≠ .lst l) → H' b = some o := fun {b o} e n => k _ _ e fun z => by
    rw [z, hr] at e
    cases e
    exact n _ rfl
  refine ⟨ps, ne h1 (fun l z => by cases z), h2, fun pos cv hc => ?_⟩
  obtain ⟨c, e1, e2⟩ := h3 pos cv hc
  exact ⟨c, e1, ne e2 (fun l z => by cases z)⟩
theorem updS {H H2 : Hp} {q : Addr} {o : HO} (e : L2.upd H q o = H2) : (∀ b u, H b = some u → b ≠ q → H2 b = some u) ∧ H2 q = some o := by
  subst e
  exact ⟨fun b u h n => by rw [upd_ne n]; exact h, upd_same⟩
theorem upT {H H2 : Hp} {q : Addr} {xs : List V} (hq : H q = some (.lst xs)) (up : ∀ b u, H b = some u → b ≠ q → H2 b = some u) : ∀ b u, H b = some u → tupl u = true → H2 b = some u := fun b u e y => up _ _ e fun z => by
  rw [z, hq] at e
  cases e
  cases y
theorem keepR_ord {H H' : Hp} {rw sc : Addr} {ns : List Int} (R : RowAt K H rw sc ns) (k : ∀ b u, H b = some u → b ≠ rw → H' b = some u) {q : Addr} {o : Ordr} (h : OrdAt K H q o) : OrdAt K H' q o := by
  have : OrdsAt K H [q] [o] := .cons h .nil
  cases this.keepR (KeepR.tup k R) with
  | cons a _ => exact a
theorem ord_but {H H' : Hp} {q : Addr} {o : Ordr} (h : OrdAt K H q o) (k : ∀ b u, H b = some u → tupl u = true → H' b = some u) : OrdAt K H' q o := by
  have : OrdsAt K H [q] [o] := .cons h .nil
  cases this.keepR k with
  | cons a _ => exact a
theorem sq_extN {H H' : Hp} {l : Addr} {xs : List V} (h : SqL K H l xs) (e : LamX.ExtN H H') : SqL K H' l xs := by
  rcases h with (h | ⟨o, h⟩) | h
  · exact .inl (.inl (e _ _ h fun ps z => by cases z))
  · exact .inl (.inr ⟨o, e _ _ h fun ps z => by cases z⟩)
  · exact .inr h
theorem ords_extN {H H' : Hp} {as : List Addr} {os : List Ordr} (h : OrdsAt K H as os) (e : LamX.ExtN H H') : OrdsAt K H' as os := h.keepR fun b u hu y => e _ _ hu fun ps z => by rw [z] at y; cases y
def lawQ : Str := "law.<locals>.<lambda>"
end

end MF
set_option Elab.async false
set_option linter.all false
set_option maxRecDepth 100000
set_option maxHeartbeats 2000000
set_option pp.maxSteps 600
namespace MF
open PySem PySem.Spec PyProof.Rows L2 StX
section
variable {P : Program} {w : World} {K : PySem.W.Frag} {mg : Str → Option Value} {base : Heap} {C_Book C_LivePost C_MailError C_InvalidOperation C_InvalidOrder C_UnknownOrder C_NotHolding C_DecodeError C_NotationError C_UnknownLetter C_InvalidAddress C_InvalidDay C_InvalidNumber C_Contradiction C_InvalidCount : Addr}
def D4 : List Str := ["a", "b", "c", "dd"]
theorem D4_addr : ∀ z ∈ D4, isAddrB (.str z) = true := by decide +kernel
structure OD (most : Int) (o : Ordr) : Prop where
  src : o.src ∈ D4
  tgt : o.tgt ∈ D4
  ne : o.src ≠ o.tgt
  f0 : 0 ≤ o.first
  fm : o.first < most
  fl : o.first ≤ o.last
  lm : o.last < o.first + most
  w1 : 1 ≤ o.way
  w5 : o.way ≤ 5
theorem OD.ok {most : Int} {o : Ordr} (h : OD most o) (hm : most ≤ 1000) : o.Ok := ⟨D4_addr _ h.src, D4_addr _ h.tgt, h.ne, h.f0, h.fl, by have := h.lm; have := h.fm; omega, h.w1, by have := h.w5; omega⟩
def spOrderD (K : PySem.W.Frag) : Sp := fun vs H Q _ => ∃ rw sc ns most, vs = [.ref rw, .int most] ∧ RowAt K H rw sc ns ∧ 1 ≤ most ∧ most ≤ 1000 ∧ ∀ H' q o, KeepR rw H H' → H q = none → RowAt K H' rw sc ns → OrdAt K H' q o → OD most o → Q (.ref q) H'
theorem ok_orderD (T : Top K mg C_Book C_LivePost C_MailError C_InvalidOperation C_InvalidOrder C_UnknownOrder C_NotHolding C_DecodeError C_NotationError C_UnknownLetter C_InvalidAddress C_InvalidDay C_InvalidNumber C_Contradiction C_InvalidCount) : GFn P w K mg base CX0 3 "_law_order" (spOrderD K) := by
  have G__law_next : GFn P w K mg base CX0 1 "_law_next" (spTaken K) := ok_next T
  have G__law_pick : GFn P w K mg base CX0 2 "_law_pick" (spPick K) := ok_pick T
  refine T.d__law_order.fn fun f fd F => F.ok sc__law_order (fun vs H Q E h => ?_) (fun cdv A outer s H vs Q E hr h => ?_)
  · obtain ⟨rw, sc, ns, most, rfl, _⟩ := h
    rfl
  · obtain ⟨rw, sc, ns, most, rfl, R, m1, m2, k⟩ := h
    refine ⟨_, (pss_cons (ps_set (i := 2) sc__law_order.nd rfl (Or.inl rfl) (pe_lst (pa_cons pe_str (pa_cons pe_str (pa_cons pe_str (pa_cons pe_str pa_nil))))))
  (pss_cons (ps_set (i := 3) sc__law_order.nd rfl (Or.inl rfl) (pe_bm PySem.F.plainAttrs_list PySem.F.slot_list_pop PySem.F.type_list_pop mt_popAt (pv 2) (pa_cons (pe_g G__law_next (hr.mono (by decide)) (pa_cons (pv 0) (pa_cons pe_int pa_nil))) pa_nil)))
  (pss_cons (ps_set (i := 4) sc__law_order.nd rfl (Or.inl rfl) (pe_g G__law_next (hr.mono (by decide)) (pa_cons (pv 0) (pa_cons (pv 1) pa_nil))))
  (pss_one (ps_ret (pe_tup (pa_cons (pv 3) (pa_cons (pe_g G__law_pick (hr.mono (by decide)) (pa_cons (pv 0) (pa_cons (pv 2) pa_nil))) (pa_cons (pv 4) (pa_cons (pe_op op_add (pv 4) (pe_g G__law_next (hr.mono (by decide)) (pa_cons (pv 0) (pa_cons (pv 1) pa_nil)))) (pa_cons (pe_op op_add pe_int (pe_g G__law_next (hr.mono (by decide)) (pa_cons (pv 0) (pa_cons (pe_ix ix_list (pe_lst (pa_cons pe_int (pa_cons pe_int pa_nil))) (pe_g G__law_next (hr.mono (by decide)) (pa_cons (pv 0) (pa_cons pe_int pa_nil))) (fun _ _ => rfl)) pa_nil)))) pa_nil))))))))))), ?_⟩
    refine ⟨(by show 4 ≤ sizeLine; decide), ?_⟩
    intro ln hln
    generalize gH1 : L2.upd _ ln _ = H1
    obtain ⟨s1, e1⟩ := newS hln gH1
    clear gH1
    have R1 := R.keep s1
    have nl : ln ≠ rw := fun e => by obtain ⟨xs, q⟩ := R.ex; rw [← e, hln] at q; cases q
    refine ⟨_, rfl, .inl ⟨rfl, _, SqL.of e1⟩, _, rfl, rw, sc, ns, 4, rfl, R1, by decide, by decide, fun v H2 v0 v1 R2 k2 => ?_⟩
    have e2 : H2 ln = some (.lst (D4.map V.str)) := k2 _ _ e1 nl
    obtain ⟨i, rfl⟩ := Int.eq_ofNat_of_zero_le v0
    have i4 : i < 4 := by omega
    have sI : ∀ i : Nat, i < 4 → seqIndex? ((i : Nat) : Int) (D4.map V.str).length = some i := by decide
    have si : ∃ z, D4[i]? = some z := ⟨D4[i], List.getElem?_eq_getElem i4⟩
    obtain ⟨z, ez⟩ := si
    refine ⟨ln, _, _, i, .str z, rfl, rfl, e2, by omega, by omega, sI i i4, by rw [List.getElem?_map, ez]; rfl, ?_⟩
    have er : (D4.map V.str).eraseIdx i = (D4.eraseIdx i).map V.str := by rcases i with _ | _ | _ | _ | i <;> first | rfl | omega
    rw [er]
    generalize gH3 : L2.upd H2 ln _ = H3
    obtain ⟨up3, e3⟩ := updS gH3
    clear gH3
    have kr3 : KeepR rw H H3 := fun b u e n => up3 _ _ (k2 _ _ (s1 _ _ e) n) (ne_of_none e hln)
    have R3 : RowAt K H3 rw sc ns := R.via kr3 R2 fun u e => up3 _ _ e nl.symm
    refine ⟨_, rfl, _, rfl, rw, sc, ns, most, rfl, R3, by omega, by omega, fun f H4 f0 f1 R4 k4 => ?_⟩
    have e4 := k4 _ _ e3 nl
    have lD : (D4.eraseIdx i).length = 3 := by rw [List.length_eraseIdx_of_lt i4]; rfl
    refine ⟨_, rfl, _, rfl, _, rfl, rw, sc, ns, ln, _, rfl, R4, e4, nl, by rw [List.length_map]; omega, by rw [List.length_map]; omega, fun j v H5 ej R5 k5 => ?_⟩
    rw [List.getElem?_map] at ej
    obtain ⟨y, ey, rfl⟩ := Option.map_eq_some_iff.mp ej
    have nd : ∀ i : Nat, i < 4 → ∀ z, D4[i]? = some z → z ∉ D4.eraseIdx i := by decide
    have yz : z ≠ y := fun w => nd i i4 z ez (by rw [w]; exact List.mem_of_getElem? ey)
    refine ⟨_, rfl, _, rfl, _, rfl, _, rfl, rw, sc, ns, most, rfl, R5, by omega, by omega, fun g H6 g0 g1 R6 k6 => ?_⟩
    refine ⟨_, _, rfl, rfl, _, rfl, (by show 2 ≤ sizeLine; decide), ?_⟩
    intro q2 hq2
    generalize gH7 : L2.upd _ q2 _ = H7
    obtain ⟨s7, e7⟩ := newS hq2 gH7
    clear gH7
    have R7 := R6.keep s7
    have nq : q2 ≠ rw := fun e => by obtain ⟨xs, q⟩ := R6.ex; rw [← e, hq2] at q; cases q
    refine ⟨_, rfl, rw, sc, ns, 2, rfl, R7, by decide, by decide, fun v H8 v0 v1 R8 k8 => ?_⟩
    have e8 := k8 _ _ e7 nq
    have kr8 : KeepR rw H H8 := fun b u e n => k8 _ _ (s7 _ _ (k6 _ _ (k5 _ _ (k4 _ _ (kr3 _ _ e n) n) n) n)) n
    have fin : ∀ (u : Int) (H9 : Hp), 0 ≤ u → u < 5 → RowAt K H9 rw sc ns → KeepR rw H8 H9 → ∀ q, H9 q = none → Q (.ref q) (upd H9 q (.tup [.str z, .str y, .int f, .int (f + g), .int (1 + u)])) := fun u H9 u0 u1 R9 k9 q hq => by
      have hq0 : H q = none := by
        cases w : H q with
        | none => rfl
        | some o =>
          by_cases c : q = rw
          · obtain ⟨xs, z⟩ := R9.ex
            rw [← c, hq] at z
            cases z
          · have := k9 _ _ (kr8 _ _ w c) c
            rw [hq] at this
            cases this
      exact k _ q ⟨z, y, f, f + g, 1 + u⟩ (fun b o e n => by rw [upd_ne (ne_of_none (k9 _ _ (kr8 _ _ e n) n) hq)]; exact k9 _ _ (kr8 _ _ e n) n) hq0 (R9.keep (Same.new hq)) (.inl (.inl upd_same)) ⟨List.mem_of_getElem? ez, List.mem_of_mem_eraseIdx (List.mem_of_getElem? ey), yz, f0, f1, by show f ≤ f + g; omega, by show f + g < f + most; omega, by show 1 ≤ 1 + u; omega, by show 1 + u ≤ 5; omega⟩
    have v01 : v = 0 ∨ v = 1 := by omega
    rcases v01 with rfl | rfl
    · refine ⟨q2, _, _, _, rfl, rfl, SqL.of e8, rfl, rw, sc, ns, 2, rfl, R8, by decide, by decide, fun u H9 u0 u1 R9 k9 => ?_⟩
      exact ⟨_, _, rfl, rfl, (by show 5 ≤ sizeLine; decide), fin u H9 u0 (by omega) R9 k9⟩
    · refine ⟨q2, _, _, _, rfl, rfl, SqL.of e8, rfl, rw, sc, ns, 5, rfl, R8, by decide, by decide, fun u H9 u0 u1 R9 k9 => ?_⟩
      exact ⟨_, _, rfl, rfl, (by show 5 ≤ sizeLine; decide), fin u H9 u0 u1 R9 k9⟩
def fitsB (os : List Ordr) (o : Ordr) : Bool := !os.any fun p => overB p o
def spFits (K : PySem.W.Frag) : Sp := fun vs H Q _ => ∃ l as os q o, vs = [.ref l, .ref q] ∧ SqL K H l (as.map V.ref) ∧ OrdsAt K H as os ∧ os.length ≤ 1000 ∧ OrdAt K H q o ∧ ∀ H', Same H H' → Q (.bl (fitsB os o)) H'
theorem ok_fits (T : Top K mg C_Book C_LivePost C_MailError C_InvalidOperation C_InvalidOrder C_UnknownOrder C_NotHolding C_DecodeError C_NotationError C_UnknownLetter C_InvalidAddress C_InvalidDay C_InvalidNumber C_Contradiction C_InvalidCount) : GFn P w K mg base CX0 1 "_law_fits" (spFits K) := by
  refine T.d__law_fits.fn fun f fd F => F.ok sc__law_fits (fun vs H Q E h => ?_) (fun cdv A outer s H vs Q E hr h => ?_)
  · obtain ⟨l, as, os, q, o, rfl, _⟩ := h
    rfl
  · obtain ⟨l, as, os, q, o, rfl, hl, ol, l1, oq, k⟩ := h
    have l1' := PySem.Paired.length ol
    refine ⟨_, (pss_one (ps_ret (pe_cmpR (op_eqD hr.units) (pe_lc (own := [("_law_one", 2)]) (g := (gName 2)) (by rfl) sc__law_fits.nd (pi_list (pv 0)) (blkOk_by (own := [("_law_one", 2)]) (N := ["_law_orders_here", "_law_order_here", "_law_one"]) (sc := defScope s__law_fits) (by decide +kernel)) (fun _ _ _ _ _ => (pg_name (i := 2) sc__law_fits.nd rfl (Or.inl rfl))) (fun _ _ _ _ _ => (pts_one (PW.pt (pw_and (pt_cmpR op_eq (pe_ix (ix_tupK (K := K)) (pv 2) pe_int (fun _ _ => rfl)) (pe_ix (ix_tupK (K := K)) (pv 1) pe_int (fun _ _ => rfl)) (nomark _)) (pw_and (pt_cmpR op_le (pe_ix (ix_tupK (K := K)) (pv 2) pe_int (fun _ _ => rfl)) (pe_ix (ix_tupK (K := K)) (pv 1) pe_int (fun _ _ => rfl)) (nomark _)) (pw_and1 (pt_cmpR op_le (pe_ix (ix_tupK (K := K)) (pv 1) pe_int (fun _ _ => rfl)) (pe_ix (ix_tupK (K := K)) (pv 2) pe_int (fun _ _ => rfl)) (nomark _)))))))) (fun _ _ _ _ _ => pe_int)) (pe_lst pa_nil) (nomark _)))), ?_⟩
    refine ⟨_, rfl, l, rfl, ⟨_, hl⟩, fun D hD => ?_⟩
    refine lc_it (walk_list (xs := as.map V.ref)) (fun i H' => Same H H' ∧ ∃ m : Nat, m ≤ i ∧ H' D = some (.lst (List.replicate m (V.int 1))) ∧ (m = 0 ↔ (os.take i).any (fun p => overB p o) = false)) ⟨Same.new hD, 0, Nat.le_refl _, upd_same, by simp⟩ (fun i H' _ p => p.1.seq hl) ?_ ?_
    · rintro i y Hx H3 hi ⟨s3, m, hm, e3, hz⟩ ⟨rfl, ey⟩
      rw [List.length_map] at hi
      obtain ⟨a, ea⟩ : ∃ a, as[i]? = some a := ⟨as[i], by simp [hi]⟩
      rw [List.getElem?_map, ea] at ey
      cases ey
      obtain ⟨p, ep, oa⟩ := Paired.get (ol.mono s3) ea
      have oq3 := oq.mono s3
      have ek : (os.take (i + 1)).any (fun p => overB p o) = ((os.take i).any (fun p => overB p o) || overB p o) := by
        rw [List.take_add_one, ep, List.any_append]
        simp
      rw [ek]
      refine ⟨rfl, _, rfl, a, _, _, _, rfl, rfl, oa, rfl, _, rfl, q, _, _, _, rfl, rfl, oq3, rfl, rfl, _, rfl, ?_⟩
      have no : overB p o = false → Same H H3 ∧ ∃ m, m ≤ i + 1 ∧ H3 D = some (HO.lst (List.replicate m (V.int 1))) ∧ (m = 0 ↔ ((List.take i os).any (fun p => overB p o) || overB p o) = false) := fun z => ⟨s3, m, by omega, e3, by rw [hz, z, Bool.or_false]⟩
      by_cases c1 : p.src = o.src
      · refine iteD (by rw [c1]) ?_
        refine ⟨_, rfl, a, _, _, _, rfl, rfl, oa, rfl, _, rfl, q, _, _, _, rfl, rfl, oq3, rfl, _, _, rfl, rfl, _, rfl, ?_⟩
        by_cases c2 : p.first ≤ o.last
        · refine iteD c2 ?_
          refine ⟨_, rfl, q, _, _, _, rfl, rfl, oq3, rfl, _, rfl, a, _, _, _, rfl, rfl, oa, rfl, _, _, rfl, rfl, _, rfl, ?_⟩
          by_cases c3 : o.first ≤ p.last
          · refine iteD c3 ?_
            refine ⟨_, e3, by rw [List.length_replicate, sizeLine_eq]; omega, fun b u e => ?_, m + 1, by omega, by rw [upd_same, List.replicate_succ'], ?_⟩
            · rw [upd_ne (ne_of_none e hD)]
              exact s3 _ _ e
            · have : overB p o = true := by
                unfold overB
                rw [decide_eq_true c1, decide_eq_true c2, decide_eq_true c3]
                rfl
              rw [this, Bool.or_true]
              simp
          · refine iteDN c3 (no ?_)
            unfold overB
            rw [decide_eq_false c3, Bool.and_false, Bool.and_false]
        · refine iteDN c2 (no ?_)
          unfold overB
          rw [decide_eq_false c2, Bool.false_and, Bool.and_false]
      · refine iteDN (fun z => c1 (V.str.inj z)) (no ?_)
        unfold overB
        rw [decide_eq_false c1, Bool.false_and]
    · rintro H3 ⟨s3, m, hm, e3, hz⟩
      have et : os.take (as.map V.ref).length = os := by rw [List.length_map, l1', List.take_length]
      rw [et] at hz
      rw [List.length_map] at hm
      refine ⟨Nat.zero_le _, ?_⟩
      intro z hz4
      generalize gH4 : L2.upd _ z _ = H4
      obtain ⟨s4, e4⟩ := newS hz4 gH4
      clear gH4
      have dk : DK 2 (.list ((List.replicate m ()).map fun _ => PyData.int 1)) := .list (DK.map fun _ _ => .int 1 _) (by rw [List.length_map, List.length_replicate]; omega)
      have er : List.replicate m (V.int 1) = (List.replicate m ()).map fun _ => V.int 1 := by rw [List.map_replicate]
      rw [er] at e3
      refine ⟨.list ((List.replicate m ()).map fun _ => PyData.int 1), .list [], .lst (SqL.of (s4 _ _ e3)) (dkMap (fun _ => .int _) _), .lst (SqL.of e4) .nil, dk.shaped (by decide), by decide +kernel, ?_⟩
      have : PyData.eqv (.list ((List.replicate m ()).map fun _ => PyData.int 1)) (.list []) = fitsB os o := by
        unfold fitsB
        cases m with
        | zero => rw [hz.mp rfl]; simp [PyData.eqv, PyData.eqvAll]
        | succ m =>
          have : os.any (fun p => overB p o) = true := by
            cases q : os.any (fun p => overB p o) with
            | true => rfl
            | false => exact absurd (hz.mpr q) (by omega)
          rw [this]
          simp [PyData.eqv, PyData.eqvAll, List.replicate_succ]
      rw [this]
      exact k _ (s3.trans s4)
end

end MF
set_option Elab.async false
set_option linter.all false
set_option maxRecDepth 100000
set_option maxHeartbeats 2000000
set_option pp.maxSteps 600
namespace MF
open PySem PySem.Spec PyProof.Rows L2 StX
section
variable {P : Program} {w : World} {K : PySem.W.Frag} {mg : Str → Option Value} {base : Heap} {C_Book C_LivePost C_MailError C_InvalidOperation C_InvalidOrder C_UnknownOrder C_NotHolding C_DecodeError C_NotationError C_UnknownLetter C_InvalidAddress C_InvalidDay C_InvalidNumber C_Contradiction C_InvalidCount : Addr}
structure ODs (most : Int) (os : List Ordr) : Prop where
  all : ∀ o ∈ os, OD most o
  apart : os.Pairwise fun o p => overB o p = false
theorem ODs.good {most : Int} {os : List Ordr} (h : ODs most os) (hm : most ≤ 1000) (hl : os.length ≤ 30) : Good os := ⟨hl, fun o ho => (h.all o ho).ok hm, h.apart⟩
theorem ODs.nil {most : Int} : ODs most [] := ⟨(fun _ z => by cases z), .nil⟩
theorem ODs.snoc {most : Int} {os : List Ordr} (h : ODs most os) {o : Ordr} (ho : OD most o) (hf : fitsB os o = true) : ODs most (os ++ [o]) := by
  refine ⟨fun p hp => ?_, List.pairwise_append.mpr ⟨h.apart, by simp, fun p hp q hq => ?_⟩⟩
  · rcases List.mem_append.mp hp with z | z
    · exact h.all p z
    · rw [List.mem_singleton.mp z]; exact ho
  · rw [List.mem_singleton.mp hq]
    cases c : overB p o with
    | false => rfl
    | true =>
      have : os.any (fun p => overB p o) = true := List.any_eq_true.mpr ⟨p, hp, c⟩
      unfold fitsB at hf
      rw [this] at hf
      cases hf
def spOrdersD (K : PySem.W.Frag) : Sp := fun vs H Q _ => ∃ rw sc ns, ∃ many : Nat, ∃ most, vs = [.ref rw, .int (many : Nat), .int most] ∧ RowAt K H rw sc ns ∧ many ≤ 29 ∧ 1 ≤ most ∧ most ≤ 1000 ∧
  ∀ H' l as os, KeepR rw H H' → H l = none → RowAt K H' rw sc ns → H' l = some (.lst (as.map V.ref)) → OrdsAt K H' as os → os.length ≤ many → ODs most os → Q (.ref l) H'
theorem ok_ordersD (T : Top K mg C_Book C_LivePost C_MailError C_InvalidOperation C_InvalidOrder C_UnknownOrder C_NotHolding C_DecodeError C_NotationError C_UnknownLetter C_InvalidAddress C_InvalidDay C_InvalidNumber C_Contradiction C_InvalidCount) : GFn P w K mg base CX0 4 "_law_orders" (spOrdersD K) := by
  have G__law_next : GFn P w K mg base CX0 1 "_law_next" (spTaken K) := ok_next T
  have G__law_order : GFn P w K mg base CX0 3 "_law_order" (spOrderD K) := ok_orderD T
  have G__law_fits : GFn P w K mg base CX0 1 "_law_fits" (spFits K) := ok_fits T
  refine T.d__law_orders.fn fun f fd F => F.ok sc__law_orders (fun vs H Q E h => ?_) (fun cdv A outer s H vs Q E hr h => ?_)
  · obtain ⟨rw, sc, ns, many, most, rfl, _⟩ := h
    rfl
  · obtain ⟨rw, sc, ns, many, most, rfl, R, hm, m1, m2, k⟩ := h
    refine ⟨_, (pss_cons (ps_set (i := 3) sc__law_orders.nd rfl (Or.inl rfl) (pe_lst pa_nil))
  (pss_cons (ps_for PassesOwn.never rfl (pi_range1 (by rfl) T.b_range (pa_cons (pe_g G__law_next (hr.mono (by decide)) (pa_cons (pv 0) (pa_cons (pe_op op_add (pv 1) pe_int) pa_nil))) pa_nil)) (pg_name (i := 4) sc__law_orders.nd rfl (Or.inl rfl))
  (pss_cons (ps_set (i := 5) sc__law_orders.nd rfl (Or.inl rfl) (pe_g G__law_order (hr.mono (by decide)) (pa_cons (pv 0) (pa_cons (pv 2) pa_nil))))
  (pss_one (ps_set (i := 3) sc__law_orders.nd rfl (Or.inl rfl) (pe_op op_cat (pv 3) (pe_ifExp (pt_val (pe_g G__law_fits (hr.mono (by decide)) (pa_cons (pv 3) (pa_cons (pv 5) pa_nil)))) (pe_lst (pa_cons (pv 5) pa_nil)) (pe_lst pa_nil)))))))
  (pss_one (ps_ret (pv 3))))), ?_⟩
    refine ⟨Nat.zero_le _, ?_⟩
    intro l0 hl0
    generalize gH1 : L2.upd _ l0 _ = H1
    obtain ⟨s1, e1⟩ := newS hl0 gH1
    clear gH1
    have R1 := R.keep s1
    have nl : l0 ≠ rw := R.fresh hl0
    refine ⟨_, rfl, _, rfl, _, _, rfl, rfl, rw, sc, ns, _, rfl, R1, by omega, by omega, fun v H2 v0 v1 R2 k2 => ?_⟩
    have e2 := k2 _ _ e1 nl
    refine ⟨v, rfl, by omega, by omega, for_it walk_range (fun i σ H' => KeepR rw H H' ∧ RowAt K H' rw sc ns ∧ ∃ l as os v4 v5, σ = [some (.ref rw), some (.int (many : Nat)), some (.int most), some (.ref l), v4, v5] ∧ H l = none ∧ l ≠ rw ∧ H' l = some (.lst ((as : List Addr).map V.ref)) ∧ OrdsAt K H' as os ∧ os.length ≤ i ∧ ODs most os)
      ⟨fun b u e n => k2 _ _ (s1 _ _ e) n, R2, l0, [], [], _, _, rfl, hl0, nl, e2, .nil, Nat.le_refl _, .nil⟩ (fun _ _ _ _ _ => trivial) ?_ ?_⟩
    · rintro i y σ Hx H3 hi ⟨kr, R3, l, as, os, v4, v5, rfl, fl, nl, el, ol, li, od⟩ ⟨rfl, rfl⟩
      have hi2 : i < v.toNat := hi
      have li' := PySem.Paired.length ol
      refine ⟨_, rfl, _, rfl, rw, sc, ns, most, rfl, R3, m1, m2, fun H4 q o kr4 fq R4 oq odo => ?_⟩
      have e4 := kr4 _ _ el nl
      have ol4 := ol.keepR (kr4.tup R3)
      refine ⟨_, rfl, _, rfl, _, rfl, l, as, os, q, o, rfl, SqL.of e4, ol4, by omega, oq, fun H5 s5 => ⟨_, rfl, ?_⟩⟩
      have fresh : ∀ {p : Addr} {H6 : Hp}, Same H4 H6 → H6 p = none → H p = none ∧ p ≠ rw := fun {p H6} s h => by
        have np : p ≠ rw := fun z => by
          obtain ⟨xs, w⟩ := R4.ex
          rw [← z] at w
          rw [s _ _ w] at h
          cases h
        refine ⟨?_, np⟩
        cases w : H p with
        | none => rfl
        | some u => rw [s _ _ (kr4 _ _ (kr _ _ w np) np)] at h; cases h
      cases hf : fitsB os o with
      | true =>
        refine iteT ?_
        refine ⟨_, rfl, (by show 1 ≤ sizeLine; decide), ?_⟩
        intro z hz
        generalize gH6 : L2.upd _ z _ = H6
        obtain ⟨s6, e6⟩ := newS hz gH6
        clear gH6
        have s56 := s5.trans s6
        refine ⟨l, z, _, _, rfl, rfl, s56 _ _ e4, e6, by rw [List.length_map, sizeLine_eq]; show as.length + 1 ≤ _; omega, ?_⟩
        intro l7 hl7
        generalize gH7 : L2.upd _ l7 _ = H7
        obtain ⟨s7, e7⟩ := newS hl7 gH7
        clear gH7
        have s47 := s56.trans s7
        refine ⟨fun b u e n => s47 _ _ (kr4 _ _ (kr _ _ e n) n), R4.keep s47, l7, as ++ [q], os ++ [o], _, _, rfl, (fresh s56 hl7).1, (fresh s56 hl7).2, by rw [e7, List.map_append]; rfl, Paired.append (ol4.mono s47) (.cons (oq.mono s47) .nil), by rw [List.length_append]; show os.length + 1 ≤ i + 1; omega, od.snoc odo hf⟩
      | false =>
        refine iteF ?_
        refine ⟨Nat.zero_le _, ?_⟩
        intro z hz
        generalize gH6 : L2.upd _ z _ = H6
        obtain ⟨s6, e6⟩ := newS hz gH6
        clear gH6
        have s56 := s5.trans s6
        refine ⟨l, z, _, _, rfl, rfl, s56 _ _ e4, e6, by rw [List.length_map, sizeLine_eq]; show as.length + 0 ≤ _; omega, ?_⟩
        intro l7 hl7
        generalize gH7 : L2.upd _ l7 _ = H7
        obtain ⟨s7, e7⟩ := newS hl7 gH7
        clear gH7
        have s47 := s56.trans s7
        refine ⟨fun b u e n => s47 _ _ (kr4 _ _ (kr _ _ e n) n), R4.keep s47, l7, as, os, _, _, rfl, (fresh s56 hl7).1, (fresh s56 hl7).2, by rw [e7, List.append_nil], ol4.mono s47, by omega, od⟩
    · rintro σ H3 ⟨kr, R3, l, as, os, v4, v5, rfl, fl, nl, el, ol, li, od⟩
      have li2 : os.length ≤ v.toNat := li
      exact ⟨_, rfl, k _ l as os kr fl R3 el ol (by omega) od⟩
end

end MF
set_option Elab.async false
set_option linter.all false
set_option maxRecDepth 100000
set_option maxHeartbeats 2000000
set_option pp.maxSteps 600
namespace MF
open PySem PySem.Spec PyProof.Rows L2 StX
section
variable {P : Program} {w : World} {K : PySem.W.Frag} {mg : Str → Option Value} {base : Heap} {C_Book C_LivePost C_MailError C_InvalidOperation C_InvalidOrder C_UnknownOrder C_NotHolding C_DecodeError C_NotationError C_UnknownLetter C_InvalidAddress C_InvalidDay C_InvalidNumber C_Contradiction C_InvalidCount : Addr}
def spNow (K : PySem.W.Frag) : Sp := fun vs H Q _ => ∃ l as os z d, vs = [.ref l, .str z, .int d] ∧ SqL K H l (as.map V.ref) ∧ OrdsAt K H as os ∧ (ordFor os z d = none → Q .non H) ∧ ∀ i a o, ordFor os z d = some i → as[i]? = some a → os[i]? = some o → Q (.ref a) H
theorem ok_now (T : Top K mg C_Book C_LivePost C_MailError C_InvalidOperation C_InvalidOrder C_UnknownOrder C_NotHolding C_DecodeError C_NotationError C_UnknownLetter C_InvalidAddress C_InvalidDay C_InvalidNumber C_Contradiction C_InvalidCount) : GFn P w K mg base CX0 1 "_law_now" (spNow K) := by
  refine T.d__law_now.fn fun f fd F => F.ok sc__law_now (fun vs H Q E h => ?_) (fun cdv A outer s H vs Q E hr h => ?_)
  · obtain ⟨l, as, os, z, d, rfl, _⟩ := h
    rfl
  · obtain ⟨l, as, os, z, d, rfl, hl, ol, k0, k1⟩ := h
    refine ⟨_, (pss_cons (ps_for PassesOwn.never rfl (pi_list (pv 0)) (pg_name (i := 3) sc__law_now.nd rfl (Or.inl rfl))
  (pss_one (ps_if (PW.pt (pw_and (pt_cmpR op_eq (pe_ix ix_tup (pv 3) pe_int (fun _ _ => rfl)) (pv 1) (nomark _)) (pw_and1 (pt_chain op_le op_le (pe_ix ix_tup (pv 3) pe_int (fun _ _ => rfl)) (pv 2) (pe_ix ix_tup (pv 3) pe_int (fun _ _ => rfl))))))
  (pss_one (ps_ret (pv 3)))
  pss_nil)))
  (pss_one (ps_ret pe_non))), ?_⟩
    have lo := PySem.Paired.length ol
    refine ⟨_, rfl, l, rfl, ⟨_, hl⟩, for_it (walk_list (xs := as.map V.ref)) (fun i σ H' => H' = H ∧ (∃ v3, σ = [some (.ref l), some (.str z), some (.int d), v3]) ∧ ∀ (j : Nat) p, j < i → os[j]? = some p → holds p z d = false) ⟨rfl, ⟨_, rfl⟩, fun j p hj => absurd hj (Nat.not_lt_zero _)⟩ (fun i σ H' _ p => by rw [p.1]; exact hl) ?_ ?_⟩
    · rintro i y σ Hx H3 hi ⟨rfl, ⟨v3, rfl⟩, no⟩ ⟨rfl, ey⟩
      rw [List.length_map] at hi
      obtain ⟨a, ea⟩ : ∃ a, as[i]? = some a := ⟨as[i], by simp [hi]⟩
      rw [List.getElem?_map, ea] at ey
      cases ey
      obtain ⟨o, eo, oa⟩ := Paired.get ol ea
      have go : holds o z d = false → ∀ (j : Nat) p, j < i + 1 → os[j]? = some p → holds p z d = false := fun h j p hj ej => by
        by_cases c : j < i
        · exact no j p c ej
        · have : j = i := by omega
          rw [this, eo] at ej
          cases ej
          exact h
      refine ⟨_, rfl, a, _, _, _, rfl, rfl, oa, rfl, _, rfl, rfl, _, rfl, ?_⟩
      refine ite2 (fun c1 => ?_) (fun c1 => ?_)
      · have c1' : o.src = z := V.str.inj (of_decide_eq_true c1)
        refine ⟨_, rfl, a, _, _, _, rfl, rfl, oa, rfl, _, rfl, _, _, rfl, rfl, _, rfl, ?_⟩
        refine ite2 (fun c2 => ?_) (fun c2 => ?_)
        · have c2' : o.first ≤ d := of_decide_eq_true c2
          refine ⟨_, rfl, a, _, _, _, rfl, rfl, oa, rfl, _, _, rfl, rfl, _, rfl, ?_⟩
          refine ite2 (fun c3 => ?_) (fun c3 => ?_)
          · have c3' : d ≤ o.last := of_decide_eq_true c3
            have hh : holds o z d = true := by simp [holds, c1', c2', c3']
            exact ⟨_, rfl, k1 i a o (ordFor_is (fun j p hj ej => no j p hj ej) eo hh) ea eo⟩
          · exact ⟨rfl, ⟨_, rfl⟩, go (by
              have c3' : ¬ d ≤ o.last := fun w => c3 (decide_eq_true w)
              simp [holds, c3'])⟩
        · exact ⟨false, rfl, rfl, ⟨_, rfl⟩, go (by
            have c2' : ¬ o.first ≤ d := fun w => c2 (decide_eq_true w)
            simp [holds, c2'])⟩
      · exact ⟨rfl, ⟨_, rfl⟩, go (by
          have c1' : ¬ o.src = z := fun w => c1 (by rw [w]; exact decide_eq_true rfl)
          simp [holds, c1'])⟩
    · rintro σ H3 ⟨rfl, ⟨v3, rfl⟩, no⟩
      refine k0 (ordFor_none fun p hp => ?_)
      obtain ⟨j, hj, ej⟩ := List.mem_iff_getElem.mp hp
      exact no j p (by rw [List.length_map, lo]; exact hj) (by rw [List.getElem?_eq_getElem hj, ej])
def PtsD (H : Hp) (ps : List Addr) (l : List Pt) : Prop := PySem.Paired (fun p (t : Pt) => H p = some (.tup [.str t.1, .int t.2])) ps l
theorem PtsD.mono {H H' : Hp} {ps : List Addr} {l : List Pt} (h : PtsD H ps l) (k : ∀ b u, H b = some u → tupl u = true → H' b = some u) : PtsD H' ps l := PySem.Paired.mono (fun p t e => k _ _ e rfl) h
theorem PairedD.snoc_inv {α β : Type} {R : α → β → Prop} {l : List α} {r : List β} {b : β} (h : PySem.Paired R l (r ++ [b])) : ∃ l' a, l = l' ++ [a] ∧ PySem.Paired R l' r ∧ R a b := by
  induction r generalizing l with
  | nil =>
    cases h with
    | cons h t => cases t; exact ⟨[], _, rfl, .nil, h⟩
  | cons c r ih =>
    cases h with
    | cons h t =>
      obtain ⟨l', a, rfl, h1, h2⟩ := ih t
      exact ⟨_ :: l', a, rfl, .cons h h1, h2⟩
end

end MF
set_option Elab.async false
set_option linter.all false
set_option maxRecDepth 100000
set_option maxHeartbeats 2000000
set_option pp.maxSteps 600
namespace MF
open PySem PySem.Spec PyProof.Rows L2 StX
section
variable {P : Program} {w : World} {K : PySem.W.Frag} {mg : Str → Option Value} {base : Heap} {C_Book C_LivePost C_MailError C_InvalidOperation C_InvalidOrder C_UnknownOrder C_NotHolding C_DecodeError C_NotationError C_UnknownLetter C_InvalidAddress C_InvalidDay C_InvalidNumber C_Contradiction C_InvalidCount : Addr}
def spSentL (K : PySem.W.Frag) : Sp := fun vs H Q _ => ∃ l as os x d td, vs = [.ref l, .str x, .int d, .int td] ∧ SqL K H l (as.map V.ref) ∧ OrdsAt K H as os ∧ Good os ∧
  ∀ H' q z, Same H H' → H q = none → z = sentF os td (x, d) → H' q = some (.tup [.str z.1, .int z.2.1, .bl z.2.2]) → Q (.ref q) H'
theorem ok_sentL (T : Top K mg C_Book C_LivePost C_MailError C_InvalidOperation C_InvalidOrder C_UnknownOrder C_NotHolding C_DecodeError C_NotationError C_UnknownLetter C_InvalidAddress C_InvalidDay C_InvalidNumber C_Contradiction C_InvalidCount) : GFn P w K mg base CX0 2 "_law_sent" (spSentL K) := by
  have G__law_now : GFn P w K mg base CX0 1 "_law_now" (spNow K) := ok_now T
  refine T.d__law_sent.fn fun f fd F => F.ok sc__law_sent (fun vs H Q E h => ?_) (fun cdv A outer s H vs Q E hr h => ?_)
  · obtain ⟨l, as, os, x, d, td, rfl, _⟩ := h
    rfl
  · obtain ⟨l, as, os, x, d, td, rfl, hS, ol, g, kk⟩ := h
    refine ⟨_, (pss_cons (ps_while PassesOwn.never (pt_cmpR op_le (pv 2) (pv 3) (nomark _))
  (pss_cons (ps_set (i := 4) sc__law_sent.nd rfl (Or.inl rfl) (pe_g G__law_now (hr.mono (by decide)) (pa_cons (pv 0) (pa_cons (pv 1) (pa_cons (pv 2) pa_nil)))))
  (pss_cons (ps_if (pt_cmpR op_isN (pv 4) pe_non (nomark _))
  (pss_one (ps_ret (pe_tup (pa_cons (pv 1) (pa_cons (pv 2) (pa_cons pe_bl pa_nil))))))
  pss_nil)
  (pss_one (ps_par (i := 1) (j := 2) (by rfl) sc__law_sent.nd rfl rfl (by decide) rfl rfl (pa_cons (pe_ix ix_tup (pv 4) pe_int (fun _ _ => rfl)) (pa_cons (pe_op op_add (pv 2) (pe_ix ix_tup (pv 4) pe_int (fun _ _ => rfl))) pa_nil)) (by rfl))))))
  (pss_one (ps_ret (pe_tup (pa_cons (pv 1) (pa_cons (pv 2) (pa_cons pe_bl pa_nil))))))), ?_⟩
    have lo := PySem.Paired.length ol
    refine ⟨fun m σ H' => H' = H ∧ ∃ y e n v, σ = [some (.ref l), some (.str y), some (.int e), some (.int td), v] ∧ Way os td (x, d) n (y, e) ∧ m = (td + 1 - e).toNat, ⟨_, rfl, x, d, 0, _, rfl, .refl _, rfl⟩, ?_⟩
    rintro m σ H1 ⟨rfl, y, e, n, v, rfl, W, em⟩
    refine ⟨_, rfl, _, rfl, _, _, rfl, rfl, _, rfl, ?_⟩
    refine ite2 (fun c => ?_) (fun c => ?_)
    · have c1 : e ≤ td := of_decide_eq_true c
      refine ⟨_, fun _ _ h => h, ?_⟩
      refine ⟨_, rfl, _, rfl, _, rfl, l, as, os, y, e, rfl, hS, ol, fun no => ?_, fun i a o hi ea eo => ?_⟩
      · refine ⟨_, rfl, rfl, _, rfl, iteD rfl ?_⟩
        refine ⟨_, rfl, _, rfl, (by show 3 ≤ sizeLine; decide), fun q hq => ?_⟩
        refine kk _ q (y, e, true) (Same.new hq) hq (sentF_of (t := (y, e)) (r := true) ⟨n, W, fun _ => ⟨c1, ?_⟩, fun z => by cases z⟩).symm upd_same
        unfold nxt
        rw [no]
        rfl
      · refine ⟨_, rfl, rfl, _, rfl, iteDN (by intro z; cases z) ?_⟩
        have oa : OrdAt K H1 a o := by
          obtain ⟨o', eo', oa⟩ := Paired.get ol ea
          rw [eo] at eo'
          cases eo'
          exact oa
        have hw : 1 ≤ o.way := (g.ok o (List.mem_of_getElem? eo)).w1
        refine ⟨_, rfl, a, _, _, _, rfl, rfl, oa, rfl, ?_⟩
        refine ⟨_, rfl, _, rfl, a, _, _, _, rfl, rfl, oa, rfl, _, _, rfl, rfl, ?_⟩
        refine ⟨_, _, rfl, ?_⟩
        exact ⟨(td + 1 - (e + o.way)).toNat, by omega, rfl, o.tgt, e + o.way, n + 1, _, rfl, W.trans (.step c1 (nxt_of hi eo) (.refl _)), rfl⟩
    · have c1 : ¬ e ≤ td := fun h => c (decide_eq_true h)
      refine ⟨_, rfl, _, rfl, (by show 3 ≤ sizeLine; decide), fun q hq => ?_⟩
      exact kk _ q (y, e, false) (Same.new hq) hq (sentF_of (t := (y, e)) (r := false) ⟨n, W, (fun z => by cases z), fun _ => by show td < e; omega⟩).symm upd_same
end

end MF
set_option Elab.async false
set_option linter.all false
set_option maxRecDepth 100000
set_option maxHeartbeats 2000000
set_option pp.maxSteps 600
namespace MF
open PySem PySem.Spec PyProof.Rows L2 StX
section
variable {P : Program} {w : World} {K : PySem.W.Frag} {mg : Str → Option Value} {base : Heap} {C_Book C_LivePost C_MailError C_InvalidOperation C_InvalidOrder C_UnknownOrder C_NotHolding C_DecodeError C_NotationError C_UnknownLetter C_InvalidAddress C_InvalidDay C_InvalidNumber C_Contradiction C_InvalidCount : Addr}
def lf (bk : Addr) (x : Str) (d n : Int) (kn : Addr) (e : Bool) (c : V) : List (Str × V) := [("book", .ref bk), ("address", .str x), ("day", .int d), ("count", .int n), ("known", .ref kn), ("is_endless", .bl e), ("change", c)]
def LetterAt (C : Addr) (H : Hp) (p kn : Addr) (kvs : List (Key × V)) (bk : Addr) (x : Str) (d n : Int) (e : Bool) (c : Option Int) : Prop := (∃ dx, H p = some (.ins C dx (lf bk x d n kn e (optZ c)))) ∧ H kn = some (.dK kvs)
theorem LetterAt.ne {C : Addr} {H : Hp} {p kn : Addr} {kvs : List (Key × V)} {bk : Addr} {x : Str} {d n : Int} {e : Bool} {c : Option Int} (h : LetterAt C H p kn kvs bk x d n e c) : p ≠ kn := by
  obtain ⟨⟨dx, h1⟩, h2⟩ := h
  exact ne_of h1 h2 (by intro z; cases z)
theorem LetterAt.keep {C : Addr} {H H' : Hp} {p kn : Addr} {kvs : List (Key × V)} {bk : Addr} {x : Str} {d n : Int} {e : Bool} {c : Option Int} (h : LetterAt C H p kn kvs bk x d n e c) (k1 : ∀ o, H p = some o → H' p = some o) (k2 : ∀ o, H kn = some o → H' kn = some o) : LetterAt C H' p kn kvs bk x d n e c := by
  obtain ⟨⟨dx, h1⟩, h2⟩ := h
  exact ⟨⟨dx, k1 _ h1⟩, k2 _ h2⟩
theorem BookAt.keep {C : Addr} {H H' : Hp} {p q : Addr} {os : List Ordr} (h : BookAt K C H p os) (hq : ∃ o, H q = some o ∧ (∀ xs, o ≠ .tup xs) ∧ (∀ u xs, o ≠ .frz u (.tup xs))) (ne : p ≠ q) (k : ∀ b u, H b = some u → b ≠ q → H' b = some u) : BookAt K C H' p os := by
  obtain ⟨dx, t, as, h1, h2, h3⟩ := h
  obtain ⟨oq, eq, n1, n2⟩ := hq
  have tp : ∀ a xs, SqT K H a xs → SqT K H' a xs := fun a xs z => by
    rcases z with (z | ⟨u, z⟩) | z
    · refine .inl (.inl (k _ _ z fun w => ?_))
      rw [w, eq] at z
      exact n1 _ (Option.some.inj z)
    · refine .inl (.inr ⟨u, k _ _ z fun w => ?_⟩)
      rw [w, eq] at z
      exact n2 _ _ (Option.some.inj z)
    · exact .inr z
  exact ⟨dx, t, as, k _ _ h1 ne, tp _ _ h2, PySem.Paired.mono (fun a o z => tp a _ z) h3⟩
end

end MF
set_option Elab.async false
set_option linter.all false
set_option maxRecDepth 100000
set_option maxHeartbeats 2000000
set_option pp.maxSteps 600
namespace MF
open PySem PySem.Spec PyProof.Rows L2 StX
section
variable {P : Program} {w : World} {K : PySem.W.Frag} {mg : Str → Option Value} {base : Heap} {C_Book C_LivePost C_MailError C_InvalidOperation C_InvalidOrder C_UnknownOrder C_NotHolding C_DecodeError C_NotationError C_UnknownLetter C_InvalidAddress C_InvalidDay C_InvalidNumber C_Contradiction C_InvalidCount : Addr}
def spSentOn (K : PySem.W.Frag) (CB : Addr) : Sp := fun vs H Q _ => ∃ bk os x d td, vs = [.ref bk, .str x, .int d, .int td] ∧ BookAt K CB H bk os ∧ Good os ∧
  ∀ H' q t r, Same H H' → H q = none → H' q = some (.tup [.str t.1, .int t.2, .bl r]) → At os td (x, d) t r → Q (.ref q) H'
theorem ok_sent_on (T : Top K mg C_Book C_LivePost C_MailError C_InvalidOperation C_InvalidOrder C_UnknownOrder C_NotHolding C_DecodeError C_NotationError C_UnknownLetter C_InvalidAddress C_InvalidDay C_InvalidNumber C_Contradiction C_InvalidCount) : GFn P w K mg base CX0 2 "sent_on" (spSentOn K C_Book) := by
  have M_Book_order_for : MFn P w K mg base CX0 1 C_Book "order_for" (spOrderFor K C_Book) := ok_order_for T
  refine T.d_sent_on.fn fun f fd F => F.ok sc_sent_on (fun vs H Q E h => ?_) (fun cdv A outer s H vs Q E hr h => ?_)
  · obtain ⟨bk, os, x, d, td, rfl, _⟩ := h
    rfl
  · obtain ⟨bk, os, x, d, td, rfl, B, g, kk⟩ := h
    refine ⟨_, (pss_cons (ps_while PassesOwn.never (pt_cmpR op_le (pv 2) (pv 3) (nomark _))
  (pss_cons (ps_set (i := 4) sc_sent_on.nd rfl (Or.inl rfl) (pe_m M_Book_order_for T.cl_Book (hr.mono (by decide)) (pv 0) (pa_cons (pv 1) (pa_cons (pv 2) pa_nil))))
  (pss_cons (ps_if (pt_cmpR op_isN (pv 4) pe_non (nomark _))
  (pss_one (ps_ret (pe_tup (pa_cons (pv 1) (pa_cons (pv 2) (pa_cons pe_bl pa_nil))))))
  pss_nil)
  (pss_one (ps_par (i := 1) (j := 2) (by rfl) sc_sent_on.nd rfl rfl (by decide) rfl rfl (pa_cons (pe_ix ix_tup (pe_ix ix_tup (pe_fld (pv 0) rfl) (pv 4) (fun _ _ => rfl)) pe_int (fun _ _ => rfl)) (pa_cons (pe_op op_add (pv 2) (pe_ix ix_tup (pe_ix ix_tup (pe_fld (pv 0) rfl) (pv 4) (fun _ _ => rfl)) pe_int (fun _ _ => rfl))) pa_nil)) (by rfl))))))
  (pss_one (ps_ret (pe_tup (pa_cons (pv 1) (pa_cons (pv 2) (pa_cons pe_bl pa_nil))))))), ?_⟩
    refine ⟨fun m σ H' => ∃ y e n v, σ = [some (.ref bk), some (.str y), some (.int e), some (.int td), v] ∧ Same H H' ∧ Way os td (x, d) n (y, e) ∧ m = (td + 1 - e).toNat, ⟨_, x, d, 0, _, rfl, fun _ _ h => h, .refl _, rfl⟩, ?_⟩
    rintro m σ H1 ⟨y, e, n, v, rfl, s1, W, em⟩
    have B1 := B.mono s1
    obtain ⟨dx, t, as, b1, b2, b3⟩ := id B1
    refine ⟨_, rfl, _, rfl, _, _, rfl, rfl, _, rfl, ?_⟩
    refine ite2 (fun c => ?_) (fun c => ?_)
    · have c1 : e ≤ td := of_decide_eq_true c
      refine ⟨fun σ' H' => ∃ m', m' < m ∧ ∃ y e n v, σ' = [some (.ref bk), some (.str y), some (.int e), some (.int td), v] ∧ Same H H' ∧ Way os td (x, d) n (y, e) ∧ m' = (td + 1 - e).toNat, fun σ' H' ⟨m', hm, r⟩ => ⟨m', hm, r⟩, ?_⟩
      refine ⟨_, rfl, bk, dx, _, rfl, b1, rfl, _, rfl, _, rfl, bk, os, y, e, rfl, B1, fun H2 s2 => ?_⟩
      have s12 := s1.trans s2
      cases eo : ordFor os y e with
      | none =>
        refine ⟨_, rfl, rfl, _, rfl, iteD rfl ?_⟩
        refine ⟨_, rfl, _, rfl, (by show 3 ≤ sizeLine; decide), fun q hq => ?_⟩
        refine kk _ q (y, e) true (MF.Same.upd s12 hq) (s12.free hq) upd_same ⟨n, W, fun _ => ⟨c1, ?_⟩, fun z => by cases z⟩
        unfold nxt
        rw [eo]
        rfl
      | some i =>
        obtain ⟨o, ei, _⟩ := ordFor_some eo
        refine ⟨_, rfl, rfl, _, rfl, iteDN (by intro z; cases z) ?_⟩
        have B2 := B1.mono s2
        obtain ⟨dy, t2, as2, c1', c2, c3⟩ := id B2
        have la : as2.length = os.length := PySem.Paired.length c3
        have hi : i < as2.length := by rw [la]; exact (List.getElem?_eq_some_iff.mp ei).1
        obtain ⟨a, ea⟩ : ∃ a, as2[i]? = some a := ⟨as2[i], by simp [hi]⟩
        obtain ⟨o', eo', oa⟩ := Paired.get c3 ea
        rw [ei] at eo'
        cases eo'
        have hw : 1 ≤ o.way := (g.ok o (List.mem_of_getElem? ei)).w1
        refine ⟨_, rfl, bk, C_Book, dy, _, _, rfl, c1', T.cl_Book, T.n_Book_listed, rfl, _, rfl, t2, _, _, _, rfl, rfl, c2, atI_nat (by rw [List.getElem?_map, ea]; rfl), a, _, _, _, rfl, rfl, oa, rfl, ?_⟩
        refine ⟨_, rfl, _, rfl, bk, C_Book, dy, _, _, rfl, c1', T.cl_Book, T.n_Book_listed, rfl, _, rfl, t2, _, _, _, rfl, rfl, c2, atI_nat (by rw [List.getElem?_map, ea]; rfl), a, _, _, _, rfl, rfl, oa, rfl, _, _, rfl, rfl, ?_⟩
        refine ⟨_, _, rfl, ?_⟩
        exact ⟨(td + 1 - (e + o.way)).toNat, by omega, o.tgt, e + o.way, n + 1, _, rfl, s12, W.trans (.step c1 (nxt_of eo ei) (.refl _)), rfl⟩
    · have c1 : ¬ e ≤ td := fun h => c (decide_eq_true h)
      refine ⟨_, rfl, _, rfl, (by show 3 ≤ sizeLine; decide), fun q hq => ?_⟩
      exact kk _ q (y, e) false (MF.Same.upd s1 hq) (s1.free hq) upd_same ⟨n, W, (fun z => by cases z), fun _ => by show td < e; omega⟩
end

end MF
set_option Elab.async false
set_option linter.all false
set_option maxRecDepth 100000
set_option maxHeartbeats 2000000
set_option pp.maxSteps 600
namespace MF
open PySem PySem.Spec PyProof.Rows L2 StX
section
variable {P : Program} {w : World} {K : PySem.W.Frag} {mg : Str → Option Value} {base : Heap} {C_Book C_LivePost C_MailError C_InvalidOperation C_InvalidOrder C_UnknownOrder C_NotHolding C_DecodeError C_NotationError C_UnknownLetter C_InvalidAddress C_InvalidDay C_InvalidNumber C_Contradiction C_InvalidCount : Addr}
def LRows (H : Hp) (rs : List Addr) (rows : List LRow) : Prop := PySem.Paired (fun r (x : LRow) => H r = some (.tup [.str x.1, .int x.2.1, .bl x.2.2])) rs rows
structure KB (K : PySem.W.Frag) (CB : Addr) (H H' : Hp) : Prop where
  tup : ∀ b u, H b = some u → tupl u = true → H' b = some u
  book : ∀ bk os, BookAt K CB H bk os → BookAt K CB H' bk os
theorem KB.same {CB : Addr} {H H' : Hp} (s : Same H H') : KB K CB H H' := ⟨fun b u e _ => s _ _ e, fun bk os B => B.mono s⟩
theorem KB.trans {CB : Addr} {H H' H'' : Hp} (a : KB K CB H H') (b : KB K CB H' H'') : KB K CB H H'' := ⟨fun c u e y => b.tup _ _ (a.tup _ _ e y) y, fun bk os B => b.book _ _ (a.book _ _ B)⟩
theorem KB.row {CB rw sc : Addr} {ns : List Int} {H H' : Hp} (r : RowAt K H rw sc ns) (k : KeepR rw H H') : KB K CB H H' := ⟨k.tup r, fun bk os B => by
  refine B.keepR (fun w => ?_) r k
  obtain ⟨xs, e⟩ := r.ex
  obtain ⟨dx, t, as, b1, _⟩ := B
  rw [w, e] at b1
  cases b1⟩
theorem live_not {C C' dx d1 : Addr} {v v' : V} {x : Str} {fs : List (Str × V)} (h : (some (HO.ins C dx ((x, v) :: fs)) : Option HO) = some (.ins C' d1 [("listed", v')])) (ne : x ≠ "listed" := by decide) : False := by
  injection h with e
  injection e with e1 e2 e3
  injection e3 with e4 e5
  exact ne (congrArg Prod.fst e4)
theorem KB.live {CB CL p dx : Addr} {v : V} {fs : List (Str × V)} {H H' : Hp} (hp : H p = some (.ins CL dx (("scene", v) :: fs))) (k : ∀ b u, H b = some u → b ≠ p → H' b = some u) : KB K CB H H' := ⟨fun b u e y => k _ _ e (fun w => by rw [w, hp] at e; cases e; cases y), fun bk os B => B.keep ⟨_, hp, (fun _ z => by cases z), (fun _ _ z => by cases z)⟩ (fun w => by
  obtain ⟨d1, d2, d3, d4, _⟩ := B
  rw [w, hp] at d4
  exact live_not d4) k⟩
def SceneAt (K : PySem.W.Frag) (CB : Addr) (H : Hp) (sc : Addr) (S : Scn) : Prop := ∃ bk lt rs, H sc = some (.tup [.int S.day, .ref bk, .ref lt]) ∧ BookAt K CB H bk S.os ∧ H lt = some (.tup (rs.map V.ref)) ∧ LRows H rs S.rows
theorem LRows.keep {H H' : Hp} {rs : List Addr} {rows : List LRow} (h : LRows H rs rows) (k : ∀ b u, H b = some u → tupl u = true → H' b = some u) : LRows H' rs rows := PySem.Paired.mono (fun _ _ e => k _ _ e rfl) h
theorem SceneAt.keep {CB : Addr} {H H' : Hp} {sc : Addr} {S : Scn} (h : SceneAt K CB H sc S) (k : KB K CB H H') : SceneAt K CB H' sc S := let ⟨bk, lt, rs, a, b, c, d⟩ := h; ⟨bk, lt, rs, k.tup _ _ a rfl, k.book _ _ b, k.tup _ _ c rfl, d.keep k.tup⟩
def ArgAt (K : PySem.W.Frag) (H : Hp) (y : V) : Deed → Prop
  | .post z => y = z
  | .pass z => y = z
  | .give none => y = .non
  | .give (some o) => ∃ a, y = .ref a ∧ OrdAt K H a o
  | .stop z => y = z
def DeedAt (K : PySem.W.Frag) (H : Hp) (q : Addr) (d : Deed) : Prop := ∃ y, H q = some (.tup [.str d.word, y]) ∧ ArgAt K H y d
theorem ArgAt.kt {H H' : Hp} {y : V} {d : Deed} (h : ArgAt K H y d) (k : ∀ b u, H b = some u → tupl u = true → H' b = some u) : ArgAt K H' y d := by
  cases d with
  | give o =>
    cases o with
    | none => exact h
    | some o =>
      obtain ⟨a, e, oa⟩ := h
      refine ⟨a, e, ?_⟩
      rcases oa with (h | ⟨u, h⟩) | h
      · exact .inl (.inl (k _ _ h rfl))
      · exact .inl (.inr ⟨u, k _ _ h rfl⟩)
      · exact .inr h
  | _ => exact h
theorem DeedAt.kt {H H' : Hp} {q : Addr} {d : Deed} (h : DeedAt K H q d) (k : ∀ b u, H b = some u → tupl u = true → H' b = some u) : DeedAt K H' q d := let ⟨y, a, b⟩ := h; ⟨y, k _ _ a rfl, b.kt k⟩
abbrev Ent := Deed × Scn × Scn
def EnAt (K : PySem.W.Frag) (CB : Addr) (H : Hp) (e : Addr) (x : Ent) : Prop := ∃ q a b, H e = some (.tup [.ref q, .ref a, .ref b]) ∧ DeedAt K H q x.1 ∧ SceneAt K CB H a x.2.1 ∧ SceneAt K CB H b x.2.2
theorem EnAt.keep {CB : Addr} {H H' : Hp} {e : Addr} {x : Ent} (h : EnAt K CB H e x) (k : KB K CB H H') : EnAt K CB H' e x := let ⟨q, a, b, h1, h0, h2, h3⟩ := h; ⟨q, a, b, k.tup _ _ h1 rfl, h0.kt k.tup, h2.keep k, h3.keep k⟩
def DoAt (K : PySem.W.Frag) (CB : Addr) (H : Hp) (t : Addr) (xs : List Ent) : Prop := ∃ ts, H t = some (.tup (ts.map V.ref)) ∧ PySem.Paired (EnAt K CB H) ts xs
theorem DoAt.keep {CB : Addr} {H H' : Hp} {t : Addr} {xs : List Ent} (h : DoAt K CB H t xs) (k : KB K CB H H') : DoAt K CB H' t xs := let ⟨ts, h1, h2⟩ := h; ⟨ts, k.tup _ _ h1 rfl, PySem.Paired.mono (fun _ _ e => e.keep k) h2⟩
structure Kpt where
  b : Bool
  ks : Addr
  kd : Addr
  ku : Addr
def lpf (kw : Kpt) (sc d u : Addr) : List (Str × V) := [("scene", .ref sc), ("done", .ref d), ("undone", .ref u), ("is_open", .bl kw.b), ("kept_scene", .ref kw.ks), ("kept_done", .ref kw.kd), ("kept_undone", .ref kw.ku)]
structure LivO (K : PySem.W.Frag) (CB CL : Addr) (H : Hp) (p : Addr) (kw : Kpt) (S : Scn) (dn un : List Ent) : Prop where
  ex : ∃ dx sc d u, H p = some (.ins CL dx (lpf kw sc d u)) ∧ SceneAt K CB H sc S ∧ DoAt K CB H d dn ∧ DoAt K CB H u un
theorem LivO.keep {CB CL : Addr} {H H' : Hp} {p : Addr} {kw : Kpt} {S : Scn} {dn un : List Ent} (h : LivO K CB CL H p kw S dn un) (hp : ∀ u, H p = some u → H' p = some u) (k : KB K CB H H') : LivO K CB CL H' p kw S dn un := by
  obtain ⟨dx, sc, d, u, h1, h2, h3, h4⟩ := h
  exact ⟨dx, sc, d, u, hp _ h1, h2.keep k, h3.keep k, h4.keep k⟩
theorem LivO.same {CB CL : Addr} {H H' : Hp} {p : Addr} {kw : Kpt} {S : Scn} {dn un : List Ent} (h : LivO K CB CL H p kw S dn un) (s : Same H H') : LivO K CB CL H' p kw S dn un := h.keep (fun u e => s _ _ e) (KB.same s)
theorem LivO.ins {CB CL : Addr} {H : Hp} {p : Addr} {kw : Kpt} {S : Scn} {dn un : List Ent} (h : LivO K CB CL H p kw S dn un) : ∃ (dx sc d u : Addr), H p = some (.ins CL dx (lpf kw sc d u)) := by
  obtain ⟨dx, sc, d, u, h1, _⟩ := h
  exact ⟨dx, sc, d, u, h1⟩
def spLiveInit (K : PySem.W.Frag) (CB CL : Addr) : Sp := fun vs H Q _ => ∃ p dx bk os, vs = [.ref p, .ref bk] ∧ H p = some (.ins CL dx []) ∧ BookAt K CB H bk os ∧ bk ≠ p ∧
  ∀ H' kw, kw.b = false → LivO K CB CL H' p kw ⟨0, os, []⟩ [] [] → (∀ b u, H b = some u → b ≠ p → H' b = some u) → Q .non H'
theorem ok_LivePost (T : Top K mg C_Book C_LivePost C_MailError C_InvalidOperation C_InvalidOrder C_UnknownOrder C_NotHolding C_DecodeError C_NotationError C_UnknownLetter C_InvalidAddress C_InvalidDay C_InvalidNumber C_Contradiction C_InvalidCount) : IFn P w K mg base CX0 1 C_LivePost "LivePost" (spLiveInit K C_Book C_LivePost) := by
  refine T.d_LivePostX_initX.fn fun f fd F => F.ok sc_LivePostX_initX (fun vs H Q E h => ?_) (fun cdv A outer s H vs Q E hr h => ?_)
  · obtain ⟨p, dx, bk, os, rfl, _⟩ := h
    rfl
  · obtain ⟨p, dx, bk, os, rfl, hp, B, nbp, kk⟩ := h
    refine ⟨_, (pss_cons (ps_fld (pv 0) (pe_tup (pa_cons pe_int (pa_cons (pv 1) (pa_cons (pe_tup pa_nil) pa_nil)))) rfl)
  (pss_cons (ps_fld (pv 0) (pe_tup pa_nil) rfl)
  (pss_cons (ps_fld (pv 0) (pe_tup pa_nil) rfl)
  (pss_cons (ps_fld (pv 0) pe_bl rfl)
  (pss_cons (ps_fld (pv 0) (pe_fld (pv 0) rfl) rfl)
  (pss_cons (ps_fld (pv 0) (pe_tup pa_nil) rfl)
  (pss_one (ps_fld (pv 0) (pe_tup pa_nil) rfl)))))))), ?_⟩
    have hpi : ∃ o, H p = some o ∧ (∀ xs, o ≠ HO.tup xs) ∧ (∀ u xs, o ≠ HO.frz u (.tup xs)) := ⟨_, hp, (fun _ z => by cases z), (fun _ _ z => by cases z)⟩
    refine ⟨_, rfl, (by show 0 ≤ sizeLine; decide), fun q1 hq1 => ⟨(by show 3 ≤ sizeLine; decide), fun q2 hq2 => ?_⟩⟩
    have s1 : Same H (upd (upd H q1 (.tup [])) q2 (.tup [.int 0, .ref bk, .ref q1])) := (Same.new hq1).trans (Same.new hq2)
    have f1 : (upd (upd H q1 (.tup [])) q2 (.tup [.int 0, .ref bk, .ref q1])) q1 = some (.tup []) := Same.new hq2 _ _ upd_same
    have f2 : (upd (upd H q1 (.tup [])) q2 (.tup [.int 0, .ref bk, .ref q1])) q2 = some (.tup [.int 0, .ref bk, .ref q1]) := upd_same
    generalize upd (upd H q1 (.tup [])) q2 (.tup [.int 0, .ref bk, .ref q1]) = H1 at s1 f1 f2
    have kk1 : ∀ b u, H b = some u → b ≠ p → H1 b = some u := fun b u e _ => s1 _ _ e
    have p1 := s1 _ _ hp
    refine ⟨_, rfl, p, C_LivePost, dx, _, rfl, p1, T.cl_LivePost, T.n_LivePost_scene, (by show 0 < 1000; decide), ?_⟩
    generalize eH : upd H1 p _ = H2
    have p2 : H2 p = some (.ins C_LivePost dx [("scene", .ref q2)]) := by rw [← eH, upd_same]; rfl
    have g2 : ∀ b u, H1 b = some u → b ≠ p → H2 b = some u := fun b u e nb => by rw [← eH, upd_ne nb]; exact e
    clear eH
    replace f1 := g2 _ _ f1 (ne_of f1 p1 (by intro z; cases z))
    replace f2 := g2 _ _ f2 (ne_of f2 p1 (by intro z; cases z))
    have kk2 : ∀ b u, H b = some u → b ≠ p → H2 b = some u := fun b u e nb => g2 _ _ (kk1 b u e nb) nb
    refine ⟨(by show 0 ≤ sizeLine; decide), fun q3 hq3 => ?_⟩
    have s3 := Same.new (o := .tup []) hq3
    have f3 : upd H2 q3 (.tup []) q3 = some (.tup []) := upd_same
    generalize upd H2 q3 (.tup []) = H3 at s3 f3
    replace f1 := s3 _ _ f1
    replace f2 := s3 _ _ f2
    have p3 := s3 _ _ p2
    have kk3 : ∀ b u, H b = some u → b ≠ p → H3 b = some u := fun b u e nb => s3 _ _ (kk2 b u e nb)
    refine ⟨_, rfl, p, C_LivePost, dx, _, rfl, p3, T.cl_LivePost, T.n_LivePost_done, (by show 1 < 1000; decide), ?_⟩
    generalize eH : upd H3 p _ = H4
    have p4 : H4 p = some (.ins C_LivePost dx [("scene", .ref q2), ("done", .ref q3)]) := by rw [← eH, upd_same]; rfl
    have g4 : ∀ b u, H3 b = some u → b ≠ p → H4 b = some u := fun b u e nb => by rw [← eH, upd_ne nb]; exact e
    clear eH
    replace f1 := g4 _ _ f1 (ne_of f1 p3 (by intro z; cases z))
    replace f2 := g4 _ _ f2 (ne_of f2 p3 (by intro z; cases z))
    replace f3 := g4 _ _ f3 (ne_of f3 p3 (by intro z; cases z))
    have kk4 : ∀ b u, H b = some u → b ≠ p → H4 b = some u := fun b u e nb => g4 _ _ (kk3 b u e nb) nb
    refine ⟨(by show 0 ≤ sizeLine; decide), fun q4 hq4 => ?_⟩
    have s5 := Same.new (o := .tup []) hq4
    have f4 : upd H4 q4 (.tup []) q4 = some (.tup []) := upd_same
    generalize upd H4 q4 (.tup []) = H5 at s5 f4
    replace f1 := s5 _ _ f1
    replace f2 := s5 _ _ f2
    replace f3 := s5 _ _ f3
    have p5 := s5 _ _ p4
    have kk5 : ∀ b u, H b = some u → b ≠ p → H5 b = some u := fun b u e nb => s5 _ _ (kk4 b u e nb)
    refine ⟨_, rfl, p, C_LivePost, dx, _, rfl, p5, T.cl_LivePost, T.n_LivePost_undone, (by show 2 < 1000; decide), ?_⟩
    generalize eH : upd H5 p _ = H6
    have p6 : H6 p = some (.ins C_LivePost dx [("scene", .ref q2), ("done", .ref q3), ("undone", .ref q4)]) := by rw [← eH, upd_same]; rfl
    have g6 : ∀ b u, H5 b = some u → b ≠ p → H6 b = some u := fun b u e nb => by rw [← eH, upd_ne nb]; exact e
    clear eH
    replace f1 := g6 _ _ f1 (ne_of f1 p5 (by intro z; cases z))
    replace f2 := g6 _ _ f2 (ne_of f2 p5 (by intro z; cases z))
    replace f3 := g6 _ _ f3 (ne_of f3 p5 (by intro z; cases z))
    replace f4 := g6 _ _ f4 (ne_of f4 p5 (by intro z; cases z))
    have kk6 : ∀ b u, H b = some u → b ≠ p → H6 b = some u := fun b u e nb => g6 _ _ (kk5 b u e nb) nb
    refine ⟨_, rfl, p, C_LivePost, dx, _, rfl, p6, T.cl_LivePost, T.n_LivePost_is_open, (by show 3 < 1000; decide), ?_⟩
    generalize eH : upd H6 p _ = H7
    have p7 : H7 p = some (.ins C_LivePost dx [("scene", .ref q2), ("done", .ref q3), ("undone", .ref q4), ("is_open", .bl false)]) := by rw [← eH, upd_same]; rfl
    have g7 : ∀ b u, H6 b = some u → b ≠ p → H7 b = some u := fun b u e nb => by rw [← eH, upd_ne nb]; exact e
    clear eH
    replace f1 := g7 _ _ f1 (ne_of f1 p6 (by intro z; cases z))
    replace f2 := g7 _ _ f2 (ne_of f2 p6 (by intro z; cases z))
    replace f3 := g7 _ _ f3 (ne_of f3 p6 (by intro z; cases z))
    replace f4 := g7 _ _ f4 (ne_of f4 p6 (by intro z; cases z))
    have kk7 : ∀ b u, H b = some u → b ≠ p → H7 b = some u := fun b u e nb => g7 _ _ (kk6 b u e nb) nb
    refine ⟨_, rfl, p, C_LivePost, dx, _, _, rfl, p7, T.cl_LivePost, T.n_LivePost_scene, rfl, ?_⟩
    refine ⟨_, rfl, p, C_LivePost, dx, _, rfl, p7, T.cl_LivePost, T.n_LivePost_kept_scene, (by show 4 < 1000; decide), ?_⟩
    generalize eH : upd H7 p _ = H8
    have p8 : H8 p = some (.ins C_LivePost dx [("scene", .ref q2), ("done", .ref q3), ("undone", .ref q4), ("is_open", .bl false), ("kept_scene", .ref q2)]) := by rw [← eH, upd_same]; rfl
    have g8 : ∀ b u, H7 b = some u → b ≠ p → H8 b = some u := fun b u e nb => by rw [← eH, upd_ne nb]; exact e
    clear eH
    replace f1 := g8 _ _ f1 (ne_of f1 p7 (by intro z; cases z))
    replace f2 := g8 _ _ f2 (ne_of f2 p7 (by intro z; cases z))
    replace f3 := g8 _ _ f3 (ne_of f3 p7 (by intro z; cases z))
    replace f4 := g8 _ _ f4 (ne_of f4 p7 (by intro z; cases z))
    have kk8 : ∀ b u, H b = some u → b ≠ p → H8 b = some u := fun b u e nb => g8 _ _ (kk7 b u e nb) nb
    refine ⟨(by show 0 ≤ sizeLine; decide), fun q5 hq5 => ?_⟩
    have s9 := Same.new (o := .tup []) hq5
    have f5 : upd H8 q5 (.tup []) q5 = some (.tup []) := upd_same
    generalize upd H8 q5 (.tup []) = H9 at s9 f5
    replace f1 := s9 _ _ f1
    replace f2 := s9 _ _ f2
    replace f3 := s9 _ _ f3
    replace f4 := s9 _ _ f4
    have p9 := s9 _ _ p8
    have kk9 : ∀ b u, H b = some u → b ≠ p → H9 b = some u := fun b u e nb => s9 _ _ (kk8 b u e nb)
    refine ⟨_, rfl, p, C_LivePost, dx, _, rfl, p9, T.cl_LivePost, T.n_LivePost_kept_done, (by show 5 < 1000; decide), ?_⟩
    generalize eH : upd H9 p _ = H10
    have p10 : H10 p = some (.ins C_LivePost dx [("scene", .ref q2), ("done", .ref q3), ("undone", .ref q4), ("is_open", .bl false), ("kept_scene", .ref q2), ("kept_done", .ref q5)]) := by rw [← eH, upd_same]; rfl
    have g10 : ∀ b u, H9 b = some u → b ≠ p → H10 b = some u := fun b u e nb => by rw [← eH, upd_ne nb]; exact e
    clear eH
    replace f1 := g10 _ _ f1 (ne_of f1 p9 (by intro z; cases z))
    replace f2 := g10 _ _ f2 (ne_of f2 p9 (by intro z; cases z))
    replace f3 := g10 _ _ f3 (ne_of f3 p9 (by intro z; cases z))
    replace f4 := g10 _ _ f4 (ne_of f4 p9 (by intro z; cases z))
    replace f5 := g10 _ _ f5 (ne_of f5 p9 (by intro z; cases z))
    have kk10 : ∀ b u, H b = some u → b ≠ p → H10 b = some u := fun b u e nb => g10 _ _ (kk9 b u e nb) nb
    refine ⟨(by show 0 ≤ sizeLine; decide), fun q6 hq6 => ?_⟩
    have s11 := Same.new (o := .tup []) hq6
    have f6 : upd H10 q6 (.tup []) q6 = some (.tup []) := upd_same
    generalize upd H10 q6 (.tup []) = H11 at s11 f6
    replace f1 := s11 _ _ f1
    replace f2 := s11 _ _ f2
    replace f3 := s11 _ _ f3
    replace f4 := s11 _ _ f4
    replace f5 := s11 _ _ f5
    have p11 := s11 _ _ p10
    have kk11 : ∀ b u, H b = some u → b ≠ p → H11 b = some u := fun b u e nb => s11 _ _ (kk10 b u e nb)
    refine ⟨_, rfl, p, C_LivePost, dx, _, rfl, p11, T.cl_LivePost, T.n_LivePost_kept_undone, (by show 6 < 1000; decide), ?_⟩
    generalize eH : upd H11 p _ = H12
    have p12 : H12 p = some (.ins C_LivePost dx [("scene", .ref q2), ("done", .ref q3), ("undone", .ref q4), ("is_open", .bl false), ("kept_scene", .ref q2), ("kept_done", .ref q5), ("kept_undone", .ref q6)]) := by rw [← eH, upd_same]; rfl
    have g12 : ∀ b u, H11 b = some u → b ≠ p → H12 b = some u := fun b u e nb => by rw [← eH, upd_ne nb]; exact e
    clear eH
    replace f1 := g12 _ _ f1 (ne_of f1 p11 (by intro z; cases z))
    replace f2 := g12 _ _ f2 (ne_of f2 p11 (by intro z; cases z))
    replace f3 := g12 _ _ f3 (ne_of f3 p11 (by intro z; cases z))
    replace f4 := g12 _ _ f4 (ne_of f4 p11 (by intro z; cases z))
    replace f5 := g12 _ _ f5 (ne_of f5 p11 (by intro z; cases z))
    replace f6 := g12 _ _ f6 (ne_of f6 p11 (by intro z; cases z))
    have kk12 : ∀ b u, H b = some u → b ≠ p → H12 b = some u := fun b u e nb => g12 _ _ (kk11 b u e nb) nb
    exact kk _ ⟨false, q2, q5, q6⟩ rfl ⟨dx, q2, q3, q4, p12, ⟨bk, q1, [], f2, B.keep hpi nbp kk12, f1, .nil⟩, ⟨[], f3, .nil⟩, ⟨[], f4, .nil⟩⟩ kk12
def spToday (K : PySem.W.Frag) (CB CL : Addr) : Sp := fun vs H Q _ => ∃ p kw S dn un, vs = [.ref p] ∧ LivO K CB CL H p kw S dn un ∧ Q (.int S.day) H
theorem ok_today (T : Top K mg C_Book C_LivePost C_MailError C_InvalidOperation C_InvalidOrder C_UnknownOrder C_NotHolding C_DecodeError C_NotationError C_UnknownLetter C_InvalidAddress C_InvalidDay C_InvalidNumber C_Contradiction C_InvalidCount) : PFn P w K mg base CX0 1 C_LivePost "today" (spToday K C_Book C_LivePost) := by
  refine T.d_LivePost_today.fn fun f fd F => F.ok sc_LivePost_today (fun vs H Q E h => ?_) (fun cdv A outer s H vs Q E hr h => ?_)
  · obtain ⟨p, kw, S, dn, un, rfl, _⟩ := h
    rfl
  · obtain ⟨p, kw, S, dn, un, rfl, ⟨dx, sc, d, u, h1, ⟨bk, lt, rs, a1, a2, a3, a4⟩, h3, h4⟩, kk⟩ := h
    refine ⟨_, (pss_one (ps_ret (pe_ix ix_tup (pe_fld (pv 0) rfl) pe_int (fun _ _ => rfl)))), ?_⟩
    exact ⟨_, rfl, p, C_LivePost, dx, _, _, rfl, h1, T.cl_LivePost, T.n_LivePost_scene, rfl, sc, _, _, _, rfl, rfl, .inl (.inl a1), rfl, kk⟩
def spPresent (K : PySem.W.Frag) (CB CL : Addr) : Sp := fun vs H Q _ => ∃ p kw S dn un, vs = [.ref p] ∧ LivO K CB CL H p kw S dn un ∧ ∀ bk, BookAt K CB H bk S.os → Q (.ref bk) H
theorem ok_present (T : Top K mg C_Book C_LivePost C_MailError C_InvalidOperation C_InvalidOrder C_UnknownOrder C_NotHolding C_DecodeError C_NotationError C_UnknownLetter C_InvalidAddress C_InvalidDay C_InvalidNumber C_Contradiction C_InvalidCount) : PFn P w K mg base CX0 1 C_LivePost "present_book" (spPresent K C_Book C_LivePost) := by
  refine T.d_LivePost_present_book.fn fun f fd F => F.ok sc_LivePost_present_book (fun vs H Q E h => ?_) (fun cdv A outer s H vs Q E hr h => ?_)
  · obtain ⟨p, kw, S, dn, un, rfl, _⟩ := h
    rfl
  · obtain ⟨p, kw, S, dn, un, rfl, ⟨dx, sc, d, u, h1, ⟨bk, lt, rs, a1, a2, a3, a4⟩, h3, h4⟩, kk⟩ := h
    refine ⟨_, (pss_one (ps_ret (pe_ix ix_tup (pe_fld (pv 0) rfl) pe_int (fun _ _ => rfl)))), ?_⟩
    exact ⟨_, rfl, p, C_LivePost, dx, _, _, rfl, h1, T.cl_LivePost, T.n_LivePost_scene, rfl, sc, _, _, _, rfl, rfl, .inl (.inl a1), rfl, kk bk a2⟩
def spLiveLen (K : PySem.W.Frag) (CB CL : Addr) : Sp := fun vs H Q _ => ∃ p kw S dn un, vs = [.ref p] ∧ LivO K CB CL H p kw S dn un ∧ Q (.int (S.rows.length : Nat)) H
theorem ok_live_len (T : Top K mg C_Book C_LivePost C_MailError C_InvalidOperation C_InvalidOrder C_UnknownOrder C_NotHolding C_DecodeError C_NotationError C_UnknownLetter C_InvalidAddress C_InvalidDay C_InvalidNumber C_Contradiction C_InvalidCount) : MFn P w K mg base CX0 1 C_LivePost "__len__" (spLiveLen K C_Book C_LivePost) := by
  refine T.d_LivePostX_lenX.fn fun f fd F => F.ok sc_LivePostX_lenX (fun vs H Q E h => ?_) (fun cdv A outer s H vs Q E hr h => ?_)
  · obtain ⟨p, kw, S, dn, un, rfl, _⟩ := h
    rfl
  · obtain ⟨p, kw, S, dn, un, rfl, ⟨dx, sc, d, u, h1, ⟨bk, lt, rs, a1, a2, a3, a4⟩, h3, h4⟩, kk⟩ := h
    refine ⟨_, (pss_one (ps_ret (pe_callB call_len_seq (by rfl) T.b_len (by decide +kernel) (pa_cons (pe_ix ix_tup (pe_fld (pv 0) rfl) pe_int (fun _ _ => rfl)) pa_nil)))), ?_⟩
    refine ⟨_, rfl, p, C_LivePost, dx, _, _, rfl, h1, T.cl_LivePost, T.n_LivePost_scene, rfl, sc, _, _, _, rfl, rfl, .inl (.inl a1), rfl, lt, _, rfl, .inr (.inl (.inl a3)), ?_⟩
    rw [List.length_map, PySem.Paired.length a4]
    exact kk
def spLiveCall (K : PySem.W.Frag) (CB CL : Addr) : Sp := fun vs H Q _ => ∃ p kw S dn un, ∃ n : Nat, ∃ x, vs = [.ref p, .int n] ∧ LivO K CB CL H p kw S dn un ∧ S.rows[n]? = some x ∧ ∀ r, H r = some (.tup [.str x.1, .int x.2.1, .bl x.2.2]) → Q (.ref r) H
theorem ok_live_call (T : Top K mg C_Book C_LivePost C_MailError C_InvalidOperation C_InvalidOrder C_UnknownOrder C_NotHolding C_DecodeError C_NotationError C_UnknownLetter C_InvalidAddress C_InvalidDay C_InvalidNumber C_Contradiction C_InvalidCount) : MFn P w K mg base CX0 2 C_LivePost "__call__" (spLiveCall K C_Book C_LivePost) := by
  have G_is_integer : GFn P w K mg base CX0 1 "is_integer" spIsInteger := ok_is_integer T
  refine T.d_LivePostX_callX.fn fun f fd F => F.ok sc_LivePostX_callX (fun vs H Q E h => ?_) (fun cdv A outer s H vs Q E hr h => ?_)
  · obtain ⟨p, kw, S, dn, un, n, x, rfl, _⟩ := h
    rfl
  · obtain ⟨p, kw, S, dn, un, n, x, rfl, ⟨dx, sc, d, u, h1, ⟨bk, lt, rs, a1, a2, a3, a4⟩, h3, h4⟩, ex, kk⟩ := h
    refine ⟨_, (pss_cons (ps_if (pt_not (pt_val (pe_g G_is_integer (hr.mono (by decide)) (pa_cons (pv 1) (pa_cons pe_int (pa_cons (pe_op op_sub (pe_callB call_len_seq (by rfl) T.b_len (by decide +kernel) (pa_cons (pe_ix ix_tup (pe_fld (pv 0) rfl) pe_int (fun _ _ => rfl)) pa_nil)) pe_int) pa_nil))))))
  (pss_one ps_never)
  pss_nil)
  (pss_one (ps_ret (pe_ix ix_tup (pe_ix ix_tup (pe_fld (pv 0) rfl) pe_int (fun _ _ => rfl)) (pv 1) (fun _ _ => rfl))))), ?_⟩
    have hl : rs.length = S.rows.length := PySem.Paired.length a4
    have hi : n < S.rows.length := (List.getElem?_eq_some_iff.mp ex).1
    obtain ⟨a, ea⟩ : ∃ a, rs[n]? = some a := ⟨rs[n], by simp [hl, hi]⟩
    obtain ⟨x', ex', oa⟩ := Paired.get a4 ea
    rw [ex] at ex'
    cases ex'
    refine ⟨_, rfl, _, rfl, p, C_LivePost, dx, _, _, rfl, h1, T.cl_LivePost, T.n_LivePost_scene, rfl, sc, _, _, _, rfl, rfl, .inl (.inl a1), rfl, lt, _, rfl, .inr (.inl (.inl a3)), _, _, rfl, rfl, _, _, _, rfl, rfl, _, rfl, ?_⟩
    have e : isIntB (.int (n : Nat)) 0 (((rs.map V.ref).length : Nat) - 1) = true := by
      rw [List.length_map, hl]
      have h1 : (0 : Int) ≤ (n : Nat) := by omega
      have h2 : ((n : Nat) : Int) ≤ (S.rows.length : Nat) - 1 := by omega
      simp [isIntB, h1, h2]
    rw [e]
    refine iteF ?_
    exact ⟨_, rfl, p, C_LivePost, dx, _, _, rfl, h1, T.cl_LivePost, T.n_LivePost_scene, rfl, sc, _, _, _, rfl, rfl, .inl (.inl a1), rfl, _, rfl, lt, _, _, _, rfl, rfl, .inl (.inl a3), atI_nat (by rw [List.getElem?_map, ea]; rfl), kk a oa⟩
def spEnter (K : PySem.W.Frag) (CB CL : Addr) : Sp := fun vs H Q _ => ∃ p kw S dn un q dd af A, vs = [.ref p, .ref q, .ref af] ∧ LivO K CB CL H p kw S dn un ∧ DeedAt K H q dd ∧ SceneAt K CB H af A ∧ dn.length < 1000 ∧
  ∀ H', LivO K CB CL H' p kw A (dn ++ [(dd, S, A)]) [] → (∀ b u, H b = some u → b ≠ p → H' b = some u) → Q .non H'
theorem ok_enter (T : Top K mg C_Book C_LivePost C_MailError C_InvalidOperation C_InvalidOrder C_UnknownOrder C_NotHolding C_DecodeError C_NotationError C_UnknownLetter C_InvalidAddress C_InvalidDay C_InvalidNumber C_Contradiction C_InvalidCount) : MFn P w K mg base CX0 1 C_LivePost "enter" (spEnter K C_Book C_LivePost) := by
  refine T.d_LivePost_enter.fn fun f fd F => F.ok sc_LivePost_enter (fun vs H Q E h => ?_) (fun cdv A outer s H vs Q E hr h => ?_)
  · obtain ⟨p, kw, S, dn, un, q, dd, af, A', rfl, _⟩ := h
    rfl
  · obtain ⟨p, kw, S, dn, un, q, dd, af, A', rfl, ⟨dx, sc, d, u, h1, hs, ⟨ts, h3, Pt⟩, h4⟩, hq, ha, l1000, kk⟩ := h
    refine ⟨_, (pss_cons (ps_fld (pv 0) (pe_tup (pa_star (pe_fld (pv 0) rfl) (pa_cons (pe_tup (pa_cons (pv 1) (pa_cons (pe_fld (pv 0) rfl) (pa_cons (pv 2) pa_nil)))) pa_nil))) rfl)
  (pss_cons (ps_fld (pv 0) (pe_tup pa_nil) rfl)
  (pss_one (ps_fld (pv 0) (pv 2) rfl)))), ?_⟩
    have lt : ts.length = dn.length := PySem.Paired.length Pt
    refine ⟨_, rfl, p, C_LivePost, dx, _, _, rfl, h1, T.cl_LivePost, T.n_LivePost_done, rfl, d, _, rfl, .inl (.inl (.inl h3)), ?_⟩
    refine ⟨_, rfl, _, rfl, p, C_LivePost, dx, _, _, rfl, h1, T.cl_LivePost, T.n_LivePost_scene, rfl, _, rfl, (by show 3 ≤ sizeLine; decide), fun q1 hq1 => ?_⟩
    have s1 := Same.new (o := .tup [.ref q, .ref sc, .ref af]) hq1
    have f1 : upd H q1 (.tup [.ref q, .ref sc, .ref af]) q1 = some (.tup [.ref q, .ref sc, .ref af]) := upd_same
    generalize upd H q1 (.tup [.ref q, .ref sc, .ref af]) = H1 at s1 f1
    refine ⟨by rw [List.length_append, List.length_map, sizeLine_eq]; simp only [List.length_cons, List.length_nil]; omega, fun q2 hq2 => ?_⟩
    have s2 := Same.new (o := .tup (ts.map V.ref ++ [V.ref q1])) hq2
    have f2 : upd H1 q2 (.tup (ts.map V.ref ++ [V.ref q1])) q2 = some (.tup (ts.map V.ref ++ [V.ref q1])) := upd_same
    generalize upd H1 q2 (.tup (ts.map V.ref ++ [V.ref q1])) = H2 at s2 f2
    replace f1 := s2 _ _ f1
    have s02 := s1.trans s2
    have p2 := s02 _ _ h1
    refine ⟨_, rfl, p, C_LivePost, dx, _, rfl, p2, T.cl_LivePost, T.n_LivePost_done, (by show 7 < 1000; decide), ?_⟩
    generalize eH : upd H2 p _ = H3
    have p3 : H3 p = some (.ins C_LivePost dx (lpf kw sc q2 u)) := by rw [← eH, upd_same]; rfl
    have g3 : ∀ b v, H2 b = some v → b ≠ p → H3 b = some v := fun b v e nb => by rw [← eH, upd_ne nb]; exact e
    clear eH
    refine ⟨(by show 0 ≤ sizeLine; decide), fun q3 hq3 => ?_⟩
    have s4 := Same.new (o := .tup []) hq3
    have f3 : upd H3 q3 (.tup []) q3 = some (.tup []) := upd_same
    generalize upd H3 q3 (.tup []) = H4 at s4 f3
    refine ⟨_, rfl, p, C_LivePost, dx, _, rfl, s4 _ _ p3, T.cl_LivePost, T.n_LivePost_undone, (by show 7 < 1000; decide), ?_⟩
    generalize eH : upd H4 p _ = H5
    have p5 : H5 p = some (.ins C_LivePost dx (lpf kw sc q2 q3)) := by rw [← eH, upd_same]; rfl
    have g5 : ∀ b v, H4 b = some v → b ≠ p → H5 b = some v := fun b v e nb => by rw [← eH, upd_ne nb]; exact e
    clear eH
    refine ⟨_, rfl, _, rfl, p, C_LivePost, dx, _, rfl, p5, T.cl_LivePost, T.n_LivePost_scene, (by show 7 < 1000; decide), ?_⟩
    generalize eH : upd H5 p _ = H6
    have p6 : H6 p = some (.ins C_LivePost dx (lpf kw af q2 q3)) := by rw [← eH, upd_same]; rfl
    have g6 : ∀ b v, H5 b = some v → b ≠ p → H6 b = some v := fun b v e nb => by rw [← eH, upd_ne nb]; exact e
    clear eH
    have g26 : ∀ b v, H2 b = some v → b ≠ p → H6 b = some v := fun b v e nb => g6 _ _ (g5 _ _ (s4 _ _ (g3 _ _ e nb)) nb) nb
    have g06 : ∀ b v, H b = some v → b ≠ p → H6 b = some v := fun b v e nb => g26 _ _ (s02 _ _ e) nb
    have kb : KB K C_Book H H6 := KB.live h1 g06
    have f36 : H6 q3 = some (.tup []) := g6 _ _ (g5 _ _ f3 (ne_of f3 (s4 _ _ p3) (by intro z; cases z))) (ne_of f3 (s4 _ _ p3) (by intro z; cases z))
    refine kk _ ⟨dx, af, q2, q3, p6, ha.keep kb, ⟨ts ++ [q1], ?_, ?_⟩, ⟨[], f36, .nil⟩⟩ g06
    · rw [List.map_append]
      exact g26 _ _ f2 (ne_of f2 p2 (by intro z; cases z))
    · exact Paired.append (PySem.Paired.mono (fun _ _ e => e.keep kb) Pt) (.cons ⟨q, sc, af, g26 _ _ f1 (ne_of f1 p2 (by intro z; cases z)), hq.kt kb.tup, hs.keep kb, ha.keep kb⟩ .nil)
end

end MF
set_option Elab.async false
set_option linter.all false
set_option maxRecDepth 100000
set_option maxHeartbeats 2000000
set_option pp.maxSteps 600
namespace MF
open PySem PySem.Spec PyProof.Rows L2 StX
section
variable {P : Program} {w : World} {K : PySem.W.Frag} {mg : Str → Option Value} {base : Heap} {C_Book C_LivePost C_MailError C_InvalidOperation C_InvalidOrder C_UnknownOrder C_NotHolding C_DecodeError C_NotationError C_UnknownLetter C_InvalidAddress C_InvalidDay C_InvalidNumber C_Contradiction C_InvalidCount : Addr}
def letErr (x d : V) : Option Err := if isAddrB x = true then (if isIntB d 0 1000000000000000000 = true then none else some .day) else some .address
end

end MF
set_option Elab.async false
set_option linter.all false
set_option maxRecDepth 100000
set_option maxHeartbeats 2000000
set_option pp.maxSteps 600
namespace MF
open PySem PySem.Spec PyProof.Rows L2 StX
section
variable {P : Program} {w : World} {K : PySem.W.Frag} {mg : Str → Option Value} {base : Heap} {C_Book C_LivePost C_MailError C_InvalidOperation C_InvalidOrder C_UnknownOrder C_NotHolding C_DecodeError C_NotationError C_UnknownLetter C_InvalidAddress C_InvalidDay C_InvalidNumber C_Contradiction C_InvalidCount : Addr}
theorem ok_InvalidOrder (T : Top K mg C_Book C_LivePost C_MailError C_InvalidOperation C_InvalidOrder C_UnknownOrder C_NotHolding C_DecodeError C_NotationError C_UnknownLetter C_InvalidAddress C_InvalidDay C_InvalidNumber C_Contradiction C_InvalidCount) : EFn P w K mg base CX0 1 C_InvalidOrder "InvalidOrder" ["self", "index"] (spE1 K C_InvalidOrder "index") := by
  refine T.d_InvalidOrderX_initX.fn fun f fd F => F.ok sc_InvalidOrderX_initX (fun vs H Q E h => ?_) (fun cdv A outer s H vs Q E hr h => ?_)
  · obtain ⟨a, v, rfl, _⟩ := h
    rfl
  · obtain ⟨a, v, rfl, hf, ha, k⟩ := h
    refine ⟨_, (pss_cons (ps_expr (pe_binit rfl T.g_MailError T.base_MailError (pa_cons (pv 0) (pa_cons (pe_joined (PJ.cons pe_str (PJ.cons (pe_fmtV (pv 1)) PJ.nil))) pa_nil))))
  (pss_one (ps_ost (pv 0) (pv 1)))), ?_⟩
    have ox := T.d_InvalidOrderX_initX.ox
    refine ⟨_, rfl, _, rfl, ?_, _, rfl, hf, fun y hy => ⟨_, rfl, ?_, ?_⟩⟩
    · decide +kernel
    · rw [Str.length_append]
      have : (Str.empty ++ ("invalid order at index " : Str)).length = 23 := by decide +kernel
      rw [this, sizeLine_eq]
      omega
    refine ⟨a, C_InvalidOrder, [.str _], rfl, by simp, ox, ha, ?_⟩
    exact ⟨_, rfl, _, rfl, a, C_InvalidOrder, rfl, ox, T.na_InvalidOrder, .inl ⟨ha, fun dx hd ne => k dx hd ne⟩⟩
def BadV (K : PySem.W.Frag) (H : Hp) (v : V) : Prop := (∃ a xs, v = .ref a ∧ SqT K H a xs ∧ (∀ x ∈ xs, notSeq x = true ∧ shortV x) ∧ isOrdB xs = false) ∨ (∃ a xs, v = .ref a ∧ SqL K H a xs) ∨ notSeq v = true
theorem BadV.mono {H H' : Hp} {v : V} (h : BadV K H v) (s : Same H H') : BadV K H' v := by
  rcases h with ⟨a, xs, h1, h2, h3⟩ | ⟨a, xs, h1, h2⟩ | h
  · exact .inl ⟨a, xs, h1, MF.Same.tup s h2, h3⟩
  · exact .inr (.inl ⟨a, xs, h1, s.seq h2⟩)
  · exact .inr (.inr h)
structure FirstBad (K : PySem.W.Frag) (H : Hp) (xs : List V) (n : Nat) : Prop where
  ex : ∃ as os v rest, xs = as.map V.ref ++ v :: rest ∧ OrdsAt K H as os ∧ (∀ o ∈ os, o.Ok) ∧ (os.Pairwise fun o p => overB o p = false) ∧ as.length = n ∧ n ≤ 30 ∧ (n = 30 ∨ BadV K H v ∨ ∃ a o p, v = .ref a ∧ OrdAt K H a o ∧ o.Ok ∧ p ∈ os ∧ overB p o = true)
theorem FirstBad.mono {H H' : Hp} {xs : List V} {n : Nat} (h : FirstBad K H xs n) (s : Same H H') : FirstBad K H' xs n := by
  obtain ⟨as, os, v, rest, h1, h2, h3, h4, h5, h6, h7⟩ := h.ex
  refine ⟨as, os, v, rest, h1, h2.mono s, h3, h4, h5, h6, ?_⟩
  rcases h7 with h | h | ⟨a, o, p, a1, a2, a3⟩
  · exact .inl h
  · exact .inr (.inl (h.mono s))
  · exact .inr (.inr ⟨a, o, p, a1, a2.mono s, a3⟩)
def spInitX (K : PySem.W.Frag) (c : Cls5) : Sp := fun vs H _ E => ∃ x t xs, ∃ n : Nat, vs = [.ref x, .ref t] ∧ SqT K H t xs ∧ FirstBad K H xs n ∧ ∀ H' cls d, Same H H' → ErrAt c cls d H' (.order (.int (n : Nat))) → E cls d H'
theorem okX_Book (T : Top K mg C_Book C_LivePost C_MailError C_InvalidOperation C_InvalidOrder C_UnknownOrder C_NotHolding C_DecodeError C_NotationError C_UnknownLetter C_InvalidAddress C_InvalidDay C_InvalidNumber C_Contradiction C_InvalidCount) : IFn P w K mg base (L2N.CX P w) 3 C_Book "Book" (fun vs H Q E => ∃ v rest, vs = v :: rest ∧ rest.length ≤ sizeLine ∧ ∀ p, H p = Option.none → spInitX K ⟨C_InvalidOrder, C_UnknownOrder, C_InvalidAddress, C_InvalidDay, C_InvalidNumber, C_UnknownLetter, C_NotHolding, C_InvalidOperation, C_Contradiction, C_InvalidCount, C_DecodeError, C_NotationError⟩ [v, V.ref p] (upd H p (.tup rest)) Q E) := by
  have G_is_order : GFn P w K mg base CX0 2 "is_order" (spIsOrder K) := ok_is_order T
  have G_do_overlap : GFn P w K mg base CX0 1 "do_overlap" (spOverlap K) := ok_do_overlap T
  have E_InvalidOrder : EFn P w K mg base CX0 1 C_InvalidOrder "InvalidOrder" ["self", "index"] (spE1 K C_InvalidOrder "index") := ok_InvalidOrder T
  refine T.d_BookX_initX.fnXN (sp := spInitX K ⟨C_InvalidOrder, C_UnknownOrder, C_InvalidAddress, C_InvalidDay, C_InvalidNumber, C_UnknownLetter, C_NotHolding, C_InvalidOperation, C_Contradiction, C_InvalidCount, C_DecodeError, C_NotationError⟩) sc_BookX_initX fun f cdv A outer s H vs Q E hr h => ?_
  obtain ⟨x, t, xs, n, rfl, ht, fb, kk⟩ := h
  obtain ⟨as, os, v, rest, rfl, ho, ok, apart, hn, h30, hbad⟩ := fb.ex
  have fmtn : ∀ i : Nat, i ≤ 30 → FmtOk (.int (i : Nat)) := fun i hi => by
    show (i : Int).natAbs.log2 < 1920
    rw [Int.natAbs_natCast]
    have : i.log2 ≤ i := Nat.log2_le_self i
    omega
  refine ⟨_, (pss_cons (ps_for owns_cxN rfl (pi_enumT (by rfl) T.b_enumerate (pa_cons (pv 1) pa_nil)) (pg_tup rfl (pgs_cons (pg_name (i := 2) sc_BookX_initX.nd rfl (Or.inl rfl)) (pgs_cons (pg_name (i := 3) sc_BookX_initX.nd rfl (Or.inl rfl)) pgs_nil)))
  (pss_cons (ps_if (PW.pt (pw_or (pt_cmpR op_eq (pv 2) (pe_gint T.c_MAX_ORDERS_books) (nomark _)) (pw_or1 (pt_not (pt_val (pe_g G_is_order (hr.mono (by decide)) (pa_cons (pv 3) pa_nil)))))))
  (pss_one (L2N.ps_raise rfl takeEN (pmk_1N E_InvalidOrder (hr.mono (by decide)) (pa_cons (pv 2) pa_nil))))
  pss_nil)
  (pss_one (ps_for owns_cxN rfl (pi_tup (pe_slice sl_tup (pv 1) po_none (po_some (pv 2)))) (pg_name (i := 4) sc_BookX_initX.nd rfl (Or.inl rfl))
  (pss_one (ps_if (pt_val (pe_g G_do_overlap (hr.mono (by decide)) (pa_cons (pv 4) (pa_cons (pv 3) pa_nil))))
  (pss_one (L2N.ps_raise rfl takeEN (pmk_1N E_InvalidOrder (hr.mono (by decide)) (pa_cons (pv 2) pa_nil))))
  pss_nil))))))
  (pss_one (ps_fld (pv 0) (pv 1) rfl))), ?_⟩
  have hl : as.length = os.length := PySem.Paired.length ho
  have lx : (as.map V.ref ++ v :: rest).length = n + 1 + rest.length := by rw [List.length_append, List.length_map, hn, List.length_cons]; omega
  refine ⟨_, rfl, t, _, rfl, ht, for_it walk_enumT (fun i σ H' => i ≤ n ∧ Same H H' ∧ ∃ v2 v3 v4, σ = [some (.ref x), some (.ref t), v2, v3, v4]) ⟨Nat.zero_le _, Same.refl H, _, _, _, rfl⟩ (fun i σ H' _ ⟨_, s1, _⟩ => MF.Same.tup s1 ht) ?_ ?_⟩
  · rintro i y σ H1 H2 hi ⟨hin, s1, v2, v3, v4, rfl⟩ ⟨p, z1, z2, rfl, hp, rfl, e1, e2⟩
    cases e1
    replace e2 : (as.map V.ref ++ v :: rest)[i]? = some z2 := e2
    have s2 : Same H (upd H1 p (.tup [.int (i : Nat), z2])) := MF.Same.upd s1 hp
    refine ⟨p, _, rfl, .inl (.inl upd_same), rfl, _, _, rfl, _, _, rfl, rfl, ?_⟩
    generalize upd H1 p (.tup [.int (i : Nat), z2]) = H3 at s2
    refine ⟨_, rfl, rfl, _, rfl, ?_⟩
    by_cases c : i < n
    · have ne30 : decide (V.int ((i : Nat) : Int) = V.int 30) = false := decide_eq_false fun q => by
        have := V.int.inj q
        omega
      rw [ne30]
      refine iteF ?_
      obtain ⟨a, ea⟩ : ∃ a, as[i]? = some a := ⟨as[i], by simp [hn, c]⟩
      rw [List.getElem?_append_left (by rw [List.length_map, hn]; exact c), List.getElem?_map, ea] at e2
      cases e2
      obtain ⟨o, eo, oa⟩ := Paired.get ho ea
      have om : o ∈ os := List.mem_of_getElem? eo
      refine ⟨_, rfl, _, true, rfl, .inl ⟨a, _, rfl, oa.mono s2, isOrd_flat (ok o om), (ok o om).b.symm⟩, fun H4 s4 => ⟨_, rfl, iteF ?_⟩⟩
      have s14 := s2.trans s4
      have tt := MF.Same.tup s14 ht
      refine ⟨_, rfl, _, rfl, _, rfl, t, _, rfl, tt, ?_, fun p2 hp2 => ?_⟩
      · rw [HT.sIx_nat, lx]
        omega
      rw [cut_take _ _ (by rw [lx]; omega), List.take_append_of_le_length (by rw [List.length_map, hn]; omega)]
      refine ⟨p2, rfl, ⟨_, .inl (.inl upd_same)⟩, for_it (walk_tup (xs := (as.map V.ref).take i)) (fun j σ H' => Same H H' ∧ SqT K H' p2 ((as.map V.ref).take i) ∧ ∃ v4, σ = [some (.ref x), some (.ref t), some (.int (i : Nat)), some (.ref a), v4]) ⟨MF.Same.upd s14 hp2, .inl (.inl upd_same), _, rfl⟩ (fun j σ H' _ ⟨_, q, _⟩ => q) ?_ ?_⟩
      · rintro j y σ H4 H5 hj ⟨s4, q4, v4', rfl⟩ ⟨rfl, ey⟩
        rw [List.length_take, List.length_map] at hj
        have hji : j < i := by omega
        obtain ⟨b, eb⟩ : ∃ b, as[j]? = some b := ⟨as[j]'(by omega), by simp [show j < as.length by omega]⟩
        rw [List.getElem?_take, if_pos hji, List.getElem?_map, eb] at ey
        cases ey
        obtain ⟨o', eo', ob⟩ := Paired.get ho eb
        refine ⟨_, rfl, _, rfl, b, a, o', o, rfl, ob.mono s4, oa.mono s4, ⟨_, rfl, ?_⟩⟩
        have hov : overB o' o = false := by
          have hj' : j < os.length := by omega
          have hi' : i < os.length := by omega
          have := List.pairwise_iff_getElem.mp apart j i hj' hi' hji
          rw [List.getElem?_eq_getElem hj'] at eo'
          rw [List.getElem?_eq_getElem hi'] at eo
          cases eo'
          cases eo
          exact this
        rw [hov]
        exact iteF ⟨s4, q4, _, rfl⟩
      · rintro σ H4 ⟨s4, _, v4', rfl⟩
        exact ⟨c, s4, _, _, _, rfl⟩
    · have ein : i = n := by omega
      subst ein
      rw [List.getElem?_append_right (by rw [List.length_map, hn]; exact Nat.le_refl _), List.length_map, hn, Nat.sub_self] at e2
      cases e2
      by_cases c30 : i = 30
      · rw [show decide (V.int ((i : Nat) : Int) = V.int 30) = true from decide_eq_true (by rw [c30]; rfl)]
        refine iteT ?_
        exact ⟨_, rfl, e1_fin (fmtn i h30) fun d H5 s5 fd ed => kk _ _ _ (s2.trans s5) ⟨rfl, d, rfl, ed⟩⟩
      · have ne30 : decide (V.int ((i : Nat) : Int) = V.int 30) = false := decide_eq_false fun q => by
          have := V.int.inj q
          omega
        rw [ne30]
        refine iteF ?_
        rcases hbad with hb | hb | ⟨a, o, q, rfl, oa, oo, qm, qo⟩
        · exact absurd hb c30
        · have hb3 := hb.mono s2
          refine ⟨_, rfl, _, false, rfl, ?_, fun H4 s4 => ⟨_, rfl, iteT ⟨_, rfl, e1_fin (fmtn i h30) fun d H5 s5 fd ed => kk _ _ _ ((s2.trans s4).trans s5) ⟨rfl, d, rfl, ed⟩⟩⟩⟩
          rcases hb3 with ⟨a, xs, h1, h2, h3, h4⟩ | ⟨a, xs, h1, h2⟩ | h
          · exact .inl ⟨a, xs, h1, h2, h3, h4.symm⟩
          · exact .inr (.inl ⟨a, xs, h1, h2, rfl⟩)
          · exact .inr (.inr ⟨h, rfl⟩)
        · refine ⟨_, rfl, _, true, rfl, .inl ⟨a, _, rfl, oa.mono s2, isOrd_flat oo, oo.b.symm⟩, fun H4 s4 => ⟨_, rfl, iteF ?_⟩⟩
          have s14 := s2.trans s4
          have tt := MF.Same.tup s14 ht
          refine ⟨_, rfl, _, rfl, _, rfl, t, _, rfl, tt, ?_, fun p2 hp2 => ?_⟩
          · rw [HT.sIx_nat, lx]
            omega
          rw [cut_take _ _ (by rw [lx]; omega), List.take_append_of_le_length (by rw [List.length_map, hn]; omega)]
          refine ⟨p2, rfl, ⟨_, .inl (.inl upd_same)⟩, for_it (walk_tup (xs := (as.map V.ref).take i)) (fun j σ H' => Same H H' ∧ SqT K H' p2 ((as.map V.ref).take i) ∧ (∀ (m : Nat) q, m < j → os[m]? = some q → overB q o = false) ∧ ∃ v4, σ = [some (.ref x), some (.ref t), some (.int (i : Nat)), some (.ref a), v4]) ⟨MF.Same.upd s14 hp2, .inl (.inl upd_same), (fun m q hm => absurd hm (Nat.not_lt_zero _)), _, rfl⟩ (fun j σ H' _ ⟨_, q, _⟩ => q) ?_ ?_⟩
          · rintro j y σ H4 H5 hj ⟨s4, q4, nov, v4', rfl⟩ ⟨rfl, ey⟩
            rw [List.length_take, List.length_map] at hj
            have hji : j < i := by omega
            obtain ⟨b, eb⟩ : ∃ b, as[j]? = some b := ⟨as[j]'(by omega), by simp [show j < as.length by omega]⟩
            rw [List.getElem?_take, if_pos hji, List.getElem?_map, eb] at ey
            cases ey
            obtain ⟨o', eo', ob⟩ := Paired.get ho eb
            refine ⟨_, rfl, _, rfl, b, a, o', o, rfl, ob.mono s4, oa.mono s4, ⟨_, rfl, ?_⟩⟩
            cases hov : overB o' o with
            | true => exact iteT ⟨_, rfl, e1_fin (fmtn i h30) fun d H5 s5 fd ed => kk _ _ _ (s4.trans s5) ⟨rfl, d, rfl, ed⟩⟩
            | false =>
              refine iteF ⟨s4, q4, fun m q hm em => ?_, _, rfl⟩
              by_cases e : m = j
              · subst e
                rw [eo'] at em
                cases em
                exact hov
              · exact nov m q (by omega) em
          · rintro σ H4 ⟨s4, _, nov, v4', rfl⟩
            exfalso
            obtain ⟨m, hm, em⟩ := List.mem_iff_getElem.mp qm
            have := nov m q (by rw [List.length_take, List.length_map, hn]; omega) (by rw [← em]; simp [hm])
            rw [qo] at this
            cases this
  · rintro σ H1 ⟨hin, s1, v2, v3, v4, rfl⟩
    rw [lx] at hin
    omega
end

end MF
set_option Elab.async false
set_option linter.all false
set_option maxRecDepth 100000
set_option maxHeartbeats 2000000
set_option pp.maxSteps 600
namespace MF
open PySem PySem.Spec PyProof.Rows L2 StX
section
variable {P : Program} {w : World} {K : PySem.W.Frag} {mg : Str → Option Value} {base : Heap} {C_Book C_LivePost C_MailError C_InvalidOperation C_InvalidOrder C_UnknownOrder C_NotHolding C_DecodeError C_NotationError C_UnknownLetter C_InvalidAddress C_InvalidDay C_InvalidNumber C_Contradiction C_InvalidCount : Addr}
def pickR (b : Bool) (rows : List LRow) (n : Nat) : List (Nat × Str × Int) := (List.range n).filterMap fun i => rows[i]?.bind fun x => if x.2.2 = b then some (i, x.1, x.2.1) else none
theorem pickR_step {b : Bool} {rows : List LRow} {n : Nat} {x : LRow} (h : rows[n]? = some x) : pickR b rows (n + 1) = pickR b rows n ++ (if x.2.2 = b then [(n, x.1, x.2.1)] else []) := by
  unfold pickR
  rw [List.range_succ, List.filterMap_append]
  congr 1
  show [n].filterMap _ = _
  by_cases c : x.2.2 = b
  · simp [h, c]
  · simp [h, c]
def NumAt (H : Hp) (ps : List Addr) (xs : List (Nat × Str × Int)) : Prop := PySem.Paired (fun p (y : Nat × Str × Int) => H p = some (.tup [.int (y.1 : Nat), .str y.2.1, .int y.2.2])) ps xs
theorem NumAt.keep {H H' : Hp} {ps : List Addr} {xs : List (Nat × Str × Int)} (h : NumAt H ps xs) (k : ∀ b u, H b = some u → tupl u = true → H' b = some u) : NumAt H' ps xs := PySem.Paired.mono (fun _ _ e => k _ _ e rfl) h
def spPickR (b : Bool) (K : PySem.W.Frag) (CB CL : Addr) : Sp := fun vs H Q _ => ∃ p kw S dn un, vs = [.ref p] ∧ LivO K CB CL H p kw S dn un ∧ S.rows.length ≤ 1000 ∧
  ∀ H' l ps, Same H H' → H l = none → H' l = some (.lst (ps.map V.ref)) → NumAt H' ps (pickR b S.rows S.rows.length) → Q (.ref l) H'
theorem ok_resting (T : Top K mg C_Book C_LivePost C_MailError C_InvalidOperation C_InvalidOrder C_UnknownOrder C_NotHolding C_DecodeError C_NotationError C_UnknownLetter C_InvalidAddress C_InvalidDay C_InvalidNumber C_Contradiction C_InvalidCount) : PFn P w K mg base CX0 1 C_LivePost "resting" (spPickR true K C_Book C_LivePost) := by
  refine T.d_LivePost_resting.fn fun f fd F => F.ok sc_LivePost_resting (fun vs H Q E h => ?_) (fun cdv A outer s H vs Q E hr h => ?_)
  · obtain ⟨p, kw, S, dn, un, rfl, _⟩ := h
    rfl
  · obtain ⟨p, kw, S, dn, un, rfl, ⟨dx, sc, d, u, h1, ⟨bk, lt, rs, a1, a2, a3, a4⟩, h3, h4⟩, l1000, kk⟩ := h
    refine ⟨_, (pss_one (ps_ret (pe_lc (own := [("number", 1), ("row", 2)]) (g := (gTup K 2 (gCons (gName 1) (gCons (gName 2) gNil)))) (by rfl) sc_LivePost_resting.nd (pi_enumT (by rfl) T.b_enumerate (pa_cons (pe_ix ix_tup (pe_fld (pv 0) rfl) pe_int (fun _ _ => rfl)) pa_nil)) (blkOk_by (own := [("number", 1), ("row", 2)]) (N := ["self", "number", "row"]) (sc := defScope s_LivePost_resting) (by decide +kernel)) (fun _ _ _ _ _ => (pg_tup rfl (pgs_cons (pg_name (i := 1) sc_LivePost_resting.nd rfl (Or.inl rfl)) (pgs_cons (pg_name (i := 2) sc_LivePost_resting.nd rfl (Or.inl rfl)) pgs_nil)))) (fun _ _ _ _ _ => (pts_one (pt_val (pe_ix (ix_tupK (K := K)) (pv 2) pe_int (fun _ _ => rfl))))) (fun _ _ _ _ _ => (pe_tup (pa_cons (pv 1) (pa_cons (pe_ix (ix_tupK (K := K)) (pv 2) pe_int (fun _ _ => rfl)) (pa_cons (pe_ix (ix_tupK (K := K)) (pv 2) pe_int (fun _ _ => rfl)) pa_nil)))))))), ?_⟩
    have hl : rs.length = S.rows.length := PySem.Paired.length a4
    have gt : ∀ {H' : Hp}, Same H H' → SqT K H' lt (rs.map V.ref) := fun s' => .inl (.inl (s' _ _ a3))
    refine ⟨_, rfl, p, C_LivePost, dx, _, _, rfl, h1, T.cl_LivePost, T.n_LivePost_scene, rfl, sc, _, _, _, rfl, rfl, .inl (.inl a1), rfl, lt, _, rfl, gt (Same.refl H), fun D hD => ?_⟩
    refine lc_it walk_enumT (fun j H' => Same H H' ∧ ∃ ps, H' D = some (.lst (ps.map V.ref)) ∧ NumAt H' ps (pickR true S.rows j) ∧ ps.length ≤ j) ⟨Same.new hD, [], upd_same, .nil, Nat.le_refl _⟩ (fun j H' _ ⟨s1, _⟩ => gt s1) ?_ ?_
    · rintro j y H2 H3 hj ⟨s2, ps, e2, N2, lp⟩ ⟨q, z1, z2, rfl, hq, rfl, ez1, ez2⟩
      cases ez1
      rw [List.length_map] at hj
      obtain ⟨r, er⟩ : ∃ r, rs[j]? = some r := ⟨rs[j], by simp [hj]⟩
      replace ez2 : (rs.map V.ref)[j]? = some z2 := ez2
      rw [List.getElem?_map, er] at ez2
      cases ez2
      obtain ⟨x, ex, hx⟩ := Paired.get a4 er
      have s3 := Same.new (o := .tup [.int (j : Nat), .ref r]) hq
      have s13 := s2.trans s3
      have e3 := s3 _ _ e2
      have N3 := N2.keep fun b u e _ => s3 _ _ e
      refine ⟨q, _, rfl, .inl (.inl upd_same), rfl, _, _, rfl, _, _, rfl, rfl, rfl, ?_⟩
      generalize upd H2 q (.tup [.int (j : Nat), .ref r]) = H3 at s3 s13 e3 N3
      refine ⟨_, rfl, r, _, _, _, rfl, rfl, .inl (.inl (s13 _ _ hx)), rfl, _, rfl, ?_⟩
      have yes : x.2.2 = true → ∀ t, H3 t = none → (upd (upd H3 t (.tup [.int (j : Nat), .str x.1, .int x.2.1])) D (.lst (ps.map V.ref ++ [.ref t]))) D = some (.lst ((ps ++ [t]).map V.ref)) ∧ NumAt (upd (upd H3 t (.tup [.int (j : Nat), .str x.1, .int x.2.1])) D (.lst (ps.map V.ref ++ [.ref t]))) (ps ++ [t]) (pickR true S.rows (j + 1)) ∧ Same H (upd (upd H3 t (.tup [.int (j : Nat), .str x.1, .int x.2.1])) D (.lst (ps.map V.ref ++ [.ref t]))) ∧ (upd H3 t (.tup [.int (j : Nat), .str x.1, .int x.2.1])) D = some (.lst (ps.map V.ref)) := fun c t ht => by
        have nDt : D ≠ t := ne_of_none e3 ht
        refine ⟨by rw [upd_same, List.map_append]; rfl, ?_, fun b u e => ?_, by rw [upd_ne nDt]; exact e3⟩
        · rw [pickR_step ex, if_pos c]
          refine Paired.append (N3.keep fun b u e y => ?_) (.cons ?_ .nil)
          · rw [upd_ne (fun w => by rw [w, e3] at e; cases e; cases y), upd_ne (ne_of_none e ht)]
            exact e
          · rw [upd_ne nDt.symm, upd_same]
        · rw [upd_ne (ne_of_none e hD), upd_ne (ne_of_none (s13 _ _ e) ht)]
          exact s13 _ _ e
      have no : x.2.2 ≠ true → Same H H3 ∧ ∃ ps, H3 D = some (.lst (ps.map V.ref)) ∧ NumAt H3 ps (pickR true S.rows (j + 1)) ∧ ps.length ≤ j + 1 := fun c => ⟨s13, ps, e3, by rw [pickR_step ex, if_neg c, List.append_nil]; exact N3, by omega⟩
      have take : ∀ c : x.2.2 = true, ∀ t, H3 t = none → ∃ xs, (upd H3 t (.tup [.int (j : Nat), .str x.1, .int x.2.1])) D = some (.lst xs) ∧ xs.length < sizeLine ∧ (Same H (upd (upd H3 t (.tup [.int (j : Nat), .str x.1, .int x.2.1])) D (.lst (xs ++ [.ref t]))) ∧ ∃ ps, (upd (upd H3 t (.tup [.int (j : Nat), .str x.1, .int x.2.1])) D (.lst (xs ++ [.ref t]))) D = some (.lst (ps.map V.ref)) ∧ NumAt (upd (upd H3 t (.tup [.int (j : Nat), .str x.1, .int x.2.1])) D (.lst (xs ++ [.ref t]))) ps (pickR true S.rows (j + 1)) ∧ ps.length ≤ j + 1) := fun c t ht => by
        obtain ⟨y1, y2, y3, y4⟩ := yes c t ht
        exact ⟨_, y4, by rw [List.length_map, sizeLine_eq]; omega, y3, ps ++ [t], y1, y2, by rw [List.length_append]; simp only [List.length_cons, List.length_nil]; omega⟩
      cases c : x.2.2 with
      | true =>
        refine iteT ?_
        refine ⟨_, rfl, _, rfl, r, _, _, _, rfl, rfl, .inl (.inl (s13 _ _ hx)), rfl, _, rfl, r, _, _, _, rfl, rfl, .inl (.inl (s13 _ _ hx)), rfl, (by show 3 ≤ sizeLine; decide), fun t ht => take c t ht⟩
      | false =>
        refine iteF ?_
        exact no (by rw [c]; decide)
    · rintro H2 ⟨s2, ps, e2, N2, _⟩
      rw [List.length_map, hl] at N2
      exact kk _ D ps s2 hD e2 N2
theorem ok_under_way (T : Top K mg C_Book C_LivePost C_MailError C_InvalidOperation C_InvalidOrder C_UnknownOrder C_NotHolding C_DecodeError C_NotationError C_UnknownLetter C_InvalidAddress C_InvalidDay C_InvalidNumber C_Contradiction C_InvalidCount) : PFn P w K mg base CX0 1 C_LivePost "under_way" (spPickR false K C_Book C_LivePost) := by
  refine T.d_LivePost_under_way.fn fun f fd F => F.ok sc_LivePost_under_way (fun vs H Q E h => ?_) (fun cdv A outer s H vs Q E hr h => ?_)
  · obtain ⟨p, kw, S, dn, un, rfl, _⟩ := h
    rfl
  · obtain ⟨p, kw, S, dn, un, rfl, ⟨dx, sc, d, u, h1, ⟨bk, lt, rs, a1, a2, a3, a4⟩, h3, h4⟩, l1000, kk⟩ := h
    refine ⟨_, (pss_one (ps_ret (pe_lc (own := [("number", 1), ("row", 2)]) (g := (gTup K 2 (gCons (gName 1) (gCons (gName 2) gNil)))) (by rfl) sc_LivePost_under_way.nd (pi_enumT (by rfl) T.b_enumerate (pa_cons (pe_ix ix_tup (pe_fld (pv 0) rfl) pe_int (fun _ _ => rfl)) pa_nil)) (blkOk_by (own := [("number", 1), ("row", 2)]) (N := ["self", "number", "row"]) (sc := defScope s_LivePost_under_way) (by decide +kernel)) (fun _ _ _ _ _ => (pg_tup rfl (pgs_cons (pg_name (i := 1) sc_LivePost_under_way.nd rfl (Or.inl rfl)) (pgs_cons (pg_name (i := 2) sc_LivePost_under_way.nd rfl (Or.inl rfl)) pgs_nil)))) (fun _ _ _ _ _ => (pts_one (pt_not (pt_val (pe_ix (ix_tupK (K := K)) (pv 2) pe_int (fun _ _ => rfl)))))) (fun _ _ _ _ _ => (pe_tup (pa_cons (pv 1) (pa_cons (pe_ix (ix_tupK (K := K)) (pv 2) pe_int (fun _ _ => rfl)) (pa_cons (pe_ix (ix_tupK (K := K)) (pv 2) pe_int (fun _ _ => rfl)) pa_nil)))))))), ?_⟩
    have hl : rs.length = S.rows.length := PySem.Paired.length a4
    have gt : ∀ {H' : Hp}, Same H H' → SqT K H' lt (rs.map V.ref) := fun s' => .inl (.inl (s' _ _ a3))
    refine ⟨_, rfl, p, C_LivePost, dx, _, _, rfl, h1, T.cl_LivePost, T.n_LivePost_scene, rfl, sc, _, _, _, rfl, rfl, .inl (.inl a1), rfl, lt, _, rfl, gt (Same.refl H), fun D hD => ?_⟩
    refine lc_it walk_enumT (fun j H' => Same H H' ∧ ∃ ps, H' D = some (.lst (ps.map V.ref)) ∧ NumAt H' ps (pickR false S.rows j) ∧ ps.length ≤ j) ⟨Same.new hD, [], upd_same, .nil, Nat.le_refl _⟩ (fun j H' _ ⟨s1, _⟩ => gt s1) ?_ ?_
    · rintro j y H2 H3 hj ⟨s2, ps, e2, N2, lp⟩ ⟨q, z1, z2, rfl, hq, rfl, ez1, ez2⟩
      cases ez1
      rw [List.length_map] at hj
      obtain ⟨r, er⟩ : ∃ r, rs[j]? = some r := ⟨rs[j], by simp [hj]⟩
      replace ez2 : (rs.map V.ref)[j]? = some z2 := ez2
      rw [List.getElem?_map, er] at ez2
      cases ez2
      obtain ⟨x, ex, hx⟩ := Paired.get a4 er
      have s3 := Same.new (o := .tup [.int (j : Nat), .ref r]) hq
      have s13 := s2.trans s3
      have e3 := s3 _ _ e2
      have N3 := N2.keep fun b u e _ => s3 _ _ e
      refine ⟨q, _, rfl, .inl (.inl upd_same), rfl, _, _, rfl, _, _, rfl, rfl, rfl, ?_⟩
      generalize upd H2 q (.tup [.int (j : Nat), .ref r]) = H3 at s3 s13 e3 N3
      refine ⟨_, rfl, r, _, _, _, rfl, rfl, .inl (.inl (s13 _ _ hx)), rfl, _, rfl, ?_⟩
      have yes : x.2.2 = false → ∀ t, H3 t = none → (upd (upd H3 t (.tup [.int (j : Nat), .str x.1, .int x.2.1])) D (.lst (ps.map V.ref ++ [.ref t]))) D = some (.lst ((ps ++ [t]).map V.ref)) ∧ NumAt (upd (upd H3 t (.tup [.int (j : Nat), .str x.1, .int x.2.1])) D (.lst (ps.map V.ref ++ [.ref t]))) (ps ++ [t]) (pickR false S.rows (j + 1)) ∧ Same H (upd (upd H3 t (.tup [.int (j : Nat), .str x.1, .int x.2.1])) D (.lst (ps.map V.ref ++ [.ref t]))) ∧ (upd H3 t (.tup [.int (j : Nat), .str x.1, .int x.2.1])) D = some (.lst (ps.map V.ref)) := fun c t ht => by
        have nDt : D ≠ t := ne_of_none e3 ht
        refine ⟨by rw [upd_same, List.map_append]; rfl, ?_, fun b u e => ?_, by rw [upd_ne nDt]; exact e3⟩
        · rw [pickR_step ex, if_pos c]
          refine Paired.append (N3.keep fun b u e y => ?_) (.cons ?_ .nil)
          · rw [upd_ne (fun w => by rw [w, e3] at e; cases e; cases y), upd_ne (ne_of_none e ht)]
            exact e
          · rw [upd_ne nDt.symm, upd_same]
        · rw [upd_ne (ne_of_none e hD), upd_ne (ne_of_none (s13 _ _ e) ht)]
          exact s13 _ _ e
      have no : x.2.2 ≠ false → Same H H3 ∧ ∃ ps, H3 D = some (.lst (ps.map V.ref)) ∧ NumAt H3 ps (pickR false S.rows (j + 1)) ∧ ps.length ≤ j + 1 := fun c => ⟨s13, ps, e3, by rw [pickR_step ex, if_neg c, List.append_nil]; exact N3, by omega⟩
      have take : ∀ c : x.2.2 = false, ∀ t, H3 t = none → ∃ xs, (upd H3 t (.tup [.int (j : Nat), .str x.1, .int x.2.1])) D = some (.lst xs) ∧ xs.length < sizeLine ∧ (Same H (upd (upd H3 t (.tup [.int (j : Nat), .str x.1, .int x.2.1])) D (.lst (xs ++ [.ref t]))) ∧ ∃ ps, (upd (upd H3 t (.tup [.int (j : Nat), .str x.1, .int x.2.1])) D (.lst (xs ++ [.ref t]))) D = some (.lst (ps.map V.ref)) ∧ NumAt (upd (upd H3 t (.tup [.int (j : Nat), .str x.1, .int x.2.1])) D (.lst (xs ++ [.ref t]))) ps (pickR false S.rows (j + 1)) ∧ ps.length ≤ j + 1) := fun c t ht => by
        obtain ⟨y1, y2, y3, y4⟩ := yes c t ht
        exact ⟨_, y4, by rw [List.length_map, sizeLine_eq]; omega, y3, ps ++ [t], y1, y2, by rw [List.length_append]; simp only [List.length_cons, List.length_nil]; omega⟩
      cases c : x.2.2 with
      | false =>
        refine iteT ?_
        refine ⟨_, rfl, _, rfl, r, _, _, _, rfl, rfl, .inl (.inl (s13 _ _ hx)), rfl, _, rfl, r, _, _, _, rfl, rfl, .inl (.inl (s13 _ _ hx)), rfl, (by show 3 ≤ sizeLine; decide), fun t ht => take c t ht⟩
      | true =>
        refine iteF ?_
        exact no (by rw [c]; decide)
    · rintro H2 ⟨s2, ps, e2, N2, _⟩
      rw [List.length_map, hl] at N2
      exact kk _ D ps s2 hD e2 N2
theorem ok_UnknownLetter (T : Top K mg C_Book C_LivePost C_MailError C_InvalidOperation C_InvalidOrder C_UnknownOrder C_NotHolding C_DecodeError C_NotationError C_UnknownLetter C_InvalidAddress C_InvalidDay C_InvalidNumber C_Contradiction C_InvalidCount) : EFn P w K mg base CX0 1 C_UnknownLetter "UnknownLetter" ["self", "letter"] (spE1 K C_UnknownLetter "letter") := by
  refine T.d_UnknownLetterX_initX.fn fun f fd F => F.ok sc_UnknownLetterX_initX (fun vs H Q E h => ?_) (fun cdv A outer s H vs Q E hr h => ?_)
  · obtain ⟨a, v, rfl, _⟩ := h
    rfl
  · obtain ⟨a, v, rfl, hf, ha, k⟩ := h
    refine ⟨_, (pss_cons (ps_expr (pe_binit rfl T.g_MailError T.base_MailError (pa_cons (pv 0) (pa_cons (pe_joined (PJ.cons pe_str (PJ.cons (pe_fmtV (pv 1)) PJ.nil))) pa_nil))))
  (pss_one (ps_ost (pv 0) (pv 1)))), ?_⟩
    have ox := T.d_UnknownLetterX_initX.ox
    refine ⟨_, rfl, _, rfl, ?_, _, rfl, hf, fun y hy => ⟨_, rfl, ?_, ?_⟩⟩
    · decide +kernel
    · rw [Str.length_append]
      have : (Str.empty ++ ("unknown letter " : Str)).length = 15 := by decide +kernel
      rw [this, sizeLine_eq]
      omega
    refine ⟨a, C_UnknownLetter, [.str _], rfl, by simp, ox, ha, ?_⟩
    exact ⟨_, rfl, _, rfl, a, C_UnknownLetter, rfl, ox, T.na_UnknownLetter_letter, .inl ⟨ha, fun dx hd ne => k dx hd ne⟩⟩
def spCallX (K : PySem.W.Frag) (CB CL : Addr) (c : Cls5) : Sp := fun vs H _ E => ∃ p kw S dn un v, vs = [.ref p, v] ∧ LivO K CB CL H p kw S dn un ∧ notSeq v = true ∧ FmtOk v ∧ isIntB v 0 ((S.rows.length : Int) - 1) = false ∧ ∀ H' cls d, Same H H' → ErrAt c cls d H' (.letter v) → E cls d H'
theorem okX_live_call (T : Top K mg C_Book C_LivePost C_MailError C_InvalidOperation C_InvalidOrder C_UnknownOrder C_NotHolding C_DecodeError C_NotationError C_UnknownLetter C_InvalidAddress C_InvalidDay C_InvalidNumber C_Contradiction C_InvalidCount) : MFn P w K mg base (L2N.CX P w) 3 C_LivePost "__call__" (spCallX K C_Book C_LivePost ⟨C_InvalidOrder, C_UnknownOrder, C_InvalidAddress, C_InvalidDay, C_InvalidNumber, C_UnknownLetter, C_NotHolding, C_InvalidOperation, C_Contradiction, C_InvalidCount, C_DecodeError, C_NotationError⟩) := by
  have G_is_integer : GFn P w K mg base CX0 1 "is_integer" spIsInteger := ok_is_integer T
  have E_UnknownLetter : EFn P w K mg base CX0 1 C_UnknownLetter "UnknownLetter" ["self", "letter"] (spE1 K C_UnknownLetter "letter") := ok_UnknownLetter T
  refine T.d_LivePostX_callX.fnXN sc_LivePostX_callX (fun vs H Q E h => ?_) (fun f cdv A outer s H vs Q E hr h => ?_)
  · obtain ⟨p, kw, S, dn, un, v, rfl, _⟩ := h
    rfl
  · obtain ⟨p, kw, S, dn, un, v, rfl, ⟨dx, sc, d, u, h1, ⟨bk, lt, rs, a1, a2, a3, a4⟩, h3, h4⟩, nv, fv, hi, kk⟩ := h
    refine ⟨_, (pss_cons (ps_if (pt_not (pt_val (pe_g G_is_integer (hr.mono (by decide)) (pa_cons (pv 1) (pa_cons pe_int (pa_cons (pe_op op_sub (pe_callB call_len_seq (by rfl) T.b_len (by decide +kernel) (pa_cons (pe_ix ix_tup (pe_fld (pv 0) rfl) pe_int (fun _ _ => rfl)) pa_nil)) pe_int) pa_nil))))))
  (pss_one (L2N.ps_raise rfl takeEN (pmk_1N E_UnknownLetter (hr.mono (by decide)) (pa_cons (pv 1) pa_nil))))
  pss_nil)
  (pss_one (ps_ret (pe_ix ix_tup (pe_ix ix_tup (pe_fld (pv 0) rfl) pe_int (fun _ _ => rfl)) (pv 1) (fun _ _ => rfl))))), ?_⟩
    have hl : rs.length = S.rows.length := PySem.Paired.length a4
    refine ⟨_, rfl, _, rfl, p, C_LivePost, dx, _, _, rfl, h1, T.cl_LivePost, T.n_LivePost_scene, rfl, sc, _, _, _, rfl, rfl, .inl (.inl a1), rfl, lt, _, rfl, .inr (.inl (.inl a3)), _, _, rfl, rfl, _, _, _, rfl, nv, _, rfl, ?_⟩
    rw [List.length_map, hl, hi]
    refine iteT ?_
    exact ⟨_, rfl, e1_fin fv fun d H3 s3 fd ed => kk _ _ _ s3 ⟨rfl, d, rfl, ed⟩⟩
end

end MF
set_option Elab.async false
set_option linter.all false
set_option maxRecDepth 100000
set_option maxHeartbeats 2000000
set_option pp.maxSteps 600
namespace MF
open PySem PySem.Spec PyProof.Rows L2 StX
section
variable {P : Program} {w : World} {K : PySem.W.Frag} {mg : Str → Option Value} {base : Heap} {C_Book C_LivePost C_MailError C_InvalidOperation C_InvalidOrder C_UnknownOrder C_NotHolding C_DecodeError C_NotationError C_UnknownLetter C_InvalidAddress C_InvalidDay C_InvalidNumber C_Contradiction C_InvalidCount : Addr}
def ResV (H H' : Hp) (v : V) : Rs → Prop
  | .num n => v = .int (n : Nat)
  | .nums ns => ∃ l, v = .ref l ∧ H l = none ∧ H' l = some (.lst (ns.map V.int))
  | .day d => v = .int d
  | .err _ => False
structure Bnd (S : Scn) (dn : List Ent) : Prop where
  good : Good S.os
  rows : S.rows.length < 1000
  dn : dn.length < 1000
  os : S.os.length < 30
def ActX (K : PySem.W.Frag) (CB CL : Addr) (c : Cls5) (d : Deed) (p : Addr) (H : Hp) (Q : VK) (E : XK) : Prop := d.Ok ∧ ∃ kw S dn un, LivO K CB CL H p kw S dn un ∧ Bnd S dn ∧
  (∀ e, (actF S d).1 = .err e → ∀ H' cls dd, Same H H' → ErrAt c cls dd H' e → E cls dd H') ∧
  ∀ v H', (actF S d).1.bad = false → ResV H H' v (actF S d).1 → LivO K CB CL H' p kw (actF S d).2 (dn ++ [(d, S, (actF S d).2)]) [] → (∀ b u, H b = some u → b ≠ p → H' b = some u) → Q v H'
def spPostX (K : PySem.W.Frag) (CB CL : Addr) (c : Cls5) : Sp := fun vs H Q E => ∃ p y, vs = [.ref p, y] ∧ ActX K CB CL c (.post y) p H Q E
theorem okX_post (T : Top K mg C_Book C_LivePost C_MailError C_InvalidOperation C_InvalidOrder C_UnknownOrder C_NotHolding C_DecodeError C_NotationError C_UnknownLetter C_InvalidAddress C_InvalidDay C_InvalidNumber C_Contradiction C_InvalidCount) : MFn P w K mg base (L2N.CX P w) 3 C_LivePost "post" (spPostX K C_Book C_LivePost ⟨C_InvalidOrder, C_UnknownOrder, C_InvalidAddress, C_InvalidDay, C_InvalidNumber, C_UnknownLetter, C_NotHolding, C_InvalidOperation, C_Contradiction, C_InvalidCount, C_DecodeError, C_NotationError⟩) := by
  have G_is_address : GFn P w K mg base CX0 1 "is_address" spIsAddress := ok_is_address T
  have G_sent_on : GFn P w K mg base CX0 2 "sent_on" (spSentOn K C_Book) := ok_sent_on T
  have M_LivePost_enter : MFn P w K mg base CX0 1 C_LivePost "enter" (spEnter K C_Book C_LivePost) := ok_enter T
  refine T.d_LivePost_post.fnXN sc_LivePost_post (fun vs H Q E h => ?_) (fun f cdv A outer s H vs Q E hr h => ?_)
  · obtain ⟨p, y, rfl, _⟩ := h
    rfl
  · obtain ⟨p, y, rfl, ⟨ny, sy⟩, kw, S, dn, un, L0, bd, kE, kk⟩ := h
    refine ⟨_, (pss_cons (ps_if (pt_not (pt_val (pe_g G_is_address (hr.mono (by decide)) (pa_cons (pv 1) pa_nil))))
  (pss_one (L2N.ps_raise rfl takeEN (pmk_0N T.x_InvalidAddress (pa_cons pe_str pa_nil))))
  pss_nil)
  (pss_cons (ps_asg (pe_fld (pv 0) rfl) (pg_tup rfl (pgs_cons (pg_name (i := 2) sc_LivePost_post.nd rfl (Or.inl rfl)) (pgs_cons (pg_name (i := 3) sc_LivePost_post.nd rfl (Or.inl rfl)) (pgs_cons (pg_name (i := 4) sc_LivePost_post.nd rfl (Or.inl rfl)) pgs_nil)))))
  (pss_cons (ps_expr (pe_m M_LivePost_enter T.cl_LivePost (hr.mono (by decide)) (pv 0) (pa_cons (pe_tup (pa_cons pe_str (pa_cons (pv 1) pa_nil))) (pa_cons (pe_tup (pa_cons (pv 2) (pa_cons (pv 3) (pa_cons (pe_tup (pa_star (pv 4) (pa_cons (pe_g G_sent_on (hr.mono (by decide)) (pa_cons (pv 3) (pa_cons (pv 1) (pa_cons (pv 2) (pa_cons (pv 2) pa_nil))))) pa_nil))) pa_nil)))) pa_nil))))
  (pss_one (ps_ret (pe_callB call_len_seq (by rfl) T.b_len (by decide +kernel) (pa_cons (pv 4) pa_nil))))))), ?_⟩
    refine ⟨_, rfl, y, rfl, ny, sy, fun H1 s1 => ⟨_, rfl, ?_⟩⟩
    cases ay : isAddrB y with
    | false =>
      have ea : actF S (.post y) = (.err .address, S) := actF_post0 ay
      exact iteT ⟨by decide, kE .address (by rw [ea]) _ _ _ s1 ⟨rfl, rfl⟩⟩
    | true =>
    refine iteF ?_
    have ea : actF S (.post y) = (.num S.rows.length, ⟨S.day, S.os, S.rows ++ [sentF S.os S.day (strV y, S.day)]⟩) := actF_post1 ay
    rw [ea] at kk
    clear kE
    obtain ⟨x, rfl⟩ : ∃ x, y = .str x := ⟨_, isAddrB_str ay⟩
    have L1 := L0.same s1
    obtain ⟨dx, sc, d, u, h1, ⟨bk, lt, rs, a1, a2, a3, a4⟩, h3, h4⟩ := id L1
    have hl : rs.length = S.rows.length := PySem.Paired.length a4
    have lr := bd.rows
    refine ⟨_, rfl, p, C_LivePost, dx, _, _, rfl, h1, T.cl_LivePost, T.n_LivePost_scene, rfl, sc, _, rfl, .inl (.inl a1), rfl, _, _, rfl, _, _, rfl, _, _, rfl, rfl, ?_⟩
    refine ⟨_, rfl, p, dx, _, rfl, h1, rfl, _, rfl, (by show 2 ≤ sizeLine; decide), fun q1 hq1 => ?_⟩
    have s2 := Same.new (o := .tup [.str "post", .str x]) hq1
    have f1 : upd H1 q1 (.tup [.str "post", .str x]) q1 = some (.tup [.str "post", .str x]) := upd_same
    generalize upd H1 q1 (.tup [.str "post", .str x]) = H2 at s2 f1
    refine ⟨_, rfl, _, rfl, _, rfl, lt, _, rfl, .inl (.inl (.inl (s2 _ _ a3))), ?_⟩
    refine ⟨_, rfl, _, rfl, _, rfl, _, rfl, bk, S.os, x, S.day, S.day, rfl, a2.mono s2, bd.good, fun H3 q t r s3 f3 e3 at3 => ?_⟩
    have es : sentF S.os S.day (strV (.str x), S.day) = (t.1, t.2, r) := sentF_of at3
    rw [es] at kk
    refine ⟨by rw [List.length_append, List.length_map, sizeLine_eq]; simp only [List.length_cons, List.length_nil]; omega, fun q2 hq2 => ?_⟩
    have s4 := Same.new (o := .tup (rs.map V.ref ++ [V.ref q])) hq2
    have f2 : upd H3 q2 (.tup (rs.map V.ref ++ [V.ref q])) q2 = some (.tup (rs.map V.ref ++ [V.ref q])) := upd_same
    generalize upd H3 q2 (.tup (rs.map V.ref ++ [V.ref q])) = H4 at s4 f2
    refine ⟨(by show 3 ≤ sizeLine; decide), fun q3 hq3 => ?_⟩
    have s5 := Same.new (o := .tup [.int S.day, .ref bk, .ref q2]) hq3
    have f3' : upd H4 q3 (.tup [.int S.day, .ref bk, .ref q2]) q3 = some (.tup [.int S.day, .ref bk, .ref q2]) := upd_same
    generalize upd H4 q3 (.tup [.int S.day, .ref bk, .ref q2]) = H5 at s5 f3'
    have s15 : Same H1 H5 := ((s2.trans s3).trans s4).trans s5
    have A5 : SceneAt K C_Book H5 q3 ⟨S.day, S.os, S.rows ++ [(t.1, t.2, r)]⟩ := ⟨bk, q2, rs ++ [q], f3', a2.mono s15, by rw [List.map_append]; exact s5 _ _ f2, Paired.append (a4.keep fun b u e _ => s15 _ _ e) (.cons (s5 _ _ (s4 _ _ e3)) .nil)⟩
    have D5 : DeedAt K H5 q1 (.post (.str x)) := ⟨.str x, s5 _ _ (s4 _ _ (s3 _ _ f1)), rfl⟩
    refine ⟨p, kw, S, dn, un, q1, _, q3, _, rfl, L1.same s15, D5, A5, bd.dn, fun H6 L6 k6 => ?_⟩
    have h15 := s15 _ _ h1
    have a36 : H6 lt = some (.tup (rs.map V.ref)) := k6 _ _ (s15 _ _ a3) (ne_of a3 h1 (by intro z; cases z))
    refine ⟨_, rfl, lt, _, rfl, .inr (.inl (.inl a36)), ?_⟩
    rw [List.length_map, hl]
    exact kk _ _ rfl rfl L6 fun b u e nb => k6 _ _ (s15 _ _ (s1 _ _ e)) nb
end

end MF
set_option Elab.async false
set_option linter.all false
set_option maxRecDepth 100000
set_option maxHeartbeats 2000000
set_option pp.maxSteps 600
namespace MF
open PySem PySem.Spec PyProof.Rows L2 StX
section
variable {P : Program} {w : World} {K : PySem.W.Frag} {mg : Str → Option Value} {base : Heap} {C_Book C_LivePost C_MailError C_InvalidOperation C_InvalidOrder C_UnknownOrder C_NotHolding C_DecodeError C_NotationError C_UnknownLetter C_InvalidAddress C_InvalidDay C_InvalidNumber C_Contradiction C_InvalidCount : Addr}
def PrAt (H : Hp) (as : List Addr) (l : List (Int × Int)) : Prop := PySem.Paired (fun a (z : Int × Int) => H a = some (.tup [.int z.1, .int z.2])) as l
theorem PrAt.kt {H H' : Hp} {as : List Addr} {l : List (Int × Int)} (h : PrAt H as l) (k : ∀ b u, H b = some u → tupl u = true → H' b = some u) : PrAt H' as l := PySem.Paired.mono (fun _ _ e => k _ _ e rfl) h
def prK (H : Hp) : V → Int × Int
  | .ref a => match H a with
    | some (.tup [.int i, .int j]) => (i, j)
    | _ => (0, 0)
  | _ => (0, 0)
theorem prK_of {H : Hp} {a : Addr} {z : Int × Int} (h : H a = some (.tup [.int z.1, .int z.2])) : prK H (.ref a) = z := by
  show (match H a with
    | some (.tup [.int i, .int j]) => (i, j)
    | _ => (0, 0)) = z
  rw [h]
theorem prK_map {H : Hp} {as : List Addr} {l : List (Int × Int)} (h : PrAt H as l) : (as.map V.ref).map (prK H) = l := by
  induction h with
  | nil => rfl
  | cons e _ ih =>
    rw [List.map_cons, List.map_cons, prK_of e, ih]
theorem PrAt.mem {H : Hp} {as : List Addr} {l : List (Int × Int)} (h : PrAt H as l) : ∀ x ∈ as.map V.ref, ∃ t, x = V.ref t ∧ H t = some (.tup [.int (prK H x).1, .int (prK H x).2]) := fun x hx => by
  obtain ⟨a, ha, rfl⟩ := List.mem_map.mp hx
  obtain ⟨i, hi⟩ := List.mem_iff_getElem?.mp ha
  obtain ⟨z, _, e⟩ := Paired.get h hi
  exact ⟨a, rfl, by rw [prK_of e]; exact e⟩
theorem prs_back {H : Hp} {xs : List V} : ∀ {ys : List V}, (∀ y ∈ ys, ∃ t, y = V.ref t ∧ H t = some (.tup [.int (prK H y).1, .int (prK H y).2])) → ∃ as : List Addr, ys = as.map V.ref ∧ PrAt H as (ys.map (prK H))
  | [], _ => ⟨[], rfl, .nil⟩
  | y :: ys, h => by
    obtain ⟨as, e1, e2⟩ := prs_back (xs := xs) (ys := ys) fun z hz => h z (List.mem_cons_of_mem _ hz)
    obtain ⟨t, e3, e4⟩ := h y List.mem_cons_self
    exact ⟨t :: as, by rw [List.map_cons, e1, e3], .cons (by rw [e3] at e4 ⊢; exact e4) e2⟩
def spPassX (K : PySem.W.Frag) (CB CL : Addr) (c : Cls5) : Sp := fun vs H Q E => ∃ p y, vs = [.ref p, y] ∧ ActX K CB CL c (.pass y) p H Q E
theorem okX_pass (T : Top K mg C_Book C_LivePost C_MailError C_InvalidOperation C_InvalidOrder C_UnknownOrder C_NotHolding C_DecodeError C_NotationError C_UnknownLetter C_InvalidAddress C_InvalidDay C_InvalidNumber C_Contradiction C_InvalidCount) : MFn P w K mg base (L2N.CX P w) 3 C_LivePost "pass_days" (spPassX K C_Book C_LivePost ⟨C_InvalidOrder, C_UnknownOrder, C_InvalidAddress, C_InvalidDay, C_InvalidNumber, C_UnknownLetter, C_NotHolding, C_InvalidOperation, C_Contradiction, C_InvalidCount, C_DecodeError, C_NotationError⟩) := by
  have G_is_integer : GFn P w K mg base CX0 1 "is_integer" spIsInteger := ok_is_integer T
  have G_sent_on : GFn P w K mg base CX0 2 "sent_on" (spSentOn K C_Book) := ok_sent_on T
  have M_LivePost_enter : MFn P w K mg base CX0 1 C_LivePost "enter" (spEnter K C_Book C_LivePost) := ok_enter T
  refine T.d_LivePost_pass_days.fnXN sc_LivePost_pass_days (fun vs H Q E h => ?_) (fun f cdv A outer s H vs Q E hr h => ?_)
  · obtain ⟨p, y, rfl, _⟩ := h
    rfl
  · obtain ⟨p, y, rfl, ny, kw, S, dn, un, L1, bd, kE, kk⟩ := h
    refine ⟨_, (pss_cons (ps_if (pt_not (pt_val (pe_g G_is_integer (hr.mono (by decide)) (pa_cons (pv 1) (pa_cons pe_int (pa_cons (pe_gint T.c_MAX_PASSED) pa_nil))))))
  (pss_one (L2N.ps_raise rfl takeEN (pmk_0N T.x_InvalidNumber (pa_cons pe_str pa_nil))))
  pss_nil)
  (pss_cons (ps_asg (pe_fld (pv 0) rfl) (pg_tup rfl (pgs_cons (pg_name (i := 2) sc_LivePost_pass_days.nd rfl (Or.inl rfl)) (pgs_cons (pg_name (i := 3) sc_LivePost_pass_days.nd rfl (Or.inl rfl)) (pgs_cons (pg_name (i := 4) sc_LivePost_pass_days.nd rfl (Or.inr rfl)) pgs_nil)))))
  (pss_cons (ps_set (i := 5) sc_LivePost_pass_days.nd rfl (Or.inl rfl) (pe_lst pa_nil))
  (pss_cons (ps_for owns_cxN rfl (pi_tup (pv 4)) (pg_tup rfl (pgs_cons (pg_name (i := 6) sc_LivePost_pass_days.nd rfl (Or.inl rfl)) (pgs_cons (pg_name (i := 7) sc_LivePost_pass_days.nd rfl (Or.inl rfl)) (pgs_cons (pg_name (i := 8) sc_LivePost_pass_days.nd rfl (Or.inl rfl)) pgs_nil))))
  (C8.pss_cut (ps_set (i := 9) sc_LivePost_pass_days.nd rfl (Or.inl rfl) (pe_ifExp (pt_val (pv 8)) (pe_tup (pa_cons (pv 6) (pa_cons (pv 7) (pa_cons pe_bl pa_nil)))) (pe_g G_sent_on (hr.mono (by decide)) (pa_cons (pv 3) (pa_cons (pv 6) (pa_cons (pv 7) (pa_cons (pe_op op_add (pv 2) (pv 1)) pa_nil)))))))
  (pss_one (ps_expr (pe_bm PySem.F.plainAttrs_list PySem.F.slot_list_append PySem.F.type_list_append mt_append (pv 5) (pa_cons (pv 9) pa_nil))))))
  (C8.pss_cut (ps_set (i := 10) sc_LivePost_pass_days.nd rfl (Or.inl rfl) (pe_callB cr_sortedPO (by rfl) T.b_sorted (by decide +kernel) (pa_cons (pe_lc (own := [("number", 11), ("row", 9)]) (g := (gTup K 2 (gCons (gName 11) (gCons (gName 9) gNil)))) (by rfl) sc_LivePost_pass_days.nd (pi_enum (by rfl) T.b_enumerate (pa_cons (pv 5) pa_nil)) (blkOk_by (own := [("number", 11), ("row", 9)]) (N := ["self", "count", "day", "book", "letters", "later", "address", "arrival", "is_resting", "row", "found", "number"]) (sc := defScope s_LivePost_pass_days) (by decide +kernel)) (fun _ _ _ _ _ => (pg_tup rfl (pgs_cons (pg_name (i := 11) sc_LivePost_pass_days.nd rfl (Or.inl rfl)) (pgs_cons (pg_name (i := 9) sc_LivePost_pass_days.nd rfl (Or.inl rfl)) pgs_nil)))) (fun _ _ _ _ _ => (pts_one (PW.pt (pw_and (pt_val (pe_ix (ix_tupK (K := K)) (pv 9) pe_int (fun _ _ => rfl))) (pw_and1 (pt_not (pt_val (pe_ix (ix_tupK (K := K)) (pe_ix (ix_tupK (K := K)) (pv 4) (pv 11) (fun _ _ => rfl)) pe_int (fun _ _ => rfl))))))))) (fun _ _ _ _ _ => (pe_tup (pa_cons (pe_ix (ix_tupK (K := K)) (pv 9) pe_int (fun _ _ => rfl)) (pa_cons (pv 11) pa_nil))))) pa_nil)))
  (pss_cons (ps_expr (pe_m M_LivePost_enter T.cl_LivePost (hr.mono (by decide)) (pv 0) (pa_cons (pe_tup (pa_cons pe_str (pa_cons (pv 1) pa_nil))) (pa_cons (pe_tup (pa_cons (pe_op op_add (pv 2) (pv 1)) (pa_cons (pv 3) (pa_cons (pe_callTy call_tuple_of (by rfl) T.b_tuple (by decide +kernel) (pa_cons (pv 5) pa_nil)) pa_nil)))) pa_nil))))
  (pss_one (ps_ret (pe_lc (own := [("arrival", 7), ("number", 11)]) (g := (gTup K 2 (gCons (gName 7) (gCons (gName 11) gNil)))) (by rfl) sc_LivePost_pass_days.nd (pi_list (pv 10)) (blkOk_by (own := [("arrival", 7), ("number", 11)]) (N := ["self", "count", "day", "book", "letters", "later", "address", "arrival", "is_resting", "row", "found", "number"]) (sc := defScope s_LivePost_pass_days) (by decide +kernel)) (fun _ _ _ _ _ => (pg_tup rfl (pgs_cons (pg_name (i := 7) sc_LivePost_pass_days.nd rfl (Or.inl rfl)) (pgs_cons (pg_name (i := 11) sc_LivePost_pass_days.nd rfl (Or.inl rfl)) pgs_nil)))) (fun _ _ _ _ _ => pts_nil) (fun _ _ _ _ _ => (pv 11))))))))))), ?_⟩
    refine ⟨_, rfl, y, _, _, rfl, ny, _, rfl, ?_⟩
    cases hy : isIntB y 0 400 with
    | false => exact iteT ⟨by decide, kE .number (by rw [actF_pass0 hy]) _ _ _ (Same.refl _) ⟨rfl, rfl⟩⟩
    | true =>
    rw [actF_pass1 hy] at kk
    clear kE
    obtain ⟨ey, c0, c4⟩ := isIntB_int hy
    generalize ec : intV y = c at ey c0 c4 kk
    subst ey
    refine iteF ?_
    obtain ⟨dx, sc, d, u, h1, ⟨bk, lt, rs, a1, a2, a3, a4⟩, h3, h4⟩ := id L1
    have hl : rs.length = S.rows.length := PySem.Paired.length a4
    have lr := bd.rows
    generalize eR : S.rows.map (rowF S.os (S.day + c)) = rows' at kk
    have lR : rows'.length = S.rows.length := by rw [← eR, List.length_map]
    refine ⟨_, rfl, p, C_LivePost, dx, _, _, rfl, h1, T.cl_LivePost, T.n_LivePost_scene, rfl, sc, _, rfl, .inl (.inl a1), rfl, _, _, rfl, _, _, rfl, _, _, rfl, rfl, ?_⟩
    let st (v5 v6 v7 v8 v9 v10 v11 : Option V) : L2.St := [some (.ref p), some (.int c), some (.int S.day), some (.ref bk), some (.ref lt), v5, v6, v7, v8, v9, v10, v11]
    refine ⟨Nat.zero_le _, fun lx hlx => ?_⟩
    have sx := Same.new (o := .lst []) hlx
    have fx : upd H lx (.lst []) lx = some (.lst []) := upd_same
    generalize upd H lx (.lst []) = H0 at sx fx
    refine ⟨_, rfl, lt, rfl, ⟨_, .inl (.inl (sx _ _ a3))⟩, for_it (walk_tup (xs := rs.map V.ref)) (fun i σ H' => Same H H' ∧ ∃ qs, H' lx = some (.lst ((qs : List Addr).map V.ref)) ∧ LRows H' qs (rows'.take i) ∧ ∃ v6 v7 v8 v9 v10 v11, σ = st (some (.ref lx)) v6 v7 v8 v9 v10 v11)
      ⟨sx, [], fx, .nil, _, _, _, _, _, _, rfl⟩ (fun i σ H' _ ⟨s1, _⟩ => .inl (.inl (s1 _ _ a3))) ?_ ?_⟩
    · rintro i y σ H1 H1' hi ⟨s1, qs, e1, R1, v6, v7, v8, v9, v10, v11, rfl⟩ ⟨rfl, ey⟩
      rw [List.length_map] at hi
      obtain ⟨r, er⟩ : ∃ r, rs[i]? = some r := ⟨rs[i], by simp [hi]⟩
      rw [List.getElem?_map, er] at ey
      cases ey
      obtain ⟨x, ex, hx⟩ := Paired.get a4 er
      have ex' : rows'[i]? = some (rowF S.os (S.day + c) x) := by rw [← eR, List.getElem?_map, ex]; rfl
      refine ⟨r, _, rfl, .inl (.inl (s1 _ _ hx)), rfl, _, _, rfl, _, _, rfl, _, _, rfl, rfl, ?_⟩
      refine ⟨fun σ' H' => Same H H' ∧ H' lx = some (.lst (qs.map V.ref)) ∧ LRows H' qs (rows'.take i) ∧ ∃ q, ∃ z : LRow, H' q = some (.tup [.str z.1, .int z.2.1, .bl z.2.2]) ∧ z = rowF S.os (S.day + c) x ∧ σ' = st (some (.ref lx)) (some (.str x.1)) (some (.int x.2.1)) (some (.bl x.2.2)) (some (.ref q)) v10 v11, ?_, ?_⟩
      · refine ⟨_, rfl, _, rfl, ?_⟩
        cases cx : x.2.2 with
        | true =>
          refine iteT ⟨_, rfl, _, rfl, (by show 3 ≤ sizeLine; decide), fun q hq => ?_⟩
          have s2 := Same.new (o := .tup [.str x.1, .int x.2.1, .bl true]) hq
          refine ⟨s1.trans s2, s2 _ _ e1, R1.keep fun b u e _ => s2 _ _ e, q, x, by rw [cx]; exact upd_same, ?_, rfl⟩
          unfold rowF
          rw [if_pos cx]
        | false =>
          refine iteF ⟨_, rfl, _, rfl, _, rfl, _, rfl, _, rfl, _, _, rfl, rfl, bk, S.os, x.1, x.2.1, S.day + c, rfl, a2.mono s1, bd.good, fun H2 q t b s2 f2 e2 at2 => ?_⟩
          refine ⟨s1.trans s2, s2 _ _ e1, R1.keep fun b u e _ => s2 _ _ e, q, (t.1, t.2, b), e2, ?_, rfl⟩
          unfold rowF
          rw [if_neg (by rw [cx]; decide)]
          exact (sentF_of at2).symm
      clear s1 e1 R1
      rintro σ H1 ⟨s1, e1, R1, q, z, eq, rfl, rfl⟩
      have lq : qs.length = (rows'.take i).length := PySem.Paired.length R1
      rw [List.length_take] at lq
      have up : ∀ b u, H1 b = some u → tupl u = true → upd H1 lx (.lst (qs.map V.ref ++ [.ref q])) b = some u := fun b u e y => by
        rw [upd_ne fun w => by rw [w, e1] at e; cases e; cases y]
        exact e
      refine ⟨_, rfl, .inl ⟨rfl, _, SqL.of e1⟩, _, rfl, lx, _, _, rfl, rfl, e1, by rw [List.length_map, sizeLine_eq]; omega, fun b u e => ?_, qs ++ [q], by rw [upd_same, List.map_append]; rfl, ?_, _, _, _, _, _, _, rfl⟩
      · rw [upd_ne (ne_of_none e hlx)]
        exact s1 _ _ e
      · rw [List.take_add_one, ex']
        exact Paired.append (R1.keep up) (.cons (up _ _ eq rfl) .nil)
    rintro σ H1 ⟨s1, qs, e1, R1, v6, v7, v8, v9, v10, v11, rfl⟩
    rw [List.length_map, hl, ← lR, List.take_length] at R1
    have lq : qs.length = rows'.length := PySem.Paired.length R1
    refine ⟨fun σ' H' => Same H H' ∧ H' lx = some (.lst (qs.map V.ref)) ∧ LRows H' qs rows' ∧ ∃ fl, ∃ zs : List Addr, H' fl = some (.lst (zs.map V.ref)) ∧ PrAt H' zs (sort2 (newP S.rows rows' S.rows.length)) ∧ zs.length < 1000 ∧ ∃ v6 v7 v8 v9 v11, σ' = st (some (.ref lx)) v6 v7 v8 v9 (some (.ref fl)) v11, ?_, ?_⟩
    · refine ⟨_, rfl, lx, _, rfl, SqL.of e1, fun D hD => ?_⟩
      refine lc_it walk_enum (fun j H' => Same H1 H' ∧ ∃ zs : List Addr, H' D = some (.lst (zs.map V.ref)) ∧ PrAt H' zs (newP S.rows rows' j)) ⟨Same.new hD, [], upd_same, .nil⟩ (fun j H' _ ⟨sa, _⟩ => SqL.of (sa _ _ e1)) ?_ ?_
      · rintro j y Hx H2 hj ⟨s2, zs, e2, Z2⟩ ⟨q, z1, z2, rfl, hq, rfl, ez1, ez2⟩
        cases ez1
        rw [List.length_map] at hj
        obtain ⟨r, er⟩ : ∃ r, qs[j]? = some r := ⟨qs[j], by simp [hj]⟩
        replace ez2 : (qs.map V.ref)[j]? = some z2 := ez2
        rw [List.getElem?_map, er] at ez2
        cases ez2
        obtain ⟨x', ex', hx'⟩ := Paired.get R1 er
        obtain ⟨r0, er0⟩ : ∃ r0, rs[j]? = some r0 := ⟨rs[j]'(by omega), by simp [show j < rs.length by omega]⟩
        obtain ⟨x, ex, hx⟩ := Paired.get a4 er0
        have s3 := Same.new (o := .tup [.int (j : Nat), .ref r]) hq
        refine ⟨q, _, rfl, .inl (.inl upd_same), rfl, _, _, rfl, _, _, rfl, rfl, rfl, ?_⟩
        generalize upd _ q (.tup [.int (j : Nat), .ref r]) = H3 at s3
        have s13 := s2.trans s3
        have e3 := s3 _ _ e2
        have Z3 : PrAt H3 zs (newP S.rows rows' j) := Z2.kt fun b u e _ => s3 _ _ e
        have s03 := s1.trans s13
        have lz : zs.length ≤ j := by
          have h1 := PySem.Paired.length Z3
          have h2 := newP_len S.rows rows' j
          omega
        have nr := newP_step (rows := S.rows) (rows' := rows') ex ex'
        have no : (x'.2.2 && !x.2.2) = false → Same H1 H3 ∧ ∃ zs : List Addr, H3 D = some (.lst (zs.map V.ref)) ∧ PrAt H3 zs (newP S.rows rows' (j + 1)) := fun cc => ⟨s13, zs, e3, by rw [nr, if_neg (by rw [cc]; decide), List.append_nil]; exact Z3⟩
        refine ⟨_, rfl, r, _, _, _, rfl, rfl, .inl (.inl (s13 _ _ hx')), rfl, _, rfl, ?_⟩
        cases c1 : x'.2.2 with
        | false => exact iteF (no (by rw [c1]; rfl))
        | true =>
          refine iteT ⟨_, rfl, _, rfl, lt, _, _, _, rfl, rfl, .inl (.inl (s03 _ _ a3)), atI_nat (by rw [List.getElem?_map, er0]; rfl), r0, _, _, _, rfl, rfl, .inl (.inl (s03 _ _ hx)), rfl, _, rfl, ?_⟩
          cases c2 : x.2.2 with
          | true => exact no (by rw [c1, c2]; rfl)
          | false =>
            refine ⟨_, rfl, r, _, _, _, rfl, rfl, .inl (.inl (s13 _ _ hx')), rfl, _, rfl, (by show 2 ≤ sizeLine; decide), fun t ht => ?_⟩
            have nDt : D ≠ t := ne_of_none e3 ht
            have up : ∀ b u, H3 b = some u → b ≠ D → (upd (upd H3 t (.tup [.int x'.2.1, .int (j : Nat)])) D (.lst (zs.map V.ref ++ [.ref t]))) b = some u := fun b u e nb => by
              rw [upd_ne nb, upd_ne (ne_of_none e ht)]
              exact e
            refine ⟨_, by rw [upd_ne nDt]; exact e3, by rw [List.length_map, sizeLine_eq]; omega, fun b u e => up _ _ (s13 _ _ e) (ne_of_none e hD), zs ++ [t], by rw [upd_same, List.map_append]; rfl, ?_⟩
            rw [nr, if_pos (by rw [c1, c2]; rfl)]
            exact Paired.append (Z3.kt fun b u e y => up _ _ e fun w => by rw [w, e3] at e; cases e; cases y) (.cons (by rw [upd_ne nDt.symm, upd_same]) .nil)
      · rintro H2 ⟨s2, zs, e2, Z2⟩
        rw [List.length_map, lq, lR] at Z2
        refine ⟨D, _, prK H2, rfl, SqL.of e2, Z2.mem, fun ys fl srt stb hfl => ?_⟩
        have km := Z2.mem
        obtain ⟨zs', e', Z'⟩ := prs_back (H := H2) (xs := zs.map V.ref) (ys := ys) fun y hy => km y (stb.perm.mem_iff.mp hy)
        have s2' : Srt2 (ys.map (prK H2)) (newP S.rows rows' S.rows.length) := by
          refine ⟨SrtO.srtd_map srt, ?_⟩
          have := SrtO.Stb.map ltI_swo (prK H2) stb
          rw [prK_map Z2] at this
          exact this
        rw [← sort2_of s2'] at Z'
        rw [e']
        have s3 := Same.new (o := .lst (zs'.map V.ref)) hfl
        have s13 := s2.trans s3
        have lz' : zs'.length < 1000 := by
          have h1 := stb.perm.length_eq
          rw [e', List.length_map, List.length_map] at h1
          have h2 := PySem.Paired.length Z2
          have h3 := newP_len S.rows rows' S.rows.length
          omega
        exact ⟨s1.trans s13, s13 _ _ e1, R1.keep fun b u e _ => s13 _ _ e, fl, zs', upd_same, Z'.kt fun b u e _ => s3 _ _ e, lz', _, _, _, _, _, rfl⟩
    clear s1 e1 R1 v6 v7 v8 v9 v10 v11
    rintro σ H1 ⟨s1, e1, R1, fl, zs, efl, Z1, lz, v6, v7, v8, v9, v11, rfl⟩
    refine ⟨_, rfl, p, dx, _, rfl, s1 _ _ h1, rfl, _, rfl, (by show 2 ≤ sizeLine; decide), fun q1 hq1 => ?_⟩
    have s2 := Same.new (o := .tup [.str "pass_days", .int c]) hq1
    have f1 : upd H1 q1 (.tup [.str "pass_days", .int c]) q1 = some (.tup [.str "pass_days", .int c]) := upd_same
    generalize upd H1 q1 (.tup [.str "pass_days", .int c]) = H2 at s2 f1
    refine ⟨_, rfl, _, rfl, _, _, rfl, rfl, _, rfl, _, rfl, lx, _, rfl, .inl ⟨SqL.of (s2 _ _ e1), fun q2 hq2 => ?_⟩⟩
    have s3 := Same.new (o := .tup (qs.map V.ref)) hq2
    have f2 : upd H2 q2 (.tup (qs.map V.ref)) q2 = some (.tup (qs.map V.ref)) := upd_same
    generalize upd H2 q2 (.tup (qs.map V.ref)) = H3 at s3 f2
    refine ⟨(by show 3 ≤ sizeLine; decide), fun q3 hq3 => ?_⟩
    have s4 := Same.new (o := .tup [.int (S.day + c), .ref bk, .ref q2]) hq3
    have f3 : upd H3 q3 (.tup [.int (S.day + c), .ref bk, .ref q2]) q3 = some (.tup [.int (S.day + c), .ref bk, .ref q2]) := upd_same
    generalize upd H3 q3 (.tup [.int (S.day + c), .ref bk, .ref q2]) = H4 at s4 f3
    have s14 : Same H1 H4 := (s2.trans s3).trans s4
    have s04 : Same H H4 := s1.trans s14
    have A4 : SceneAt K C_Book H4 q3 ⟨S.day + c, S.os, rows'⟩ := ⟨bk, q2, qs, f3, a2.mono s04, s4 _ _ f2, R1.keep fun b u e _ => s14 _ _ e⟩
    have D4 : DeedAt K H4 q1 (.pass (.int c)) := ⟨.int c, s4 _ _ (s3 _ _ f1), rfl⟩
    refine ⟨p, kw, S, dn, un, q1, _, q3, _, rfl, L1.same s04, D4, A4, bd.dn, fun H6 L6 k6 => ?_⟩
    have p4 := s04 _ _ h1
    have efl6 : H6 fl = some (.lst (zs.map V.ref)) := k6 _ _ (s14 _ _ efl) (ne_of (s14 _ _ efl) p4 (by intro z; cases z))
    have Z6 : PrAt H6 zs (sort2 (newP S.rows rows' S.rows.length)) := PySem.Paired.mono (fun a z e => k6 _ _ (s14 _ _ e) (ne_of (s14 _ _ e) p4 (by intro z; cases z))) Z1
    have k06 : ∀ b u, H b = some u → b ≠ p → H6 b = some u := fun b u e nb => k6 _ _ (s04 _ _ e) nb
    refine ⟨_, rfl, fl, rfl, ⟨_, SqL.of efl6⟩, fun D hD => ?_⟩
    refine lc_it (walk_list (xs := zs.map V.ref)) (fun j H' => Same H6 H' ∧ H' D = some (.lst ((((sort2 (newP S.rows rows' S.rows.length)).map (·.2)).take j).map V.int))) ⟨Same.new hD, upd_same⟩ (fun j H' _ ⟨sa, _⟩ => SqL.of (sa _ _ efl6)) ?_ ?_
    · rintro j y Hx H7 hj ⟨s7, e7⟩ ⟨rfl, ey⟩
      rw [List.length_map] at hj
      obtain ⟨a, ez⟩ : ∃ a, zs[j]? = some a := ⟨zs[j], by simp [hj]⟩
      rw [List.getElem?_map, ez] at ey
      cases ey
      obtain ⟨z, ez', ha⟩ := Paired.get Z6 ez
      refine ⟨a, _, rfl, .inl (.inl (s7 _ _ ha)), rfl, _, _, rfl, _, _, rfl, rfl, rfl, yesT (iteT ?_)⟩
      refine ⟨_, rfl, _, e7, ?_, fun b u e => ?_, ?_⟩
      · rw [List.length_map, List.length_take, sizeLine_eq]
        omega
      · rw [upd_ne (ne_of_none e hD)]
        exact s7 _ _ e
      · have : ((sort2 (newP S.rows rows' S.rows.length)).map (·.2))[j]? = some z.2 := by rw [List.getElem?_map, ez']; rfl
        rw [upd_same, List.take_add_one, this, List.map_append]
        rfl
    · rintro H7 ⟨s7, e7⟩
      rw [List.take_of_length_le (by rw [List.length_map, List.length_map]; exact Nat.le_of_eq (PySem.Paired.length Z6).symm)] at e7
      refine kk _ H7 rfl ⟨D, rfl, ?_, e7⟩ (L6.same s7) fun b u e nb => s7 _ _ (k06 b u e nb)
      cases q : H D with
      | none => rfl
      | some v =>
        by_cases c : D = p
        · obtain ⟨dx', _, _, _, p6, _⟩ := L6
          rw [c, p6] at hD
          cases hD
        · rw [k06 _ _ q c] at hD
          cases hD
end

end MF
set_option Elab.async false
set_option linter.all false
set_option maxRecDepth 100000
set_option maxHeartbeats 2000000
set_option pp.maxSteps 600
namespace MF
open PySem PySem.Spec PyProof.Rows L2 StX
section
variable {P : Program} {w : World} {K : PySem.W.Frag} {mg : Str → Option Value} {base : Heap} {C_Book C_LivePost C_MailError C_InvalidOperation C_InvalidOrder C_UnknownOrder C_NotHolding C_DecodeError C_NotationError C_UnknownLetter C_InvalidAddress C_InvalidDay C_InvalidNumber C_Contradiction C_InvalidCount : Addr}
def spBookAt (K : PySem.W.Frag) (C : Addr) : Sp := fun vs H Q _ => ∃ p os o, ∃ i : Nat, vs = [.ref p, .int (i : Nat)] ∧ BookAt K C H p os ∧ os[i]? = some o ∧ ∀ a, OrdAt K H a o → Q (.ref a) H
def spCheckOrd (K : PySem.W.Frag) (C : Addr) : Sp := fun vs H Q _ => ∃ p os, ∃ i : Nat, vs = [.ref p, .int (i : Nat)] ∧ BookAt K C H p os ∧ i < os.length ∧ Q .non H
theorem ok_check_order (T : Top K mg C_Book C_LivePost C_MailError C_InvalidOperation C_InvalidOrder C_UnknownOrder C_NotHolding C_DecodeError C_NotationError C_UnknownLetter C_InvalidAddress C_InvalidDay C_InvalidNumber C_Contradiction C_InvalidCount) : MFn P w K mg base CX0 2 C_Book "check_order" (spCheckOrd K C_Book) := by
  have G_is_integer : GFn P w K mg base CX0 1 "is_integer" spIsInteger := ok_is_integer T
  refine T.d_Book_check_order.fn fun f fd F => F.ok sc_Book_check_order (fun vs H Q E h => ?_) (fun cdv A outer s H vs Q E hr h => ?_)
  · obtain ⟨p, os, i, rfl, _⟩ := h
    rfl
  · obtain ⟨p, os, i, rfl, ⟨dx, t, as, h1, h2, h3⟩, hi, k⟩ := h
    refine ⟨_, (pss_one (ps_if (pt_not (pt_val (pe_g G_is_integer (hr.mono (by decide)) (pa_cons (pv 1) (pa_cons pe_int (pa_cons (pe_op op_sub (pe_callB call_len_seq (by rfl) T.b_len (by decide +kernel) (pa_cons (pe_fld (pv 0) rfl) pa_nil)) pe_int) pa_nil))))))
  (pss_one ps_never)
  pss_nil)), ?_⟩
    have hl : as.length = os.length := PySem.Paired.length h3
    refine ⟨_, rfl, _, rfl, p, C_Book, dx, _, _, rfl, h1, T.cl_Book, T.n_Book_listed, rfl, t, _, rfl, .inr h2, _, _, rfl, rfl, _, _, _, rfl, rfl, _, rfl, ?_⟩
    have e : isIntB (.int (i : Nat)) 0 (((as.map V.ref).length : Nat) - 1) = true := by
      rw [List.length_map, hl]
      have h1 : (0 : Int) ≤ (i : Nat) := by omega
      have h2 : ((i : Nat) : Int) ≤ (os.length : Nat) - 1 := by omega
      simp [isIntB, h1, h2]
    rw [e]
    exact iteF k
end

end MF
set_option Elab.async false
set_option linter.all false
set_option maxRecDepth 100000
set_option maxHeartbeats 2000000
set_option pp.maxSteps 600
namespace MF
open PySem PySem.Spec PyProof.Rows L2 StX
section
variable {P : Program} {w : World} {K : PySem.W.Frag} {mg : Str → Option Value} {base : Heap} {C_Book C_LivePost C_MailError C_InvalidOperation C_InvalidOrder C_UnknownOrder C_NotHolding C_DecodeError C_NotationError C_UnknownLetter C_InvalidAddress C_InvalidDay C_InvalidNumber C_Contradiction C_InvalidCount : Addr}
theorem ok_UnknownOrder (T : Top K mg C_Book C_LivePost C_MailError C_InvalidOperation C_InvalidOrder C_UnknownOrder C_NotHolding C_DecodeError C_NotationError C_UnknownLetter C_InvalidAddress C_InvalidDay C_InvalidNumber C_Contradiction C_InvalidCount) : EFn P w K mg base CX0 1 C_UnknownOrder "UnknownOrder" ["self", "index"] (spE1 K C_UnknownOrder "index") := by
  refine T.d_UnknownOrderX_initX.fn fun f fd F => F.ok sc_UnknownOrderX_initX (fun vs H Q E h => ?_) (fun cdv A outer s H vs Q E hr h => ?_)
  · obtain ⟨a, v, rfl, _⟩ := h
    rfl
  · obtain ⟨a, v, rfl, hf, ha, k⟩ := h
    refine ⟨_, (pss_cons (ps_expr (pe_binit rfl T.g_MailError T.base_MailError (pa_cons (pv 0) (pa_cons (pe_joined (PJ.cons pe_str (PJ.cons (pe_fmtV (pv 1)) PJ.nil))) pa_nil))))
  (pss_one (ps_ost (pv 0) (pv 1)))), ?_⟩
    have ox := T.d_UnknownOrderX_initX.ox
    refine ⟨_, rfl, _, rfl, ?_, _, rfl, hf, fun y hy => ⟨_, rfl, ?_, ?_⟩⟩
    · decide +kernel
    · rw [Str.length_append]
      have : (Str.empty ++ ("there is no order " : Str)).length = 18 := by decide +kernel
      rw [this, sizeLine_eq]
      omega
    refine ⟨a, C_UnknownOrder, [.str _], rfl, by simp, ox, ha, ?_⟩
    exact ⟨_, rfl, _, rfl, a, C_UnknownOrder, rfl, ox, T.na_UnknownOrder, .inl ⟨ha, fun dx hd ne => k dx hd ne⟩⟩
def spCheckOrdX (K : PySem.W.Frag) (CB : Addr) (c : Cls5) : Sp := fun vs H Q E => ∃ bk os v, vs = [.ref bk, v] ∧ BookAt K CB H bk os ∧ os.length ≤ 30 ∧ notSeq v = true ∧ FmtOk v ∧ isIntB v 0 ((os.length : Int) - 1) = false ∧ ∀ H' cls d, Same H H' → ErrAt c cls d H' (.unknown v) → E cls d H'
theorem okX_check_order (T : Top K mg C_Book C_LivePost C_MailError C_InvalidOperation C_InvalidOrder C_UnknownOrder C_NotHolding C_DecodeError C_NotationError C_UnknownLetter C_InvalidAddress C_InvalidDay C_InvalidNumber C_Contradiction C_InvalidCount) : MFn P w K mg base (L2N.CX P w) 3 C_Book "check_order" (spCheckOrdX K C_Book ⟨C_InvalidOrder, C_UnknownOrder, C_InvalidAddress, C_InvalidDay, C_InvalidNumber, C_UnknownLetter, C_NotHolding, C_InvalidOperation, C_Contradiction, C_InvalidCount, C_DecodeError, C_NotationError⟩) := by
  have G_is_integer : GFn P w K mg base CX0 1 "is_integer" spIsInteger := ok_is_integer T
  have E_UnknownOrder : EFn P w K mg base CX0 1 C_UnknownOrder "UnknownOrder" ["self", "index"] (spE1 K C_UnknownOrder "index") := ok_UnknownOrder T
  refine T.d_Book_check_order.fnXN sc_Book_check_order (fun vs H Q E h => ?_) (fun f cdv A outer s H vs Q E hr h => ?_)
  · obtain ⟨bk, os, v, rfl, _⟩ := h
    rfl
  · obtain ⟨bk, os, v, rfl, hB, h30, nv, fv, hi, kk⟩ := h
    refine ⟨_, (pss_one (ps_if (pt_not (pt_val (pe_g G_is_integer (hr.mono (by decide)) (pa_cons (pv 1) (pa_cons pe_int (pa_cons (pe_op op_sub (pe_callB call_len_seq (by rfl) T.b_len (by decide +kernel) (pa_cons (pe_fld (pv 0) rfl) pa_nil)) pe_int) pa_nil))))))
  (pss_one (L2N.ps_raise rfl takeEN (pmk_1N E_UnknownOrder (hr.mono (by decide)) (pa_cons (pv 1) pa_nil))))
  pss_nil)), ?_⟩
    obtain ⟨dx, t, as, h1, h2, h3⟩ := hB
    have hl : as.length = os.length := PySem.Paired.length h3
    refine ⟨_, rfl, _, rfl, bk, C_Book, dx, _, _, rfl, h1, T.cl_Book, T.n_Book_listed, rfl, t, _, rfl, .inr h2, _, _, rfl, rfl, _, _, _, rfl, nv, _, rfl, ?_⟩
    have e : isIntB v 0 (((as.map V.ref).length : Nat) - 1) = false := by
      rw [List.length_map, hl]
      exact hi
    rw [e]
    refine iteT ?_
    exact ⟨_, rfl, e1_fin fv fun d H3 s3 fd ed => kk _ _ _ s3 ⟨rfl, d, rfl, ed⟩⟩
end

end MF
set_option Elab.async false
set_option linter.all false
set_option maxRecDepth 100000
set_option maxHeartbeats 2000000
set_option pp.maxSteps 600
namespace MF
open PySem PySem.Spec PyProof.Rows L2 StX
section
variable {P : Program} {w : World} {K : PySem.W.Frag} {mg : Str → Option Value} {base : Heap} {C_Book C_LivePost C_MailError C_InvalidOperation C_InvalidOrder C_UnknownOrder C_NotHolding C_DecodeError C_NotationError C_UnknownLetter C_InvalidAddress C_InvalidDay C_InvalidNumber C_Contradiction C_InvalidCount : Addr}
def spBookOfX (K : PySem.W.Frag) (c : Cls5) : Sp := fun vs H _ E => ∃ t xs, ∃ n : Nat, vs = [.ref t] ∧ (SqT K H t xs ∨ SqL K H t xs) ∧ xs.length ≤ sizeLine ∧ FirstBad K H xs n ∧ ∀ H' cls d, Same H H' → ErrAt c cls d H' (.order (.int (n : Nat))) → E cls d H'
theorem okX_book_of (T : Top K mg C_Book C_LivePost C_MailError C_InvalidOperation C_InvalidOrder C_UnknownOrder C_NotHolding C_DecodeError C_NotationError C_UnknownLetter C_InvalidAddress C_InvalidDay C_InvalidNumber C_Contradiction C_InvalidCount) : GFn P w K mg base (L2N.CX P w) 5 "book_of" (spBookOfX K ⟨C_InvalidOrder, C_UnknownOrder, C_InvalidAddress, C_InvalidDay, C_InvalidNumber, C_UnknownLetter, C_NotHolding, C_InvalidOperation, C_Contradiction, C_InvalidCount, C_DecodeError, C_NotationError⟩) := by
  have X_Book := okX_Book (P := P) (w := w) (base := base) T
  refine T.d_book_of.fnXN sc_book_of (fun vs H Q E h => ?_) (fun f cdv A outer s H vs Q E hr h => ?_)
  · obtain ⟨t, xs, n, rfl, _⟩ := h
    rfl
  · obtain ⟨t, xs, n, rfl, ht, hl, fb, k⟩ := h
    refine ⟨_, pss_one (ps_ret (pe_mkS X_Book (hr.mono (by decide)) passEN (pv 0))), ?_⟩
    refine ⟨_, rfl, t, _, rfl, ht, ?_⟩
    intro x dx hx hdx ne
    have fb' : FirstBad K H (xs ++ []) n := by rw [List.append_nil]; exact fb
    refine ⟨_, _, rfl, by rw [List.append_nil]; exact hl, fun p hp => ?_⟩
    have s0 : Same H (upd (upd H dx (.own x)) x (.ins C_Book dx [])) := fun b o e => by
      rw [upd_ne (ne_of_none e hx), upd_ne (ne_of_none e hdx)]
      exact e
    have s1 := s0.trans (Same.new (o := .tup (xs ++ [])) hp)
    exact ⟨x, p, xs ++ [], n, rfl, .inl (.inl upd_same), fb'.mono s1, fun H' cls d s h => k _ _ _ (s1.trans s) h⟩
end

end MF
set_option Elab.async false
set_option linter.all false
set_option maxRecDepth 100000
set_option maxHeartbeats 2000000
set_option pp.maxSteps 600
namespace MF
open PySem PySem.Spec PyProof.Rows L2 StX
section
variable {P : Program} {w : World} {K : PySem.W.Frag} {mg : Str → Option Value} {base : Heap} {C_Book C_LivePost C_MailError C_InvalidOperation C_InvalidOrder C_UnknownOrder C_NotHolding C_DecodeError C_NotationError C_UnknownLetter C_InvalidAddress C_InvalidDay C_InvalidNumber C_Contradiction C_InvalidCount : Addr}
theorem ok_NotHolding (T : Top K mg C_Book C_LivePost C_MailError C_InvalidOperation C_InvalidOrder C_UnknownOrder C_NotHolding C_DecodeError C_NotationError C_UnknownLetter C_InvalidAddress C_InvalidDay C_InvalidNumber C_Contradiction C_InvalidCount) : EFn P w K mg base CX0 1 C_NotHolding "NotHolding" ["self", "index"] (spE1 K C_NotHolding "index") := by
  refine T.d_NotHoldingX_initX.fn fun f fd F => F.ok sc_NotHoldingX_initX (fun vs H Q E h => ?_) (fun cdv A outer s H vs Q E hr h => ?_)
  · obtain ⟨a, v, rfl, _⟩ := h
    rfl
  · obtain ⟨a, v, rfl, hf, ha, k⟩ := h
    refine ⟨_, (pss_cons (ps_expr (pe_binit rfl T.g_MailError T.base_MailError (pa_cons (pv 0) (pa_cons (pe_joined (PJ.cons pe_str (PJ.cons (pe_fmtV (pv 1)) (PJ.cons pe_str PJ.nil)))) pa_nil))))
  (pss_one (ps_ost (pv 0) (pv 1)))), ?_⟩
    have ox := T.d_NotHoldingX_initX.ox
    refine ⟨_, rfl, _, rfl, ?_, _, rfl, hf, fun y hy => ⟨_, rfl, ?_, _, rfl, ?_, ?_⟩⟩
    · decide +kernel
    · rw [Str.length_append]
      have : (Str.empty ++ ("order " : Str)).length = 6 := by decide +kernel
      rw [this, sizeLine_eq]
      omega
    · rw [Str.length_append, Str.length_append]
      have : (Str.empty ++ ("order " : Str)).length = 6 := by decide +kernel
      have h2 : (" does not hold" : Str).length = 14 := by decide +kernel
      rw [this, h2, sizeLine_eq]
      omega
    refine ⟨a, C_NotHolding, [.str _], rfl, by simp, ox, ha, ?_⟩
    exact ⟨_, rfl, _, rfl, a, C_NotHolding, rfl, ox, T.na_NotHolding, .inl ⟨ha, fun dx hd ne => k dx hd ne⟩⟩
end

end MF
set_option Elab.async false
set_option linter.all false
set_option maxRecDepth 100000
set_option maxHeartbeats 2000000
set_option pp.maxSteps 600
namespace MF
open PySem PySem.Spec PyProof.Rows L2 StX
section
variable {P : Program} {w : World} {K : PySem.W.Frag} {mg : Str → Option Value} {base : Heap} {C_Book C_LivePost C_MailError C_InvalidOperation C_InvalidOrder C_UnknownOrder C_NotHolding C_DecodeError C_NotationError C_UnknownLetter C_InvalidAddress C_InvalidDay C_InvalidNumber C_Contradiction C_InvalidCount : Addr}
theorem Paired.get' {α β : Type} {R : α → β → Prop} : ∀ {as : List α} {bs : List β} {i : Nat} {b : β}, PySem.Paired R as bs → bs[i]? = some b → ∃ a, as[i]? = some a ∧ R a b
  | _, _, _, _, .nil, e => by simp at e
  | _, _, 0, _, .cons h _, e => ⟨_, rfl, by simp at e; subst e; exact h⟩
  | _, _, i + 1, _, .cons _ t, e => by
    obtain ⟨a, h1, h2⟩ := Paired.get' (i := i) t (by simpa using e)
    exact ⟨a, by simpa using h1, h2⟩
theorem pairedSetP {α β : Type} {R : α → β → Prop} : ∀ {l : List α} {m : List β} {a : α} {b : β} (k : Nat), PySem.Paired R l m → R a b → PySem.Paired R (l.set k a) (m.set k b)
  | _, _, _, _, _, .nil, _ => .nil
  | _, _, _, _, 0, .cons _ t, h => .cons h t
  | _, _, _, _, k + 1, .cons e t, h => .cons e (pairedSetP k t h)
def spStopX (K : PySem.W.Frag) (CB CL : Addr) (c : Cls5) : Sp := fun vs H Q E => ∃ p y, vs = [.ref p, y] ∧ ActX K CB CL c (.stop y) p H Q E
theorem okX_stop (T : Top K mg C_Book C_LivePost C_MailError C_InvalidOperation C_InvalidOrder C_UnknownOrder C_NotHolding C_DecodeError C_NotationError C_UnknownLetter C_InvalidAddress C_InvalidDay C_InvalidNumber C_Contradiction C_InvalidCount) : MFn P w K mg base (L2N.CX P w) 6 C_LivePost "stop" (spStopX K C_Book C_LivePost ⟨C_InvalidOrder, C_UnknownOrder, C_InvalidAddress, C_InvalidDay, C_InvalidNumber, C_UnknownLetter, C_NotHolding, C_InvalidOperation, C_Contradiction, C_InvalidCount, C_DecodeError, C_NotationError⟩) := by
  have G_book_of : GFn P w K mg base CX0 5 "book_of" (spBookOf K C_Book) := ok_book_of T
  have X_Book_check_order := ((ok_check_order (P := P) (w := w) (base := base) T).upN.le (by decide : 2 ≤ 3)).or (okX_check_order T)
  have E_NotHolding : EFn P w K mg base CX0 1 C_NotHolding "NotHolding" ["self", "index"] (spE1 K C_NotHolding "index") := ok_NotHolding T
  have M_LivePost_enter : MFn P w K mg base CX0 1 C_LivePost "enter" (spEnter K C_Book C_LivePost) := ok_enter T
  refine T.d_LivePost_stop.fnXN sc_LivePost_stop (fun vs H Q E h => ?_) (fun f cdv A outer s H vs Q E hr h => ?_)
  · obtain ⟨p, y, rfl, _⟩ := h
    rfl
  · obtain ⟨p, y, rfl, ⟨ny, fy⟩, kw, S, dn, un, L1, bd, kE, kk⟩ := h
    refine ⟨_, (pss_cons (ps_asg (pe_fld (pv 0) rfl) (pg_tup rfl (pgs_cons (pg_name (i := 2) sc_LivePost_stop.nd rfl (Or.inl rfl)) (pgs_cons (pg_name (i := 3) sc_LivePost_stop.nd rfl (Or.inl rfl)) (pgs_cons (pg_name (i := 4) sc_LivePost_stop.nd rfl (Or.inl rfl)) pgs_nil)))))
  (pss_cons (ps_expr (pe_mX X_Book_check_order T.cl_Book (hr.mono (by decide)) passEN (pv 3) (pa_cons (pv 1) pa_nil)))
  (pss_cons (ps_asg (pe_ix ix_tup (pe_fld (pv 3) rfl) (pv 1) (fun _ _ => rfl)) (pg_tup rfl (pgs_cons (pg_name (i := 5) sc_LivePost_stop.nd rfl (Or.inl rfl)) (pgs_cons (pg_name (i := 6) sc_LivePost_stop.nd rfl (Or.inl rfl)) (pgs_cons (pg_name (i := 7) sc_LivePost_stop.nd rfl (Or.inl rfl)) (pgs_cons (pg_name (i := 8) sc_LivePost_stop.nd rfl (Or.inl rfl)) (pgs_cons (pg_name (i := 9) sc_LivePost_stop.nd rfl (Or.inl rfl)) pgs_nil)))))))
  (pss_cons (ps_if (pt_not (pt_chain op_lt op_le (pv 7) (pv 2) (pv 8)))
  (pss_one (L2N.ps_raise rfl takeEN (pmk_1N E_NotHolding (hr.mono (by decide)) (pa_cons (pv 1) pa_nil))))
  pss_nil)
  (pss_cons (ps_set (i := 10) sc_LivePost_stop.nd rfl (Or.inl rfl) (pe_callTy call_list_of (by rfl) T.b_list (by decide +kernel) (pa_cons (pe_fld (pv 3) rfl) pa_nil)))
  (pss_cons (ps_asg (pe_tup (pa_cons (pv 5) (pa_cons (pv 6) (pa_cons (pv 7) (pa_cons (pe_op op_sub (pv 2) pe_int) (pa_cons (pv 9) pa_nil)))))) (pg_sub (pv 10) (pv 1) set_list))
  (pss_cons (ps_expr (pe_m M_LivePost_enter T.cl_LivePost (hr.mono (by decide)) (pv 0) (pa_cons (pe_tup (pa_cons pe_str (pa_cons (pv 1) pa_nil))) (pa_cons (pe_tup (pa_cons (pv 2) (pa_cons (pe_g G_book_of (hr.mono (by decide)) (pa_cons (pv 10) pa_nil)) (pa_cons (pv 4) pa_nil)))) pa_nil))))
  (pss_one (ps_ret (pv 8)))))))))), ?_⟩
    obtain ⟨dx, sc, d, u, h1, ⟨bk, lt, rs, a1, a2, a3, a4⟩, h3, h4⟩ := id L1
    obtain ⟨dy, tl, as, b1, b2, b3⟩ := id a2
    have hl : as.length = S.os.length := PySem.Paired.length b3
    have g30 := bd.os
    have g := bd.good
    refine ⟨_, rfl, p, C_LivePost, dx, _, _, rfl, h1, T.cl_LivePost, T.n_LivePost_scene, rfl, sc, _, rfl, .inl (.inl a1), rfl, _, _, rfl, _, _, rfl, _, _, rfl, rfl, ?_⟩
    refine ⟨_, rfl, bk, dy, _, rfl, b1, rfl, _, rfl, ?_⟩
    cases hy : isIntB y 0 ((S.os.length : Int) - 1) with
    | false => exact .inr ⟨bk, S.os, y, rfl, a2, by omega, ny, fy, hy, fun H' cls d s er => kE (.unknown y) (by rw [actF_stop0 hy]) _ _ _ s er⟩
    | true =>
    obtain ⟨ey, y0, y1⟩ := isIntB_int hy
    obtain ⟨n, en⟩ := Int.eq_ofNat_of_zero_le y0
    rw [en] at ey y1
    subst ey
    clear y0 en
    have hn : n < S.os.length := by
      have : ((n : Nat) : Int) ≤ _ := y1
      omega
    obtain ⟨o, eo⟩ : ∃ o, S.os[n]? = some o := ⟨_, List.getElem?_eq_getElem hn⟩
    rw [actF_stop1 eo] at kk kE
    refine .inl ⟨bk, S.os, n, rfl, a2, hn, ?_⟩
    obtain ⟨a, ea, oa⟩ := Paired.get' b3 eo
    have ok := g.ok o (List.mem_of_getElem? eo)
    refine ⟨_, rfl, bk, C_Book, dy, _, _, rfl, b1, T.cl_Book, T.n_Book_listed, rfl, _, rfl, tl, _, _, _, rfl, rfl, b2, atI_nat (by rw [List.getElem?_map, ea]; rfl), ?_⟩
    refine ⟨a, _, rfl, oa, rfl, _, _, rfl, _, _, rfl, _, _, rfl, _, _, rfl, _, _, rfl, rfl, ?_⟩
    refine ⟨_, rfl, _, rfl, _, _, rfl, rfl, _, rfl, ?_⟩
    by_cases c1 : o.first < S.day
    · refine iteD c1 ?_
      refine ⟨_, rfl, _, _, rfl, rfl, _, rfl, ?_⟩
      by_cases c2 : S.day ≤ o.last
      · refine iteND c2 ?_
        rw [if_pos ⟨c1, c2⟩] at kk
        clear kE
        refine ⟨_, rfl, bk, C_Book, dy, _, _, rfl, b1, T.cl_Book, T.n_Book_listed, rfl, tl, _, rfl, .inr b2, fun ol hol => ?_⟩
        have s1 := Same.new (o := .lst (as.map V.ref)) hol
        have e1 : upd H ol (.lst (as.map V.ref)) ol = some (.lst (as.map V.ref)) := upd_same
        generalize upd H ol (.lst (as.map V.ref)) = H1 at s1 e1
        refine ⟨_, rfl, _, rfl, _, rfl, _, rfl, _, _, rfl, rfl, _, rfl, (by show 5 ≤ sizeLine; decide), fun q hq => ?_⟩
        let o' : Ordr := ⟨o.src, o.tgt, o.first, S.day - 1, o.way⟩
        have s2 := Same.new (o := .tup [.str o.src, .str o.tgt, .int o.first, .int (S.day - 1), .int o.way]) hq
        have e2 : upd H1 q (.tup [.str o.src, .str o.tgt, .int o.first, .int (S.day - 1), .int o.way]) q = some (.tup o'.vals) := upd_same
        generalize upd H1 q (.tup [.str o.src, .str o.tgt, .int o.first, .int (S.day - 1), .int o.way]) = H2 at s2 e2
        have s02 := s1.trans s2
        have e12 := s2 _ _ e1
        have ixk : ixN (as.map V.ref).length (n : Int) = some n := by
          rw [List.length_map, hl]
          unfold ixN
          rw [if_pos (by omega), if_pos (by omega)]
          simp
        refine ⟨_, rfl, _, rfl, ol, _, _, n, rfl, rfl, e12, ixk, ?_⟩
        have hol3 : ∀ b u, H b = some u → (upd H2 ol (.lst ((as.map V.ref).set n (.ref q)))) b = some u := fun b u e => by
          rw [upd_ne (ne_of_none e hol)]
          exact s02 _ _ e
        have e3 : (upd H2 ol (.lst ((as.map V.ref).set n (.ref q)))) ol = some (.lst ((as.set n q).map V.ref)) := by rw [upd_same, List.map_set]
        have nqo : q ≠ ol := (ne_of_none e1 hq).symm
        have e3q : (upd H2 ol (.lst ((as.map V.ref).set n (.ref q)))) q = some (.tup o'.vals) := by rw [upd_ne nqo]; exact e2
        generalize upd H2 ol (.lst ((as.map V.ref).set n (.ref q))) = H3 at hol3 e3 e3q
        have s03 : Same H H3 := hol3
        have O3 : OrdsAt K H3 (as.set n q) (S.os.set n o') := pairedSetP n (OrdsAt.mono b3 s03) (.inl (.inl e3q))
        have g3 : Good (S.os.set n o') := g.shrink eo (by omega) (by omega)
        refine ⟨_, rfl, p, dx, _, rfl, s03 _ _ h1, rfl, _, rfl, (by show 2 ≤ sizeLine; decide), fun q1 hq1 => ?_⟩
        have s4 := Same.new (o := .tup [.str "stop", .int (n : Nat)]) hq1
        have f4 : upd H3 q1 (.tup [.str "stop", .int (n : Nat)]) q1 = some (.tup [.str "stop", .int (n : Nat)]) := upd_same
        generalize upd H3 q1 (.tup [.str "stop", .int (n : Nat)]) = H4 at s4 f4
        refine ⟨_, rfl, _, rfl, ol, as.set n q, S.os.set n o', rfl, .inr (SqL.of (s4 _ _ e3)), O3.mono s4, g3, fun H5 bk2 s5 f5 B5 => ?_⟩
        refine ⟨_, rfl, (by show 3 ≤ sizeLine; decide), fun q3 hq3 => ?_⟩
        have s6 := Same.new (o := .tup [.int S.day, .ref bk2, .ref lt]) hq3
        have f6 : upd H5 q3 (.tup [.int S.day, .ref bk2, .ref lt]) q3 = some (.tup [.int S.day, .ref bk2, .ref lt]) := upd_same
        generalize upd H5 q3 (.tup [.int S.day, .ref bk2, .ref lt]) = H6 at s6 f6
        have s06 : Same H H6 := ((s03.trans s4).trans s5).trans s6
        have A6 : SceneAt K C_Book H6 q3 ⟨S.day, S.os.set n o', S.rows⟩ := ⟨bk2, lt, rs, f6, B5.mono s6, s06 _ _ a3, a4.keep fun b u e _ => s06 _ _ e⟩
        have D6 : DeedAt K H6 q1 (.stop (.int (n : Nat))) := ⟨.int (n : Nat), s6 _ _ (s5 _ _ f4), rfl⟩
        refine ⟨p, kw, S, dn, un, q1, _, q3, _, rfl, L1.same s06, D6, A6, bd.dn, fun H7 L7 k7 => ?_⟩
        exact ⟨_, rfl, kk _ _ rfl rfl L7 fun b u e nb => k7 _ _ (s06 _ _ e) nb⟩
      · refine iteNDN c2 ?_
        rw [if_neg (fun z => c2 z.2)] at kE
        exact ⟨_, rfl, e1_fin fy fun d H3 s3 fd ed => kE (.holding (.int (n : Nat))) rfl _ _ _ s3 ⟨rfl, d, rfl, ed⟩⟩
    · refine iteDN c1 ?_
      rw [if_neg (fun z => c1 z.1)] at kE
      exact ⟨false, rfl, iteT ⟨_, rfl, e1_fin fy fun d H3 s3 fd ed => kE (.holding (.int (n : Nat))) rfl _ _ _ s3 ⟨rfl, d, rfl, ed⟩⟩⟩
end

end MF
set_option Elab.async false
set_option linter.all false
set_option maxRecDepth 100000
set_option maxHeartbeats 2000000
set_option pp.maxSteps 600
namespace MF
open PySem PySem.Spec PyProof.Rows L2 StX
section
variable {P : Program} {w : World} {K : PySem.W.Frag} {mg : Str → Option Value} {base : Heap} {C_Book C_LivePost C_MailError C_InvalidOperation C_InvalidOrder C_UnknownOrder C_NotHolding C_DecodeError C_NotationError C_UnknownLetter C_InvalidAddress C_InvalidDay C_InvalidNumber C_Contradiction C_InvalidCount : Addr}
theorem way_bad {o : Ordr} (h : (decide (1 ≤ o.way) && decide (o.way ≤ 30)) = false) : isOrdB o.vals = false := by
  have : isIntB (.int o.way) 1 30 = false := h
  unfold isOrdB Ordr.vals
  simp only [this, Bool.and_false]
theorem addr_sh {z : Str} (h : isAddrB (.str z) = true) : notSeq (.str z) = true ∧ shortV (.str z) := ⟨rfl, Nat.le_trans (isAddr_short h) (by decide)⟩
def spGiveX (K : PySem.W.Frag) (CB CL : Addr) (c : Cls5) : Sp := fun vs H Q E => ∃ p y o, vs = [.ref p, y] ∧ ArgAt K H y (.give o) ∧ ActX K CB CL c (.give o) p H Q E
theorem okX_give (T : Top K mg C_Book C_LivePost C_MailError C_InvalidOperation C_InvalidOrder C_UnknownOrder C_NotHolding C_DecodeError C_NotationError C_UnknownLetter C_InvalidAddress C_InvalidDay C_InvalidNumber C_Contradiction C_InvalidCount) : MFn P w K mg base (L2N.CX P w) 6 C_LivePost "give" (spGiveX K C_Book C_LivePost ⟨C_InvalidOrder, C_UnknownOrder, C_InvalidAddress, C_InvalidDay, C_InvalidNumber, C_UnknownLetter, C_NotHolding, C_InvalidOperation, C_Contradiction, C_InvalidCount, C_DecodeError, C_NotationError⟩) := by
  have X_book_of := (ok_book_of (P := P) (w := w) (base := base) T).upN.or (okX_book_of T)
  have M_LivePost_enter : MFn P w K mg base CX0 1 C_LivePost "enter" (spEnter K C_Book C_LivePost) := ok_enter T
  refine T.d_LivePost_give.fnXN sc_LivePost_give (fun vs H Q E h => ?_) (fun f cdv A outer s H vs Q E hr h => ?_)
  · obtain ⟨p, y, o, rfl, _⟩ := h
    rfl
  · obtain ⟨p, y, o, rfl, ya, dok, kw, S, dn, un, L1, bd, kE, kk⟩ := h
    refine ⟨_, (pss_cons (ps_asg (pe_fld (pv 0) rfl) (pg_tup rfl (pgs_cons (pg_name (i := 2) sc_LivePost_give.nd rfl (Or.inl rfl)) (pgs_cons (pg_name (i := 3) sc_LivePost_give.nd rfl (Or.inl rfl)) (pgs_cons (pg_name (i := 4) sc_LivePost_give.nd rfl (Or.inl rfl)) pgs_nil)))))
  (pss_cons (ps_set (i := 5) sc_LivePost_give.nd rfl (Or.inl rfl) (pe_gX X_book_of (hr.mono (by decide)) passEN (pa_cons (pe_lst (pa_star (pe_fld (pv 3) rfl) (pa_cons (pv 1) pa_nil))) pa_nil)))
  (pss_cons (ps_expr (pe_m M_LivePost_enter T.cl_LivePost (hr.mono (by decide)) (pv 0) (pa_cons (pe_tup (pa_cons pe_str (pa_cons (pv 1) pa_nil))) (pa_cons (pe_tup (pa_cons (pv 2) (pa_cons (pv 5) (pa_cons (pv 4) pa_nil)))) pa_nil))))
  (pss_one (ps_ret (pe_callB call_len_seq (by rfl) T.b_len (by decide +kernel) (pa_cons (pe_fld (pv 3) rfl) pa_nil))))))), ?_⟩
    obtain ⟨dx, sc, d, u, h1, ⟨bk, lt, rs, a1, a2, a3, a4⟩, h3, h4⟩ := id L1
    obtain ⟨dy, tl, as, b1, b2, b3⟩ := id a2
    have hl : as.length = S.os.length := PySem.Paired.length b3
    have g30 := bd.os
    have g := bd.good
    refine ⟨_, rfl, p, C_LivePost, dx, _, _, rfl, h1, T.cl_LivePost, T.n_LivePost_scene, rfl, sc, _, rfl, .inl (.inl a1), rfl, _, _, rfl, _, _, rfl, _, _, rfl, rfl, ?_⟩
    refine ⟨_, rfl, bk, C_Book, dy, _, _, rfl, b1, T.cl_Book, T.n_Book_listed, rfl, tl, _, rfl, .inl b2, ?_⟩
    refine ⟨_, rfl, by rw [List.length_append, List.length_map, sizeLine_eq]; simp only [List.length_cons, List.length_nil] at *; omega, fun q1 hq1 => ?_⟩
    have s1 := Same.new (o := .lst (as.map V.ref ++ [y])) hq1
    have f1 : upd H q1 (.lst (as.map V.ref ++ [y])) q1 = some (.lst (as.map V.ref ++ [y])) := upd_same
    generalize upd H q1 (.lst (as.map V.ref ++ [y])) = H1 at s1 f1
    have bad : ∀ {Q' : VK}, actF S (.give o) = (.err (.order (.int (S.os.length : Nat))), S) → (BadV K H1 y ∨ ∃ a o p, y = .ref a ∧ OrdAt K H1 a o ∧ o.Ok ∧ p ∈ S.os ∧ overB p o = true) → spBookOfX K ⟨C_InvalidOrder, C_UnknownOrder, C_InvalidAddress, C_InvalidDay, C_InvalidNumber, C_UnknownLetter, C_NotHolding, C_InvalidOperation, C_Contradiction, C_InvalidCount, C_DecodeError, C_NotationError⟩ [.ref q1] H1 Q' E := fun {Q'} ea hb => by
      refine ⟨q1, _, as.length, rfl, .inr (SqL.of f1), by rw [List.length_append, List.length_map, sizeLine_eq]; simp only [List.length_cons, List.length_nil]; omega, ⟨as, S.os, y, [], rfl, b3.mono s1, g.ok, g.apart, rfl, by omega, .inr hb⟩, fun H' cls d2 s2 er => ?_⟩
      rw [hl] at er
      exact kE (.order (.int (S.os.length : Nat))) (by rw [ea]) _ _ _ (s1.trans s2) er
    rcases o with _ | o
    · exact .inr (bad rfl (.inl (.inr (.inr (by rw [show y = .non from ya]; rfl)))))
    obtain ⟨a, rfl, oa⟩ := ya
    have raw : RawW o := dok
    have oa1 := OrdAt.mono oa s1
    cases hw : (decide (1 ≤ o.way) && decide (o.way ≤ 30)) with
    | false =>
      refine .inr (bad (actF_give0 (by rw [hw]; intro z; cases z.1)) (.inl (.inl ⟨a, o.vals, rfl, oa1, fun x hx => ?_, way_bad hw⟩)))
      have hx : x ∈ [V.str o.src, .str o.tgt, .int o.first, .int o.last, .int o.way] := hx
      simp only [List.mem_cons, List.mem_nil_iff, or_false] at hx
      rcases hx with rfl | rfl | rfl | rfl | rfl
      · exact addr_sh raw.as
      · exact addr_sh raw.at_
      · exact ⟨rfl, True.intro⟩
      · exact ⟨rfl, True.intro⟩
      · exact ⟨rfl, True.intro⟩
    | true =>
    have ok := raw.ok hw
    cases hf : S.os.any fun p => overB p o with
    | true =>
      obtain ⟨p', hp', ho⟩ := List.any_eq_true.mp hf
      exact .inr (bad (actF_give0 (by rw [hf]; intro z; cases z.2)) (.inr ⟨a, o, p', rfl, oa1, ok, hp', ho⟩))
    | false =>
    have g' := g.snocP ok g30 hf
    rw [actF_give1 hw hf] at kk
    clear bad kE
    have f1' : H1 q1 = some (.lst ((as ++ [a]).map V.ref)) := by rw [f1, List.map_append]; rfl
    refine .inl ⟨q1, as ++ [a], S.os ++ [o], rfl, .inr (SqL.of f1'), Paired.append (b3.mono s1) (.cons oa1 .nil), g', fun H2 bk2 s2 f2 B2 => ?_⟩
    refine ⟨_, rfl, p, dx, _, rfl, s2 _ _ (s1 _ _ h1), rfl, _, rfl, (by show 2 ≤ sizeLine; decide), fun q2 hq2 => ?_⟩
    have s3 := Same.new (o := .tup [.str "give", .ref a]) hq2
    have f2' : upd H2 q2 (.tup [.str "give", .ref a]) q2 = some (.tup [.str "give", .ref a]) := upd_same
    generalize upd H2 q2 (.tup [.str "give", .ref a]) = H3 at s3 f2'
    refine ⟨_, rfl, _, rfl, _, rfl, (by show 3 ≤ sizeLine; decide), fun q3 hq3 => ?_⟩
    have s4 := Same.new (o := .tup [.int S.day, .ref bk2, .ref lt]) hq3
    have f3 : upd H3 q3 (.tup [.int S.day, .ref bk2, .ref lt]) q3 = some (.tup [.int S.day, .ref bk2, .ref lt]) := upd_same
    generalize upd H3 q3 (.tup [.int S.day, .ref bk2, .ref lt]) = H4 at s4 f3
    have s04 : Same H H4 := ((s1.trans s2).trans s3).trans s4
    have A4 : SceneAt K C_Book H4 q3 ⟨S.day, S.os ++ [o], S.rows⟩ := ⟨bk2, lt, rs, f3, B2.mono (s3.trans s4), s04 _ _ a3, a4.keep fun b u e _ => s04 _ _ e⟩
    have D4 : DeedAt K H4 q2 (.give (some o)) := ⟨.ref a, s4 _ _ f2', a, rfl, OrdAt.mono oa s04⟩
    refine ⟨p, kw, S, dn, un, q2, _, q3, _, rfl, L1.same s04, D4, A4, bd.dn, fun H6 L6 k6 => ?_⟩
    have kb : KB K C_Book H H6 := KB.live h1 fun b u e nb => k6 _ _ (s04 _ _ e) nb
    obtain ⟨dz, tl2, as2, c1, c2, c3⟩ := kb.book _ _ a2
    have hl2 : as2.length = S.os.length := PySem.Paired.length c3
    refine ⟨_, rfl, bk, C_Book, dz, _, _, rfl, c1, T.cl_Book, T.n_Book_listed, rfl, tl2, _, rfl, .inr c2, ?_⟩
    rw [List.length_map, hl2]
    exact kk _ _ rfl rfl L6 fun b u e nb => k6 _ _ (s04 _ _ e) nb
end

end MF
set_option Elab.async false
set_option linter.all false
set_option maxRecDepth 100000
set_option maxHeartbeats 2000000
set_option pp.maxSteps 600
namespace MF
open PySem PySem.Spec PyProof.Rows L2 StX
section
variable {P : Program} {w : World} {K : PySem.W.Frag} {mg : Str → Option Value} {base : Heap} {C_Book C_LivePost C_MailError C_InvalidOperation C_InvalidOrder C_UnknownOrder C_NotHolding C_DecodeError C_NotationError C_UnknownLetter C_InvalidAddress C_InvalidDay C_InvalidNumber C_Contradiction C_InvalidCount : Addr}
def terms12 : List Str := ["InvalidOperation", "InvalidOrder", "UnknownOrder", "NotHolding", "DecodeError", "NotationError", "UnknownLetter", "InvalidAddress", "InvalidDay", "InvalidNumber", "Contradiction", "InvalidCount"]
def FldAt (K : PySem.W.Frag) (H : Hp) (D : Addr) (d : Option Addr) (j : Nat) (vs : List V) : Prop :=
  if j < 4 then ∃ v dd, d = some dd ∧ H dd = some (.xd [("index", v)]) ∧ PySem.W.findIn K (.ref D) "index" = some none ∧ vs = [v]
  else if j = 4 then ∃ v dd, d = some dd ∧ H dd = some (.xd [("offset", v)]) ∧ PySem.W.findIn K (.ref D) "offset" = some none ∧ vs = [v]
  else if j = 5 then ∃ r c dd, d = some dd ∧ H dd = some (.xd [("word", c), ("row", r)]) ∧ PySem.W.findIn K (.ref D) "row" = some none ∧ PySem.W.findIn K (.ref D) "word" = some none ∧ vs = [r, c]
  else if j = 6 then ∃ v dd, d = some dd ∧ H dd = some (.xd [("letter", v)]) ∧ PySem.W.findIn K (.ref D) "letter" = some none ∧ vs = [v]
  else d = none ∧ vs = []
def b12 (j : Nat) : List Bool := (List.range 12).map fun i => decide (i = j)
theorem b12_count : ∀ j, j < 12 → (b12 j).count true = 1 := by decide
theorem ok_told {X : Cx} (hK : X.K = K) (hm : X.mg = mg) (T : Top K mg C_Book C_LivePost C_MailError C_InvalidOperation C_InvalidOrder C_UnknownOrder C_NotHolding C_DecodeError C_NotationError C_UnknownLetter C_InvalidAddress C_InvalidDay C_InvalidNumber C_Contradiction C_InvalidCount) : LFn X "_law_told" "_law_work" (TTold RK ⟨C_InvalidOrder, C_UnknownOrder, C_InvalidAddress, C_InvalidDay, C_InvalidNumber, C_UnknownLetter, C_NotHolding, C_InvalidOperation, C_Contradiction, C_InvalidCount, C_DecodeError, C_NotationError⟩) := by
  subst hK
  subst hm
  obtain ⟨g, fd, F, hm, hb⟩ := T.d__law_told.ex
  obtain ⟨oc, od, kV, doc, pm, an, cdv, ct, osl, rfl, lk, hcd⟩ := F.ex
  refine ⟨⟨g, oc, od, defArgs s__law_told, defBody s__law_told, defScope s__law_told, .none, kV, doc, pm, cdv, ct, an, osl, ["_law_work", "e", "_law_some", "_law_terms", "_law_k"], hm, F.kp, lk, hcd, hb, sc__law_told, rfl, by first | exact .inl rfl | exact .inr (.inl rfl), ?_⟩⟩
  intro f s H Q ok tl hkeep act hok h hE65
  refine ⟨_, pss_one (ps_try_as (i := 1) (c := .ref C_MailError) (Wout := fun _ _ _ _ => False) rfl rfl sc__law_told.nd rfl rfl ⟨rfl, by decide, .inl T.g_MailError⟩ LamX.takes0 (fun W pn xe tk _ => pss_one (ps_ret (act W pn xe _ _ tk))) (fun a oe cls d pn hz hf =>
    (pss_cons (ps_set (i := 2) sc__law_told.nd rfl (Or.inl rfl) (pe_lst (pa_cons (pe_callB (call_isY hz hf) (by rfl) T.b_isinstance (by decide +kernel) (pa_cons (pv 1) (pa_cons (pe_glob (v := V.ref C_InvalidOperation) rfl T.g_InvalidOperation rfl) pa_nil))) (pa_cons (pe_callB (call_isY hz hf) (by rfl) T.b_isinstance (by decide +kernel) (pa_cons (pv 1) (pa_cons (pe_glob (v := V.ref C_InvalidOrder) rfl T.g_InvalidOrder rfl) pa_nil))) (pa_cons (pe_callB (call_isY hz hf) (by rfl) T.b_isinstance (by decide +kernel) (pa_cons (pv 1) (pa_cons (pe_glob (v := V.ref C_UnknownOrder) rfl T.g_UnknownOrder rfl) pa_nil))) pa_nil)))))
  (pss_cons (ps_set (i := 2) sc__law_told.nd rfl (Or.inl rfl) (pe_op op_cat (pv 2) (pe_lst (pa_cons (pe_callB (call_isY hz hf) (by rfl) T.b_isinstance (by decide +kernel) (pa_cons (pv 1) (pa_cons (pe_glob (v := V.ref C_NotHolding) rfl T.g_NotHolding rfl) pa_nil))) (pa_cons (pe_callB (call_isY hz hf) (by rfl) T.b_isinstance (by decide +kernel) (pa_cons (pv 1) (pa_cons (pe_glob (v := V.ref C_DecodeError) rfl T.g_DecodeError rfl) pa_nil))) (pa_cons (pe_callB (call_isY hz hf) (by rfl) T.b_isinstance (by decide +kernel) (pa_cons (pv 1) (pa_cons (pe_glob (v := V.ref C_NotationError) rfl T.g_NotationError rfl) pa_nil))) pa_nil))))))
  (pss_cons (ps_set (i := 2) sc__law_told.nd rfl (Or.inl rfl) (pe_op op_cat (pv 2) (pe_lst (pa_cons (pe_callB (call_isY hz hf) (by rfl) T.b_isinstance (by decide +kernel) (pa_cons (pv 1) (pa_cons (pe_glob (v := V.ref C_UnknownLetter) rfl T.g_UnknownLetter rfl) pa_nil))) (pa_cons (pe_callB (call_isY hz hf) (by rfl) T.b_isinstance (by decide +kernel) (pa_cons (pv 1) (pa_cons (pe_glob (v := V.ref C_InvalidAddress) rfl T.g_InvalidAddress rfl) pa_nil))) (pa_cons (pe_callB (call_isY hz hf) (by rfl) T.b_isinstance (by decide +kernel) (pa_cons (pv 1) (pa_cons (pe_glob (v := V.ref C_InvalidDay) rfl T.g_InvalidDay rfl) pa_nil))) pa_nil))))))
  (pss_cons (ps_set (i := 2) sc__law_told.nd rfl (Or.inl rfl) (pe_op op_cat (pv 2) (pe_lst (pa_cons (pe_callB (call_isY hz hf) (by rfl) T.b_isinstance (by decide +kernel) (pa_cons (pv 1) (pa_cons (pe_glob (v := V.ref C_InvalidNumber) rfl T.g_InvalidNumber rfl) pa_nil))) (pa_cons (pe_callB (call_isY hz hf) (by rfl) T.b_isinstance (by decide +kernel) (pa_cons (pv 1) (pa_cons (pe_glob (v := V.ref C_Contradiction) rfl T.g_Contradiction rfl) pa_nil))) (pa_cons (pe_callB (call_isY hz hf) (by rfl) T.b_isinstance (by decide +kernel) (pa_cons (pv 1) (pa_cons (pe_glob (v := V.ref C_InvalidCount) rfl T.g_InvalidCount rfl) pa_nil))) pa_nil))))))
  (pss_cons (ps_set (i := 3) sc__law_told.nd rfl (Or.inl rfl) (pe_lst (pa_cons pe_str (pa_cons pe_str (pa_cons pe_str (pa_cons pe_str (pa_cons pe_str (pa_cons pe_str pa_nil))))))))
  (pss_cons (ps_set (i := 3) sc__law_told.nd rfl (Or.inl rfl) (pe_op op_cat (pv 3) (pe_lst (pa_cons pe_str (pa_cons pe_str (pa_cons pe_str (pa_cons pe_str (pa_cons pe_str pa_nil))))))))
  (pss_cons (ps_set (i := 3) sc__law_told.nd rfl (Or.inl rfl) (pe_op op_cat (pv 3) (pe_lst (pa_cons pe_str (pa_cons pe_str pa_nil)))))
  (pss_cons (ps_set (i := 4) sc__law_told.nd rfl (Or.inl rfl) (pe_ifExp (PW.pt (pw_and (pt_cmpR op_eq (pe_bmK (K := X.K) PySem.F.plainAttrs_list PySem.F.slot_list_count PySem.F.type_list_count (mt_lcountBK (K := X.K)) (pv 2) (pa_cons pe_bl pa_nil)) pe_int (nomark _)) (pw_and1 (pt_val (pe_callB (call_isY hz hf) (by rfl) T.b_isinstance (by decide +kernel) (pa_cons (pv 1) (pa_cons (pe_bltn (v := .ty "ValueError") (by rfl) T.b_ValueError (by decide +kernel) rfl) pa_nil))))))) (pe_bmK (K := X.K) PySem.F.plainAttrs_list PySem.F.slot_list_index PySem.F.type_list_index (mt_indexDK (K := X.K) hE65) (pv 2) (pa_cons pe_bl pa_nil)) pe_int))
  (pss_cons (ps_if (pt_cmpR op_lt (pv 4) pe_int (nomark _))
  (pss_one (ps_ret (pe_tup (pa_cons pe_str (pa_cons (pe_ix (ix_listK (K := X.K)) (pv 3) (pv 4) (fun _ _ => rfl)) (pa_cons (pe_lst (pa_cons (pe_xfY hz hf (pv 1)) pa_nil)) pa_nil))))))
  pss_nil)
  (pss_cons (ps_if (pt_cmpR op_lt (pv 4) pe_int (nomark _))
  (pss_one (ps_ret (pe_tup (pa_cons pe_str (pa_cons (pe_ix (ix_listK (K := X.K)) (pv 3) (pv 4) (fun _ _ => rfl)) (pa_cons (pe_ifExp (pt_cmpR op_eq (pv 4) pe_int (nomark _)) (pe_lst (pa_cons (pe_xfY hz hf (pv 1)) pa_nil)) (pe_ifExp (pt_cmpR op_eq (pv 4) pe_int (nomark _)) (pe_lst (pa_cons (pe_xfY hz hf (pv 1)) (pa_cons (pe_xfY hz hf (pv 1)) pa_nil))) (pe_lst (pa_cons (pe_xfY hz hf (pv 1)) pa_nil)))) pa_nil))))))
  pss_nil)
  (pss_one (ps_ret (pe_tup (pa_cons pe_str (pa_cons (pe_ix (ix_listK (K := X.K)) (pv 3) (pv 4) (fun _ _ => rfl)) pa_nil))))))))))))))))), ?_⟩
  refine ⟨rfl, hok, _, fun cls d H' ⟨r, hrk, hr, hk⟩ => ?_, h⟩
  have fin : ∃ (D : Addr) (j : Nat) (vs : List V), cls = .ref D ∧ ErrC X.K D C_MailError ∧ j < 12 ∧ PySem.W.kitOne X.K (.ref D) (.ref C_InvalidOperation) = some (decide (0 = j)) ∧ PySem.W.kitOne X.K (.ref D) (.ref C_InvalidOrder) = some (decide (1 = j)) ∧ PySem.W.kitOne X.K (.ref D) (.ref C_UnknownOrder) = some (decide (2 = j)) ∧ PySem.W.kitOne X.K (.ref D) (.ref C_NotHolding) = some (decide (3 = j)) ∧ PySem.W.kitOne X.K (.ref D) (.ref C_DecodeError) = some (decide (4 = j)) ∧ PySem.W.kitOne X.K (.ref D) (.ref C_NotationError) = some (decide (5 = j)) ∧ PySem.W.kitOne X.K (.ref D) (.ref C_UnknownLetter) = some (decide (6 = j)) ∧ PySem.W.kitOne X.K (.ref D) (.ref C_InvalidAddress) = some (decide (7 = j)) ∧ PySem.W.kitOne X.K (.ref D) (.ref C_InvalidDay) = some (decide (8 = j)) ∧ PySem.W.kitOne X.K (.ref D) (.ref C_InvalidNumber) = some (decide (9 = j)) ∧ PySem.W.kitOne X.K (.ref D) (.ref C_Contradiction) = some (decide (10 = j)) ∧ PySem.W.kitOne X.K (.ref D) (.ref C_InvalidCount) = some (decide (11 = j)) ∧ DictSt H' d ∧ FldAt X.K H' D d j vs ∧ terms12[j]? = some (errT r).1 ∧ (errT r).2 = vs := by
    cases r with
    | order i =>
      obtain ⟨h1, dd, h2, h3⟩ := hr
      exact ⟨C_InvalidOrder, 1, _, h1, T.e_InvalidOrder, by decide, T.k_InvalidOrder_InvalidOperation, T.k_InvalidOrder_InvalidOrder, T.k_InvalidOrder_UnknownOrder, T.k_InvalidOrder_NotHolding, T.k_InvalidOrder_DecodeError, T.k_InvalidOrder_NotationError, T.k_InvalidOrder_UnknownLetter, T.k_InvalidOrder_InvalidAddress, T.k_InvalidOrder_InvalidDay, T.k_InvalidOrder_InvalidNumber, T.k_InvalidOrder_Contradiction, T.k_InvalidOrder_InvalidCount, (fun d2 e => by rw [h2] at e; cases e; exact ⟨_, h3⟩), ⟨i, dd, h2, h3, T.na_InvalidOrder, rfl⟩, rfl, rfl⟩
    | unknown i =>
      obtain ⟨h1, dd, h2, h3⟩ := hr
      exact ⟨C_UnknownOrder, 2, _, h1, T.e_UnknownOrder, by decide, T.k_UnknownOrder_InvalidOperation, T.k_UnknownOrder_InvalidOrder, T.k_UnknownOrder_UnknownOrder, T.k_UnknownOrder_NotHolding, T.k_UnknownOrder_DecodeError, T.k_UnknownOrder_NotationError, T.k_UnknownOrder_UnknownLetter, T.k_UnknownOrder_InvalidAddress, T.k_UnknownOrder_InvalidDay, T.k_UnknownOrder_InvalidNumber, T.k_UnknownOrder_Contradiction, T.k_UnknownOrder_InvalidCount, (fun d2 e => by rw [h2] at e; cases e; exact ⟨_, h3⟩), ⟨i, dd, h2, h3, T.na_UnknownOrder, rfl⟩, rfl, rfl⟩
    | address =>
      exact ⟨C_InvalidAddress, 7, _, hr.1, T.e_InvalidAddress, by decide, T.k_InvalidAddress_InvalidOperation, T.k_InvalidAddress_InvalidOrder, T.k_InvalidAddress_UnknownOrder, T.k_InvalidAddress_NotHolding, T.k_InvalidAddress_DecodeError, T.k_InvalidAddress_NotationError, T.k_InvalidAddress_UnknownLetter, T.k_InvalidAddress_InvalidAddress, T.k_InvalidAddress_InvalidDay, T.k_InvalidAddress_InvalidNumber, T.k_InvalidAddress_Contradiction, T.k_InvalidAddress_InvalidCount, (fun dd e => by rw [hr.2] at e; cases e), ⟨hr.2, rfl⟩, rfl, rfl⟩
    | day =>
      exact (show False from hrk).elim
    | number =>
      exact ⟨C_InvalidNumber, 9, _, hr.1, T.e_InvalidNumber, by decide, T.k_InvalidNumber_InvalidOperation, T.k_InvalidNumber_InvalidOrder, T.k_InvalidNumber_UnknownOrder, T.k_InvalidNumber_NotHolding, T.k_InvalidNumber_DecodeError, T.k_InvalidNumber_NotationError, T.k_InvalidNumber_UnknownLetter, T.k_InvalidNumber_InvalidAddress, T.k_InvalidNumber_InvalidDay, T.k_InvalidNumber_InvalidNumber, T.k_InvalidNumber_Contradiction, T.k_InvalidNumber_InvalidCount, (fun dd e => by rw [hr.2] at e; cases e), ⟨hr.2, rfl⟩, rfl, rfl⟩
    | letter i =>
      obtain ⟨h1, dd, h2, h3⟩ := hr
      exact ⟨C_UnknownLetter, 6, _, h1, T.e_UnknownLetter, by decide, T.k_UnknownLetter_InvalidOperation, T.k_UnknownLetter_InvalidOrder, T.k_UnknownLetter_UnknownOrder, T.k_UnknownLetter_NotHolding, T.k_UnknownLetter_DecodeError, T.k_UnknownLetter_NotationError, T.k_UnknownLetter_UnknownLetter, T.k_UnknownLetter_InvalidAddress, T.k_UnknownLetter_InvalidDay, T.k_UnknownLetter_InvalidNumber, T.k_UnknownLetter_Contradiction, T.k_UnknownLetter_InvalidCount, (fun d2 e => by rw [h2] at e; cases e; exact ⟨_, h3⟩), ⟨i, dd, h2, h3, T.na_UnknownLetter_letter, rfl⟩, rfl, rfl⟩
    | holding i =>
      obtain ⟨h1, dd, h2, h3⟩ := hr
      exact ⟨C_NotHolding, 3, _, h1, T.e_NotHolding, by decide, T.k_NotHolding_InvalidOperation, T.k_NotHolding_InvalidOrder, T.k_NotHolding_UnknownOrder, T.k_NotHolding_NotHolding, T.k_NotHolding_DecodeError, T.k_NotHolding_NotationError, T.k_NotHolding_UnknownLetter, T.k_NotHolding_InvalidAddress, T.k_NotHolding_InvalidDay, T.k_NotHolding_InvalidNumber, T.k_NotHolding_Contradiction, T.k_NotHolding_InvalidCount, (fun d2 e => by rw [h2] at e; cases e; exact ⟨_, h3⟩), ⟨i, dd, h2, h3, T.na_NotHolding, rfl⟩, rfl, rfl⟩
    | operation i =>
      obtain ⟨h1, dd, h2, h3⟩ := hr
      exact ⟨C_InvalidOperation, 0, _, h1, T.e_InvalidOperation, by decide, T.k_InvalidOperation_InvalidOperation, T.k_InvalidOperation_InvalidOrder, T.k_InvalidOperation_UnknownOrder, T.k_InvalidOperation_NotHolding, T.k_InvalidOperation_DecodeError, T.k_InvalidOperation_NotationError, T.k_InvalidOperation_UnknownLetter, T.k_InvalidOperation_InvalidAddress, T.k_InvalidOperation_InvalidDay, T.k_InvalidOperation_InvalidNumber, T.k_InvalidOperation_Contradiction, T.k_InvalidOperation_InvalidCount, (fun d2 e => by rw [h2] at e; cases e; exact ⟨_, h3⟩), ⟨i, dd, h2, h3, T.na_InvalidOperation, rfl⟩, rfl, rfl⟩
    | contra =>
      exact (show False from hrk).elim
    | count =>
      exact (show False from hrk).elim
    | decode i =>
      exact (show False from hrk).elim
    | note r w =>
      exact (show False from hrk).elim
  obtain ⟨D, j, vs, hcls, EC, hj, k0, k1, k2, k3, k4, k5, k6, k7, k8, k9, k10, k11, hd, hfl, hnm, hvs⟩ := fin
  refine ⟨true, by rw [hcls]; exact EC.exm, fun _ a ha => ?_, fun z => by cases z⟩
  have ask : ∀ {H1 : Hp}, Same H' H1 → DictSt H1 d := fun s dd e => by
    obtain ⟨fs, z⟩ := hd dd e
    exact ⟨fs, s _ _ z⟩
  refine ⟨_, rfl, D, _, _, _, rfl, hcls, EC.exc, (fun u z => z), k0, ask (Same.refl _), _, rfl, D, _, _, _, rfl, hcls, EC.exc, (fun u z => z), k1, ask (Same.refl _), _, rfl, D, _, _, _, rfl, hcls, EC.exc, (fun u z => z), k2, ask (Same.refl _), (by show 3 ≤ sizeLine; decide), ?_⟩
  intro p1 h1
  generalize gH1 : L2.upd _ p1 _ = H1
  obtain ⟨s1, e1⟩ := newS h1 gH1
  clear gH1
  refine ⟨_, rfl, _, rfl, D, _, _, _, rfl, hcls, EC.exc, (fun u z => z), k3, ask s1, _, rfl, D, _, _, _, rfl, hcls, EC.exc, (fun u z => z), k4, ask s1, _, rfl, D, _, _, _, rfl, hcls, EC.exc, (fun u z => z), k5, ask s1, (by show 3 ≤ sizeLine; decide), ?_⟩
  intro p2 h2
  generalize gH2 : L2.upd _ p2 _ = H2
  obtain ⟨s2, e2⟩ := newS h2 gH2
  clear gH2
  have s02 := s1.trans s2
  refine ⟨p1, p2, _, _, rfl, rfl, s2 _ _ e1, e2, (by show 6 ≤ sizeLine; decide), ?_⟩
  intro p3 h3
  generalize gH3 : L2.upd _ p3 _ = H3
  obtain ⟨s3, e3⟩ := newS h3 gH3
  clear gH3
  have s03 := s02.trans s3
  refine ⟨_, rfl, _, rfl, D, _, _, _, rfl, hcls, EC.exc, (fun u z => z), k6, ask s03, _, rfl, D, _, _, _, rfl, hcls, EC.exc, (fun u z => z), k7, ask s03, _, rfl, D, _, _, _, rfl, hcls, EC.exc, (fun u z => z), k8, ask s03, (by show 3 ≤ sizeLine; decide), ?_⟩
  intro p4 h4
  generalize gH4 : L2.upd _ p4 _ = H4
  obtain ⟨s4, e4⟩ := newS h4 gH4
  clear gH4
  have s04 := s03.trans s4
  refine ⟨p3, p4, _, _, rfl, rfl, s4 _ _ e3, e4, (by show 9 ≤ sizeLine; decide), ?_⟩
  intro p5 h5
  generalize gH5 : L2.upd _ p5 _ = H5
  obtain ⟨s5, e5⟩ := newS h5 gH5
  clear gH5
  have s05 := s04.trans s5
  refine ⟨_, rfl, _, rfl, D, _, _, _, rfl, hcls, EC.exc, (fun u z => z), k9, ask s05, _, rfl, D, _, _, _, rfl, hcls, EC.exc, (fun u z => z), k10, ask s05, _, rfl, D, _, _, _, rfl, hcls, EC.exc, (fun u z => z), k11, ask s05, (by show 3 ≤ sizeLine; decide), ?_⟩
  intro p6 h6
  generalize gH6 : L2.upd _ p6 _ = H6
  obtain ⟨s6, e6⟩ := newS h6 gH6
  clear gH6
  have s06 := s05.trans s6
  refine ⟨p5, p6, _, _, rfl, rfl, s6 _ _ e5, e6, (by show 12 ≤ sizeLine; decide), ?_⟩
  intro p7 h7
  generalize gH7 : L2.upd _ p7 _ = H7
  obtain ⟨s7, e7⟩ := newS h7 gH7
  clear gH7
  have s07 := s06.trans s7
  have e7' : H7 p7 = some (.lst ((b12 j).map V.bl)) := e7
  clear e1 e2 e3 e4 e5 e6 e7 s02 s03 s04 s05 s06
  refine ⟨(by show 6 ≤ sizeLine; decide), ?_⟩
  intro q1 g1
  generalize gK1 : L2.upd _ q1 _ = K1
  obtain ⟨t1, f1⟩ := newS g1 gK1
  clear gK1
  refine ⟨_, rfl, (by show 5 ≤ sizeLine; decide), ?_⟩
  intro q2 g2
  generalize gK2 : L2.upd _ q2 _ = K2
  obtain ⟨t2, f2⟩ := newS g2 gK2
  clear gK2
  refine ⟨q1, q2, _, _, rfl, rfl, t2 _ _ f1, f2, (by show 11 ≤ sizeLine; decide), ?_⟩
  intro q3 g3
  generalize gK3 : L2.upd _ q3 _ = K3
  obtain ⟨t3, f3⟩ := newS g3 gK3
  clear gK3
  refine ⟨_, rfl, (by show 2 ≤ sizeLine; decide), ?_⟩
  intro q4 g4
  generalize gK4 : L2.upd _ q4 _ = K4
  obtain ⟨t4, f4⟩ := newS g4 gK4
  clear gK4
  refine ⟨q3, q4, _, _, rfl, rfl, t4 _ _ f3, f4, (by show 13 ≤ sizeLine; decide), ?_⟩
  intro q5 g5
  generalize gK5 : L2.upd _ q5 _ = K5
  obtain ⟨t5, f5⟩ := newS g5 gK5
  clear gK5
  have t15 := ((((t1.trans t2).trans t3).trans t4).trans t5)
  have s15 := s07.trans t15
  have ek := t15 _ _ e7'
  have f5' : K5 q5 = some (.lst ((terms12 ++ [("other" : Str)]).map V.str)) := f5
  clear f1 f2 f3 f4 f5 t1 t2 t3 t4 t5 t15 s07 e7'
  refine ⟨_, rfl, .inl ⟨rfl, _, SqL.of ek⟩, p7, b12 j, true, rfl, rfl, SqL.of ek, ?_⟩
  rw [b12_count j hj]
  refine ⟨rfl, _, rfl, iteD rfl ?_⟩
  refine ⟨_, rfl, D, _, _, true, rfl, hcls, EC.exc, (fun u z => z), EC.ve, ask s15, _, rfl, ?_⟩
  refine iteT ?_
  have hz : ((b12 j).map PyData.bool)[j]? = some (.bool true) := by
    unfold b12
    rw [List.getElem?_map, List.getElem?_map, List.getElem?_range hj]
    simp
  have hb' : ∀ m, m < j → (b12 j)[m]? = some false := fun m hm => by
    unfold b12
    rw [List.getElem?_map, List.getElem?_range (by omega)]
    simp; omega
  have sh : ∀ j, j < 12 → SeqAt.shaped (.list ((b12 j).map PyData.bool)) = true := by decide +kernel
  have dpb : ∀ l : List Bool, DpAll X.K K5 (l.map V.bl) (l.map PyData.bool) := fun l => by
    induction l with
    | nil => exact .nil
    | cons b l ih => exact .cons (.bl b) ih
  refine ⟨_, rfl, .inl ⟨rfl, _, SqL.of ek⟩, p7, _, .bool true, (b12 j).map PyData.bool, j, .bool true, rfl, rfl, .lst (SqL.of ek) (dpb _), .bl true, sh j hj, by decide +kernel, hz, by decide +kernel, fun m z' hm ez => ?_, ?_⟩
  · rw [List.getElem?_map, hb' m hm] at ez
    cases ez
    decide +kernel
  have hat : atI ((terms12 ++ [("other" : Str)]).map V.str) ((j : Nat) : Int) = some (.str (errT r).1) := atI_nat (by rw [List.getElem?_map, List.getElem?_append_left (by show j < 12; exact hj), hnm]; rfl)
  have xd : ∀ {dd : Addr} {fs : List (Str × V)}, H' dd = some (.xd fs) → K5 dd = some (.xd fs) := fun h => s15 _ _ h
  unfold FldAt at hfl
  have fin1 : ∀ (u : V), vs = [u] → ∀ K6 l, Same K5 K6 → K6 l = some (.lst [u]) → ∀ p, K6 p = none → Q (.ref p) (upd K6 p (.tup [.str "error", .str (errT r).1, .ref l])) := fun u hu K6 l s6 e6 p hp => by
    refine hk p _ ((s15.trans s6).trans (Same.new hp)) ((s15.trans s6).free hp) ?_
    unfold ToldAt
    rw [hvs, hu]
    exact ⟨l, upd_same, by rw [upd_ne (ne_of_none e6 hp)]; exact e6⟩
  refine ⟨_, rfl, _, _, rfl, rfl, _, rfl, ite2 (fun c => ?_) (fun c => ?_)⟩
  · have c' : j < 4 := by
      have : ((j : Nat) : Int) < 4 := of_decide_eq_true c
      omega
    rw [if_pos c'] at hfl
    obtain ⟨v, dd, ed, hx, hno, rfl⟩ := hfl
    refine ⟨_, rfl, _, rfl, q5, _, _, _, rfl, rfl, SqL.of f5', hat, _, rfl, rfl, D, dd, _, v, hcls, EC.xf, hno, ed, xd hx, (by simp [List.lookup]), (by show 1 ≤ sizeLine; decide), ?_⟩
    intro l6 hl6
    generalize gK6 : L2.upd _ l6 _ = K6
    obtain ⟨t6, f6⟩ := newS hl6 gK6
    clear gK6
    exact ⟨(by show 3 ≤ sizeLine; decide), fin1 v rfl K6 l6 t6 f6⟩
  have c4 : ¬ j < 4 := fun z => c (decide_eq_true (by show ((j : Nat) : Int) < 4; omega))
  rw [if_neg c4] at hfl
  refine ⟨_, rfl, _, _, rfl, rfl, _, rfl, ite2 (fun c => ?_) (fun c => ?_)⟩
  · have c' : j < 7 := by
      have : ((j : Nat) : Int) < 7 := of_decide_eq_true c
      omega
    refine ⟨_, rfl, _, rfl, q5, _, _, _, rfl, rfl, SqL.of f5', hat, ?_⟩
    by_cases j4 : j = 4
    · subst j4
      rw [if_pos rfl] at hfl
      obtain ⟨v, dd, ed, hx, hno, rfl⟩ := hfl
      refine ⟨_, rfl, rfl, _, rfl, iteD rfl ?_⟩
      refine ⟨_, rfl, rfl, D, dd, _, v, hcls, EC.xf, hno, ed, xd hx, (by simp [List.lookup]), (by show 1 ≤ sizeLine; decide), ?_⟩
      intro l6 hl6
      generalize gK6 : L2.upd _ l6 _ = K6
      obtain ⟨t6, f6⟩ := newS hl6 gK6
      clear gK6
      exact ⟨(by show 3 ≤ sizeLine; decide), fin1 v rfl K6 l6 t6 f6⟩
    rw [if_neg j4] at hfl
    refine ⟨_, rfl, rfl, _, rfl, iteDN (fun z => j4 (by have := V.int.inj z; omega)) ?_⟩
    by_cases j5 : j = 5
    · subst j5
      rw [if_pos rfl] at hfl
      obtain ⟨r1, c1, dd, ed, hx, hno, hno2, rfl⟩ := hfl
      refine ⟨_, rfl, rfl, _, rfl, iteD rfl ?_⟩
      refine ⟨_, rfl, rfl, D, dd, _, r1, hcls, EC.xf, hno, ed, xd hx, (by simp [List.lookup, show (("row" : Str) == "word") = false from by decide]), _, rfl, rfl, D, dd, _, c1, hcls, EC.xf, hno2, ed, xd hx, (by simp [List.lookup]), (by show 2 ≤ sizeLine; decide), ?_⟩
      intro l6 hl6
      generalize gK6 : L2.upd _ l6 _ = K6
      obtain ⟨t6, f6⟩ := newS hl6 gK6
      clear gK6
      refine ⟨(by show 3 ≤ sizeLine; decide), fun p hp => ?_⟩
      refine hk p _ ((s15.trans t6).trans (Same.new hp)) ((s15.trans t6).free hp) ?_
      unfold ToldAt
      rw [hvs]
      exact ⟨l6, upd_same, by rw [upd_ne (ne_of_none f6 hp)]; exact f6⟩
    rw [if_neg j5] at hfl
    have j6 : j = 6 := by omega
    rw [if_pos j6] at hfl
    obtain ⟨v, dd, ed, hx, hno, rfl⟩ := hfl
    refine ⟨_, rfl, rfl, _, rfl, iteDN (fun z => j5 (by have := V.int.inj z; omega)) ?_⟩
    refine ⟨_, rfl, rfl, D, dd, _, v, hcls, EC.xf, hno, ed, xd hx, (by simp [List.lookup]), (by show 1 ≤ sizeLine; decide), ?_⟩
    intro l6 hl6
    generalize gK6 : L2.upd _ l6 _ = K6
    obtain ⟨t6, f6⟩ := newS hl6 gK6
    clear gK6
    exact ⟨(by show 3 ≤ sizeLine; decide), fin1 v rfl K6 l6 t6 f6⟩
  · have c7 : ¬ j < 7 := fun z => c (decide_eq_true (by show ((j : Nat) : Int) < 7; omega))
    rw [if_neg (by omega), if_neg (by omega), if_neg (by omega)] at hfl
    obtain ⟨_, rfl⟩ := hfl
    refine ⟨_, rfl, _, rfl, q5, _, _, _, rfl, rfl, SqL.of f5', hat, (by show 2 ≤ sizeLine; decide), fun p hp => ?_⟩
    refine hk p _ (s15.trans (Same.new hp)) (s15.free hp) ?_
    unfold ToldAt
    rw [hvs]
    exact upd_same
end

end MF
set_option Elab.async false
set_option linter.all false
set_option maxRecDepth 100000
set_option maxHeartbeats 2000000
set_option pp.maxSteps 600
namespace MF
open PySem PySem.Spec PyProof.Rows L2 StX
section
variable {P : Program} {w : World} {K : PySem.W.Frag} {mg : Str → Option Value} {base : Heap} {C_Book C_LivePost C_MailError C_InvalidOperation C_InvalidOrder C_UnknownOrder C_NotHolding C_DecodeError C_NotationError C_UnknownLetter C_InvalidAddress C_InvalidDay C_InvalidNumber C_Contradiction C_InvalidCount : Addr}
def LawSc (K : PySem.W.Frag) (B : Addr → Prop) (H : Hp) (sc : Addr) (S : Scn) : Prop := ∃ ol as ll rs, H sc = some (.tup [.int S.day, .ref ol, .ref ll]) ∧ H ol = some (.lst ((as : List Addr).map V.ref)) ∧ OrdsAt K H as S.os ∧ H ll = some (.lst ((rs : List Addr).map V.ref)) ∧ LRows H rs S.rows ∧ B ol ∧ B ll
theorem LawSc.imp {B B' : Addr → Prop} {H : Hp} {sc : Addr} {S : Scn} (h : LawSc K B H sc S) (i : ∀ a, B a → B' a) : LawSc K B' H sc S := let ⟨ol, as, ll, rs, a, b, c, d, e, f, g⟩ := h; ⟨ol, as, ll, rs, a, b, c, d, e, i _ f, i _ g⟩
theorem LawSc.keep {B : Addr → Prop} {H H' : Hp} {sc : Addr} {S : Scn} (h : LawSc K B H sc S) (kt : ∀ b u, H b = some u → tupl u = true → H' b = some u) (kl : ∀ b xs, H b = some (.lst xs) → B b → H' b = some (.lst xs)) : LawSc K B H' sc S :=
  let ⟨ol, as, ll, rs, a, b, c, d, e, f, g⟩ := h; ⟨ol, as, ll, rs, kt _ _ a rfl, kl _ _ b f, c.keepR kt, kl _ _ d g, e.keep kt, f, g⟩
theorem LawSc.same {B : Addr → Prop} {H H' : Hp} {sc : Addr} {S : Scn} (h : LawSc K B H sc S) (s : Same H H') : LawSc K B H' sc S := h.keep (fun b u e _ => s _ _ e) (fun b xs e _ => s _ _ e)
def DueAt (H : Hp) (v : V) : Rs → Prop
  | .num n => v = .int (n : Nat)
  | .nums ns => ∃ l, v = .ref l ∧ H l = some (.lst (ns.map V.int))
  | .day d => v = .int d
  | .err e => ∃ p, v = .ref p ∧ ToldAt H p e
def spAfter (K : PySem.W.Frag) : Sp := fun vs H Q _ => ∃ B sc op S d, vs = [.ref sc, .ref op] ∧ LawSc K B H sc S ∧ DeedAt K H op d ∧ d.Law ∧ Good S.os ∧ S.os.length < 30 ∧ S.rows.length < 1000 ∧
  ∀ H' t due sc', Same H H' → H t = none → H' t = some (.tup [due, .ref sc']) → DueAt H' due (actF S d).1 → LawSc K (fun a => B a ∨ H a = none) H' sc' (actF S d).2 → Q (.ref t) H'
def spAfterF (K : PySem.W.Frag) : Sp := fun vs H Q _ => ∃ B sc op S d, vs = [.ref sc, .ref op] ∧ LawSc K B H sc S ∧ DeedAt K H op d ∧ d.Law ∧ Good S.os ∧ S.os.length < 30 ∧ S.rows.length < 1000 ∧
  ∀ H' t due sc', Same H H' → H t = none → H' t = some (.tup [due, .ref sc']) → DueAt H' due (actF S d).1 → LawSc K (fun a => B a ∨ H a = none) H' sc' (actF S d).2 → (∀ ns, (actF S d).1 = .nums ns → ∀ l, due = .ref l → H l = none) → Q (.ref t) H'
theorem tyTupP {H : Hp} {a : Addr} {xs : List V} (h : SqT K H a xs) : TyX K H (.ref a) (.type "tuple") := by
  rcases h with (z | ⟨u, z⟩) | z
  · exact .base (.tup z)
  · exact .fTuple z
  · obtain ⟨o, its, n, e, c, _⟩ := z
    exact .kTuple e c
theorem cut_hiP (xs : List V) (c : Nat) : cutV xs none (some (c : Int)) = xs.take c := by
  unfold cutV
  rw [HT.sIx_nat, HT.sIx_none]
  simp
theorem cut_loP (xs : List V) {c : Nat} (h : c ≤ xs.length) : cutV xs (some (c : Int)) none = xs.drop c := by
  unfold cutV
  rw [HT.sIx_nat, HT.sIx_none, Nat.min_eq_left h]
  exact List.take_of_length_le (by rw [List.length_drop]; omega)
theorem set_cut {α : Type} {b : α} : ∀ {l : List α} {n : Nat}, n < l.length → l.set n b = l.take n ++ [b] ++ l.drop (n + 1)
  | a :: l, 0, _ => rfl
  | a :: l, n + 1, h => by
    rw [List.set_cons_succ, set_cut (l := l) (n := n) (by simpa using h)]
    rfl
theorem five_in : ∀ z ∈ five, inV (.str z) [.str "a", .str "b", .str "c", .str "dd", .str "e"] = isAddrB (.str z) := by decide +kernel
theorem ok_afterF (T : Top K mg C_Book C_LivePost C_MailError C_InvalidOperation C_InvalidOrder C_UnknownOrder C_NotHolding C_DecodeError C_NotationError C_UnknownLetter C_InvalidAddress C_InvalidDay C_InvalidNumber C_Contradiction C_InvalidCount) : GFn P w K mg base CX0 3 "_law_after" (spAfterF K) := by
  have G__law_sent : GFn P w K mg base CX0 2 "_law_sent" (spSentL K) := ok_sentL T
  have G__law_fits : GFn P w K mg base CX0 1 "_law_fits" (spFits K) := ok_fits T
  refine T.d__law_after.fn fun f fd F => F.ok sc__law_after (fun vs H Q E h => ?_) (fun cdv A outer s H vs Q E hr h => ?_)
  · obtain ⟨B, sc, op, S, d, rfl, _⟩ := h
    rfl
  · obtain ⟨B, sc, op, S, d, rfl, L, ⟨y, hq, ya⟩, dl, g, g30, lr, kk⟩ := h
    refine ⟨_, (pss_cons (ps_asg (pv 0) (pg_tup rfl (pgs_cons (pg_name (i := 2) sc__law_after.nd rfl (Or.inr rfl)) (pgs_cons (pg_name (i := 3) sc__law_after.nd rfl (Or.inr rfl)) (pgs_cons (pg_name (i := 4) sc__law_after.nd rfl (Or.inr rfl)) pgs_nil)))))
  (pss_cons (ps_asg (pv 1) (pg_tup rfl (pgs_cons (pg_name (i := 5) sc__law_after.nd rfl (Or.inl rfl)) (pgs_cons (pg_name (i := 6) sc__law_after.nd rfl (Or.inr rfl)) pgs_nil))))
  (pss_cons (ps_if (pt_cmpR op_eq (pv 5) pe_str (nomark _))
  (pss_cons (ps_if (pt_cmpR op_notIn_seq (pv 6) (pe_tup (pa_cons pe_str (pa_cons pe_str (pa_cons pe_str (pa_cons pe_str (pa_cons pe_str pa_nil)))))) rfl)
  (pss_one (ps_ret (pe_tup (pa_cons (pe_tup (pa_cons pe_str (pa_cons pe_str pa_nil))) (pa_cons (pv 0) pa_nil)))))
  pss_nil)
  (pss_one (ps_ret (pe_tup (pa_cons (pe_callB call_len_seq (by rfl) T.b_len (by decide +kernel) (pa_cons (pv 4) pa_nil)) (pa_cons (pe_tup (pa_cons (pv 2) (pa_cons (pv 3) (pa_cons (pe_op op_cat (pv 4) (pe_lst (pa_cons (pe_g G__law_sent (hr.mono (by decide)) (pa_cons (pv 3) (pa_cons (pv 6) (pa_cons (pv 2) (pa_cons (pv 2) pa_nil))))) pa_nil))) pa_nil)))) pa_nil))))))
  pss_nil)
  (pss_cons (ps_if (pt_cmpR op_eq (pv 5) pe_str (nomark _))
  (pss_cons (ps_if (PW.pt (pw_or (pt_not (pt_val (pe_callB call_isi (by rfl) T.b_isinstance (by decide +kernel) (pa_cons (pv 6) (pa_cons (pe_bltn (v := .ty "int") (by rfl) T.b_int (by decide +kernel) rfl) pa_nil))))) (pw_or (pt_val (pe_callB call_isi (by rfl) T.b_isinstance (by decide +kernel) (pa_cons (pv 6) (pa_cons (pe_bltn (v := .ty "bool") (by rfl) T.b_bool (by decide +kernel) rfl) pa_nil)))) (pw_or1 (pt_not (pt_chain op_le op_le pe_int (pv 6) pe_int))))))
  (pss_one (ps_ret (pe_tup (pa_cons (pe_tup (pa_cons pe_str (pa_cons pe_str pa_nil))) (pa_cons (pv 0) pa_nil)))))
  pss_nil)
  (C8.pss_cut (ps_set (i := 7) sc__law_after.nd rfl (Or.inr rfl) (pe_lc (own := [("_law_row", 14)]) (g := (gName 14)) (by rfl) sc__law_after.nd (pi_list (pv 4)) (blkOk_by (own := [("_law_row", 14)]) (N := ["_law_scene", "_law_operation", "_law_day", "_law_orders_here", "_law_letters", "_law_word", "_law_one", "_law_later", "_law_new", "_law_source", "_law_target", "_law_first", "_law_last", "_law_way", "_law_row", "_law_k", "_law_arrival"]) (sc := defScope s__law_after) (by decide +kernel)) (fun _ _ _ _ _ => (pg_name (i := 14) sc__law_after.nd rfl (Or.inl rfl))) (fun _ _ _ _ _ => pts_nil) (fun _ _ _ _ _ => (pe_ifExp (pt_val (pe_ix (ix_tupK (K := K)) (pv 14) pe_int (fun _ _ => rfl))) (pv 14) (pe_g G__law_sent (hr.mono (by decide)) (pa_cons (pv 3) (pa_cons (pe_ix (ix_tupK (K := K)) (pv 14) pe_int (fun _ _ => rfl)) (pa_cons (pe_ix (ix_tupK (K := K)) (pv 14) pe_int (fun _ _ => rfl)) (pa_cons (pe_op op_add (pv 2) (pv 6)) pa_nil)))))))))
  (C8.pss_cut (ps_set (i := 8) sc__law_after.nd rfl (Or.inl rfl) (pe_callB cr_sortedPO (by rfl) T.b_sorted (by decide +kernel) (pa_cons (pe_lc (own := [("_law_k", 15)]) (g := (gName 15)) (by rfl) sc__law_after.nd (pi_range1 (by rfl) T.b_range (pa_cons (pe_callB call_len_seq (by rfl) T.b_len (by decide +kernel) (pa_cons (pv 4) pa_nil)) pa_nil)) (blkOk_by (own := [("_law_k", 15)]) (N := ["_law_scene", "_law_operation", "_law_day", "_law_orders_here", "_law_letters", "_law_word", "_law_one", "_law_later", "_law_new", "_law_source", "_law_target", "_law_first", "_law_last", "_law_way", "_law_row", "_law_k", "_law_arrival"]) (sc := defScope s__law_after) (by decide +kernel)) (fun _ _ _ _ _ => (pg_name (i := 15) sc__law_after.nd rfl (Or.inl rfl))) (fun _ _ _ _ _ => (pts_one (PW.pt (pw_and (pt_val (pe_ix (ix_tupK (K := K)) (pe_ix (ix_listK (K := K)) (pv 7) (pv 15) (fun _ _ => rfl)) pe_int (fun _ _ => rfl))) (pw_and1 (pt_not (pt_val (pe_ix (ix_tupK (K := K)) (pe_ix (ix_listK (K := K)) (pv 4) (pv 15) (fun _ _ => rfl)) pe_int (fun _ _ => rfl))))))))) (fun _ _ _ _ _ => (pe_tup (pa_cons (pe_ix (ix_tupK (K := K)) (pe_ix (ix_listK (K := K)) (pv 7) (pv 15) (fun _ _ => rfl)) pe_int (fun _ _ => rfl)) (pa_cons (pv 15) pa_nil))))) pa_nil)))
  (pss_one (ps_ret (pe_tup (pa_cons (pe_lc (own := [("_law_arrival", 16), ("_law_k", 15)]) (g := (gTup K 2 (gCons (gName 16) (gCons (gName 15) gNil)))) (by rfl) sc__law_after.nd (pi_list (pv 8)) (blkOk_by (own := [("_law_arrival", 16), ("_law_k", 15)]) (N := ["_law_scene", "_law_operation", "_law_day", "_law_orders_here", "_law_letters", "_law_word", "_law_one", "_law_later", "_law_new", "_law_source", "_law_target", "_law_first", "_law_last", "_law_way", "_law_row", "_law_k", "_law_arrival"]) (sc := defScope s__law_after) (by decide +kernel)) (fun _ _ _ _ _ => (pg_tup rfl (pgs_cons (pg_name (i := 16) sc__law_after.nd rfl (Or.inl rfl)) (pgs_cons (pg_name (i := 15) sc__law_after.nd rfl (Or.inl rfl)) pgs_nil)))) (fun _ _ _ _ _ => pts_nil) (fun _ _ _ _ _ => (pv 15))) (pa_cons (pe_tup (pa_cons (pe_op op_add (pv 2) (pv 6)) (pa_cons (pv 3) (pa_cons (pv 7) pa_nil)))) pa_nil))))))))
  pss_nil)
  (pss_cons (ps_if (pt_cmpR op_eq (pv 5) pe_str (nomark _))
  (pss_cons (ps_if (PW.pt (pw_or (pt_not (pt_val (pe_callB call_isi (by rfl) T.b_isinstance (by decide +kernel) (pa_cons (pv 6) (pa_cons (pe_bltn (v := .ty "tuple") (by rfl) T.b_tuple (by decide +kernel) rfl) pa_nil))))) (pw_or (pt_cmpR op_ne (pe_callB call_len_seq (by rfl) T.b_len (by decide +kernel) (pa_cons (pv 6) pa_nil)) pe_int (nomark _)) (pw_or (pt_not (pt_chain op_le op_le pe_int (pe_ix ix_tup (pv 6) pe_int (fun _ _ => rfl)) pe_int)) (pw_or1 (pt_not (pt_val (pe_g G__law_fits (hr.mono (by decide)) (pa_cons (pv 3) (pa_cons (pv 6) pa_nil))))))))))
  (pss_one (ps_ret (pe_tup (pa_cons (pe_tup (pa_cons pe_str (pa_cons pe_str (pa_cons (pe_lst (pa_cons (pe_callB call_len_seq (by rfl) T.b_len (by decide +kernel) (pa_cons (pv 3) pa_nil)) pa_nil)) pa_nil)))) (pa_cons (pv 0) pa_nil)))))
  pss_nil)
  (pss_one (ps_ret (pe_tup (pa_cons (pe_callB call_len_seq (by rfl) T.b_len (by decide +kernel) (pa_cons (pv 3) pa_nil)) (pa_cons (pe_tup (pa_cons (pv 2) (pa_cons (pe_op op_cat (pv 3) (pe_lst (pa_cons (pv 6) pa_nil))) (pa_cons (pv 4) pa_nil)))) pa_nil))))))
  pss_nil)
  (pss_cons (ps_if (PW.pt (pw_or (pt_not (pt_val (pe_callB call_isi (by rfl) T.b_isinstance (by decide +kernel) (pa_cons (pv 6) (pa_cons (pe_bltn (v := .ty "int") (by rfl) T.b_int (by decide +kernel) rfl) pa_nil))))) (pw_or (pt_val (pe_callB call_isi (by rfl) T.b_isinstance (by decide +kernel) (pa_cons (pv 6) (pa_cons (pe_bltn (v := .ty "bool") (by rfl) T.b_bool (by decide +kernel) rfl) pa_nil)))) (pw_or1 (pt_not (pt_chain op_le op_lt pe_int (pv 6) (pe_callB call_len_seq (by rfl) T.b_len (by decide +kernel) (pa_cons (pv 3) pa_nil))))))))
  (pss_one (ps_ret (pe_tup (pa_cons (pe_tup (pa_cons pe_str (pa_cons pe_str (pa_cons (pe_lst (pa_cons (pv 6) pa_nil)) pa_nil)))) (pa_cons (pv 0) pa_nil)))))
  pss_nil)
  (pss_cons (ps_asg (pe_ix ix_list (pv 3) (pv 6) (fun _ _ => rfl)) (pg_tup rfl (pgs_cons (pg_name (i := 9) sc__law_after.nd rfl (Or.inl rfl)) (pgs_cons (pg_name (i := 10) sc__law_after.nd rfl (Or.inl rfl)) (pgs_cons (pg_name (i := 11) sc__law_after.nd rfl (Or.inl rfl)) (pgs_cons (pg_name (i := 12) sc__law_after.nd rfl (Or.inl rfl)) (pgs_cons (pg_name (i := 13) sc__law_after.nd rfl (Or.inl rfl)) pgs_nil)))))))
  (pss_cons (ps_if (pt_not (pt_chain op_lt op_le (pv 11) (pv 2) (pv 12)))
  (pss_one (ps_ret (pe_tup (pa_cons (pe_tup (pa_cons pe_str (pa_cons pe_str (pa_cons (pe_lst (pa_cons (pv 6) pa_nil)) pa_nil)))) (pa_cons (pv 0) pa_nil)))))
  pss_nil)
  (C8.pss_cut (ps_set (i := 7) sc__law_after.nd rfl (Or.inr rfl) (pe_op op_cat (pe_op op_cat (pe_slice sl_list (pv 3) po_none (po_some (pv 6))) (pe_lst (pa_cons (pe_tup (pa_cons (pv 9) (pa_cons (pv 10) (pa_cons (pv 11) (pa_cons (pe_op op_sub (pv 2) pe_int) (pa_cons (pv 13) pa_nil)))))) pa_nil))) (pe_slice sl_list (pv 3) (po_some (pe_op op_add (pv 6) pe_int)) po_none)))
  (pss_one (ps_ret (pe_tup (pa_cons (pv 12) (pa_cons (pe_tup (pa_cons (pv 2) (pa_cons (pv 7) (pa_cons (pv 4) pa_nil)))) pa_nil)))))))))))))), ?_⟩
    obtain ⟨ol, as, ll, rs, e0, e1, O1, e2, R1, Bo, Bl⟩ := id L
    have lo := PySem.Paired.length O1
    have lrs := PySem.Paired.length R1
    let tl (v7 v8 v9 v10 v11 v12 v13 v14 v15 v16 : Option V) : L2.St := [some (.ref sc), some (.ref op), some (.int S.day), some (.ref ol), some (.ref ll), some (.str d.word), some y, v7, v8, v9, v10, v11, v12, v13, v14, v15, v16]
    refine ⟨_, rfl, sc, _, rfl, .inl (.inl e0), rfl, _, _, rfl, _, _, rfl, _, _, rfl, rfl, ?_⟩
    refine ⟨_, rfl, op, _, rfl, .inl (.inl hq), rfl, _, _, rfl, _, _, rfl, rfl, ?_⟩
    have err2 : ∀ {H1 : Hp} {e : Err} (nm : Str), Same H H1 → errT e = (nm, []) → actF S d = (.err e, S) → ∀ t0, H1 t0 = none → ∀ H2 t1 H3, Same H1 H2 → H2 t0 = some (.tup [.str "error", .str nm]) → H2 t1 = none → Same H2 H3 → H3 t1 = some (.tup [.ref t0, .ref sc]) → Q (.ref t1) H3 := fun {H1 e} nm s1 en ea t0 h0 H2 t1 H3 s2 c0 h1 s3 c1 => by
      have s13 := (s1.trans s2).trans s3
      refine kk H3 t1 _ sc s13 ((s1.trans s2).free h1) c1 ?_ ?_ (fun ns z => by rw [ea] at z; cases z)
      · rw [ea]
        refine ⟨t0, rfl, ?_⟩
        unfold ToldAt
        rw [en]
        exact s3 _ _ c0
      · rw [ea]
        exact (L.same s13).imp fun a z => .inl z
    have err3 : ∀ {e : Err} {v : V} (nm : Str), errT e = (nm, [v]) → actF S d = (.err e, S) → ∀ H1 lx H2 t0 H3 t1 H4, Same H H1 → H1 lx = some (.lst [v]) → Same H1 H2 → H2 t0 = some (.tup [.str "error", .str nm, .ref lx]) → Same H2 H3 → H3 t1 = none → Same H3 H4 → H4 t1 = some (.tup [.ref t0, .ref sc]) → Q (.ref t1) H4 := fun {e v} nm en ea H1 lx H2 t0 H3 t1 H4 s1 cl s2 c0 s3 h1 s4 c1 => by
      have s03 := (s1.trans s2).trans s3
      have s04 := s03.trans s4
      refine kk H4 t1 _ sc s04 (s03.free h1) c1 ?_ ?_ (fun ns z => by rw [ea] at z; cases z)
      · rw [ea]
        refine ⟨t0, rfl, ?_⟩
        unfold ToldAt
        rw [en]
        exact ⟨lx, s4 _ _ (s3 _ _ c0), s4 _ _ (s3 _ _ (s2 _ _ cl))⟩
      · rw [ea]
        exact (L.same s04).imp fun a z => .inl z
    cases d with
    | post z =>
      have ez : y = z := ya
      subst ez
      refine ⟨_, rfl, rfl, _, rfl, iteD rfl ?_⟩
      refine ⟨_, rfl, (by show 5 ≤ sizeLine; decide), ?_⟩
      intro q1 h1
      generalize gH1 : L2.upd _ q1 _ = H1
      obtain ⟨s1, c1⟩ := newS h1 gH1
      clear gH1
      obtain ⟨fy, iy⟩ : flatV y = true ∧ inV y [.str "a", .str "b", .str "c", .str "dd", .str "e"] = isAddrB y := by
        rcases dl with ⟨z, hz, rfl⟩ | rfl | rfl | rfl | rfl
        · exact ⟨rfl, five_in z hz⟩
        · exact ⟨rfl, by decide +kernel⟩
        · exact ⟨rfl, by decide +kernel⟩
        · exact ⟨rfl, by decide +kernel⟩
        · exact ⟨rfl, by decide +kernel⟩
      refine ⟨q1, _, rfl, .inr (.inl (.inl c1)), fy, rfl, _, rfl, ?_⟩
      rw [if_pos rfl, iy]
      cases ay : isAddrB y with
      | false =>
        refine iteT ?_
        refine ⟨(by show 2 ≤ sizeLine; decide), ?_⟩
        intro t0 h0
        generalize gH2 : L2.upd _ t0 _ = H2
        obtain ⟨s2, z2⟩ := newS h0 gH2
        clear gH2
        refine ⟨_, rfl, (by show 2 ≤ sizeLine; decide), ?_⟩
        intro t1 h1
        generalize gH3 : L2.upd _ t1 _ = H3
        obtain ⟨s3, z3⟩ := newS h1 gH3
        clear gH3
        exact err2 _ s1 rfl (actF_post0 ay) t0 h0 H2 t1 H3 s2 z2 h1 s3 z3
      | true =>
        refine iteF ?_
        obtain ⟨x, rfl⟩ : ∃ x, y = .str x := ⟨_, isAddrB_str ay⟩
        have L1 := L.same s1
        refine ⟨_, rfl, ll, _, rfl, .inl (SqL.of (s1 _ _ e2)), ?_⟩
        refine ⟨_, rfl, _, rfl, _, rfl, _, rfl, _, rfl, _, rfl, _, rfl, ol, as, S.os, x, S.day, S.day, rfl, SqL.of (s1 _ _ e1), O1.mono s1, g, fun H2 q z s2 fq ez eq => ?_⟩
        refine ⟨(by show 1 ≤ sizeLine; decide), ?_⟩
        intro l1 hl1
        generalize gH3 : L2.upd _ l1 _ = H3
        obtain ⟨s3, c3⟩ := newS hl1 gH3
        clear gH3
        have s13 := s1.trans (s2.trans s3)
        refine ⟨ll, l1, _, _, rfl, rfl, s13 _ _ e2, c3, by rw [List.length_map, sizeLine_eq]; show rs.length + 1 ≤ _; omega, ?_⟩
        intro l2 hl2
        generalize gH4 : L2.upd _ l2 _ = H4
        obtain ⟨s4, c4⟩ := newS hl2 gH4
        clear gH4
        have s14 := s13.trans s4
        refine ⟨(by show 3 ≤ sizeLine; decide), ?_⟩
        intro sc' hsc
        generalize gH5 : L2.upd _ sc' _ = H5
        obtain ⟨s5, c5⟩ := newS hsc gH5
        clear gH5
        refine ⟨(by show 2 ≤ sizeLine; decide), ?_⟩
        intro t ht
        generalize gH6 : L2.upd _ t _ = H6
        obtain ⟨s6, c6⟩ := newS ht gH6
        clear gH6
        have s16 := (s14.trans s5).trans s6
        refine kk H6 t _ sc' s16 (((s14.trans s5).free ht)) c6 ?_ ?_ (fun ns z => by rw [actF_post1 ay] at z; cases z)
        · rw [actF_post1 ay]
          show V.int _ = V.int _
          rw [List.length_map, lrs]
        · rw [actF_post1 ay]
          refine ⟨ol, as, l2, rs ++ [q], s6 _ _ c5, s16 _ _ e1, O1.mono s16, ?_, ?_, .inl Bo, .inr (s13.free hl2)⟩
          · rw [s6 _ _ (s5 _ _ c4), List.map_append]
            rfl
          · refine Paired.append (R1.keep fun b u e _ => s16 _ _ e) (.cons ?_ .nil)
            rw [← show z = sentF S.os S.day (strV (.str x), S.day) from ez]
            exact s6 _ _ (s5 _ _ (s4 _ _ (s3 _ _ eq)))
    | pass v =>
      refine ⟨_, rfl, rfl, _, rfl, iteDN (by intro z; cases z) ?_⟩
      refine ⟨_, rfl, rfl, _, rfl, iteD rfl ?_⟩
      have ez : y = v := ya
      subst ez
      cases y with
      | int i =>
        refine ⟨_, rfl, _, _, _, _, true, rfl, .ty "int", ty_flat (flatI_seq dl), kt_int_int, _, rfl, iteF ?_⟩
        refine ⟨_, rfl, _, _, _, _, false, rfl, .ty "bool", ty_flat (flatI_seq dl), kt_int_bool, _, rfl, iteF ?_⟩
        refine ⟨_, rfl, _, _, rfl, rfl, _, rfl, ?_⟩
        by_cases c1 : 0 ≤ i
        · refine iteD c1 ?_
          refine ⟨_, _, rfl, rfl, _, rfl, ?_⟩
          by_cases c2 : i ≤ 400
          · refine iteND c2 ?_
            have hi : isIntB (.int i) 0 400 = true := by simp [isIntB, c1, c2]
            rw [actF_pass1 hi] at kk
            clear err2 err3
            have eI : intV (.int i) = i := rfl
            rw [eI] at kk
            generalize eR : S.rows.map (rowF S.os (S.day + i)) = rows' at kk
            have lR : rows'.length = S.rows.length := by rw [← eR, List.length_map]
            refine ⟨fun σ' H' => Same H H' ∧ ∃ lt qs, H' lt = some (.lst ((qs : List Addr).map V.ref)) ∧ H lt = none ∧ LRows H' qs rows' ∧ ∃ v8 v9 v10 v11 v12 v13 v14 v15 v16, σ' = tl (some (.ref lt)) v8 v9 v10 v11 v12 v13 v14 v15 v16, ?_, ?_⟩
            · refine ⟨_, rfl, ll, rfl, ⟨_, SqL.of e2⟩, fun D hD => ?_⟩
              refine lc_it (walk_list (xs := rs.map V.ref)) (fun i H' => Same H H' ∧ ∃ qs : List Addr, H' D = some (.lst (qs.map V.ref)) ∧ LRows H' qs (rows'.take i)) ⟨Same.new hD, [], upd_same, .nil⟩ (fun i H' _ z => SqL.of (z.1 _ _ e2)) ?_ ?_
              · rintro j y Hx H2 hj ⟨s2, qs, c2', R2⟩ ⟨rfl, ey⟩
                rw [List.length_map] at hj
                obtain ⟨r, er⟩ : ∃ r, rs[j]? = some r := ⟨rs[j], by simp [hj]⟩
                rw [List.getElem?_map, er] at ey
                cases ey
                obtain ⟨x, ex, hx⟩ := Paired.get R1 er
                have ex' : rows'[j]? = some (rowF S.os (S.day + i) x) := by rw [← eR, List.getElem?_map, ex]; rfl
                have lq := PySem.Paired.length R2
                rw [List.length_take] at lq
                have push : ∀ {H3 : Hp} {q : Addr}, Same H2 H3 → H3 q = some (.tup [.str (rowF S.os (S.day + i) x).1, .int (rowF S.os (S.day + i) x).2.1, .bl (rowF S.os (S.day + i) x).2.2]) → ∃ acc, H3 D = some (.lst acc) ∧ acc.length < sizeLine ∧ Same H (upd H3 D (.lst (acc ++ [V.ref q]))) ∧ ∃ qs : List Addr, (upd H3 D (.lst (acc ++ [V.ref q]))) D = some (.lst (qs.map V.ref)) ∧ LRows (upd H3 D (.lst (acc ++ [V.ref q]))) qs (rows'.take (j + 1)) := fun {H3 q} s3 eq => by
                  have c3 := s3 _ _ c2'
                  have up : ∀ b u, H3 b = some u → tupl u = true → upd H3 D (.lst (qs.map V.ref ++ [.ref q])) b = some u := fun b u e y => by
                    rw [upd_ne fun w => by rw [w, c3] at e; cases e; cases y]
                    exact e
                  refine ⟨_, c3, by rw [List.length_map, sizeLine_eq]; omega, fun b u e => ?_, qs ++ [q], by rw [upd_same, List.map_append]; rfl, ?_⟩
                  · rw [upd_ne (ne_of_none e hD)]
                    exact s3 _ _ (s2 _ _ e)
                  · rw [List.take_add_one, ex']
                    exact Paired.append ((R2.keep fun b u e _ => s3 _ _ e).keep up) (.cons (up _ _ eq rfl) .nil)
                have hx2 := s2 _ _ hx
                refine ⟨rfl, yesT (iteT ?_)⟩
                refine ⟨_, rfl, r, _, _, _, rfl, rfl, .inl (.inl hx2), rfl, _, rfl, ?_⟩
                cases cx : x.2.2 with
                | true =>
                  refine iteT ⟨_, rfl, push (Same.refl _) ?_⟩
                  have : rowF S.os (S.day + i) x = x := by unfold rowF; rw [if_pos cx]
                  rw [this]
                  exact hx2
                | false =>
                  refine iteF ?_
                  refine ⟨_, rfl, _, rfl, r, _, _, _, rfl, rfl, .inl (.inl hx2), rfl, _, rfl, r, _, _, _, rfl, rfl, .inl (.inl hx2), rfl, _, rfl, _, rfl, _, _, rfl, rfl, ol, as, S.os, x.1, x.2.1, S.day + i, rfl, SqL.of (s2 _ _ e1), O1.mono s2, g, fun H3 q z s3 fq ez eq => push s3 ?_⟩
                  have : rowF S.os (S.day + i) x = z := by unfold rowF; rw [if_neg (by rw [cx]; decide)]; exact ez.symm
                  rw [this]
                  exact eq
              · rintro H2 ⟨s2, qs, c2', R2⟩
                rw [List.length_map, lrs, ← lR, List.take_length] at R2
                exact ⟨s2, D, qs, c2', hD, R2, _, _, _, _, _, _, _, _, _, rfl⟩
            rintro σ H1 ⟨s1, lt, qs, e3, flt, R3, w8, w9, w10, w11, w12, w13, w14, w15, w16, rfl⟩
            have lq := PySem.Paired.length R3
            refine ⟨fun σ' H' => Same H1 H' ∧ ∃ nl zs, H' nl = some (.lst ((zs : List Addr).map V.ref)) ∧ PrAt H' zs (sort2 (newP S.rows rows' S.rows.length)) ∧ zs.length < 1000 ∧ ∃ v9 v10 v11 v12 v13 v14 v15 v16, σ' = tl (some (.ref lt)) (some (.ref nl)) v9 v10 v11 v12 v13 v14 v15 v16, ?_, ?_⟩
            · refine ⟨_, rfl, ll, _, rfl, .inl (SqL.of (s1 _ _ e2)), _, rfl, by rw [List.length_map]; omega, by rw [List.length_map]; omega, fun D hD => ?_⟩
              refine lc_it walk_range (fun j H' => Same H1 H' ∧ ∃ zs : List Addr, H' D = some (.lst (zs.map V.ref)) ∧ PrAt H' zs (newP S.rows rows' j)) ⟨Same.new hD, [], upd_same, .nil⟩ (fun _ _ _ _ => trivial) ?_ ?_
              · rintro j y Hx H2 hj ⟨s2, zs, c2', Z2⟩ ⟨rfl, ey⟩
                replace ey : y = .int (j : Nat) := by
                  rw [ey]
                  show V.int (0 + (j : Nat)) = _
                  rw [Int.zero_add]
                subst ey
                have hj' : j < rs.length := by
                  have : j < (((rs.map V.ref).length : Nat) : Int).toNat := hj
                  rw [List.length_map] at this
                  omega
                obtain ⟨r0, er0⟩ : ∃ r0, rs[j]? = some r0 := ⟨rs[j], List.getElem?_eq_getElem hj'⟩
                obtain ⟨x, ex, hx⟩ := Paired.get R1 er0
                obtain ⟨r, er⟩ : ∃ r, qs[j]? = some r := ⟨qs[j]'(by omega), List.getElem?_eq_getElem (by omega)⟩
                obtain ⟨x', ex', hx'⟩ := Paired.get R3 er
                have s02 := s1.trans s2
                have nr := newP_step (rows := S.rows) (rows' := rows') ex ex'
                have lz : zs.length ≤ j := by
                  have h1 := PySem.Paired.length Z2
                  have h2 := newP_len S.rows rows' j
                  omega
                have no : (x'.2.2 && !x.2.2) = false → Same H1 H2 ∧ ∃ zs : List Addr, H2 D = some (.lst (zs.map V.ref)) ∧ PrAt H2 zs (newP S.rows rows' (j + 1)) := fun cc => ⟨s2, zs, c2', by rw [nr, if_neg (by rw [cc]; decide), List.append_nil]; exact Z2⟩
                have hr := s2 _ _ hx'
                have hr0 := s02 _ _ hx
                have at7 : (qs.map V.ref)[j]? = some (V.ref r) := by rw [List.getElem?_map, er]; rfl
                have at4 : (rs.map V.ref)[j]? = some (V.ref r0) := by rw [List.getElem?_map, er0]; rfl
                have c37 := s2 _ _ e3
                have c32 := s02 _ _ e2
                refine ⟨rfl, ?_⟩
                refine ⟨_, rfl, _, rfl, lt, _, _, _, rfl, rfl, SqL.of c37, atI_nat at7, r, _, _, _, rfl, rfl, .inl (.inl hr), rfl, _, rfl, ?_⟩
                cases d1 : x'.2.2 with
                | false => exact iteF (no (by rw [d1]; rfl))
                | true =>
                  refine iteT ?_
                  refine ⟨_, rfl, _, rfl, ll, _, _, _, rfl, rfl, SqL.of c32, atI_nat at4, r0, _, _, _, rfl, rfl, .inl (.inl hr0), rfl, _, rfl, ?_⟩
                  cases d2 : x.2.2 with
                  | true => exact no (by rw [d1, d2]; rfl)
                  | false =>
                    refine ⟨_, rfl, _, rfl, lt, _, _, _, rfl, rfl, SqL.of c37, atI_nat at7, r, _, _, _, rfl, rfl, .inl (.inl hr), rfl, _, rfl, (by show 2 ≤ sizeLine; decide), fun t ht => ?_⟩
                    have nDt : D ≠ t := ne_of_none c2' ht
                    have up : ∀ b u, H2 b = some u → b ≠ D → (upd (upd H2 t (.tup [.int x'.2.1, .int (j : Nat)])) D (.lst (zs.map V.ref ++ [.ref t]))) b = some u := fun b u e nb => by
                      rw [upd_ne nb, upd_ne (ne_of_none e ht)]
                      exact e
                    refine ⟨_, by rw [upd_ne nDt]; exact c2', by rw [List.length_map, sizeLine_eq]; omega, fun b u e => up _ _ (s2 _ _ e) (ne_of_none e hD), zs ++ [t], by rw [upd_same, List.map_append]; rfl, ?_⟩
                    rw [nr, if_pos (by rw [d1, d2]; rfl)]
                    exact Paired.append (Z2.kt fun b u e y => up _ _ e fun w => by rw [w, c2'] at e; cases e; cases y) (.cons (by rw [upd_ne nDt.symm, upd_same]) .nil)
              · rintro H2 ⟨s2, zs, c2', Z2⟩
                rw [show (((rs.map V.ref).length : Nat) : Int).toNat = S.rows.length by rw [List.length_map, lrs]; omega] at Z2
                refine ⟨D, _, prK H2, rfl, SqL.of c2', Z2.mem, fun ys fl srt stb hfl => ?_⟩
                have km := Z2.mem
                obtain ⟨zs', e', Z'⟩ := prs_back (H := H2) (xs := zs.map V.ref) (ys := ys) fun y hy => km y (stb.perm.mem_iff.mp hy)
                have s2' : Srt2 (ys.map (prK H2)) (newP S.rows rows' S.rows.length) := by
                  refine ⟨SrtO.srtd_map srt, ?_⟩
                  have := SrtO.Stb.map ltI_swo (prK H2) stb
                  rw [prK_map Z2] at this
                  exact this
                rw [← sort2_of s2'] at Z'
                rw [e']
                have s3 := Same.new (o := .lst (zs'.map V.ref)) hfl
                have lz' : zs'.length < 1000 := by
                  have h1 := stb.perm.length_eq
                  rw [e', List.length_map, List.length_map] at h1
                  have h2 := PySem.Paired.length Z2
                  have h3 := newP_len S.rows rows' S.rows.length
                  omega
                exact ⟨s2.trans s3, fl, zs', upd_same, Z'.kt fun b u e _ => s3 _ _ e, lz', _, _, _, _, _, _, _, _, rfl⟩
            rintro σ H2 ⟨s2, nl, zs, efl, Z2, lz, w9, w10, w11, w12, w13, w14, w15, w16, rfl⟩
            have s02 := s1.trans s2
            refine ⟨_, rfl, nl, rfl, ⟨_, SqL.of efl⟩, fun D hD => ?_⟩
            refine lc_it (walk_list (xs := zs.map V.ref)) (fun j H' => Same H2 H' ∧ H' D = some (.lst ((((sort2 (newP S.rows rows' S.rows.length)).map (·.2)).take j).map V.int))) ⟨Same.new hD, upd_same⟩ (fun j H' _ ⟨sa, _⟩ => SqL.of (sa _ _ efl)) ?_ ?_
            · rintro j y Hx H7 hj ⟨s7, e7⟩ ⟨rfl, ey⟩
              rw [List.length_map] at hj
              obtain ⟨a, ez⟩ : ∃ a, zs[j]? = some a := ⟨zs[j], by simp [hj]⟩
              rw [List.getElem?_map, ez] at ey
              cases ey
              obtain ⟨z, ez', ha⟩ := Paired.get Z2 ez
              refine ⟨a, _, rfl, .inl (.inl (s7 _ _ ha)), rfl, _, _, rfl, _, _, rfl, rfl, rfl, yesT (iteT ?_)⟩
              refine ⟨_, rfl, _, e7, ?_, fun b u e => ?_, ?_⟩
              · rw [List.length_map, List.length_take, sizeLine_eq]
                omega
              · rw [upd_ne (ne_of_none e hD)]
                exact s7 _ _ e
              · have : ((sort2 (newP S.rows rows' S.rows.length)).map (·.2))[j]? = some z.2 := by rw [List.getElem?_map, ez']; rfl
                rw [upd_same, List.take_add_one, this, List.map_append]
                rfl
            · rintro H7 ⟨s7, e7⟩
              rw [List.take_of_length_le (by rw [List.length_map, List.length_map]; exact Nat.le_of_eq (PySem.Paired.length Z2).symm)] at e7
              refine ⟨_, rfl, _, rfl, _, _, rfl, rfl, _, rfl, _, rfl, (by show 3 ≤ sizeLine; decide), ?_⟩
              intro sc' hsc
              generalize gH8 : L2.upd _ sc' _ = H8
              obtain ⟨s8, c8⟩ := newS hsc gH8
              clear gH8
              refine ⟨(by show 2 ≤ sizeLine; decide), ?_⟩
              intro t ht
              generalize gH9 : L2.upd _ t _ = H9
              obtain ⟨s9, c9⟩ := newS ht gH9
              clear gH9
              have s27 := s02.trans s7
              have s28 := s27.trans s8
              have s29 := s28.trans s9
              refine kk H9 t _ sc' s29 (s28.free ht) c9 ⟨D, rfl, s9 _ _ (s8 _ _ e7)⟩ ?_ (fun ns z l e => by cases e; exact s02.free hD)
              exact ⟨ol, as, lt, qs, s9 _ _ c8, s29 _ _ e1, O1.mono s29, s9 _ _ (s8 _ _ (s7 _ _ (s2 _ _ e3))), R3.keep fun b u e _ => s9 _ _ (s8 _ _ (s7 _ _ (s2 _ _ e))), .inl Bo, .inr flt⟩
          · refine iteNDN c2 ?_
            refine ⟨(by show 2 ≤ sizeLine; decide), ?_⟩
            intro t0 h0
            generalize gH2 : L2.upd _ t0 _ = H2
            obtain ⟨s2, z2⟩ := newS h0 gH2
            clear gH2
            refine ⟨_, rfl, (by show 2 ≤ sizeLine; decide), ?_⟩
            intro t1 h1
            generalize gH3 : L2.upd _ t1 _ = H3
            obtain ⟨s3, z3⟩ := newS h1 gH3
            clear gH3
            exact err2 _ (Same.refl _) rfl (actF_pass0 (by show (decide (0 ≤ i) && decide (i ≤ 400)) = false; rw [decide_eq_false c2, Bool.and_false])) t0 h0 H2 t1 H3 s2 z2 h1 s3 z3
        · refine iteDN c1 ?_
          refine ⟨false, rfl, iteT ?_⟩
          refine ⟨(by show 2 ≤ sizeLine; decide), ?_⟩
          intro t0 h0
          generalize gH2 : L2.upd _ t0 _ = H2
          obtain ⟨s2, z2⟩ := newS h0 gH2
          clear gH2
          refine ⟨_, rfl, (by show 2 ≤ sizeLine; decide), ?_⟩
          intro t1 h1
          generalize gH3 : L2.upd _ t1 _ = H3
          obtain ⟨s3, z3⟩ := newS h1 gH3
          clear gH3
          exact err2 _ (Same.refl _) rfl (actF_pass0 (by show (decide (0 ≤ i) && decide (i ≤ 400)) = false; rw [decide_eq_false c1, Bool.false_and])) t0 h0 H2 t1 H3 s2 z2 h1 s3 z3
      | bl b =>
        refine ⟨_, rfl, _, _, _, _, true, rfl, .ty "int", ty_flat (flatI_seq dl), kt_bool_int, _, rfl, iteF ?_⟩
        refine ⟨_, rfl, _, _, _, _, true, rfl, .ty "bool", ty_flat (flatI_seq dl), kt_bool_bool, _, rfl, iteT ?_⟩
        refine ⟨(by show 2 ≤ sizeLine; decide), ?_⟩
        intro t0 h0
        generalize gH2 : L2.upd _ t0 _ = H2
        obtain ⟨s2, z2⟩ := newS h0 gH2
        clear gH2
        refine ⟨_, rfl, (by show 2 ≤ sizeLine; decide), ?_⟩
        intro t1 h1
        generalize gH3 : L2.upd _ t1 _ = H3
        obtain ⟨s3, z3⟩ := newS h1 gH3
        clear gH3
        exact err2 _ (Same.refl _) rfl (actF_pass0 rfl) t0 h0 H2 t1 H3 s2 z2 h1 s3 z3
      | non =>
        refine ⟨_, rfl, _, _, _, _, false, rfl, .ty "int", ty_flat (flatI_seq dl), kt_NoneType_int, _, rfl, iteT ?_⟩
        refine ⟨(by show 2 ≤ sizeLine; decide), ?_⟩
        intro t0 h0
        generalize gH2 : L2.upd _ t0 _ = H2
        obtain ⟨s2, z2⟩ := newS h0 gH2
        clear gH2
        refine ⟨_, rfl, (by show 2 ≤ sizeLine; decide), ?_⟩
        intro t1 h1
        generalize gH3 : L2.upd _ t1 _ = H3
        obtain ⟨s3, z3⟩ := newS h1 gH3
        clear gH3
        exact err2 _ (Same.refl _) rfl (actF_pass0 rfl) t0 h0 H2 t1 H3 s2 z2 h1 s3 z3
      | _ => cases dl
    | give o =>
      refine ⟨_, rfl, rfl, _, rfl, iteDN (by intro z; cases z) ?_⟩
      refine ⟨_, rfl, rfl, _, rfl, iteDN (by intro z; cases z) ?_⟩
      refine ⟨_, rfl, rfl, _, rfl, iteD rfl ?_⟩
      cases o with
      | none =>
        have ey : y = .non := ya
        subst ey
        refine ⟨_, rfl, _, _, _, _, false, rfl, .ty "tuple", .base .non, kt_NoneType_tuple, _, rfl, iteT ?_⟩
        refine ⟨_, rfl, ol, _, rfl, .inl (SqL.of e1), ?_⟩
        rw [List.length_map, lo]
        refine ⟨(by show 1 ≤ sizeLine; decide), ?_⟩
        intro lx hlx
        generalize gG1 : L2.upd _ lx _ = G1
        obtain ⟨u1, z1⟩ := newS hlx gG1
        clear gG1
        refine ⟨(by show 3 ≤ sizeLine; decide), ?_⟩
        intro t0 h0
        generalize gG2 : L2.upd _ t0 _ = G2
        obtain ⟨u2, z2⟩ := newS h0 gG2
        clear gG2
        refine ⟨_, rfl, (by show 2 ≤ sizeLine; decide), ?_⟩
        intro t1 h1
        generalize gG3 : L2.upd _ t1 _ = G3
        obtain ⟨u3, z3⟩ := newS h1 gG3
        clear gG3
        exact err3 _ rfl rfl G1 lx G2 t0 _ t1 G3 (u1) z1 u2 z2 (Same.refl _) h1 u3 z3
      | some o =>
        obtain ⟨a, rfl, oa⟩ := ya
        have raw : RawW o := dl
        refine ⟨_, rfl, _, _, _, _, true, rfl, .ty "tuple", tyTupP oa, kt_tuple_tuple, _, rfl, iteF ?_⟩
        refine ⟨_, rfl, a, _, rfl, .inr oa, rfl, _, rfl, iteND rfl ?_⟩
        refine ⟨_, rfl, a, _, _, _, rfl, rfl, oa, rfl, _, _, rfl, rfl, _, rfl, ?_⟩
        by_cases c1 : 1 ≤ o.way
        · refine iteD c1 ?_
          refine ⟨_, _, rfl, rfl, _, rfl, ?_⟩
          by_cases c2 : o.way ≤ 30
          · refine iteND c2 ?_
            have hw : (decide (1 ≤ o.way) && decide (o.way ≤ 30)) = true := by rw [decide_eq_true c1, decide_eq_true c2]; rfl
            refine ⟨_, rfl, _, rfl, ol, as, S.os, a, o, rfl, SqL.of e1, O1, by omega, oa, fun H1 s1 => ⟨_, rfl, ?_⟩⟩
            cases hf : S.os.any fun p => overB p o with
            | true =>
              have : fitsB S.os o = false := by unfold fitsB; rw [hf]; rfl
              rw [this]
              refine iteT ?_
              refine ⟨_, rfl, ol, _, rfl, .inl (SqL.of (s1 _ _ e1)), ?_⟩
              rw [List.length_map, lo]
              refine ⟨(by show 1 ≤ sizeLine; decide), ?_⟩
              intro lx hlx
              generalize gG1 : L2.upd _ lx _ = G1
              obtain ⟨u1, z1⟩ := newS hlx gG1
              clear gG1
              refine ⟨(by show 3 ≤ sizeLine; decide), ?_⟩
              intro t0 h0
              generalize gG2 : L2.upd _ t0 _ = G2
              obtain ⟨u2, z2⟩ := newS h0 gG2
              clear gG2
              refine ⟨_, rfl, (by show 2 ≤ sizeLine; decide), ?_⟩
              intro t1 h1
              generalize gG3 : L2.upd _ t1 _ = G3
              obtain ⟨u3, z3⟩ := newS h1 gG3
              clear gG3
              exact err3 _ rfl (actF_give0 (by rw [hf]; intro z; cases z.2)) G1 lx G2 t0 _ t1 G3 (s1.trans u1) z1 u2 z2 (Same.refl _) h1 u3 z3
            | false =>
              have : fitsB S.os o = true := by unfold fitsB; rw [hf]; rfl
              rw [this]
              refine iteF ?_
              rw [actF_give1 hw hf] at kk
              refine ⟨_, rfl, ol, _, rfl, .inl (SqL.of (s1 _ _ e1)), ?_⟩
              rw [List.length_map, lo]
              refine ⟨_, rfl, _, rfl, _, rfl, (by show 1 ≤ sizeLine; decide), ?_⟩
              intro l1 hl1
              generalize gH2 : L2.upd _ l1 _ = H2
              obtain ⟨s2, c2'⟩ := newS hl1 gH2
              clear gH2
              have s12 := s1.trans s2
              refine ⟨ol, l1, _, _, rfl, rfl, s12 _ _ e1, c2', by rw [List.length_map, sizeLine_eq]; show as.length + 1 ≤ _; omega, ?_⟩
              intro l2 hl2
              generalize gH3 : L2.upd _ l2 _ = H3
              obtain ⟨s3, c3⟩ := newS hl2 gH3
              clear gH3
              have s13 := s12.trans s3
              refine ⟨_, rfl, (by show 3 ≤ sizeLine; decide), ?_⟩
              intro sc' hsc
              generalize gH4 : L2.upd _ sc' _ = H4
              obtain ⟨s4, c4⟩ := newS hsc gH4
              clear gH4
              refine ⟨(by show 2 ≤ sizeLine; decide), ?_⟩
              intro t ht
              generalize gH5 : L2.upd _ t _ = H5
              obtain ⟨s5, c5⟩ := newS ht gH5
              clear gH5
              have s14 := s13.trans s4
              have s15 := s14.trans s5
              refine kk H5 t _ sc' s15 (s14.free ht) c5 rfl ?_ (fun ns z => by cases z)
              exact ⟨l2, as ++ [a], ll, rs, s5 _ _ c4, by rw [s5 _ _ (s4 _ _ c3), List.map_append]; rfl, Paired.append (O1.mono s15) (.cons (OrdAt.mono oa s15) .nil), s15 _ _ e2, R1.keep fun b u e _ => s15 _ _ e, .inr (s12.free hl2), .inl Bl⟩
          · refine iteNDN c2 ?_
            refine ⟨_, rfl, ol, _, rfl, .inl (SqL.of e1), ?_⟩
            rw [List.length_map, lo]
            refine ⟨(by show 1 ≤ sizeLine; decide), ?_⟩
            intro lx hlx
            generalize gG1 : L2.upd _ lx _ = G1
            obtain ⟨u1, z1⟩ := newS hlx gG1
            clear gG1
            refine ⟨(by show 3 ≤ sizeLine; decide), ?_⟩
            intro t0 h0
            generalize gG2 : L2.upd _ t0 _ = G2
            obtain ⟨u2, z2⟩ := newS h0 gG2
            clear gG2
            refine ⟨_, rfl, (by show 2 ≤ sizeLine; decide), ?_⟩
            intro t1 h1
            generalize gG3 : L2.upd _ t1 _ = G3
            obtain ⟨u3, z3⟩ := newS h1 gG3
            clear gG3
            exact err3 _ rfl (actF_give0 (fun z => c2 (of_decide_eq_true (Bool.and_eq_true_iff.mp z.1).2))) G1 lx G2 t0 _ t1 G3 (u1) z1 u2 z2 (Same.refl _) h1 u3 z3
        · refine iteDN c1 ?_
          refine ⟨false, rfl, iteT ?_⟩
          refine ⟨_, rfl, ol, _, rfl, .inl (SqL.of e1), ?_⟩
          rw [List.length_map, lo]
          refine ⟨(by show 1 ≤ sizeLine; decide), ?_⟩
          intro lx hlx
          generalize gG1 : L2.upd _ lx _ = G1
          obtain ⟨u1, z1⟩ := newS hlx gG1
          clear gG1
          refine ⟨(by show 3 ≤ sizeLine; decide), ?_⟩
          intro t0 h0
          generalize gG2 : L2.upd _ t0 _ = G2
          obtain ⟨u2, z2⟩ := newS h0 gG2
          clear gG2
          refine ⟨_, rfl, (by show 2 ≤ sizeLine; decide), ?_⟩
          intro t1 h1
          generalize gG3 : L2.upd _ t1 _ = G3
          obtain ⟨u3, z3⟩ := newS h1 gG3
          clear gG3
          exact err3 _ rfl (actF_give0 (fun z => c1 (of_decide_eq_true (Bool.and_eq_true_iff.mp z.1).1))) G1 lx G2 t0 _ t1 G3 (u1) z1 u2 z2 (Same.refl _) h1 u3 z3
    | stop v =>
      refine ⟨_, rfl, rfl, _, rfl, iteDN (by intro z; cases z) ?_⟩
      refine ⟨_, rfl, rfl, _, rfl, iteDN (by intro z; cases z) ?_⟩
      refine ⟨_, rfl, rfl, _, rfl, iteDN (by intro z; cases z) ?_⟩
      have ez : y = v := ya
      subst ez
      cases y with
      | int i =>
        refine ⟨_, rfl, _, _, _, _, true, rfl, .ty "int", ty_flat (flatI_seq dl), kt_int_int, _, rfl, iteF ?_⟩
        refine ⟨_, rfl, _, _, _, _, false, rfl, .ty "bool", ty_flat (flatI_seq dl), kt_int_bool, _, rfl, iteF ?_⟩
        refine ⟨_, rfl, _, _, rfl, rfl, _, rfl, ?_⟩
        by_cases c1 : 0 ≤ i
        · refine iteD c1 ?_
          refine ⟨_, rfl, ol, _, rfl, .inl (SqL.of e1), _, _, rfl, rfl, _, rfl, ?_⟩
          rw [List.length_map, lo]
          by_cases c2 : i < (S.os.length : Nat)
          · refine iteND c2 ?_
            obtain ⟨n, rfl⟩ := Int.eq_ofNat_of_zero_le c1
            have hn : n < S.os.length := by omega
            obtain ⟨o, eo⟩ : ∃ o, S.os[n]? = some o := ⟨_, List.getElem?_eq_getElem hn⟩
            obtain ⟨a, ea, oa⟩ := Paired.get' O1 eo
            have eA := actF_stop1 eo
            refine ⟨_, rfl, _, rfl, ol, _, _, _, rfl, rfl, SqL.of e1, atI_nat (by rw [List.getElem?_map, ea]; rfl), ?_⟩
            refine ⟨a, _, rfl, oa, rfl, _, _, rfl, _, _, rfl, _, _, rfl, _, _, rfl, _, _, rfl, rfl, ?_⟩
            refine ⟨_, rfl, _, rfl, _, _, rfl, rfl, _, rfl, ?_⟩
            by_cases d1 : o.first < S.day
            rotate_left
            · refine iteDN d1 ?_
              refine ⟨false, rfl, iteT ?_⟩
              rw [if_neg (fun z => d1 z.1)] at eA
              refine ⟨_, rfl, ?_⟩
              refine ⟨(by show 1 ≤ sizeLine; decide), ?_⟩
              intro lx hlx
              generalize gG1 : L2.upd _ lx _ = G1
              obtain ⟨u1, z1⟩ := newS hlx gG1
              clear gG1
              refine ⟨(by show 3 ≤ sizeLine; decide), ?_⟩
              intro t0 h0
              generalize gG2 : L2.upd _ t0 _ = G2
              obtain ⟨u2, z2⟩ := newS h0 gG2
              clear gG2
              refine ⟨_, rfl, (by show 2 ≤ sizeLine; decide), ?_⟩
              intro t1 h1
              generalize gG3 : L2.upd _ t1 _ = G3
              obtain ⟨u3, z3⟩ := newS h1 gG3
              clear gG3
              exact err3 _ rfl eA G1 lx G2 t0 _ t1 G3 (u1) z1 u2 z2 (Same.refl _) h1 u3 z3
            refine iteD d1 ?_
            refine ⟨_, rfl, _, _, rfl, rfl, _, rfl, ?_⟩
            by_cases d2 : S.day ≤ o.last
            rotate_left
            · refine iteNDN d2 ?_
              rw [if_neg (fun z => d2 z.2)] at eA
              refine ⟨_, rfl, ?_⟩
              refine ⟨(by show 1 ≤ sizeLine; decide), ?_⟩
              intro lx hlx
              generalize gG1 : L2.upd _ lx _ = G1
              obtain ⟨u1, z1⟩ := newS hlx gG1
              clear gG1
              refine ⟨(by show 3 ≤ sizeLine; decide), ?_⟩
              intro t0 h0
              generalize gG2 : L2.upd _ t0 _ = G2
              obtain ⟨u2, z2⟩ := newS h0 gG2
              clear gG2
              refine ⟨_, rfl, (by show 2 ≤ sizeLine; decide), ?_⟩
              intro t1 h1
              generalize gG3 : L2.upd _ t1 _ = G3
              obtain ⟨u3, z3⟩ := newS h1 gG3
              clear gG3
              exact err3 _ rfl eA G1 lx G2 t0 _ t1 G3 (u1) z1 u2 z2 (Same.refl _) h1 u3 z3
            refine iteND d2 ?_
            rw [if_pos ⟨d1, d2⟩] at eA
            rw [eA] at kk
            clear eA err2 err3
            let o' : Ordr := ⟨o.src, o.tgt, o.first, S.day - 1, o.way⟩
            refine ⟨fun σ' H' => Same H H' ∧ ∃ l2 as2, H' l2 = some (.lst ((as2 : List Addr).map V.ref)) ∧ H l2 = none ∧ OrdsAt K H' as2 (S.os.set n o') ∧ ∃ v8 v9 v10 v11 v13 v14 v15 v16, σ' = tl (some (.ref l2)) v8 v9 v10 v11 (some (.int o.last)) v13 v14 v15 v16, ?_, ?_⟩
            · refine ⟨_, rfl, _, rfl, _, rfl, ol, _, rfl, SqL.of e1, ?_⟩
              intro n1 hn1
              generalize gH1 : L2.upd _ n1 _ = H1
              obtain ⟨s1, c1'⟩ := newS hn1 gH1
              clear gH1
              rw [cut_hiP, ← List.map_take] at c1'
              refine ⟨_, rfl, _, rfl, _, rfl, _, rfl, _, _, rfl, rfl, _, rfl, (by show 5 ≤ sizeLine; decide), ?_⟩
              intro q hq2
              generalize gH2 : L2.upd _ q _ = H2
              obtain ⟨s2, c2'⟩ := newS hq2 gH2
              clear gH2
              refine ⟨(by show 1 ≤ sizeLine; decide), ?_⟩
              intro n2 hn2
              generalize gH3 : L2.upd _ n2 _ = H3
              obtain ⟨s3, c3⟩ := newS hn2 gH3
              clear gH3
              refine ⟨n1, n2, _, _, rfl, rfl, s3 _ _ (s2 _ _ c1'), c3, by rw [List.length_map, List.length_take, sizeLine_eq]; show min n as.length + 1 ≤ _; omega, ?_⟩
              intro n3 hn3
              generalize gH4 : L2.upd _ n3 _ = H4
              obtain ⟨s4, c4⟩ := newS hn3 gH4
              clear gH4
              have s14 := ((s1.trans s2).trans s3).trans s4
              refine ⟨_, rfl, _, rfl, _, _, rfl, rfl, _, rfl, ol, _, rfl, SqL.of (s14 _ _ e1), ?_⟩
              intro n4 hn4
              generalize gH5 : L2.upd _ n4 _ = H5
              obtain ⟨s5, c5⟩ := newS hn4 gH5
              clear gH5
              replace c5 : H5 n4 = some (.lst (cutV (as.map V.ref) (some ((n + 1 : Nat) : Int)) none)) := c5
              rw [cut_loP _ (by rw [List.length_map]; omega), ← List.map_drop] at c5
              refine ⟨n3, n4, _, _, rfl, rfl, s5 _ _ c4, c5, by rw [List.length_append, List.length_map, List.length_map, List.length_take, List.length_drop, sizeLine_eq]; show min n as.length + 1 + _ ≤ _; omega, ?_⟩
              intro l2 hl2
              generalize gH6 : L2.upd _ l2 _ = H6
              obtain ⟨s6, c6⟩ := newS hl2 gH6
              clear gH6
              have s15 := s14.trans s5
              have s16 := s15.trans s6
              refine ⟨s16, l2, as.take n ++ [q] ++ as.drop (n + 1), by rw [c6, List.map_append, List.map_append]; rfl, s15.free hl2, ?_, _, _, _, _, _, _, _, _, rfl⟩
              have hq6 : OrdAt K H6 q o' := .inl (.inl (s6 _ _ (s5 _ _ (s4 _ _ (s3 _ _ c2')))))
              rw [← set_cut (by omega : n < as.length)]
              exact pairedSetP n (O1.mono s16) hq6
            rintro σ H1 ⟨s1, l2, as2, c2', f2, O2, w8, w9, w10, w11, w13, w14, w15, w16, rfl⟩
            refine ⟨_, rfl, _, rfl, _, rfl, _, rfl, (by show 3 ≤ sizeLine; decide), ?_⟩
            intro sc' hsc
            generalize gH4 : L2.upd _ sc' _ = H4
            obtain ⟨s4, c4⟩ := newS hsc gH4
            clear gH4
            refine ⟨(by show 2 ≤ sizeLine; decide), ?_⟩
            intro t ht
            generalize gH5 : L2.upd _ t _ = H5
            obtain ⟨s5, c5⟩ := newS ht gH5
            clear gH5
            have s14 := s1.trans s4
            have s15 := s14.trans s5
            refine kk H5 t _ sc' s15 (s14.free ht) c5 rfl ?_ (fun ns z => by cases z)
            exact ⟨l2, as2, ll, rs, s5 _ _ c4, s5 _ _ (s4 _ _ c2'), O2.mono (s4.trans s5), s15 _ _ e2, R1.keep fun b u e _ => s15 _ _ e, .inr f2, .inl Bl⟩
          · refine iteNDN c2 ?_
            refine ⟨_, rfl, ?_⟩
            refine ⟨(by show 1 ≤ sizeLine; decide), ?_⟩
            intro lx hlx
            generalize gG1 : L2.upd _ lx _ = G1
            obtain ⟨u1, z1⟩ := newS hlx gG1
            clear gG1
            refine ⟨(by show 3 ≤ sizeLine; decide), ?_⟩
            intro t0 h0
            generalize gG2 : L2.upd _ t0 _ = G2
            obtain ⟨u2, z2⟩ := newS h0 gG2
            clear gG2
            refine ⟨_, rfl, (by show 2 ≤ sizeLine; decide), ?_⟩
            intro t1 h1
            generalize gG3 : L2.upd _ t1 _ = G3
            obtain ⟨u3, z3⟩ := newS h1 gG3
            clear gG3
            exact err3 _ rfl (actF_stop0 (by show (decide (0 ≤ i) && decide (i ≤ (S.os.length : Int) - 1)) = false; rw [decide_eq_false (show ¬ i ≤ (S.os.length : Int) - 1 by omega), Bool.and_false])) G1 lx G2 t0 _ t1 G3 (u1) z1 u2 z2 (Same.refl _) h1 u3 z3
        · refine iteDN c1 ?_
          refine ⟨false, rfl, iteT ?_⟩
          refine ⟨_, rfl, ?_⟩
          refine ⟨(by show 1 ≤ sizeLine; decide), ?_⟩
          intro lx hlx
          generalize gG1 : L2.upd _ lx _ = G1
          obtain ⟨u1, z1⟩ := newS hlx gG1
          clear gG1
          refine ⟨(by show 3 ≤ sizeLine; decide), ?_⟩
          intro t0 h0
          generalize gG2 : L2.upd _ t0 _ = G2
          obtain ⟨u2, z2⟩ := newS h0 gG2
          clear gG2
          refine ⟨_, rfl, (by show 2 ≤ sizeLine; decide), ?_⟩
          intro t1 h1
          generalize gG3 : L2.upd _ t1 _ = G3
          obtain ⟨u3, z3⟩ := newS h1 gG3
          clear gG3
          exact err3 _ rfl (actF_stop0 (by show (decide (0 ≤ i) && decide (i ≤ (S.os.length : Int) - 1)) = false; rw [decide_eq_false c1, Bool.false_and])) G1 lx G2 t0 _ t1 G3 (u1) z1 u2 z2 (Same.refl _) h1 u3 z3
      | bl b =>
        refine ⟨_, rfl, _, _, _, _, true, rfl, .ty "int", ty_flat (flatI_seq dl), kt_bool_int, _, rfl, iteF ?_⟩
        refine ⟨_, rfl, _, _, _, _, true, rfl, .ty "bool", ty_flat (flatI_seq dl), kt_bool_bool, _, rfl, iteT ?_⟩
        refine ⟨_, rfl, ?_⟩
        refine ⟨(by show 1 ≤ sizeLine; decide), ?_⟩
        intro lx hlx
        generalize gG1 : L2.upd _ lx _ = G1
        obtain ⟨u1, z1⟩ := newS hlx gG1
        clear gG1
        refine ⟨(by show 3 ≤ sizeLine; decide), ?_⟩
        intro t0 h0
        generalize gG2 : L2.upd _ t0 _ = G2
        obtain ⟨u2, z2⟩ := newS h0 gG2
        clear gG2
        refine ⟨_, rfl, (by show 2 ≤ sizeLine; decide), ?_⟩
        intro t1 h1
        generalize gG3 : L2.upd _ t1 _ = G3
        obtain ⟨u3, z3⟩ := newS h1 gG3
        clear gG3
        exact err3 _ rfl (actF_stop0 rfl) G1 lx G2 t0 _ t1 G3 (u1) z1 u2 z2 (Same.refl _) h1 u3 z3
      | non =>
        refine ⟨_, rfl, _, _, _, _, false, rfl, .ty "int", ty_flat (flatI_seq dl), kt_NoneType_int, _, rfl, iteT ?_⟩
        refine ⟨_, rfl, ?_⟩
        refine ⟨(by show 1 ≤ sizeLine; decide), ?_⟩
        intro lx hlx
        generalize gG1 : L2.upd _ lx _ = G1
        obtain ⟨u1, z1⟩ := newS hlx gG1
        clear gG1
        refine ⟨(by show 3 ≤ sizeLine; decide), ?_⟩
        intro t0 h0
        generalize gG2 : L2.upd _ t0 _ = G2
        obtain ⟨u2, z2⟩ := newS h0 gG2
        clear gG2
        refine ⟨_, rfl, (by show 2 ≤ sizeLine; decide), ?_⟩
        intro t1 h1
        generalize gG3 : L2.upd _ t1 _ = G3
        obtain ⟨u3, z3⟩ := newS h1 gG3
        clear gG3
        exact err3 _ rfl (actF_stop0 rfl) G1 lx G2 t0 _ t1 G3 (u1) z1 u2 z2 (Same.refl _) h1 u3 z3
      | _ => cases dl
theorem ok_after (T : Top K mg C_Book C_LivePost C_MailError C_InvalidOperation C_InvalidOrder C_UnknownOrder C_NotHolding C_DecodeError C_NotationError C_UnknownLetter C_InvalidAddress C_InvalidDay C_InvalidNumber C_Contradiction C_InvalidCount) : GFn P w K mg base CX0 3 "_law_after" (spAfter K) := (ok_afterF T).imp fun vs H Q E h => by
  obtain ⟨B, sc, op, S, d, e, L, hd, dl, g, g30, lr, kk⟩ := h
  exact ⟨B, sc, op, S, d, e, L, hd, dl, g, g30, lr, fun H' t due sc' s ht et da ls _ => kk H' t due sc' s ht et da ls⟩
end

end MF
set_option Elab.async false
set_option linter.all false
set_option maxRecDepth 100000
set_option maxHeartbeats 2000000
set_option pp.maxSteps 600
namespace MF
open PySem PySem.Spec PyProof.Rows L2 StX
section
variable {P : Program} {w : World} {K : PySem.W.Frag} {mg : Str → Option Value} {base : Heap} {C_Book C_LivePost C_MailError C_InvalidOperation C_InvalidOrder C_UnknownOrder C_NotHolding C_DecodeError C_NotationError C_UnknownLetter C_InvalidAddress C_InvalidDay C_InvalidNumber C_Contradiction C_InvalidCount : Addr}
theorem mem_rep {α : Type} {v : α} {A B : List α} {n : Nat} (h : v ∈ A ++ (List.replicate n B).flatten) : v ∈ A ∨ v ∈ B := by
  rcases List.mem_append.mp h with h | h
  · exact .inl h
  · obtain ⟨l, hl, hv⟩ := List.mem_flatten.mp h
    rw [(List.mem_replicate.mp hl).2] at hv
    exact .inr hv
def spDeed (K : PySem.W.Frag) : Sp := fun vs H Q _ => ∃ rw sn ns sc S, ∃ odd : Nat, vs = [.ref rw, .ref sc, .int (odd : Nat)] ∧ RowAt K H rw sn ns ∧ LawSc K (fun a => a ≠ rw) H sc S ∧ odd ≤ 1 ∧ 0 ≤ S.day ∧ S.day ≤ 1000000 ∧ S.os.length < 1000 ∧
  ∀ H' q d, KeepR rw H H' → RowAt K H' rw sn ns → DeedAt K H' q d → d.Law → Q (.ref q) H'
theorem ok_deed (T : Top K mg C_Book C_LivePost C_MailError C_InvalidOperation C_InvalidOrder C_UnknownOrder C_NotHolding C_DecodeError C_NotationError C_UnknownLetter C_InvalidAddress C_InvalidDay C_InvalidNumber C_Contradiction C_InvalidCount) : GFn P w K mg base CX0 4 "_law_deed" (spDeed K) := by
  have G__law_next : GFn P w K mg base CX0 1 "_law_next" (spTaken K) := ok_next T
  have G__law_pick : GFn P w K mg base CX0 2 "_law_pick" (spPick K) := ok_pick T
  have G__law_order : GFn P w K mg base CX0 3 "_law_order" (spOrderD K) := ok_orderD T
  refine T.d__law_deed.fn fun f fd F => F.ok sc__law_deed (fun vs H Q E h => ?_) (fun cdv A outer s H vs Q E hr h => ?_)
  · obtain ⟨rw, sn, ns, sc, S, odd, rfl, _⟩ := h
    rfl
  · obtain ⟨rw, sn, ns, sc, S, odd, rfl, R0, L0, od1, d0, d1, l1000, kk⟩ := h
    refine ⟨_, (pss_cons (ps_set (i := 3) sc__law_deed.nd rfl (Or.inl rfl) (pe_g G__law_next (hr.mono (by decide)) (pa_cons (pv 0) (pa_cons pe_int pa_nil))))
  (pss_cons (ps_if (pt_cmpR op_lt (pv 3) pe_int (nomark _))
  (pss_one (ps_ret (pe_tup (pa_cons pe_str (pa_cons (pe_g G__law_pick (hr.mono (by decide)) (pa_cons (pv 0) (pa_cons (pe_op op_cat (pe_lst (pa_cons pe_str (pa_cons pe_str (pa_cons pe_str (pa_cons pe_str (pa_cons pe_str pa_nil)))))) (pe_op op_rep (pe_lst (pa_cons pe_str (pa_cons pe_str (pa_cons pe_non (pa_cons pe_int pa_nil))))) (pv 2))) pa_nil))) pa_nil)))))
  pss_nil)
  (pss_cons (ps_if (pt_cmpR op_lt (pv 3) pe_int (nomark _))
  (pss_one (ps_ret (pe_tup (pa_cons pe_str (pa_cons (pe_g G__law_pick (hr.mono (by decide)) (pa_cons (pv 0) (pa_cons (pe_op op_cat (pe_lst (pa_cons pe_int (pa_cons pe_int (pa_cons pe_int (pa_cons (pe_g G__law_next (hr.mono (by decide)) (pa_cons (pv 0) (pa_cons pe_int pa_nil))) (pa_cons pe_int pa_nil)))))) (pe_op op_rep (pe_lst (pa_cons (pe_un un_neg pe_int) (pa_cons pe_int (pa_cons pe_non (pa_cons pe_bl pa_nil))))) (pv 2))) pa_nil))) pa_nil)))))
  pss_nil)
  (pss_cons (ps_if (pt_cmpR op_eq (pv 3) pe_int (nomark _))
  (pss_cons (ps_asg (pe_g G__law_order (hr.mono (by decide)) (pa_cons (pv 0) (pa_cons pe_int pa_nil))) (pg_tup rfl (pgs_cons (pg_name (i := 4) sc__law_deed.nd rfl (Or.inl rfl)) (pgs_cons (pg_name (i := 5) sc__law_deed.nd rfl (Or.inl rfl)) (pgs_cons (pg_name (i := 6) sc__law_deed.nd rfl (Or.inl rfl)) (pgs_cons (pg_name (i := 7) sc__law_deed.nd rfl (Or.inl rfl)) (pgs_cons (pg_name (i := 8) sc__law_deed.nd rfl (Or.inl rfl)) pgs_nil)))))))
  (pss_cons (ps_set (i := 9) sc__law_deed.nd rfl (Or.inl rfl) (pe_tup (pa_cons (pv 4) (pa_cons (pv 5) (pa_cons (pe_op op_add (pv 6) (pe_ix ix_tup (pv 1) pe_int (fun _ _ => rfl))) (pa_cons (pe_op op_add (pv 7) (pe_ix ix_tup (pv 1) pe_int (fun _ _ => rfl))) (pa_cons (pv 8) pa_nil)))))))
  (pss_one (ps_ret (pe_tup (pa_cons pe_str (pa_cons (pe_g G__law_pick (hr.mono (by decide)) (pa_cons (pv 0) (pa_cons (pe_op op_cat (pe_op op_rep (pe_lst (pa_cons (pv 9) pa_nil)) pe_int) (pe_op op_rep (pe_lst (pa_cons (pe_tup (pa_cons (pv 4) (pa_cons (pv 5) (pa_cons pe_int (pa_cons pe_int (pa_cons pe_int pa_nil)))))) (pa_cons pe_non pa_nil))) (pv 2))) pa_nil))) pa_nil)))))))
  pss_nil)
  (pss_cons (ps_set (i := 10) sc__law_deed.nd rfl (Or.inl rfl) (pe_callB call_len_seq (by rfl) T.b_len (by decide +kernel) (pa_cons (pe_ix ix_tup (pv 1) pe_int (fun _ _ => rfl)) pa_nil)))
  (pss_one (ps_ret (pe_tup (pa_cons pe_str (pa_cons (pe_g G__law_pick (hr.mono (by decide)) (pa_cons (pv 0) (pa_cons (pe_op op_cat (pe_op op_rep (pe_lst (pa_cons (pe_g G__law_next (hr.mono (by decide)) (pa_cons (pv 0) (pa_cons (pe_callB (call_max2 rfl) (by rfl) T.b_max (by decide +kernel) (pa_cons pe_int (pa_cons (pv 10) pa_nil))) pa_nil))) pa_nil)) pe_int) (pe_op op_rep (pe_lst (pa_cons (pe_un un_neg pe_int) (pa_cons (pv 10) (pa_cons pe_non (pa_cons pe_bl pa_nil))))) (pv 2))) pa_nil))) pa_nil)))))))))), ?_⟩
    let St (H' : Hp) : Prop := KeepR rw H H' ∧ RowAt K H' rw sn ns ∧ LawSc K (fun a => a ≠ rw) H' sc S
    have SS : ∀ {H' H'' : Hp}, St H' → Same H' H'' → St H'' := fun ⟨a, b, c⟩ s => ⟨fun p u e n => s _ _ (a p u e n), b.keep s, c.same s⟩
    have SR : ∀ {H' H'' : Hp}, St H' → RowAt K H'' rw sn ns → KeepR rw H' H'' → St H'' := fun ⟨a, b, c⟩ r k => ⟨fun p u e n => k _ _ (a p u e n) n, r, c.keep (k.tup b) (fun p xs e n => k _ _ e n)⟩
    have S0 : St H := ⟨fun _ _ e _ => e, R0, L0⟩
    have szo : ∀ n : Nat, n ≤ 6 → n * ((odd : Nat) : Int).toNat ≤ sizeLine := fun n h => by
      rw [Int.toNat_natCast, sizeLine_eq]
      have : n * odd ≤ 6 * 1 := Nat.mul_le_mul h od1
      omega
    have lf : ∀ (A B : List V), (A ++ (List.replicate ((odd : Nat) : Int).toNat B).flatten).length ≤ A.length + B.length := fun A B => by
      rw [Int.toNat_natCast, List.length_append]
      have : odd = 0 ∨ odd = 1 := by omega
      rcases this with rfl | rfl <;> simp
    have ret : ∀ {H1 : Hp} {d : Deed} {v : V}, St H1 → ArgAt K H1 v d → d.Law → 2 ≤ sizeLine ∧ ∀ q, H1 q = none → Q (.ref q) (upd H1 q (.tup [.str d.word, v])) := fun {H1 d v} S1 ya dl => by
      refine ⟨(by show 2 ≤ sizeLine; decide), ?_⟩
      intro q hq
      generalize gH2 : L2.upd _ q _ = H2
      obtain ⟨s2, c2⟩ := newS hq gH2
      clear gH2
      have S2 := SS S1 s2
      exact kk H2 q d S2.1 S2.2.1 ⟨v, c2, ya.kt fun b u e _ => s2 _ _ e⟩ dl
    refine ⟨_, rfl, rw, sn, ns, 7, rfl, R0, by decide, by decide, fun v H1 v0 v1 R1 k1 => ?_⟩
    have S1 := SR S0 R1 k1
    clear S0
    refine ⟨_, rfl, _, _, rfl, rfl, _, rfl, ?_⟩
    by_cases c1 : v < 2
    · refine iteD c1 ?_
      refine ⟨_, rfl, (by show 5 ≤ sizeLine; decide), ?_⟩
      intro a1 ha1
      generalize gH2 : L2.upd _ a1 _ = H2
      obtain ⟨s2, c2⟩ := newS ha1 gH2
      clear gH2
      refine ⟨(by show 4 ≤ sizeLine; decide), ?_⟩
      intro a2 ha2
      generalize gH3 : L2.upd _ a2 _ = H3
      obtain ⟨s3, c3⟩ := newS ha2 gH3
      clear gH3
      refine ⟨_, rfl, a2, odd, _, rfl, rfl, c3, by omega, by omega, szo 4 (by decide), ?_⟩
      intro a3 ha3
      generalize gH4 : L2.upd _ a3 _ = H4
      obtain ⟨s4, c4⟩ := newS ha3 gH4
      clear gH4
      have lL := lf [.str "a", .str "b", .str "c", .str "dd", .str "e"] [.str "A", .str "", .non, .int 5]
      refine ⟨a1, a3, _, _, rfl, rfl, s4 _ _ (s3 _ _ c2), c4, by rw [← List.length_append, sizeLine_eq]; exact Nat.le_trans lL (by decide), ?_⟩
      intro a4 ha4
      generalize gH5 : L2.upd _ a4 _ = H5
      obtain ⟨s5, c5⟩ := newS ha4 gH5
      clear gH5
      have S5 := SS S1 (((s2.trans s3).trans s4).trans s5)
      refine ⟨rw, sn, ns, a4, _, rfl, S5.2.1, c5, (SS S1 ((s2.trans s3).trans s4)).2.1.fresh ha4, by rw [List.length_append]; show 0 < 5 + _; omega, Nat.le_trans lL (by decide), fun i v H6 ev R6 k6 => ?_⟩
      refine ret (d := .post v) (SR S5 R6 k6) rfl ?_
      have hm : v ∈ [V.str "a", .str "b", .str "c", .str "dd", .str "e"] ∨ v ∈ [V.str "A", .str "", .non, .int 5] := mem_rep (List.mem_of_getElem? ev)
      rcases hm with hm | hm
      · refine .inl ?_
        simp only [List.mem_cons, List.mem_nil_iff, or_false] at hm
        rcases hm with rfl | rfl | rfl | rfl | rfl
        · exact ⟨_, by simp [five], rfl⟩
        · exact ⟨_, by simp [five], rfl⟩
        · exact ⟨_, by simp [five], rfl⟩
        · exact ⟨_, by simp [five], rfl⟩
        · exact ⟨_, by simp [five], rfl⟩
      · refine .inr ?_
        simp only [List.mem_cons, List.mem_nil_iff, or_false] at hm
        exact hm
    refine iteDN c1 ?_
    refine ⟨_, rfl, _, _, rfl, rfl, _, rfl, ?_⟩
    by_cases c2 : v < 4
    · refine iteD c2 ?_
      refine ⟨_, rfl, _, rfl, rw, sn, ns, 9, rfl, S1.2.1, by decide, by decide, fun z H2 z0 z1 R2 k2 => ?_⟩
      have S2 := SR S1 R2 k2
      refine ⟨(by show 5 ≤ sizeLine; decide), ?_⟩
      intro a1 ha1
      generalize gH3 : L2.upd _ a1 _ = H3
      obtain ⟨s3, e3⟩ := newS ha1 gH3
      clear gH3
      refine ⟨_, rfl, (by show 4 ≤ sizeLine; decide), ?_⟩
      intro a2 ha2
      generalize gH4 : L2.upd _ a2 _ = H4
      obtain ⟨s4, e4⟩ := newS ha2 gH4
      clear gH4
      refine ⟨_, rfl, a2, odd, _, rfl, rfl, e4, by omega, by omega, szo 4 (by decide), ?_⟩
      intro a3 ha3
      generalize gH5 : L2.upd _ a3 _ = H5
      obtain ⟨s5, e5⟩ := newS ha3 gH5
      clear gH5
      have lL := lf [.int 0, .int 1, .int 2, .int z, .int 400] [.int (-1), .int 401, .non, .bl true]
      refine ⟨a1, a3, _, _, rfl, rfl, s5 _ _ (s4 _ _ e3), e5, by rw [← List.length_append, sizeLine_eq]; exact Nat.le_trans lL (by show 9 ≤ _; decide), ?_⟩
      intro a4 ha4
      generalize gH6 : L2.upd _ a4 _ = H6
      obtain ⟨s6, e6⟩ := newS ha4 gH6
      clear gH6
      have s26 := ((s3.trans s4).trans s5)
      have S6 := SS S2 (s26.trans s6)
      refine ⟨rw, sn, ns, a4, _, rfl, S6.2.1, e6, (SS S2 s26).2.1.fresh ha4, by rw [List.length_append]; show 0 < 5 + _; omega, Nat.le_trans lL (by show 9 ≤ _; decide), fun i v H7 ev R7 k7 => ?_⟩
      refine ret (d := .pass v) (SR S6 R7 k7) rfl ?_
      have hm : v ∈ [V.int 0, .int 1, .int 2, .int z, .int 400] ∨ v ∈ [V.int (-1), .int 401, .non, .bl true] := mem_rep (List.mem_of_getElem? ev)
      have sm : ∀ n : Int, 0 ≤ n → n < 10 → flatI (.int n) := fun n h0 h1 => by
        obtain ⟨m, rfl⟩ := Int.eq_ofNat_of_zero_le h0
        show ((m : Nat) : Int).natAbs.log2 < 1920
        rw [Int.natAbs_natCast]
        have := Nat.log2_le_self m
        omega
      show flatI v
      rcases hm with hm | hm
      · simp only [List.mem_cons, List.mem_nil_iff, or_false] at hm
        rcases hm with rfl | rfl | rfl | rfl | rfl
        · exact sm 0 (by decide) (by decide)
        · exact sm 1 (by decide) (by decide)
        · exact sm 2 (by decide) (by decide)
        · exact sm z z0 (by omega)
        · show (400 : Int).natAbs.log2 < 1920; decide
      · simp only [List.mem_cons, List.mem_nil_iff, or_false] at hm
        rcases hm with rfl | rfl | rfl | rfl
        · show (-1 : Int).natAbs.log2 < 1920; decide
        · show (401 : Int).natAbs.log2 < 1920; decide
        · exact True.intro
        · exact True.intro
    refine iteDN c2 ?_
    refine ⟨_, rfl, rfl, _, rfl, ?_⟩
    by_cases c3 : v = 4
    · refine iteD (by rw [c3]) ?_
      refine ⟨_, rfl, rw, sn, ns, 9, rfl, S1.2.1, by decide, by decide, fun H2 q o k2 fq R2 oq od => ?_⟩
      have S2 := SR S1 R2 k2
      refine ⟨q, _, rfl, oq, rfl, _, _, rfl, _, _, rfl, _, _, rfl, _, _, rfl, _, _, rfl, rfl, ?_⟩
      obtain ⟨ol, as, ll, rs, f0, f1, O1, f2, _⟩ := id S2.2.2
      refine ⟨_, rfl, _, rfl, _, rfl, _, rfl, sc, _, _, _, rfl, rfl, .inl (.inl f0), rfl, _, _, rfl, rfl, ?_⟩
      refine ⟨_, rfl, _, rfl, sc, _, _, _, rfl, rfl, .inl (.inl f0), rfl, _, _, rfl, rfl, _, rfl, (by show 5 ≤ sizeLine; decide), ?_⟩
      intro gq hgq
      generalize gH3 : L2.upd _ gq _ = H3
      obtain ⟨s3, e3⟩ := newS hgq gH3
      clear gH3
      let og : Ordr := ⟨o.src, o.tgt, o.first + S.day, o.last + S.day, o.way⟩
      have e3' : H3 gq = some (.tup og.vals) := e3
      refine ⟨_, rfl, _, rfl, (by show 1 ≤ sizeLine; decide), ?_⟩
      intro a1 ha1
      generalize gH4 : L2.upd _ a1 _ = H4
      obtain ⟨s4, e4⟩ := newS ha1 gH4
      clear gH4
      refine ⟨a1, 3, _, rfl, rfl, e4, by decide, by decide, (by show 1 * 3 ≤ sizeLine; decide), ?_⟩
      intro a2 ha2
      generalize gH5 : L2.upd _ a2 _ = H5
      obtain ⟨s5, e5⟩ := newS ha2 gH5
      clear gH5
      refine ⟨_, rfl, _, rfl, (by show 5 ≤ sizeLine; decide), ?_⟩
      intro bq hbq
      generalize gH6 : L2.upd _ bq _ = H6
      obtain ⟨s6, e6⟩ := newS hbq gH6
      clear gH6
      let ob : Ordr := ⟨o.src, o.tgt, 0, 0, 31⟩
      have e6' : H6 bq = some (.tup ob.vals) := e6
      refine ⟨(by show 2 ≤ sizeLine; decide), ?_⟩
      intro a3 ha3
      generalize gH7 : L2.upd _ a3 _ = H7
      obtain ⟨s7, e7⟩ := newS ha3 gH7
      clear gH7
      refine ⟨_, rfl, a3, odd, _, rfl, rfl, e7, by omega, by omega, szo 2 (by decide), ?_⟩
      intro a4 ha4
      generalize gH8 : L2.upd _ a4 _ = H8
      obtain ⟨s8, e8⟩ := newS ha4 gH8
      clear gH8
      have lL := lf [.ref gq, .ref gq, .ref gq] [.ref bq, .non]
      refine ⟨a2, a4, _, _, rfl, rfl, s8 _ _ (s7 _ _ (s6 _ _ e5)), e8, by rw [← List.length_append, sizeLine_eq]; exact Nat.le_trans lL (by show 5 ≤ _; decide), ?_⟩
      intro a5 ha5
      generalize gH9 : L2.upd _ a5 _ = H9
      obtain ⟨s9, e9⟩ := newS ha5 gH9
      clear gH9
      have s28 := ((((s3.trans s4).trans s5).trans s6).trans s7).trans s8
      have s29 := s28.trans s9
      have S9 := SS S2 s29
      refine ⟨rw, sn, ns, a5, _, rfl, S9.2.1, e9, (SS S2 s28).2.1.fresh ha5, by rw [List.length_append]; show 0 < 3 + _; omega, Nat.le_trans lL (by show 5 ≤ _; decide), fun i v H10 ev R10 k10 => ?_⟩
      have hm : v ∈ [V.ref gq, .ref gq, .ref gq] ∨ v ∈ [V.ref bq, .non] := mem_rep (List.mem_of_getElem? ev)
      have S10 := SR S9 R10 k10
      obtain ⟨xr, hxr⟩ := S9.2.1.ex
      have tk : ∀ {b : Addr} {xs : List V}, H9 b = some (.tup xs) → H10 b = some (.tup xs) := fun {b xs} e => k10 _ _ e fun w => by rw [w, hxr] at e; cases e
      have okd := od.ok (by decide)
      have hlm := od.lm
      have hfm := od.fm
      simp only [List.mem_cons, List.mem_nil_iff, or_false, or_self] at hm
      rcases hm with rfl | rfl | rfl
      · refine ret (d := .give (some og)) S10 ⟨gq, rfl, .inl (.inl (tk (s9 _ _ (s8 _ _ (s7 _ _ (s6 _ _ (s5 _ _ (s4 _ _ e3'))))))))⟩ ?_
        exact ⟨okd.as, okd.at_, okd.ne, by have := okd.f0; show 0 ≤ o.first + S.day; omega, by have := okd.fl; show o.first + S.day ≤ o.last + S.day; omega, by show o.last + S.day ≤ _; omega⟩
      · refine ret (d := .give (some ob)) S10 ⟨bq, rfl, .inl (.inl (tk (s9 _ _ (s8 _ _ (s7 _ _ e6')))))⟩ ?_
        exact ⟨okd.as, okd.at_, okd.ne, by show (0 : Int) ≤ 0; decide, by show (0 : Int) ≤ 0; decide, by show (0 : Int) ≤ _; decide⟩
      · exact ret (d := .give none) S10 rfl True.intro
    refine iteDN (fun e => c3 (V.int.inj e)) ?_
    obtain ⟨ol, as, ll, rs, f0, f1, O1, f2, _⟩ := id S1.2.2
    have lo := PySem.Paired.length O1
    refine ⟨_, rfl, sc, _, _, _, rfl, rfl, .inl (.inl f0), rfl, ol, _, rfl, .inl (SqL.of f1), ?_⟩
    rw [List.length_map, lo]
    refine ⟨_, rfl, _, rfl, _, rfl, _, _, rfl, rw, sn, ns, _, rfl, S1.2.1, by split <;> omega, by split <;> omega, fun z H2 z0 z1 R2 k2 => ?_⟩
    have zb : z < 1000 := by
      have : (if ((S.os.length : Nat) : Int) > 1 then ((S.os.length : Nat) : Int) else 1) ≤ 999 := by split <;> omega
      omega
    have S2 := SR S1 R2 k2
    refine ⟨(by show 1 ≤ sizeLine; decide), ?_⟩
    intro a1 ha1
    generalize gH4 : L2.upd _ a1 _ = H4
    obtain ⟨s4, e4⟩ := newS ha1 gH4
    clear gH4
    refine ⟨a1, 4, _, rfl, rfl, e4, by decide, by decide, (by show 1 * 4 ≤ sizeLine; decide), ?_⟩
    intro a2 ha2
    generalize gH5 : L2.upd _ a2 _ = H5
    obtain ⟨s5, e5⟩ := newS ha2 gH5
    clear gH5
    refine ⟨_, rfl, _, rfl, (by show 4 ≤ sizeLine; decide), ?_⟩
    intro a3 ha3
    generalize gH7 : L2.upd _ a3 _ = H7
    obtain ⟨s7, e7⟩ := newS ha3 gH7
    clear gH7
    refine ⟨_, rfl, a3, odd, _, rfl, rfl, e7, by omega, by omega, szo 4 (by decide), ?_⟩
    intro a4 ha4
    generalize gH8 : L2.upd _ a4 _ = H8
    obtain ⟨s8, e8⟩ := newS ha4 gH8
    clear gH8
    have lL := lf [.int z, .int z, .int z, .int z] [.int (-1), .int (S.os.length : Nat), .non, .bl true]
    refine ⟨a2, a4, _, _, rfl, rfl, s8 _ _ (s7 _ _ e5), e8, by rw [← List.length_append, sizeLine_eq]; exact Nat.le_trans lL (by show 8 ≤ _; decide), ?_⟩
    intro a5 ha5
    generalize gH9 : L2.upd _ a5 _ = H9
    obtain ⟨s9, e9⟩ := newS ha5 gH9
    clear gH9
    have s28 := ((s4.trans s5).trans s7).trans s8
    have s29 := s28.trans s9
    have S9 := SS S2 s29
    refine ⟨rw, sn, ns, a5, _, rfl, S9.2.1, e9, (SS S2 s28).2.1.fresh ha5, by rw [List.length_append]; show 0 < 4 + _; omega, Nat.le_trans lL (by show 8 ≤ _; decide), fun i v H10 ev R10 k10 => ?_⟩
    refine ret (d := .stop v) (SR S9 R10 k10) rfl ?_
    have hm : v ∈ [V.int z, .int z, .int z, .int z] ∨ v ∈ [V.int (-1), .int (S.os.length : Nat), .non, .bl true] := mem_rep (List.mem_of_getElem? ev)
    have sm : ∀ n : Int, 0 ≤ n → n < 1000 → flatI (.int n) := fun n h0 h1 => by
      obtain ⟨m, rfl⟩ := Int.eq_ofNat_of_zero_le h0
      show ((m : Nat) : Int).natAbs.log2 < 1920
      rw [Int.natAbs_natCast]
      have := Nat.log2_le_self m
      omega
    show flatI v
    simp only [List.mem_cons, List.mem_nil_iff, or_false, or_self] at hm
    rcases hm with rfl | rfl | rfl | rfl | rfl
    · exact sm z z0 zb
    · show (-1 : Int).natAbs.log2 < 1920; decide
    · exact sm _ (by omega) (by omega)
    · exact True.intro
    · exact True.intro
end

end MF
set_option Elab.async false
set_option linter.all false
set_option maxRecDepth 100000
set_option maxHeartbeats 2000000
set_option pp.maxSteps 600
namespace MF
open PySem PySem.Spec PyProof.Rows L2 StX
section
variable {P : Program} {w : World} {K : PySem.W.Frag} {mg : Str → Option Value} {base : Heap} {C_Book C_LivePost C_MailError C_InvalidOperation C_InvalidOrder C_UnknownOrder C_NotHolding C_DecodeError C_NotationError C_UnknownLetter C_InvalidAddress C_InvalidDay C_InvalidNumber C_Contradiction C_InvalidCount : Addr}
def spIsErr (K : PySem.W.Frag) : Sp := fun vs H Q _ => ∃ v r, vs = [v] ∧ DueAt H v r ∧ ∀ H', Same H H' → Q (.bl r.bad) H'
theorem told_tup {H : Hp} {p : Addr} {e : Err} (h : ToldAt H p e) : ∃ x xs, H p = some (.tup (.str "error" :: x :: xs)) := by
  unfold ToldAt at h
  split at h
  · exact ⟨_, _, h⟩
  · obtain ⟨l, h, _⟩ := h
    exact ⟨_, _, h⟩
theorem ok_is_err (T : Top K mg C_Book C_LivePost C_MailError C_InvalidOperation C_InvalidOrder C_UnknownOrder C_NotHolding C_DecodeError C_NotationError C_UnknownLetter C_InvalidAddress C_InvalidDay C_InvalidNumber C_Contradiction C_InvalidCount) : GFn P w K mg base CX0 1 "_law_is_error" (spIsErr K) := by
  refine T.d__law_is_error.fn fun f fd F => F.ok sc__law_is_error (fun vs H Q E h => ?_) (fun cdv A outer s H vs Q E hr h => ?_)
  · obtain ⟨v, r, rfl, _⟩ := h
    rfl
  · obtain ⟨v, r, rfl, da, kk⟩ := h
    refine ⟨_, (pss_one (ps_ret (pe_and (pe_callB call_isi (by rfl) T.b_isinstance (by decide +kernel) (pa_cons (pv 0) (pa_cons (pe_bltn (v := .ty "tuple") (by rfl) T.b_tuple (by decide +kernel) rfl) pa_nil))) (pe_one (pe_cmpR (op_eqD hr.units) (pe_slice sl_tup (pv 0) po_none (po_some pe_int)) (pe_tup (pa_cons pe_str pa_nil)) (nomark _)))))), ?_⟩
    cases r with
    | num n =>
      have ev : v = .int (n : Nat) := da
      subst ev
      refine ⟨_, rfl, _, _, _, _, false, rfl, .ty "tuple", .base (.int _), kt_int_tuple, _, rfl, iteF ?_⟩
      exact kk _ (Same.refl _)
    | day d =>
      have ev : v = .int d := da
      subst ev
      refine ⟨_, rfl, _, _, _, _, false, rfl, .ty "tuple", .base (.int _), kt_int_tuple, _, rfl, iteF ?_⟩
      exact kk _ (Same.refl _)
    | nums ns =>
      obtain ⟨l, rfl, el⟩ := da
      refine ⟨_, rfl, _, _, _, _, false, rfl, .ty "tuple", .base (.lst el), kt_list_tuple, _, rfl, iteF ?_⟩
      exact kk _ (Same.refl _)
    | err e =>
      obtain ⟨p, rfl, td⟩ := da
      obtain ⟨x, xs, hp⟩ := told_tup td
      refine ⟨_, rfl, _, _, _, _, true, rfl, .ty "tuple", .base (.tup hp), kt_tuple_tuple, _, rfl, iteT ?_⟩
      have ns : ¬ (HT.sIx (V.str "error" :: x :: xs).length 0 none = 0 ∧ HT.sIx (V.str "error" :: x :: xs).length (V.str "error" :: x :: xs).length (some (1 : Int)) = (V.str "error" :: x :: xs).length) := fun z => by
        have h2 := z.2
        rw [show (1 : Int) = ((1 : Nat) : Int) from rfl, HT.sIx_nat] at h2
        simp only [List.length_cons] at h2
        omega
      refine ⟨_, rfl, _, rfl, p, _, rfl, .inl (.inl hp), ns, ?_⟩
      intro q hq
      generalize gH1 : L2.upd _ q _ = H1
      obtain ⟨s1, c1⟩ := newS hq gH1
      clear gH1
      refine ⟨(by show 1 ≤ sizeLine; decide), ?_⟩
      intro q2 hq2
      generalize gH2 : L2.upd _ q2 _ = H2
      obtain ⟨s2, c2⟩ := newS hq2 gH2
      clear gH2
      have c1' : H1 q = some (.tup [.str "error"]) := by rw [c1, show (1 : Int) = ((1 : Nat) : Int) from rfl, cut_hiP]; rfl
      have dk : ∀ {a : Addr}, H2 a = some (.tup [.str "error"]) → Dp K H2 (.ref a) (.tuple [.str "error"]) := fun h => .tup (.inl (.inl h)) (.cons (.str _) .nil)
      refine ⟨.tuple [.str "error"], .tuple [.str "error"], dk (s2 _ _ c1'), dk c2, by decide +kernel, by decide +kernel, ?_⟩
      rw [show PyData.eqv (.tuple [.str "error"]) (.tuple [.str "error"]) = true from by decide +kernel]
      exact kk _ (s1.trans s2)
end

end MF
set_option Elab.async false
set_option linter.all false
set_option maxRecDepth 100000
set_option maxHeartbeats 2000000
set_option pp.maxSteps 600
namespace MF
open PySem PySem.Spec PyProof.Rows L2 StX
section
variable {P : Program} {w : World} {K : PySem.W.Frag} {mg : Str → Option Value} {base : Heap} {C_Book C_LivePost C_MailError C_InvalidOperation C_InvalidOrder C_UnknownOrder C_NotHolding C_DecodeError C_NotationError C_UnknownLetter C_InvalidAddress C_InvalidDay C_InvalidNumber C_Contradiction C_InvalidCount : Addr}
theorem kt_seqL (tp : Bool) : PySem.W.kitOne K (.type (if tp = true then "tuple" else "list")) (.type "list") = some (!tp) := by
  cases tp
  · exact kt_list_list
  · exact kt_tuple_list
theorem like_cases {H : Hp} {x y : V} {d : PyData} {n : Nat} (hx : Dp K H x d) (hy : Dp K H y d) (cl : d.canLay0 = true) (dp : d.depth ≤ n) (sm : smallD d = true) :
    (∃ T1 b i z, y = x ∧ (∀ H', TyX K H' x (.type T1)) ∧ PySem.W.kitOne K (.type T1) (.type "tuple") = some false ∧ PySem.W.kitOne K (.type T1) (.type "list") = some false ∧ scal x x = true ∧ PySem.W.kitOne K (.type T1) (.type "bool") = some b ∧ PySem.W.kitOne K (.type T1) (.type "int") = some i ∧ PySem.W.kitOne K (.type T1) (.type "str") = some z) ∨
    (∃ a a' tp xs ys ds, x = .ref a ∧ y = .ref a' ∧ SeqAt' K H a tp xs ∧ SeqAt' K H a' tp ys ∧ DpAll K H xs ds ∧ DpAll K H ys ds ∧ PyData.canLayAll0 ds = true ∧ PyData.depthAll ds + 1 ≤ n ∧ ds.length ≤ 1000000 ∧ smallAll ds = true) := by
  cases hx with
  | non => cases hy; exact .inl ⟨"NoneType", _, _, _, rfl, fun _ => .base .non, kt_NoneType_tuple, kt_NoneType_list, rfl, kt_NoneType_bool, kt_NoneType_int, kt_NoneType_str⟩
  | bl b => cases hy; exact .inl ⟨"bool", _, _, _, rfl, fun _ => .base (.bl b), kt_bool_tuple, kt_bool_list, rfl, kt_bool_bool, kt_bool_int, kt_bool_str⟩
  | int i => cases hy; exact .inl ⟨"int", _, _, _, rfl, fun _ => .base (.int i), kt_int_tuple, kt_int_list, rfl, kt_int_bool, kt_int_int, kt_int_str⟩
  | str z => cases hy; exact .inl ⟨"str", _, _, _, rfl, fun _ => .base (.str z), kt_str_tuple, kt_str_list, rfl, kt_str_bool, kt_str_int, kt_str_str⟩
  | lst h1 a1 =>
    cases hy with
    | lst h2 a2 =>
      simp only [smallD, Bool.and_eq_true, decide_eq_true_eq] at sm
      exact .inr ⟨_, _, false, _, _, _, rfl, rfl, h1, h2, a1, a2, cl, dp, sm.1, sm.2⟩
  | tup h1 a1 =>
    cases hy with
    | tup h2 a2 =>
      simp only [smallD, Bool.and_eq_true, decide_eq_true_eq] at sm
      exact .inr ⟨_, _, true, _, _, _, rfl, rfl, h1, h2, a1, a2, cl, dp, sm.1, sm.2⟩
theorem like_step (T : Top K mg C_Book C_LivePost C_MailError C_InvalidOperation C_InvalidOrder C_UnknownOrder C_NotHolding C_DecodeError C_NotationError C_UnknownLetter C_InvalidAddress C_InvalidDay C_InvalidNumber C_Contradiction C_InvalidCount) (n : Nat) (G__law_like : GFn P w K mg base CX0 n "_law_like" (spAl K n)) : GFn P w K mg base CX0 (n + 1) "_law_like" (spAlike K n) := by
  refine T.d__law_like.fn fun f fd F => F.ok sc__law_like (fun vs H Q E h => ?_) (fun cdv A outer s H vs Q E hr h => ?_)
  · obtain ⟨x, y, d, rfl, _⟩ := h
    rfl
  · obtain ⟨x, y, d, rfl, hx, hy, cl, dp, sm, k⟩ := h
    refine ⟨_, (pss_cons (ps_if (PW.pt (pw_or (pt_val (pe_callB call_isi (by rfl) T.b_isinstance (by decide +kernel) (pa_cons (pv 1) (pa_cons (pe_bltn (v := .ty "tuple") (by rfl) T.b_tuple (by decide +kernel) rfl) pa_nil)))) (pw_or1 (pt_val (pe_callB call_isi (by rfl) T.b_isinstance (by decide +kernel) (pa_cons (pv 1) (pa_cons (pe_bltn (v := .ty "list") (by rfl) T.b_list (by decide +kernel) rfl) pa_nil)))))))
  (pss_cons (ps_if (pt_cmpR op_ne (pe_callB call_isi (by rfl) T.b_isinstance (by decide +kernel) (pa_cons (pv 0) (pa_cons (pe_bltn (v := .ty "tuple") (by rfl) T.b_tuple (by decide +kernel) rfl) pa_nil))) (pe_callB call_isi (by rfl) T.b_isinstance (by decide +kernel) (pa_cons (pv 1) (pa_cons (pe_bltn (v := .ty "tuple") (by rfl) T.b_tuple (by decide +kernel) rfl) pa_nil))) (nomark _))
  (pss_one (ps_ret pe_bl))
  pss_nil)
  (pss_cons (ps_if (PW.pt (pw_or (pt_cmpR op_ne (pe_callB call_isi (by rfl) T.b_isinstance (by decide +kernel) (pa_cons (pv 0) (pa_cons (pe_bltn (v := .ty "list") (by rfl) T.b_list (by decide +kernel) rfl) pa_nil))) (pe_callB call_isi (by rfl) T.b_isinstance (by decide +kernel) (pa_cons (pv 1) (pa_cons (pe_bltn (v := .ty "list") (by rfl) T.b_list (by decide +kernel) rfl) pa_nil))) (nomark _)) (pw_or1 (pt_cmpR op_ne (pe_callB call_len_seq (by rfl) T.b_len (by decide +kernel) (pa_cons (pv 0) pa_nil)) (pe_callB call_len_seq (by rfl) T.b_len (by decide +kernel) (pa_cons (pv 1) pa_nil)) (nomark _)))))
  (pss_one (ps_ret pe_bl))
  pss_nil)
  (pss_one (ps_ret (pe_cmpR (op_eqD hr.units) (pe_lc (own := [("_law_k", 2)]) (g := (gName 2)) (by rfl) sc__law_like.nd (pi_range1 (by rfl) T.b_range (pa_cons (pe_callB call_len_seq (by rfl) T.b_len (by decide +kernel) (pa_cons (pv 1) pa_nil)) pa_nil)) (blkOk_by (own := [("_law_k", 2)]) (N := ["_law_found", "_law_due", "_law_k"]) (sc := defScope s__law_like) (by decide +kernel)) (fun _ _ _ _ _ => (pg_name (i := 2) sc__law_like.nd rfl (Or.inl rfl))) (fun _ _ _ _ _ => (pts_one (pt_not (pt_val (pe_g G__law_like hr (pa_cons (pe_ix (ix_seqK (K := K)) (pv 0) (pv 2) (fun _ _ => rfl)) (pa_cons (pe_ix (ix_seqK (K := K)) (pv 1) (pv 2) (fun _ _ => rfl)) pa_nil))))))) (fun _ _ _ _ _ => (pv 2))) (pe_lst pa_nil) (nomark _))))))
  pss_nil)
  (pss_cons (ps_if (pt_cmpR op_ne (pe_callB call_isi (by rfl) T.b_isinstance (by decide +kernel) (pa_cons (pv 0) (pa_cons (pe_bltn (v := .ty "bool") (by rfl) T.b_bool (by decide +kernel) rfl) pa_nil))) (pe_callB call_isi (by rfl) T.b_isinstance (by decide +kernel) (pa_cons (pv 1) (pa_cons (pe_bltn (v := .ty "bool") (by rfl) T.b_bool (by decide +kernel) rfl) pa_nil))) (nomark _))
  (pss_one (ps_ret pe_bl))
  pss_nil)
  (pss_cons (ps_if (PW.pt (pw_or (pt_cmpR op_ne (pe_callB call_isi (by rfl) T.b_isinstance (by decide +kernel) (pa_cons (pv 0) (pa_cons (pe_bltn (v := .ty "int") (by rfl) T.b_int (by decide +kernel) rfl) pa_nil))) (pe_callB call_isi (by rfl) T.b_isinstance (by decide +kernel) (pa_cons (pv 1) (pa_cons (pe_bltn (v := .ty "int") (by rfl) T.b_int (by decide +kernel) rfl) pa_nil))) (nomark _)) (pw_or1 (pt_cmpR op_ne (pe_callB call_isi (by rfl) T.b_isinstance (by decide +kernel) (pa_cons (pv 0) (pa_cons (pe_bltn (v := .ty "str") (by rfl) T.b_str (by decide +kernel) rfl) pa_nil))) (pe_callB call_isi (by rfl) T.b_isinstance (by decide +kernel) (pa_cons (pv 1) (pa_cons (pe_bltn (v := .ty "str") (by rfl) T.b_str (by decide +kernel) rfl) pa_nil))) (nomark _)))))
  (pss_one (ps_ret pe_bl))
  pss_nil)
  (pss_one (ps_ret (pe_cmpR op_eq (pv 0) (pv 1) (nomark _))))))), ?_⟩
    rcases like_cases hx hy cl dp sm with ⟨T1, b, ib, zb, rfl, ty, kt, kl, sc, kb, ki, ks⟩ | ⟨a, a', tp, xs, ys, ds, rfl, rfl, q1, q2, p1, p2, cl2, dp2, sm2, sm3⟩
    · refine ⟨_, rfl, _, _, _, _, false, rfl, .ty "tuple", ty _, kt, _, rfl, ?_⟩
      refine ⟨_, rfl, _, _, _, _, false, rfl, .ty "list", ty _, kl, _, rfl, ?_⟩
      refine ⟨_, rfl, _, _, _, _, b, rfl, .ty "bool", ty _, kb, _, rfl, _, _, _, _, b, rfl, .ty "bool", ty _, kb, rfl, _, rfl, iteND rfl ?_⟩
      refine ⟨_, rfl, _, _, _, _, ib, rfl, .ty "int", ty _, ki, _, rfl, _, _, _, _, ib, rfl, .ty "int", ty _, ki, rfl, _, rfl, iteND rfl ?_⟩
      refine ⟨_, rfl, _, _, _, _, zb, rfl, .ty "str", ty _, ks, _, rfl, _, _, _, _, zb, rfl, .ty "str", ty _, ks, rfl, _, rfl, iteND rfl ?_⟩
      refine ⟨_, rfl, _, rfl, sc, ?_⟩
      rw [decide_eq_true rfl]
      exact k _ (Same.refl _)
    · have l1 := MF.DpAll.len p1
      have l2 := MF.DpAll.len p2
      have rest : tRet (tOp (rEqD K) (tLc (iRng1 (tCons (tCB (fun xs H_1 Q => ∃ p ys, xs = [V.ref p] ∧ (SqL K H_1 p ys ∨ SqT K H_1 p ys) ∧ Q (V.int (ys.length : Nat)) H_1) (tCons (tVar 1) tNil)) tNil)) (gName 2)
          (tNot (tB (tG (spAl K n) E0 (tCons (tOp (rIx K) (tVar 0) (tVar 2)) (tCons (tOp (rIx K) (tVar 1) (tVar 2)) tNil))))) (tVar 2) [2]) (tLst tNil)) { nx := fun x H' => Q V.non H', rt := Q } [some (.ref a), some (.ref a'), none] H := by
        refine ⟨_, rfl, a', ys, rfl, q2.len, _, rfl, (by omega), (by omega), fun D hD => ?_⟩
        have sD := Same.new (o := .lst []) hD
        refine lc_it walk_range (fun i H' => Same H H' ∧ H' D = some (.lst [])) ⟨sD, upd_same⟩ (fun _ _ _ _ => trivial) ?_ ?_
        · rintro i z H3 H4 hi ⟨s3, d3⟩ ⟨rfl, rfl⟩
          have hi' : i < ys.length := by simpa using hi
          obtain ⟨v, ev⟩ : ∃ v, xs[i]? = some v := ⟨xs[i]'(by omega), by simp [show i < xs.length by omega]⟩
          obtain ⟨u, eu⟩ : ∃ u, ys[i]? = some u := ⟨ys[i], by simp [hi']⟩
          obtain ⟨dv, edv, pv'⟩ := MF.DpAll.get p1 ev
          obtain ⟨du, edu, pu'⟩ := MF.DpAll.get p2 eu
          rw [edv] at edu
          cases edu
          have md : dv ∈ ds := List.mem_of_getElem? edv
          refine ⟨rfl, ?_⟩
          refine ⟨_, rfl, _, rfl, (q1.mono s3).ix ev ?_⟩
          refine ⟨_, rfl, _, rfl, (q2.mono s3).ix eu ?_⟩
          have dm := depth_mem md
          cases n with
          | zero => omega
          | succ m =>
            refine ⟨v, u, dv, rfl, Dp.mono s3 pv', Dp.mono s3 pu', canLay_mem cl2 md, by omega, small_mem sm3 md, fun H5 s5 => ⟨_, rfl, iteF ?_⟩⟩
            exact ⟨s3.trans s5, s5 _ _ d3⟩
        · rintro H3 ⟨s3, d3⟩
          refine ⟨Nat.zero_le _, fun r hr0 => ?_⟩
          have s4 := MF.Same.upd (o := .lst []) s3 hr0
          have nDr : D ≠ r := ne_of_none d3 hr0
          refine ⟨.list [], .list [], .lst (SqL.of (by rw [upd_ne nDr]; exact d3)) .nil, .lst (SqL.of upd_same) .nil, rfl, rfl, ?_⟩
          exact k _ s4
      refine ⟨_, rfl, _, _, _, _, tp, rfl, .ty "tuple", q2.ty, kt_seq tp, _, rfl, ?_⟩
      cases tp with
      | true =>
        refine iteT ?_
        refine ⟨_, rfl, _, _, _, _, true, rfl, .ty "tuple", q1.ty, kt_seq true, _, rfl, _, _, _, _, true, rfl, .ty "tuple", q2.ty, kt_seq true, rfl, _, rfl, iteND rfl ?_⟩
        refine ⟨_, rfl, _, _, _, _, _, rfl, .ty "list", q1.ty, kt_seqL true, _, rfl, _, _, _, _, _, rfl, .ty "list", q2.ty, kt_seqL true, rfl, _, rfl, iteND rfl ?_⟩
        exact ⟨_, rfl, a, xs, rfl, q1.len, _, rfl, a', ys, rfl, q2.len, rfl, _, rfl, iteND (by rw [l1, l2]) rest⟩
      | false =>
        refine iteF ?_
        refine ⟨_, rfl, _, _, _, _, _, rfl, .ty "list", q2.ty, kt_seqL false, _, rfl, ?_⟩
        refine iteT ?_
        refine ⟨_, rfl, _, _, _, _, false, rfl, .ty "tuple", q1.ty, kt_seq false, _, rfl, _, _, _, _, false, rfl, .ty "tuple", q2.ty, kt_seq false, rfl, _, rfl, iteND rfl ?_⟩
        refine ⟨_, rfl, _, _, _, _, _, rfl, .ty "list", q1.ty, kt_seqL false, _, rfl, _, _, _, _, _, rfl, .ty "list", q2.ty, kt_seqL false, rfl, _, rfl, iteND rfl ?_⟩
        exact ⟨_, rfl, a, xs, rfl, q1.len, _, rfl, a', ys, rfl, q2.len, rfl, _, rfl, iteND (by rw [l1, l2]) rest⟩
theorem ok_like (T : Top K mg C_Book C_LivePost C_MailError C_InvalidOperation C_InvalidOrder C_UnknownOrder C_NotHolding C_DecodeError C_NotationError C_UnknownLetter C_InvalidAddress C_InvalidDay C_InvalidNumber C_Contradiction C_InvalidCount) : ∀ n, GFn P w K mg base CX0 (n + 1) "_law_like" (spAlike K n)
  | 0 => like_step T 0 (by
      obtain ⟨f, fd, F, hm, hb⟩ := T.d__law_like.ex
      exact ⟨f, (fun _ _ _ _ _ _ _ _ _ _ _ z => z.elim), hm, F.kp⟩)
  | n + 1 => like_step T (n + 1) (ok_like T n)
end

end MF
set_option Elab.async false
set_option linter.all false
set_option maxRecDepth 100000
set_option maxHeartbeats 2000000
set_option pp.maxSteps 600
namespace MF
open PySem PySem.Spec PyProof.Rows L2 StX
section
variable {P : Program} {w : World} {K : PySem.W.Frag} {mg : Str → Option Value} {base : Heap} {C_Book C_LivePost C_MailError C_InvalidOperation C_InvalidOrder C_UnknownOrder C_NotHolding C_DecodeError C_NotationError C_UnknownLetter C_InvalidAddress C_InvalidDay C_InvalidNumber C_Contradiction C_InvalidCount : Addr}
def spOrdersP (K : PySem.W.Frag) (C : Addr) : Sp := fun vs H Q _ => ∃ p os, vs = [.ref p] ∧ BookAt K C H p os ∧ ∀ t as, SqT K H t (as.map V.ref) → OrdsAt K H as os → Q (.ref t) H
theorem ok_ordersP (T : Top K mg C_Book C_LivePost C_MailError C_InvalidOperation C_InvalidOrder C_UnknownOrder C_NotHolding C_DecodeError C_NotationError C_UnknownLetter C_InvalidAddress C_InvalidDay C_InvalidNumber C_Contradiction C_InvalidCount) : PFn P w K mg base CX0 1 C_Book "orders" (spOrdersP K C_Book) := by
  refine T.d_Book_orders.fn fun f fd F => F.ok sc_Book_orders (fun vs H Q E h => ?_) (fun cdv A outer s H vs Q E hr h => ?_)
  · obtain ⟨p, os, rfl, _⟩ := h
    rfl
  · obtain ⟨p, os, rfl, ⟨dx, t, as, h1, h2, h3⟩, kk⟩ := h
    refine ⟨_, (pss_one (ps_ret (pe_fld (pv 0) rfl))), ?_⟩
    exact ⟨_, rfl, p, C_Book, dx, _, _, rfl, h1, T.cl_Book, T.n_Book_listed, rfl, kk t as h2 h3⟩
end

end MF
set_option Elab.async false
set_option linter.all false
set_option maxRecDepth 100000
set_option maxHeartbeats 2000000
set_option pp.maxSteps 600
namespace MF
open PySem PySem.Spec PyProof.Rows L2 StX
section
variable {P : Program} {w : World} {K : PySem.W.Frag} {mg : Str → Option Value} {base : Heap} {C_Book C_LivePost C_MailError C_InvalidOperation C_InvalidOrder C_UnknownOrder C_NotHolding C_DecodeError C_NotationError C_UnknownLetter C_InvalidAddress C_InvalidDay C_InvalidNumber C_Contradiction C_InvalidCount : Addr}
def numDP (x : Nat × Str × Int) : PyData := .tuple [.int (x.1 : Nat), .str x.2.1, .int x.2.2]
def rowDP (x : LRow) : PyData := .tuple [.str x.1, .int x.2.1, .bool x.2.2]
theorem pickR_addr {b : Bool} {rows : List LRow} (h : ∀ x ∈ rows, isAddrB (.str x.1) = true) {n : Nat} : ∀ y ∈ pickR b rows n, isAddrB (.str y.2.1) = true := fun y hy => by
  obtain ⟨i, _, hi⟩ := List.mem_filterMap.mp hy
  cases e : rows[i]? with
  | none => rw [e] at hi; cases hi
  | some x =>
    rw [e] at hi
    have hi : (if x.2.2 = b then some (i, x.1, x.2.1) else none) = some y := hi
    split at hi
    · cases hi
      exact h x (List.mem_of_getElem? e)
    · cases hi
theorem pickR_len {b : Bool} {rows : List LRow} (n : Nat) : (pickR b rows n).length ≤ n := by
  have := List.length_filterMap_le (fun i => rows[i]?.bind fun x => if x.2.2 = b then some (i, x.1, x.2.1) else none) (List.range n)
  rw [List.length_range] at this
  exact this
theorem numD_dk {l : List (Nat × Str × Int)} (h : ∀ y ∈ l, isAddrB (.str y.2.1) = true) (hl : l.length ≤ 1000000) : DK 2 (.list (l.map numDP)) := .list (DK.map fun y hy => .tuple (.cons (.int 0 _) (.cons (.str 0 (h y hy)) (.cons (.int 0 _) .nil))) (by show 3 ≤ _; decide)) (by rw [List.length_map]; exact hl)
theorem num_dp {H : Hp} {ps : List Addr} {l : List (Nat × Str × Int)} (h : NumAt H ps l) : DpAll K H (ps.map V.ref) (l.map numDP) := dkPair (R := fun p (y : Nat × Str × Int) => H p = some (.tup [.int (y.1 : Nat), .str y.2.1, .int y.2.2])) (f := V.ref) (g := numDP) (fun a y e => .tup (.inl (.inl e)) (.cons (.int _) (.cons (.str _) (.cons (.int _) .nil)))) h
def spStands (K : PySem.W.Frag) (CB CL : Addr) : Sp := fun vs H Q _ => ∃ p sc B kw S dn un, vs = [.ref p, .ref sc] ∧ LivO K CB CL H p kw S dn un ∧ LawSc K B H sc S ∧ S.Ok ∧ S.rows.length < 1000 ∧ ∀ H', Same H H' → Q (.bl true) H'
theorem ok_stands (T : Top K mg C_Book C_LivePost C_MailError C_InvalidOperation C_InvalidOrder C_UnknownOrder C_NotHolding C_DecodeError C_NotationError C_UnknownLetter C_InvalidAddress C_InvalidDay C_InvalidNumber C_Contradiction C_InvalidCount) : GFn P w K mg base CX0 5 "_law_stands" (spStands K C_Book C_LivePost) := by
  have PR_LivePost_today : PFn P w K mg base CX0 1 C_LivePost "today" (spToday K C_Book C_LivePost) := ok_today T
  have PR_LivePost_present_book : PFn P w K mg base CX0 1 C_LivePost "present_book" (spPresent K C_Book C_LivePost) := ok_present T
  have PR_Book_orders : PFn P w K mg base CX0 1 C_Book "orders" (spOrdersP K C_Book) := ok_ordersP T
  have PR_LivePost_resting : PFn P w K mg base CX0 1 C_LivePost "resting" (spPickR true K C_Book C_LivePost) := ok_resting T
  have PR_LivePost_under_way : PFn P w K mg base CX0 1 C_LivePost "under_way" (spPickR false K C_Book C_LivePost) := ok_under_way T
  have G__law_like : GFn P w K mg base CX0 4 "_law_like" (spAlike K 3) := ok_like T 3
  obtain ⟨fl, LF_LivePost, LM_LivePost⟩ := (ok_live_len (P := P) (w := w) (base := base) T).ex
  obtain ⟨fc, CF_LivePost, cm⟩ := (ok_live_call (P := P) (w := w) (base := base) T).ex
  have CO_LivePost : CallO K C_LivePost fc := ⟨cm.at_, cm.fn, T.fi_LivePost_XcallX fc cm.at_⟩
  refine T.d__law_stands.fn fun f fd F => F.ok sc__law_stands (fun vs H Q E h => ?_) (fun cdv A outer s H vs Q E hr h => ?_)
  · obtain ⟨p, sc, B, kw, S, dn, un, rfl, _⟩ := h
    rfl
  · obtain ⟨p, sc, B, kw, S, dn, un, rfl, L0, W0, ok, lr, kk⟩ := h
    refine ⟨_, (pss_cons (ps_asg (pv 1) (pg_tup rfl (pgs_cons (pg_name (i := 2) sc__law_stands.nd rfl (Or.inl rfl)) (pgs_cons (pg_name (i := 3) sc__law_stands.nd rfl (Or.inl rfl)) (pgs_cons (pg_name (i := 4) sc__law_stands.nd rfl (Or.inr rfl)) pgs_nil)))))
  (C8.pss_cut (ps_setLc (i := 5) (own := [("_law_k", 8)]) (g := (gName 8)) (by rfl) sc__law_stands.nd rfl rfl (sw_true rfl rfl rfl (by decide +kernel)) (pi_range1 (by rfl) T.b_range (pa_cons (pe_callB call_len_seq (by rfl) T.b_len (by decide +kernel) (pa_cons (pv 4) pa_nil)) pa_nil)) (blkOk_by (own := [("_law_k", 8)]) (N := ["_law_live", "_law_scene", "_law_day", "_law_orders_here", "_law_letters", "_law_rows", "_law_resting", "_law_under_way", "_law_k", "_law_row"]) (sc := defScope s__law_stands) (by decide +kernel)) (fun _ _ _ _ _ => (pg_name (i := 8) sc__law_stands.nd rfl (Or.inl rfl))) (fun _ _ _ _ _ => pts_nil) (fun _ _ _ _ _ => (pe_tup (pa_cons (pv 8) (pa_cons (pe_ix (ix_tupK (K := K)) (pe_ix (ix_listK (K := K)) (pv 4) (pv 8) (fun _ _ => rfl)) pe_int (fun _ _ => rfl)) (pa_cons (pe_ix (ix_tupK (K := K)) (pe_ix (ix_listK (K := K)) (pv 4) (pv 8) (fun _ _ => rfl)) pe_int (fun _ _ => rfl)) pa_nil))))))
  (C8.pss_cut (ps_setLc (i := 6) (own := [("_law_row", 9)]) (g := (gName 9)) (by rfl) sc__law_stands.nd rfl rfl (sw_true rfl rfl rfl (by decide +kernel)) (pi_list (pv 5)) (blkOk_by (own := [("_law_row", 9)]) (N := ["_law_live", "_law_scene", "_law_day", "_law_orders_here", "_law_letters", "_law_rows", "_law_resting", "_law_under_way", "_law_k", "_law_row"]) (sc := defScope s__law_stands) (by decide +kernel)) (fun _ _ _ _ _ => (pg_name (i := 9) sc__law_stands.nd rfl (Or.inl rfl))) (fun _ _ _ _ _ => (pts_one (pt_val (pe_ix (ix_tupK (K := K)) (pe_ix (ix_listK (K := K)) (pv 4) (pe_ix (ix_tupK (K := K)) (pv 9) pe_int (fun _ _ => rfl)) (fun _ _ => rfl)) pe_int (fun _ _ => rfl))))) (fun _ _ _ _ _ => (pv 9)))
  (C8.pss_cut (ps_setLc (i := 7) (own := [("_law_row", 9)]) (g := (gName 9)) (by rfl) sc__law_stands.nd rfl rfl (sw_true rfl rfl rfl (by decide +kernel)) (pi_list (pv 5)) (blkOk_by (own := [("_law_row", 9)]) (N := ["_law_live", "_law_scene", "_law_day", "_law_orders_here", "_law_letters", "_law_rows", "_law_resting", "_law_under_way", "_law_k", "_law_row"]) (sc := defScope s__law_stands) (by decide +kernel)) (fun _ _ _ _ _ => (pg_name (i := 9) sc__law_stands.nd rfl (Or.inl rfl))) (fun _ _ _ _ _ => (pts_one (pt_not (pt_val (pe_ix (ix_tupK (K := K)) (pe_ix (ix_listK (K := K)) (pv 4) (pe_ix (ix_tupK (K := K)) (pv 9) pe_int (fun _ _ => rfl)) (fun _ _ => rfl)) pe_int (fun _ _ => rfl)))))) (fun _ _ _ _ _ => (pv 9)))
  (C8.pss_cut (ps_if (pt_not (pt_val (pe_g G__law_like (hr.mono (by decide)) (pa_cons (pe_lst (pa_cons (pe_pr PR_LivePost_today T.cl_LivePost (hr.mono (by decide)) (pv 0)) (pa_cons (pe_pr PR_LivePost_resting T.cl_LivePost (hr.mono (by decide)) (pv 0)) (pa_cons (pe_pr PR_LivePost_under_way T.cl_LivePost (hr.mono (by decide)) (pv 0)) pa_nil)))) (pa_cons (pe_lst (pa_cons (pv 2) (pa_cons (pv 6) (pa_cons (pv 7) pa_nil)))) pa_nil)))))
  (pss_one (ps_ret pe_bl))
  pss_nil)
  (C8.pss_cut (ps_if (PW.pt (pw_or (pt_cmpR (op_neD hr.units) (pe_pr PR_Book_orders T.cl_Book (hr.mono (by decide)) (pe_pr PR_LivePost_present_book T.cl_LivePost (hr.mono (by decide)) (pv 0))) (pe_callTy call_tuple_of (by rfl) T.b_tuple (by decide +kernel) (pa_cons (pv 3) pa_nil)) (nomark _)) (pw_or1 (pt_cmpR op_ne (pe_callB (cr_lenO LM_LivePost LF_LivePost (hr.mono (by decide)) pass0) (by rfl) T.b_len (by decide +kernel) (pa_cons (pv 0) pa_nil)) (pe_callB call_len_seq (by rfl) T.b_len (by decide +kernel) (pa_cons (pv 4) pa_nil)) (nomark _)))))
  (pss_one (ps_ret pe_bl))
  pss_nil)
  (pss_one (ps_ret (pe_cmpR (op_eqD hr.units) (pe_lc (own := [("_law_k", 8)]) (g := (gName 8)) (by rfl) sc__law_stands.nd (pi_range1 (by rfl) T.b_range (pa_cons (pe_callB call_len_seq (by rfl) T.b_len (by decide +kernel) (pa_cons (pv 4) pa_nil)) pa_nil)) (blkOk_by (own := [("_law_k", 8)]) (N := ["_law_live", "_law_scene", "_law_day", "_law_orders_here", "_law_letters", "_law_rows", "_law_resting", "_law_under_way", "_law_k", "_law_row"]) (sc := defScope s__law_stands) (by decide +kernel)) (fun _ _ _ _ _ => (pg_name (i := 8) sc__law_stands.nd rfl (Or.inl rfl))) (fun _ _ _ _ _ => (pts_one (pt_not (pt_val (pe_g G__law_like (hr.mono (by decide)) (pa_cons (pe_callO1 (pv 0) CO_LivePost CF_LivePost (hr.mono (by decide)) pass0 (pa_cons (pv 8) pa_nil)) (pa_cons (pe_ix (ix_listK (K := K)) (pv 4) (pv 8) (fun _ _ => rfl)) pa_nil))))))) (fun _ _ _ _ _ => (pv 8))) (pe_lst pa_nil) (nomark _)))))))))), ?_⟩
    obtain ⟨ol, as, ll, rs, e0, e1, O1, e2, R1, _, _⟩ := id W0
    have lo := PySem.Paired.length O1
    have lrs := PySem.Paired.length R1
    obtain ⟨dx, sc2, d, u, h1⟩ := L0.ins
    let tl (v5 v6 v7 v8 v9 : Option V) : L2.St := [some (.ref p), some (.ref sc), some (.int S.day), some (.ref ol), some (.ref ll), v5, v6, v7, v8, v9]
    refine ⟨_, rfl, sc, _, rfl, .inl (.inl e0), rfl, _, _, rfl, _, _, rfl, _, _, rfl, rfl, ?_⟩
    let allR (n : Nat) : List (Nat × Str × Int) := (List.range n).filterMap fun i => S.rows[i]?.map fun x => (i, x.1, x.2.1)
    have allR_step : ∀ {n : Nat} {x : LRow}, S.rows[n]? = some x → allR (n + 1) = allR n ++ [(n, x.1, x.2.1)] := fun {n x} h => by
      show (List.range (n + 1)).filterMap _ = _
      rw [List.range_succ, List.filterMap_append]
      congr 1
      simp [h]
    have allR_len : ∀ n : Nat, n ≤ S.rows.length → (allR n).length = n := fun n => by
      induction n with
      | zero => intro _; rfl
      | succ n ih =>
        intro h
        rw [allR_step (List.getElem?_eq_getElem (show n < S.rows.length by omega)), List.length_append, ih (by omega)]
        rfl
    refine ⟨fun σ' H' => Same H H' ∧ ∃ l5 ps, H' l5 = some (.lst ((ps : List Addr).map V.ref)) ∧ NumAt H' ps (allR S.rows.length) ∧ ∃ v6 v7 v8 v9, σ' = tl (some (.ref l5)) v6 v7 v8 v9, ?_, ?_⟩
    · refine ⟨_, rfl, ll, _, rfl, .inl (SqL.of e2), _, rfl, by rw [List.length_map]; omega, by rw [List.length_map]; omega, fun D hD => ?_⟩
      refine lc_it walk_range (fun j H' => Same H H' ∧ ∃ ps : List Addr, H' D = some (.lst (ps.map V.ref)) ∧ NumAt H' ps (allR j)) ⟨Same.new hD, [], upd_same, .nil⟩ (fun _ _ _ _ => trivial) ?_ ?_
      · rintro j y Hx H2 hj ⟨s2, ps, c2, N2⟩ ⟨rfl, ey⟩
        replace ey : y = .int (j : Nat) := by
          rw [ey]
          show V.int (0 + (j : Nat)) = _
          rw [Int.zero_add]
        subst ey
        have hj' : j < S.rows.length := by
          have : j < (((rs.map V.ref).length : Nat) : Int).toNat := hj
          rw [List.length_map] at this
          omega
        obtain ⟨x, ex⟩ : ∃ x, S.rows[j]? = some x := ⟨_, List.getElem?_eq_getElem hj'⟩
        obtain ⟨r, er, hx⟩ := Paired.get' R1 ex
        have hr2 := s2 _ _ hx
        have at4 : (rs.map V.ref)[j]? = some (V.ref r) := by rw [List.getElem?_map, er]; rfl
        have lp2 := PySem.Paired.length N2
        rw [allR_len j (by omega)] at lp2
        refine ⟨rfl, yesT (iteT ?_)⟩
        refine ⟨_, rfl, _, rfl, _, rfl, ll, _, _, _, rfl, rfl, SqL.of (s2 _ _ e2), atI_nat at4, r, _, _, _, rfl, rfl, .inl (.inl hr2), rfl, ?_⟩
        refine ⟨_, rfl, _, rfl, ll, _, _, _, rfl, rfl, SqL.of (s2 _ _ e2), atI_nat at4, r, _, _, _, rfl, rfl, .inl (.inl hr2), rfl, (by show 3 ≤ sizeLine; decide), ?_⟩
        intro t ht
        generalize gH3 : L2.upd _ t _ = H3
        obtain ⟨s3, c3⟩ := newS ht gH3
        clear gH3
        have e3 := s3 _ _ c2
        have N3 := N2.keep fun b u e _ => s3 _ _ e
        have up : ∀ b u, H3 b = some u → tupl u = true → upd H3 D (.lst (ps.map V.ref ++ [.ref t])) b = some u := fun b u e y => by
          rw [upd_ne fun w => by rw [w, e3] at e; cases e; cases y]
          exact e
        refine ⟨_, e3, by rw [List.length_map, sizeLine_eq]; omega, fun b u e => ?_, ps ++ [t], by rw [upd_same, List.map_append]; rfl, ?_⟩
        · rw [upd_ne (ne_of_none e hD)]
          exact s3 _ _ (s2 _ _ e)
        · rw [allR_step ex]
          exact Paired.append (N3.keep up) (.cons (up _ _ c3 rfl) .nil)
      · rintro H2 ⟨s2, ps, c2, N2⟩
        rw [show (((rs.map V.ref).length : Nat) : Int).toNat = S.rows.length by rw [List.length_map, lrs]; omega] at N2
        exact ⟨s2, D, ps, c2, N2, _, _, _, _, rfl⟩
    rintro σ H1 ⟨s01, l5, ps, el5, N1, w6, w7, w8, w9, rfl⟩
    have lps : ps.length = S.rows.length := by
      have := PySem.Paired.length N1
      rw [allR_len _ (Nat.le_refl _)] at this
      exact this
    have allR_at : ∀ {j : Nat} {x : LRow}, j < S.rows.length → S.rows[j]? = some x → (allR S.rows.length)[j]? = some (j, x.1, x.2.1) := fun {j x} hj ex => by
      have key : ∀ n : Nat, n ≤ S.rows.length → j < n → (allR n)[j]? = some (j, x.1, x.2.1) := fun n => by
        induction n with
        | zero => intro _ h; omega
        | succ n ih =>
          intro h1 h2
          rw [allR_step (List.getElem?_eq_getElem (show n < S.rows.length by omega))]
          by_cases c : j < n
          · rw [List.getElem?_append_left (by rw [allR_len n (by omega)]; exact c)]
            exact ih (by omega) c
          · have : j = n := by omega
            subst this
            rw [List.getElem?_append_right (by rw [allR_len j (by omega)]; exact Nat.le_refl _), allR_len j (by omega), Nat.sub_self]
            have e3 : S.rows[j]'(show j < S.rows.length by omega) = x := by
              have := List.getElem?_eq_getElem (show j < S.rows.length by omega)
              rw [ex] at this
              exact (Option.some.inj this).symm
            rw [e3]
            rfl
      exact key _ (Nat.le_refl _) hj
    refine ⟨fun σ' H' => Same H1 H' ∧ ∃ lr ps2, H' lr = some (.lst ((ps2 : List Addr).map V.ref)) ∧ NumAt H' ps2 (pickR true S.rows S.rows.length) ∧ ∃ v7 v8 v9, σ' = tl (some (.ref l5)) (some (.ref lr)) v7 v8 v9, ?_, ?_⟩
    · refine ⟨_, rfl, l5, rfl, ⟨_, SqL.of el5⟩, fun D hD => ?_⟩
      refine lc_it (walk_list (xs := ps.map V.ref)) (fun j H' => Same H1 H' ∧ ∃ ps2 : List Addr, H' D = some (.lst (ps2.map V.ref)) ∧ NumAt H' ps2 (pickR true S.rows j)) ⟨Same.new hD, [], upd_same, .nil⟩ (fun j H' _ z => SqL.of (z.1 _ _ el5)) ?_ ?_
      · rintro j y Hx H2 hj ⟨s2, ps2, c2, N2⟩ ⟨rfl, ey⟩
        rw [List.length_map, lps] at hj
        obtain ⟨t, et⟩ : ∃ t, ps[j]? = some t := ⟨ps[j]'(by omega), List.getElem?_eq_getElem (by omega)⟩
        rw [List.getElem?_map, et] at ey
        cases ey
        obtain ⟨x, ex⟩ : ∃ x, S.rows[j]? = some x := ⟨_, List.getElem?_eq_getElem hj⟩
        obtain ⟨z, ez, hz⟩ := Paired.get N1 et
        rw [allR_at hj ex] at ez
        cases ez
        obtain ⟨r, er, hx⟩ := Paired.get' R1 ex
        have s02 := s01.trans s2
        have lp2 := PySem.Paired.length N2
        have lpk := pickR_len (b := true) (rows := S.rows) j
        have hz2 := s2 _ _ hz
        have hr2 := s02 _ _ hx
        have at4 : (rs.map V.ref)[j]? = some (V.ref r) := by rw [List.getElem?_map, er]; rfl
        refine ⟨rfl, ?_⟩
        refine ⟨_, rfl, _, rfl, t, _, _, _, rfl, rfl, .inl (.inl hz2), rfl, ll, _, _, _, rfl, rfl, SqL.of (s02 _ _ e2), atI_nat at4, r, _, _, _, rfl, rfl, .inl (.inl hr2), rfl, _, rfl, ?_⟩
        cases cx : x.2.2 with
        | true =>
          refine iteT ⟨_, rfl, _, c2, by rw [List.length_map, sizeLine_eq]; omega, fun b u e => ?_, ps2 ++ [t], by rw [upd_same, List.map_append]; rfl, ?_⟩
          · rw [upd_ne (ne_of_none e hD)]
            exact s2 _ _ e
          · rw [pickR_step ex, if_pos cx]
            have up : ∀ b u, H2 b = some u → tupl u = true → upd H2 D (.lst (ps2.map V.ref ++ [.ref t])) b = some u := fun b u e y => by
              rw [upd_ne fun w => by rw [w, c2] at e; cases e; cases y]
              exact e
            exact Paired.append (N2.keep up) (.cons (up _ _ hz2 rfl) .nil)
        | false => exact iteF ⟨s2, ps2, c2, by rw [pickR_step ex, if_neg (by rw [cx]; decide), List.append_nil]; exact N2⟩
      · rintro H2 ⟨s2, ps2, c2, N2⟩
        rw [List.length_map, lps] at N2
        exact ⟨s2, D, ps2, c2, N2, _, _, _, rfl⟩
    rintro σ H3 ⟨s13, l6, ps6, el6, N6, w7, w8, w9, rfl⟩
    have s03 := s01.trans s13
    have el53 := s13 _ _ el5
    have N13 : NumAt H3 ps (allR S.rows.length) := N1.keep fun b u e _ => s13 _ _ e
    refine ⟨fun σ' H' => Same H3 H' ∧ ∃ lr ps2, H' lr = some (.lst ((ps2 : List Addr).map V.ref)) ∧ NumAt H' ps2 (pickR false S.rows S.rows.length) ∧ ∃ v8 v9, σ' = tl (some (.ref l5)) (some (.ref l6)) (some (.ref lr)) v8 v9, ?_, ?_⟩
    · refine ⟨_, rfl, l5, rfl, ⟨_, SqL.of el53⟩, fun D hD => ?_⟩
      refine lc_it (walk_list (xs := ps.map V.ref)) (fun j H' => Same H3 H' ∧ ∃ ps2 : List Addr, H' D = some (.lst (ps2.map V.ref)) ∧ NumAt H' ps2 (pickR false S.rows j)) ⟨Same.new hD, [], upd_same, .nil⟩ (fun j H' _ z => SqL.of (z.1 _ _ el53)) ?_ ?_
      · rintro j y Hx H2 hj ⟨s2, ps2, c2, N2⟩ ⟨rfl, ey⟩
        rw [List.length_map, lps] at hj
        obtain ⟨t, et⟩ : ∃ t, ps[j]? = some t := ⟨ps[j]'(by omega), List.getElem?_eq_getElem (by omega)⟩
        rw [List.getElem?_map, et] at ey
        cases ey
        obtain ⟨x, ex⟩ : ∃ x, S.rows[j]? = some x := ⟨_, List.getElem?_eq_getElem hj⟩
        obtain ⟨z, ez, hz⟩ := Paired.get N13 et
        rw [allR_at hj ex] at ez
        cases ez
        obtain ⟨r, er, hx⟩ := Paired.get' R1 ex
        have s02 := s03.trans s2
        have lp2 := PySem.Paired.length N2
        have lpk := pickR_len (b := false) (rows := S.rows) j
        have hz2 := s2 _ _ hz
        have hr2 := s02 _ _ hx
        have at4 : (rs.map V.ref)[j]? = some (V.ref r) := by rw [List.getElem?_map, er]; rfl
        refine ⟨rfl, ?_⟩
        refine ⟨_, rfl, _, rfl, t, _, _, _, rfl, rfl, .inl (.inl hz2), rfl, ll, _, _, _, rfl, rfl, SqL.of (s02 _ _ e2), atI_nat at4, r, _, _, _, rfl, rfl, .inl (.inl hr2), rfl, _, rfl, ?_⟩
        cases cx : x.2.2 with
        | true => exact iteF ⟨s2, ps2, c2, by rw [pickR_step ex, if_neg (by rw [cx]; decide), List.append_nil]; exact N2⟩
        | false =>
          refine iteT ⟨_, rfl, _, c2, by rw [List.length_map, sizeLine_eq]; omega, fun b u e => ?_, ps2 ++ [t], by rw [upd_same, List.map_append]; rfl, ?_⟩
          · rw [upd_ne (ne_of_none e hD)]
            exact s2 _ _ e
          · rw [pickR_step ex, if_pos cx]
            have up : ∀ b u, H2 b = some u → tupl u = true → upd H2 D (.lst (ps2.map V.ref ++ [.ref t])) b = some u := fun b u e y => by
              rw [upd_ne fun w => by rw [w, c2] at e; cases e; cases y]
              exact e
            exact Paired.append (N2.keep up) (.cons (up _ _ hz2 rfl) .nil)
      · rintro H2 ⟨s2, ps2, c2, N2⟩
        rw [List.length_map, lps] at N2
        exact ⟨s2, D, ps2, c2, N2, _, _, rfl⟩
    rintro σ H4 ⟨s34, l7, ps7, el7, N7, w8, w9, rfl⟩
    have s04 := s03.trans s34
    have el6' := s34 _ _ el6
    have N6' : NumAt H4 ps6 (pickR true S.rows S.rows.length) := N6.keep fun b u e _ => s34 _ _ e
    clear N6 el6 N1 N13 el5 el53 s13 s01 s34 s03 allR_at allR_step allR_len lps
    have L4 := L0.same s04
    have h14 := s04 _ _ h1
    refine ⟨fun σ' H' => Same H H' ∧ ∃ v5 v6 v7 v8 v9, σ' = tl v5 v6 v7 v8 v9, ?_, ?_⟩
    · refine ⟨_, rfl, p, dx, _, rfl, h14, p, kw, S, dn, un, rfl, L4, ?_⟩
      refine ⟨_, rfl, p, dx, _, rfl, h14, p, kw, S, dn, un, rfl, L4, by omega, fun H5 la pa s5 fa ea Na => ?_⟩
      have L5 := L4.same s5
      refine ⟨_, rfl, p, dx, _, rfl, s5 _ _ h14, p, kw, S, dn, un, rfl, L5, by omega, fun H6 lb pb s6 fb eb Nb => ?_⟩
      refine ⟨(by show 3 ≤ sizeLine; decide), ?_⟩
      intro q1 hq1
      generalize gH7 : L2.upd _ q1 _ = H7
      obtain ⟨s7, c7⟩ := newS hq1 gH7
      clear gH7
      refine ⟨_, rfl, _, rfl, _, rfl, (by show 3 ≤ sizeLine; decide), ?_⟩
      intro q2 hq2
      generalize gH8 : L2.upd _ q2 _ = H8
      obtain ⟨s8, c8⟩ := newS hq2 gH8
      clear gH8
      have s48 := ((s5.trans s6).trans s7).trans s8
      have s58 := (s6.trans s7).trans s8
      have s68 := s7.trans s8
      let D0 : PyData := .list [.int S.day, .list ((pickR true S.rows S.rows.length).map numDP), .list ((pickR false S.rows S.rows.length).map numDP)]
      have dpl : ∀ {l : Addr} {ps : List Addr} {b : Bool} {H0 : Hp}, Same H0 H8 → H0 l = some (.lst (ps.map V.ref)) → NumAt H0 ps (pickR b S.rows S.rows.length) → Dp K H8 (.ref l) (.list ((pickR b S.rows S.rows.length).map numDP)) := fun s e N => .lst (SqL.of (s _ _ e)) (num_dp (N.keep fun b u e _ => s _ _ e))
      have dk : DK 3 D0 := .list (.cons (.int 2 _) (.cons (numD_dk (pickR_addr ok.addr) (Nat.le_trans (pickR_len _) (by omega))) (.cons (numD_dk (pickR_addr ok.addr) (Nat.le_trans (pickR_len _) (by omega))) .nil))) (by show 3 ≤ _; decide)
      refine ⟨_, _, D0, rfl, .lst (SqL.of (s8 _ _ c7)) (.cons (.int _) (.cons (dpl s58 ea Na) (.cons (dpl s68 eb Nb) .nil))), .lst (SqL.of c8) (.cons (.int _) (.cons (dpl s48 el6' N6') (.cons (dpl s48 el7 N7) .nil))), dk.lay, dk.dep, dk.sm, fun H9 s9 => ⟨_, rfl, iteF ?_⟩⟩
      exact ⟨s04.trans (s48.trans s9), _, _, _, _, _, rfl⟩
    clear el6' N6' N7 el7 L4 h14 s04
    rintro σ H5 ⟨s05, w5, w6, w7, w8, w9, rfl⟩
    have L5 := L0.same s05
    have h15 := s05 _ _ h1
    refine ⟨fun σ' H' => Same H H' ∧ ∃ v5 v6 v7 v8 v9, σ' = tl v5 v6 v7 v8 v9, ?_, ?_⟩
    · refine ⟨_, rfl, p, dx, _, rfl, h15, p, kw, S, dn, un, rfl, L5, fun bk B5 => ?_⟩
      obtain ⟨dy, tb, ab, hb, _⟩ := id B5
      refine ⟨bk, dy, _, rfl, hb, bk, S.os, rfl, B5, fun t2 as2 ht2 O2 => ?_⟩
      refine ⟨_, rfl, ol, _, rfl, .inl ⟨SqL.of (s05 _ _ e1), ?_⟩⟩
      intro q hq
      generalize gH6 : L2.upd _ q _ = H6
      obtain ⟨s6, c6⟩ := newS hq gH6
      clear gH6
      have dkO : DK 2 (.tuple (S.os.map ordDK)) := .tuple (DK.map fun o ho => .ord (ok.good.ok o ho)) (by rw [List.length_map]; have := ok.good.len; omega)
      refine ⟨.tuple (S.os.map ordDK), .tuple (S.os.map ordDK), .tup (MF.Same.tup s6 ht2) (dkOrds (O2.mono s6)), .tup (.inl (.inl c6)) (dkOrds (O1.mono (s05.trans s6))), dkO.shaped (by decide), dkO.shaped (by decide), ?_⟩
      rw [PySem.SeqAt.eqv_refl _ dkO.lay]
      refine ⟨_, rfl, iteF ?_⟩
      have s06 := s05.trans s6
      refine ⟨_, rfl, p, dx, _, rfl, s06 _ _ h1, p, kw, S, dn, un, rfl, L0.same s06, S.rows.length, rfl, (by omega), ?_⟩
      refine ⟨_, rfl, ll, _, rfl, .inl (SqL.of (s06 _ _ e2)), rfl, _, rfl, iteND (by rw [List.length_map, lrs]) ?_⟩
      exact ⟨s06, _, _, _, _, _, rfl⟩
    rintro σ H6 ⟨s06, w5, w6, w7, w8, w9, rfl⟩
    have L6 := L0.same s06
    have h16 := s06 _ _ h1
    refine ⟨_, rfl, ll, _, rfl, .inl (SqL.of (s06 _ _ e2)), _, rfl, by rw [List.length_map]; omega, by rw [List.length_map]; omega, fun D hD => ?_⟩
    refine lc_it walk_range (fun j H' => Same H6 H' ∧ H' D = some (.lst [])) ⟨Same.new hD, upd_same⟩ (fun _ _ _ _ => trivial) ?_ ?_
    · rintro j y Hx H7 hj ⟨s7, c7⟩ ⟨rfl, ey⟩
      replace ey : y = .int (j : Nat) := by
        rw [ey]
        show V.int (0 + (j : Nat)) = _
        rw [Int.zero_add]
      subst ey
      have hj' : j < S.rows.length := by
        have : j < (((rs.map V.ref).length : Nat) : Int).toNat := hj
        rw [List.length_map] at this
        omega
      obtain ⟨x, ex⟩ : ∃ x, S.rows[j]? = some x := ⟨_, List.getElem?_eq_getElem hj'⟩
      obtain ⟨r, er, hx⟩ := Paired.get' R1 ex
      have s07 := s06.trans s7
      have at4 : (rs.map V.ref)[j]? = some (V.ref r) := by rw [List.getElem?_map, er]; rfl
      refine ⟨rfl, ?_⟩
      refine ⟨_, rfl, p, rfl, _, rfl, ⟨dx, _, s7 _ _ h16⟩, p, kw, S, dn, un, j, x, rfl, L6.same s7, ex, fun r2 hr2 => ?_⟩
      refine ⟨_, rfl, _, rfl, ll, _, _, _, rfl, rfl, SqL.of (s07 _ _ e2), atI_nat at4, ?_⟩
      have dk : DK 1 (rowDP x) := .tuple (.cons (.str 0 (ok.addr x (List.mem_of_getElem? ex))) (.cons (.int 0 _) (.cons (.bl 0 _) .nil))) (by show 3 ≤ _; decide)
      have dp : ∀ {a : Addr}, H7 a = some (.tup [.str x.1, .int x.2.1, .bl x.2.2]) → Dp K H7 (.ref a) (rowDP x) := fun h => .tup (.inl (.inl h)) (.cons (.str _) (.cons (.int _) (.cons (.bl _) .nil)))
      refine ⟨_, _, rowDP x, rfl, dp hr2, dp (s07 _ _ hx), dk.lay, Nat.le_trans dk.dep (by decide), dk.sm, fun H8 s8 => ⟨_, rfl, iteF ?_⟩⟩
      exact ⟨s7.trans s8, s8 _ _ c7⟩
    · rintro H7 ⟨s7, c7⟩
      refine ⟨Nat.zero_le _, ?_⟩
      intro q hq
      generalize gH8 : L2.upd _ q _ = H8
      obtain ⟨s8, c8⟩ := newS hq gH8
      clear gH8
      refine ⟨.list [], .list [], .lst (SqL.of (s8 _ _ c7)) .nil, .lst (SqL.of c8) .nil, by decide +kernel, by decide +kernel, ?_⟩
      rw [show PyData.eqv (.list []) (.list []) = true from by decide +kernel]
      exact kk _ ((s06.trans s7).trans s8)
end

end MF
set_option Elab.async false
set_option linter.all false
set_option maxRecDepth 100000
set_option maxHeartbeats 2000000
set_option pp.maxSteps 600
namespace MF
open PySem PySem.Spec PyProof.Rows L2 StX
section
variable {P : Program} {w : World} {K : PySem.W.Frag} {mg : Str → Option Value} {base : Heap} {C_Book C_LivePost C_MailError C_InvalidOperation C_InvalidOrder C_UnknownOrder C_NotHolding C_DecodeError C_NotationError C_UnknownLetter C_InvalidAddress C_InvalidDay C_InvalidNumber C_Contradiction C_InvalidCount : Addr}
theorem kp_of {H H' : Hp} {p C dx : Addr} {fs : List (Str × V)} (hp : H p = some (.ins C dx fs)) (k : ∀ b u, H b = some u → b ≠ p → H' b = some u) : ∀ {b : Addr} {o : HO}, H b = some o → (∀ C dx fs, o ≠ .ins C dx fs) → H' b = some o := fun {b o} e n => k _ _ e fun w => by
  rw [w, hp] at e
  exact n _ _ _ (Option.some.inj e).symm
theorem tabs_kp {TT : List (Addr × Str)} {H H' : Hp} {p C dx : Addr} {fs : List (Str × V)} (t : LamX.Tabs TT H) (hp : H p = some (.ins C dx fs)) (k : ∀ b u, H b = some u → b ≠ p → H' b = some u) : LamX.Tabs TT H' := fun pp hpp => by
  have kl := fun {b : Addr} {o : HO} => kp_of hp k (b := b) (o := o)
  obtain ⟨ps, h1, h2, h3⟩ := t pp hpp
  refine ⟨ps, kl h1 (fun _ _ _ z => by cases z), h2, fun pos cv hc => ?_⟩
  obtain ⟨c, e1, e2⟩ := h3 pos cv hc
  exact ⟨c, e1, kl e2 (fun _ _ _ z => by cases z)⟩
theorem row_kp {H H' : Hp} {rw sc p C dx : Addr} {ns : List Int} {fs : List (Str × V)} (R : RowAt K H rw sc ns) (hp : H p = some (.ins C dx fs)) (k : ∀ b u, H b = some u → b ≠ p → H' b = some u) : RowAt K H' rw sc ns := by
  have kl := fun {b : Addr} {o : HO} => kp_of hp k (b := b) (o := o)
  obtain ⟨j, m, r, h1, h2, h3⟩ := R
  refine ⟨j, m, r, kl h1 (fun _ _ _ z => by cases z), ?_, h3⟩
  rcases h2 with ⟨h | ⟨o, h⟩, n⟩ | h
  · exact .inl ⟨.inl (kl h (fun _ _ _ z => by cases z)), n⟩
  · exact .inl ⟨.inr ⟨o, kl h (fun _ _ _ z => by cases z)⟩, n⟩
  · exact .inr h
theorem LivO.ext {CB CL : Addr} {H H' : Hp} {p : Addr} {kw : Kpt} {S : Scn} {dn un : List Ent} (h : LivO K CB CL H p kw S dn un) (e : LamX.ExtN H H') : LivO K CB CL H' p kw S dn un := by
  obtain ⟨dx, sc, d, u, h1⟩ := h.ins
  exact h.keep (fun o z => e _ _ z (fun ps y => by rw [y, h1] at z; cases z)) ⟨fun b o z y => e _ _ z (fun ps q => by rw [q] at y; cases y), fun bk os B => book_extN B e⟩
theorem LivO.keepR {CB CL : Addr} {H H' : Hp} {p rw sn : Addr} {ns : List Int} {kw : Kpt} {S : Scn} {dn un : List Ent} (h : LivO K CB CL H p kw S dn un) (R : RowAt K H rw sn ns) (k : KeepR rw H H') : LivO K CB CL H' p kw S dn un := by
  obtain ⟨dx, sc, d, u, h1⟩ := h.ins
  refine h.keep (fun o z => k _ _ z (fun w => ?_)) (KB.row R k)
  obtain ⟨xs, q⟩ := R.ex
  rw [w, q] at h1
  cases h1
theorem vD_dp {H : Hp} {v : V} (h : flatI v) : Dp K H v (vD v) := by
  cases v with
  | int i => exact .int _
  | bl b => exact .bl _
  | non => exact .non
  | _ => cases h
theorem vD_dk {v : V} (h : flatI v) (n : Nat) : DK n (vD v) := by
  cases v with
  | int i => exact .int n i
  | bl b => exact .bl n b
  | non => exact .non n
  | _ => cases h
theorem vDs_dp {H : Hp} : ∀ {vs : List V}, (∀ v ∈ vs, flatI v) → DpAll K H vs (vs.map vD)
  | [], _ => .nil
  | v :: vs, h => .cons (vD_dp (h v List.mem_cons_self)) (vDs_dp fun u hu => h u (List.mem_cons_of_mem _ hu))
theorem errT_str (e : Err) : PyData.strOk (errT e).1 = true := by cases e <;> (simp only [errT]; decide +kernel)
theorem errT_len (e : Err) : (errT e).2.length ≤ 2 := by cases e <;> simp [errT]
theorem told_dp {H : Hp} {p : Addr} {e : Err} (h : ToldAt H p e) (f : e.Flat) : Dp K H (.ref p) (errD e) := by
  unfold ToldAt at h
  unfold errD
  unfold Err.Flat at f
  generalize (errT e).2 = vs at h f
  cases vs with
  | nil => exact .tup (.inl (.inl h)) (.cons (.str _) (.cons (.str _) .nil))
  | cons v vs =>
    obtain ⟨l, h1, h2⟩ := h
    exact .tup (.inl (.inl h1)) (.cons (.str _) (.cons (.str _) (.cons (.lst (SqL.of h2) (vDs_dp f)) .nil)))
theorem errD_dk {e : Err} (f : e.Flat) : DK 3 (errD e) := by
  have hs := errT_str e
  have hl := errT_len e
  unfold errD
  unfold Err.Flat at f
  generalize (errT e).2 = vs at f hl
  cases vs with
  | nil => exact .tuple (.cons (.strk 2 (by decide +kernel)) (.cons (.strk 2 hs) .nil)) (by show 2 ≤ _; decide)
  | cons v vs => exact .tuple (.cons (.strk 2 (by decide +kernel)) (.cons (.strk 2 hs) (.cons (.list (DK.map (fun u hu => vD_dk (f u hu) 1)) (by rw [List.length_map]; omega)) .nil))) (by show 3 ≤ _; decide)
theorem due_dp {H : Hp} {v : V} {r : Rs} (h : DueAt H v r) (f : ∀ e, r = .err e → e.Flat) : Dp K H v (dueD r) := by
  cases r with
  | num n => rw [show v = .int (n : Nat) from h]; exact .int _
  | day d => rw [show v = .int d from h]; exact .int _
  | nums ns =>
    obtain ⟨l, rfl, e⟩ := h
    exact .lst (SqL.of e) (DpAll.ints ns)
  | err e =>
    obtain ⟨p, rfl, t⟩ := h
    exact told_dp t (f e rfl)
theorem res_dp {H H' : Hp} {v : V} {r : Rs} (h : ResV H H' v r) : Dp K H' v (dueD r) := by
  cases r with
  | num n => rw [show v = .int (n : Nat) from h]; exact .int _
  | day d => rw [show v = .int d from h]; exact .int _
  | nums ns =>
    obtain ⟨l, rfl, _, e⟩ := h
    exact .lst (SqL.of e) (DpAll.ints ns)
  | err e => exact h.elim
def Rs.few : Rs → Prop
  | .nums ns => ns.length ≤ 1000000
  | _ => True
theorem sort2_len (l : List (Int × Int)) : (sort2 l).length ≤ l.length := by
  unfold sort2
  split
  · rename_i q
    exact Nat.le_of_eq (Classical.choose_spec q).2.perm.length_eq
  · exact Nat.zero_le _
theorem actF_few {S : Scn} {d : Deed} (h : S.rows.length ≤ 1000000) : (actF S d).1.few := by
  cases d with
  | post y =>
    cases c : isAddrB y with
    | false => rw [actF_post0 c]; exact True.intro
    | true => rw [actF_post1 c]; exact True.intro
  | pass v =>
    cases c : isIntB v 0 400 with
    | false => rw [actF_pass0 c]; exact True.intro
    | true =>
      rw [actF_pass1 c]
      show (List.map _ _).length ≤ _
      rw [List.length_map]
      exact Nat.le_trans (sort2_len _) (Nat.le_trans (newP_len _ _ _) h)
  | give o =>
    cases o with
    | none => exact True.intro
    | some o =>
      by_cases c : (decide (1 ≤ o.way) && decide (o.way ≤ 30)) = true ∧ (S.os.any fun p => overB p o) = false
      · rw [actF_give1 c.1 c.2]; exact True.intro
      · rw [actF_give0 c]; exact True.intro
  | stop v =>
    cases c : isIntB v 0 ((S.os.length : Int) - 1) with
    | false => rw [actF_stop0 c]; exact True.intro
    | true =>
      obtain ⟨e, h0, h1⟩ := isIntB_int c
      obtain ⟨n, en⟩ := Int.eq_ofNat_of_zero_le h0
      rw [en] at e h1
      subst e
      have hn : n < S.os.length := by have : ((n : Nat) : Int) ≤ _ := h1; omega
      rw [actF_stop1 (List.getElem?_eq_getElem hn)]
      split <;> exact True.intro
theorem due_dk {r : Rs} (f : ∀ e, r = .err e → e.Flat) (fw : r.few) : DK 3 (dueD r) := by
  cases r with
  | num n => exact .int 3 _
  | day d => exact .int 3 _
  | nums ns => exact .list (DK.map fun i _ => .int 2 i) (by rw [List.length_map]; exact fw)
  | err e => exact errD_dk (f e rfl)
def argD : Deed → PyData
  | .post y => vD y
  | .pass v => vD v
  | .give none => .none
  | .give (some o) => ordDK o
  | .stop v => vD v
def deedD (d : Deed) : PyData := .tuple [.str d.word, argD d]
theorem arg_dp {H : Hp} {y : V} {d : Deed} (h : ArgAt K H y d) (l : d.Law) : Dp K H y (argD d) := by
  cases d with
  | post z =>
    rw [show y = z from h]
    rcases l with ⟨x, _, rfl⟩ | rfl | rfl | rfl | rfl
    · exact .str _
    · exact .str _
    · exact .str _
    · exact .non
    · exact .int _
  | pass z => rw [show y = z from h]; exact vD_dp l
  | give o =>
    cases o with
    | none => rw [show y = .non from h]; exact .non
    | some o =>
      obtain ⟨a, rfl, oa⟩ := h
      exact .tup oa (.cons (.str _) (.cons (.str _) (.cons (.int _) (.cons (.int _) (.cons (.int _) .nil)))))
  | stop z => rw [show y = z from h]; exact vD_dp l
theorem word_ok (d : Deed) : PyData.strOk d.word = true := by cases d <;> (simp only [Deed.word]; decide +kernel)
theorem arg_dk {d : Deed} (l : d.Law) : DK 1 (argD d) := by
  cases d with
  | post z =>
    rcases l with ⟨x, hx, rfl⟩ | rfl | rfl | rfl | rfl
    · exact .str 1 (five_addr x hx)
    · exact .strk 1 (by decide +kernel)
    · exact .strk 1 (by decide +kernel)
    · exact .non 1
    · exact .int 1 _
  | pass z => exact vD_dk l 1
  | give o =>
    cases o with
    | none => exact .non 1
    | some o =>
      have r : RawW o := l
      exact .tuple (.cons (.str 0 r.as) (.cons (.str 0 r.at_) (.cons (.int 0 _) (.cons (.int 0 _) (.cons (.int 0 _) .nil))))) (by show 5 ≤ _; decide)
  | stop z => exact vD_dk l 1
theorem deed_dk {d : Deed} (l : d.Law) : DK 2 (deedD d) := .tuple (.cons (.strk 1 (word_ok d)) (.cons (arg_dk l) .nil)) (by show 2 ≤ _; decide)
theorem deeds_dp {H : Hp} {qs : List Addr} {ds : List Deed} (h : PySem.Paired (DeedAt K H) qs ds) (l : ∀ d ∈ ds, d.Law) : DpAll K H (qs.map V.ref) (ds.map deedD) := by
  induction h with
  | nil => exact .nil
  | cons e _ ih =>
    obtain ⟨y, e1, e2⟩ := e
    exact .cons (.tup (.inl (.inl e1)) (.cons (.str _) (.cons (arg_dp e2 (l _ List.mem_cons_self)) .nil))) (ih fun d hd => l d (List.mem_cons_of_mem _ hd))
theorem deeds_dk {ds : List Deed} (l : ∀ d ∈ ds, d.Law) (hl : ds.length ≤ 1000000) : DK 3 (.list (ds.map deedD)) := .list (DK.map fun d hd => deed_dk (l d hd)) (by rw [List.length_map]; exact hl)
end

end MF
set_option Elab.async false
set_option linter.all false
set_option maxRecDepth 100000
set_option maxHeartbeats 2000000
set_option pp.maxSteps 600
namespace MF
open PySem PySem.Spec PyProof.Rows L2 StX
section
variable {P : Program} {w : World} {K : PySem.W.Frag} {mg : Str → Option Value} {base : Heap} {C_Book C_LivePost C_MailError C_InvalidOperation C_InvalidOrder C_UnknownOrder C_NotHolding C_DecodeError C_NotationError C_UnknownLetter C_InvalidAddress C_InvalidDay C_InvalidNumber C_Contradiction C_InvalidCount : Addr}
structure Bd41 (i : Nat) (S : Scn) (dn : List Ent) : Prop where
  ok : S.Ok
  rows : S.rows.length ≤ i
  os : S.os.length ≤ 6 + i
  dnl : dn.length ≤ i
  d0 : 0 ≤ S.day
  d1 : S.day ≤ 400 * (i : Int)
  law : ∀ x ∈ dn, x.1.Law
theorem Bd41.bnd {i : Nat} {S : Scn} {dn : List Ent} (h : Bd41 i S dn) (hi : i ≤ 20) : Bnd S dn := ⟨h.ok.good, by have := h.rows; omega, by have := h.dnl; omega, by have := h.os; omega⟩
theorem Bd41.step {i : Nat} {S : Scn} {dn : List Ent} (h : Bd41 i S dn) (hi : i ≤ 20) {d : Deed} (dl : d.Law) : Bd41 (i + 1) (actF S d).2 (dn ++ [(d, S, (actF S d).2)]) := by
  have st := actF_ok h.ok dl.ok (h.bnd hi).os
  have h1 := h.rows
  have h2 := h.os
  have h3 := h.dnl
  have h4 := h.d0
  have h5 := h.d1
  have h6 := st.rows
  have h7 := st.os
  have h8 := st.d0
  have h9 := st.d1
  refine ⟨st.ok, by omega, by omega, by rw [List.length_append]; show dn.length + 1 ≤ _; omega, by omega, by omega, fun x hx => ?_⟩
  rcases List.mem_append.mp hx with z | z
  · exact h.law x z
  · rw [List.mem_singleton.mp z]
    exact dl
theorem Bd41.up {i : Nat} {S : Scn} {dn : List Ent} (h : Bd41 i S dn) : Bd41 (i + 1) S dn := ⟨h.ok, by have := h.rows; omega, by have := h.os; omega, by have := h.dnl; omega, h.d0, by have := h.d1; omega, h.law⟩
theorem rk_live {e : Err} (h : e.live) : RK e := by cases e <;> first | exact True.intro | exact False.elim h
theorem ToldAt.kl {H H' : Hp} {p : Addr} {e : Err} (h : ToldAt H p e) (k : ∀ {b : Addr} {u : HO}, H b = some u → (∀ C dx fs, u ≠ .ins C dx fs) → (∀ ps, u ≠ .tbl ps) → H' b = some u) : ToldAt H' p e := by
  unfold ToldAt at h ⊢
  split at h
  · exact k h (fun _ _ _ z => by cases z) (fun _ z => by cases z)
  · obtain ⟨l, h1, h2⟩ := h
    exact ⟨l, k h1 (fun _ _ _ z => by cases z) (fun _ z => by cases z), k h2 (fun _ _ _ z => by cases z) (fun _ z => by cases z)⟩
theorem DueAt.kl {H H' : Hp} {v : V} {r : Rs} (h : DueAt H v r) (k : ∀ {b : Addr} {u : HO}, H b = some u → (∀ C dx fs, u ≠ .ins C dx fs) → (∀ ps, u ≠ .tbl ps) → H' b = some u) : DueAt H' v r := by
  cases r with
  | num n => exact h
  | day d => exact h
  | nums ns =>
    obtain ⟨l, e, h⟩ := h
    exact ⟨l, e, k h (fun _ _ _ z => by cases z) (fun _ z => by cases z)⟩
  | err e =>
    obtain ⟨p, e, h⟩ := h
    exact ⟨p, e, h.kl k⟩
theorem bd_take {S0 : Scn} {D : List Deed} (b0 : Bd41 0 S0 []) (law : ∀ d ∈ D, d.Law) (hl : D.length ≤ 20) : ∀ k, k ≤ D.length → Bd41 k (scnF S0 (D.take k)) (entF S0 (D.take k)) := by
  intro k
  induction k with
  | zero => intro _; exact b0
  | succ k ih =>
    intro hk
    obtain ⟨d, ed⟩ : ∃ d, D[k]? = some d := ⟨D[k], by simp [hk]⟩
    have e : D.take (k + 1) = D.take k ++ [d] := by rw [List.take_add_one, ed]; rfl
    have st := (ih (by omega)).step (by omega) (law d (List.mem_of_getElem? ed))
    rw [e, scnF_snoc, entF_snoc, scnF_snoc]
    exact st
end

end MF
set_option Elab.async false
set_option linter.all false
set_option maxRecDepth 100000
set_option maxHeartbeats 2000000
set_option pp.maxSteps 600
namespace MF
open PySem PySem.Spec PyProof.Rows L2 StX
section
variable {P : Program} {w : World} {K : PySem.W.Frag} {mg : Str → Option Value} {base : Heap} {C_Book C_LivePost C_MailError C_InvalidOperation C_InvalidOrder C_UnknownOrder C_NotHolding C_DecodeError C_NotationError C_UnknownLetter C_InvalidAddress C_InvalidDay C_InvalidNumber C_Contradiction C_InvalidCount : Addr}
theorem once_cases {S : Scn} : ∀ ds : List Deed, goodF S ds ∨ ∃ i d e, ds[i]? = some d ∧ goodF S (ds.take i) ∧ (actF (scnF S (ds.take i)) d).1 = .err e := by
  intro ds
  have h : ∀ k, k ≤ ds.length → goodF S (ds.take k) ∨ ∃ i d e, ds[i]? = some d ∧ goodF S (ds.take i) ∧ (actF (scnF S (ds.take i)) d).1 = .err e := by
    intro k
    induction k with
    | zero => intro _; exact .inl goodF_nil
    | succ k ih =>
      intro hk
      rcases ih (by omega) with g | g
      · obtain ⟨d, ed⟩ : ∃ d, ds[k]? = some d := ⟨ds[k], by simp [hk]⟩
        have e : ds.take (k + 1) = ds.take k ++ [d] := by rw [List.take_add_one, ed]; rfl
        cases q : (actF (scnF S (ds.take k)) d).1 with
        | err x => exact .inr ⟨k, d, x, ed, g, q⟩
        | num n => exact .inl (by rw [e, goodF_snoc, q]; exact ⟨g, rfl⟩)
        | nums n => exact .inl (by rw [e, goodF_snoc, q]; exact ⟨g, rfl⟩)
        | day n => exact .inl (by rw [e, goodF_snoc, q]; exact ⟨g, rfl⟩)
      · exact .inr g
  have := h ds.length (Nat.le_refl _)
  rwa [List.take_length] at this
theorem DueAt.up {H H' : Hp} {R : Addr} {v : V} {r : Rs} (h : DueAt H v r) (g : r.bad = false) (n : v ≠ .ref R) (k : ∀ b u, H b = some u → b ≠ R → H' b = some u) : DueAt H' v r := by
  cases r with
  | num n => exact h
  | day d => exact h
  | nums ns =>
    obtain ⟨l, e, h⟩ := h
    exact ⟨l, e, k _ _ h fun z => n (by rw [e, z])⟩
  | err e => cases g
def spOnce (K : PySem.W.Frag) : Sp := fun vs H Q _ => ∃ B sc dl S qs ds, vs = [V.ref sc, .ref dl] ∧ LawSc K B H sc S ∧ H dl = some (.lst ((qs : List Addr).map V.ref)) ∧ PySem.Paired (DeedAt K H) qs ds ∧ (∀ d ∈ ds, d.Law) ∧ Bd41 0 S [] ∧ ds.length ≤ 20 ∧
  (goodF S ds → ∀ H' t l vs sc', Same H H' → H' t = some (.tup [.ref l, .ref sc']) → H' l = some (.lst vs) → H l = none → PySem.Paired (DueAt H') vs (resF S ds) → LawSc K (fun a => B a ∨ H a = none) H' sc' (scnF S ds) → Q (.ref t) H') ∧
  (∀ H' t p i d e, Same H H' → H' t = some (.tup [.ref p, .ref sc]) → ds[i]? = some d → goodF S (ds.take i) → (actF (scnF S (ds.take i)) d).1 = .err e → ToldAt H' p e → Q (.ref t) H')
theorem ok_once (T : Top K mg C_Book C_LivePost C_MailError C_InvalidOperation C_InvalidOrder C_UnknownOrder C_NotHolding C_DecodeError C_NotationError C_UnknownLetter C_InvalidAddress C_InvalidDay C_InvalidNumber C_Contradiction C_InvalidCount) : GFn P w K mg base CX0 4 "_law_at_once" (spOnce K) := by
  have G__law_after : GFn P w K mg base CX0 3 "_law_after" (spAfterF K) := ok_afterF T
  have G__law_is_error : GFn P w K mg base CX0 1 "_law_is_error" (spIsErr K) := ok_is_err T
  refine T.d__law_at_once.fn fun f fd F => F.ok sc__law_at_once (fun vs H Q E h => ?_) (fun cdv A outer s H vs Q E hr h => ?_)
  · obtain ⟨B, sc, dl, S, qs, ds, rfl, _⟩ := h
    rfl
  · obtain ⟨B, sc, dl, S, qs, ds, rfl, L, hl, Dq, law, b0, few, kG, kB⟩ := h
    refine ⟨_, (pss_cons (ps_par (i := 2) (j := 3) (by rfl) sc__law_at_once.nd rfl rfl (by decide) rfl rfl (pa_cons (pe_lst pa_nil) (pa_cons (pv 0) pa_nil)) (by rfl))
  (pss_cons (ps_for PassesOwn.never rfl (pi_list (pv 1)) (pg_name (i := 4) sc__law_at_once.nd rfl (Or.inl rfl))
  (pss_cons (ps_asg (pe_g G__law_after (hr.mono (by decide)) (pa_cons (pv 0) (pa_cons (pv 4) pa_nil))) (pg_tup rfl (pgs_cons (pg_name (i := 5) sc__law_at_once.nd rfl (Or.inl rfl)) (pgs_cons (pg_name (i := 0) sc__law_at_once.nd rfl (Or.inl rfl)) pgs_nil))))
  (pss_cons (ps_if (pt_val (pe_g G__law_is_error (hr.mono (by decide)) (pa_cons (pv 5) pa_nil)))
  (pss_one (ps_ret (pe_tup (pa_cons (pv 5) (pa_cons (pv 3) pa_nil)))))
  pss_nil)
  (pss_one (ps_expr (pe_bm PySem.F.plainAttrs_list PySem.F.slot_list_append PySem.F.type_list_append mt_append (pv 2) (pa_cons (pv 5) pa_nil)))))))
  (pss_one (ps_ret (pe_tup (pa_cons (pv 2) (pa_cons (pv 0) pa_nil))))))), ?_⟩
    have lq : qs.length = ds.length := PySem.Paired.length Dq
    refine ⟨Nat.zero_le _, ?_⟩
    intro R hR
    generalize gH0 : L2.upd _ R _ = H0
    obtain ⟨s0, e0⟩ := newS hR gH0
    clear gH0
    refine ⟨_, rfl, ?_⟩
    let tl (v0 v4 v5 : Option V) : L2.St := [v0, some (.ref dl), some (.ref R), some (.ref sc), v4, v5]
    let B' : Addr → Prop := fun a => (B a ∨ H a = none) ∧ a ≠ R
    have L0 : LawSc K B' H0 sc S := by
      obtain ⟨ol, as, ll, rs, a1, a2, a3, a4, a5, a6, a7⟩ := L.same s0
      obtain ⟨_, _, _, _, b1, b2, _, b4, _⟩ := id L
      rw [s0 _ _ b1] at a1
      cases a1
      exact ⟨_, as, _, rs, s0 _ _ b1, a2, a3, a4, a5, ⟨.inl a6, ne_of_none b2 hR⟩, ⟨.inl a7, ne_of_none b4 hR⟩⟩
    refine ⟨_, _, rfl, _, rfl, dl, rfl, ⟨_, SqL.of (s0 _ _ hl)⟩, for_it (walk_list (xs := qs.map V.ref)) (fun i σ H' => Same H H' ∧ (∃ vs, H' R = some (.lst vs) ∧ PySem.Paired (fun v r => DueAt H' v r ∧ v ≠ .ref R ∧ r.bad = false) vs (resF S (ds.take i))) ∧ (∃ sci v4 v5, LawSc K B' H' sci (scnF S (ds.take i)) ∧ σ = tl (some (.ref sci)) v4 v5) ∧ goodF S (ds.take i)) ⟨s0, ⟨[], e0, .nil⟩, ⟨sc, _, _, L0, rfl⟩, goodF_nil⟩ (fun i σ H' _ ⟨s1, _⟩ => SqL.of (s1 _ _ hl)) ?_ ?_⟩
    · rintro i y σ Hx H1 hi ⟨s1, ⟨vs, er, R1⟩, ⟨sci, v4, v5, L1, rfl⟩, g1⟩ ⟨rfl, ey⟩
      rw [List.length_map] at hi
      obtain ⟨q, eq⟩ : ∃ q, qs[i]? = some q := ⟨qs[i], by simp [hi]⟩
      rw [List.getElem?_map, eq] at ey
      cases ey
      obtain ⟨d, ed, hd⟩ := Paired.get Dq eq
      have bd := bd_take b0 law few i (by omega)
      have tk1 : ds.take (i + 1) = ds.take i ++ [d] := by rw [List.take_add_one, ed]; rfl
      have lvs := PySem.Paired.length R1
      rw [resF_len, List.length_take] at lvs
      refine ⟨_, rfl, _, rfl, B', sci, q, _, d, rfl, L1, hd.kt (fun b u e _ => s1 _ _ e), law d (List.mem_of_getElem? ed), bd.ok.good, by have := bd.os; omega, by have := bd.rows; omega, fun H2 t due sc' s2 ht et da ls fr => ?_⟩
      refine ⟨t, _, rfl, .inl (.inl et), rfl, _, _, rfl, _, _, rfl, rfl, ?_⟩
      refine ⟨_, rfl, due, _, rfl, da, fun H3 s3 => ?_⟩
      have s02 := s1.trans s2
      have s03 := s02.trans s3
      have er3 := s3 _ _ (s2 _ _ er)
      refine ⟨_, rfl, ?_⟩
      cases eb : (actF (scnF S (ds.take i)) d).1.bad with
      | true =>
        refine iteT ?_
        obtain ⟨e, ee⟩ := Rs.good eb
        rw [ee] at da
        obtain ⟨p, rfl, tp⟩ := da
        refine ⟨_, rfl, _, rfl, (by show 2 ≤ sizeLine; decide), ?_⟩
        intro t2 ht2
        generalize gH4 : L2.upd _ t2 _ = H4
        obtain ⟨s4, e4⟩ := newS ht2 gH4
        clear gH4
        exact kB H4 t2 p i d e (s03.trans s4) e4 ed g1 ee (tp.kl fun e _ _ => s4 _ _ (s3 _ _ e))
      | false =>
        refine iteF ?_
        have nR : due ≠ .ref R := fun z => by
          subst z
          cases er' : (actF (scnF S (ds.take i)) d).1 with
          | num n => rw [er'] at da; cases (show V.ref R = _ from da)
          | day n => rw [er'] at da; cases (show V.ref R = _ from da)
          | nums ns =>
            have h1 := fr ns er' R rfl
            rw [er] at h1
            cases h1
          | err e => rw [er'] at eb; cases eb
        refine ⟨_, rfl, .inl ⟨rfl, _, SqL.of er3⟩, _, rfl, R, _, _, rfl, rfl, er3, by rw [sizeLine_eq]; omega, ?_⟩
        have g4 : ∀ b u, H3 b = some u → b ≠ R → upd H3 R (.lst (vs ++ [due])) b = some u := fun b u e nb => by rw [upd_ne nb]; exact e
        have e4 : upd H3 R (.lst (vs ++ [due])) R = some (.lst (vs ++ [due])) := upd_same
        generalize upd H3 R (.lst (vs ++ [due])) = H4 at g4 e4
        have g14 : ∀ b u, H1 b = some u → b ≠ R → H4 b = some u := fun b u e nb => g4 _ _ (s3 _ _ (s2 _ _ e)) nb
        have kt4 : ∀ b u, H3 b = some u → tupl u = true → H4 b = some u := fun b u e y => g4 _ _ e (ne_of e er3 (by intro z; rw [z] at y; cases y))
        refine ⟨fun b u e => g4 _ _ (s03 _ _ e) (ne_of_none e hR), ⟨vs ++ [due], e4, ?_⟩, ⟨sc', _, _, ?_, rfl⟩, by rw [tk1, goodF_snoc]; exact ⟨g1, eb⟩⟩
        · rw [tk1, resF_snoc]
          exact Paired.append (PySem.Paired.mono (fun v r h => ⟨h.1.up h.2.2 h.2.1 g14, h.2⟩) R1) (.cons ⟨(da.kl fun e _ _ => s3 _ _ e).up eb nR g4, nR, eb⟩ .nil)
        · rw [tk1, scnF_snoc]
          have L3 : LawSc K B' H3 sc' (actF (scnF S (ds.take i)) d).2 := (ls.same s3).imp fun a h => by
            rcases h with h | h
            · exact h
            · refine ⟨.inr ?_, fun z => by rw [z, er] at h; cases h⟩
              cases q : H a with
              | none => rfl
              | some o => rw [s1 _ _ q] at h; cases h
          exact L3.keep kt4 (fun b xs e h => g4 _ _ e h.2)
    · rintro σ H1 ⟨s1, ⟨vs, er, R1⟩, ⟨sci, v4, v5, L1, rfl⟩, g1⟩
      rw [List.length_map, lq, List.take_length] at R1 L1 g1
      refine ⟨_, rfl, _, rfl, (by show 2 ≤ sizeLine; decide), ?_⟩
      intro t ht
      generalize gH2 : L2.upd _ t _ = H2
      obtain ⟨s2, e2⟩ := newS ht gH2
      clear gH2
      refine kG g1 H2 t R vs sci (s1.trans s2) e2 (s2 _ _ er) hR (PySem.Paired.mono (fun v r h => h.1.kl fun e _ _ => s2 _ _ e) R1) ((L1.same s2).imp fun a h => h.1)
end

end MF
set_option Elab.async false
set_option linter.all false
set_option maxRecDepth 100000
set_option maxHeartbeats 2000000
set_option pp.maxSteps 600
namespace MF
open PySem PySem.Spec PyProof.Rows L2 StX
section
variable {P : Program} {w : World} {K : PySem.W.Frag} {mg : Str → Option Value} {base : Heap} {C_Book C_LivePost C_MailError C_InvalidOperation C_InvalidOrder C_UnknownOrder C_NotHolding C_DecodeError C_NotationError C_UnknownLetter C_InvalidAddress C_InvalidDay C_InvalidNumber C_Contradiction C_InvalidCount : Addr}
structure ArgD (K : PySem.W.Frag) (mg : Str → Option Value) (w : World) : Prop where
  ex : ∃ d es n, mg "ARGUMENTS" = some (.ref d) ∧ KDict K w d es n ∧ (∀ x : Deed, ∃ t, PySem.W.nsIn K d x.word = some (some (.int 1 t))) ∧ PySem.W.nsIn K d "undo" = some none
def oddT : List V → Prop
  | [] => True
  | .str z :: rest => (∃ d : Deed, z = d.word) ∧ rest.length ≠ 1 ∨ z = "undo"
  | .int _ :: _ => True
  | _ => False
def OpIs (K : PySem.W.Frag) (H : Hp) (y : V) : Bool → Prop
  | true => ∃ q d, y = .ref q ∧ DeedAt K H q d
  | false => (∃ a vs, y = .ref a ∧ H a = some (.tup vs) ∧ vs.length ≤ 1000 ∧ oddT vs) ∨ (∃ a z rest, y = .ref a ∧ H a = some (.lst (.str z :: rest)) ∧ rest.length ≤ 1000) ∨ notSeq y = true
theorem OpIs.mono {H H' : Hp} {y : V} {b : Bool} (h : OpIs K H y b) (s : Same H H') : OpIs K H' y b := by
  cases b with
  | true =>
    obtain ⟨q, d, e, h⟩ := h
    exact ⟨q, d, e, h.kt fun b u e _ => s _ _ e⟩
  | false =>
    rcases h with ⟨a, vs, e, h, r⟩ | ⟨a, z, rest, e, h, r⟩ | h
    · exact .inl ⟨a, vs, e, s _ _ h, r⟩
    · exact .inr (.inl ⟨a, z, rest, e, s _ _ h, r⟩)
    · exact .inr (.inr h)
def spIsOp (K : PySem.W.Frag) : Sp := fun vs H Q _ => ∃ y b, vs = [y] ∧ OpIs K H y b ∧ ∀ H', Same H H' → Q (.bl b) H'
theorem ok_is_operation (T : Top K mg C_Book C_LivePost C_MailError C_InvalidOperation C_InvalidOrder C_UnknownOrder C_NotHolding C_DecodeError C_NotationError C_UnknownLetter C_InvalidAddress C_InvalidDay C_InvalidNumber C_Contradiction C_InvalidCount) (AG : ArgD K mg w) : GFn P w K mg base CX0 1 "is_operation" (spIsOp K) := by
  obtain ⟨dA, esA, nA, hA, kA, vA, uA⟩ := AG.ex
  refine T.d_is_operation.fn fun f fd F => F.ok sc_is_operation (fun vs H Q E h => ?_) (fun cdv A outer s H vs Q E hr h => ?_)
  · obtain ⟨y, b, rfl, _⟩ := h
    rfl
  · obtain ⟨y, b, rfl, oy, kk⟩ := h
    refine ⟨_, (pss_one (ps_matchS rfl sc_is_operation.nd (pv 0) (i := 1) rfl (Or.inl rfl) (Or.inl rfl) (j := 2) rfl (Or.inl rfl) (Or.inl rfl) (PW.pt (pw_and (pt_val (pe_callB call_isi (by rfl) T.b_isinstance (by decide +kernel) (pa_cons (pv 0) (pa_cons (pe_bltn (v := .ty "tuple") (by rfl) T.b_tuple (by decide +kernel) rfl) pa_nil)))) (pw_and1 (pt_val (pe_callB call_isi (by rfl) T.b_isinstance (by decide +kernel) (pa_cons (pv 1) (pa_cons (pe_bltn (v := .ty "str") (by rfl) T.b_str (by decide +kernel) rfl) pa_nil)))))))
  (pss_one (ps_ret (pe_cmpR op_eq (pe_kget (pe_gref hA) (pv 1) (pe_un un_neg pe_int) ⟨rfl, rfl, rfl, rfl⟩) (pe_callB call_len_seq (by rfl) T.b_len (by decide +kernel) (pa_cons (pv 2) pa_nil)) (nomark _))))
  (pss_one (ps_ret pe_bl)))), ?_⟩
    refine ⟨_, rfl, ?_⟩
    cases b with
    | true =>
      obtain ⟨q, d, rfl, x, hq, _⟩ := oy
      obtain ⟨t, ht⟩ := vA d
      refine .inl ⟨q, .str d.word, [x], rfl, .inl (.inl (.inl hq)), fun L hL => ?_⟩
      have s1 := Same.new (o := .lst [x]) hL
      have e1 : upd H L (.lst [x]) L = some (.lst [x]) := upd_same
      generalize upd H L (.lst [x]) = H1 at s1 e1
      refine ⟨_, rfl, _, _, _, _, true, rfl, .ty "tuple", tyT (.inl (.inl (s1 _ _ hq))), kt_tuple_tuple, true, rfl, ?_⟩
      refine iteT ⟨_, rfl, _, _, _, _, true, rfl, .ty "str", ty_flat rfl, kt_str_str, true, rfl, ?_⟩
      refine iteT ?_
      refine ⟨dA, esA, nA, rfl, kA, _, rfl, _, rfl, _, _, rfl, ht, .inl ⟨_, .int 1, rfl, ⟨_, rfl⟩, ?_⟩⟩
      refine ⟨_, rfl, L, _, rfl, .inl (SqL.of e1), rfl, ?_⟩
      exact kk _ s1
    | false =>
      have last : ∀ H', Same H H' → Q (.bl false) H' := kk
      rcases oy with ⟨a, vs, rfl, ha, hl, ho⟩ | ⟨a, z, rest, rfl, ha, hl⟩ | hn
      · cases vs with
        | nil => exact .inr (.inl ⟨a, rfl, .inl (.inl (.inl ha)), kk _ (Same.refl H)⟩)
        | cons v0 rest =>
          refine .inl ⟨a, v0, rest, rfl, .inl (.inl (.inl ha)), fun L hL => ?_⟩
          have s1 := Same.new (o := .lst rest) hL
          have e1 : upd H L (.lst rest) L = some (.lst rest) := upd_same
          generalize upd H L (.lst rest) = H1 at s1 e1
          refine ⟨_, rfl, _, _, _, _, true, rfl, .ty "tuple", tyT (.inl (.inl (s1 _ _ ha))), kt_tuple_tuple, true, rfl, ?_⟩
          refine iteT ?_
          cases v0 with
          | str z =>
            refine ⟨_, rfl, _, _, _, _, true, rfl, .ty "str", ty_flat rfl, kt_str_str, true, rfl, ?_⟩
            refine iteT ?_
            refine ⟨dA, esA, nA, rfl, kA, _, rfl, _, rfl, ?_⟩
            rcases ho with ⟨⟨d, rfl⟩, hr1⟩ | rfl
            · obtain ⟨t, ht⟩ := vA d
              refine ⟨_, _, rfl, ht, .inl ⟨_, .int 1, rfl, ⟨_, rfl⟩, ?_⟩⟩
              refine ⟨_, rfl, L, _, rfl, .inl (SqL.of e1), ?_⟩
              refine ⟨rfl, ?_⟩
              rw [decide_eq_false (by intro z; injection z with z; omega)]
              exact kk _ s1
            · refine ⟨_, _, rfl, uA, .inr ⟨rfl, ?_⟩⟩
              refine ⟨_, rfl, L, _, rfl, .inl (SqL.of e1), ?_⟩
              refine ⟨rfl, ?_⟩
              rw [decide_eq_false (by intro z; replace z : V.int (-1) = V.int (rest.length : Nat) := z; injection z with z; omega)]
              exact kk _ s1
          | int i =>
            refine ⟨_, rfl, _, _, _, _, false, rfl, .ty "str", ty_flat rfl, kt_int_str, false, rfl, ?_⟩
            exact iteF (kk _ s1)
          | _ => exact (show False from ho).elim
      · refine .inl ⟨a, .str z, rest, rfl, .inr (SqL.of ha), fun L hL => ?_⟩
        have s1 := Same.new (o := .lst rest) hL
        generalize upd H L (.lst rest) = H1 at s1
        refine ⟨_, rfl, _, _, _, _, false, rfl, .ty "tuple", tyL (SqL.of (s1 _ _ ha)), kt_list_tuple, false, rfl, ?_⟩
        exact iteF (kk _ s1)
      · exact .inr (.inr ⟨hn, kk _ (Same.refl H)⟩)
end

end MF
set_option Elab.async false
set_option linter.all false
set_option maxRecDepth 100000
set_option maxHeartbeats 2000000
set_option pp.maxSteps 600
namespace MF
open PySem PySem.Spec PyProof.Rows L2 StX
section
variable {P : Program} {w : World} {K : PySem.W.Frag} {mg : Str → Option Value} {base : Heap} {C_Book C_LivePost C_MailError C_InvalidOperation C_InvalidOrder C_UnknownOrder C_NotHolding C_DecodeError C_NotationError C_UnknownLetter C_InvalidAddress C_InvalidDay C_InvalidNumber C_Contradiction C_InvalidCount : Addr}
theorem ok_InvalidOperation (T : Top K mg C_Book C_LivePost C_MailError C_InvalidOperation C_InvalidOrder C_UnknownOrder C_NotHolding C_DecodeError C_NotationError C_UnknownLetter C_InvalidAddress C_InvalidDay C_InvalidNumber C_Contradiction C_InvalidCount) : EFn P w K mg base CX0 1 C_InvalidOperation "InvalidOperation" ["self", "index"] (spE1 K C_InvalidOperation "index") := by
  refine T.d_InvalidOperationX_initX.fn fun f fd F => F.ok sc_InvalidOperationX_initX (fun vs H Q E h => ?_) (fun cdv A outer s H vs Q E hr h => ?_)
  · obtain ⟨a, v, rfl, _⟩ := h
    rfl
  · obtain ⟨a, v, rfl, hf, ha, k⟩ := h
    refine ⟨_, (pss_cons (ps_expr (pe_binit rfl T.g_MailError T.base_MailError (pa_cons (pv 0) (pa_cons (pe_joined (PJ.cons pe_str (PJ.cons (pe_fmtV (pv 1)) PJ.nil))) pa_nil))))
  (pss_one (ps_ost (pv 0) (pv 1)))), ?_⟩
    have ox := T.d_InvalidOperationX_initX.ox
    refine ⟨_, rfl, _, rfl, ?_, _, rfl, hf, fun y hy => ⟨_, rfl, ?_, ?_⟩⟩
    · decide +kernel
    · rw [Str.length_append]
      have : (Str.empty ++ ("invalid operation " : Str)).length = 18 := by decide +kernel
      rw [this, sizeLine_eq]
      omega
    refine ⟨a, C_InvalidOperation, [.str _], rfl, by simp, ox, ha, ?_⟩
    exact ⟨_, rfl, _, rfl, a, C_InvalidOperation, rfl, ox, T.na_InvalidOperation, .inl ⟨ha, fun dx hd ne => k dx hd ne⟩⟩
end

end MF
set_option Elab.async false
set_option linter.all false
set_option maxRecDepth 100000
set_option maxHeartbeats 2000000
set_option pp.maxSteps 600
namespace MF
open PySem PySem.Spec PyProof.Rows L2 StX
section
variable {P : Program} {w : World} {K : PySem.W.Frag} {mg : Str → Option Value} {base : Heap} {C_Book C_LivePost C_MailError C_InvalidOperation C_InvalidOrder C_UnknownOrder C_NotHolding C_DecodeError C_NotationError C_UnknownLetter C_InvalidAddress C_InvalidDay C_InvalidNumber C_Contradiction C_InvalidCount : Addr}
def spExec (K : PySem.W.Frag) (CB CL : Addr) (c : Cls5) : Sp := fun vs H Q E => ∃ p op d, vs = [.ref p, .ref op] ∧ DeedAt K H op d ∧ ActX K CB CL c d p H Q E
theorem okX_execute (T : Top K mg C_Book C_LivePost C_MailError C_InvalidOperation C_InvalidOrder C_UnknownOrder C_NotHolding C_DecodeError C_NotationError C_UnknownLetter C_InvalidAddress C_InvalidDay C_InvalidNumber C_Contradiction C_InvalidCount) : MFn P w K mg base (L2N.CX P w) 7 C_LivePost "execute" (spExec K C_Book C_LivePost ⟨C_InvalidOrder, C_UnknownOrder, C_InvalidAddress, C_InvalidDay, C_InvalidNumber, C_UnknownLetter, C_NotHolding, C_InvalidOperation, C_Contradiction, C_InvalidCount, C_DecodeError, C_NotationError⟩) := by
  have X_LivePost_post := okX_post (P := P) (w := w) (base := base) T
  have X_LivePost_pass_days := okX_pass (P := P) (w := w) (base := base) T
  have X_LivePost_give := okX_give (P := P) (w := w) (base := base) T
  have X_LivePost_stop := okX_stop (P := P) (w := w) (base := base) T
  refine T.d_LivePost_execute.fnXN sc_LivePost_execute (fun vs H Q E h => ?_) (fun f cdv A outer s H vs Q E hr h => ?_)
  · obtain ⟨p, op, d, rfl, _⟩ := h
    rfl
  · obtain ⟨p, op, d, rfl, ⟨y, hq, ya⟩, AX⟩ := h
    refine ⟨_, (pss_cons (ps_asg (pv 1) (pg_tup rfl (pgs_cons (pg_name (i := 2) sc_LivePost_execute.nd rfl (Or.inl rfl)) (pgs_cons (pg_name (i := 3) sc_LivePost_execute.nd rfl (Or.inl rfl)) pgs_nil))))
  (pss_cons (ps_if (pt_cmpR op_eq (pv 2) pe_str (nomark _))
  (pss_one (ps_ret (pe_mX X_LivePost_post T.cl_LivePost (hr.mono (by decide)) passEN (pv 0) (pa_cons (pv 3) pa_nil))))
  pss_nil)
  (pss_cons (ps_if (pt_cmpR op_eq (pv 2) pe_str (nomark _))
  (pss_one (ps_ret (pe_mX X_LivePost_pass_days T.cl_LivePost (hr.mono (by decide)) passEN (pv 0) (pa_cons (pv 3) pa_nil))))
  pss_nil)
  (pss_one (ps_ret (pe_ifExp (pt_cmpR op_eq (pv 2) pe_str (nomark _)) (pe_mX X_LivePost_give T.cl_LivePost (hr.mono (by decide)) passEN (pv 0) (pa_cons (pv 3) pa_nil)) (pe_mX X_LivePost_stop T.cl_LivePost (hr.mono (by decide)) passEN (pv 0) (pa_cons (pv 3) pa_nil)))))))), ?_⟩
    obtain ⟨dx, sc, dd, u, h1⟩ : ∃ (dx sc d u : Addr), ∃ kw, H p = some (.ins C_LivePost dx (lpf kw sc d u)) := by
      obtain ⟨_, kw, S, dn, un, L, _⟩ := id AX
      obtain ⟨dx, sc, d, u, e⟩ := L.ins
      exact ⟨dx, sc, d, u, kw, e⟩
    obtain ⟨kw, h1⟩ := h1
    refine ⟨_, rfl, op, _, rfl, .inl (.inl hq), rfl, _, _, rfl, _, _, rfl, rfl, ?_⟩
    cases d with
    | post z =>
      refine ⟨_, rfl, rfl, _, rfl, iteD rfl ?_⟩
      refine ⟨_, rfl, p, dx, _, rfl, h1, rfl, _, rfl, p, y, rfl, ?_⟩
      rw [show y = z from ya]
      exact AX
    | pass z =>
      refine ⟨_, rfl, rfl, _, rfl, iteDN (by intro z; cases z) ?_⟩
      refine ⟨_, rfl, rfl, _, rfl, iteD rfl ?_⟩
      refine ⟨_, rfl, p, dx, _, rfl, h1, rfl, _, rfl, p, y, rfl, ?_⟩
      rw [show y = z from ya]
      exact AX
    | give o =>
      refine ⟨_, rfl, rfl, _, rfl, iteDN (by intro z; cases z) ?_⟩
      refine ⟨_, rfl, rfl, _, rfl, iteDN (by intro z; cases z) ?_⟩
      refine ⟨_, rfl, rfl, _, rfl, iteD rfl ?_⟩
      exact ⟨_, rfl, p, dx, _, rfl, h1, rfl, _, rfl, p, y, o, rfl, ya, AX⟩
    | stop z =>
      refine ⟨_, rfl, rfl, _, rfl, iteDN (by intro z; cases z) ?_⟩
      refine ⟨_, rfl, rfl, _, rfl, iteDN (by intro z; cases z) ?_⟩
      refine ⟨_, rfl, rfl, _, rfl, iteDN (by intro z; cases z) ?_⟩
      refine ⟨_, rfl, p, dx, _, rfl, h1, rfl, _, rfl, p, y, rfl, ?_⟩
      rw [show y = z from ya]
      exact AX
end

end MF
set_option Elab.async false
set_option linter.all false
set_option maxRecDepth 100000
set_option maxHeartbeats 2000000
set_option pp.maxSteps 600
namespace MF
open PySem PySem.Spec PyProof.Rows L2 StX
section
variable {P : Program} {w : World} {K : PySem.W.Frag} {mg : Str → Option Value} {base : Heap} {C_Book C_LivePost C_MailError C_InvalidOperation C_InvalidOrder C_UnknownOrder C_NotHolding C_DecodeError C_NotationError C_UnknownLetter C_InvalidAddress C_InvalidDay C_InvalidNumber C_Contradiction C_InvalidCount : Addr}
theorem KB.lst {CB R : Addr} {xs : List V} {H H' : Hp} (h : H R = some (.lst xs)) (k : ∀ b u, H b = some u → b ≠ R → H' b = some u) : KB K CB H H' := ⟨fun b u e y => k _ _ e (fun w => by rw [w, h] at e; cases e; cases y), fun bk os B => B.keep ⟨_, h, (fun _ z => by cases z), (fun _ _ z => by cases z)⟩ (fun w => by
  obtain ⟨d1, d2, d3, d4, _⟩ := B
  rw [w, h] at d4
  cases d4) k⟩
theorem ResV.later {H0 H H' H'' : Hp} {p R : Addr} {v : V} {r : Rs} (h : ResV H H' v r) (vR : v ≠ .ref R) (p0 : ∃ u, H p = some u) (k0 : ∀ b u, H0 b = some u → b ≠ p → H b = some u) (k : ∀ b u, H' b = some u → b ≠ p → b ≠ R → H'' b = some u) : ResV H0 H'' v r := by
  cases r with
  | nums ns =>
    obtain ⟨l, e, h1, h2⟩ := h
    obtain ⟨u, hu⟩ := p0
    have np : l ≠ p := fun z => by rw [z, hu] at h1; cases h1
    refine ⟨l, e, ?_, k _ _ h2 np fun z => vR (by rw [e, z])⟩
    cases q : H0 l with
    | none => rfl
    | some o => rw [k0 _ _ q np] at h1; cases h1
  | _ => exact h
structure ApIn (K : PySem.W.Frag) (CB CL : Addr) (H : Hp) (p : Addr) (qs : List Addr) (ds : List Deed) (kw : Kpt) (S : Scn) (dn un : List Ent) : Prop where
  deeds : PySem.Paired (DeedAt K H) qs ds
  ok : ∀ d ∈ ds, d.Ok
  live : LivO K CB CL H p kw S dn un
  bnd : ∀ i, i < ds.length → Bnd (scnF S (ds.take i)) (dn ++ entF S (ds.take i))
  few : ds.length ≤ 1000
theorem ErrAt.kp {c : Cls5} {cls : Value} {dd : Option Addr} {H H' : Hp} {e : Err} (h : ErrAt c cls dd H e) (k : ∀ d fs, H d = some (.xd fs) → H' d = some (.xd fs)) : ErrAt c cls dd H' e := by
  cases e <;> first | exact h | (obtain ⟨h1, d, h2, h3⟩ := h; exact ⟨h1, d, h2, k _ _ h3⟩)
structure ApRun (K : PySem.W.Frag) (CB CL : Addr) (c : Cls5) (p : Addr) (H : Hp) (Q : VK) (E : XK) (qs : List Addr) (ds : List Deed) (kw : Kpt) (S : Scn) (dn un : List Ent) : Prop where
  inp : ApIn K CB CL H p qs ds kw S dn un
  bad : ∀ i d e, ds[i]? = some d → goodF S (ds.take i) → (actF (scnF S (ds.take i)) d).1 = .err e → ∀ H' cls dd, LivO K CB CL H' p kw S dn un → (∀ b u, H b = some u → b ≠ p → H' b = some u) → ErrAt c cls dd H' e → E cls dd H'
  good : goodF S ds → ∀ l vs H', H l = none → H' l = some (.lst vs) → PySem.Paired (fun v r => ResV H H' v r ∧ v ≠ .ref l) vs (resF S ds) → LivO K CB CL H' p kw (scnF S ds) (dn ++ entF S ds) (if ds = [] then un else []) → (∀ b u, H b = some u → b ≠ p → H' b = some u) → Q (.ref l) H'
structure ApOdd (K : PySem.W.Frag) (CB CL : Addr) (c : Cls5) (p : Addr) (H : Hp) (E : XK) (ops : List V) : Prop where
  ex : ∃ (i : Nat) (y : V), ops[i]? = some y ∧ OpIs K H y false ∧ (∀ (j : Nat) z, j < i → ops[j]? = some z → OpIs K H z true) ∧ ∀ H' cls d, Same H H' → ErrAt c cls d H' (.operation (.int (i : Nat))) → E cls d H'
  few : ops.length ≤ 1000
def spApplyXT (K : PySem.W.Frag) (CB CL : Addr) (c : Cls5) : Sp := fun vs H Q E => ∃ p t ops, vs = [V.ref p, .ref t] ∧ H t = some (.tup ops) ∧ (ApOdd K CB CL c p H E ops ∨ ∃ qs ds kw S dn un, ops = qs.map V.ref ∧ ApRun K CB CL c p H Q E qs ds kw S dn un)
def spApplyX (K : PySem.W.Frag) (CB CL : Addr) (c : Cls5) : Sp := fun vs H Q E => ∃ p ops, vs = V.ref p :: ops ∧ (ApOdd K CB CL c p H E ops ∨ ∃ qs ds kw S dn un, ops = qs.map V.ref ∧ ApRun K CB CL c p H Q E qs ds kw S dn un)
theorem okX_apply (T : Top K mg C_Book C_LivePost C_MailError C_InvalidOperation C_InvalidOrder C_UnknownOrder C_NotHolding C_DecodeError C_NotationError C_UnknownLetter C_InvalidAddress C_InvalidDay C_InvalidNumber C_Contradiction C_InvalidCount) (AG : ArgD K mg w) : MFn P w K mg base (L2N.CX P w) 8 C_LivePost "apply" (spApplyX K C_Book C_LivePost ⟨C_InvalidOrder, C_UnknownOrder, C_InvalidAddress, C_InvalidDay, C_InvalidNumber, C_UnknownLetter, C_NotHolding, C_InvalidOperation, C_Contradiction, C_InvalidCount, C_DecodeError, C_NotationError⟩) := by
  have G_is_operation : GFn P w K mg base CX0 1 "is_operation" (spIsOp K) := ok_is_operation T AG
  have X_LivePost_execute := okX_execute (P := P) (w := w) (base := base) T
  have E_InvalidOperation : EFn P w K mg base CX0 1 C_InvalidOperation "InvalidOperation" ["self", "index"] (spE1 K C_InvalidOperation "index") := ok_InvalidOperation T
  refine (T.d_LivePost_apply.fnXN (k := 7) (sp := spApplyXT K C_Book C_LivePost ⟨C_InvalidOrder, C_UnknownOrder, C_InvalidAddress, C_InvalidDay, C_InvalidNumber, C_UnknownLetter, C_NotHolding, C_InvalidOperation, C_Contradiction, C_InvalidCount, C_DecodeError, C_NotationError⟩) sc_LivePost_apply (fun f cdv A outer s H vs Q E hr h => ?_)).imp fun vs H Q E h => ?_
  · obtain ⟨p, t, ops, rfl, ht, h⟩ := h
    refine ⟨_, (pss_cons (ps_for owns_cxN rfl (pi_enumT (by rfl) T.b_enumerate (pa_cons (pv 1) pa_nil)) (pg_tup rfl (pgs_cons (pg_name (i := 2) sc_LivePost_apply.nd rfl (Or.inl rfl)) (pgs_cons (pg_name (i := 3) sc_LivePost_apply.nd rfl (Or.inl rfl)) pgs_nil)))
  (pss_one (ps_if (pt_not (pt_val (pe_g G_is_operation (hr.mono (by decide)) (pa_cons (pv 3) pa_nil))))
  (pss_one (L2N.ps_raise rfl takeEN (pmk_1N E_InvalidOperation (hr.mono (by decide)) (pa_cons (pv 2) pa_nil))))
  pss_nil)))
  (pss_cons (ps_asg (pe_tup (pa_cons (pe_fld (pv 0) rfl) (pa_cons (pe_fld (pv 0) rfl) (pa_cons (pe_fld (pv 0) rfl) (pa_cons (pe_lst pa_nil) (pa_cons pe_non pa_nil)))))) (pg_tup rfl (pgs_cons (pg_name (i := 4) sc_LivePost_apply.nd rfl (Or.inl rfl)) (pgs_cons (pg_name (i := 5) sc_LivePost_apply.nd rfl (Or.inl rfl)) (pgs_cons (pg_name (i := 6) sc_LivePost_apply.nd rfl (Or.inl rfl)) (pgs_cons (pg_name (i := 7) sc_LivePost_apply.nd rfl (Or.inl rfl)) (pgs_cons (pg_name (i := 8) sc_LivePost_apply.nd rfl (Or.inl rfl)) pgs_nil)))))))
  (pss_cons (ps_finN rfl rfl rfl takeEN (fun W pn xe tk po => (pss_cons (ps_forT po rfl (pi_tup (pv 1)) (pg_name (i := 3) sc_LivePost_apply.nd rfl (Or.inl rfl))
  (pss_one (ps_expr (pe_bm PySem.F.plainAttrs_list PySem.F.slot_list_append PySem.F.type_list_append mt_append (pv 7) (pa_cons (pe_mXS X_LivePost_execute T.cl_LivePost (hr.mono (by decide)) (fun σ => L2N.passAt tk σ) (pv 0) (pa_cons (pv 3) pa_nil)) pa_nil)))))
  (pss_one (ps_set (i := 8) sc_LivePost_apply.nd rfl (Or.inl rfl) pe_bl))))
  (pss_one (ps_if (pt_cmpR op_isN (pv 8) pe_non (nomark _))
  (pss_one (ps_asg (pe_tup (pa_cons (pv 4) (pa_cons (pv 5) (pa_cons (pv 6) pa_nil)))) (pg_tup rfl (pgs_cons (pg_fld (pv 0)) (pgs_cons (pg_fld (pv 0)) (pgs_cons (pg_fld (pv 0)) pgs_nil))))))
  pss_nil))
  (fun a pn hot => (pss_one (ps_if (pt_cmpR op_isN (pv 8) pe_non (nomark _))
  (pss_one (ps_asg (pe_tup (pa_cons (pv 4) (pa_cons (pv 5) (pa_cons (pv 6) pa_nil)))) (pg_tupH hot (pgs_cons (pg_fld (pv 0)) (pgs_cons (pg_fld (pv 0)) (pgs_cons (pg_fld (pv 0)) pgs_nil))))))
  pss_nil))))
  (pss_one (ps_ret (pv 7)))))), ?_⟩
    rcases h with O | ⟨qs, ds, kw, S, dn, un, rfl, AR⟩
    · obtain ⟨n, y0, e0, o0, o1, kE⟩ := O.ex
      have few := O.few
      have hn := (List.getElem?_eq_some_iff.mp e0).1
      let st (v2 v3 v4 v5 v6 v7 v8 : Option V) : L2.St := [some (.ref p), some (.ref t), v2, v3, v4, v5, v6, v7, v8]
      refine ⟨_, rfl, t, _, rfl, .inl (.inl ht), for_it walk_enumT (fun i σ H' => i ≤ n ∧ Same H H' ∧ ∃ v2 v3, σ = st v2 v3 none none none none none) ⟨Nat.zero_le _, Same.refl H, _, _, rfl⟩ (fun i σ H' _ ⟨_, s1, _⟩ => .inl (.inl (s1 _ _ ht))) ?_ ?_⟩
      · rintro i y σ H1 H1' hi ⟨hin, s1, v2, v3, rfl⟩ ⟨q, z1, z2, rfl, hq, rfl, ez1, ez2⟩
        cases ez1
        replace ez2 : ops[i]? = some z2 := ez2
        have s2 : Same H (upd H1 q (.tup [.int (i : Nat), z2])) := MF.Same.upd s1 hq
        refine ⟨q, _, rfl, .inl (.inl upd_same), rfl, _, _, rfl, _, _, rfl, rfl, ?_⟩
        generalize upd H1 q (.tup [.int (i : Nat), z2]) = H3 at s2
        by_cases c : i < n
        · refine ⟨_, rfl, _, true, rfl, (o1 i z2 c ez2).mono s2, fun H4 s4 => ⟨_, rfl, iteF ?_⟩⟩
          exact ⟨c, s2.trans s4, _, _, rfl⟩
        · have ei : i = n := by omega
          subst ei
          rw [e0] at ez2
          cases ez2
          refine ⟨_, rfl, _, false, rfl, o0.mono s2, fun H4 s4 => ⟨_, rfl, iteT ?_⟩⟩
          have fy : FmtOk (.int ((i : Nat) : Int)) := by
            show ((i : Nat) : Int).natAbs.log2 < 1920
            rw [Int.natAbs_natCast]
            have := Nat.log2_le_self i
            omega
          exact ⟨_, rfl, e1_fin fy fun d H5 s5 fd ed => kE _ _ _ ((s2.trans s4).trans s5) ⟨rfl, d, rfl, ed⟩⟩
      · rintro σ H1 ⟨hin, s1, v2, v3, rfl⟩
        exfalso
        omega
    · have AI := AR.inp
      have lq : qs.length = ds.length := PySem.Paired.length AI.deeds
      have few := AI.few
      obtain ⟨dx, sc, d, u, h1⟩ := AI.live.ins
      let st (v2 v3 v4 v5 v6 v7 v8 : Option V) : L2.St := [some (.ref p), some (.ref t), v2, v3, v4, v5, v6, v7, v8]
      refine ⟨_, rfl, t, _, rfl, .inl (.inl ht), for_it walk_enumT (fun i σ H' => Same H H' ∧ ∃ v2 v3, σ = st v2 v3 none none none none none) ⟨Same.refl H, _, _, rfl⟩ (fun i σ H' _ ⟨s1, _⟩ => .inl (.inl (s1 _ _ ht))) ?_ ?_⟩
      · rintro i y σ H1 H1' hi ⟨s1, v2, v3, rfl⟩ ⟨q, z1, z2, rfl, hq, rfl, ez1, ez2⟩
        cases ez1
        rw [List.length_map] at hi
        replace ez2 : (qs.map V.ref)[i]? = some z2 := ez2
        obtain ⟨o, eo⟩ : ∃ o, qs[i]? = some o := ⟨qs[i], by simp [hi]⟩
        rw [List.getElem?_map, eo] at ez2
        cases ez2
        obtain ⟨dd, ed, hd⟩ := Paired.get AI.deeds eo
        have s2 : Same H (upd H1 q (.tup [.int (i : Nat), .ref o])) := MF.Same.upd s1 hq
        refine ⟨q, _, rfl, .inl (.inl upd_same), rfl, _, _, rfl, _, _, rfl, rfl, ?_⟩
        generalize upd H1 q (.tup [.int (i : Nat), .ref o]) = H3 at s2
        refine ⟨_, rfl, _, true, rfl, ⟨o, dd, rfl, hd.kt fun b u e _ => s2 _ _ e⟩, fun H4 s4 => ⟨_, rfl, iteF ?_⟩⟩
        exact ⟨s2.trans s4, _, _, rfl⟩
      · rintro σ H1 ⟨s1, v2, v3, rfl⟩
        have h11 := s1 _ _ h1
        refine ⟨_, rfl, p, C_LivePost, dx, _, _, rfl, h11, T.cl_LivePost, T.n_LivePost_scene, rfl, _, rfl, p, C_LivePost, dx, _, _, rfl, h11, T.cl_LivePost, T.n_LivePost_done, rfl, _, rfl, p, C_LivePost, dx, _, _, rfl, h11, T.cl_LivePost, T.n_LivePost_undone, rfl, ?_⟩
        refine ⟨Nat.zero_le _, fun R hR => ⟨(by show 5 ≤ sizeLine; decide), fun q0 hq0 => ?_⟩⟩
        have sR := s1.trans (Same.new (o := .lst []) hR)
        have eR : upd H1 R (.lst []) R = some (.lst []) := upd_same
        generalize upd H1 R (.lst []) = H2 at sR eR hq0
        have s2 := sR.trans (Same.new (o := .tup [.ref sc, .ref d, .ref u, .ref R, .non]) hq0)
        have hRn : H R = none := by
          cases z : H R with
          | none => rfl
          | some o => rw [s1 _ _ z] at hR; cases hR
        refine ⟨q0, _, rfl, .inl (.inl upd_same), rfl, _, _, rfl, _, _, rfl, _, _, rfl, _, _, rfl, _, _, rfl, rfl, ?_⟩
        have eR2 : upd H2 q0 (.tup [.ref sc, .ref d, .ref u, .ref R, .non]) R = some (.lst []) := by rw [upd_ne (ne_of_none eR hq0)]; exact eR
        generalize upd H2 q0 (.tup [.ref sc, .ref d, .ref u, .ref R, .non]) = H3 at s2 eR2
        clear eR sR hq0 hR h11 s1
        intro pn xe tk po
        let st2 (v3 v8 : Option V) : L2.St := [some (.ref p), some (.ref t), v2, v3, some (.ref sc), some (.ref d), some (.ref u), some (.ref R), v8]
        refine ⟨_, rfl, t, rfl, ⟨_, .inl (.inl (s2 _ _ ht))⟩, for_it (walk_tup (xs := qs.map V.ref)) (fun i σ H' => (∀ b u, H b = some u → b ≠ p → H' b = some u) ∧ (∃ vs, H' R = some (.lst vs) ∧ PySem.Paired (fun v r => ResV H H' v r ∧ v ≠ .ref R) vs (resF S (ds.take i))) ∧ LivO K C_Book C_LivePost H' p kw (scnF S (ds.take i)) (dn ++ entF S (ds.take i)) (if i = 0 then un else []) ∧ goodF S (ds.take i) ∧ ∃ v3, σ = st2 v3 (some .non))
          ⟨fun b u e _ => s2 _ _ e, ⟨[], eR2, .nil⟩, by show LivO K C_Book C_LivePost H3 p kw S (dn ++ []) un; rw [List.append_nil]; exact AI.live.same s2, goodF_nil, _, rfl⟩ (fun i σ H' _ ⟨k1, _⟩ => .inl (.inl (k1 _ _ ht (ne_of ht h1 (by intro z; cases z))))) ?_ ?_⟩
        · rintro i y σ H1 H1' hi ⟨k1, ⟨vs, er, R1⟩, L1, g1, v3, rfl⟩ ⟨rfl, ey⟩
          rw [List.length_map] at hi
          obtain ⟨o, eo⟩ : ∃ o, qs[i]? = some o := ⟨qs[i], by simp [hi]⟩
          replace ey : (qs.map V.ref)[i]? = some y := ey
          rw [List.getElem?_map, eo] at ey
          cases ey
          obtain ⟨dd, ed, hd⟩ := Paired.get AI.deeds eo
          have hid : i < ds.length := by omega
          obtain ⟨dx1, sc1, d1, u1, p1⟩ := L1.ins
          have kt1 : ∀ b u, H b = some u → tupl u = true → H1' b = some u := fun b u e y => k1 _ _ e (ne_of e h1 (by intro z; rw [z] at y; cases y))
          have tk1 : ds.take (i + 1) = ds.take i ++ [dd] := by rw [List.take_add_one, ed]; rfl
          have lvs : vs.length = (resF S (ds.take i)).length := PySem.Paired.length R1
          rw [resF_len, List.length_take] at lvs
          refine ⟨_, rfl, .inl ⟨rfl, _, SqL.of er⟩, _, rfl, p, dx1, _, rfl, p1, rfl, _, rfl, p, o, dd, rfl, hd.kt kt1, AI.ok dd (List.mem_of_getElem? ed), kw, _, _, _, L1, AI.bnd i hid, fun e ee H2 cls dd2 s2e er2 => ?_, fun v H2 nb rv L2 k2 => ?_⟩
          · intro a pn hot
            obtain ⟨dx0, sc0, d0, u0, h10, hsc, hdn, hun⟩ := AI.live
            have ef : lpf kw sc0 d0 u0 = lpf kw sc d u ∧ True := by
              rw [h1] at h10
              cases h10
              exact ⟨rfl, True.intro⟩
            have e0 : sc0 = sc ∧ d0 = d ∧ u0 = u := by
              rw [h1] at h10
              cases h10
              exact ⟨rfl, rfl, rfl⟩
            obtain ⟨rfl, rfl, rfl⟩ := e0
            clear ef h10
            have p2 := s2e _ _ p1
            have f2 : ∀ b o, H b = some o → b ≠ p → H2 b = some o := fun b o e nb => s2e _ _ (k1 _ _ e nb)
            refine ⟨_, rfl, rfl, _, rfl, iteD rfl ?_⟩
            refine ⟨_, rfl, _, rfl, _, rfl, (by show 3 ≤ sizeLine; decide), fun q3 hq3 => ?_⟩
            have s3 := Same.new (o := .tup [.ref sc0, .ref d0, .ref u0]) hq3
            have f3 : upd H2 q3 (.tup [.ref sc0, .ref d0, .ref u0]) q3 = some (.tup [.ref sc0, .ref d0, .ref u0]) := upd_same
            generalize upd H2 q3 (.tup [.ref sc0, .ref d0, .ref u0]) = H4 at s3 f3
            have p4 := s3 _ _ p2
            refine ⟨q3, _, rfl, .inl (.inl f3), rfl, _, _, rfl, _, rfl, p, C_LivePost, dx1, _, rfl, p4, T.cl_LivePost, T.n_LivePost_scene, (by show 7 < 1000; decide), ?_⟩
            generalize eH : upd H4 p _ = H5
            have p5 : H5 p = some (.ins C_LivePost dx1 (lpf kw sc0 d1 u1)) := by rw [← eH, upd_same]; rfl
            have g5 : ∀ b v, H4 b = some v → b ≠ p → H5 b = some v := fun b v e nb => by rw [← eH, upd_ne nb]; exact e
            clear eH
            refine ⟨_, _, rfl, _, rfl, p, C_LivePost, dx1, _, rfl, p5, T.cl_LivePost, T.n_LivePost_done, (by show 7 < 1000; decide), ?_⟩
            generalize eH : upd H5 p _ = H6
            have p6 : H6 p = some (.ins C_LivePost dx1 (lpf kw sc0 d0 u1)) := by rw [← eH, upd_same]; rfl
            have g6 : ∀ b v, H5 b = some v → b ≠ p → H6 b = some v := fun b v e nb => by rw [← eH, upd_ne nb]; exact e
            clear eH
            refine ⟨_, _, rfl, _, rfl, p, C_LivePost, dx1, _, rfl, p6, T.cl_LivePost, T.n_LivePost_undone, (by show 7 < 1000; decide), rfl, ?_⟩
            generalize eH : upd H6 p _ = H7
            have p7 : H7 p = some (.ins C_LivePost dx1 (lpf kw sc0 d0 u0)) := by rw [← eH, upd_same]; rfl
            have g7 : ∀ b v, H6 b = some v → b ≠ p → H7 b = some v := fun b v e nb => by rw [← eH, upd_ne nb]; exact e
            clear eH
            have g27 : ∀ b v, H2 b = some v → b ≠ p → H7 b = some v := fun b v e nb => g7 _ _ (g6 _ _ (g5 _ _ (s3 _ _ e) nb) nb) nb
            have f7 : ∀ b v, H b = some v → b ≠ p → H7 b = some v := fun b v e nb => g27 _ _ (f2 _ _ e nb) nb
            have kb : KB K C_Book H H7 := KB.live h1 f7
            exact AR.bad i dd e ed g1 ee H7 cls dd2 ⟨dx1, sc0, d0, u0, p7, hsc.keep kb, hdn.keep kb, hun.keep kb⟩ f7 (er2.kp fun d fs h => g27 _ _ h (fun z => by rw [z, p2] at h; cases h))
          · have nRp : R ≠ p := fun z => by rw [z, p1] at er; cases er
            have er2 := k2 _ _ er nRp
            have vR : v ≠ .ref R := fun z => by
              rw [z] at rv
              generalize (actF (scnF S (ds.take i)) dd).1 = r at rv
              cases r with
              | nums ns =>
                obtain ⟨l, e1, e2, _⟩ := rv
                cases e1
                rw [e2] at er
                cases er
              | num n => cases (show V.ref R = _ from rv)
              | day n => cases (show V.ref R = _ from rv)
              | err e => exact rv
            refine ⟨R, _, _, rfl, rfl, er2, by rw [sizeLine_eq]; omega, ?_⟩
            have g3 : ∀ b u, H2 b = some u → b ≠ R → upd H2 R (.lst (vs ++ [v])) b = some u := fun b u e nb => by rw [upd_ne nb]; exact e
            have e3 : upd H2 R (.lst (vs ++ [v])) R = some (.lst (vs ++ [v])) := upd_same
            generalize upd H2 R (.lst (vs ++ [v])) = H5 at g3 e3
            refine ⟨fun b u e nb => g3 _ _ (k2 _ _ (k1 _ _ e nb) nb) (ne_of_none e hRn), ⟨vs ++ [v], e3, ?_⟩, ?_, by rw [tk1, goodF_snoc]; exact ⟨g1, nb⟩, _, rfl⟩
            · rw [tk1, resF_snoc]
              refine Paired.append (PySem.Paired.mono (fun v r h => ⟨ResV.later h.1 h.2 ⟨_, h1⟩ (fun b u e _ => e) fun b u e nb nR => g3 _ _ (k2 _ _ e nb) nR, h.2⟩) R1) (.cons ⟨ResV.later rv vR ⟨_, p1⟩ k1 fun b u e _ nR => g3 _ _ e nR, vR⟩ .nil)
            · have ee : entF S (ds.take (i + 1)) = entF S (ds.take i) ++ [(dd, scnF S (ds.take i), scnF S (ds.take i ++ [dd]))] := by rw [tk1, entF_snoc]
              rw [ee, tk1, scnF_snoc, if_neg (by omega), ← List.append_assoc]
              exact L2.keep (fun u e => g3 _ _ e (Ne.symm nRp)) (KB.lst er2 g3)
        · rintro σ H4 ⟨k4, ⟨vs, er, R4⟩, L4, g4, v3, rfl⟩
          rw [List.length_map, lq, List.take_length] at R4 L4 g4
          refine ⟨_, rfl, rfl, _, rfl, iteDN (by intro z; cases z) ?_⟩
          refine ⟨_, rfl, ?_⟩
          refine AR.good g4 R vs H4 hRn er R4 ?_ k4
          have e0 : (if ds.length = 0 then un else []) = if ds = [] then un else [] := by
            cases ds with
            | nil => rfl
            | cons d ds => rw [if_neg (by simp), if_neg (by simp)]
          rw [← e0]
          exact L4
  · obtain ⟨p, ops, rfl, h⟩ := h
    have few : ops.length ≤ 1000 := by
      rcases h with O | ⟨qs, ds, kw, S, dn, un, rfl, AR⟩
      · exact O.few
      · rw [List.length_map, PySem.Paired.length AR.inp.deeds]
        exact AR.inp.few
    refine ⟨_, _, rfl, by rw [sizeLine_eq]; omega, fun t ht => ?_⟩
    have s1 := Same.new (o := .tup ops) ht
    have e1 : upd H t (.tup ops) t = some (.tup ops) := upd_same
    generalize upd H t (.tup ops) = H1 at s1 e1
    refine ⟨p, t, ops, rfl, e1, ?_⟩
    rcases h with O | ⟨qs, ds, kw, S, dn, un, rfl, AR⟩
    · obtain ⟨n, y0, e0, o0, o1, kE⟩ := O.ex
      exact .inl ⟨⟨n, y0, e0, o0.mono s1, fun j z hj ez => (o1 j z hj ez).mono s1, fun H' cls d s er => kE _ _ _ (s1.trans s) er⟩, O.few⟩
    · have AI := AR.inp
      refine .inr ⟨qs, ds, kw, S, dn, un, rfl, ⟨PySem.Paired.mono (fun _ _ h => h.kt fun b u e _ => s1 _ _ e) AI.deeds, AI.ok, AI.live.same s1, AI.bnd, AI.few⟩, fun i d e ed g ee H' cls dd L f er => AR.bad i d e ed g ee H' cls dd L (fun b u e nb => f _ _ (s1 _ _ e) nb) er, fun gd l vs H' hl el Rv L k => ?_⟩
      obtain ⟨dx, sc, d, u, h1⟩ := AI.live.ins
      have kx : ∀ b u, H b = some u → b ≠ p → H1 b = some u := fun b u e _ => s1 _ _ e
      refine AR.good gd l vs H' ?_ el (PySem.Paired.mono (fun v r h => ⟨ResV.later h.1 h.2 ⟨_, s1 _ _ h1⟩ kx fun b u e _ _ => e, h.2⟩) Rv) L fun b u e nb => k _ _ (s1 _ _ e) nb
      cases z : H l with
      | none => rfl
      | some o => rw [s1 _ _ z] at hl; cases hl
end

end MF
set_option Elab.async false
set_option linter.all false
set_option maxRecDepth 100000
set_option maxHeartbeats 2000000
set_option pp.maxSteps 600
namespace MF
open PySem PySem.Spec PyProof.Rows L2 StX
section
variable {P : Program} {w : World} {K : PySem.W.Frag} {mg : Str → Option Value} {base : Heap} {C_Book C_LivePost C_MailError C_InvalidOperation C_InvalidOrder C_UnknownOrder C_NotHolding C_DecodeError C_NotationError C_UnknownLetter C_InvalidAddress C_InvalidDay C_InvalidNumber C_Contradiction C_InvalidCount : Addr}
def spEnterB (CL : Addr) : Sp := fun vs H Q E => ∃ p kw dx sc d u, vs = [V.ref p] ∧ H p = some (.ins CL dx (lpf kw sc d u)) ∧ kw.b = false ∧
  ∀ H', H' p = some (.ins CL dx (lpf ⟨true, sc, d, u⟩ sc d u)) → (∀ b v, H b = some v → b ≠ p → H' b = some v) → Q (.ref p) H'
def spExitB (CL : Addr) : Sp := fun vs H Q E => ∃ p v1 v2 v3 kw dx sc d u, vs = [V.ref p, v1, v2, v3] ∧ H p = some (.ins CL dx (lpf kw sc d u)) ∧
  ∀ H', H' p = some (.ins CL dx (lpf ⟨false, kw.ks, kw.kd, kw.ku⟩ kw.ks kw.kd kw.ku)) → (∀ b v, H b = some v → b ≠ p → H' b = some v) → Q .non H'
theorem ok_enterB (T : Top K mg C_Book C_LivePost C_MailError C_InvalidOperation C_InvalidOrder C_UnknownOrder C_NotHolding C_DecodeError C_NotationError C_UnknownLetter C_InvalidAddress C_InvalidDay C_InvalidNumber C_Contradiction C_InvalidCount) : MFn P w K mg base CX0 1 C_LivePost "__enter__" (spEnterB C_LivePost) := by
  refine T.d_LivePostX_enterX.fn fun f fd F => F.ok sc_LivePostX_enterX (fun vs H Q E h => ?_) (fun cdv A outer s H vs Q E hr h => ?_)
  · obtain ⟨p, kw, dx, sc, d, u, rfl, _⟩ := h
    rfl
  · obtain ⟨p, ⟨b0, ks, kd, ku⟩, dx, sc, d, u, rfl, p0, hb, kk⟩ := h
    refine ⟨_, (pss_cons (ps_if (pt_val (pe_fld (pv 0) rfl))
  (pss_one ps_never)
  pss_nil)
  (pss_cons (ps_fld (pv 0) pe_bl rfl)
  (pss_cons (ps_fld (pv 0) (pe_fld (pv 0) rfl) rfl)
  (pss_cons (ps_fld (pv 0) (pe_fld (pv 0) rfl) rfl)
  (pss_cons (ps_fld (pv 0) (pe_fld (pv 0) rfl) rfl)
  (pss_one (ps_ret (pv 0)))))))), ?_⟩
    replace hb : b0 = false := hb
    subst hb
    refine ⟨_, rfl, p, C_LivePost, dx, _, _, rfl, p0, T.cl_LivePost, T.n_LivePost_is_open, rfl, _, rfl, iteF ?_⟩
    refine ⟨_, rfl, p, C_LivePost, dx, _, rfl, p0, T.cl_LivePost, T.n_LivePost_is_open, (by show 7 < 1000; decide), ?_⟩
    generalize eH : upd H p _ = G1
    have p1 : G1 p = some (.ins C_LivePost dx [("scene", .ref sc), ("done", .ref d), ("undone", .ref u), ("is_open", .bl true), ("kept_scene", .ref ks), ("kept_done", .ref kd), ("kept_undone", .ref ku)]) := by rw [← eH, upd_same]; rfl
    have g1 : ∀ b v, H b = some v → b ≠ p → G1 b = some v := fun b v e nb => by rw [← eH, upd_ne nb]; exact e
    clear eH
    refine ⟨_, rfl, p, C_LivePost, dx, _, _, rfl, p1, T.cl_LivePost, T.n_LivePost_scene, rfl, ?_⟩
    refine ⟨_, rfl, p, C_LivePost, dx, _, rfl, p1, T.cl_LivePost, T.n_LivePost_kept_scene, (by show 7 < 1000; decide), ?_⟩
    generalize eH : upd G1 p _ = G2
    have p2 : G2 p = some (.ins C_LivePost dx [("scene", .ref sc), ("done", .ref d), ("undone", .ref u), ("is_open", .bl true), ("kept_scene", .ref sc), ("kept_done", .ref kd), ("kept_undone", .ref ku)]) := by rw [← eH, upd_same]; rfl
    have g2 : ∀ b v, H b = some v → b ≠ p → G2 b = some v := fun b v e nb => by rw [← eH, upd_ne nb]; exact g1 _ _ e nb
    clear eH
    refine ⟨_, rfl, p, C_LivePost, dx, _, _, rfl, p2, T.cl_LivePost, T.n_LivePost_done, rfl, ?_⟩
    refine ⟨_, rfl, p, C_LivePost, dx, _, rfl, p2, T.cl_LivePost, T.n_LivePost_kept_done, (by show 7 < 1000; decide), ?_⟩
    generalize eH : upd G2 p _ = G3
    have p3 : G3 p = some (.ins C_LivePost dx [("scene", .ref sc), ("done", .ref d), ("undone", .ref u), ("is_open", .bl true), ("kept_scene", .ref sc), ("kept_done", .ref d), ("kept_undone", .ref ku)]) := by rw [← eH, upd_same]; rfl
    have g3 : ∀ b v, H b = some v → b ≠ p → G3 b = some v := fun b v e nb => by rw [← eH, upd_ne nb]; exact g2 _ _ e nb
    clear eH
    refine ⟨_, rfl, p, C_LivePost, dx, _, _, rfl, p3, T.cl_LivePost, T.n_LivePost_undone, rfl, ?_⟩
    refine ⟨_, rfl, p, C_LivePost, dx, _, rfl, p3, T.cl_LivePost, T.n_LivePost_kept_undone, (by show 7 < 1000; decide), ?_⟩
    generalize eH : upd G3 p _ = G4
    have p4 : G4 p = some (.ins C_LivePost dx [("scene", .ref sc), ("done", .ref d), ("undone", .ref u), ("is_open", .bl true), ("kept_scene", .ref sc), ("kept_done", .ref d), ("kept_undone", .ref u)]) := by rw [← eH, upd_same]; rfl
    have g4 : ∀ b v, H b = some v → b ≠ p → G4 b = some v := fun b v e nb => by rw [← eH, upd_ne nb]; exact g3 _ _ e nb
    clear eH
    exact ⟨_, rfl, kk _ p4 g4⟩
theorem ok_exitB (T : Top K mg C_Book C_LivePost C_MailError C_InvalidOperation C_InvalidOrder C_UnknownOrder C_NotHolding C_DecodeError C_NotationError C_UnknownLetter C_InvalidAddress C_InvalidDay C_InvalidNumber C_Contradiction C_InvalidCount) : MFn P w K mg base CX0 1 C_LivePost "__exit__" (spExitB C_LivePost) := by
  refine T.d_LivePostX_exitX.fn fun f fd F => F.ok sc_LivePostX_exitX (fun vs H Q E h => ?_) (fun cdv A outer s H vs Q E hr h => ?_)
  · obtain ⟨p, v1, v2, v3, kw, dx, sc, d, u, rfl, _⟩ := h
    rfl
  · obtain ⟨p, v1, v2, v3, ⟨b0, ks, kd, ku⟩, dx, sc, d, u, rfl, p0, kk⟩ := h
    refine ⟨_, (pss_cons (ps_fld (pv 0) (pe_fld (pv 0) rfl) rfl)
  (pss_cons (ps_fld (pv 0) (pe_fld (pv 0) rfl) rfl)
  (pss_cons (ps_fld (pv 0) (pe_fld (pv 0) rfl) rfl)
  (pss_one (ps_fld (pv 0) pe_bl rfl))))), ?_⟩
    refine ⟨_, rfl, p, C_LivePost, dx, _, _, rfl, p0, T.cl_LivePost, T.n_LivePost_kept_scene, rfl, ?_⟩
    refine ⟨_, rfl, p, C_LivePost, dx, _, rfl, p0, T.cl_LivePost, T.n_LivePost_scene, (by show 7 < 1000; decide), ?_⟩
    generalize eH : upd H p _ = G1
    have p1 : G1 p = some (.ins C_LivePost dx [("scene", .ref ks), ("done", .ref d), ("undone", .ref u), ("is_open", .bl b0), ("kept_scene", .ref ks), ("kept_done", .ref kd), ("kept_undone", .ref ku)]) := by rw [← eH, upd_same]; rfl
    have g1 : ∀ b v, H b = some v → b ≠ p → G1 b = some v := fun b v e nb => by rw [← eH, upd_ne nb]; exact e
    clear eH
    refine ⟨_, rfl, p, C_LivePost, dx, _, _, rfl, p1, T.cl_LivePost, T.n_LivePost_kept_done, rfl, ?_⟩
    refine ⟨_, rfl, p, C_LivePost, dx, _, rfl, p1, T.cl_LivePost, T.n_LivePost_done, (by show 7 < 1000; decide), ?_⟩
    generalize eH : upd G1 p _ = G2
    have p2 : G2 p = some (.ins C_LivePost dx [("scene", .ref ks), ("done", .ref kd), ("undone", .ref u), ("is_open", .bl b0), ("kept_scene", .ref ks), ("kept_done", .ref kd), ("kept_undone", .ref ku)]) := by rw [← eH, upd_same]; rfl
    have g2 : ∀ b v, H b = some v → b ≠ p → G2 b = some v := fun b v e nb => by rw [← eH, upd_ne nb]; exact g1 _ _ e nb
    clear eH
    refine ⟨_, rfl, p, C_LivePost, dx, _, _, rfl, p2, T.cl_LivePost, T.n_LivePost_kept_undone, rfl, ?_⟩
    refine ⟨_, rfl, p, C_LivePost, dx, _, rfl, p2, T.cl_LivePost, T.n_LivePost_undone, (by show 7 < 1000; decide), ?_⟩
    generalize eH : upd G2 p _ = G3
    have p3 : G3 p = some (.ins C_LivePost dx [("scene", .ref ks), ("done", .ref kd), ("undone", .ref ku), ("is_open", .bl b0), ("kept_scene", .ref ks), ("kept_done", .ref kd), ("kept_undone", .ref ku)]) := by rw [← eH, upd_same]; rfl
    have g3 : ∀ b v, H b = some v → b ≠ p → G3 b = some v := fun b v e nb => by rw [← eH, upd_ne nb]; exact g2 _ _ e nb
    clear eH
    refine ⟨_, rfl, p, C_LivePost, dx, _, rfl, p3, T.cl_LivePost, T.n_LivePost_is_open, (by show 7 < 1000; decide), ?_⟩
    generalize eH : upd G3 p _ = G4
    have p4 : G4 p = some (.ins C_LivePost dx [("scene", .ref ks), ("done", .ref kd), ("undone", .ref ku), ("is_open", .bl false), ("kept_scene", .ref ks), ("kept_done", .ref kd), ("kept_undone", .ref ku)]) := by rw [← eH, upd_same]; rfl
    have g4 : ∀ b v, H b = some v → b ≠ p → G4 b = some v := fun b v e nb => by rw [← eH, upd_ne nb]; exact g3 _ _ e nb
    clear eH
    exact kk _ p4 g4
theorem okH_exitB (T : Top K mg C_Book C_LivePost C_MailError C_InvalidOperation C_InvalidOrder C_UnknownOrder C_NotHolding C_DecodeError C_NotationError C_UnknownLetter C_InvalidAddress C_InvalidDay C_InvalidNumber C_Contradiction C_InvalidCount) : HFn P w K mg base CX0 1 C_LivePost "__exit__" (spExitB C_LivePost) := by
  refine T.d_LivePostX_exitX.fnH (k := 0) sc_LivePostX_exitX (fun vs H Q E h => ?_) (fun f cdv A outer s H vs Q E hp hot hr h => ?_)
  · obtain ⟨p, v1, v2, v3, kw, dx, sc, d, u, rfl, _⟩ := h
    rfl
  · obtain ⟨p, v1, v2, v3, ⟨b0, ks, kd, ku⟩, dx, sc, d, u, rfl, p0, kk⟩ := h
    refine ⟨_, (pss_cons (ps_fld (pv 0) (pe_fld (pv 0) rfl) rfl)
  (pss_cons (ps_fld (pv 0) (pe_fld (pv 0) rfl) rfl)
  (pss_cons (ps_fld (pv 0) (pe_fld (pv 0) rfl) rfl)
  (pss_one (ps_fld (pv 0) pe_bl rfl))))), ?_⟩
    refine ⟨_, rfl, p, C_LivePost, dx, _, _, rfl, p0, T.cl_LivePost, T.n_LivePost_kept_scene, rfl, ?_⟩
    refine ⟨_, rfl, p, C_LivePost, dx, _, rfl, p0, T.cl_LivePost, T.n_LivePost_scene, (by show 7 < 1000; decide), ?_⟩
    generalize eH : upd H p _ = G1
    have p1 : G1 p = some (.ins C_LivePost dx [("scene", .ref ks), ("done", .ref d), ("undone", .ref u), ("is_open", .bl b0), ("kept_scene", .ref ks), ("kept_done", .ref kd), ("kept_undone", .ref ku)]) := by rw [← eH, upd_same]; rfl
    have g1 : ∀ b v, H b = some v → b ≠ p → G1 b = some v := fun b v e nb => by rw [← eH, upd_ne nb]; exact e
    clear eH
    refine ⟨_, rfl, p, C_LivePost, dx, _, _, rfl, p1, T.cl_LivePost, T.n_LivePost_kept_done, rfl, ?_⟩
    refine ⟨_, rfl, p, C_LivePost, dx, _, rfl, p1, T.cl_LivePost, T.n_LivePost_done, (by show 7 < 1000; decide), ?_⟩
    generalize eH : upd G1 p _ = G2
    have p2 : G2 p = some (.ins C_LivePost dx [("scene", .ref ks), ("done", .ref kd), ("undone", .ref u), ("is_open", .bl b0), ("kept_scene", .ref ks), ("kept_done", .ref kd), ("kept_undone", .ref ku)]) := by rw [← eH, upd_same]; rfl
    have g2 : ∀ b v, H b = some v → b ≠ p → G2 b = some v := fun b v e nb => by rw [← eH, upd_ne nb]; exact g1 _ _ e nb
    clear eH
    refine ⟨_, rfl, p, C_LivePost, dx, _, _, rfl, p2, T.cl_LivePost, T.n_LivePost_kept_undone, rfl, ?_⟩
    refine ⟨_, rfl, p, C_LivePost, dx, _, rfl, p2, T.cl_LivePost, T.n_LivePost_undone, (by show 7 < 1000; decide), ?_⟩
    generalize eH : upd G2 p _ = G3
    have p3 : G3 p = some (.ins C_LivePost dx [("scene", .ref ks), ("done", .ref kd), ("undone", .ref ku), ("is_open", .bl b0), ("kept_scene", .ref ks), ("kept_done", .ref kd), ("kept_undone", .ref ku)]) := by rw [← eH, upd_same]; rfl
    have g3 : ∀ b v, H b = some v → b ≠ p → G3 b = some v := fun b v e nb => by rw [← eH, upd_ne nb]; exact g2 _ _ e nb
    clear eH
    refine ⟨_, rfl, p, C_LivePost, dx, _, rfl, p3, T.cl_LivePost, T.n_LivePost_is_open, (by show 7 < 1000; decide), ?_⟩
    generalize eH : upd G3 p _ = G4
    have p4 : G4 p = some (.ins C_LivePost dx [("scene", .ref ks), ("done", .ref kd), ("undone", .ref ku), ("is_open", .bl false), ("kept_scene", .ref ks), ("kept_done", .ref kd), ("kept_undone", .ref ku)]) := by rw [← eH, upd_same]; rfl
    have g4 : ∀ b v, H b = some v → b ≠ p → G4 b = some v := fun b v e nb => by rw [← eH, upd_ne nb]; exact g3 _ _ e nb
    clear eH
    exact kk _ p4 g4
end

end MF
set_option Elab.async false
set_option linter.all false
set_option maxRecDepth 100000
set_option maxHeartbeats 2000000
set_option pp.maxSteps 600
namespace MF
open PySem PySem.Spec PyProof.Rows L2 StX
section
variable {P : Program} {w : World} {K : PySem.W.Frag} {mg : Str → Option Value} {base : Heap} {C_Book C_LivePost C_MailError C_InvalidOperation C_InvalidOrder C_UnknownOrder C_NotHolding C_DecodeError C_NotationError C_UnknownLetter C_InvalidAddress C_InvalidDay C_InvalidNumber C_Contradiction C_InvalidCount : Addr}
structure RsRun (K : PySem.W.Frag) (CB CL : Addr) (c : Cls5) (p : Addr) (H : Hp) (Q : VK) (E : XK) (qs : List Addr) (ds : List Deed) (kw : Kpt) (S : Scn) (dn un : List Ent) : Prop where
  inp : ApIn K CB CL H p qs ds kw S dn un
  shut : kw.b = false
  rl : (scnF S ds).rows.length ≤ 1000
  bad : ∀ i d e, ds[i]? = some d → goodF S (ds.take i) → (actF (scnF S (ds.take i)) d).1 = .err e → ∀ H' kw' cls dd, kw'.b = false → LivO K CB CL H' p kw' S dn un → (∀ b u, H b = some u → b ≠ p → H' b = some u) → ErrAt c cls dd H' e → E cls dd H'
  good : goodF S ds → ∀ l ps H' kw', kw'.b = false → H l = none → H' l = some (.lst (ps.map V.ref)) → NumAt H' ps (pickR true (scnF S ds).rows (scnF S ds).rows.length) → LivO K CB CL H' p kw' S dn un → (∀ b u, H b = some u → b ≠ p → H' b = some u) → Q (.ref l) H'
def spRestXT (K : PySem.W.Frag) (CB CL : Addr) (c : Cls5) : Sp := fun vs H Q E => ∃ p t qs ds kw S dn un, vs = [V.ref p, .ref t] ∧ H t = some (.tup ((qs : List Addr).map V.ref)) ∧ RsRun K CB CL c p H Q E qs ds kw S dn un
def spRestX (K : PySem.W.Frag) (CB CL : Addr) (c : Cls5) : Sp := fun vs H Q E => ∃ p qs ds kw S dn un, vs = V.ref p :: (qs : List Addr).map V.ref ∧ RsRun K CB CL c p H Q E qs ds kw S dn un
theorem ErrAt.cls {c : Cls5} {cls : Value} {dd : Option Addr} {H : Hp} {e : Err} (h : ErrAt c cls dd H e) : ∃ C, cls = .ref C := by
  cases e <;> exact ⟨_, h.1⟩
theorem okX_rest (T : Top K mg C_Book C_LivePost C_MailError C_InvalidOperation C_InvalidOrder C_UnknownOrder C_NotHolding C_DecodeError C_NotationError C_UnknownLetter C_InvalidAddress C_InvalidDay C_InvalidNumber C_Contradiction C_InvalidCount) (AG : ArgD K mg w) : MFn P w K mg base (L2N.CX P w) 9 C_LivePost "resting_after" (spRestX K C_Book C_LivePost ⟨C_InvalidOrder, C_UnknownOrder, C_InvalidAddress, C_InvalidDay, C_InvalidNumber, C_UnknownLetter, C_NotHolding, C_InvalidOperation, C_Contradiction, C_InvalidCount, C_DecodeError, C_NotationError⟩) := by
  have X_LivePost_apply := okX_apply (P := P) (w := w) (base := base) T AG
  have PR_LivePost_resting : PFn P w K mg base CX0 1 C_LivePost "resting" (spPickR true K C_Book C_LivePost) := ok_resting T
  have M_LivePost___enter__ : MFn P w K mg base CX0 1 C_LivePost "__enter__" (spEnterB C_LivePost) := ok_enterB T
  have M_LivePost___exit__ : MFn P w K mg base CX0 1 C_LivePost "__exit__" (spExitB C_LivePost) := ok_exitB T
  have H_LivePost___exit__ : HFn P w K mg base CX0 1 C_LivePost "__exit__" (spExitB C_LivePost) := okH_exitB T
  refine (T.d_LivePost_resting_after.fnXN (k := 8) (sp := spRestXT K C_Book C_LivePost ⟨C_InvalidOrder, C_UnknownOrder, C_InvalidAddress, C_InvalidDay, C_InvalidNumber, C_UnknownLetter, C_NotHolding, C_InvalidOperation, C_Contradiction, C_InvalidCount, C_DecodeError, C_NotationError⟩) sc_LivePost_resting_after (fun f cdv A outer s H vs Q E hr h => ?_)).imp fun vs H Q E h => ?_
  · obtain ⟨p, t, qs, ds, kw, S, dn, un, rfl, ht, RR⟩ := h
    refine ⟨_, (pss_cons (ps_withN (i := 2) rfl rfl rfl takeEN (hr.mono (by decide)) T.cl_LivePost M_LivePost___enter__ M_LivePost___exit__ H_LivePost___exit__ sc_LivePost_resting_after.nd rfl (Or.inl rfl) (pv 0) (fun W pn xe tk po => (pss_cons (ps_expr (pe_mStarS X_LivePost_apply T.fi_LivePost_apply T.cl_LivePost (hr.mono (by decide)) (fun σ => L2N.passAt tk σ) (pv 2) (pv 1)))
  (pss_one (ps_set (i := 3) sc_LivePost_resting_after.nd rfl (Or.inl rfl) (pe_pr PR_LivePost_resting T.cl_LivePost (hr.mono (by decide)) (pv 2)))))))
  (pss_one (ps_ret (pv 3)))), ?_⟩
    have AI := RR.inp
    obtain ⟨dx, sc, d, u, h1, hsc, hdn, hun⟩ := AI.live.ex
    refine ⟨_, rfl, p, dx, _, rfl, h1, p, kw, dx, sc, d, u, rfl, h1, RR.shut, fun H1 p1 k1 => ?_⟩
    intro pn xe tk po
    refine ⟨_, rfl, p, dx, _, rfl, p1, rfl, fun q g hq => ?_⟩
    have s2 := Same.new (o := .met g p) hq
    have e2 : upd H1 q (.met g p) q = some (.met g p) := upd_same
    generalize upd H1 q (.met g p) = H2 at s2 e2
    have p2 := s2 _ _ p1
    have k2 : ∀ b u, H b = some u → b ≠ p → H2 b = some u := fun b u e nb => s2 _ _ (k1 _ _ e nb)
    have kb2 : KB K C_Book H H2 := KB.live h1 k2
    have kt2 : ∀ b u, H b = some u → tupl u = true → H2 b = some u := fun b u e y => k2 _ _ e (ne_of e h1 (by intro z; rw [z] at y; cases y))
    have AI2 : ApIn K C_Book C_LivePost H2 p qs ds ⟨true, sc, d, u⟩ S dn un := ⟨PySem.Paired.mono (fun _ _ h => h.kt kt2) AI.deeds, AI.ok, ⟨dx, sc, d, u, p2, hsc.keep kb2, hdn.keep kb2, hun.keep kb2⟩, AI.bnd, AI.few⟩
    have back : ∀ (H4 : Hp) (dx4 : Addr), H4 p = some (.ins C_LivePost dx4 (lpf ⟨false, sc, d, u⟩ sc d u)) → (∀ b u, H b = some u → b ≠ p → H4 b = some u) → LivO K C_Book C_LivePost H4 p ⟨false, sc, d, u⟩ S dn un := fun H4 dx4 p4 k4 =>
      have kb4 : KB K C_Book H H4 := KB.live h1 k4
      ⟨dx4, sc, d, u, p4, hsc.keep kb4, hdn.keep kb4, hun.keep kb4⟩
    refine ⟨_, rfl, t, _, rfl, .inl (.inl (.inl (kt2 _ _ ht rfl))), e2, p, _, rfl, .inr ⟨qs, ds, _, S, dn, un, rfl, AI2, fun i d' e ed g0 ee H3 cls dd L3 k3 er => ?_, fun gd l vs H3 hl el Rv L3 k3 => ?_⟩⟩
    · obtain ⟨dx3, sc3, d3, u3, p3⟩ := L3.ins
      have k03 : ∀ b u, H b = some u → b ≠ p → H3 b = some u := fun b u e nb => k3 _ _ (k2 _ _ e nb) nb
      obtain ⟨C, eC⟩ := er.cls
      refine ⟨C, eC, fun v1 v2 v3 => ⟨p, v1, v2, v3, _, dx3, sc3, d3, u3, rfl, p3, fun H4 p4 k4 => ⟨rfl, ?_⟩⟩⟩
      have k04 : ∀ b u, H b = some u → b ≠ p → H4 b = some u := fun b u e nb => k4 _ _ (k03 _ _ e nb) nb
      exact RR.bad i d' e ed g0 ee H4 ⟨false, sc, d, u⟩ cls dd rfl (back H4 dx3 p4 k04) k04 (er.kp fun d fs h => k4 _ _ h (ne_of h p3 (by intro z; cases z)))
    · obtain ⟨dx3, sc3, d3, u3, p3⟩ := L3.ins
      have k03 : ∀ b u, H b = some u → b ≠ p → H3 b = some u := fun b u e nb => k3 _ _ (k2 _ _ e nb) nb
      refine ⟨_, rfl, p, dx3, _, rfl, p3, p, _, _, _, _, rfl, L3, RR.rl, fun H4 l4 ps s4 f4 e4 N4 => ?_⟩
      have p4 := s4 _ _ p3
      refine ⟨p, .non, .non, .non, _, dx3, sc3, d3, u3, rfl, p4, fun H5 p5 k5 => ?_⟩
      have k05 : ∀ b u, H b = some u → b ≠ p → H5 b = some u := fun b u e nb => k5 _ _ (s4 _ _ (k03 _ _ e nb)) nb
      refine ⟨_, rfl, ?_⟩
      have n4 : l4 ≠ p := fun z => by rw [z, p4] at e4; cases e4
      refine RR.good gd l4 ps H5 ⟨false, sc, d, u⟩ rfl ?_ (k5 _ _ e4 n4) (PySem.Paired.mono (fun _ _ e => k5 _ _ e (ne_of e p4 (by intro z; cases z))) N4) (back H5 dx3 p5 k05) k05
      cases z : H l4 with
      | none => rfl
      | some o => rw [k03 _ _ z n4] at f4; cases f4
  · obtain ⟨p, qs, ds, kw, S, dn, un, rfl, RR⟩ := h
    have AI := RR.inp
    refine ⟨_, _, rfl, by rw [List.length_map, PySem.Paired.length AI.deeds, sizeLine_eq]; have := AI.few; omega, fun t ht => ?_⟩
    have s1 := Same.new (o := .tup (qs.map V.ref)) ht
    have e1 : upd H t (.tup (qs.map V.ref)) t = some (.tup (qs.map V.ref)) := upd_same
    generalize upd H t (.tup (qs.map V.ref)) = H1 at s1 e1
    refine ⟨p, t, qs, ds, kw, S, dn, un, rfl, e1, ⟨PySem.Paired.mono (fun _ _ h => h.kt fun b u e _ => s1 _ _ e) AI.deeds, AI.ok, AI.live.same s1, AI.bnd, AI.few⟩, RR.shut, RR.rl, fun i d e ed g ee H' kw' cls dd hb L f er => RR.bad i d e ed g ee H' kw' cls dd hb L (fun b u e nb => f _ _ (s1 _ _ e) nb) er, fun gd l ps H' kw' hb hl el N L k => ?_⟩
    refine RR.good gd l ps H' kw' hb ?_ el N L fun b u e nb => k _ _ (s1 _ _ e) nb
    cases z : H l with
    | none => rfl
    | some o => rw [s1 _ _ z] at hl; cases hl
end

end MF
set_option Elab.async false
set_option linter.all false
set_option maxRecDepth 100000
set_option maxHeartbeats 2000000
set_option pp.maxSteps 600
namespace MF
open PySem PySem.Spec PyProof.Rows L2 StX
section
variable {P : Program} {w : World} {K : PySem.W.Frag} {mg : Str → Option Value} {base : Heap} {C_Book C_LivePost C_MailError C_InvalidOperation C_InvalidOrder C_UnknownOrder C_NotHolding C_DecodeError C_NotationError C_UnknownLetter C_InvalidAddress C_InvalidDay C_InvalidNumber C_Contradiction C_InvalidCount : Addr}
theorem cut_hiV (xs : List V) (c : Nat) : cutV xs none (some (c : Int)) = xs.take c := by
  unfold cutV
  rw [HT.sIx_nat, HT.sIx_none]
  simp
def applyQ : Str := "_law_by_apply.<locals>.<lambda>"
def trialQ : Str := "_law_by_trial.<locals>.<lambda>"
theorem once_not {S : Scn} {ds : List Deed} {i : Nat} {d : Deed} {e : Err} (g : goodF S ds) (ed : ds[i]? = some d) (h : (actF (scnF S (ds.take i)) d).1 = .err e) : False := by
  have g1 := goodF_take g (i + 1)
  rw [show ds.take (i + 1) = ds.take i ++ [d] by rw [List.take_add_one, ed]; rfl, goodF_snoc] at g1
  rw [h] at g1
  cases g1.2
theorem once_uniq {S : Scn} {ds : List Deed} {i j : Nat} {d d' : Deed} {e e' : Err} (ed : ds[i]? = some d) (g : goodF S (ds.take i)) (h : (actF (scnF S (ds.take i)) d).1 = .err e) (ed' : ds[j]? = some d') (g' : goodF S (ds.take j)) (h' : (actF (scnF S (ds.take j)) d').1 = .err e') : e = e' := by
  have lt : ∀ {i j : Nat} {d : Deed} {e : Err}, ds[i]? = some d → (actF (scnF S (ds.take i)) d).1 = .err e → goodF S (ds.take j) → ¬ i < j := fun {i j d e} ed h g c => by
    refine once_not (ds := ds.take j) (i := i) (d := d) (e := e) g (by rw [List.getElem?_take_of_lt c]; exact ed) ?_
    rw [List.take_take, Nat.min_eq_left (by omega)]
    exact h
  have h1 := lt ed h g'
  have h2 := lt ed' h' g
  have hij : i = j := by omega
  subst hij
  rw [ed] at ed'
  cases ed'
  rw [h] at h'
  cases h'
  rfl
theorem three_of {qs : List Addr} (h : qs.length ≤ 3) : ∃ x0 x1 x2 : V, (qs.map V.ref ++ [V.int 0, V.int 0, V.int 0]).take 3 = [x0, x1, x2] ∧ qs.map V.ref = [x0, x1, x2].take qs.length := by
  cases qs with
  | nil => exact ⟨_, _, _, rfl, rfl⟩
  | cons a qs =>
    cases qs with
    | nil => exact ⟨_, _, _, rfl, rfl⟩
    | cons b qs =>
      cases qs with
      | nil => exact ⟨_, _, _, rfl, rfl⟩
      | cons c qs =>
        cases qs with
        | nil => exact ⟨_, _, _, rfl, rfl⟩
        | cons d qs =>
          simp only [List.length_cons] at h
          omega
structure ByIn (K : PySem.W.Frag) (CB CL : Addr) (TT : List (Addr × Str)) (H : Hp) (p dl : Addr) (qs : List Addr) (ds : List Deed) (kw : Kpt) (S : Scn) (dn un : List Ent) : Prop where
  tabs : LamX.Tabs TT H
  lst : H dl = some (.lst (qs.map V.ref))
  few : ds.length ≤ 3
  inp : ApIn K CB CL H p qs ds kw S dn un
def spByApply (K : PySem.W.Frag) (CB CL : Addr) (TT : List (Addr × Str)) : Sp := fun vs H Q _ => ∃ p dl qs ds kw S dn un, vs = [V.ref p, .ref dl] ∧ ByIn K CB CL TT H p dl qs ds kw S dn un ∧
  (goodF S ds → ∀ H' l vs, LamX.Tabs TT H' → (∀ b u, H b = some u → b ≠ p → (∀ ps, u ≠ .tbl ps) → H' b = some u) → H' l = some (.lst vs) → PySem.Paired (fun v r => Dp K H' v (dueD r)) vs (resF S ds) → LivO K CB CL H' p kw (scnF S ds) (dn ++ entF S ds) (if ds = [] then un else []) → Q (.ref l) H') ∧
  (∀ i d e, ds[i]? = some d → goodF S (ds.take i) → (actF (scnF S (ds.take i)) d).1 = .err e → ∀ H' t, LamX.Tabs TT H' → (∀ b u, H b = some u → b ≠ p → (∀ ps, u ≠ .tbl ps) → H' b = some u) → ToldAt H' t e → LivO K CB CL H' p kw S dn un → Q (.ref t) H')
theorem ok_by_apply (T : Top K mg C_Book C_LivePost C_MailError C_InvalidOperation C_InvalidOrder C_UnknownOrder C_NotHolding C_DecodeError C_NotationError C_UnknownLetter C_InvalidAddress C_InvalidDay C_InvalidNumber C_Contradiction C_InvalidCount) (AG : ArgD K mg w) {c2 P2 : Addr} {TT : List (Addr × Str)} (HTM : (P2, applyQ) ∈ TT) (HTU : ∀ p ∈ TT, p.1 = P2 → p.2 = applyQ) (D : GDefC K mg "_law_by_apply" s__law_by_apply ["_law_live", "_law_deeds"] c2) (TBL : LamX.TabB base mg c2 P2) : GFn P w K mg base CX0 13 "_law_by_apply" (spByApply K C_Book C_LivePost TT) := by
  have X_LivePost_apply : MFn P w K mg base (L2.CX P w) 8 C_LivePost "apply" (spApplyX K C_Book C_LivePost ⟨C_InvalidOrder, C_UnknownOrder, C_InvalidAddress, C_InvalidDay, C_InvalidNumber, C_UnknownLetter, C_NotHolding, C_InvalidOperation, C_Contradiction, C_InvalidCount, C_DecodeError, C_NotationError⟩) := MFn.drop (okX_apply T AG)
  refine D.fn fun f fd F => F.ok sc__law_by_apply (fun vs H Q E h => ?_) (fun A outer s H vs Q E hr h => ?_)
  · obtain ⟨p, dl, qs, ds, kw, S, dn, un, rfl, _⟩ := h
    rfl
  · obtain ⟨p, dl, qs, ds, kw, S, dn, un, rfl, BI, kG, kB⟩ := h
    refine ⟨_, (pss_cons (ps_asg (pe_slice sl_list (pe_op op_cat (pv 1) (pe_lst (pa_cons pe_int (pa_cons pe_int (pa_cons pe_int pa_nil))))) po_none (po_some pe_int)) (pg_lst rfl (pgs_cons (pg_name (i := 3) sc__law_by_apply.nd rfl (Or.inr rfl)) (pgs_cons (pg_name (i := 5) sc__law_by_apply.nd rfl (Or.inr rfl)) (pgs_cons (pg_name (i := 4) sc__law_by_apply.nd rfl (Or.inr rfl)) pgs_nil)))))
  (pss_cons (ps_set (i := 2) sc__law_by_apply.nd rfl (Or.inl rfl) (pe_lst (pa_cons (pe_lamX (X := (cxOf CX0 P w K mg base ["_law_live", "_law_deeds", "_law_work", "_law_one", "_law_three", "_law_two"] "_law_by_apply" (defScope s__law_by_apply) f (.ref c2) A outer s H E).nox) (k := 10) TBL HTM HTU (by kernel_rfl) rfl rfl (LamX.lamS_by (sc := defScope s__law_by_apply) (by decide +kernel)) (fun _ _ _ _ _ _ => rfl) (fun A outer s H E f c' hrL => (pe_mX0 X_LivePost_apply T.cl_LivePost (hrL.mono (by decide)) passM (pv 0)))) (pa_cons (pe_lamXD (X := (cxOf CX0 P w K mg base ["_law_live", "_law_deeds", "_law_work", "_law_one", "_law_three", "_law_two"] "_law_by_apply" (defScope s__law_by_apply) f (.ref c2) A outer s H E).nox) (k := 10) (x := "_law_a") TBL HTM HTU (by kernel_rfl) rfl rfl rfl (lamSN_by (N := ["_law_live", "_law_deeds", "_law_work", "_law_one", "_law_three", "_law_two"]) (sc := defScope s__law_by_apply) (by decide +kernel)) rfl (fun _ _ _ _ _ _ _ => ⟨_, rfl, fun _ => rfl⟩) (fun A outer s H E f c' hrL => (pe_mX X_LivePost_apply T.cl_LivePost (hrL.mono (by decide)) passM (pv 0) (pa_cons (pv 3) pa_nil)))) (pa_cons (pe_lamXD (X := (cxOf CX0 P w K mg base ["_law_live", "_law_deeds", "_law_work", "_law_one", "_law_three", "_law_two"] "_law_by_apply" (defScope s__law_by_apply) f (.ref c2) A outer s H E).nox) (k := 10) (x := "_law_b") TBL HTM HTU (by kernel_rfl) rfl rfl rfl (lamSN_by (N := ["_law_live", "_law_deeds", "_law_work", "_law_one", "_law_three", "_law_two"]) (sc := defScope s__law_by_apply) (by decide +kernel)) rfl (fun _ _ _ _ _ _ _ => ⟨_, rfl, fun _ => rfl⟩) (fun A outer s H E f c' hrL => (pe_mX X_LivePost_apply T.cl_LivePost (hrL.mono (by decide)) passM (pv 0) (pa_cons (pv 3) (pa_cons (pv 5) pa_nil))))) pa_nil)))))
  (pss_cons (ps_expr (pe_bm PySem.F.plainAttrs_list PySem.F.slot_list_append PySem.F.type_list_append mt_append (pv 2) (pa_cons (pe_lamXD (X := (cxOf CX0 P w K mg base ["_law_live", "_law_deeds", "_law_work", "_law_one", "_law_three", "_law_two"] "_law_by_apply" (defScope s__law_by_apply) f (.ref c2) A outer s H E).nox) (k := 10) (x := "_law_c") TBL HTM HTU (by kernel_rfl) rfl rfl rfl (lamSN_by (N := ["_law_live", "_law_deeds", "_law_work", "_law_one", "_law_three", "_law_two"]) (sc := defScope s__law_by_apply) (by decide +kernel)) rfl (fun _ _ _ _ _ _ _ => ⟨_, rfl, fun _ => rfl⟩) (fun A outer s H E f c' hrL => (pe_mX X_LivePost_apply T.cl_LivePost (hrL.mono (by decide)) passM (pv 0) (pa_cons (pv 3) (pa_cons (pv 5) (pa_cons (pv 4) pa_nil)))))) pa_nil)))
  (pss_one (ps_ret (pe_lamC (k := 10) (ok_told rfl rfl T) (hr.mono (by decide)) (by exact (pa_cons (pe_ix ix_list (pv 2) (pe_callB call_len_seq (by rfl) T.b_len (by decide +kernel) (pa_cons (pv 1) pa_nil)) (fun _ _ => rfl)) pa_nil)))))))), ?_⟩
    let tl (v2 v3 v4 v5 : Option V) : L2.St := [some (.ref p), some (.ref dl), v2, v3, v4, v5]
    have AI := BI.inp
    have lq : qs.length = ds.length := PySem.Paired.length AI.deeds
    have few := BI.few
    obtain ⟨dx, sc, d, u, h1⟩ := AI.live.ins
    obtain ⟨x0, x1, x2, ex, eq⟩ : ∃ x0 x1 x2 : V, (qs.map V.ref ++ [V.int 0, V.int 0, V.int 0]).take 3 = [x0, x1, x2] ∧ qs.map V.ref = [x0, x1, x2].take ds.length := by
      rw [← lq] at few ⊢
      exact three_of few
    refine ⟨_, rfl, (by show 3 ≤ sizeLine; decide), ?_⟩
    intro q0 hq0
    generalize gH1 : L2.upd _ q0 _ = H1
    obtain ⟨s1, e1⟩ := newS hq0 gH1
    clear gH1
    refine ⟨dl, q0, _, _, rfl, rfl, s1 _ _ BI.lst, e1, by rw [List.length_map, sizeLine_eq]; show qs.length + 3 ≤ _; omega, ?_⟩
    intro q1 hq1
    generalize gH2 : L2.upd _ q1 _ = H2
    obtain ⟨s2, e2⟩ := newS hq1 gH2
    clear gH2
    refine ⟨_, rfl, q1, _, rfl, SqL.of e2, ?_⟩
    intro q2 hq2
    generalize gH3 : L2.upd _ q2 _ = H3
    obtain ⟨s3, e3⟩ := newS hq2 gH3
    clear gH3
    have e3' : H3 q2 = some (.lst [x0, x1, x2]) := by
      rw [e3, ← ex, ← cut_hiV]
      rfl
    refine ⟨q2, _, rfl, SqL.of e3', rfl, _, _, rfl, _, _, rfl, _, _, rfl, rfl, ?_⟩
    have s03 := (s1.trans s2).trans s3
    have T3 := BI.tabs.ext s03
    clear e1 e2 e3 e3' hq0 hq1 hq2 s1 s2 s3
    refine ⟨T3, fun F1 Ha xa Ta fna LM1 => ⟨Ta, fun F2 Hb xb Tb fnb LM2 => ⟨Tb, fun F3 Hc xc Tc fnc LM3 => ⟨(by show 3 ≤ sizeLine; decide), ?_⟩⟩⟩⟩
    replace LM1 := (LM1.keep (ExtN.ext xb)).keep (ExtN.ext xc)
    replace LM2 := LM2.keep (ExtN.ext xc)
    intro lw hlw
    generalize gH4 : L2.upd _ lw _ = H4
    obtain ⟨s4, e4⟩ := newS hlw gH4
    clear gH4
    have xac : LamX.ExtN H3 H4 := ((xa.trans xb).trans xc).trans (LamX.ExtN.of s4)
    have T4 := Tc.ext s4
    replace LM1 := LM1.keep fun b φ z => s4 _ _ z
    replace LM2 := LM2.keep fun b φ z => s4 _ _ z
    replace LM3 := LM3.keep fun b φ z => s4 _ _ z
    refine ⟨_, rfl, .inl ⟨rfl, _, SqL.of e4⟩, T4, fun F4 Hm xm Tm fnm LM4 => ?_⟩
    have em := xm _ _ e4 (fun ps z => by cases z)
    refine ⟨lw, _, _, rfl, rfl, em, (by show 3 < sizeLine; decide), ?_⟩
    generalize gH5 : L2.upd _ lw _ = H5
    obtain ⟨up, er⟩ := updS gH5
    clear gH5
    have x3c : LamX.ExtN H3 Hc := (xa.trans xb).trans xc
    have x35 : LamX.ExtN H3 H5 := fun b u e n => up _ _ (xm _ _ (xac _ _ e n) n) (ne_of_none (x3c _ _ e n) hlw)
    have xx : ∀ b φ, H4 b = some (.ext φ) → H5 b = some (.ext φ) := fun b φ z => up _ _ (xm _ _ z (fun ps w => by cases w)) (fun w => by rw [w, e4] at z; cases z)
    have T5 := tabs_but em Tm up
    replace LM1 := LM1.keep xx
    replace LM2 := LM2.keep xx
    replace LM3 := LM3.keep xx
    replace LM4 := LM4.keep (fun b φ z => up _ _ z fun w => by rw [w, em] at z; cases z)
    have x05 : LamX.ExtN H H5 := (LamX.ExtN.of s03).trans x35
    clear xm Tm fnm em up xx s4 e4 xac x3c hlw
    have kt5 : ∀ b u, H b = some u → tupl u = true → H5 b = some u := fun b u e y => x05 _ _ e fun ps z => by rw [z] at y; cases y
    have p5 := x05 _ _ h1 (fun ps z => by cases z)
    have AI5 : ApIn K C_Book C_LivePost H5 p qs ds kw S dn un := ⟨PySem.Paired.mono (fun _ _ h => h.kt kt5) AI.deeds, AI.ok, AI.live.ext x05, AI.bnd, AI.few⟩
    have fin : ∀ ops : List V, ops = qs.map V.ref → spApplyX K C_Book C_LivePost ⟨C_InvalidOrder, C_UnknownOrder, C_InvalidAddress, C_InvalidDay, C_InvalidNumber, C_UnknownLetter, C_NotHolding, C_InvalidOperation, C_Contradiction, C_InvalidCount, C_DecodeError, C_NotationError⟩ (V.ref p :: ops) H5 Q (fun cls d H' => ∃ r, RK r ∧ ErrAt ⟨C_InvalidOrder, C_UnknownOrder, C_InvalidAddress, C_InvalidDay, C_InvalidNumber, C_UnknownLetter, C_NotHolding, C_InvalidOperation, C_Contradiction, C_InvalidCount, C_DecodeError, C_NotationError⟩ cls d H' r ∧ ∀ p H2, Same H' H2 → H' p = none → ToldAt H2 p r → Q (.ref p) H2) := fun ops eo => by
      refine ⟨p, ops, rfl, .inr ⟨qs, ds, kw, S, dn, un, eo, AI5, fun i d' e ed g ee H' cls dd L k er' => ⟨e, rk_live (actF_live ee), er', fun t H6 s6 ht tt => ?_⟩, fun g l vs H' hl el Rv L k => ?_⟩⟩
      · have k6 : ∀ b u, H5 b = some u → b ≠ p → H6 b = some u := fun b u e nb => s6 _ _ (k _ _ e nb)
        exact kB i d' e ed g ee H6 t (tabs_kp T5 p5 k6) (fun b u h nb nt => k6 _ _ (x05 _ _ h nt) nb) tt (L.same s6)
      · exact kG g H' l vs (tabs_kp T5 p5 k) (fun b u h nb nt => k _ _ (x05 _ _ h nt) nb) el (PySem.Paired.mono (fun v r h => res_dp h.1) Rv) L
    refine ⟨_, rfl, _, rfl, dl, _, rfl, .inl (SqL.of (x05 _ _ BI.lst (fun ps z => by cases z))), ?_⟩
    have hds : ds.length = 0 ∨ ds.length = 1 ∨ ds.length = 2 ∨ ds.length = 3 := by omega
    rcases hds with h0 | h0 | h0 | h0
    · rw [show (qs.map V.ref).length = 0 by rw [List.length_map, lq, h0]]
      rw [h0] at eq
      refine ⟨lw, _, _, _, rfl, rfl, SqL.of er, atI_nat (j := 0) rfl, _, F1, rfl, LM1, ?_⟩
      exact ⟨_, rfl, p, dx, _, rfl, p5, rfl, fin _ eq.symm⟩
    · rw [show (qs.map V.ref).length = 1 by rw [List.length_map, lq, h0]]
      rw [h0] at eq
      refine ⟨lw, _, _, _, rfl, rfl, SqL.of er, atI_nat (j := 1) rfl, _, F2, rfl, LM2, ?_⟩
      exact ⟨_, rfl, p, dx, _, rfl, p5, rfl, _, rfl, fin _ eq.symm⟩
    · rw [show (qs.map V.ref).length = 2 by rw [List.length_map, lq, h0]]
      rw [h0] at eq
      refine ⟨lw, _, _, _, rfl, rfl, SqL.of er, atI_nat (j := 2) rfl, _, F3, rfl, LM3, ?_⟩
      exact ⟨_, rfl, p, dx, _, rfl, p5, rfl, _, rfl, _, rfl, fin _ eq.symm⟩
    · rw [show (qs.map V.ref).length = 3 by rw [List.length_map, lq, h0]]
      rw [h0] at eq
      refine ⟨lw, _, _, _, rfl, rfl, SqL.of er, atI_nat (j := 3) rfl, _, F4, rfl, LM4, ?_⟩
      exact ⟨_, rfl, p, dx, _, rfl, p5, rfl, _, rfl, _, rfl, _, rfl, fin _ eq.symm⟩
end

end MF
set_option Elab.async false
set_option linter.all false
set_option maxRecDepth 100000
set_option maxHeartbeats 2000000
set_option pp.maxSteps 600
namespace MF
open PySem PySem.Spec PyProof.Rows L2 StX
section
variable {P : Program} {w : World} {K : PySem.W.Frag} {mg : Str → Option Value} {base : Heap} {C_Book C_LivePost C_MailError C_InvalidOperation C_InvalidOrder C_UnknownOrder C_NotHolding C_DecodeError C_NotationError C_UnknownLetter C_InvalidAddress C_InvalidDay C_InvalidNumber C_Contradiction C_InvalidCount : Addr}
def spByTrial (K : PySem.W.Frag) (CB CL : Addr) (TT : List (Addr × Str)) : Sp := fun vs H Q _ => ∃ p dl qs ds kw S dn un, vs = [V.ref p, .ref dl] ∧ ByIn K CB CL TT H p dl qs ds kw S dn un ∧
  kw.b = false ∧ (scnF S ds).rows.length ≤ 1000 ∧
  (goodF S ds → ∀ H' l ps kw', kw'.b = false → LamX.Tabs TT H' → (∀ b u, H b = some u → b ≠ p → (∀ ps, u ≠ .tbl ps) → H' b = some u) → H' l = some (.lst ((ps : List Addr).map V.ref)) → NumAt H' ps (pickR true (scnF S ds).rows (scnF S ds).rows.length) → LivO K CB CL H' p kw' S dn un → Q (.ref l) H') ∧
  (∀ i d e, ds[i]? = some d → goodF S (ds.take i) → (actF (scnF S (ds.take i)) d).1 = .err e → ∀ H' t kw', kw'.b = false → LamX.Tabs TT H' → (∀ b u, H b = some u → b ≠ p → (∀ ps, u ≠ .tbl ps) → H' b = some u) → ToldAt H' t e → LivO K CB CL H' p kw' S dn un → Q (.ref t) H')
theorem ok_by_trial (T : Top K mg C_Book C_LivePost C_MailError C_InvalidOperation C_InvalidOrder C_UnknownOrder C_NotHolding C_DecodeError C_NotationError C_UnknownLetter C_InvalidAddress C_InvalidDay C_InvalidNumber C_Contradiction C_InvalidCount) (AG : ArgD K mg w) {c2 P2 : Addr} {TT : List (Addr × Str)} (HTM : (P2, trialQ) ∈ TT) (HTU : ∀ p ∈ TT, p.1 = P2 → p.2 = trialQ) (D : GDefC K mg "_law_by_trial" s__law_by_trial ["_law_live", "_law_deeds"] c2) (TBL : LamX.TabB base mg c2 P2) : GFn P w K mg base CX0 14 "_law_by_trial" (spByTrial K C_Book C_LivePost TT) := by
  have X_LivePost_resting_after : MFn P w K mg base (L2.CX P w) 9 C_LivePost "resting_after" (spRestX K C_Book C_LivePost ⟨C_InvalidOrder, C_UnknownOrder, C_InvalidAddress, C_InvalidDay, C_InvalidNumber, C_UnknownLetter, C_NotHolding, C_InvalidOperation, C_Contradiction, C_InvalidCount, C_DecodeError, C_NotationError⟩) := MFn.drop (okX_rest T AG)
  refine D.fn fun f fd F => F.ok sc__law_by_trial (fun vs H Q E h => ?_) (fun A outer s H vs Q E hr h => ?_)
  · obtain ⟨p, dl, qs, ds, kw, S, dn, un, rfl, _⟩ := h
    rfl
  · obtain ⟨p, dl, qs, ds, kw, S, dn, un, rfl, BI, hb, rl, kG, kB⟩ := h
    refine ⟨_, (pss_cons (ps_asg (pe_slice sl_list (pe_op op_cat (pv 1) (pe_lst (pa_cons pe_int (pa_cons pe_int (pa_cons pe_int pa_nil))))) po_none (po_some pe_int)) (pg_lst rfl (pgs_cons (pg_name (i := 3) sc__law_by_trial.nd rfl (Or.inr rfl)) (pgs_cons (pg_name (i := 5) sc__law_by_trial.nd rfl (Or.inr rfl)) (pgs_cons (pg_name (i := 4) sc__law_by_trial.nd rfl (Or.inr rfl)) pgs_nil)))))
  (pss_cons (ps_set (i := 2) sc__law_by_trial.nd rfl (Or.inl rfl) (pe_lst (pa_cons (pe_lamX (X := (cxOf CX0 P w K mg base ["_law_live", "_law_deeds", "_law_work", "_law_one", "_law_three", "_law_two"] "_law_by_trial" (defScope s__law_by_trial) f (.ref c2) A outer s H E).nox) (k := 11) TBL HTM HTU (by kernel_rfl) rfl rfl (LamX.lamS_by (sc := defScope s__law_by_trial) (by decide +kernel)) (fun _ _ _ _ _ _ => rfl) (fun A outer s H E f c' hrL => (pe_mX0 X_LivePost_resting_after T.cl_LivePost (hrL.mono (by decide)) passM (pv 0)))) (pa_cons (pe_lamXD (X := (cxOf CX0 P w K mg base ["_law_live", "_law_deeds", "_law_work", "_law_one", "_law_three", "_law_two"] "_law_by_trial" (defScope s__law_by_trial) f (.ref c2) A outer s H E).nox) (k := 11) (x := "_law_a") TBL HTM HTU (by kernel_rfl) rfl rfl rfl (lamSN_by (N := ["_law_live", "_law_deeds", "_law_work", "_law_one", "_law_three", "_law_two"]) (sc := defScope s__law_by_trial) (by decide +kernel)) rfl (fun _ _ _ _ _ _ _ => ⟨_, rfl, fun _ => rfl⟩) (fun A outer s H E f c' hrL => (pe_mX X_LivePost_resting_after T.cl_LivePost (hrL.mono (by decide)) passM (pv 0) (pa_cons (pv 3) pa_nil)))) pa_nil))))
  (pss_cons (ps_set (i := 2) sc__law_by_trial.nd rfl (Or.inl rfl) (pe_op op_cat (pv 2) (pe_lst (pa_cons (pe_lamXD (X := (cxOf CX0 P w K mg base ["_law_live", "_law_deeds", "_law_work", "_law_one", "_law_three", "_law_two"] "_law_by_trial" (defScope s__law_by_trial) f (.ref c2) A outer s H E).nox) (k := 11) (x := "_law_b") TBL HTM HTU (by kernel_rfl) rfl rfl rfl (lamSN_by (N := ["_law_live", "_law_deeds", "_law_work", "_law_one", "_law_three", "_law_two"]) (sc := defScope s__law_by_trial) (by decide +kernel)) rfl (fun _ _ _ _ _ _ _ => ⟨_, rfl, fun _ => rfl⟩) (fun A outer s H E f c' hrL => (pe_mX X_LivePost_resting_after T.cl_LivePost (hrL.mono (by decide)) passM (pv 0) (pa_cons (pv 3) (pa_cons (pv 5) pa_nil))))) (pa_cons (pe_lamXD (X := (cxOf CX0 P w K mg base ["_law_live", "_law_deeds", "_law_work", "_law_one", "_law_three", "_law_two"] "_law_by_trial" (defScope s__law_by_trial) f (.ref c2) A outer s H E).nox) (k := 11) (x := "_law_c") TBL HTM HTU (by kernel_rfl) rfl rfl rfl (lamSN_by (N := ["_law_live", "_law_deeds", "_law_work", "_law_one", "_law_three", "_law_two"]) (sc := defScope s__law_by_trial) (by decide +kernel)) rfl (fun _ _ _ _ _ _ _ => ⟨_, rfl, fun _ => rfl⟩) (fun A outer s H E f c' hrL => (pe_mX X_LivePost_resting_after T.cl_LivePost (hrL.mono (by decide)) passM (pv 0) (pa_cons (pv 3) (pa_cons (pv 5) (pa_cons (pv 4) pa_nil)))))) pa_nil)))))
  (pss_one (ps_ret (pe_lamC (k := 11) (ok_told rfl rfl T) (hr.mono (by decide)) (by exact (pa_cons (pe_ix ix_list (pv 2) (pe_callB call_len_seq (by rfl) T.b_len (by decide +kernel) (pa_cons (pv 1) pa_nil)) (fun _ _ => rfl)) pa_nil)))))))), ?_⟩
    let tl (v2 v3 v4 v5 : Option V) : L2.St := [some (.ref p), some (.ref dl), v2, v3, v4, v5]
    have AI := BI.inp
    have lq : qs.length = ds.length := PySem.Paired.length AI.deeds
    have few := BI.few
    obtain ⟨dx, sc, d, u, h1⟩ := AI.live.ins
    obtain ⟨x0, x1, x2, ex, eq⟩ : ∃ x0 x1 x2 : V, (qs.map V.ref ++ [V.int 0, V.int 0, V.int 0]).take 3 = [x0, x1, x2] ∧ qs.map V.ref = [x0, x1, x2].take ds.length := by
      rw [← lq] at few ⊢
      exact three_of few
    refine ⟨_, rfl, (by show 3 ≤ sizeLine; decide), ?_⟩
    intro q0 hq0
    generalize gH1 : L2.upd _ q0 _ = H1
    obtain ⟨s1, e1⟩ := newS hq0 gH1
    clear gH1
    refine ⟨dl, q0, _, _, rfl, rfl, s1 _ _ BI.lst, e1, by rw [List.length_map, sizeLine_eq]; show qs.length + 3 ≤ _; omega, ?_⟩
    intro q1 hq1
    generalize gH2 : L2.upd _ q1 _ = H2
    obtain ⟨s2, e2⟩ := newS hq1 gH2
    clear gH2
    refine ⟨_, rfl, q1, _, rfl, SqL.of e2, ?_⟩
    intro q2 hq2
    generalize gH3 : L2.upd _ q2 _ = H3
    obtain ⟨s3, e3⟩ := newS hq2 gH3
    clear gH3
    have e3' : H3 q2 = some (.lst [x0, x1, x2]) := by
      rw [e3, ← ex, ← cut_hiV]
      rfl
    refine ⟨q2, _, rfl, SqL.of e3', rfl, _, _, rfl, _, _, rfl, _, _, rfl, rfl, ?_⟩
    have s03 := (s1.trans s2).trans s3
    have T3 := BI.tabs.ext s03
    clear e1 e2 e3 e3' hq0 hq1 hq2 s1 s2 s3
    refine ⟨T3, fun F1 Ha xa Ta fna LM1 => ⟨Ta, fun F2 Hb xb Tb fnb LM2 => ⟨(by show 2 ≤ sizeLine; decide), ?_⟩⟩⟩
    replace LM1 := LM1.keep (ExtN.ext xb)
    intro la hla
    generalize gH4 : L2.upd _ la _ = H4
    obtain ⟨s4, e4⟩ := newS hla gH4
    clear gH4
    have T4 := Tb.ext s4
    replace LM1 := LM1.keep fun b φ z => s4 _ _ z
    replace LM2 := LM2.keep fun b φ z => s4 _ _ z
    refine ⟨_, rfl, T4, fun F3 Hm xm Tm fnm LM3 => ⟨Tm, fun F4 Hn xn Tn fnn LM4 => ⟨(by show 2 ≤ sizeLine; decide), ?_⟩⟩⟩
    intro lb hlb
    generalize gH5 : L2.upd _ lb _ = H5
    obtain ⟨s5, e5⟩ := newS hlb gH5
    clear gH5
    have em := s5 _ _ (xn _ _ (xm _ _ e4 (fun ps z => by cases z)) (fun ps z => by cases z))
    refine ⟨la, lb, _, _, rfl, rfl, em, e5, (by show 4 ≤ sizeLine; decide), ?_⟩
    intro lw hlw
    generalize gH6 : L2.upd _ lw _ = H6
    obtain ⟨s6, er⟩ := newS hlw gH6
    clear gH6
    have x46 : LamX.ExtN H4 H6 := ((xm.trans xn).trans (LamX.ExtN.of s5)).trans (LamX.ExtN.of s6)
    have T6 := (Tn.ext s5).ext s6
    replace LM1 := LM1.keep (ExtN.ext x46)
    replace LM2 := LM2.keep (ExtN.ext x46)
    replace LM3 := LM3.keep (ExtN.ext ((xn.trans (LamX.ExtN.of s5)).trans (LamX.ExtN.of s6)))
    replace LM4 := LM4.keep (ExtN.ext ((LamX.ExtN.of s5).trans (LamX.ExtN.of s6)))
    have x06 : LamX.ExtN H H6 := (LamX.ExtN.of s03).trans (((xa.trans xb).trans (LamX.ExtN.of s4)).trans x46)
    clear s4 e4 s5 e5 em s6 x46 xm xn
    have kt6 : ∀ b u, H b = some u → tupl u = true → H6 b = some u := fun b u e y => x06 _ _ e fun ps z => by rw [z] at y; cases y
    have p6 := x06 _ _ h1 (fun ps z => by cases z)
    have AI6 : ApIn K C_Book C_LivePost H6 p qs ds kw S dn un := ⟨PySem.Paired.mono (fun _ _ h => h.kt kt6) AI.deeds, AI.ok, AI.live.ext x06, AI.bnd, AI.few⟩
    have fin : ∀ ops : List V, ops = qs.map V.ref → spRestX K C_Book C_LivePost ⟨C_InvalidOrder, C_UnknownOrder, C_InvalidAddress, C_InvalidDay, C_InvalidNumber, C_UnknownLetter, C_NotHolding, C_InvalidOperation, C_Contradiction, C_InvalidCount, C_DecodeError, C_NotationError⟩ (V.ref p :: ops) H6 Q (fun cls d H' => ∃ r, RK r ∧ ErrAt ⟨C_InvalidOrder, C_UnknownOrder, C_InvalidAddress, C_InvalidDay, C_InvalidNumber, C_UnknownLetter, C_NotHolding, C_InvalidOperation, C_Contradiction, C_InvalidCount, C_DecodeError, C_NotationError⟩ cls d H' r ∧ ∀ p H2, Same H' H2 → H' p = none → ToldAt H2 p r → Q (.ref p) H2) := fun ops eo => by
      refine ⟨p, qs, ds, kw, S, dn, un, by rw [eo], AI6, hb, rl, fun i d' e ed g ee H' kw' cls dd hb' L k er' => ⟨e, rk_live (actF_live ee), er', fun t H7 s7 ht tt => ?_⟩, fun g l ps H' kw' hb' hl el N L k => ?_⟩
      · have k7 : ∀ b u, H6 b = some u → b ≠ p → H7 b = some u := fun b u e nb => s7 _ _ (k _ _ e nb)
        exact kB i d' e ed g ee H7 t kw' hb' (tabs_kp T6 p6 k7) (fun b u h nb nt => k7 _ _ (x06 _ _ h nt) nb) tt (L.same s7)
      · exact kG g H' l ps kw' hb' (tabs_kp T6 p6 k) (fun b u h nb nt => k _ _ (x06 _ _ h nt) nb) el N L
    refine ⟨_, rfl, _, rfl, dl, _, rfl, .inl (SqL.of (x06 _ _ BI.lst (fun ps z => by cases z))), ?_⟩
    have hds : ds.length = 0 ∨ ds.length = 1 ∨ ds.length = 2 ∨ ds.length = 3 := by omega
    rcases hds with h0 | h0 | h0 | h0
    · rw [show (qs.map V.ref).length = 0 by rw [List.length_map, lq, h0]]
      rw [h0] at eq
      refine ⟨lw, _, _, _, rfl, rfl, SqL.of er, atI_nat (j := 0) rfl, _, F1, rfl, LM1, ?_⟩
      exact ⟨_, rfl, p, dx, _, rfl, p6, rfl, fin _ eq.symm⟩
    · rw [show (qs.map V.ref).length = 1 by rw [List.length_map, lq, h0]]
      rw [h0] at eq
      refine ⟨lw, _, _, _, rfl, rfl, SqL.of er, atI_nat (j := 1) rfl, _, F2, rfl, LM2, ?_⟩
      exact ⟨_, rfl, p, dx, _, rfl, p6, rfl, _, rfl, fin _ eq.symm⟩
    · rw [show (qs.map V.ref).length = 2 by rw [List.length_map, lq, h0]]
      rw [h0] at eq
      refine ⟨lw, _, _, _, rfl, rfl, SqL.of er, atI_nat (j := 2) rfl, _, F3, rfl, LM3, ?_⟩
      exact ⟨_, rfl, p, dx, _, rfl, p6, rfl, _, rfl, _, rfl, fin _ eq.symm⟩
    · rw [show (qs.map V.ref).length = 3 by rw [List.length_map, lq, h0]]
      rw [h0] at eq
      refine ⟨lw, _, _, _, rfl, rfl, SqL.of er, atI_nat (j := 3) rfl, _, F4, rfl, LM4, ?_⟩
      exact ⟨_, rfl, p, dx, _, rfl, p6, rfl, _, rfl, _, rfl, _, rfl, fin _ eq.symm⟩
end

end MF
set_option Elab.async false
set_option linter.all false
set_option maxRecDepth 100000
set_option maxHeartbeats 2000000
set_option pp.maxSteps 600
namespace MF
open PySem PySem.Spec PyProof.Rows L2 StX
section
variable {P : Program} {w : World} {K : PySem.W.Frag} {mg : Str → Option Value} {base : Heap} {C_Book C_LivePost C_MailError C_InvalidOperation C_InvalidOrder C_UnknownOrder C_NotHolding C_DecodeError C_NotationError C_UnknownLetter C_InvalidAddress C_InvalidDay C_InvalidNumber C_Contradiction C_InvalidCount : Addr}
theorem paired_snoc {α β : Type} {r : α → β → Prop} : ∀ {ms : List β} {m : β} {ls : List α}, PySem.Paired r ls (ms ++ [m]) → ∃ ts e, ls = ts ++ [e] ∧ PySem.Paired r ts ms ∧ r e m
  | [], m, _, .cons h .nil => ⟨[], _, rfl, .nil, h⟩
  | _ :: ms, m, _, .cons h t => by
    obtain ⟨ts, e, e1, e2, e3⟩ := paired_snoc t
    exact ⟨_ :: ts, e, by rw [e1]; rfl, .cons h e2, e3⟩
def spUndo (K : PySem.W.Frag) (CB CL : Addr) : Sp := fun vs H Q _ => ∃ p kw S dn un, vs = [.ref p] ∧ LivO K CB CL H p kw S dn un ∧ dn.length < 1000 ∧ un.length < 1000 ∧
  (dn = [] → ∀ H', Same H H' → Q (.bl false) H') ∧ ∀ xs x, dn = xs ++ [x] → ∀ H', LivO K CB CL H' p kw x.2.1 xs (un ++ [x]) → (∀ b u, H b = some u → b ≠ p → H' b = some u) → Q (.bl true) H'
theorem ok_undo (T : Top K mg C_Book C_LivePost C_MailError C_InvalidOperation C_InvalidOrder C_UnknownOrder C_NotHolding C_DecodeError C_NotationError C_UnknownLetter C_InvalidAddress C_InvalidDay C_InvalidNumber C_Contradiction C_InvalidCount) : MFn P w K mg base CX0 1 C_LivePost "undo" (spUndo K C_Book C_LivePost) := by
  refine T.d_LivePost_undo.fn fun f fd F => F.ok sc_LivePost_undo (fun vs H Q E h => ?_) (fun cdv A outer s H vs Q E hr h => ?_)
  · obtain ⟨p, kw, S, dn, un, rfl, _⟩ := h
    rfl
  · obtain ⟨p, kw, S, dn, un, rfl, ⟨dx, sc, d, u, h1, hs, ⟨td, hd, Pd⟩, ⟨tu, hu', Pu⟩⟩, l1, l2, k0, kk⟩ := h
    have hE : (A.deeper (envOfC "LivePost.undo" (defScope s_LivePost_undo) s.heap.objs.size f cdv)).units < cLine := by have := hr.un; omega
    refine ⟨_, (pss_cons (ps_if (pt_cmpR (op_eqT0 hE) (pe_fld (pv 0) rfl) (pe_tup pa_nil) (nomark _))
  (pss_one (ps_ret pe_bl))
  pss_nil)
  (pss_cons (ps_asg (pe_fld (pv 0) rfl) (pg_starT rfl (pgs_star (pg_name (i := 1) sc_LivePost_undo.nd rfl (Or.inl rfl)) (pgs_cons (pg_name (i := 2) sc_LivePost_undo.nd rfl (Or.inl rfl)) pgs_nil))))
  (pss_cons (ps_asg (pe_tup (pa_cons (pe_callTy call_tuple_of (by rfl) T.b_tuple (by decide +kernel) (pa_cons (pv 1) pa_nil)) (pa_cons (pe_tup (pa_star (pe_fld (pv 0) rfl) (pa_cons (pv 2) pa_nil))) (pa_cons (pe_ix ix_tup (pv 2) pe_int (fun _ _ => rfl)) pa_nil)))) (pg_tup rfl (pgs_cons (pg_fld (pv 0)) (pgs_cons (pg_fld (pv 0)) (pgs_cons (pg_fld (pv 0)) pgs_nil)))))
  (pss_one (ps_ret pe_bl))))), ?_⟩
    have lts : td.length = dn.length := PySem.Paired.length Pd
    have lto : tu.length = un.length := PySem.Paired.length Pu
    have hsrc := hd
    have hdst := hu'
    refine ⟨_, rfl, p, C_LivePost, dx, _, _, rfl, h1, T.cl_LivePost, T.n_LivePost_done, rfl, (by show 0 ≤ sizeLine; decide), fun q0 hq0 => ?_⟩
    have s0 := Same.new (o := .tup []) hq0
    have f0 : upd H q0 (.tup []) q0 = some (.tup []) := upd_same
    generalize upd H q0 (.tup []) = H0 at s0 f0
    refine ⟨d, q0, _, rfl, rfl, .inl (.inl (s0 _ _ hsrc)), .inl (.inl f0), ?_⟩
    rcases List.eq_nil_or_concat dn with e0 | ⟨xs, x, e0⟩
    · subst e0
      cases Pd
      exact ⟨_, rfl, iteT (k0 rfl _ s0)⟩
    rw [List.concat_eq_append] at e0
    subst e0
    replace kk := kk xs x rfl
    clear k0
    obtain ⟨ts, e, rfl, Pts, ⟨op, sb, sa, he, hop, hb, ha⟩⟩ : ∃ ts e, td = ts ++ [e] ∧ PySem.Paired (EnAt K C_Book H) ts xs ∧ EnAt K C_Book H e x := paired_snoc Pd
    rw [List.map_append] at hd hsrc
    rw [List.length_append] at lts
    simp only [List.length_append, List.length_cons, List.length_nil] at l1 l2 lts
    rw [List.map_append]
    rw [show (ts.map V.ref ++ [e].map V.ref).isEmpty = false by cases ts <;> rfl]
    refine ⟨_, rfl, iteF ?_⟩
    refine ⟨_, rfl, p, C_LivePost, dx, _, _, rfl, s0 _ _ h1, T.cl_LivePost, T.n_LivePost_done, rfl, d, ts.map V.ref, .ref e, rfl, .inl (.inl (s0 _ _ hsrc)), fun D hD => ⟨_, _, rfl, _, _, rfl, rfl, ?_⟩⟩
    have s1 := s0.trans (Same.new (o := .lst (ts.map V.ref)) hD)
    have fD : upd H0 D (.lst (ts.map V.ref)) D = some (.lst (ts.map V.ref)) := upd_same
    generalize upd H0 D (.lst (ts.map V.ref)) = H1 at s1 fD
    refine ⟨_, rfl, D, _, rfl, .inl ⟨SqL.of fD, fun q1 hq1 => ?_⟩⟩
    have s2 := s1.trans (Same.new (o := .tup (ts.map V.ref)) hq1)
    have f1 : upd H1 q1 (.tup (ts.map V.ref)) q1 = some (.tup (ts.map V.ref)) := upd_same
    generalize upd H1 q1 (.tup (ts.map V.ref)) = H2 at s2 f1
    refine ⟨_, rfl, p, C_LivePost, dx, _, _, rfl, s2 _ _ h1, T.cl_LivePost, T.n_LivePost_undone, rfl, u, _, rfl, .inl (.inl (.inl (s2 _ _ hdst))), ?_⟩
    refine ⟨_, rfl, by rw [List.length_append, List.length_map, sizeLine_eq]; simp only [List.length_cons, List.length_nil]; omega, fun q2 hq2 => ?_⟩
    have s3' := Same.new (o := .tup (tu.map V.ref ++ [V.ref e])) hq2
    have s3 := s2.trans s3'
    have f2 : upd H2 q2 (.tup (tu.map V.ref ++ [V.ref e])) q2 = some (.tup (tu.map V.ref ++ [V.ref e])) := upd_same
    generalize upd H2 q2 (.tup (tu.map V.ref ++ [V.ref e])) = H3 at s3' s3 f2
    refine ⟨_, rfl, e, _, _, _, rfl, rfl, .inl (.inl (s3 _ _ he)), rfl, (by show 3 ≤ sizeLine; decide), fun q3 hq3 => ?_⟩
    have s4' := Same.new (o := .tup [.ref q1, .ref q2, .ref sb]) hq3
    have s4 := s3.trans s4'
    have f3 : upd H3 q3 (.tup [.ref q1, .ref q2, .ref sb]) q3 = some (.tup [.ref q1, .ref q2, .ref sb]) := upd_same
    generalize upd H3 q3 (.tup [.ref q1, .ref q2, .ref sb]) = H4 at s4' s4 f3
    replace f1 := s4' _ _ (s3' _ _ f1)
    replace f2 := s4' _ _ f2
    have p4 := s4 _ _ h1
    refine ⟨q3, _, rfl, .inl (.inl f3), rfl, _, _, rfl, _, rfl, p, C_LivePost, dx, _, rfl, p4, T.cl_LivePost, T.n_LivePost_done, (by show 7 < 1000; decide), ?_⟩
    generalize eH : upd H4 p _ = H5
    have p5 : H5 p = some (.ins C_LivePost dx (lpf kw sc q1 u)) := by rw [← eH, upd_same]; rfl
    have g5 : ∀ b v, H4 b = some v → b ≠ p → H5 b = some v := fun b v e nb => by rw [← eH, upd_ne nb]; exact e
    clear eH
    refine ⟨_, _, rfl, _, rfl, p, C_LivePost, dx, _, rfl, p5, T.cl_LivePost, T.n_LivePost_undone, (by show 7 < 1000; decide), ?_⟩
    generalize eH : upd H5 p _ = H6
    have p6 : H6 p = some (.ins C_LivePost dx (lpf kw sc q1 q2)) := by rw [← eH, upd_same]; rfl
    have g6 : ∀ b v, H5 b = some v → b ≠ p → H6 b = some v := fun b v e nb => by rw [← eH, upd_ne nb]; exact e
    clear eH
    refine ⟨_, _, rfl, _, rfl, p, C_LivePost, dx, _, rfl, p6, T.cl_LivePost, T.n_LivePost_scene, (by show 7 < 1000; decide), rfl, ?_⟩
    generalize eH : upd H6 p _ = H7
    have p7 : H7 p = some (.ins C_LivePost dx (lpf kw sb q1 q2)) := by rw [← eH, upd_same]; rfl
    have g7 : ∀ b v, H6 b = some v → b ≠ p → H7 b = some v := fun b v e nb => by rw [← eH, upd_ne nb]; exact e
    clear eH
    have g47 : ∀ b v, H4 b = some v → b ≠ p → H7 b = some v := fun b v e nb => g7 _ _ (g6 _ _ (g5 _ _ e nb) nb) nb
    have g07 : ∀ b v, H b = some v → b ≠ p → H7 b = some v := fun b v e nb => g47 _ _ (s4 _ _ e) nb
    have kb : KB K C_Book H H7 := KB.live h1 g07
    have F1 : H7 q1 = some (.tup (ts.map V.ref)) := g47 _ _ f1 (ne_of f1 p4 (by intro z; cases z))
    have F2 : H7 q2 = some (.tup ((tu ++ [e]).map V.ref)) := by
      rw [List.map_append]
      exact g47 _ _ f2 (ne_of f2 p4 (by intro z; cases z))
    have D1 : DoAt K C_Book H7 q1 xs := ⟨ts, F1, PySem.Paired.mono (fun _ _ e => e.keep kb) Pts⟩
    have D2 : DoAt K C_Book H7 q2 (un ++ [x]) := ⟨tu ++ [e], F2, Paired.append (PySem.Paired.mono (fun _ _ e => e.keep kb) Pu) (.cons (EnAt.keep ⟨op, sb, sa, he, hop, hb, ha⟩ kb) .nil)⟩
    exact kk _ ⟨dx, sb, q1, q2, p7, hb.keep kb, D1, D2⟩ g07
def spRedo (K : PySem.W.Frag) (CB CL : Addr) : Sp := fun vs H Q _ => ∃ p kw S dn un, vs = [.ref p] ∧ LivO K CB CL H p kw S dn un ∧ dn.length < 1000 ∧ un.length < 1000 ∧
  (un = [] → ∀ H', Same H H' → Q (.bl false) H') ∧ ∀ xs x, un = xs ++ [x] → ∀ H', LivO K CB CL H' p kw x.2.2 (dn ++ [x]) xs → (∀ b u, H b = some u → b ≠ p → H' b = some u) → Q (.bl true) H'
theorem ok_redo (T : Top K mg C_Book C_LivePost C_MailError C_InvalidOperation C_InvalidOrder C_UnknownOrder C_NotHolding C_DecodeError C_NotationError C_UnknownLetter C_InvalidAddress C_InvalidDay C_InvalidNumber C_Contradiction C_InvalidCount) : MFn P w K mg base CX0 1 C_LivePost "redo" (spRedo K C_Book C_LivePost) := by
  refine T.d_LivePost_redo.fn fun f fd F => F.ok sc_LivePost_redo (fun vs H Q E h => ?_) (fun cdv A outer s H vs Q E hr h => ?_)
  · obtain ⟨p, kw, S, dn, un, rfl, _⟩ := h
    rfl
  · obtain ⟨p, kw, S, dn, un, rfl, ⟨dx, sc, d, u, h1, hs, ⟨td, hd, Pd⟩, ⟨tu, hu', Pu⟩⟩, l1, l2, k0, kk⟩ := h
    have hE : (A.deeper (envOfC "LivePost.redo" (defScope s_LivePost_redo) s.heap.objs.size f cdv)).units < cLine := by have := hr.un; omega
    refine ⟨_, (pss_cons (ps_if (pt_cmpR (op_eqT0 hE) (pe_fld (pv 0) rfl) (pe_tup pa_nil) (nomark _))
  (pss_one (ps_ret pe_bl))
  pss_nil)
  (pss_cons (ps_asg (pe_fld (pv 0) rfl) (pg_starT rfl (pgs_star (pg_name (i := 1) sc_LivePost_redo.nd rfl (Or.inl rfl)) (pgs_cons (pg_name (i := 2) sc_LivePost_redo.nd rfl (Or.inl rfl)) pgs_nil))))
  (pss_cons (ps_asg (pe_tup (pa_cons (pe_callTy call_tuple_of (by rfl) T.b_tuple (by decide +kernel) (pa_cons (pv 1) pa_nil)) (pa_cons (pe_tup (pa_star (pe_fld (pv 0) rfl) (pa_cons (pv 2) pa_nil))) (pa_cons (pe_ix ix_tup (pv 2) pe_int (fun _ _ => rfl)) pa_nil)))) (pg_tup rfl (pgs_cons (pg_fld (pv 0)) (pgs_cons (pg_fld (pv 0)) (pgs_cons (pg_fld (pv 0)) pgs_nil)))))
  (pss_one (ps_ret pe_bl))))), ?_⟩
    have lts : tu.length = un.length := PySem.Paired.length Pu
    have lto : td.length = dn.length := PySem.Paired.length Pd
    have hsrc := hu'
    have hdst := hd
    refine ⟨_, rfl, p, C_LivePost, dx, _, _, rfl, h1, T.cl_LivePost, T.n_LivePost_undone, rfl, (by show 0 ≤ sizeLine; decide), fun q0 hq0 => ?_⟩
    have s0 := Same.new (o := .tup []) hq0
    have f0 : upd H q0 (.tup []) q0 = some (.tup []) := upd_same
    generalize upd H q0 (.tup []) = H0 at s0 f0
    refine ⟨u, q0, _, rfl, rfl, .inl (.inl (s0 _ _ hsrc)), .inl (.inl f0), ?_⟩
    rcases List.eq_nil_or_concat un with e0 | ⟨xs, x, e0⟩
    · subst e0
      cases Pu
      exact ⟨_, rfl, iteT (k0 rfl _ s0)⟩
    rw [List.concat_eq_append] at e0
    subst e0
    replace kk := kk xs x rfl
    clear k0
    obtain ⟨ts, e, rfl, Pts, ⟨op, sb, sa, he, hop, hb, ha⟩⟩ : ∃ ts e, tu = ts ++ [e] ∧ PySem.Paired (EnAt K C_Book H) ts xs ∧ EnAt K C_Book H e x := paired_snoc Pu
    rw [List.map_append] at hu' hsrc
    rw [List.length_append] at lts
    simp only [List.length_append, List.length_cons, List.length_nil] at l1 l2 lts
    rw [List.map_append]
    rw [show (ts.map V.ref ++ [e].map V.ref).isEmpty = false by cases ts <;> rfl]
    refine ⟨_, rfl, iteF ?_⟩
    refine ⟨_, rfl, p, C_LivePost, dx, _, _, rfl, s0 _ _ h1, T.cl_LivePost, T.n_LivePost_undone, rfl, u, ts.map V.ref, .ref e, rfl, .inl (.inl (s0 _ _ hsrc)), fun D hD => ⟨_, _, rfl, _, _, rfl, rfl, ?_⟩⟩
    have s1 := s0.trans (Same.new (o := .lst (ts.map V.ref)) hD)
    have fD : upd H0 D (.lst (ts.map V.ref)) D = some (.lst (ts.map V.ref)) := upd_same
    generalize upd H0 D (.lst (ts.map V.ref)) = H1 at s1 fD
    refine ⟨_, rfl, D, _, rfl, .inl ⟨SqL.of fD, fun q1 hq1 => ?_⟩⟩
    have s2 := s1.trans (Same.new (o := .tup (ts.map V.ref)) hq1)
    have f1 : upd H1 q1 (.tup (ts.map V.ref)) q1 = some (.tup (ts.map V.ref)) := upd_same
    generalize upd H1 q1 (.tup (ts.map V.ref)) = H2 at s2 f1
    refine ⟨_, rfl, p, C_LivePost, dx, _, _, rfl, s2 _ _ h1, T.cl_LivePost, T.n_LivePost_done, rfl, d, _, rfl, .inl (.inl (.inl (s2 _ _ hdst))), ?_⟩
    refine ⟨_, rfl, by rw [List.length_append, List.length_map, sizeLine_eq]; simp only [List.length_cons, List.length_nil]; omega, fun q2 hq2 => ?_⟩
    have s3' := Same.new (o := .tup (td.map V.ref ++ [V.ref e])) hq2
    have s3 := s2.trans s3'
    have f2 : upd H2 q2 (.tup (td.map V.ref ++ [V.ref e])) q2 = some (.tup (td.map V.ref ++ [V.ref e])) := upd_same
    generalize upd H2 q2 (.tup (td.map V.ref ++ [V.ref e])) = H3 at s3' s3 f2
    refine ⟨_, rfl, e, _, _, _, rfl, rfl, .inl (.inl (s3 _ _ he)), rfl, (by show 3 ≤ sizeLine; decide), fun q3 hq3 => ?_⟩
    have s4' := Same.new (o := .tup [.ref q1, .ref q2, .ref sa]) hq3
    have s4 := s3.trans s4'
    have f3 : upd H3 q3 (.tup [.ref q1, .ref q2, .ref sa]) q3 = some (.tup [.ref q1, .ref q2, .ref sa]) := upd_same
    generalize upd H3 q3 (.tup [.ref q1, .ref q2, .ref sa]) = H4 at s4' s4 f3
    replace f1 := s4' _ _ (s3' _ _ f1)
    replace f2 := s4' _ _ f2
    have p4 := s4 _ _ h1
    refine ⟨q3, _, rfl, .inl (.inl f3), rfl, _, _, rfl, _, rfl, p, C_LivePost, dx, _, rfl, p4, T.cl_LivePost, T.n_LivePost_undone, (by show 7 < 1000; decide), ?_⟩
    generalize eH : upd H4 p _ = H5
    have p5 : H5 p = some (.ins C_LivePost dx (lpf kw sc d q1)) := by rw [← eH, upd_same]; rfl
    have g5 : ∀ b v, H4 b = some v → b ≠ p → H5 b = some v := fun b v e nb => by rw [← eH, upd_ne nb]; exact e
    clear eH
    refine ⟨_, _, rfl, _, rfl, p, C_LivePost, dx, _, rfl, p5, T.cl_LivePost, T.n_LivePost_done, (by show 7 < 1000; decide), ?_⟩
    generalize eH : upd H5 p _ = H6
    have p6 : H6 p = some (.ins C_LivePost dx (lpf kw sc q2 q1)) := by rw [← eH, upd_same]; rfl
    have g6 : ∀ b v, H5 b = some v → b ≠ p → H6 b = some v := fun b v e nb => by rw [← eH, upd_ne nb]; exact e
    clear eH
    refine ⟨_, _, rfl, _, rfl, p, C_LivePost, dx, _, rfl, p6, T.cl_LivePost, T.n_LivePost_scene, (by show 7 < 1000; decide), rfl, ?_⟩
    generalize eH : upd H6 p _ = H7
    have p7 : H7 p = some (.ins C_LivePost dx (lpf kw sa q2 q1)) := by rw [← eH, upd_same]; rfl
    have g7 : ∀ b v, H6 b = some v → b ≠ p → H7 b = some v := fun b v e nb => by rw [← eH, upd_ne nb]; exact e
    clear eH
    have g47 : ∀ b v, H4 b = some v → b ≠ p → H7 b = some v := fun b v e nb => g7 _ _ (g6 _ _ (g5 _ _ e nb) nb) nb
    have g07 : ∀ b v, H b = some v → b ≠ p → H7 b = some v := fun b v e nb => g47 _ _ (s4 _ _ e) nb
    have kb : KB K C_Book H H7 := KB.live h1 g07
    have F1 : H7 q1 = some (.tup (ts.map V.ref)) := g47 _ _ f1 (ne_of f1 p4 (by intro z; cases z))
    have F2 : H7 q2 = some (.tup ((td ++ [e]).map V.ref)) := by
      rw [List.map_append]
      exact g47 _ _ f2 (ne_of f2 p4 (by intro z; cases z))
    have D1 : DoAt K C_Book H7 q1 xs := ⟨ts, F1, PySem.Paired.mono (fun _ _ e => e.keep kb) Pts⟩
    have D2 : DoAt K C_Book H7 q2 (dn ++ [x]) := ⟨td ++ [e], F2, Paired.append (PySem.Paired.mono (fun _ _ e => e.keep kb) Pd) (.cons (EnAt.keep ⟨op, sb, sa, he, hop, hb, ha⟩ kb) .nil)⟩
    exact kk _ ⟨dx, sa, q2, q1, p7, ha.keep kb, D2, D1⟩ g07
end

end MF
set_option Elab.async false
set_option linter.all false
set_option maxRecDepth 100000
set_option maxHeartbeats 2000000
set_option pp.maxSteps 600
namespace MF
open PySem PySem.Spec PyProof.Rows L2 StX
section
variable {P : Program} {w : World} {K : PySem.W.Frag} {mg : Str → Option Value} {base : Heap} {C_Book C_LivePost C_MailError C_InvalidOperation C_InvalidOrder C_UnknownOrder C_NotHolding C_DecodeError C_NotationError C_UnknownLetter C_InvalidAddress C_InvalidDay C_InvalidNumber C_Contradiction C_InvalidCount : Addr}
def spReplayX (K : PySem.W.Frag) (CB CL : Addr) (c : Cls5) : Sp := fun vs H Q E => ∃ bk t os ops, vs = [V.ref CL, .ref bk, .ref t] ∧ BookAt K CB H bk os ∧ (SqT K H t ops ∨ SqL K H t ops) ∧ ops.length ≤ 1000 ∧
  ∃ (i : Nat) (y : V), ops[i]? = some y ∧ OpIs K H y false ∧ (∀ (j : Nat) z, j < i → ops[j]? = some z → OpIs K H z true) ∧ ∀ H' cls d, Same H H' → ErrAt c cls d H' (.operation (.int (i : Nat))) → E cls d H'
theorem okX_replay (T : Top K mg C_Book C_LivePost C_MailError C_InvalidOperation C_InvalidOrder C_UnknownOrder C_NotHolding C_DecodeError C_NotationError C_UnknownLetter C_InvalidAddress C_InvalidDay C_InvalidNumber C_Contradiction C_InvalidCount) (AG : ArgD K mg w) : CFn P w K mg base (L2N.CX P w) 9 C_LivePost "replay" (spReplayX K C_Book C_LivePost ⟨C_InvalidOrder, C_UnknownOrder, C_InvalidAddress, C_InvalidDay, C_InvalidNumber, C_UnknownLetter, C_NotHolding, C_InvalidOperation, C_Contradiction, C_InvalidCount, C_DecodeError, C_NotationError⟩) := by
  have G_LivePost : IFn P w K mg base CX0 1 C_LivePost "LivePost" (spLiveInit K C_Book C_LivePost) := ok_LivePost T
  have X_LivePost_apply := okX_apply (P := P) (w := w) (base := base) T AG
  refine T.d_LivePost_replay.fnXN sc_LivePost_replay (fun vs H Q E h => ?_) (fun f cdv A outer s H vs Q E hr h => ?_)
  · obtain ⟨bk, t, os, ops, rfl, _⟩ := h
    rfl
  · obtain ⟨bk, t, os, ops, rfl, B, sq, few, i, y, ey, oy, o1, kE⟩ := h
    refine ⟨_, (pss_cons (ps_set (i := 3) sc_LivePost_replay.nd rfl (Or.inl rfl) (pe_mkL (i := 0) G_LivePost (hr.mono (by decide)) pass0 rfl (Or.inl rfl) (pa_cons (pv 1) pa_nil)))
  (pss_cons (ps_expr (pe_mStar X_LivePost_apply T.fi_LivePost_apply T.cl_LivePost (hr.mono (by decide)) passEN (pv 3) (pv 2)))
  (pss_one (ps_ret (pv 3))))), ?_⟩
    refine ⟨rfl, _, rfl, ?_⟩
    intro p dx hp hdx ne
    have s3 : Same H (upd (upd H dx (.own p)) p (.ins C_LivePost dx [])) := fun b u e => by
      rw [upd_ne (ne_of_none e hp), upd_ne (ne_of_none e hdx)]
      exact e
    have nbp : bk ≠ p := by
      obtain ⟨d1, t1, a1, b1, _⟩ := id B
      exact ne_of_none b1 hp
    refine ⟨p, dx, bk, os, rfl, upd_same, B.mono s3, nbp, fun H3 kw hb L3 k3 => ⟨rfl, ?_⟩⟩
    have s03 : Same H H3 := fun b u e => k3 b u (s3 b u e) (ne_of_none e hp)
    obtain ⟨dx1, u1, u2, u3, h3⟩ := L3.ins
    refine ⟨_, rfl, p, dx1, _, rfl, h3, rfl, fun q g hq => ?_⟩
    have s4 := Same.new (o := .met g p) hq
    have e4 : upd H3 q (.met g p) q = some (.met g p) := upd_same
    generalize upd H3 q (.met g p) = H4 at s4 e4
    have s04 := s03.trans s4
    refine ⟨_, rfl, t, ops, rfl, sq.elim (fun h => .inl (MF.Same.tup s04 h)) (fun h => .inr (s04.seq h)), e4, p, ops, rfl, .inl ⟨⟨i, y, ey, oy.mono s04, fun j z hj ez => (o1 j z hj ez).mono s04, fun H' cls d s er => kE _ _ _ (s04.trans s) er⟩, few⟩⟩
end

end MF
set_option Elab.async false
set_option linter.all false
set_option maxRecDepth 100000
set_option maxHeartbeats 2000000
set_option pp.maxSteps 600
namespace MF
open PySem PySem.Spec PyProof.Rows L2 StX
section
variable {P : Program} {w : World} {K : PySem.W.Frag} {mg : Str → Option Value} {base : Heap} {C_Book C_LivePost C_MailError C_InvalidOperation C_InvalidOrder C_UnknownOrder C_NotHolding C_DecodeError C_NotationError C_UnknownLetter C_InvalidAddress C_InvalidDay C_InvalidNumber C_Contradiction C_InvalidCount : Addr}
structure B43 (K : PySem.W.Frag) (TT : List (Addr × Str)) (rw a : Addr) (ns : List Int) (os : List Ordr) (l : Addr) (as : List Addr) (sc : Addr) (H : Hp) : Prop where
  tabs : LamX.Tabs TT H
  row : RowAt K H rw a ns
  scn : LawSc K (fun z => z ≠ rw) H sc ⟨0, os, []⟩
  ords : H l = some (.lst (as.map V.ref)) ∧ l ≠ rw
  oa : OrdsAt K H as os
structure D43 (K : PySem.W.Frag) (rw : Addr) (D : List Deed) (dl : Addr) (qs : List Addr) (H : Hp) : Prop where
  don : H dl = some (.lst (qs.map V.ref)) ∧ dl ≠ rw
  deeds : PySem.Paired (DeedAt K H) qs D
section
variable {TT : List (Addr × Str)} {rw a : Addr} {ns : List Int} {os : List Ordr} {l sc dl : Addr} {as qs : List Addr} {D : List Deed} {H H' : Hp}
theorem ordAt_kt {a : Addr} {o : Ordr} (h : OrdAt K H a o) (k : ∀ b u, H b = some u → tupl u = true → H' b = some u) : OrdAt K H' a o := by
  obtain ⟨a', e, h'⟩ : ∃ a', V.ref a = .ref a' ∧ OrdAt K H' a' o := ArgAt.kt (y := .ref a) (d := .give (some o)) ⟨a, rfl, h⟩ k
  cases e
  exact h'
theorem B43.kp (h : B43 K TT rw a ns os l as sc H) (kt : ∀ b u, H b = some u → tupl u = true → H' b = some u) (kl : ∀ b xs, H b = some (.lst xs) → b ≠ rw → H' b = some (.lst xs)) (t : LamX.Tabs TT H') (r : RowAt K H' rw a ns) : B43 K TT rw a ns os l as sc H' :=
  ⟨t, r, h.scn.keep kt kl, ⟨kl _ _ h.ords.1 h.ords.2, h.ords.2⟩, PySem.Paired.mono (fun _ _ e => ordAt_kt e kt) h.oa⟩
theorem B43.same (h : B43 K TT rw a ns os l as sc H) (s : Same H H') : B43 K TT rw a ns os l as sc H' := h.kp (fun b u e _ => s _ _ e) (fun b xs e _ => s _ _ e) (h.tabs.ext s) (h.row.keep s)
theorem B43.keepR (h : B43 K TT rw a ns os l as sc H) (r : RowAt K H' rw a ns) (c : KeepR rw H H') : B43 K TT rw a ns os l as sc H' := h.kp (KeepR.tup c h.row) (fun b xs e n => c _ _ e n) (tabs_keepR h.row h.tabs c) r
theorem B43.ext (h : B43 K TT rw a ns os l as sc H) (e : LamX.ExtN H H') (t : LamX.Tabs TT H') : B43 K TT rw a ns os l as sc H' := h.kp (fun b u h y => e _ _ h (fun ps z => by rw [z] at y; cases y)) (fun b xs h _ => e _ _ h (fun ps z => by cases z)) t (row_extN h.row e)
theorem B43.but {p C dx : Addr} {fs : List (Str × V)} (h : B43 K TT rw a ns os l as sc H) (hp : H p = some (.ins C dx fs)) (k : ∀ b u, H b = some u → b ≠ p → (∀ ps, u ≠ .tbl ps) → H' b = some u) (t : LamX.Tabs TT H') : B43 K TT rw a ns os l as sc H' := by
  have kl : ∀ {b : Addr} {o : HO}, H b = some o → (∀ C dx fs, o ≠ .ins C dx fs) → (∀ ps, o ≠ .tbl ps) → H' b = some o := fun {b o} e n m => k _ _ e (fun w => by rw [w, hp] at e; exact n _ _ _ (Option.some.inj e).symm) m
  refine h.kp (fun b u e y => kl e (fun _ _ _ z => by rw [z] at y; cases y) (fun _ z => by rw [z] at y; cases y)) (fun b xs e _ => kl e (fun _ _ _ z => by cases z) (fun _ z => by cases z)) t ?_
  obtain ⟨j, m, r, h1, h2, h3⟩ := h.row
  refine ⟨j, m, r, kl h1 (fun _ _ _ z => by cases z) (fun _ z => by cases z), ?_, h3⟩
  rcases h2 with ⟨h | ⟨o, h⟩, n⟩ | h
  · exact .inl ⟨.inl (kl h (fun _ _ _ z => by cases z) (fun _ z => by cases z)), n⟩
  · exact .inl ⟨.inr ⟨o, kl h (fun _ _ _ z => by cases z) (fun _ z => by cases z)⟩, n⟩
  · exact .inr h
theorem B43.moved {p C dx : Addr} {fs : List (Str × V)} (h : B43 K TT rw a ns os l as sc H) (hp : H p = some (.ins C dx fs)) (k : ∀ b u, H b = some u → b ≠ p → H' b = some u) : B43 K TT rw a ns os l as sc H' := h.but hp (fun b u e n _ => k b u e n) (tabs_kp h.tabs hp k)
theorem D43.kp (h : D43 K rw D dl qs H) (kt : ∀ b u, H b = some u → tupl u = true → H' b = some u) (kl : ∀ b xs, H b = some (.lst xs) → b ≠ rw → H' b = some (.lst xs)) : D43 K rw D dl qs H' := ⟨⟨kl _ _ h.don.1 h.don.2, h.don.2⟩, PySem.Paired.mono (fun _ _ e => e.kt kt) h.deeds⟩
theorem D43.same (h : D43 K rw D dl qs H) (s : Same H H') : D43 K rw D dl qs H' := h.kp (fun b u e _ => s _ _ e) (fun b xs e _ => s _ _ e)
theorem D43.keepR (h : D43 K rw D dl qs H) (r : RowAt K H rw a ns) (c : KeepR rw H H') : D43 K rw D dl qs H' := h.kp (KeepR.tup c r) (fun b xs e n => c _ _ e n)
theorem D43.ext (h : D43 K rw D dl qs H) (e : LamX.ExtN H H') : D43 K rw D dl qs H' := h.kp (fun b u h y => e _ _ h (fun ps z => by rw [z] at y; cases y)) (fun b xs h _ => e _ _ h (fun ps z => by cases z))
theorem D43.but {p C dx : Addr} {fs : List (Str × V)} (h : D43 K rw D dl qs H) (hp : H p = some (.ins C dx fs)) (k : ∀ b u, H b = some u → b ≠ p → (∀ ps, u ≠ .tbl ps) → H' b = some u) : D43 K rw D dl qs H' := by
  have kl : ∀ {b : Addr} {o : HO}, H b = some o → (∀ C dx fs, o ≠ .ins C dx fs) → (∀ ps, o ≠ .tbl ps) → H' b = some o := fun {b o} e n m => k _ _ e (fun w => by rw [w, hp] at e; exact n _ _ _ (Option.some.inj e).symm) m
  exact h.kp (fun b u e y => kl e (fun _ _ _ z => by rw [z] at y; cases y) (fun _ z => by rw [z] at y; cases y)) (fun b xs e _ => kl e (fun _ _ _ z => by cases z) (fun _ z => by cases z))
end
theorem opF_kl {H H' : Hp} {y : V} (h : OpIs K H y false) (kt : ∀ b u, H b = some u → tupl u = true → H' b = some u) (kl : ∀ b z rest, H b = some (.lst (.str z :: rest)) → H' b = some (.lst (.str z :: rest))) : OpIs K H' y false := by
  rcases h with ⟨a, vs, e, h, r⟩ | ⟨a, z, rest, e, h, r⟩ | h
  · exact .inl ⟨a, vs, e, kt _ _ h rfl, r⟩
  · exact .inr (.inl ⟨a, z, rest, e, kl _ _ _ h, r⟩)
  · exact .inr (.inr h)
theorem opF_keepR {H H' : Hp} {y : V} {rw a : Addr} {ns : List Int} (h : OpIs K H y false) (R : RowAt K H rw a ns) (k : KeepR rw H H') : OpIs K H' y false :=
  opF_kl h (KeepR.tup k R) fun b z rest e => k _ _ e fun w => by
    obtain ⟨j, m, r, h1, _⟩ := R
    rw [w, h1] at e
    cases e
theorem opF_ext {H H' : Hp} {y : V} (h : OpIs K H y false) (e : LamX.ExtN H H') : OpIs K H' y false :=
  opF_kl h (fun b u h y => e _ _ h (fun ps z => by rw [z] at y; cases y)) fun b z rest h => e _ _ h (fun ps z => by cases z)
theorem opT {H : Hp} {v : V} {qs : List Addr} {D : List Deed} (h : PySem.Paired (DeedAt K H) qs D) {j : Nat} (e : (qs.map V.ref)[j]? = some v) : OpIs K H v true := by
  rw [List.getElem?_map] at e
  cases eq : qs[j]? with
  | none => rw [eq] at e; cases e
  | some q =>
    rw [eq] at e
    cases e
    obtain ⟨d, _, hd⟩ := Paired.get h eq
    exact ⟨q, d, rfl, hd⟩
def nB (rows : List LRow) (n : Nat) : List Nat := (List.range n).filter fun i => (rows[i]?.map fun x => x.2.2).getD false
theorem nB_step {rows : List LRow} {n : Nat} {x : LRow} (h : rows[n]? = some x) : nB rows (n + 1) = nB rows n ++ if x.2.2 = true then [n] else [] := by
  unfold nB
  rw [List.range_succ, List.filter_append]
  congr 1
  cases c : x.2.2 <;> simp [h, c]
theorem nB_len (rows : List LRow) (n : Nat) : (nB rows n).length ≤ n := by
  unfold nB
  refine Nat.le_trans (List.length_filter_le _ _) ?_
  simp
theorem nB_pick {rows : List LRow} : ∀ n, n ≤ rows.length → pickR true rows n = (nB rows n).filterMap fun i => rows[i]?.map fun x => (i, x.1, x.2.1) := by
  intro n
  induction n with
  | zero => intro _; rfl
  | succ n ih =>
    intro h
    obtain ⟨x, ex⟩ : ∃ x, rows[n]? = some x := ⟨_, List.getElem?_eq_getElem (show n < rows.length by omega)⟩
    rw [pickR_step ex, nB_step ex, List.filterMap_append, ih (by omega)]
    congr 1
    cases c : x.2.2 <;> simp [ex]
theorem nB_lt {rows : List LRow} {n i : Nat} (h : i ∈ nB rows n) : i < n := List.mem_range.mp (List.mem_filter.mp h).1
theorem nB_get {rows : List LRow} {i : Nat} (h : i ∈ nB rows rows.length) : ∃ x, rows[i]? = some x := ⟨_, List.getElem?_eq_getElem (nB_lt h)⟩
def spIsErrB (K : PySem.W.Frag) : Sp := fun vs H Q _ => ∃ v b, vs = [v] ∧ ((b = true ∧ ∃ p e, v = .ref p ∧ ToldAt H p e) ∨ (b = false ∧ ∃ l xs, v = .ref l ∧ H l = some (.lst xs))) ∧ ∀ H', Same H H' → Q (.bl b) H'
theorem ok_is_errB (T : Top K mg C_Book C_LivePost C_MailError C_InvalidOperation C_InvalidOrder C_UnknownOrder C_NotHolding C_DecodeError C_NotationError C_UnknownLetter C_InvalidAddress C_InvalidDay C_InvalidNumber C_Contradiction C_InvalidCount) : GFn P w K mg base CX0 1 "_law_is_error" (spIsErrB K) := by
  refine T.d__law_is_error.fn fun f fd F => F.ok sc__law_is_error (fun vs H Q E h => ?_) (fun cdv A outer s H vs Q E hr h => ?_)
  · obtain ⟨v, b, rfl, _⟩ := h
    rfl
  · obtain ⟨v, b, rfl, c, kk⟩ := h
    refine ⟨_, (pss_one (ps_ret (pe_and (pe_callB call_isi (by rfl) T.b_isinstance (by decide +kernel) (pa_cons (pv 0) (pa_cons (pe_bltn (v := .ty "tuple") (by rfl) T.b_tuple (by decide +kernel) rfl) pa_nil))) (pe_one (pe_cmpR (op_eqD hr.units) (pe_slice sl_tup (pv 0) po_none (po_some pe_int)) (pe_tup (pa_cons pe_str pa_nil)) (nomark _)))))), ?_⟩
    rcases c with ⟨rfl, p, e, rfl, td⟩ | ⟨rfl, l, xs, rfl, el⟩
    · obtain ⟨x, xs, hp⟩ := told_tup td
      refine ⟨_, rfl, _, _, _, _, true, rfl, .ty "tuple", .base (.tup hp), kt_tuple_tuple, _, rfl, iteT ?_⟩
      have ns : ¬ (HT.sIx (V.str "error" :: x :: xs).length 0 none = 0 ∧ HT.sIx (V.str "error" :: x :: xs).length (V.str "error" :: x :: xs).length (some (1 : Int)) = (V.str "error" :: x :: xs).length) := fun z => by
        have h2 := z.2
        rw [show (1 : Int) = ((1 : Nat) : Int) from rfl, HT.sIx_nat] at h2
        simp only [List.length_cons] at h2
        omega
      refine ⟨_, rfl, _, rfl, p, _, rfl, .inl (.inl hp), ns, ?_⟩
      intro q hq
      generalize gH1 : L2.upd _ q _ = H1
      obtain ⟨s1, c1⟩ := newS hq gH1
      clear gH1
      refine ⟨(by show 1 ≤ sizeLine; decide), ?_⟩
      intro q2 hq2
      generalize gH2 : L2.upd _ q2 _ = H2
      obtain ⟨s2, c2⟩ := newS hq2 gH2
      clear gH2
      have c1' : H1 q = some (.tup [.str "error"]) := by rw [c1, show (1 : Int) = ((1 : Nat) : Int) from rfl, cut_hiP]; rfl
      have dk : ∀ {a : Addr}, H2 a = some (.tup [.str "error"]) → Dp K H2 (.ref a) (.tuple [.str "error"]) := fun h => .tup (.inl (.inl h)) (.cons (.str _) .nil)
      refine ⟨.tuple [.str "error"], .tuple [.str "error"], dk (s2 _ _ c1'), dk c2, by decide +kernel, by decide +kernel, ?_⟩
      rw [show PyData.eqv (.tuple [.str "error"]) (.tuple [.str "error"]) = true from by decide +kernel]
      exact kk _ (s1.trans s2)
    · refine ⟨_, rfl, _, _, _, _, false, rfl, .ty "tuple", .base (.lst el), kt_list_tuple, _, rfl, iteF ?_⟩
      exact kk _ (Same.refl _)
theorem resG_dk {r : Rs} (g : r.bad = false) (f : r.few) : DK 2 (dueD r) := by
  cases r with
  | num n => exact .int 2 _
  | day d => exact .int 2 _
  | nums ns => exact .list (DK.map fun i _ => .int 1 i) (by rw [List.length_map]; exact f)
  | err e => cases g
theorem resF_few {S0 : Scn} {D : List Deed} (b0 : Bd41 0 S0 []) (law : ∀ d ∈ D, d.Law) (hl : D.length ≤ 20) : ∀ r ∈ resF S0 D, r.few := by
  have key : ∀ k, k ≤ D.length → ∀ r ∈ resF S0 (D.take k), r.few := by
    intro k
    induction k with
    | zero => intro _ r hr; cases hr
    | succ k ih =>
      intro hk
      obtain ⟨d, ed⟩ : ∃ d, D[k]? = some d := ⟨D[k], by simp [hk]⟩
      have e : D.take (k + 1) = D.take k ++ [d] := by rw [List.take_add_one, ed]; rfl
      rw [e, resF_snoc]
      intro r hr
      rcases List.mem_append.mp hr with z | z
      · exact ih (by omega) r z
      · rw [List.mem_singleton.mp z]
        exact actF_few (by have := (bd_take b0 law hl k (by omega)).rows; omega)
  have := key D.length (Nat.le_refl _)
  rwa [List.take_length] at this
theorem pairMem {α β : Type} {R S : α → β → Prop} {as : List α} {bs : List β} (h : PySem.Paired R as bs) (f : ∀ a b, b ∈ bs → R a b → S a b) : PySem.Paired S as bs := by
  induction h with
  | nil => exact .nil
  | cons e _ ih => exact .cons (f _ _ List.mem_cons_self e) (ih fun a b hb r => f a b (List.mem_cons_of_mem _ hb) r)
theorem dpPair {H : Hp} {vs : List V} {rs : List Rs} (h : PySem.Paired (fun v r => Dp K H v (dueD r)) vs rs) : DpAll K H vs (rs.map dueD) := by
  induction h with
  | nil => exact .nil
  | cons e _ ih => exact .cons e ih
theorem sl_tupK {X : Cx} (h : X.K = K := by rfl) : SlR X (rSlT K) := h ▸ sl_tup
theorem op_catTK {X : Cx} (h : X.K = K := by rfl) : OpR X (binaryOp .Add) (rCatT K) := h ▸ op_catT
theorem ok_law (T : Top K mg C_Book C_LivePost C_MailError C_InvalidOperation C_InvalidOrder C_UnknownOrder C_NotHolding C_DecodeError C_NotationError C_UnknownLetter C_InvalidAddress C_InvalidDay C_InvalidNumber C_Contradiction C_InvalidCount) (sf : PySem.W.selfFirst K C_Book = true) (AG : ArgD K mg w) {f : Addr} {fd : FuncData} {cL PL : Addr} (F : FunC K "law" "law" s_law f fd cL) (TBL : LamX.TabB base mg cL PL)
    {c1 P1 : Addr} (D1 : GDefC K mg "_law_by_apply" s__law_by_apply ["_law_live", "_law_deeds"] c1) (TBL1 : LamX.TabB base mg c1 P1)
    {c2 P2 : Addr} (D2 : GDefC K mg "_law_by_trial" s__law_by_trial ["_law_live", "_law_deeds"] c2) (TBL2 : LamX.TabB base mg c2 P2)
    (h12 : P1 ≠ P2) (h1L : P1 ≠ PL) (h2L : P2 ≠ PL) : FnOk P w K mg base CX0 15 f fd ["_law_script"] (spLawT K [P1, P2, PL]) := by
  let TT : List (Addr × Str) := [(P1, applyQ), (P2, trialQ), (PL, lawQ)]
  have mem3 : ∀ {p : Addr × Str}, p ∈ TT → p = (P1, applyQ) ∨ p = (P2, trialQ) ∨ p = (PL, lawQ) := fun {p} hp => by
    simpa [TT] using hp
  have HTM1 : (P1, applyQ) ∈ TT := by simp [TT]
  have HTM2 : (P2, trialQ) ∈ TT := by simp [TT]
  have HTM : (PL, lawQ) ∈ TT := by simp [TT]
  have HTU1 : ∀ p ∈ TT, p.1 = P1 → p.2 = applyQ := fun p hp h => by
    rcases mem3 hp with rfl | rfl | rfl
    · rfl
    · exact absurd h.symm h12
    · exact absurd h.symm h1L
  have HTU2 : ∀ p ∈ TT, p.1 = P2 → p.2 = trialQ := fun p hp h => by
    rcases mem3 hp with rfl | rfl | rfl
    · exact absurd h h12
    · rfl
    · exact absurd h.symm h2L
  have HTU : ∀ p ∈ TT, p.1 = PL → p.2 = lawQ := fun p hp h => by
    rcases mem3 hp with rfl | rfl | rfl
    · exact absurd h h1L
    · exact absurd h h2L
    · rfl
  have G__law_dice : GFn P w K mg base CX0 1 "_law_dice" (spDice K) := ok_dice T
  have G__law_next : GFn P w K mg base CX0 1 "_law_next" (spTaken K) := ok_next T
  have G__law_pick : GFn P w K mg base CX0 2 "_law_pick" (spPick K) := ok_pick T
  have G__law_orders : GFn P w K mg base CX0 4 "_law_orders" (spOrdersD K) := ok_ordersD T
  have G__law_made : GFn P w K mg base CX0 7 "_law_made" (spLawBook K C_Book) := ok_law_made T sf
  have G__law_deed : GFn P w K mg base CX0 4 "_law_deed" (spDeed K) := ok_deed T
  have G__law_at_once : GFn P w K mg base CX0 4 "_law_at_once" (spOnce K) := ok_once T
  have G__law_like : GFn P w K mg base CX0 4 "_law_like" (spAlike K 3) := ok_like T 3
  have G__law_is_error : GFn P w K mg base CX0 1 "_law_is_error" (spIsErrB K) := ok_is_errB T
  have G__law_stands : GFn P w K mg base CX0 5 "_law_stands" (spStands K C_Book C_LivePost) := ok_stands T
  have G__law_by_apply : GFn P w K mg base CX0 13 "_law_by_apply" (spByApply K C_Book C_LivePost TT) := ok_by_apply T AG HTM1 HTU1 D1 TBL1
  have G__law_by_trial : GFn P w K mg base CX0 14 "_law_by_trial" (spByTrial K C_Book C_LivePost TT) := ok_by_trial T AG HTM2 HTU2 D2 TBL2
  have G_LivePost : IFn P w K mg base CX0 1 C_LivePost "LivePost" (spLiveInit K C_Book C_LivePost) := ok_LivePost T
  have M_LivePost_undo : MFn P w K mg base CX0 1 C_LivePost "undo" (spUndo K C_Book C_LivePost) := ok_undo T
  have M_LivePost_redo : MFn P w K mg base CX0 1 C_LivePost "redo" (spRedo K C_Book C_LivePost) := ok_redo T
  have X_LivePost_post : MFn P w K mg base (L2.CX P w) 3 C_LivePost "post" (spPostX K C_Book C_LivePost ⟨C_InvalidOrder, C_UnknownOrder, C_InvalidAddress, C_InvalidDay, C_InvalidNumber, C_UnknownLetter, C_NotHolding, C_InvalidOperation, C_Contradiction, C_InvalidCount, C_DecodeError, C_NotationError⟩) := MFn.drop (okX_post T)
  have XC_LivePost_replay : CFn P w K mg base (L2.CX P w) 9 C_LivePost "replay" (spReplayX K C_Book C_LivePost ⟨C_InvalidOrder, C_UnknownOrder, C_InvalidAddress, C_InvalidDay, C_InvalidNumber, C_UnknownLetter, C_NotHolding, C_InvalidOperation, C_Contradiction, C_InvalidCount, C_DecodeError, C_NotationError⟩) := CFn.drop (okX_replay T AG)
  have mg_LivePost : mg "LivePost" = some (.ref C_LivePost) := by
    obtain ⟨_, _, _, _, h, _⟩ := T.d_LivePostX_initX.ex
    exact h
  refine F.ok sc_law (fun vs H Q E h => ?_) (fun A outer s H vs Q E hr h => ?_)
  · obtain ⟨a, ns, rfl, _⟩ := h
    rfl
  · obtain ⟨a, ns, rfl, hS, hlen, hP, k0⟩ := h
    have hu := hu_of hr
    refine ⟨_, (pss_cons (ps_set (i := 1) sc_law.nd rfl (Or.inr rfl) (pe_g G__law_dice (hr.mono (by decide)) (pa_cons (pv 0) pa_nil)))
  (pss_cons (ps_for PassesOwn.never rfl (pi_range1 (by rfl) T.b_range (pa_cons pe_int pa_nil)) (pg_name (i := 2) sc_law.nd rfl (Or.inl rfl))
  (C8.pss_cut (ps_set (i := 15) sc_law.nd rfl (Or.inr rfl) (pe_g G__law_orders (hr.mono (by decide)) (pa_cons (pv 1) (pa_cons pe_int (pa_cons pe_int pa_nil)))))
  (C8.pss_cut (ps_asg (pe_tup (pa_cons (pe_mkX G_LivePost (hr.mono (by decide)) pass0 (pa_cons (pe_g G__law_made (hr.mono (by decide)) (pa_cons (pv 15) pa_nil)) pa_nil)) (pa_cons (pe_tup (pa_cons pe_int (pa_cons (pv 15) (pa_cons (pe_lst pa_nil) pa_nil)))) pa_nil))) (pg_tup rfl (pgs_cons (pg_name (i := 3) sc_law.nd rfl (Or.inl rfl)) (pgs_cons (pg_name (i := 4) sc_law.nd rfl (Or.inr rfl)) pgs_nil))))
  (pss_cons (ps_expr (pe_mX X_LivePost_post T.cl_LivePost (hr.mono (by decide)) passN (pv 3) (pa_cons pe_str pa_nil)))
  (C8.pss_cut (ps_expr (pe_m0 M_LivePost_undo T.cl_LivePost (hr.mono (by decide)) (pv 3)))
  (C8.pss_cut (ps_setLc (i := 6) (own := [("_law_k", 5)]) (g := (gName 5)) (by rfl) sc_law.nd rfl rfl (sw_true rfl rfl rfl (by decide +kernel)) (pi_range1 (by rfl) T.b_range (pa_cons (pe_g G__law_next (hr.mono (by decide)) (pa_cons (pv 1) (pa_cons pe_int pa_nil))) pa_nil)) (blkOk_by (own := [("_law_k", 5)]) (N := ["_law_script", "_law_d", "_law_turn", "_law_live", "_law_scene", "_law_k", "_law_deeds", "_law_odd", "_law_due", "_law_later", "_law_failed", "_law_rows", "_law_numbers", "_law_trial", "_law_bad", "_law_orders_here", "_law_j"]) (sc := defScope s_law) (by decide +kernel)) (fun _ _ _ _ _ => (pg_name (i := 5) sc_law.nd rfl (Or.inl rfl))) (fun _ _ _ _ _ => pts_nil) (fun _ _ _ _ _ => (pe_g G__law_deed (hr.mono (by decide)) (pa_cons (pv 1) (pa_cons (pv 4) (pa_cons (pe_callTy call_int1 (by rfl) T.b_int (by decide +kernel) (pa_cons (pe_cmpR op_eq (pe_g G__law_next (hr.mono (by decide)) (pa_cons (pv 1) (pa_cons pe_int pa_nil))) pe_int (nomark _)) pa_nil)) pa_nil))))))
  (C8.pss_cut (ps_set (i := 7) sc_law.nd rfl (Or.inl rfl) (pe_lst (pa_cons (pe_tup (pa_cons pe_str pa_nil)) (pa_cons (pe_tup (pa_cons pe_str (pa_cons pe_int (pa_cons pe_int pa_nil)))) (pa_cons (pe_lst (pa_cons pe_str (pa_cons pe_str pa_nil))) (pa_cons (pe_tup pa_nil) (pa_cons pe_non (pa_cons pe_str (pa_cons (pe_tup (pa_cons pe_str pa_nil)) (pa_cons (pe_tup (pa_cons pe_int (pa_cons pe_str pa_nil))) (pa_cons (pe_tup (pa_cons pe_str (pa_cons pe_int pa_nil))) pa_nil)))))))))))
  (pss_cons (ps_set (i := 5) sc_law.nd rfl (Or.inl rfl) (pe_g G__law_next (hr.mono (by decide)) (pa_cons (pv 1) (pa_cons (pe_op op_add (pe_callB call_len_seq (by rfl) T.b_len (by decide +kernel) (pa_cons (pv 6) pa_nil)) pe_int) pa_nil))))
  (C8.pss_cut (ps_set (i := 14) sc_law.nd rfl (Or.inr rfl) (pe_op op_cat (pe_op op_cat (pe_slice sl_list (pv 6) po_none (po_some (pv 5))) (pe_lst (pa_cons (pe_g G__law_pick (hr.mono (by decide)) (pa_cons (pv 1) (pa_cons (pv 7) pa_nil))) pa_nil))) (pe_slice sl_list (pv 6) (po_some (pv 5)) po_none)))
  (C8.pss_cut (ps_if (pt_cmpR (op_neD hr.units) (pe_lamC (k := 10) (ok_told rfl rfl T) (hr.mono (by decide)) (by exact (pa_cons (pe_lamX (X := (cxOf CX0 P w K mg base ["_law_script", "_law_d", "_law_turn", "_law_live", "_law_scene", "_law_k", "_law_deeds", "_law_odd", "_law_due", "_law_later", "_law_failed", "_law_rows", "_law_numbers", "_law_trial", "_law_bad", "_law_orders_here", "_law_j"] "law" (defScope s_law) f (.ref cL) A outer s H E).nox) (k := 10) TBL HTM HTU (by kernel_rfl) rfl rfl (LamX.lamS_by (sc := defScope s_law) (by decide +kernel)) (fun _ _ _ _ _ _ => rfl) (fun A outer s H E f c' hrL => (pe_cmX XC_LivePost_replay (hrL.mono (by decide)) passM (pe_glob (v := V.ref C_LivePost) (by rfl) mg_LivePost (by rfl)) (pa_cons (pe_g G__law_made (hrL.mono (by decide)) (pa_cons (pv 15) pa_nil)) (pa_cons (pv 14) pa_nil))))) pa_nil))) (pe_tup (pa_cons pe_str (pa_cons pe_str (pa_cons (pe_lst (pa_cons (pv 5) pa_nil)) pa_nil)))) (nomark _))
  (pss_one (ps_ret pe_bl))
  pss_nil)
  (C8.pss_cut (ps_asg (pe_g G__law_at_once (hr.mono (by decide)) (pa_cons (pv 4) (pa_cons (pv 6) pa_nil))) (pg_tup rfl (pgs_cons (pg_name (i := 8) sc_law.nd rfl (Or.inl rfl)) (pgs_cons (pg_name (i := 9) sc_law.nd rfl (Or.inl rfl)) pgs_nil))))
  (pss_cons (ps_asg (pe_tup (pa_cons (pe_g G__law_is_error (hr.mono (by decide)) (pa_cons (pv 8) pa_nil)) (pa_cons (pe_ix ix_tup (pv 9) pe_int (fun _ _ => rfl)) pa_nil))) (pg_tup rfl (pgs_cons (pg_name (i := 10) sc_law.nd rfl (Or.inl rfl)) (pgs_cons (pg_name (i := 11) sc_law.nd rfl (Or.inr rfl)) pgs_nil))))
  (C8.pss_cut (ps_setLc (i := 12) (own := [("_law_j", 16)]) (g := (gName 16)) (by rfl) sc_law.nd rfl rfl (sw_true rfl rfl rfl (by decide +kernel)) (pi_range1 (by rfl) T.b_range (pa_cons (pe_callB call_len_seq (by rfl) T.b_len (by decide +kernel) (pa_cons (pv 11) pa_nil)) pa_nil)) (blkOk_by (own := [("_law_j", 16)]) (N := ["_law_script", "_law_d", "_law_turn", "_law_live", "_law_scene", "_law_k", "_law_deeds", "_law_odd", "_law_due", "_law_later", "_law_failed", "_law_rows", "_law_numbers", "_law_trial", "_law_bad", "_law_orders_here", "_law_j"]) (sc := defScope s_law) (by decide +kernel)) (fun _ _ _ _ _ => (pg_name (i := 16) sc_law.nd rfl (Or.inl rfl))) (fun _ _ _ _ _ => (pts_one (pt_val (pe_ix (ix_tupK (K := K)) (pe_ix (ix_listK (K := K)) (pv 11) (pv 16) (fun _ _ => rfl)) pe_int (fun _ _ => rfl))))) (fun _ _ _ _ _ => (pv 16)))
  (C8.pss_cut (ps_set (i := 13) sc_law.nd rfl (Or.inl rfl) (pe_ifExp (pt_val (pv 10)) (pv 8) (pe_lc (own := [("_law_j", 16)]) (g := (gName 16)) (by rfl) sc_law.nd (pi_list (pv 12)) (blkOk_by (own := [("_law_j", 16)]) (N := ["_law_script", "_law_d", "_law_turn", "_law_live", "_law_scene", "_law_k", "_law_deeds", "_law_odd", "_law_due", "_law_later", "_law_failed", "_law_rows", "_law_numbers", "_law_trial", "_law_bad", "_law_orders_here", "_law_j"]) (sc := defScope s_law) (by decide +kernel)) (fun _ _ _ _ _ => (pg_name (i := 16) sc_law.nd rfl (Or.inl rfl))) (fun _ _ _ _ _ => pts_nil) (fun _ _ _ _ _ => (pe_op (op_catTK (K := K)) (pe_tup (pa_cons (pv 16) pa_nil)) (pe_slice (sl_tupK (K := K)) (pe_ix (ix_listK (K := K)) (pv 11) (pv 16) (fun _ _ => rfl)) po_none (po_some pe_int)))))))
  (C8.pss_cut (ps_if (PW.pt (pw_or (pt_not (pt_val (pe_g G__law_like (hr.mono (by decide)) (pa_cons (pe_g G__law_by_trial (hr.mono (by decide)) (pa_cons (pv 3) (pa_cons (pv 6) pa_nil))) (pa_cons (pv 13) pa_nil))))) (pw_or1 (pt_not (pt_val (pe_g G__law_stands (hr.mono (by decide)) (pa_cons (pv 3) (pa_cons (pv 4) pa_nil))))))))
  (pss_one (ps_ret pe_bl))
  pss_nil)
  (C8.pss_cut (ps_if (PW.pt (pw_or (pt_not (pt_val (pe_g G__law_like (hr.mono (by decide)) (pa_cons (pe_g G__law_by_apply (hr.mono (by decide)) (pa_cons (pv 3) (pa_cons (pv 6) pa_nil))) (pa_cons (pv 8) pa_nil))))) (pw_or1 (pt_not (pt_val (pe_g G__law_stands (hr.mono (by decide)) (pa_cons (pv 3) (pa_cons (pv 9) pa_nil))))))))
  (pss_one (ps_ret pe_bl))
  pss_nil)
  (pss_one (ps_if (pt_cmpR op_ne (pe_m0 M_LivePost_redo T.cl_LivePost (hr.mono (by decide)) (pv 3)) (pe_or (pv 10) (pe_one (pe_cmpR (op_eqD hr.units) (pv 6) (pe_lst pa_nil) (nomark _)))) (nomark _))
  (pss_one (ps_ret pe_bl))
  pss_nil))))))))))))))))))
  (pss_one (ps_ret pe_bl)))), ?_⟩
    let tl (v1 v2 v3 v4 v5 v6 v7 v8 v9 v10 v11 v12 v13 v14 v15 v16 : Option V) : L2.St := [some (.ref a), v1, v2, v3, v4, v5, v6, v7, v8, v9, v10, v11, v12, v13, v14, v15, v16]
    refine ⟨_, rfl, a, ns, rfl, hS, hlen, fun H1 rw s1 frw R1 => ?_⟩
    have T1 : LamX.Tabs TT H1 := fun p hp => by
      rcases mem3 hp with rfl | rfl | rfl <;> exact LamX.TabS.nil (s1 _ _ (hP _ (by simp)))
    clear hP
    refine ⟨_, rfl, by decide, by decide, for_it walk_range (fun i σ H' => LamX.Tabs TT H' ∧ RowAt K H' rw a ns ∧ ∃ v2 v3 v4 v5 v6 v7 v8 v9 v10 v11 v12 v13 v14 v15 v16, σ = tl (some (.ref rw)) v2 v3 v4 v5 v6 v7 v8 v9 v10 v11 v12 v13 v14 v15 v16) ⟨T1, R1, _, _, _, _, _, _, _, _, _, _, _, _, _, _, _, rfl⟩ (fun _ _ _ _ _ => trivial) ?_ ?_⟩
    rotate_left
    · rintro σ H2 ⟨T2, R2, w2, w3, w4, w5, w6, w7, w8, w9, w10, w11, w12, w13, w14, w15, w16, rfl⟩
      exact k0 _
    clear T1 R1 s1
    rintro i y σ Hx H1 hi ⟨T1, R1, w2, w3, w4, w5, w6, w7, w8, w9, w10, w11, w12, w13, w14, w15, w16, rfl⟩ ⟨rfl, rfl⟩
    clear hi
    refine ⟨fun σ' H' => ∃ l as os, LamX.Tabs TT H' ∧ RowAt K H' rw a ns ∧ H' l = some (.lst (as.map V.ref)) ∧ l ≠ rw ∧ OrdsAt K H' as os ∧ Good os ∧ os.length ≤ 6 ∧ ∃ v2 v3 v4 v5 v6 v7 v8 v9 v10 v11 v12 v13 v14 v16, σ' = tl (some (.ref rw)) v2 v3 v4 v5 v6 v7 v8 v9 v10 v11 v12 v13 v14 (some (.ref l)) v16, ?_, ?_⟩
    · refine ⟨_, rfl, rw, a, ns, 6, 9, rfl, R1, by decide, by decide, by decide, fun H2 l as os k2 fl R2 e2 o2 l6 od => ?_⟩
      exact ⟨l, as, os, tabs_keepR R1 T1 k2, R2, e2, R1.fresh fl, o2, od.good (by decide) (by omega), l6, _, _, _, _, _, _, _, _, _, _, _, _, _, _, rfl⟩
    clear T1 R1
    rintro σ H1 ⟨l, as, os, T1, R1, e1, nl, o1, g, l6, w2, w3, w4, w5, w6, w7, w8, w9, w10, w11, w12, w13, w14, w16, rfl⟩
    refine ⟨fun σ' H' => ∃ p kw sc, B43 K TT rw a ns os l as sc H' ∧ kw.b = false ∧ LivO K C_Book C_LivePost H' p kw ⟨0, os, []⟩ [] [] ∧ ∃ v2 v5 v6 v7 v8 v9 v10 v11 v12 v13 v14 v16, σ' = tl (some (.ref rw)) v2 (some (.ref p)) (some (.ref sc)) v5 v6 v7 v8 v9 v10 v11 v12 v13 v14 (some (.ref l)) v16, ?_, ?_⟩
    · refine ⟨_, rfl, l, as, os, rfl, SqL.of e1, o1, g, fun H3 b s2 fb B2 => ?_⟩
      intro p dx hp hdx ne
      have s3 : Same H3 (upd (upd H3 dx (.own p)) p (.ins C_LivePost dx [])) := fun b u e => by
        rw [upd_ne (ne_of_none e hp), upd_ne (ne_of_none e hdx)]
        exact e
      have nbp : b ≠ p := by
        obtain ⟨d1, t1, a1, b1, _⟩ := id B2
        exact ne_of_none b1 hp
      refine ⟨p, dx, b, os, rfl, upd_same, B2.mono s3, nbp, fun H4 kw hb L4 k4 => ⟨rfl, ?_⟩⟩
      have s14 : Same H1 H4 := s2.trans fun b u e => k4 b u (s3 b u e) (ne_of_none e hp)
      refine ⟨_, rfl, Nat.zero_le _, ?_⟩
      intro ll hll
      generalize gH5 : L2.upd _ ll _ = H5
      obtain ⟨s5, e5⟩ := newS hll gH5
      clear gH5
      refine ⟨(by show 3 ≤ sizeLine; decide), ?_⟩
      intro sc hsc
      generalize gH6 : L2.upd _ sc _ = H6
      obtain ⟨s6, e6⟩ := newS hsc gH6
      clear gH6
      refine ⟨(by show 2 ≤ sizeLine; decide), ?_⟩
      intro t ht
      generalize gH7 : L2.upd _ t _ = H7
      obtain ⟨s7, e7⟩ := newS ht gH7
      clear gH7
      refine ⟨t, _, rfl, .inl (.inl e7), rfl, _, _, rfl, _, _, rfl, rfl, ?_⟩
      have s47 := (s5.trans s6).trans s7
      have s17 := s14.trans s47
      exact ⟨p, kw, sc, ⟨T1.ext s17, R1.keep s17, ⟨l, as, ll, [], s7 _ _ e6, s17 _ _ e1, o1.mono s17, s7 _ _ (s6 _ _ e5), .nil, nl, (R1.keep s14).fresh hll⟩, ⟨s17 _ _ e1, nl⟩, o1.mono s17⟩, hb, L4.same s47, _, _, _, _, _, _, _, _, _, _, _, _, rfl⟩
    clear T1 R1 e1 o1
    rintro σ H1 ⟨p, kw, sc, B1, hb, L1, w2, w5, w6, w7, w8, w9, w10, w11, w12, w13, w14, w16, rfl⟩
    have b0 : Bd41 0 ⟨0, os, []⟩ [] := ⟨⟨g, fun x hx => by cases hx⟩, Nat.le_refl _, l6, Nat.le_refl _, by show (0 : Int) ≤ 0; decide, by show (0 : Int) ≤ _; decide, fun x hx => by cases hx⟩
    have bn : Bnd ⟨0, os, []⟩ [] := b0.bnd (by decide)
    have ad : isAddrB (.str "a") = true := by decide +kernel
    have ea := actF_post1 (S := ⟨0, os, []⟩) ad
    obtain ⟨dx, u1, u2, u3, hp⟩ := L1.ins
    refine ⟨_, rfl, p, dx, _, rfl, hp, rfl, p, .str "a", rfl, ⟨rfl, by show Str.length _ ≤ _; decide +kernel⟩, kw, ⟨0, os, []⟩, [], [], L1, bn, fun e he => ?_, fun v H2 nb rv L2' k2 => ?_⟩
    · rw [ea] at he
      cases he
    have B2 := B1.moved hp k2
    clear B1 L1 hp
    refine ⟨fun σ' H' => ∃ un, B43 K TT rw a ns os l as sc H' ∧ LivO K C_Book C_LivePost H' p kw ⟨0, os, []⟩ [] un ∧ (∃ x : Ent, un = [x] ∧ x.2.1 = ⟨0, os, []⟩) ∧ ∃ v2 v5 v6 v7 v8 v9 v10 v11 v12 v13 v14 v16, σ' = tl (some (.ref rw)) v2 (some (.ref p)) (some (.ref sc)) v5 v6 v7 v8 v9 v10 v11 v12 v13 v14 (some (.ref l)) v16, ?_, ?_⟩
    · obtain ⟨dx, u1, u2, u3, hp⟩ := L2'.ins
      refine ⟨_, rfl, p, dx, _, rfl, hp, rfl, p, kw, _, _, _, rfl, L2', by show 1 < 1000; decide, by show 0 < 1000; decide, ?_, fun xs x ex H4 L4 k4 => ?_⟩
      · intro e0
        cases e0
      obtain ⟨rfl, rfl⟩ := snoc_inj (ex : [] ++ [_] = xs ++ [x])
      exact ⟨_, B2.moved hp k4, L4, ⟨_, rfl, rfl⟩, _, _, _, _, _, _, _, _, _, _, _, _, rfl⟩
    clear B2 L2' ea ad
    rintro σ H1 ⟨un, B1, L1, ⟨xu, eun, sxu⟩, w2, w5, w6, w7, w8, w9, w10, w11, w12, w13, w14, w16, rfl⟩
    refine ⟨fun σ' H' => ∃ D dl qs, B43 K TT rw a ns os l as sc H' ∧ LivO K C_Book C_LivePost H' p kw ⟨0, os, []⟩ [] un ∧ D43 K rw D dl qs H' ∧ (∀ d ∈ D, d.Law) ∧ D.length ≤ 3 ∧ ∃ v2 v5 v7 v8 v9 v10 v11 v12 v13 v14 v16, σ' = tl (some (.ref rw)) v2 (some (.ref p)) (some (.ref sc)) v5 (some (.ref dl)) v7 v8 v9 v10 v11 v12 v13 v14 (some (.ref l)) v16, ?_, ?_⟩
    · refine ⟨_, rfl, rw, a, ns, 4, rfl, B1.row, by decide, by decide, fun v H2 v0 v1 R2 k2 => ?_⟩
      have B2 := B1.keepR R2 k2
      have L2' := L1.keepR B1.row k2
      clear B1 L1
      refine ⟨v, rfl, by omega, by omega, fun B hB => ?_⟩
      have s0 := Same.new (o := .lst []) hB
      refine lc_it walk_range (fun j H' => KeepR rw H2 H' ∧ RowAt K H' rw a ns ∧ ∃ qs D, H' B = some (.lst ((qs : List Addr).map V.ref)) ∧ PySem.Paired (DeedAt K H') qs D ∧ (∀ d ∈ D, d.Law) ∧ D.length = j) ⟨fun b u e _ => s0 _ _ e, R2.keep s0, [], [], upd_same, .nil, (fun d h => by cases h), rfl⟩ (fun _ _ _ _ => trivial) ?_ ?_
      · rintro j y Hx H3 hj ⟨k3, R3, qs, D, c3, Pd, law, lD⟩ ⟨rfl, ey⟩
        have hj3 : j < 3 := by
          have : j < v.toNat := hj
          omega
        have B3 := B2.keepR R3 k3
        refine ⟨rfl, yesT (iteT ?_)⟩
        refine ⟨_, rfl, _, rfl, _, rfl, rw, a, ns, 4, rfl, R3, by decide, by decide, fun z H4 z0 z1 R4 k4 => ?_⟩
        have B4 := B3.keepR R4 k4
        refine ⟨rfl, .inr ⟨_, rfl, ?_⟩⟩
        have ho : ∃ odd : Nat, odd ≤ 1 ∧ (if decide ((V.int z) = V.int 0) = true then (1 : Int) else 0) = ((odd : Nat) : Int) := by
          by_cases c : (V.int z) = V.int 0
          · exact ⟨1, by decide, by rw [decide_eq_true c]; rfl⟩
          · exact ⟨0, by decide, by rw [decide_eq_false c]; rfl⟩
        obtain ⟨odd, o1, eo⟩ := ho
        refine ⟨rw, a, ns, sc, _, odd, by rw [eo], B4.row, B4.scn, o1, b0.d0, by show (0 : Int) ≤ _; decide, by have := bn.os; omega, fun H5 q d k5 R5 da dlw => ?_⟩
        have nB : B ≠ rw := R2.fresh hB
        have k25 : KeepR rw H2 H5 := fun b u e n => k5 _ _ (k4 _ _ (k3 _ _ e n) n) n
        have c5 := k5 _ _ (k4 _ _ c3 nB) nB
        have lq := PySem.Paired.length Pd
        refine ⟨_, c5, by rw [List.length_map, sizeLine_eq]; omega, ?_⟩
        have g6 : ∀ b u, H5 b = some u → b ≠ B → upd H5 B (.lst (qs.map V.ref ++ [.ref q])) b = some u := fun b u e nb => by rw [upd_ne nb]; exact e
        have e6 : upd H5 B (.lst (qs.map V.ref ++ [.ref q])) B = some (.lst (qs.map V.ref ++ [.ref q])) := upd_same
        generalize upd H5 B (.lst (qs.map V.ref ++ [.ref q])) = H6 at g6 e6
        have kt6 : ∀ b u, H5 b = some u → tupl u = true → H6 b = some u := fun b u e y => g6 _ _ e (ne_of e c5 (by intro z; rw [z] at y; cases y))
        have k26 : KeepR rw H2 H6 := fun b u e n => g6 _ _ (k25 _ _ e n) (ne_of_none e hB)
        refine ⟨k26, R2.via k26 R5 (fun u e => g6 _ _ e (Ne.symm nB)), qs ++ [q], D ++ [d], by rw [e6, List.map_append]; rfl, Paired.append (PySem.Paired.mono (fun _ _ h => (h.kt (KeepR.tup (fun b u e n => k5 _ _ (k4 _ _ e n) n) R3)).kt kt6) Pd) (.cons (da.kt kt6) .nil), fun d' hd' => ?_, by rw [List.length_append, lD]; rfl⟩
        rcases List.mem_append.mp hd' with z | z
        · exact law _ z
        · rw [List.mem_singleton.mp z]
          exact dlw
      · rintro H3 ⟨k3, R3, qs, D, c3, Pd, law, lD⟩
        exact ⟨D, B, qs, B2.keepR R3 k3, L2'.keepR B2.row k3, ⟨⟨c3, R2.fresh hB⟩, Pd⟩, law, by rw [lD]; omega, _, _, _, _, _, _, _, _, _, _, _, rfl⟩
    clear B1 L1
    rintro σ H1 ⟨D, dl, qs, B1, L1, D1', law, few, w2, w5, w7, w8, w9, w10, w11, w12, w13, w14, w16, rfl⟩
    have lq := PySem.Paired.length D1'.deeds
    refine ⟨fun σ' H' => Same H1 H' ∧ ∃ lo ys, H' lo = some (.lst ys) ∧ H1 lo = none ∧ ys.length = 9 ∧ (∀ y ∈ ys, OpIs K H' y false) ∧ ∃ v2 v5 v8 v9 v10 v11 v12 v13 v14 v16, σ' = tl (some (.ref rw)) v2 (some (.ref p)) (some (.ref sc)) v5 (some (.ref dl)) (some (.ref lo)) v8 v9 v10 v11 v12 v13 v14 (some (.ref l)) v16, ?_, ?_⟩
    · refine ⟨(by show 1 ≤ sizeLine; decide), ?_⟩
      intro x1 hx1
      generalize gG1 : L2.upd _ x1 _ = G1
      obtain ⟨t1, f1⟩ := newS hx1 gG1
      clear gG1
      refine ⟨(by show 3 ≤ sizeLine; decide), ?_⟩
      intro x2 hx2
      generalize gG2 : L2.upd _ x2 _ = G2
      obtain ⟨t2, f2⟩ := newS hx2 gG2
      clear gG2
      refine ⟨(by show 2 ≤ sizeLine; decide), ?_⟩
      intro x3 hx3
      generalize gG3 : L2.upd _ x3 _ = G3
      obtain ⟨t3, f3⟩ := newS hx3 gG3
      clear gG3
      refine ⟨Nat.zero_le _, ?_⟩
      intro x4 hx4
      generalize gG4 : L2.upd _ x4 _ = G4
      obtain ⟨t4, f4⟩ := newS hx4 gG4
      clear gG4
      refine ⟨(by show 1 ≤ sizeLine; decide), ?_⟩
      intro x5 hx5
      generalize gG5 : L2.upd _ x5 _ = G5
      obtain ⟨t5, f5⟩ := newS hx5 gG5
      clear gG5
      refine ⟨(by show 2 ≤ sizeLine; decide), ?_⟩
      intro x6 hx6
      generalize gG6 : L2.upd _ x6 _ = G6
      obtain ⟨t6, f6⟩ := newS hx6 gG6
      clear gG6
      refine ⟨(by show 2 ≤ sizeLine; decide), ?_⟩
      intro x7 hx7
      generalize gG7 : L2.upd _ x7 _ = G7
      obtain ⟨t7, f7⟩ := newS hx7 gG7
      clear gG7
      refine ⟨(by show 9 ≤ sizeLine; decide), ?_⟩
      intro lo hlo
      generalize gG8 : L2.upd _ lo _ = G8
      obtain ⟨t8, f8⟩ := newS hlo gG8
      clear gG8
      have t78 := t8
      have t68 := t7.trans t78
      have t58 := t6.trans t68
      have t48 := t5.trans t58
      have t38 := t4.trans t48
      have t28 := t3.trans t38
      have t18 := t2.trans t28
      refine ⟨t1.trans t18, lo, _, f8, ((((((t1.trans t2).trans t3).trans t4).trans t5).trans t6).trans t7).free hlo, rfl, fun y hy => ?_, _, _, _, _, _, _, _, _, _, _, rfl⟩
      simp only [List.mem_cons, List.not_mem_nil, or_false] at hy
      rcases hy with rfl | rfl | rfl | rfl | rfl | rfl | rfl | rfl | rfl
      · exact .inl ⟨_, _, rfl, t18 _ _ f1, by decide, .inl ⟨⟨.post .non, rfl⟩, by decide⟩⟩
      · exact .inl ⟨_, _, rfl, t28 _ _ f2, by decide, .inl ⟨⟨.pass .non, rfl⟩, by decide⟩⟩
      · exact .inr (.inl ⟨_, _, _, rfl, t38 _ _ f3, by decide⟩)
      · exact .inl ⟨_, _, rfl, t48 _ _ f4, by decide, True.intro⟩
      · exact .inr (.inr rfl)
      · exact .inr (.inr rfl)
      · exact .inl ⟨_, _, rfl, t58 _ _ f5, by decide, .inr rfl⟩
      · exact .inl ⟨_, _, rfl, t68 _ _ f6, by decide, True.intro⟩
      · exact .inl ⟨_, _, rfl, t78 _ _ f7, by decide, .inr rfl⟩
    rintro σ H2 ⟨s12, lo, ys, elo, nlo, l9, odd, w2, w5, w8, w9, w10, w11, w12, w13, w14, w16, rfl⟩
    have B2 := B1.same s12
    have L2' := L1.same s12
    have D2' := D1'.same s12
    have nlo2 : lo ≠ rw := B1.row.fresh nlo
    clear B1 L1 D1'
    refine ⟨_, rfl, _, rfl, dl, _, rfl, .inl (SqL.of D2'.don.1), _, _, rfl, rfl, rw, a, ns, _, rfl, B2.row, by rw [List.length_map]; omega, by rw [List.length_map]; omega, fun k H3 k0' k1' R3 k3 => ?_⟩
    obtain ⟨n, rfl, hn⟩ : ∃ n : Nat, k = (n : Nat) ∧ n ≤ D.length := ⟨k.toNat, by omega, by rw [List.length_map] at k1'; omega⟩
    clear k0' k1'
    have B3 := B2.keepR R3 k3
    have L3 := L2'.keepR B2.row k3
    have D3' := D2'.keepR B2.row k3
    have elo3 := k3 _ _ elo nlo2
    have odd3 : ∀ y ∈ ys, OpIs K H3 y false := fun y hy => opF_keepR (odd y hy) B2.row k3
    clear B2 L2' D2' elo odd k3 R3 s12
    refine ⟨fun σ' H' => ∃ bl y, B43 K TT rw a ns os l as sc H' ∧ LivO K C_Book C_LivePost H' p kw ⟨0, os, []⟩ [] un ∧ D43 K rw D dl qs H' ∧ H' bl = some (.lst ((qs.take n).map V.ref ++ [y] ++ (qs.drop n).map V.ref)) ∧ OpIs K H' y false ∧ ∃ v2 v7 v8 v9 v10 v11 v12 v13 v16, σ' = tl (some (.ref rw)) v2 (some (.ref p)) (some (.ref sc)) (some (.int (n : Nat))) (some (.ref dl)) v7 v8 v9 v10 v11 v12 v13 (some (.ref bl)) (some (.ref l)) v16, ?_, ?_⟩
    · refine ⟨_, rfl, _, rfl, _, rfl, dl, _, rfl, SqL.of D3'.don.1, ?_⟩
      intro q1 hq1
      generalize gH4 : L2.upd _ q1 _ = H4
      obtain ⟨s4, e4⟩ := newS hq1 gH4
      clear gH4
      rw [cut_hiP, ← List.map_take] at e4
      have R4 := B3.row.keep s4
      refine ⟨_, rfl, _, rfl, rw, a, ns, lo, ys, rfl, R4, s4 _ _ elo3, nlo2, by omega, by omega, fun i y H5 ey R5 k5 => ?_⟩
      refine ⟨(by show 1 ≤ sizeLine; decide), ?_⟩
      intro q2 hq2
      generalize gH6 : L2.upd _ q2 _ = H6
      obtain ⟨s6, e6⟩ := newS hq2 gH6
      clear gH6
      have n1 := B3.row.fresh hq1
      refine ⟨q1, q2, _, _, rfl, rfl, s6 _ _ (k5 _ _ e4 n1), e6, by rw [List.length_map, List.length_take, sizeLine_eq]; show _ + 1 ≤ _; omega, ?_⟩
      intro q3 hq3
      generalize gH7 : L2.upd _ q3 _ = H7
      obtain ⟨s7, e7⟩ := newS hq3 gH7
      clear gH7
      have B7 := (((B3.same s4).keepR R5 k5).same s6).same s7
      have L7 := (((L3.same s4).keepR R4 k5).same s6).same s7
      have D7 := (((D3'.same s4).keepR R4 k5).same s6).same s7
      refine ⟨_, rfl, _, rfl, _, rfl, dl, _, rfl, SqL.of D7.don.1, ?_⟩
      intro q4 hq4
      generalize gH8 : L2.upd _ q4 _ = H8
      obtain ⟨s8, e8⟩ := newS hq4 gH8
      clear gH8
      rw [cut_loP _ (by rw [List.length_map]; omega), ← List.map_drop] at e8
      refine ⟨q3, q4, _, _, rfl, rfl, s8 _ _ e7, e8, by rw [List.length_append, List.length_map, List.length_map, List.length_take, List.length_drop, sizeLine_eq]; show _ + 1 + _ ≤ _; omega, ?_⟩
      intro q5 hq5
      generalize gH9 : L2.upd _ q5 _ = H9
      obtain ⟨s9, e9⟩ := newS hq5 gH9
      clear gH9
      have oy := ((((opF_keepR ((odd3 y (List.mem_of_getElem? ey)).mono s4) R4 k5).mono s6).mono s7).mono s8).mono s9
      exact ⟨q5, y, (B7.same s8).same s9, (L7.same s8).same s9, (D7.same s8).same s9, e9, oy, _, _, _, _, _, _, _, _, _, rfl⟩
    clear B3 L3 D3' elo3 odd3
    rintro σ H1 ⟨bl, y, B1, L1, D1', ebl, oy, w2, w7, w8, w9, w10, w11, w12, w13, w16, rfl⟩
    refine ⟨fun σ' H' => B43 K TT rw a ns os l as sc H' ∧ LivO K C_Book C_LivePost H' p kw ⟨0, os, []⟩ [] un ∧ D43 K rw D dl qs H' ∧ ∃ v2 v5 v7 v8 v9 v10 v11 v12 v13 v14 v16, σ' = tl (some (.ref rw)) v2 (some (.ref p)) (some (.ref sc)) v5 (some (.ref dl)) v7 v8 v9 v10 v11 v12 v13 v14 (some (.ref l)) v16, ?_, ?_⟩
    · refine ⟨B1.tabs, fun f1 Ha xa Ta fna LM1 => ?_⟩
      have Ba := B1.ext xa Ta
      have La := L1.ext xa
      have Da := D1'.ext xa
      have ebla := xa _ _ ebl (fun ps z => by cases z)
      have oya := opF_ext oy xa
      clear B1 L1 D1' ebl oy
      refine ⟨_, f1, rfl, LM1, ?_⟩
      refine ⟨rfl, _, rfl, l, as, os, rfl, SqL.of Ba.ords.1, Ba.oa, g, fun H2 b s2 fb B2 => ?_⟩
      have ln : ((qs.take n).map V.ref).length = n := by rw [List.length_map, List.length_take]; omega
      refine ⟨_, rfl, b, bl, os, _, rfl, B2, .inr (SqL.of (s2 _ _ ebla)), by rw [List.length_append, List.length_append, ln, List.length_map, List.length_drop]; show n + 1 + _ ≤ _; omega, n, y, ?_, oya.mono s2, fun j z hj ez => ?_, fun H3 cls dd s3 er => ?_⟩
      · rw [List.append_assoc, List.getElem?_append_right (by rw [ln]; exact Nat.le_refl _), ln, Nat.sub_self]
        rfl
      · rw [List.append_assoc, List.getElem?_append_left (by rw [ln]; exact hj), List.map_take, List.getElem?_take_of_lt hj] at ez
        exact (opT Da.deeds ez).mono s2
      · refine ⟨.operation (.int (n : Nat)), True.intro, er, fun t H4 s4 ft tt => ?_⟩
        refine ⟨_, rfl, (by show 1 ≤ sizeLine; decide), ?_⟩
        intro q1 hq1
        generalize gH5 : L2.upd _ q1 _ = H5
        obtain ⟨s5, e5⟩ := newS hq1 gH5
        clear gH5
        refine ⟨(by show 3 ≤ sizeLine; decide), ?_⟩
        intro q2 hq2
        generalize gH6 : L2.upd _ q2 _ = H6
        obtain ⟨s6, e6⟩ := newS hq2 gH6
        clear gH6
        have s46 := s5.trans s6
        have s26 := ((s2.trans s3).trans s4).trans s46
        have fl : (Err.operation (.int (n : Nat))).Flat := fun v hv => by
          rw [List.mem_singleton.mp hv]
          show ((n : Int)).natAbs.log2 < 1920
          rw [Int.natAbs_natCast]
          have : n = 0 ∨ n = 1 ∨ n = 2 ∨ n = 3 := by omega
          rcases this with rfl | rfl | rfl | rfl <;> decide
        have dk := errD_dk fl
        refine ⟨errD (.operation (.int (n : Nat))), errD (.operation (.int (n : Nat))), told_dp (tt.kl fun e _ _ => s46 _ _ e) fl, .tup (.inl (.inl e6)) (.cons (.str _) (.cons (.str _) (.cons (.lst (SqL.of (s6 _ _ e5)) (.cons (.int _) .nil)) .nil))), dk.shaped (by decide), dk.shaped (by decide), ?_⟩
        rw [PySem.SeqAt.eqv_refl _ dk.lay]
        exact ⟨_, rfl, iteF ⟨Ba.same s26, La.same s26, Da.same s26, _, _, _, _, _, _, _, _, _, _, _, rfl⟩⟩
    clear B1 L1 D1' ebl oy
    rintro σ H1 ⟨B1, L1, D1', w2, w5, w7, w8, w9, w10, w11, w12, w13, w14, w16, rfl⟩
    refine ⟨fun σ' H' => ∃ du la la', B43 K TT rw a ns os l as sc H' ∧ LivO K C_Book C_LivePost H' p kw ⟨0, os, []⟩ [] un ∧ D43 K rw D dl qs H' ∧ la' = la ∧ ((goodF ⟨0, os, []⟩ D ∧ (∃ vs, H' du = some (.lst vs) ∧ du ≠ rw ∧ PySem.Paired (DueAt H') vs (resF ⟨0, os, []⟩ D)) ∧ LawSc K (fun z => z ≠ rw) H' la (scnF ⟨0, os, []⟩ D)) ∨ ((∃ i d e, D[i]? = some d ∧ goodF ⟨0, os, []⟩ (D.take i) ∧ (actF (scnF ⟨0, os, []⟩ (D.take i)) d).1 = .err e ∧ ToldAt H' du e) ∧ la = sc)) ∧ ∃ v2 v5 v7 v10 v11 v12 v13 v14 v16, σ' = tl (some (.ref rw)) v2 (some (.ref p)) (some (.ref sc)) v5 (some (.ref dl)) v7 (some (.ref du)) (some (.ref la)) v10 v11 v12 v13 v14 (some (.ref l)) v16, ?_, ?_⟩
    · refine ⟨_, rfl, _, rfl, _, sc, dl, _, qs, D, rfl, B1.scn, D1'.don.1, D1'.deeds, law, b0, by omega, fun gd H2 t ld vs sc' s2 et eld fld Rv W => ?_, fun H2 t pe i d e s2 et ed gd ee te => ?_⟩
      · refine ⟨t, _, rfl, .inl (.inl et), rfl, _, _, rfl, _, _, rfl, rfl, ?_⟩
        exact ⟨ld, sc', sc', B1.same s2, L1.same s2, D1'.same s2, rfl, .inl ⟨gd, ⟨vs, eld, B1.row.fresh fld, Rv⟩, W.imp fun z h => h.elim id fun e => B1.row.fresh e⟩, _, _, _, _, _, _, _, _, _, rfl⟩
      · refine ⟨t, _, rfl, .inl (.inl et), rfl, _, _, rfl, _, _, rfl, rfl, ?_⟩
        exact ⟨pe, sc, sc, B1.same s2, L1.same s2, D1'.same s2, rfl, .inr ⟨⟨i, d, e, ed, gd, ee, te⟩, rfl⟩, _, _, _, _, _, _, _, _, _, rfl⟩
    clear B1 L1 D1'
    rintro σ H1 ⟨du, la, _, B1, L1, D1', _, c1, w2, w5, w7, w10, w11, w12, w13, w14, w16, rfl⟩
    have bk := bd_take b0 law (by omega) D.length (Nat.le_refl _)
    rw [List.take_length] at bk
    obtain ⟨fa, S', W1, okS, rS, eF⟩ : ∃ (fa : Bool) (S' : Scn), LawSc K (fun z => z ≠ rw) H1 la S' ∧ S'.Ok ∧ S'.rows.length ≤ 3 ∧ ((fa = true ∧ S' = ⟨0, os, []⟩ ∧ ∃ i d e, D[i]? = some d ∧ goodF ⟨0, os, []⟩ (D.take i) ∧ (actF (scnF ⟨0, os, []⟩ (D.take i)) d).1 = .err e ∧ ToldAt H1 du e) ∨ (fa = false ∧ S' = scnF ⟨0, os, []⟩ D ∧ goodF ⟨0, os, []⟩ D ∧ ∃ vs, H1 du = some (.lst vs) ∧ du ≠ rw ∧ PySem.Paired (DueAt H1) vs (resF ⟨0, os, []⟩ D))) := by
      rcases c1 with ⟨gd, ex, W⟩ | ⟨ex, rfl⟩
      · exact ⟨false, _, W, bk.ok, by have := bk.rows; omega, .inr ⟨rfl, rfl, gd, ex⟩⟩
      · exact ⟨true, _, B1.scn, b0.ok, by show 0 ≤ 3; decide, .inl ⟨rfl, rfl, ex⟩⟩
    clear c1
    obtain ⟨ol2, as2, ll2, rs2, w0, w1, w2', w3, w4, w5, w6⟩ := id W1
    have lrs := PySem.Paired.length w4
    have eE : (fa = true ∧ ∃ p e, V.ref du = .ref p ∧ ToldAt H1 p e) ∨ (fa = false ∧ ∃ l xs, V.ref du = .ref l ∧ H1 l = some (.lst xs)) := by
      rcases eF with ⟨h1, _, _, _, e, _, _, _, h2⟩ | ⟨h1, _, _, vs, h2, _⟩
      · exact .inl ⟨h1, du, e, rfl, h2⟩
      · exact .inr ⟨h1, du, vs, rfl, h2⟩
    refine ⟨_, rfl, _, fa, rfl, eE, fun H2 s2 => ?_⟩
    refine ⟨_, rfl, la, _, _, _, rfl, rfl, .inl (.inl (s2 _ _ w0)), rfl, (by show 2 ≤ sizeLine; decide), ?_⟩
    intro t ht
    generalize gH3 : L2.upd _ t _ = H3
    obtain ⟨s3, e3⟩ := newS ht gH3
    clear gH3
    refine ⟨t, _, rfl, .inl (.inl e3), rfl, _, _, rfl, _, _, rfl, rfl, ?_⟩
    have s13 := s2.trans s3
    refine ⟨fun σ' H' => Same H1 H' ∧ ∃ ln, H' ln = some (.lst ((nB S'.rows S'.rows.length).map fun i => V.int (i : Nat))) ∧ ∃ v2 v5 v7 v13 v14 v16, σ' = tl (some (.ref rw)) v2 (some (.ref p)) (some (.ref sc)) v5 (some (.ref dl)) v7 (some (.ref du)) (some (.ref la)) (some (.bl fa)) (some (.ref ll2)) (some (.ref ln)) v13 v14 (some (.ref l)) v16, ?_, ?_⟩
    · refine ⟨_, rfl, ll2, _, rfl, .inl (SqL.of (s13 _ _ w3)), _, rfl, by rw [List.length_map]; omega, by rw [List.length_map]; omega, fun B hB => ?_⟩
      refine lc_it walk_range (fun j H' => Same H3 H' ∧ H' B = some (.lst ((nB S'.rows j).map fun i => V.int (i : Nat)))) ⟨Same.new hB, upd_same⟩ (fun _ _ _ _ => trivial) ?_ ?_
      · rintro j y Hx H4 hj ⟨s4, c4⟩ ⟨rfl, ey⟩
        replace ey : y = .int (j : Nat) := by
          rw [ey]
          show V.int (0 + (j : Nat)) = _
          rw [Int.zero_add]
        subst ey
        have hj' : j < S'.rows.length := by
          have : j < (((rs2.map V.ref).length : Nat) : Int).toNat := hj
          rw [List.length_map] at this
          omega
        obtain ⟨x, ex⟩ : ∃ x, S'.rows[j]? = some x := ⟨_, List.getElem?_eq_getElem hj'⟩
        obtain ⟨r, er, hx⟩ := Paired.get' w4 ex
        have s14 := s13.trans s4
        have hr2 := s14 _ _ hx
        have at4 : (rs2.map V.ref)[j]? = some (V.ref r) := by rw [List.getElem?_map, er]; rfl
        have lnb := nB_len S'.rows j
        refine ⟨rfl, ?_⟩
        refine ⟨_, rfl, _, rfl, ll2, _, _, _, rfl, rfl, SqL.of (s14 _ _ w3), atI_nat at4, r, _, _, _, rfl, rfl, .inl (.inl hr2), rfl, _, rfl, ?_⟩
        rw [nB_step ex]
        cases cx : x.2.2 with
        | true =>
          refine iteT ⟨_, rfl, _, c4, by rw [List.length_map, sizeLine_eq]; omega, fun b u e => ?_, by rw [upd_same, List.map_append]; rfl⟩
          rw [upd_ne (ne_of_none e hB)]
          exact s4 _ _ e
        | false => exact iteF ⟨s4, by rw [if_neg (by decide), List.append_nil]; exact c4⟩
      · rintro H4 ⟨s4, c4⟩
        rw [show (((rs2.map V.ref).length : Nat) : Int).toNat = S'.rows.length by rw [List.length_map, lrs]; omega] at c4
        exact ⟨s13.trans s4, B, c4, _, _, _, _, _, _, rfl⟩
    clear e3 s13 s3 s2 ht eE
    rintro σ H2 ⟨s12, ln, eln, w2, w5, w7, w13, w14, w16, rfl⟩
    refine ⟨fun σ' H' => Same H2 H' ∧ ∃ tr, ((fa = true ∧ tr = .ref du) ∨ (fa = false ∧ ∃ lt ps, tr = .ref lt ∧ H' lt = some (.lst ((ps : List Addr).map V.ref)) ∧ NumAt H' ps (pickR true S'.rows S'.rows.length))) ∧ ∃ v2 v5 v7 v11 v12 v14 v16, σ' = tl (some (.ref rw)) v2 (some (.ref p)) (some (.ref sc)) v5 (some (.ref dl)) v7 (some (.ref du)) (some (.ref la)) (some (.bl fa)) v11 v12 (some (tr)) v14 (some (.ref l)) v16, ?_, ?_⟩
    · refine ⟨_, rfl, fa, rfl, ?_⟩
      cases hfa : fa with
      | true =>
        refine iteT ?_
        exact ⟨_, rfl, Same.refl _, _, .inl ⟨rfl, rfl⟩, _, _, _, _, _, _, _, rfl⟩
      | false =>
        refine iteF ?_
        have lnb := nB_len S'.rows S'.rows.length
        have s12' := s12
        refine ⟨_, rfl, ln, rfl, ⟨_, SqL.of eln⟩, fun B hB => ?_⟩
        refine lc_it (walk_list (xs := (nB S'.rows S'.rows.length).map fun i => V.int (i : Nat))) (fun j H' => Same H2 H' ∧ ∃ ps : List Addr, H' B = some (.lst (ps.map V.ref)) ∧ ps.length = j ∧ NumAt H' ps (((nB S'.rows S'.rows.length).take j).filterMap fun i => S'.rows[i]?.map fun x => (i, x.1, x.2.1))) ⟨Same.new hB, [], upd_same, rfl, .nil⟩ (fun j H' _ z => SqL.of (z.1 _ _ eln)) ?_ ?_
        · rintro j y Hx H4 hj ⟨s4, ps, c4, lps, N4⟩ ⟨rfl, ey⟩
          rw [List.length_map] at hj
          obtain ⟨i, ei⟩ : ∃ i, (nB S'.rows S'.rows.length)[j]? = some i := ⟨_, List.getElem?_eq_getElem hj⟩
          rw [List.getElem?_map, ei] at ey
          cases ey
          obtain ⟨x, ex⟩ := nB_get (List.mem_of_getElem? ei)
          obtain ⟨r, er, hx⟩ := Paired.get' w4 ex
          have s14 := s12.trans s4
          have at4 : (rs2.map V.ref)[i]? = some (V.ref r) := by rw [List.getElem?_map, er]; rfl
          refine ⟨rfl, yesT (iteT ?_)⟩
          refine ⟨_, rfl, (by show 1 ≤ sizeLine; decide), ?_⟩
          intro q1 hq1
          generalize gH5 : L2.upd _ q1 _ = H5
          obtain ⟨s5, e5⟩ := newS hq1 gH5
          clear gH5
          have s15 := s14.trans s5
          have nw : ¬ (HT.sIx ([V.str x.1, V.int x.2.1, V.bl x.2.2] : List V).length 0 none = 0 ∧ HT.sIx ([V.str x.1, V.int x.2.1, V.bl x.2.2] : List V).length ([V.str x.1, V.int x.2.1, V.bl x.2.2] : List V).length (some (2 : Int)) = ([V.str x.1, V.int x.2.1, V.bl x.2.2] : List V).length) := fun z => by
            have h2 := z.2
            rw [show (2 : Int) = ((2 : Nat) : Int) from rfl, HT.sIx_nat] at h2
            simp only [List.length_cons, List.length_nil] at h2
            omega
          refine ⟨_, rfl, _, rfl, ll2, _, _, _, rfl, rfl, SqL.of (s15 _ _ w3), atI_nat at4, _, rfl, r, _, rfl, .inl (.inl (s15 _ _ hx)), nw, ?_⟩
          intro q2 hq2
          generalize gH6 : L2.upd _ q2 _ = H6
          obtain ⟨s6, e6⟩ := newS hq2 gH6
          clear gH6
          have e6' : H6 q2 = some (.tup [.str x.1, .int x.2.1]) := by rw [e6, show (2 : Int) = ((2 : Nat) : Int) from rfl, cut_hiP]; rfl
          refine ⟨q1, q2, [.int (i : Nat)], [.str x.1, .int x.2.1], rfl, rfl, .inl (.inl (s6 _ _ e5)), .inl (.inl e6'), (by intro z; cases z), (by show 3 ≤ sizeLine; decide), (by intro z; cases z), fun _ => ?_⟩
          intro q3 hq3
          generalize gH7 : L2.upd _ q3 _ = H7
          obtain ⟨s7, e7⟩ := newS hq3 gH7
          clear gH7
          have s47 := (s5.trans s6).trans s7
          have c7 := s47 _ _ c4
          refine ⟨_, c7, by rw [List.length_map, sizeLine_eq]; omega, fun b u e => ?_, ps ++ [q3], by rw [upd_same, List.map_append]; rfl, by rw [List.length_append, lps]; rfl, ?_⟩
          · rw [upd_ne (ne_of_none e hB)]
            exact s47 _ _ (s4 _ _ e)
          · have up : ∀ b u, H7 b = some u → tupl u = true → upd H7 B (.lst (ps.map V.ref ++ [.ref q3])) b = some u := fun b u e y => by
              rw [upd_ne fun w => by rw [w, c7] at e; cases e; cases y]
              exact e
            rw [List.take_add_one, ei, List.filterMap_append]
            refine Paired.append (N4.keep fun b u e y => up _ _ (s47 _ _ e) y) ?_
            have e1 : ([i] : List Nat).filterMap (fun i => S'.rows[i]?.map fun x => (i, x.1, x.2.1)) = [(i, x.1, x.2.1)] := by simp [ex]
            show PySem.Paired _ _ (([i] : List Nat).filterMap _)
            rw [e1]
            exact .cons (up _ _ e7 rfl) .nil
        · rintro H4 ⟨s4, ps, c4, lps, N4⟩
          rw [List.length_map, List.take_length, ← nB_pick _ (Nat.le_refl _)] at N4
          exact ⟨s4, _, .inr ⟨rfl, B, ps, rfl, c4, N4⟩, _, _, _, _, _, _, _, rfl⟩
    rintro σ H3 ⟨s23, tr, eT, w2, w5, w7, w11, w12, w14, w16, rfl⟩
    have s13 := s12.trans s23
    obtain ⟨dxp, z1, z2, z3, hp1⟩ := L1.ins
    let KX (H' : Hp) : Prop := ∀ b u, H1 b = some u → b ≠ p → (∀ ps, u ≠ .tbl ps) → H' b = some u
    have klX : ∀ {H' : Hp}, KX H' → ∀ {b : Addr} {u : HO}, H1 b = some u → (∀ C dx fs, u ≠ .ins C dx fs) → (∀ ps, u ≠ .tbl ps) → H' b = some u := by
      intro H' k b u e n m
      exact k _ _ e (fun w => by rw [w, hp1] at e; exact n _ _ _ (Option.some.inj e).symm) m
    have BX : ∀ {H' : Hp}, KX H' → LamX.Tabs TT H' → B43 K TT rw a ns os l as sc H' := fun k t => B1.but hp1 k t
    have DX : ∀ {H' : Hp}, KX H' → D43 K rw D dl qs H' := fun k => D1'.but hp1 k
    have WX : ∀ {H' : Hp}, KX H' → LawSc K (fun z => z ≠ rw) H' la S' := fun k => W1.keep (fun b u e y => klX k e (fun _ _ _ z => by rw [z] at y; cases y) (fun _ z => by rw [z] at y; cases y)) (fun b xs e _ => klX k e (fun _ _ _ z => by cases z) (fun _ z => by cases z))
    have k13 : KX H3 := fun b u e _ _ => s13 _ _ e
    have bds : ∀ i, i < D.length → Bnd (scnF ⟨0, os, []⟩ (D.take i)) ([] ++ entF ⟨0, os, []⟩ (D.take i)) := fun i hi => (bd_take b0 law (by omega) i (by omega)).bnd (by omega)
    have flat : ∀ {i : Nat} {d : Deed} {e : Err}, D[i]? = some d → (actF (scnF ⟨0, os, []⟩ (D.take i)) d).1 = .err e → e.Flat := fun {i d e} ed ee => actF_flat (law d (List.mem_of_getElem? ed)) (by
      have hi := (List.getElem?_eq_some_iff.mp ed).1
      have := (bds i hi).os
      omega) ee
    refine ⟨fun σ' H' => ∃ kw, KX H' ∧ LamX.Tabs TT H' ∧ kw.b = false ∧ LivO K C_Book C_LivePost H' p kw ⟨0, os, []⟩ [] un ∧ ∃ v2 v5 v7 v11 v12 v13 v14 v16, σ' = tl (some (.ref rw)) v2 (some (.ref p)) (some (.ref sc)) v5 (some (.ref dl)) v7 (some (.ref du)) (some (.ref la)) (some (.bl fa)) v11 v12 v13 v14 (some (.ref l)) v16, ?_, ?_⟩
    · have D3' := D1'.same s13
      refine ⟨_, rfl, _, rfl, p, dl, qs, D, kw, _, [], un, rfl, ⟨(B1.same s13).tabs, D3'.don.1, few, ⟨D3'.deeds, fun d hd => (law d hd).ok, L1.same s13, bds, by omega⟩⟩, hb, by have := bk.rows; omega, fun gd H4 lt ps kw' hb' t4 k4 el N4 L4 => ?_, fun i d e ed gi ee H4 t kw' hb' t4 k4 tt L4 => ?_⟩
      · have k14 : KX H4 := fun b u e n m => k4 _ _ (k13 _ _ e n m) n m
        rcases eF with ⟨_, _, i, d, e, ed, _, ee, _⟩ | ⟨hfa, hS', _, _⟩
        · exact (once_not gd ed ee).elim
        · rcases eT with ⟨h, _⟩ | ⟨_, lt', ps', rfl, el', N'⟩
          · rw [hfa] at h; cases h
          have hp3 := s13 _ _ hp1
          have kl34 : ∀ {b : Addr} {u : HO}, H3 b = some u → (∀ C dx fs, u ≠ .ins C dx fs) → (∀ ps, u ≠ .tbl ps) → H4 b = some u := fun {b u} e n m => k4 _ _ e (fun w => by rw [w, hp3] at e; exact n _ _ _ (Option.some.inj e).symm) m
          rw [← hS'] at N4
          have dk := numD_dk (pickR_addr (b := true) okS.addr (n := S'.rows.length)) (Nat.le_trans (pickR_len _) (by omega))
          refine ⟨_, rfl, .ref lt, .ref lt', _, rfl, .lst (SqL.of el) (num_dp N4), .lst (SqL.of (kl34 el' (fun _ _ _ z => by cases z) (fun _ z => by cases z))) (num_dp (N'.keep fun b u e y => kl34 e (fun _ _ _ z => by rw [z] at y; cases y) (fun _ z => by rw [z] at y; cases y))), dk.lay, Nat.le_trans dk.dep (by decide), dk.sm, fun H5 s5 => ⟨_, rfl, iteF ?_⟩⟩
          have k15 : KX H5 := fun b u e n m => s5 _ _ (k14 _ _ e n m)
          have t5 := t4.ext s5
          have L5 := L4.same s5
          refine ⟨_, rfl, _, rfl, p, sc, _, kw', _, _, _, rfl, L5, (BX k15 t5).scn, b0.ok, by show 0 < 1000; decide, fun H6 s6 => ⟨_, rfl, iteF ?_⟩⟩
          exact ⟨kw', fun b u e n m => s6 _ _ (k15 _ _ e n m), t5.ext s6, hb', L5.same s6, _, _, _, _, _, _, _, _, rfl⟩
      · have k14 : KX H4 := fun b u e n m => k4 _ _ (k13 _ _ e n m) n m
        rcases eF with ⟨hfa, _, i', d', e', ed', gi', ee', tt'⟩ | ⟨_, _, gd, _⟩
        · rcases eT with ⟨_, rfl⟩ | ⟨h, _⟩
          · have fl := flat ed ee
            cases once_uniq ed gi ee ed' gi' ee'
            have dk := errD_dk fl
            refine ⟨_, rfl, .ref t, .ref du, _, rfl, told_dp tt fl, told_dp (tt'.kl fun e n m => klX k14 e n m) fl, dk.lay, dk.dep, dk.sm, fun H5 s5 => ⟨_, rfl, iteF ?_⟩⟩
            have k15 : KX H5 := fun b u e n m => s5 _ _ (k14 _ _ e n m)
            have t5 := t4.ext s5
            have L5 := L4.same s5
            refine ⟨_, rfl, _, rfl, p, sc, _, kw', _, _, _, rfl, L5, (BX k15 t5).scn, b0.ok, by show 0 < 1000; decide, fun H6 s6 => ⟨_, rfl, iteF ?_⟩⟩
            exact ⟨kw', fun b u e n m => s6 _ _ (k15 _ _ e n m), t5.ext s6, hb', L5.same s6, _, _, _, _, _, _, _, _, rfl⟩
          · rw [hfa] at h; cases h
        · exact (once_not gd ed ee).elim
    clear eT hb s23 s13 s12 k13 L1 eln
    rintro σ H2 ⟨kw, k12, t2, hb, L2', w2, w5, w7, w11, w12, w13, w14, w16, rfl⟩
    refine ⟨fun σ' H' => ∃ S dn, KX H' ∧ LamX.Tabs TT H' ∧ LivO K C_Book C_LivePost H' p kw S dn (if fa = false ∧ D ≠ [] then [] else un) ∧ dn.length < 1000 ∧ ∃ v2 v4 v5 v7 v8 v9 v11 v12 v13 v14 v15 v16, σ' = tl (some (.ref rw)) v2 (some (.ref p)) v4 v5 (some (.ref dl)) v7 v8 v9 (some (.bl fa)) v11 v12 v13 v14 v15 v16, ?_, ?_⟩
    · have D2' := DX k12
      refine ⟨_, rfl, _, rfl, p, dl, qs, D, kw, _, [], un, rfl, ⟨t2, D2'.don.1, few, ⟨D2'.deeds, fun d hd => (law d hd).ok, L2', bds, by omega⟩⟩, fun gd H4 lt vs t4 k4 el Rv L4 => ?_, fun i d e ed gi ee H4 t t4 k4 tt L4 => ?_⟩
      · have k14 : KX H4 := fun b u e n m => k4 _ _ (k12 _ _ e n m) n m
        rcases eF with ⟨_, _, i, d, e, ed, _, ee, _⟩ | ⟨hfa, hS', _, vs', edu, _, Rd⟩
        · exact (once_not gd ed ee).elim
        · have few2 := resF_few b0 law (by omega)
          have dk : DK 3 (.list ((resF ⟨0, os, []⟩ D).map dueD)) := .list (DK.map fun r hr => resG_dk (gd r hr) (few2 r hr)) (by rw [List.length_map, resF_len]; omega)
          have Rd4 : PySem.Paired (fun v r => Dp K H4 v (dueD r)) vs' (resF ⟨0, os, []⟩ D) := by
            refine pairMem Rd fun v r hr h => due_dp (h.kl fun e n m => klX k14 e n m) fun e he => ?_
            have := gd r hr
            rw [he] at this
            cases this
          refine ⟨_, rfl, .ref lt, .ref du, _, rfl, .lst (SqL.of el) (dpPair Rv), .lst (SqL.of (klX k14 edu (fun _ _ _ z => by cases z) (fun _ z => by cases z))) (dpPair Rd4), dk.lay, dk.dep, dk.sm, fun H5 s5 => ⟨_, rfl, iteF ?_⟩⟩
          have k15 : KX H5 := fun b u e n m => s5 _ _ (k14 _ _ e n m)
          have t5 := t4.ext s5
          have L5 := L4.same s5
          have W5 := WX k15
          rw [hS'] at W5
          refine ⟨_, rfl, _, rfl, p, la, _, kw, _, _, _, rfl, L5, W5, bk.ok, by have := bk.rows; omega, fun H6 s6 => ⟨_, rfl, iteF ?_⟩⟩
          have eu : (if fa = false ∧ D ≠ [] then [] else un) = (if D = [] then un else []) := by
            rw [hfa]
            by_cases c : D = []
            · rw [if_neg (fun z => z.2 c), if_pos c]
            · rw [if_pos ⟨rfl, c⟩, if_neg c]
          rw [← eu] at L5
          exact ⟨_, _, fun b u e n m => s6 _ _ (k15 _ _ e n m), t5.ext s6, L5.same s6, by rw [List.nil_append, entF_len]; omega, _, _, _, _, _, _, _, _, _, _, _, _, rfl⟩
      · have k14 : KX H4 := fun b u e n m => k4 _ _ (k12 _ _ e n m) n m
        rcases eF with ⟨hfa, hS', i', d', e', ed', gi', ee', tt'⟩ | ⟨_, _, gd, _⟩
        · have fl := flat ed ee
          cases once_uniq ed gi ee ed' gi' ee'
          have dk := errD_dk fl
          refine ⟨_, rfl, .ref t, .ref du, _, rfl, told_dp tt fl, told_dp (tt'.kl fun e n m => klX k14 e n m) fl, dk.lay, dk.dep, dk.sm, fun H5 s5 => ⟨_, rfl, iteF ?_⟩⟩
          have k15 : KX H5 := fun b u e n m => s5 _ _ (k14 _ _ e n m)
          have t5 := t4.ext s5
          have L5 := L4.same s5
          have W5 := WX k15
          rw [hS'] at W5
          refine ⟨_, rfl, _, rfl, p, la, _, kw, _, _, _, rfl, L5, W5, b0.ok, by show 0 < 1000; decide, fun H6 s6 => ⟨_, rfl, iteF ?_⟩⟩
          have eu : (if fa = false ∧ D ≠ [] then [] else un) = un := if_neg fun z => by rw [hfa] at z; cases z.1
          rw [← eu] at L5
          exact ⟨_, _, fun b u e n m => s6 _ _ (k15 _ _ e n m), t5.ext s6, L5.same s6, by show 0 < 1000; decide, _, _, _, _, _, _, _, _, _, _, _, _, rfl⟩
        · exact (once_not gd ed ee).elim
    clear eF L2' k12 t2 hb
    rintro σ H2 ⟨S, dn, k12, t2, L2', dn1, w2, w4, w5, w7, w8, w9, w11, w12, w13, w14, w15, w16, rfl⟩
    have B2 := BX k12 t2
    have D2' := DX k12
    obtain ⟨dx, u1, u2, u3, hp2⟩ := L2'.ins
    have lu : (if fa = false ∧ D ≠ [] then [] else un).length < 1000 := by
      split
      · show 0 < 1000
        decide
      · rw [eun]
        show 1 < 1000
        decide
    have dkD := deeds_dk law (by omega)
    refine ⟨_, rfl, p, dx, _, rfl, hp2, rfl, p, kw, _, _, _, rfl, L2', dn1, lu, ?_, fun xs x ex H3 L3 k3 => ?_⟩
    · intro e0 H3 s3
      have c : fa = false ∧ D ≠ [] := by
        by_cases c : fa = false ∧ D ≠ []
        · exact c
        · rw [if_neg c, eun] at e0
          cases e0
      have D3' := D2'.same s3
      refine ⟨_, rfl, fa, rfl, ?_⟩
      rw [c.1]
      refine iteF ?_
      refine ⟨_, rfl, Nat.zero_le _, ?_⟩
      intro q hq
      generalize gH4 : L2.upd _ q _ = H4
      obtain ⟨s4, e4⟩ := newS hq gH4
      clear gH4
      refine ⟨.list (D.map deedD), .list [], .lst (SqL.of (s4 _ _ D3'.don.1)) (deeds_dp (D3'.same s4).deeds law), .lst (SqL.of e4) .nil, dkD.shaped (by decide), by decide +kernel, ?_⟩
      have ne : PyData.eqv (.list (D.map deedD)) (.list []) = false := by
        cases D with
        | nil => exact absurd rfl c.2
        | cons d ds => rfl
      rw [ne]
      refine ⟨rfl, false, by decide, iteF ?_⟩
      exact ⟨t2.ext (s3.trans s4), B2.row.keep (s3.trans s4), _, _, _, _, _, _, _, _, _, _, _, _, _, _, _, rfl⟩
    · have c : ¬ (fa = false ∧ D ≠ []) := fun c => by
        rw [if_pos c] at ex
        have := congrArg List.length ex
        rw [List.length_append] at this
        simp only [List.length_cons, List.length_nil] at this
        omega
      have t3 := tabs_kp t2 hp2 k3
      have B3 := B2.moved hp2 k3
      refine ⟨_, rfl, fa, rfl, ?_⟩
      cases hfa : fa with
      | true =>
        refine iteT ?_
        refine ⟨rfl, false, by decide, iteF ?_⟩
        exact ⟨t3, B3.row, _, _, _, _, _, _, _, _, _, _, _, _, _, _, _, rfl⟩
      | false =>
        have eD : D = [] := Classical.byContradiction fun z => c ⟨hfa, z⟩
        have D3' := D2'.but hp2 (H' := H3) (fun b u e n _ => k3 b u e n)
        have q0 : qs = [] := List.length_eq_zero_iff.mp (by rw [PySem.Paired.length D3'.deeds, eD]; rfl)
        refine iteF ?_
        refine ⟨_, rfl, Nat.zero_le _, ?_⟩
        intro q hq
        generalize gH4 : L2.upd _ q _ = H4
        obtain ⟨s4, e4⟩ := newS hq gH4
        clear gH4
        have e3 : H4 dl = some (.lst []) := by
          have := s4 _ _ D3'.don.1
          rw [q0] at this
          exact this
        refine ⟨.list [], .list [], .lst (SqL.of e3) .nil, .lst (SqL.of e4) .nil, by decide +kernel, by decide +kernel, ?_⟩
        rw [show PyData.eqv (.list []) (.list []) = true from by decide +kernel]
        refine ⟨rfl, false, by decide, iteF ?_⟩
        exact ⟨t3.ext s4, B3.row.keep s4, _, _, _, _, _, _, _, _, _, _, _, _, _, _, _, rfl⟩
end

end MF
set_option Elab.async false
set_option linter.all false
set_option maxRecDepth 100000
set_option maxHeartbeats 2000000
set_option pp.maxSteps 600
namespace MF
open PySem PySem.Spec PyProof.Rows L2 StX
theorem all_mk {l : PySem.W.OpenLaw} {w : World} {K : PySem.W.Frag} {h : Heap} {mg : Str → Option Value} {fa C_Book C_LivePost C_MailError C_InvalidOperation C_InvalidOrder C_UnknownOrder C_NotHolding C_DecodeError C_NotationError C_UnknownLetter C_InvalidAddress C_InvalidDay C_InvalidNumber C_Contradiction C_InvalidCount cL_q52 PL_q52 cL_q53 PL_q53 cL_q55 PL_q55 f_q0 f_q1 f_q2 f_q3 f_q4 f_q5 p_q5 f_q6 f_q7 f_q8 f_q9 f_q10 f_q11 f_q12 f_q13 f_q14 f_q15 p_q15 f_q16 p_q16 f_q17 p_q17 f_q18 p_q18 f_q19 p_q19 f_q20 f_q21 f_q22 f_q23 f_q24 f_q25 f_q26 f_q27 f_q28 f_q29 f_q30 f_q31 f_q32 f_q33 f_q34 f_q35 f_q36 f_q37 f_q38 f_q39 f_q40 f_q41 f_q42 f_q43 f_q44 f_q45 f_q46 f_q47 f_q48 f_q49 f_q50 f_q51 f_q52 f_q53 f_q54 f_q55 dA : Addr} (X : K.In h) (G : h.Ns mainGlobals mg) (hfa : mg "law" = some (.ref fa))
    {odq0 anq0 odq1 anq1 odq2 anq2 odq3 anq3 odq4 anq4 odq5 anq5 odq6 anq6 odq7 anq7 odq8 anq8 odq9 anq9 odq10 anq10 odq11 anq11 odq12 anq12 odq13 anq13 odq14 anq14 odq15 anq15 odq16 anq16 odq17 anq17 odq18 anq18 odq19 anq19 odq20 anq20 odq21 anq21 odq22 anq22 odq23 anq23 odq24 anq24 odq25 anq25 odq26 anq26 odq27 anq27 odq28 anq28 odq29 anq29 odq30 anq30 odq31 anq31 odq32 anq32 odq33 anq33 odq34 anq34 odq35 anq35 odq36 anq36 odq37 anq37 odq38 anq38 odq39 anq39 odq40 anq40 odq41 anq41 odq42 anq42 odq43 anq43 odq44 anq44 odq45 anq45 odq46 anq46 odq47 anq47 odq48 anq48 odq49 anq49 odq50 anq50 odq51 anq51 odq52 anq52 odq53 anq53 odq54 anq54 odq55 anq55 : Option Addr} {slq0 slq1 slq2 slq3 slq4 slq5 slq6 slq7 slq8 slq9 slq10 slq11 slq12 slq13 slq14 slq15 slq16 slq17 slq18 slq19 slq20 slq21 slq22 slq23 slq24 slq25 slq26 slq27 slq28 slq29 slq30 slq31 slq32 slq33 slq34 slq35 slq36 slq37 slq38 slq39 slq40 slq41 slq42 slq43 slq44 slq45 slq46 slq47 slq48 slq49 slq50 slq51 slq52 slq53 slq54 slq55 : Array (Option Value)} {ocq0 kVq0 dcq0 pmq0 cdq0 ctq0 ocq1 kVq1 dcq1 pmq1 cdq1 ctq1 ocq2 kVq2 dcq2 pmq2 cdq2 ctq2 ocq3 kVq3 dcq3 pmq3 cdq3 ctq3 ocq4 kVq4 dcq4 pmq4 cdq4 ctq4 ocq5 kVq5 dcq5 pmq5 cdq5 ctq5 ocq6 kVq6 dcq6 pmq6 cdq6 ctq6 ocq7 kVq7 dcq7 pmq7 cdq7 ctq7 ocq8 kVq8 dcq8 pmq8 cdq8 ctq8 ocq9 kVq9 dcq9 pmq9 cdq9 ctq9 ocq10 kVq10 dcq10 pmq10 cdq10 ctq10 ocq11 kVq11 dcq11 pmq11 cdq11 ctq11 ocq12 kVq12 dcq12 pmq12 cdq12 ctq12 ocq13 kVq13 dcq13 pmq13 cdq13 ctq13 ocq14 kVq14 dcq14 pmq14 cdq14 ctq14 ocq15 kVq15 dcq15 pmq15 cdq15 ctq15 mc_q15 ocq16 kVq16 dcq16 pmq16 cdq16 ctq16 ocq17 kVq17 dcq17 pmq17 cdq17 ctq17 ocq18 kVq18 dcq18 pmq18 cdq18 ctq18 ocq19 kVq19 dcq19 pmq19 cdq19 ctq19 ocq20 kVq20 dcq20 pmq20 cdq20 ctq20 ocq21 kVq21 dcq21 pmq21 cdq21 ctq21 ocq22 kVq22 dcq22 pmq22 cdq22 ctq22 ocq23 kVq23 dcq23 pmq23 cdq23 ctq23 ocq24 kVq24 dcq24 pmq24 cdq24 ctq24 ocq25 kVq25 dcq25 pmq25 cdq25 ctq25 ocq26 kVq26 dcq26 pmq26 cdq26 ctq26 ocq27 kVq27 dcq27 pmq27 cdq27 ctq27 ocq28 kVq28 dcq28 pmq28 cdq28 ctq28 ocq29 kVq29 dcq29 pmq29 cdq29 ctq29 ocq30 kVq30 dcq30 pmq30 cdq30 ctq30 ocq31 kVq31 dcq31 pmq31 cdq31 ctq31 ocq32 kVq32 dcq32 pmq32 cdq32 ctq32 ocq33 kVq33 dcq33 pmq33 cdq33 ctq33 ocq34 kVq34 dcq34 pmq34 cdq34 ctq34 ocq35 kVq35 dcq35 pmq35 cdq35 ctq35 ocq36 kVq36 dcq36 pmq36 cdq36 ctq36 ocq37 kVq37 dcq37 pmq37 cdq37 ctq37 ocq38 kVq38 dcq38 pmq38 cdq38 ctq38 ocq39 kVq39 dcq39 pmq39 cdq39 ctq39 ocq40 kVq40 dcq40 pmq40 cdq40 ctq40 ocq41 kVq41 dcq41 pmq41 cdq41 ctq41 ocq42 kVq42 dcq42 pmq42 cdq42 ctq42 ocq43 kVq43 dcq43 pmq43 cdq43 ctq43 ocq44 kVq44 dcq44 pmq44 cdq44 ctq44 ocq45 kVq45 dcq45 pmq45 cdq45 ctq45 ocq46 kVq46 dcq46 pmq46 cdq46 ctq46 ocq47 kVq47 dcq47 pmq47 cdq47 ctq47 ocq48 kVq48 dcq48 pmq48 cdq48 ctq48 ocq49 kVq49 dcq49 pmq49 cdq49 ctq49 ocq50 kVq50 dcq50 pmq50 cdq50 ctq50 ocq51 kVq51 dcq51 pmq51 cdq51 ctq51 ocq52 kVq52 dcq52 pmq52 ctq52 ocq53 kVq53 dcq53 pmq53 ctq53 ocq54 kVq54 dcq54 pmq54 cdq54 ctq54 ocq55 kVq55 dcq55 pmq55 ctq55 mcB : Value} {tg_0 tg_1 tg_2 tg_3 tg_4 tg_5 tA_post tA_pass_days tA_give tA_stop : Tok} {rs_q5 rs_q15 rs_q16 rs_q17 rs_q18 rs_q19 : List Value} {esA : Array DictEntry} {nA : Nat}
    (aC_Book : PySem.W.nsIn K mainGlobals "Book" = some (some (.ref C_Book)))
    (aC_LivePost : PySem.W.nsIn K mainGlobals "LivePost" = some (some (.ref C_LivePost)))
    (ge_MailError : PySem.W.nsIn K mainGlobals "MailError" = some (some (.ref C_MailError)))
    (ge_InvalidOperation : PySem.W.nsIn K mainGlobals "InvalidOperation" = some (some (.ref C_InvalidOperation)))
    (ge_InvalidOrder : PySem.W.nsIn K mainGlobals "InvalidOrder" = some (some (.ref C_InvalidOrder)))
    (ge_UnknownOrder : PySem.W.nsIn K mainGlobals "UnknownOrder" = some (some (.ref C_UnknownOrder)))
    (ge_NotHolding : PySem.W.nsIn K mainGlobals "NotHolding" = some (some (.ref C_NotHolding)))
    (ge_DecodeError : PySem.W.nsIn K mainGlobals "DecodeError" = some (some (.ref C_DecodeError)))
    (ge_NotationError : PySem.W.nsIn K mainGlobals "NotationError" = some (some (.ref C_NotationError)))
    (ge_UnknownLetter : PySem.W.nsIn K mainGlobals "UnknownLetter" = some (some (.ref C_UnknownLetter)))
    (ge_InvalidAddress : PySem.W.nsIn K mainGlobals "InvalidAddress" = some (some (.ref C_InvalidAddress)))
    (ge_InvalidDay : PySem.W.nsIn K mainGlobals "InvalidDay" = some (some (.ref C_InvalidDay)))
    (ge_InvalidNumber : PySem.W.nsIn K mainGlobals "InvalidNumber" = some (some (.ref C_InvalidNumber)))
    (ge_Contradiction : PySem.W.nsIn K mainGlobals "Contradiction" = some (some (.ref C_Contradiction)))
    (ge_InvalidCount : PySem.W.nsIn K mainGlobals "InvalidCount" = some (some (.ref C_InvalidCount)))
    (ob_InvalidOperation : oexB K C_InvalidOperation = true)
    (sa_InvalidOperation : PySem.W.findIn K (.ref C_InvalidOperation) "__setattr__" = some (some (.builtin "object.__setattr__")))
    (xs_InvalidOperation : PySem.W.subIn K (.ref C_InvalidOperation) (.type "BaseException") = some true)
    (xt_InvalidOperation : PySem.W.typeIn K (.ref C_InvalidOperation) = some (.type "type"))
    (xk_InvalidOperation : PySem.W.keepIn K (.ref C_InvalidOperation) = true)
    (ob_InvalidOrder : oexB K C_InvalidOrder = true)
    (sa_InvalidOrder : PySem.W.findIn K (.ref C_InvalidOrder) "__setattr__" = some (some (.builtin "object.__setattr__")))
    (xs_InvalidOrder : PySem.W.subIn K (.ref C_InvalidOrder) (.type "BaseException") = some true)
    (xt_InvalidOrder : PySem.W.typeIn K (.ref C_InvalidOrder) = some (.type "type"))
    (xk_InvalidOrder : PySem.W.keepIn K (.ref C_InvalidOrder) = true)
    (ob_UnknownOrder : oexB K C_UnknownOrder = true)
    (sa_UnknownOrder : PySem.W.findIn K (.ref C_UnknownOrder) "__setattr__" = some (some (.builtin "object.__setattr__")))
    (xs_UnknownOrder : PySem.W.subIn K (.ref C_UnknownOrder) (.type "BaseException") = some true)
    (xt_UnknownOrder : PySem.W.typeIn K (.ref C_UnknownOrder) = some (.type "type"))
    (xk_UnknownOrder : PySem.W.keepIn K (.ref C_UnknownOrder) = true)
    (ob_NotHolding : oexB K C_NotHolding = true)
    (sa_NotHolding : PySem.W.findIn K (.ref C_NotHolding) "__setattr__" = some (some (.builtin "object.__setattr__")))
    (xs_NotHolding : PySem.W.subIn K (.ref C_NotHolding) (.type "BaseException") = some true)
    (xt_NotHolding : PySem.W.typeIn K (.ref C_NotHolding) = some (.type "type"))
    (xk_NotHolding : PySem.W.keepIn K (.ref C_NotHolding) = true)
    (ob_UnknownLetter : oexB K C_UnknownLetter = true)
    (sa_UnknownLetter : PySem.W.findIn K (.ref C_UnknownLetter) "__setattr__" = some (some (.builtin "object.__setattr__")))
    (xs_UnknownLetter : PySem.W.subIn K (.ref C_UnknownLetter) (.type "BaseException") = some true)
    (xt_UnknownLetter : PySem.W.typeIn K (.ref C_UnknownLetter) = some (.type "type"))
    (xk_UnknownLetter : PySem.W.keepIn K (.ref C_UnknownLetter) = true)
    (aq0 : PySem.W.nsIn K mainGlobals "is_integer" = some (some (.ref f_q0)))
    (lq0 : K.lookup f_q0 = some ⟨ocq0, odq0, .func (PySem.W.fnOf "is_integer" "is_integer" (defArgs s_is_integer) (defBody s_is_integer) (defScope s_is_integer) .none kVq0 dcq0 pmq0 anq0 cdq0 ctq0), slq0⟩)
    (cq0 : PySem.W.codeIn K cdq0 "is_integer" = true)
    (kq0 : PySem.W.keepIn K (.ref f_q0) = true)
    (aq1 : PySem.W.nsIn K mainGlobals "is_address" = some (some (.ref f_q1)))
    (lq1 : K.lookup f_q1 = some ⟨ocq1, odq1, .func (PySem.W.fnOf "is_address" "is_address" (defArgs s_is_address) (defBody s_is_address) (defScope s_is_address) .none kVq1 dcq1 pmq1 anq1 cdq1 ctq1), slq1⟩)
    (cq1 : PySem.W.codeIn K cdq1 "is_address" = true)
    (kq1 : PySem.W.keepIn K (.ref f_q1) = true)
    (aq2 : PySem.W.nsIn K mainGlobals "is_order" = some (some (.ref f_q2)))
    (lq2 : K.lookup f_q2 = some ⟨ocq2, odq2, .func (PySem.W.fnOf "is_order" "is_order" (defArgs s_is_order) (defBody s_is_order) (defScope s_is_order) .none kVq2 dcq2 pmq2 anq2 cdq2 ctq2), slq2⟩)
    (cq2 : PySem.W.codeIn K cdq2 "is_order" = true)
    (kq2 : PySem.W.keepIn K (.ref f_q2) = true)
    (aq3 : PySem.W.nsIn K mainGlobals "do_overlap" = some (some (.ref f_q3)))
    (lq3 : K.lookup f_q3 = some ⟨ocq3, odq3, .func (PySem.W.fnOf "do_overlap" "do_overlap" (defArgs s_do_overlap) (defBody s_do_overlap) (defScope s_do_overlap) .none kVq3 dcq3 pmq3 anq3 cdq3 ctq3), slq3⟩)
    (cq3 : PySem.W.codeIn K cdq3 "do_overlap" = true)
    (kq3 : PySem.W.keepIn K (.ref f_q3) = true)
    (aq4 : PySem.W.findIn K (.ref C_Book) "__init__" = some (some (.ref f_q4)))
    (iq4 : PySem.W.isFn K (.ref f_q4) = true)
    (lq4 : K.lookup f_q4 = some ⟨ocq4, odq4, .func (PySem.W.fnOf "__init__" "Book.__init__" (defArgs s_BookX_initX) (defBody s_BookX_initX) (defScope s_BookX_initX) .none kVq4 dcq4 pmq4 anq4 cdq4 ctq4), slq4⟩)
    (cq4 : PySem.W.codeIn K cdq4 "Book.__init__" = true)
    (kq4 : PySem.W.keepIn K (.ref f_q4) = true)
    (aq5 : PySem.W.findIn K (.ref C_Book) "orders" = some (some (.ref p_q5)))
    (pgq5 : PySem.W.specialIn K (.ref p_q5) "__get__" = some (some (.builtin "property.__get__")))
    (ptq5 : PySem.W.takesIn K (.ref p_q5) = some true)
    (prq5 : PySem.W.recIn K p_q5 "property" = some (.ref f_q5 :: rs_q5))
    (lq5 : K.lookup f_q5 = some ⟨ocq5, odq5, .func (PySem.W.fnOf "orders" "Book.orders" (defArgs s_Book_orders) (defBody s_Book_orders) (defScope s_Book_orders) .none kVq5 dcq5 pmq5 anq5 cdq5 ctq5), slq5⟩)
    (cq5 : PySem.W.codeIn K cdq5 "Book.orders" = true)
    (kq5 : PySem.W.keepIn K (.ref f_q5) = true)
    (aq6 : PySem.W.findIn K (.ref C_Book) "__add__" = some (some (.ref f_q6)))
    (iq6 : PySem.W.isFn K (.ref f_q6) = true)
    (lq6 : K.lookup f_q6 = some ⟨ocq6, odq6, .func (PySem.W.fnOf "__add__" "Book.__add__" (defArgs s_BookX_addX) (defBody s_BookX_addX) (defScope s_BookX_addX) .none kVq6 dcq6 pmq6 anq6 cdq6 ctq6), slq6⟩)
    (cq6 : PySem.W.codeIn K cdq6 "Book.__add__" = true)
    (kq6 : PySem.W.keepIn K (.ref f_q6) = true)
    (aq7 : PySem.W.findIn K (.ref C_Book) "check_order" = some (some (.ref f_q7)))
    (iq7 : PySem.W.isFn K (.ref f_q7) = true)
    (lq7 : K.lookup f_q7 = some ⟨ocq7, odq7, .func (PySem.W.fnOf "check_order" "Book.check_order" (defArgs s_Book_check_order) (defBody s_Book_check_order) (defScope s_Book_check_order) .none kVq7 dcq7 pmq7 anq7 cdq7 ctq7), slq7⟩)
    (cq7 : PySem.W.codeIn K cdq7 "Book.check_order" = true)
    (kq7 : PySem.W.keepIn K (.ref f_q7) = true)
    (aq8 : PySem.W.findIn K (.ref C_Book) "order_for" = some (some (.ref f_q8)))
    (iq8 : PySem.W.isFn K (.ref f_q8) = true)
    (lq8 : K.lookup f_q8 = some ⟨ocq8, odq8, .func (PySem.W.fnOf "order_for" "Book.order_for" (defArgs s_Book_order_for) (defBody s_Book_order_for) (defScope s_Book_order_for) .none kVq8 dcq8 pmq8 anq8 cdq8 ctq8), slq8⟩)
    (cq8 : PySem.W.codeIn K cdq8 "Book.order_for" = true)
    (kq8 : PySem.W.keepIn K (.ref f_q8) = true)
    (aq9 : PySem.W.nsIn K mainGlobals "book_of" = some (some (.ref f_q9)))
    (lq9 : K.lookup f_q9 = some ⟨ocq9, odq9, .func (PySem.W.fnOf "book_of" "book_of" (defArgs s_book_of) (defBody s_book_of) (defScope s_book_of) .none kVq9 dcq9 pmq9 anq9 cdq9 ctq9), slq9⟩)
    (cq9 : PySem.W.codeIn K cdq9 "book_of" = true)
    (kq9 : PySem.W.keepIn K (.ref f_q9) = true)
    (aq10 : PySem.W.nsIn K mainGlobals "is_operation" = some (some (.ref f_q10)))
    (lq10 : K.lookup f_q10 = some ⟨ocq10, odq10, .func (PySem.W.fnOf "is_operation" "is_operation" (defArgs s_is_operation) (defBody s_is_operation) (defScope s_is_operation) .none kVq10 dcq10 pmq10 anq10 cdq10 ctq10), slq10⟩)
    (cq10 : PySem.W.codeIn K cdq10 "is_operation" = true)
    (kq10 : PySem.W.keepIn K (.ref f_q10) = true)
    (aq11 : PySem.W.nsIn K mainGlobals "sent_on" = some (some (.ref f_q11)))
    (lq11 : K.lookup f_q11 = some ⟨ocq11, odq11, .func (PySem.W.fnOf "sent_on" "sent_on" (defArgs s_sent_on) (defBody s_sent_on) (defScope s_sent_on) .none kVq11 dcq11 pmq11 anq11 cdq11 ctq11), slq11⟩)
    (cq11 : PySem.W.codeIn K cdq11 "sent_on" = true)
    (kq11 : PySem.W.keepIn K (.ref f_q11) = true)
    (aq12 : PySem.W.findIn K (.ref C_LivePost) "__init__" = some (some (.ref f_q12)))
    (iq12 : PySem.W.isFn K (.ref f_q12) = true)
    (lq12 : K.lookup f_q12 = some ⟨ocq12, odq12, .func (PySem.W.fnOf "__init__" "LivePost.__init__" (defArgs s_LivePostX_initX) (defBody s_LivePostX_initX) (defScope s_LivePostX_initX) .none kVq12 dcq12 pmq12 anq12 cdq12 ctq12), slq12⟩)
    (cq12 : PySem.W.codeIn K cdq12 "LivePost.__init__" = true)
    (kq12 : PySem.W.keepIn K (.ref f_q12) = true)
    (aq13 : PySem.W.findIn K (.ref C_LivePost) "__enter__" = some (some (.ref f_q13)))
    (iq13 : PySem.W.isFn K (.ref f_q13) = true)
    (lq13 : K.lookup f_q13 = some ⟨ocq13, odq13, .func (PySem.W.fnOf "__enter__" "LivePost.__enter__" (defArgs s_LivePostX_enterX) (defBody s_LivePostX_enterX) (defScope s_LivePostX_enterX) .none kVq13 dcq13 pmq13 anq13 cdq13 ctq13), slq13⟩)
    (cq13 : PySem.W.codeIn K cdq13 "LivePost.__enter__" = true)
    (kq13 : PySem.W.keepIn K (.ref f_q13) = true)
    (aq14 : PySem.W.findIn K (.ref C_LivePost) "__exit__" = some (some (.ref f_q14)))
    (iq14 : PySem.W.isFn K (.ref f_q14) = true)
    (lq14 : K.lookup f_q14 = some ⟨ocq14, odq14, .func (PySem.W.fnOf "__exit__" "LivePost.__exit__" (defArgs s_LivePostX_exitX) (defBody s_LivePostX_exitX) (defScope s_LivePostX_exitX) .none kVq14 dcq14 pmq14 anq14 cdq14 ctq14), slq14⟩)
    (cq14 : PySem.W.codeIn K cdq14 "LivePost.__exit__" = true)
    (kq14 : PySem.W.keepIn K (.ref f_q14) = true)
    (taq15 : PySem.W.typeIn K (.ref C_LivePost) = some mc_q15)
    (raq15 : PySem.W.readsIn K C_LivePost mc_q15 = true)
    (rbq15 : PySem.W.specialIn K (.ref C_LivePost) "__getattribute__" = some (some (.builtin "type.__getattribute__")))
    (aq15 : PySem.W.findCls K (.ref C_LivePost) mc_q15 "replay" = some (.get (.builtin "classmethod.__get__") (.ref p_q15) .none (.ref C_LivePost)))
    (prq15 : PySem.W.recIn K p_q15 "classmethod" = some (.ref f_q15 :: rs_q15))
    (fiq15 : PySem.W.fnIn K f_q15 = true)
    (lq15 : K.lookup f_q15 = some ⟨ocq15, odq15, .func (PySem.W.fnOf "replay" "LivePost.replay" (defArgs s_LivePost_replay) (defBody s_LivePost_replay) (defScope s_LivePost_replay) .none kVq15 dcq15 pmq15 anq15 cdq15 ctq15), slq15⟩)
    (cq15 : PySem.W.codeIn K cdq15 "LivePost.replay" = true)
    (kq15 : PySem.W.keepIn K (.ref f_q15) = true)
    (aq16 : PySem.W.findIn K (.ref C_LivePost) "today" = some (some (.ref p_q16)))
    (pgq16 : PySem.W.specialIn K (.ref p_q16) "__get__" = some (some (.builtin "property.__get__")))
    (ptq16 : PySem.W.takesIn K (.ref p_q16) = some true)
    (prq16 : PySem.W.recIn K p_q16 "property" = some (.ref f_q16 :: rs_q16))
    (lq16 : K.lookup f_q16 = some ⟨ocq16, odq16, .func (PySem.W.fnOf "today" "LivePost.today" (defArgs s_LivePost_today) (defBody s_LivePost_today) (defScope s_LivePost_today) .none kVq16 dcq16 pmq16 anq16 cdq16 ctq16), slq16⟩)
    (cq16 : PySem.W.codeIn K cdq16 "LivePost.today" = true)
    (kq16 : PySem.W.keepIn K (.ref f_q16) = true)
    (aq17 : PySem.W.findIn K (.ref C_LivePost) "present_book" = some (some (.ref p_q17)))
    (pgq17 : PySem.W.specialIn K (.ref p_q17) "__get__" = some (some (.builtin "property.__get__")))
    (ptq17 : PySem.W.takesIn K (.ref p_q17) = some true)
    (prq17 : PySem.W.recIn K p_q17 "property" = some (.ref f_q17 :: rs_q17))
    (lq17 : K.lookup f_q17 = some ⟨ocq17, odq17, .func (PySem.W.fnOf "present_book" "LivePost.present_book" (defArgs s_LivePost_present_book) (defBody s_LivePost_present_book) (defScope s_LivePost_present_book) .none kVq17 dcq17 pmq17 anq17 cdq17 ctq17), slq17⟩)
    (cq17 : PySem.W.codeIn K cdq17 "LivePost.present_book" = true)
    (kq17 : PySem.W.keepIn K (.ref f_q17) = true)
    (aq18 : PySem.W.findIn K (.ref C_LivePost) "resting" = some (some (.ref p_q18)))
    (pgq18 : PySem.W.specialIn K (.ref p_q18) "__get__" = some (some (.builtin "property.__get__")))
    (ptq18 : PySem.W.takesIn K (.ref p_q18) = some true)
    (prq18 : PySem.W.recIn K p_q18 "property" = some (.ref f_q18 :: rs_q18))
    (lq18 : K.lookup f_q18 = some ⟨ocq18, odq18, .func (PySem.W.fnOf "resting" "LivePost.resting" (defArgs s_LivePost_resting) (defBody s_LivePost_resting) (defScope s_LivePost_resting) .none kVq18 dcq18 pmq18 anq18 cdq18 ctq18), slq18⟩)
    (cq18 : PySem.W.codeIn K cdq18 "LivePost.resting" = true)
    (kq18 : PySem.W.keepIn K (.ref f_q18) = true)
    (aq19 : PySem.W.findIn K (.ref C_LivePost) "under_way" = some (some (.ref p_q19)))
    (pgq19 : PySem.W.specialIn K (.ref p_q19) "__get__" = some (some (.builtin "property.__get__")))
    (ptq19 : PySem.W.takesIn K (.ref p_q19) = some true)
    (prq19 : PySem.W.recIn K p_q19 "property" = some (.ref f_q19 :: rs_q19))
    (lq19 : K.lookup f_q19 = some ⟨ocq19, odq19, .func (PySem.W.fnOf "under_way" "LivePost.under_way" (defArgs s_LivePost_under_way) (defBody s_LivePost_under_way) (defScope s_LivePost_under_way) .none kVq19 dcq19 pmq19 anq19 cdq19 ctq19), slq19⟩)
    (cq19 : PySem.W.codeIn K cdq19 "LivePost.under_way" = true)
    (kq19 : PySem.W.keepIn K (.ref f_q19) = true)
    (aq20 : PySem.W.findIn K (.ref C_LivePost) "__len__" = some (some (.ref f_q20)))
    (iq20 : PySem.W.isFn K (.ref f_q20) = true)
    (lq20 : K.lookup f_q20 = some ⟨ocq20, odq20, .func (PySem.W.fnOf "__len__" "LivePost.__len__" (defArgs s_LivePostX_lenX) (defBody s_LivePostX_lenX) (defScope s_LivePostX_lenX) .none kVq20 dcq20 pmq20 anq20 cdq20 ctq20), slq20⟩)
    (cq20 : PySem.W.codeIn K cdq20 "LivePost.__len__" = true)
    (kq20 : PySem.W.keepIn K (.ref f_q20) = true)
    (aq21 : PySem.W.findIn K (.ref C_LivePost) "__call__" = some (some (.ref f_q21)))
    (iq21 : PySem.W.isFn K (.ref f_q21) = true)
    (lq21 : K.lookup f_q21 = some ⟨ocq21, odq21, .func (PySem.W.fnOf "__call__" "LivePost.__call__" (defArgs s_LivePostX_callX) (defBody s_LivePostX_callX) (defScope s_LivePostX_callX) .none kVq21 dcq21 pmq21 anq21 cdq21 ctq21), slq21⟩)
    (cq21 : PySem.W.codeIn K cdq21 "LivePost.__call__" = true)
    (kq21 : PySem.W.keepIn K (.ref f_q21) = true)
    (aq22 : PySem.W.findIn K (.ref C_LivePost) "enter" = some (some (.ref f_q22)))
    (iq22 : PySem.W.isFn K (.ref f_q22) = true)
    (lq22 : K.lookup f_q22 = some ⟨ocq22, odq22, .func (PySem.W.fnOf "enter" "LivePost.enter" (defArgs s_LivePost_enter) (defBody s_LivePost_enter) (defScope s_LivePost_enter) .none kVq22 dcq22 pmq22 anq22 cdq22 ctq22), slq22⟩)
    (cq22 : PySem.W.codeIn K cdq22 "LivePost.enter" = true)
    (kq22 : PySem.W.keepIn K (.ref f_q22) = true)
    (aq23 : PySem.W.findIn K (.ref C_LivePost) "post" = some (some (.ref f_q23)))
    (iq23 : PySem.W.isFn K (.ref f_q23) = true)
    (lq23 : K.lookup f_q23 = some ⟨ocq23, odq23, .func (PySem.W.fnOf "post" "LivePost.post" (defArgs s_LivePost_post) (defBody s_LivePost_post) (defScope s_LivePost_post) .none kVq23 dcq23 pmq23 anq23 cdq23 ctq23), slq23⟩)
    (cq23 : PySem.W.codeIn K cdq23 "LivePost.post" = true)
    (kq23 : PySem.W.keepIn K (.ref f_q23) = true)
    (aq24 : PySem.W.findIn K (.ref C_LivePost) "pass_days" = some (some (.ref f_q24)))
    (iq24 : PySem.W.isFn K (.ref f_q24) = true)
    (lq24 : K.lookup f_q24 = some ⟨ocq24, odq24, .func (PySem.W.fnOf "pass_days" "LivePost.pass_days" (defArgs s_LivePost_pass_days) (defBody s_LivePost_pass_days) (defScope s_LivePost_pass_days) .none kVq24 dcq24 pmq24 anq24 cdq24 ctq24), slq24⟩)
    (cq24 : PySem.W.codeIn K cdq24 "LivePost.pass_days" = true)
    (kq24 : PySem.W.keepIn K (.ref f_q24) = true)
    (aq25 : PySem.W.findIn K (.ref C_LivePost) "give" = some (some (.ref f_q25)))
    (iq25 : PySem.W.isFn K (.ref f_q25) = true)
    (lq25 : K.lookup f_q25 = some ⟨ocq25, odq25, .func (PySem.W.fnOf "give" "LivePost.give" (defArgs s_LivePost_give) (defBody s_LivePost_give) (defScope s_LivePost_give) .none kVq25 dcq25 pmq25 anq25 cdq25 ctq25), slq25⟩)
    (cq25 : PySem.W.codeIn K cdq25 "LivePost.give" = true)
    (kq25 : PySem.W.keepIn K (.ref f_q25) = true)
    (aq26 : PySem.W.findIn K (.ref C_LivePost) "stop" = some (some (.ref f_q26)))
    (iq26 : PySem.W.isFn K (.ref f_q26) = true)
    (lq26 : K.lookup f_q26 = some ⟨ocq26, odq26, .func (PySem.W.fnOf "stop" "LivePost.stop" (defArgs s_LivePost_stop) (defBody s_LivePost_stop) (defScope s_LivePost_stop) .none kVq26 dcq26 pmq26 anq26 cdq26 ctq26), slq26⟩)
    (cq26 : PySem.W.codeIn K cdq26 "LivePost.stop" = true)
    (kq26 : PySem.W.keepIn K (.ref f_q26) = true)
    (aq27 : PySem.W.findIn K (.ref C_LivePost) "undo" = some (some (.ref f_q27)))
    (iq27 : PySem.W.isFn K (.ref f_q27) = true)
    (lq27 : K.lookup f_q27 = some ⟨ocq27, odq27, .func (PySem.W.fnOf "undo" "LivePost.undo" (defArgs s_LivePost_undo) (defBody s_LivePost_undo) (defScope s_LivePost_undo) .none kVq27 dcq27 pmq27 anq27 cdq27 ctq27), slq27⟩)
    (cq27 : PySem.W.codeIn K cdq27 "LivePost.undo" = true)
    (kq27 : PySem.W.keepIn K (.ref f_q27) = true)
    (aq28 : PySem.W.findIn K (.ref C_LivePost) "redo" = some (some (.ref f_q28)))
    (iq28 : PySem.W.isFn K (.ref f_q28) = true)
    (lq28 : K.lookup f_q28 = some ⟨ocq28, odq28, .func (PySem.W.fnOf "redo" "LivePost.redo" (defArgs s_LivePost_redo) (defBody s_LivePost_redo) (defScope s_LivePost_redo) .none kVq28 dcq28 pmq28 anq28 cdq28 ctq28), slq28⟩)
    (cq28 : PySem.W.codeIn K cdq28 "LivePost.redo" = true)
    (kq28 : PySem.W.keepIn K (.ref f_q28) = true)
    (aq29 : PySem.W.findIn K (.ref C_LivePost) "execute" = some (some (.ref f_q29)))
    (iq29 : PySem.W.isFn K (.ref f_q29) = true)
    (lq29 : K.lookup f_q29 = some ⟨ocq29, odq29, .func (PySem.W.fnOf "execute" "LivePost.execute" (defArgs s_LivePost_execute) (defBody s_LivePost_execute) (defScope s_LivePost_execute) .none kVq29 dcq29 pmq29 anq29 cdq29 ctq29), slq29⟩)
    (cq29 : PySem.W.codeIn K cdq29 "LivePost.execute" = true)
    (kq29 : PySem.W.keepIn K (.ref f_q29) = true)
    (aq30 : PySem.W.findIn K (.ref C_LivePost) "apply" = some (some (.ref f_q30)))
    (iq30 : PySem.W.isFn K (.ref f_q30) = true)
    (lq30 : K.lookup f_q30 = some ⟨ocq30, odq30, .func (PySem.W.fnOf "apply" "LivePost.apply" (defArgs s_LivePost_apply) (defBody s_LivePost_apply) (defScope s_LivePost_apply) .none kVq30 dcq30 pmq30 anq30 cdq30 ctq30), slq30⟩)
    (cq30 : PySem.W.codeIn K cdq30 "LivePost.apply" = true)
    (kq30 : PySem.W.keepIn K (.ref f_q30) = true)
    (aq31 : PySem.W.findIn K (.ref C_LivePost) "resting_after" = some (some (.ref f_q31)))
    (iq31 : PySem.W.isFn K (.ref f_q31) = true)
    (lq31 : K.lookup f_q31 = some ⟨ocq31, odq31, .func (PySem.W.fnOf "resting_after" "LivePost.resting_after" (defArgs s_LivePost_resting_after) (defBody s_LivePost_resting_after) (defScope s_LivePost_resting_after) .none kVq31 dcq31 pmq31 anq31 cdq31 ctq31), slq31⟩)
    (cq31 : PySem.W.codeIn K cdq31 "LivePost.resting_after" = true)
    (kq31 : PySem.W.keepIn K (.ref f_q31) = true)
    (aq32 : PySem.W.findIn K (.ref C_InvalidOperation) "__init__" = some (some (.ref f_q32)))
    (iq32 : PySem.W.typeIn K (.ref f_q32) = some (.type "function"))
    (lq32 : K.lookup f_q32 = some ⟨ocq32, odq32, .func (PySem.W.fnOf "__init__" "InvalidOperation.__init__" (defArgs s_InvalidOperationX_initX) (defBody s_InvalidOperationX_initX) (defScope s_InvalidOperationX_initX) .none kVq32 dcq32 pmq32 anq32 cdq32 ctq32), slq32⟩)
    (cq32 : PySem.W.codeIn K cdq32 "InvalidOperation.__init__" = true)
    (kq32 : PySem.W.keepIn K (.ref f_q32) = true)
    (aq33 : PySem.W.findIn K (.ref C_InvalidOrder) "__init__" = some (some (.ref f_q33)))
    (iq33 : PySem.W.typeIn K (.ref f_q33) = some (.type "function"))
    (lq33 : K.lookup f_q33 = some ⟨ocq33, odq33, .func (PySem.W.fnOf "__init__" "InvalidOrder.__init__" (defArgs s_InvalidOrderX_initX) (defBody s_InvalidOrderX_initX) (defScope s_InvalidOrderX_initX) .none kVq33 dcq33 pmq33 anq33 cdq33 ctq33), slq33⟩)
    (cq33 : PySem.W.codeIn K cdq33 "InvalidOrder.__init__" = true)
    (kq33 : PySem.W.keepIn K (.ref f_q33) = true)
    (aq34 : PySem.W.findIn K (.ref C_UnknownOrder) "__init__" = some (some (.ref f_q34)))
    (iq34 : PySem.W.typeIn K (.ref f_q34) = some (.type "function"))
    (lq34 : K.lookup f_q34 = some ⟨ocq34, odq34, .func (PySem.W.fnOf "__init__" "UnknownOrder.__init__" (defArgs s_UnknownOrderX_initX) (defBody s_UnknownOrderX_initX) (defScope s_UnknownOrderX_initX) .none kVq34 dcq34 pmq34 anq34 cdq34 ctq34), slq34⟩)
    (cq34 : PySem.W.codeIn K cdq34 "UnknownOrder.__init__" = true)
    (kq34 : PySem.W.keepIn K (.ref f_q34) = true)
    (aq35 : PySem.W.findIn K (.ref C_NotHolding) "__init__" = some (some (.ref f_q35)))
    (iq35 : PySem.W.typeIn K (.ref f_q35) = some (.type "function"))
    (lq35 : K.lookup f_q35 = some ⟨ocq35, odq35, .func (PySem.W.fnOf "__init__" "NotHolding.__init__" (defArgs s_NotHoldingX_initX) (defBody s_NotHoldingX_initX) (defScope s_NotHoldingX_initX) .none kVq35 dcq35 pmq35 anq35 cdq35 ctq35), slq35⟩)
    (cq35 : PySem.W.codeIn K cdq35 "NotHolding.__init__" = true)
    (kq35 : PySem.W.keepIn K (.ref f_q35) = true)
    (aq36 : PySem.W.findIn K (.ref C_UnknownLetter) "__init__" = some (some (.ref f_q36)))
    (iq36 : PySem.W.typeIn K (.ref f_q36) = some (.type "function"))
    (lq36 : K.lookup f_q36 = some ⟨ocq36, odq36, .func (PySem.W.fnOf "__init__" "UnknownLetter.__init__" (defArgs s_UnknownLetterX_initX) (defBody s_UnknownLetterX_initX) (defScope s_UnknownLetterX_initX) .none kVq36 dcq36 pmq36 anq36 cdq36 ctq36), slq36⟩)
    (cq36 : PySem.W.codeIn K cdq36 "UnknownLetter.__init__" = true)
    (kq36 : PySem.W.keepIn K (.ref f_q36) = true)
    (aq37 : PySem.W.nsIn K mainGlobals "_law_dice" = some (some (.ref f_q37)))
    (lq37 : K.lookup f_q37 = some ⟨ocq37, odq37, .func (PySem.W.fnOf "_law_dice" "_law_dice" (defArgs s__law_dice) (defBody s__law_dice) (defScope s__law_dice) .none kVq37 dcq37 pmq37 anq37 cdq37 ctq37), slq37⟩)
    (cq37 : PySem.W.codeIn K cdq37 "_law_dice" = true)
    (kq37 : PySem.W.keepIn K (.ref f_q37) = true)
    (aq38 : PySem.W.nsIn K mainGlobals "_law_next" = some (some (.ref f_q38)))
    (lq38 : K.lookup f_q38 = some ⟨ocq38, odq38, .func (PySem.W.fnOf "_law_next" "_law_next" (defArgs s__law_next) (defBody s__law_next) (defScope s__law_next) .none kVq38 dcq38 pmq38 anq38 cdq38 ctq38), slq38⟩)
    (cq38 : PySem.W.codeIn K cdq38 "_law_next" = true)
    (kq38 : PySem.W.keepIn K (.ref f_q38) = true)
    (aq39 : PySem.W.nsIn K mainGlobals "_law_like" = some (some (.ref f_q39)))
    (lq39 : K.lookup f_q39 = some ⟨ocq39, odq39, .func (PySem.W.fnOf "_law_like" "_law_like" (defArgs s__law_like) (defBody s__law_like) (defScope s__law_like) .none kVq39 dcq39 pmq39 anq39 cdq39 ctq39), slq39⟩)
    (cq39 : PySem.W.codeIn K cdq39 "_law_like" = true)
    (kq39 : PySem.W.keepIn K (.ref f_q39) = true)
    (aq40 : PySem.W.nsIn K mainGlobals "_law_pick" = some (some (.ref f_q40)))
    (lq40 : K.lookup f_q40 = some ⟨ocq40, odq40, .func (PySem.W.fnOf "_law_pick" "_law_pick" (defArgs s__law_pick) (defBody s__law_pick) (defScope s__law_pick) .none kVq40 dcq40 pmq40 anq40 cdq40 ctq40), slq40⟩)
    (cq40 : PySem.W.codeIn K cdq40 "_law_pick" = true)
    (kq40 : PySem.W.keepIn K (.ref f_q40) = true)
    (aq41 : PySem.W.nsIn K mainGlobals "_law_told" = some (some (.ref f_q41)))
    (lq41 : K.lookup f_q41 = some ⟨ocq41, odq41, .func (PySem.W.fnOf "_law_told" "_law_told" (defArgs s__law_told) (defBody s__law_told) (defScope s__law_told) .none kVq41 dcq41 pmq41 anq41 cdq41 ctq41), slq41⟩)
    (cq41 : PySem.W.codeIn K cdq41 "_law_told" = true)
    (kq41 : PySem.W.keepIn K (.ref f_q41) = true)
    (aq42 : PySem.W.nsIn K mainGlobals "_law_fits" = some (some (.ref f_q42)))
    (lq42 : K.lookup f_q42 = some ⟨ocq42, odq42, .func (PySem.W.fnOf "_law_fits" "_law_fits" (defArgs s__law_fits) (defBody s__law_fits) (defScope s__law_fits) .none kVq42 dcq42 pmq42 anq42 cdq42 ctq42), slq42⟩)
    (cq42 : PySem.W.codeIn K cdq42 "_law_fits" = true)
    (kq42 : PySem.W.keepIn K (.ref f_q42) = true)
    (aq43 : PySem.W.nsIn K mainGlobals "_law_order" = some (some (.ref f_q43)))
    (lq43 : K.lookup f_q43 = some ⟨ocq43, odq43, .func (PySem.W.fnOf "_law_order" "_law_order" (defArgs s__law_order) (defBody s__law_order) (defScope s__law_order) .none kVq43 dcq43 pmq43 anq43 cdq43 ctq43), slq43⟩)
    (cq43 : PySem.W.codeIn K cdq43 "_law_order" = true)
    (kq43 : PySem.W.keepIn K (.ref f_q43) = true)
    (aq44 : PySem.W.nsIn K mainGlobals "_law_orders" = some (some (.ref f_q44)))
    (lq44 : K.lookup f_q44 = some ⟨ocq44, odq44, .func (PySem.W.fnOf "_law_orders" "_law_orders" (defArgs s__law_orders) (defBody s__law_orders) (defScope s__law_orders) .none kVq44 dcq44 pmq44 anq44 cdq44 ctq44), slq44⟩)
    (cq44 : PySem.W.codeIn K cdq44 "_law_orders" = true)
    (kq44 : PySem.W.keepIn K (.ref f_q44) = true)
    (aq45 : PySem.W.nsIn K mainGlobals "_law_made" = some (some (.ref f_q45)))
    (lq45 : K.lookup f_q45 = some ⟨ocq45, odq45, .func (PySem.W.fnOf "_law_made" "_law_made" (defArgs s__law_made) (defBody s__law_made) (defScope s__law_made) .none kVq45 dcq45 pmq45 anq45 cdq45 ctq45), slq45⟩)
    (cq45 : PySem.W.codeIn K cdq45 "_law_made" = true)
    (kq45 : PySem.W.keepIn K (.ref f_q45) = true)
    (aq46 : PySem.W.nsIn K mainGlobals "_law_now" = some (some (.ref f_q46)))
    (lq46 : K.lookup f_q46 = some ⟨ocq46, odq46, .func (PySem.W.fnOf "_law_now" "_law_now" (defArgs s__law_now) (defBody s__law_now) (defScope s__law_now) .none kVq46 dcq46 pmq46 anq46 cdq46 ctq46), slq46⟩)
    (cq46 : PySem.W.codeIn K cdq46 "_law_now" = true)
    (kq46 : PySem.W.keepIn K (.ref f_q46) = true)
    (aq47 : PySem.W.nsIn K mainGlobals "_law_sent" = some (some (.ref f_q47)))
    (lq47 : K.lookup f_q47 = some ⟨ocq47, odq47, .func (PySem.W.fnOf "_law_sent" "_law_sent" (defArgs s__law_sent) (defBody s__law_sent) (defScope s__law_sent) .none kVq47 dcq47 pmq47 anq47 cdq47 ctq47), slq47⟩)
    (cq47 : PySem.W.codeIn K cdq47 "_law_sent" = true)
    (kq47 : PySem.W.keepIn K (.ref f_q47) = true)
    (aq48 : PySem.W.nsIn K mainGlobals "_law_after" = some (some (.ref f_q48)))
    (lq48 : K.lookup f_q48 = some ⟨ocq48, odq48, .func (PySem.W.fnOf "_law_after" "_law_after" (defArgs s__law_after) (defBody s__law_after) (defScope s__law_after) .none kVq48 dcq48 pmq48 anq48 cdq48 ctq48), slq48⟩)
    (cq48 : PySem.W.codeIn K cdq48 "_law_after" = true)
    (kq48 : PySem.W.keepIn K (.ref f_q48) = true)
    (aq49 : PySem.W.nsIn K mainGlobals "_law_deed" = some (some (.ref f_q49)))
    (lq49 : K.lookup f_q49 = some ⟨ocq49, odq49, .func (PySem.W.fnOf "_law_deed" "_law_deed" (defArgs s__law_deed) (defBody s__law_deed) (defScope s__law_deed) .none kVq49 dcq49 pmq49 anq49 cdq49 ctq49), slq49⟩)
    (cq49 : PySem.W.codeIn K cdq49 "_law_deed" = true)
    (kq49 : PySem.W.keepIn K (.ref f_q49) = true)
    (aq50 : PySem.W.nsIn K mainGlobals "_law_is_error" = some (some (.ref f_q50)))
    (lq50 : K.lookup f_q50 = some ⟨ocq50, odq50, .func (PySem.W.fnOf "_law_is_error" "_law_is_error" (defArgs s__law_is_error) (defBody s__law_is_error) (defScope s__law_is_error) .none kVq50 dcq50 pmq50 anq50 cdq50 ctq50), slq50⟩)
    (cq50 : PySem.W.codeIn K cdq50 "_law_is_error" = true)
    (kq50 : PySem.W.keepIn K (.ref f_q50) = true)
    (aq51 : PySem.W.nsIn K mainGlobals "_law_at_once" = some (some (.ref f_q51)))
    (lq51 : K.lookup f_q51 = some ⟨ocq51, odq51, .func (PySem.W.fnOf "_law_at_once" "_law_at_once" (defArgs s__law_at_once) (defBody s__law_at_once) (defScope s__law_at_once) .none kVq51 dcq51 pmq51 anq51 cdq51 ctq51), slq51⟩)
    (cq51 : PySem.W.codeIn K cdq51 "_law_at_once" = true)
    (kq51 : PySem.W.keepIn K (.ref f_q51) = true)
    (aq52 : PySem.W.nsIn K mainGlobals "_law_by_apply" = some (some (.ref f_q52)))
    (lq52 : K.lookup f_q52 = some ⟨ocq52, odq52, .func (PySem.W.fnOf "_law_by_apply" "_law_by_apply" (defArgs s__law_by_apply) (defBody s__law_by_apply) (defScope s__law_by_apply) .none kVq52 dcq52 pmq52 anq52 (.ref cL_q52) ctq52), slq52⟩)
    (cq52 : PySem.W.codeIn K (.ref cL_q52) "_law_by_apply" = true)
    (kq52 : PySem.W.keepIn K (.ref f_q52) = true)
    (aq53 : PySem.W.nsIn K mainGlobals "_law_by_trial" = some (some (.ref f_q53)))
    (lq53 : K.lookup f_q53 = some ⟨ocq53, odq53, .func (PySem.W.fnOf "_law_by_trial" "_law_by_trial" (defArgs s__law_by_trial) (defBody s__law_by_trial) (defScope s__law_by_trial) .none kVq53 dcq53 pmq53 anq53 (.ref cL_q53) ctq53), slq53⟩)
    (cq53 : PySem.W.codeIn K (.ref cL_q53) "_law_by_trial" = true)
    (kq53 : PySem.W.keepIn K (.ref f_q53) = true)
    (aq54 : PySem.W.nsIn K mainGlobals "_law_stands" = some (some (.ref f_q54)))
    (lq54 : K.lookup f_q54 = some ⟨ocq54, odq54, .func (PySem.W.fnOf "_law_stands" "_law_stands" (defArgs s__law_stands) (defBody s__law_stands) (defScope s__law_stands) .none kVq54 dcq54 pmq54 anq54 cdq54 ctq54), slq54⟩)
    (cq54 : PySem.W.codeIn K cdq54 "_law_stands" = true)
    (kq54 : PySem.W.keepIn K (.ref f_q54) = true)
    (aq55 : PySem.W.nsIn K mainGlobals "law" = some (some (.ref f_q55)))
    (lq55 : K.lookup f_q55 = some ⟨ocq55, odq55, .func (PySem.W.fnOf "law" "law" (defArgs s_law) (defBody s_law) (defScope s_law) .none kVq55 dcq55 pmq55 anq55 (.ref cL_q55) ctq55), slq55⟩)
    (cq55 : PySem.W.codeIn K (.ref cL_q55) "law" = true)
    (kq55 : PySem.W.keepIn K (.ref f_q55) = true)
    (fi_q21 : PySem.W.fnIn K f_q21 = true)
    (fi_q30 : PySem.W.fnIn K f_q30 = true)
    (pg_Book : PySem.W.plainGet K C_Book Str.empty = true)
    (hd_Book : PySem.W.hasDictIn K C_Book = true)
    (po_Book : PySem.W.plainOver K C_Book = true)
    (sa_Book : PySem.W.findIn K (.ref C_Book) "__setattr__" = some (some (.builtin "object.__setattr__")))
    (mk_Book : PySem.W.makesIn K C_Book = true)
    (kc_Book : PySem.W.keepIn K (.ref C_Book) = true)
    (pg_LivePost : PySem.W.plainGet K C_LivePost Str.empty = true)
    (hd_LivePost : PySem.W.hasDictIn K C_LivePost = true)
    (po_LivePost : PySem.W.plainOver K C_LivePost = true)
    (sa_LivePost : PySem.W.findIn K (.ref C_LivePost) "__setattr__" = some (some (.builtin "object.__setattr__")))
    (mk_LivePost : PySem.W.makesIn K C_LivePost = true)
    (kc_LivePost : PySem.W.keepIn K (.ref C_LivePost) = true)
    (n_Book_listed : PySem.W.findIn K (.ref C_Book) "listed" = some none)
    (n_LivePost_scene : PySem.W.findIn K (.ref C_LivePost) "scene" = some none)
    (n_LivePost_done : PySem.W.findIn K (.ref C_LivePost) "done" = some none)
    (n_LivePost_undone : PySem.W.findIn K (.ref C_LivePost) "undone" = some none)
    (n_LivePost_is_open : PySem.W.findIn K (.ref C_LivePost) "is_open" = some none)
    (n_LivePost_kept_scene : PySem.W.findIn K (.ref C_LivePost) "kept_scene" = some none)
    (n_LivePost_kept_done : PySem.W.findIn K (.ref C_LivePost) "kept_done" = some none)
    (n_LivePost_kept_undone : PySem.W.findIn K (.ref C_LivePost) "kept_undone" = some none)
    (c_LETTERS : PySem.W.nsIn K mainGlobals "LETTERS" = some (some (.str "abcdefghijklmnopqrstuvwxyz" tg_0)))
    (c_MAX_LETTERS : PySem.W.nsIn K mainGlobals "MAX_LETTERS" = some (some (.int 8 tg_1)))
    (c_MAX_ORDERS_books : PySem.W.nsIn K mainGlobals "MAX_ORDERS_books" = some (some (.int 30 tg_2)))
    (c_MAX_DAY : PySem.W.nsIn K mainGlobals "MAX_DAY" = some (some (.int 1000000000000000000 tg_3)))
    (c_MAX_WAY : PySem.W.nsIn K mainGlobals "MAX_WAY" = some (some (.int 30 tg_4)))
    (c_MAX_PASSED : PySem.W.nsIn K mainGlobals "MAX_PASSED" = some (some (.int 400 tg_5)))
    (taB : PySem.W.typeIn K (.ref C_MailError) = some mcB)
    (raB : PySem.W.readsIn K C_MailError mcB = true)
    (rbB : PySem.W.specialIn K (.ref C_MailError) "__getattribute__" = some (some (.builtin "type.__getattribute__")))
    (fcB : PySem.W.findCls K (.ref C_MailError) mcB "__init__" = some (.val (.builtin "ValueError.__init__")))
    (xb_InvalidAddress : PySem.W.excIn K C_InvalidAddress [.type "ValueError", .type "Exception", .type "BaseException", .type "object"] "ValueError.__new__" = true)
    (xk_InvalidAddress : PySem.W.keepIn K (.ref C_InvalidAddress) = true)
    (xs_InvalidAddress : PySem.W.subIn K (.ref C_InvalidAddress) (.type "BaseException") = some true)
    (xt_InvalidAddress : PySem.W.typeIn K (.ref C_InvalidAddress) = some (.type "type"))
    (xb_InvalidNumber : PySem.W.excIn K C_InvalidNumber [.type "ValueError", .type "Exception", .type "BaseException", .type "object"] "ValueError.__new__" = true)
    (xk_InvalidNumber : PySem.W.keepIn K (.ref C_InvalidNumber) = true)
    (xs_InvalidNumber : PySem.W.subIn K (.ref C_InvalidNumber) (.type "BaseException") = some true)
    (xt_InvalidNumber : PySem.W.typeIn K (.ref C_InvalidNumber) = some (.type "type"))
    (eg_InvalidAddress : PySem.W.findIn K (.ref C_InvalidAddress) "__getattribute__" = some (some (.builtin "BaseException.__getattribute__")))
    (ek_InvalidAddress : PySem.W.findIn K (.ref C_InvalidAddress) "__getattr__" = some none)
    (es_InvalidAddress : PySem.W.subIn K (.ref C_InvalidAddress) (.type "BaseException") = some true)
    (ed_InvalidAddress : PySem.W.hasDictIn K C_InvalidAddress = true)
    (ea_InvalidAddress : PySem.W.findIn K (.ref C_InvalidAddress) "__class__" = some (some (.builtin "object.__class__")))
    (en_InvalidAddress : PySem.W.specialIn K (.builtin "object.__class__") "__get__" = some (some (.builtin "getset_descriptor.__get__")))
    (et_InvalidAddress : PySem.W.takesIn K (.builtin "object.__class__") = some true)
    (em_InvalidAddress : PySem.W.mroIn K C_InvalidAddress (.type "object") = some true)
    (ex_InvalidAddress : PySem.W.exmOne K (.ref C_InvalidAddress) (.ref C_MailError) = some true)
    (ev_InvalidAddress : PySem.W.kitOne K (.ref C_InvalidAddress) (.type "ValueError") = some true)
    (kt_InvalidAddress_InvalidOperation : PySem.W.kitOne K (.ref C_InvalidAddress) (.ref C_InvalidOperation) = some false)
    (kt_InvalidAddress_InvalidOrder : PySem.W.kitOne K (.ref C_InvalidAddress) (.ref C_InvalidOrder) = some false)
    (kt_InvalidAddress_UnknownOrder : PySem.W.kitOne K (.ref C_InvalidAddress) (.ref C_UnknownOrder) = some false)
    (kt_InvalidAddress_NotHolding : PySem.W.kitOne K (.ref C_InvalidAddress) (.ref C_NotHolding) = some false)
    (kt_InvalidAddress_DecodeError : PySem.W.kitOne K (.ref C_InvalidAddress) (.ref C_DecodeError) = some false)
    (kt_InvalidAddress_NotationError : PySem.W.kitOne K (.ref C_InvalidAddress) (.ref C_NotationError) = some false)
    (kt_InvalidAddress_UnknownLetter : PySem.W.kitOne K (.ref C_InvalidAddress) (.ref C_UnknownLetter) = some false)
    (kt_InvalidAddress_InvalidAddress : PySem.W.kitOne K (.ref C_InvalidAddress) (.ref C_InvalidAddress) = some true)
    (kt_InvalidAddress_InvalidDay : PySem.W.kitOne K (.ref C_InvalidAddress) (.ref C_InvalidDay) = some false)
    (kt_InvalidAddress_InvalidNumber : PySem.W.kitOne K (.ref C_InvalidAddress) (.ref C_InvalidNumber) = some false)
    (kt_InvalidAddress_Contradiction : PySem.W.kitOne K (.ref C_InvalidAddress) (.ref C_Contradiction) = some false)
    (kt_InvalidAddress_InvalidCount : PySem.W.kitOne K (.ref C_InvalidAddress) (.ref C_InvalidCount) = some false)
    (eg_InvalidNumber : PySem.W.findIn K (.ref C_InvalidNumber) "__getattribute__" = some (some (.builtin "BaseException.__getattribute__")))
    (ek_InvalidNumber : PySem.W.findIn K (.ref C_InvalidNumber) "__getattr__" = some none)
    (es_InvalidNumber : PySem.W.subIn K (.ref C_InvalidNumber) (.type "BaseException") = some true)
    (ed_InvalidNumber : PySem.W.hasDictIn K C_InvalidNumber = true)
    (ea_InvalidNumber : PySem.W.findIn K (.ref C_InvalidNumber) "__class__" = some (some (.builtin "object.__class__")))
    (en_InvalidNumber : PySem.W.specialIn K (.builtin "object.__class__") "__get__" = some (some (.builtin "getset_descriptor.__get__")))
    (et_InvalidNumber : PySem.W.takesIn K (.builtin "object.__class__") = some true)
    (em_InvalidNumber : PySem.W.mroIn K C_InvalidNumber (.type "object") = some true)
    (ex_InvalidNumber : PySem.W.exmOne K (.ref C_InvalidNumber) (.ref C_MailError) = some true)
    (ev_InvalidNumber : PySem.W.kitOne K (.ref C_InvalidNumber) (.type "ValueError") = some true)
    (kt_InvalidNumber_InvalidOperation : PySem.W.kitOne K (.ref C_InvalidNumber) (.ref C_InvalidOperation) = some false)
    (kt_InvalidNumber_InvalidOrder : PySem.W.kitOne K (.ref C_InvalidNumber) (.ref C_InvalidOrder) = some false)
    (kt_InvalidNumber_UnknownOrder : PySem.W.kitOne K (.ref C_InvalidNumber) (.ref C_UnknownOrder) = some false)
    (kt_InvalidNumber_NotHolding : PySem.W.kitOne K (.ref C_InvalidNumber) (.ref C_NotHolding) = some false)
    (kt_InvalidNumber_DecodeError : PySem.W.kitOne K (.ref C_InvalidNumber) (.ref C_DecodeError) = some false)
    (kt_InvalidNumber_NotationError : PySem.W.kitOne K (.ref C_InvalidNumber) (.ref C_NotationError) = some false)
    (kt_InvalidNumber_UnknownLetter : PySem.W.kitOne K (.ref C_InvalidNumber) (.ref C_UnknownLetter) = some false)
    (kt_InvalidNumber_InvalidAddress : PySem.W.kitOne K (.ref C_InvalidNumber) (.ref C_InvalidAddress) = some false)
    (kt_InvalidNumber_InvalidDay : PySem.W.kitOne K (.ref C_InvalidNumber) (.ref C_InvalidDay) = some false)
    (kt_InvalidNumber_InvalidNumber : PySem.W.kitOne K (.ref C_InvalidNumber) (.ref C_InvalidNumber) = some true)
    (kt_InvalidNumber_Contradiction : PySem.W.kitOne K (.ref C_InvalidNumber) (.ref C_Contradiction) = some false)
    (kt_InvalidNumber_InvalidCount : PySem.W.kitOne K (.ref C_InvalidNumber) (.ref C_InvalidCount) = some false)
    (eg_InvalidOperation : PySem.W.findIn K (.ref C_InvalidOperation) "__getattribute__" = some (some (.builtin "BaseException.__getattribute__")))
    (ek_InvalidOperation : PySem.W.findIn K (.ref C_InvalidOperation) "__getattr__" = some none)
    (es_InvalidOperation : PySem.W.subIn K (.ref C_InvalidOperation) (.type "BaseException") = some true)
    (ed_InvalidOperation : PySem.W.hasDictIn K C_InvalidOperation = true)
    (ea_InvalidOperation : PySem.W.findIn K (.ref C_InvalidOperation) "__class__" = some (some (.builtin "object.__class__")))
    (en_InvalidOperation : PySem.W.specialIn K (.builtin "object.__class__") "__get__" = some (some (.builtin "getset_descriptor.__get__")))
    (et_InvalidOperation : PySem.W.takesIn K (.builtin "object.__class__") = some true)
    (em_InvalidOperation : PySem.W.mroIn K C_InvalidOperation (.type "object") = some true)
    (ex_InvalidOperation : PySem.W.exmOne K (.ref C_InvalidOperation) (.ref C_MailError) = some true)
    (ev_InvalidOperation : PySem.W.kitOne K (.ref C_InvalidOperation) (.type "ValueError") = some true)
    (kt_InvalidOperation_InvalidOperation : PySem.W.kitOne K (.ref C_InvalidOperation) (.ref C_InvalidOperation) = some true)
    (kt_InvalidOperation_InvalidOrder : PySem.W.kitOne K (.ref C_InvalidOperation) (.ref C_InvalidOrder) = some false)
    (kt_InvalidOperation_UnknownOrder : PySem.W.kitOne K (.ref C_InvalidOperation) (.ref C_UnknownOrder) = some false)
    (kt_InvalidOperation_NotHolding : PySem.W.kitOne K (.ref C_InvalidOperation) (.ref C_NotHolding) = some false)
    (kt_InvalidOperation_DecodeError : PySem.W.kitOne K (.ref C_InvalidOperation) (.ref C_DecodeError) = some false)
    (kt_InvalidOperation_NotationError : PySem.W.kitOne K (.ref C_InvalidOperation) (.ref C_NotationError) = some false)
    (kt_InvalidOperation_UnknownLetter : PySem.W.kitOne K (.ref C_InvalidOperation) (.ref C_UnknownLetter) = some false)
    (kt_InvalidOperation_InvalidAddress : PySem.W.kitOne K (.ref C_InvalidOperation) (.ref C_InvalidAddress) = some false)
    (kt_InvalidOperation_InvalidDay : PySem.W.kitOne K (.ref C_InvalidOperation) (.ref C_InvalidDay) = some false)
    (kt_InvalidOperation_InvalidNumber : PySem.W.kitOne K (.ref C_InvalidOperation) (.ref C_InvalidNumber) = some false)
    (kt_InvalidOperation_Contradiction : PySem.W.kitOne K (.ref C_InvalidOperation) (.ref C_Contradiction) = some false)
    (kt_InvalidOperation_InvalidCount : PySem.W.kitOne K (.ref C_InvalidOperation) (.ref C_InvalidCount) = some false)
    (eg_InvalidOrder : PySem.W.findIn K (.ref C_InvalidOrder) "__getattribute__" = some (some (.builtin "BaseException.__getattribute__")))
    (ek_InvalidOrder : PySem.W.findIn K (.ref C_InvalidOrder) "__getattr__" = some none)
    (es_InvalidOrder : PySem.W.subIn K (.ref C_InvalidOrder) (.type "BaseException") = some true)
    (ed_InvalidOrder : PySem.W.hasDictIn K C_InvalidOrder = true)
    (ea_InvalidOrder : PySem.W.findIn K (.ref C_InvalidOrder) "__class__" = some (some (.builtin "object.__class__")))
    (en_InvalidOrder : PySem.W.specialIn K (.builtin "object.__class__") "__get__" = some (some (.builtin "getset_descriptor.__get__")))
    (et_InvalidOrder : PySem.W.takesIn K (.builtin "object.__class__") = some true)
    (em_InvalidOrder : PySem.W.mroIn K C_InvalidOrder (.type "object") = some true)
    (ex_InvalidOrder : PySem.W.exmOne K (.ref C_InvalidOrder) (.ref C_MailError) = some true)
    (ev_InvalidOrder : PySem.W.kitOne K (.ref C_InvalidOrder) (.type "ValueError") = some true)
    (kt_InvalidOrder_InvalidOperation : PySem.W.kitOne K (.ref C_InvalidOrder) (.ref C_InvalidOperation) = some false)
    (kt_InvalidOrder_InvalidOrder : PySem.W.kitOne K (.ref C_InvalidOrder) (.ref C_InvalidOrder) = some true)
    (kt_InvalidOrder_UnknownOrder : PySem.W.kitOne K (.ref C_InvalidOrder) (.ref C_UnknownOrder) = some false)
    (kt_InvalidOrder_NotHolding : PySem.W.kitOne K (.ref C_InvalidOrder) (.ref C_NotHolding) = some false)
    (kt_InvalidOrder_DecodeError : PySem.W.kitOne K (.ref C_InvalidOrder) (.ref C_DecodeError) = some false)
    (kt_InvalidOrder_NotationError : PySem.W.kitOne K (.ref C_InvalidOrder) (.ref C_NotationError) = some false)
    (kt_InvalidOrder_UnknownLetter : PySem.W.kitOne K (.ref C_InvalidOrder) (.ref C_UnknownLetter) = some false)
    (kt_InvalidOrder_InvalidAddress : PySem.W.kitOne K (.ref C_InvalidOrder) (.ref C_InvalidAddress) = some false)
    (kt_InvalidOrder_InvalidDay : PySem.W.kitOne K (.ref C_InvalidOrder) (.ref C_InvalidDay) = some false)
    (kt_InvalidOrder_InvalidNumber : PySem.W.kitOne K (.ref C_InvalidOrder) (.ref C_InvalidNumber) = some false)
    (kt_InvalidOrder_Contradiction : PySem.W.kitOne K (.ref C_InvalidOrder) (.ref C_Contradiction) = some false)
    (kt_InvalidOrder_InvalidCount : PySem.W.kitOne K (.ref C_InvalidOrder) (.ref C_InvalidCount) = some false)
    (eg_UnknownOrder : PySem.W.findIn K (.ref C_UnknownOrder) "__getattribute__" = some (some (.builtin "BaseException.__getattribute__")))
    (ek_UnknownOrder : PySem.W.findIn K (.ref C_UnknownOrder) "__getattr__" = some none)
    (es_UnknownOrder : PySem.W.subIn K (.ref C_UnknownOrder) (.type "BaseException") = some true)
    (ed_UnknownOrder : PySem.W.hasDictIn K C_UnknownOrder = true)
    (ea_UnknownOrder : PySem.W.findIn K (.ref C_UnknownOrder) "__class__" = some (some (.builtin "object.__class__")))
    (en_UnknownOrder : PySem.W.specialIn K (.builtin "object.__class__") "__get__" = some (some (.builtin "getset_descriptor.__get__")))
    (et_UnknownOrder : PySem.W.takesIn K (.builtin "object.__class__") = some true)
    (em_UnknownOrder : PySem.W.mroIn K C_UnknownOrder (.type "object") = some true)
    (ex_UnknownOrder : PySem.W.exmOne K (.ref C_UnknownOrder) (.ref C_MailError) = some true)
    (ev_UnknownOrder : PySem.W.kitOne K (.ref C_UnknownOrder) (.type "ValueError") = some true)
    (kt_UnknownOrder_InvalidOperation : PySem.W.kitOne K (.ref C_UnknownOrder) (.ref C_InvalidOperation) = some false)
    (kt_UnknownOrder_InvalidOrder : PySem.W.kitOne K (.ref C_UnknownOrder) (.ref C_InvalidOrder) = some false)
    (kt_UnknownOrder_UnknownOrder : PySem.W.kitOne K (.ref C_UnknownOrder) (.ref C_UnknownOrder) = some true)
    (kt_UnknownOrder_NotHolding : PySem.W.kitOne K (.ref C_UnknownOrder) (.ref C_NotHolding) = some false)
    (kt_UnknownOrder_DecodeError : PySem.W.kitOne K (.ref C_UnknownOrder) (.ref C_DecodeError) = some false)
    (kt_UnknownOrder_NotationError : PySem.W.kitOne K (.ref C_UnknownOrder) (.ref C_NotationError) = some false)
    (kt_UnknownOrder_UnknownLetter : PySem.W.kitOne K (.ref C_UnknownOrder) (.ref C_UnknownLetter) = some false)
    (kt_UnknownOrder_InvalidAddress : PySem.W.kitOne K (.ref C_UnknownOrder) (.ref C_InvalidAddress) = some false)
    (kt_UnknownOrder_InvalidDay : PySem.W.kitOne K (.ref C_UnknownOrder) (.ref C_InvalidDay) = some false)
    (kt_UnknownOrder_InvalidNumber : PySem.W.kitOne K (.ref C_UnknownOrder) (.ref C_InvalidNumber) = some false)
    (kt_UnknownOrder_Contradiction : PySem.W.kitOne K (.ref C_UnknownOrder) (.ref C_Contradiction) = some false)
    (kt_UnknownOrder_InvalidCount : PySem.W.kitOne K (.ref C_UnknownOrder) (.ref C_InvalidCount) = some false)
    (eg_NotHolding : PySem.W.findIn K (.ref C_NotHolding) "__getattribute__" = some (some (.builtin "BaseException.__getattribute__")))
    (ek_NotHolding : PySem.W.findIn K (.ref C_NotHolding) "__getattr__" = some none)
    (es_NotHolding : PySem.W.subIn K (.ref C_NotHolding) (.type "BaseException") = some true)
    (ed_NotHolding : PySem.W.hasDictIn K C_NotHolding = true)
    (ea_NotHolding : PySem.W.findIn K (.ref C_NotHolding) "__class__" = some (some (.builtin "object.__class__")))
    (en_NotHolding : PySem.W.specialIn K (.builtin "object.__class__") "__get__" = some (some (.builtin "getset_descriptor.__get__")))
    (et_NotHolding : PySem.W.takesIn K (.builtin "object.__class__") = some true)
    (em_NotHolding : PySem.W.mroIn K C_NotHolding (.type "object") = some true)
    (ex_NotHolding : PySem.W.exmOne K (.ref C_NotHolding) (.ref C_MailError) = some true)
    (ev_NotHolding : PySem.W.kitOne K (.ref C_NotHolding) (.type "ValueError") = some true)
    (kt_NotHolding_InvalidOperation : PySem.W.kitOne K (.ref C_NotHolding) (.ref C_InvalidOperation) = some false)
    (kt_NotHolding_InvalidOrder : PySem.W.kitOne K (.ref C_NotHolding) (.ref C_InvalidOrder) = some false)
    (kt_NotHolding_UnknownOrder : PySem.W.kitOne K (.ref C_NotHolding) (.ref C_UnknownOrder) = some false)
    (kt_NotHolding_NotHolding : PySem.W.kitOne K (.ref C_NotHolding) (.ref C_NotHolding) = some true)
    (kt_NotHolding_DecodeError : PySem.W.kitOne K (.ref C_NotHolding) (.ref C_DecodeError) = some false)
    (kt_NotHolding_NotationError : PySem.W.kitOne K (.ref C_NotHolding) (.ref C_NotationError) = some false)
    (kt_NotHolding_UnknownLetter : PySem.W.kitOne K (.ref C_NotHolding) (.ref C_UnknownLetter) = some false)
    (kt_NotHolding_InvalidAddress : PySem.W.kitOne K (.ref C_NotHolding) (.ref C_InvalidAddress) = some false)
    (kt_NotHolding_InvalidDay : PySem.W.kitOne K (.ref C_NotHolding) (.ref C_InvalidDay) = some false)
    (kt_NotHolding_InvalidNumber : PySem.W.kitOne K (.ref C_NotHolding) (.ref C_InvalidNumber) = some false)
    (kt_NotHolding_Contradiction : PySem.W.kitOne K (.ref C_NotHolding) (.ref C_Contradiction) = some false)
    (kt_NotHolding_InvalidCount : PySem.W.kitOne K (.ref C_NotHolding) (.ref C_InvalidCount) = some false)
    (eg_UnknownLetter : PySem.W.findIn K (.ref C_UnknownLetter) "__getattribute__" = some (some (.builtin "BaseException.__getattribute__")))
    (ek_UnknownLetter : PySem.W.findIn K (.ref C_UnknownLetter) "__getattr__" = some none)
    (es_UnknownLetter : PySem.W.subIn K (.ref C_UnknownLetter) (.type "BaseException") = some true)
    (ed_UnknownLetter : PySem.W.hasDictIn K C_UnknownLetter = true)
    (ea_UnknownLetter : PySem.W.findIn K (.ref C_UnknownLetter) "__class__" = some (some (.builtin "object.__class__")))
    (en_UnknownLetter : PySem.W.specialIn K (.builtin "object.__class__") "__get__" = some (some (.builtin "getset_descriptor.__get__")))
    (et_UnknownLetter : PySem.W.takesIn K (.builtin "object.__class__") = some true)
    (em_UnknownLetter : PySem.W.mroIn K C_UnknownLetter (.type "object") = some true)
    (ex_UnknownLetter : PySem.W.exmOne K (.ref C_UnknownLetter) (.ref C_MailError) = some true)
    (ev_UnknownLetter : PySem.W.kitOne K (.ref C_UnknownLetter) (.type "ValueError") = some true)
    (kt_UnknownLetter_InvalidOperation : PySem.W.kitOne K (.ref C_UnknownLetter) (.ref C_InvalidOperation) = some false)
    (kt_UnknownLetter_InvalidOrder : PySem.W.kitOne K (.ref C_UnknownLetter) (.ref C_InvalidOrder) = some false)
    (kt_UnknownLetter_UnknownOrder : PySem.W.kitOne K (.ref C_UnknownLetter) (.ref C_UnknownOrder) = some false)
    (kt_UnknownLetter_NotHolding : PySem.W.kitOne K (.ref C_UnknownLetter) (.ref C_NotHolding) = some false)
    (kt_UnknownLetter_DecodeError : PySem.W.kitOne K (.ref C_UnknownLetter) (.ref C_DecodeError) = some false)
    (kt_UnknownLetter_NotationError : PySem.W.kitOne K (.ref C_UnknownLetter) (.ref C_NotationError) = some false)
    (kt_UnknownLetter_UnknownLetter : PySem.W.kitOne K (.ref C_UnknownLetter) (.ref C_UnknownLetter) = some true)
    (kt_UnknownLetter_InvalidAddress : PySem.W.kitOne K (.ref C_UnknownLetter) (.ref C_InvalidAddress) = some false)
    (kt_UnknownLetter_InvalidDay : PySem.W.kitOne K (.ref C_UnknownLetter) (.ref C_InvalidDay) = some false)
    (kt_UnknownLetter_InvalidNumber : PySem.W.kitOne K (.ref C_UnknownLetter) (.ref C_InvalidNumber) = some false)
    (kt_UnknownLetter_Contradiction : PySem.W.kitOne K (.ref C_UnknownLetter) (.ref C_Contradiction) = some false)
    (kt_UnknownLetter_InvalidCount : PySem.W.kitOne K (.ref C_UnknownLetter) (.ref C_InvalidCount) = some false)
    (na_InvalidOperation : PySem.W.findIn K (.ref C_InvalidOperation) "index" = some none)
    (na_InvalidOrder : PySem.W.findIn K (.ref C_InvalidOrder) "index" = some none)
    (na_UnknownOrder : PySem.W.findIn K (.ref C_UnknownOrder) "index" = some none)
    (na_NotHolding : PySem.W.findIn K (.ref C_NotHolding) "index" = some none)
    (na_UnknownLetter_letter : PySem.W.findIn K (.ref C_UnknownLetter) "letter" = some none)
    (b_isinstance : PySem.W.nsIn K mainGlobals "isinstance" = some none)
    (b_int : PySem.W.nsIn K mainGlobals "int" = some none)
    (b_bool : PySem.W.nsIn K mainGlobals "bool" = some none)
    (b_str : PySem.W.nsIn K mainGlobals "str" = some none)
    (b_tuple : PySem.W.nsIn K mainGlobals "tuple" = some none)
    (b_list : PySem.W.nsIn K mainGlobals "list" = some none)
    (b_len : PySem.W.nsIn K mainGlobals "len" = some none)
    (b_all : PySem.W.nsIn K mainGlobals "all" = some none)
    (b_enumerate : PySem.W.nsIn K mainGlobals "enumerate" = some none)
    (b_range : PySem.W.nsIn K mainGlobals "range" = some none)
    (b_min : PySem.W.nsIn K mainGlobals "min" = some none)
    (b_max : PySem.W.nsIn K mainGlobals "max" = some none)
    (b_sorted : PySem.W.nsIn K mainGlobals "sorted" = some none)
    (b_ValueError : PySem.W.nsIn K mainGlobals "ValueError" = some none)
    (sf : PySem.W.selfFirst K C_Book = true)
    (aA : PySem.W.nsIn K mainGlobals "ARGUMENTS" = some (some (.ref dA)))
    (lA : K.lookup dA = some ⟨.type "dict", none, .dict esA nA, #[]⟩)
    (kA : PySem.W.KeysLit w.params esA.toList)
    (zA : (dA == sysModules) = false)
    (vA_post : PySem.W.nsIn K dA "post" = some (some (.int 1 tA_post)))
    (vA_pass_days : PySem.W.nsIn K dA "pass_days" = some (some (.int 1 tA_pass_days)))
    (vA_give : PySem.W.nsIn K dA "give" = some (some (.int 1 tA_give)))
    (vA_stop : PySem.W.nsIn K dA "stop" = some (some (.int 1 tA_stop)))
    (uA : PySem.W.nsIn K dA "undo" = some none)
    (hTb : ∀ P ∈ [PL_q53, PL_q52, PL_q55], h.get? P = some (PySem.W.tabObj #[]))
    (hnP_PL_q52 : K.lookup PL_q52 = none)
    (hcH_PL_q52 : PySem.W.codeHdIn K cL_q52 PL_q52 = true)
    (hnP_PL_q53 : K.lookup PL_q53 = none)
    (hcH_PL_q53 : PySem.W.codeHdIn K cL_q53 PL_q53 = true)
    (hnP_PL_q55 : K.lookup PL_q55 = none)
    (hcH_PL_q55 : PySem.W.codeHdIn K cL_q55 PL_q55 = true)
    (hne_0_1 : PL_q52 ≠ PL_q53)
    (hne_0_2 : PL_q52 ≠ PL_q55)
    (hne_1_2 : PL_q53 ≠ PL_q55) :
    LamX.LawAtS l w K CX0 15 63 "_law_script" mg fa h := by
  have e := hfa.symm.trans (PySem.W.mg_of X G aq55)
  cases e
  have Fq0 := fun_mk (st := s_is_integer) lq0 cq0 kq0
  have bq0 := Fq0.binds (ps := ["value", "low", "high"]) fun _ _ _ _ _ _ us hl => match us, hl with | [_, _, _], _ => rfl
  have Fq1 := fun_mk (st := s_is_address) lq1 cq1 kq1
  have bq1 := Fq1.binds (ps := ["value"]) fun _ _ _ _ _ _ us hl => match us, hl with | [_], _ => rfl
  have Fq2 := fun_mk (st := s_is_order) lq2 cq2 kq2
  have bq2 := Fq2.binds (ps := ["value"]) fun _ _ _ _ _ _ us hl => match us, hl with | [_], _ => rfl
  have Fq3 := fun_mk (st := s_do_overlap) lq3 cq3 kq3
  have bq3 := Fq3.binds (ps := ["one", "other"]) fun _ _ _ _ _ _ us hl => match us, hl with | [_, _], _ => rfl
  have Fq4 := fun_mk (st := s_BookX_initX) lq4 cq4 kq4
  have Fq5 := fun_mk (st := s_Book_orders) lq5 cq5 kq5
  have bq5 := Fq5.binds (ps := ["self"]) fun _ _ _ _ _ _ us hl => match us, hl with | [_], _ => rfl
  have Fq6 := fun_mk (st := s_BookX_addX) lq6 cq6 kq6
  have bq6 := Fq6.binds (ps := ["self", "other"]) fun _ _ _ _ _ _ us hl => match us, hl with | [_, _], _ => rfl
  have Fq7 := fun_mk (st := s_Book_check_order) lq7 cq7 kq7
  have bq7 := Fq7.binds (ps := ["self", "index"]) fun _ _ _ _ _ _ us hl => match us, hl with | [_, _], _ => rfl
  have Fq8 := fun_mk (st := s_Book_order_for) lq8 cq8 kq8
  have bq8 := Fq8.binds (ps := ["self", "address", "day"]) fun _ _ _ _ _ _ us hl => match us, hl with | [_, _, _], _ => rfl
  have Fq9 := fun_mk (st := s_book_of) lq9 cq9 kq9
  have bq9 := Fq9.binds (ps := ["orders"]) fun _ _ _ _ _ _ us hl => match us, hl with | [_], _ => rfl
  have Fq10 := fun_mk (st := s_is_operation) lq10 cq10 kq10
  have bq10 := Fq10.binds (ps := ["value"]) fun _ _ _ _ _ _ us hl => match us, hl with | [_], _ => rfl
  have Fq11 := fun_mk (st := s_sent_on) lq11 cq11 kq11
  have bq11 := Fq11.binds (ps := ["book", "address", "day", "today"]) fun _ _ _ _ _ _ us hl => match us, hl with | [_, _, _, _], _ => rfl
  have Fq12 := fun_mk (st := s_LivePostX_initX) lq12 cq12 kq12
  have bq12 := Fq12.binds (ps := ["self", "book"]) fun _ _ _ _ _ _ us hl => match us, hl with | [_, _], _ => rfl
  have Fq13 := fun_mk (st := s_LivePostX_enterX) lq13 cq13 kq13
  have bq13 := Fq13.binds (ps := ["self"]) fun _ _ _ _ _ _ us hl => match us, hl with | [_], _ => rfl
  have Fq14 := fun_mk (st := s_LivePostX_exitX) lq14 cq14 kq14
  have bq14 := Fq14.binds (ps := ["self", "kind", "value", "trace"]) fun _ _ _ _ _ _ us hl => match us, hl with | [_, _, _, _], _ => rfl
  have Fq15 := fun_mk (st := s_LivePost_replay) lq15 cq15 kq15
  have bq15 := Fq15.binds (ps := ["cls", "book", "operations"]) fun _ _ _ _ _ _ us hl => match us, hl with | [_, _, _], _ => rfl
  have Fq16 := fun_mk (st := s_LivePost_today) lq16 cq16 kq16
  have bq16 := Fq16.binds (ps := ["self"]) fun _ _ _ _ _ _ us hl => match us, hl with | [_], _ => rfl
  have Fq17 := fun_mk (st := s_LivePost_present_book) lq17 cq17 kq17
  have bq17 := Fq17.binds (ps := ["self"]) fun _ _ _ _ _ _ us hl => match us, hl with | [_], _ => rfl
  have Fq18 := fun_mk (st := s_LivePost_resting) lq18 cq18 kq18
  have bq18 := Fq18.binds (ps := ["self"]) fun _ _ _ _ _ _ us hl => match us, hl with | [_], _ => rfl
  have Fq19 := fun_mk (st := s_LivePost_under_way) lq19 cq19 kq19
  have bq19 := Fq19.binds (ps := ["self"]) fun _ _ _ _ _ _ us hl => match us, hl with | [_], _ => rfl
  have Fq20 := fun_mk (st := s_LivePostX_lenX) lq20 cq20 kq20
  have bq20 := Fq20.binds (ps := ["self"]) fun _ _ _ _ _ _ us hl => match us, hl with | [_], _ => rfl
  have Fq21 := fun_mk (st := s_LivePostX_callX) lq21 cq21 kq21
  have bq21 := Fq21.binds (ps := ["self", "letter"]) fun _ _ _ _ _ _ us hl => match us, hl with | [_, _], _ => rfl
  have Fq22 := fun_mk (st := s_LivePost_enter) lq22 cq22 kq22
  have bq22 := Fq22.binds (ps := ["self", "operation", "after"]) fun _ _ _ _ _ _ us hl => match us, hl with | [_, _, _], _ => rfl
  have Fq23 := fun_mk (st := s_LivePost_post) lq23 cq23 kq23
  have bq23 := Fq23.binds (ps := ["self", "address"]) fun _ _ _ _ _ _ us hl => match us, hl with | [_, _], _ => rfl
  have Fq24 := fun_mk (st := s_LivePost_pass_days) lq24 cq24 kq24
  have bq24 := Fq24.binds (ps := ["self", "count"]) fun _ _ _ _ _ _ us hl => match us, hl with | [_, _], _ => rfl
  have Fq25 := fun_mk (st := s_LivePost_give) lq25 cq25 kq25
  have bq25 := Fq25.binds (ps := ["self", "order"]) fun _ _ _ _ _ _ us hl => match us, hl with | [_, _], _ => rfl
  have Fq26 := fun_mk (st := s_LivePost_stop) lq26 cq26 kq26
  have bq26 := Fq26.binds (ps := ["self", "index"]) fun _ _ _ _ _ _ us hl => match us, hl with | [_, _], _ => rfl
  have Fq27 := fun_mk (st := s_LivePost_undo) lq27 cq27 kq27
  have bq27 := Fq27.binds (ps := ["self"]) fun _ _ _ _ _ _ us hl => match us, hl with | [_], _ => rfl
  have Fq28 := fun_mk (st := s_LivePost_redo) lq28 cq28 kq28
  have bq28 := Fq28.binds (ps := ["self"]) fun _ _ _ _ _ _ us hl => match us, hl with | [_], _ => rfl
  have Fq29 := fun_mk (st := s_LivePost_execute) lq29 cq29 kq29
  have bq29 := Fq29.binds (ps := ["self", "operation"]) fun _ _ _ _ _ _ us hl => match us, hl with | [_, _], _ => rfl
  have Fq30 := fun_mk (st := s_LivePost_apply) lq30 cq30 kq30
  have Fq31 := fun_mk (st := s_LivePost_resting_after) lq31 cq31 kq31
  have Fq32 := fun_mk (st := s_InvalidOperationX_initX) lq32 cq32 kq32
  have bq32 := Fq32.binds (ps := ["self", "index"]) fun _ _ _ _ _ _ us hl => match us, hl with | [_, _], _ => rfl
  have Fq33 := fun_mk (st := s_InvalidOrderX_initX) lq33 cq33 kq33
  have bq33 := Fq33.binds (ps := ["self", "index"]) fun _ _ _ _ _ _ us hl => match us, hl with | [_, _], _ => rfl
  have Fq34 := fun_mk (st := s_UnknownOrderX_initX) lq34 cq34 kq34
  have bq34 := Fq34.binds (ps := ["self", "index"]) fun _ _ _ _ _ _ us hl => match us, hl with | [_, _], _ => rfl
  have Fq35 := fun_mk (st := s_NotHoldingX_initX) lq35 cq35 kq35
  have bq35 := Fq35.binds (ps := ["self", "index"]) fun _ _ _ _ _ _ us hl => match us, hl with | [_, _], _ => rfl
  have Fq36 := fun_mk (st := s_UnknownLetterX_initX) lq36 cq36 kq36
  have bq36 := Fq36.binds (ps := ["self", "letter"]) fun _ _ _ _ _ _ us hl => match us, hl with | [_, _], _ => rfl
  have Fq37 := fun_mk (st := s__law_dice) lq37 cq37 kq37
  have bq37 := Fq37.binds (ps := ["_law_script"]) fun _ _ _ _ _ _ us hl => match us, hl with | [_], _ => rfl
  have Fq38 := fun_mk (st := s__law_next) lq38 cq38 kq38
  have bq38 := Fq38.binds (ps := ["_law_dice_here", "_law_many"]) fun _ _ _ _ _ _ us hl => match us, hl with | [_, _], _ => rfl
  have Fq39 := fun_mk (st := s__law_like) lq39 cq39 kq39
  have bq39 := Fq39.binds (ps := ["_law_found", "_law_due"]) fun _ _ _ _ _ _ us hl => match us, hl with | [_, _], _ => rfl
  have Fq40 := fun_mk (st := s__law_pick) lq40 cq40 kq40
  have bq40 := Fq40.binds (ps := ["_law_d", "_law_some"]) fun _ _ _ _ _ _ us hl => match us, hl with | [_, _], _ => rfl
  have Fq41 := fun_mk (st := s__law_told) lq41 cq41 kq41
  have bq41 := Fq41.binds (ps := ["_law_work"]) fun _ _ _ _ _ _ us hl => match us, hl with | [_], _ => rfl
  have Fq42 := fun_mk (st := s__law_fits) lq42 cq42 kq42
  have bq42 := Fq42.binds (ps := ["_law_orders_here", "_law_order_here"]) fun _ _ _ _ _ _ us hl => match us, hl with | [_, _], _ => rfl
  have Fq43 := fun_mk (st := s__law_order) lq43 cq43 kq43
  have bq43 := Fq43.binds (ps := ["_law_d", "_law_most"]) fun _ _ _ _ _ _ us hl => match us, hl with | [_, _], _ => rfl
  have Fq44 := fun_mk (st := s__law_orders) lq44 cq44 kq44
  have bq44 := Fq44.binds (ps := ["_law_d", "_law_many", "_law_most"]) fun _ _ _ _ _ _ us hl => match us, hl with | [_, _, _], _ => rfl
  have Fq45 := fun_mk (st := s__law_made) lq45 cq45 kq45
  have bq45 := Fq45.binds (ps := ["_law_orders_here"]) fun _ _ _ _ _ _ us hl => match us, hl with | [_], _ => rfl
  have Fq46 := fun_mk (st := s__law_now) lq46 cq46 kq46
  have bq46 := Fq46.binds (ps := ["_law_orders_here", "_law_address", "_law_day"]) fun _ _ _ _ _ _ us hl => match us, hl with | [_, _, _], _ => rfl
  have Fq47 := fun_mk (st := s__law_sent) lq47 cq47 kq47
  have bq47 := Fq47.binds (ps := ["_law_orders_here", "_law_address", "_law_day", "_law_today"]) fun _ _ _ _ _ _ us hl => match us, hl with | [_, _, _, _], _ => rfl
  have Fq48 := fun_mk (st := s__law_after) lq48 cq48 kq48
  have bq48 := Fq48.binds (ps := ["_law_scene", "_law_operation"]) fun _ _ _ _ _ _ us hl => match us, hl with | [_, _], _ => rfl
  have Fq49 := fun_mk (st := s__law_deed) lq49 cq49 kq49
  have bq49 := Fq49.binds (ps := ["_law_d", "_law_scene", "_law_odd"]) fun _ _ _ _ _ _ us hl => match us, hl with | [_, _, _], _ => rfl
  have Fq50 := fun_mk (st := s__law_is_error) lq50 cq50 kq50
  have bq50 := Fq50.binds (ps := ["_law_due"]) fun _ _ _ _ _ _ us hl => match us, hl with | [_], _ => rfl
  have Fq51 := fun_mk (st := s__law_at_once) lq51 cq51 kq51
  have bq51 := Fq51.binds (ps := ["_law_scene", "_law_deeds"]) fun _ _ _ _ _ _ us hl => match us, hl with | [_, _], _ => rfl
  have Fq52 := fun_mk (st := s__law_by_apply) lq52 cq52 kq52
  have bq52 := Fq52.binds (ps := ["_law_live", "_law_deeds"]) fun _ _ _ _ _ _ us hl => match us, hl with | [_, _], _ => rfl
  have Fq53 := fun_mk (st := s__law_by_trial) lq53 cq53 kq53
  have bq53 := Fq53.binds (ps := ["_law_live", "_law_deeds"]) fun _ _ _ _ _ _ us hl => match us, hl with | [_, _], _ => rfl
  have Fq54 := fun_mk (st := s__law_stands) lq54 cq54 kq54
  have bq54 := Fq54.binds (ps := ["_law_live", "_law_scene"]) fun _ _ _ _ _ _ us hl => match us, hl with | [_, _], _ => rfl
  have Fq55 := fun_mk (st := s_law) lq55 cq55 kq55
  have bq55 := Fq55.binds (ps := ["_law_script"]) fun _ _ _ _ _ _ us hl => match us, hl with | [_], _ => rfl
  have AG : ArgD K mg w := ⟨dA, esA, nA, PySem.W.mg_of X G aA, ⟨lA, kA, zA⟩, (fun x => match x with | .post _ => ⟨_, vA_post⟩ | .pass _ => ⟨_, vA_pass_days⟩ | .give _ => ⟨_, vA_give⟩ | .stop _ => ⟨_, vA_stop⟩), uA⟩
  have DC_q52 : GDefC K mg "_law_by_apply" s__law_by_apply ["_law_live", "_law_deeds"] cL_q52 := ⟨_, _, ⟨⟨_, _, _, _, _, _, _, _, rfl, lq52, cq52⟩⟩, PySem.W.mg_of X G aq52, bq52, kq52⟩
  have DC_q53 : GDefC K mg "_law_by_trial" s__law_by_trial ["_law_live", "_law_deeds"] cL_q53 := ⟨_, _, ⟨⟨_, _, _, _, _, _, _, _, rfl, lq53, cq53⟩⟩, PySem.W.mg_of X G aq53, bq53, kq53⟩
  have FC : FunC K "law" "law" s_law _ _ cL_q55 := ⟨⟨_, _, _, _, _, _, _, _, rfl, lq55, cq55⟩⟩
  have T : Top K mg C_Book C_LivePost C_MailError C_InvalidOperation C_InvalidOrder C_UnknownOrder C_NotHolding C_DecodeError C_NotationError C_UnknownLetter C_InvalidAddress C_InvalidDay C_InvalidNumber C_Contradiction C_InvalidCount := ⟨⟨_, _, Fq0, PySem.W.mg_of X G aq0, bq0⟩,
    ⟨_, _, Fq1, PySem.W.mg_of X G aq1, bq1⟩,
    ⟨_, _, Fq2, PySem.W.mg_of X G aq2, bq2⟩,
    ⟨_, _, Fq3, PySem.W.mg_of X G aq3, bq3⟩,
    ⟨_, _, Fq4, ⟨mk_Book, aq4, iq4, kc_Book⟩, PySem.W.mg_of X G aC_Book, bind_star1 (B := fun xs => bindArgs _ ⟨xs, []⟩) (fun _ => rfl) (fun _ _ _ => rfl)⟩,
    ⟨_, _, _, Fq5, ⟨aq5, pgq5, ptq5, ⟨_, prq5⟩⟩, bq5⟩,
    ⟨_, _, Fq6, ⟨aq6, iq6, kq6⟩, bq6⟩,
    ⟨_, _, Fq7, ⟨aq7, iq7, kq7⟩, bq7⟩,
    ⟨_, _, Fq8, ⟨aq8, iq8, kq8⟩, bq8⟩,
    ⟨_, _, Fq9, PySem.W.mg_of X G aq9, bq9⟩,
    ⟨_, _, Fq10, PySem.W.mg_of X G aq10, bq10⟩,
    ⟨_, _, Fq11, PySem.W.mg_of X G aq11, bq11⟩,
    ⟨_, _, Fq12, ⟨mk_LivePost, aq12, iq12, kc_LivePost⟩, PySem.W.mg_of X G aC_LivePost, bq12⟩,
    ⟨_, _, Fq13, ⟨aq13, iq13, kq13⟩, bq13⟩,
    ⟨_, _, Fq14, ⟨aq14, iq14, kq14⟩, bq14⟩,
    ⟨_, _, _, _, Fq15, ⟨raq15, rbq15⟩, ⟨aq15, ⟨_, prq15⟩, fiq15⟩, bq15⟩,
    ⟨_, _, _, Fq16, ⟨aq16, pgq16, ptq16, ⟨_, prq16⟩⟩, bq16⟩,
    ⟨_, _, _, Fq17, ⟨aq17, pgq17, ptq17, ⟨_, prq17⟩⟩, bq17⟩,
    ⟨_, _, _, Fq18, ⟨aq18, pgq18, ptq18, ⟨_, prq18⟩⟩, bq18⟩,
    ⟨_, _, _, Fq19, ⟨aq19, pgq19, ptq19, ⟨_, prq19⟩⟩, bq19⟩,
    ⟨_, _, Fq20, ⟨aq20, iq20, kq20⟩, bq20⟩,
    ⟨_, _, Fq21, ⟨aq21, iq21, kq21⟩, bq21⟩,
    ⟨_, _, Fq22, ⟨aq22, iq22, kq22⟩, bq22⟩,
    ⟨_, _, Fq23, ⟨aq23, iq23, kq23⟩, bq23⟩,
    ⟨_, _, Fq24, ⟨aq24, iq24, kq24⟩, bq24⟩,
    ⟨_, _, Fq25, ⟨aq25, iq25, kq25⟩, bq25⟩,
    ⟨_, _, Fq26, ⟨aq26, iq26, kq26⟩, bq26⟩,
    ⟨_, _, Fq27, ⟨aq27, iq27, kq27⟩, bq27⟩,
    ⟨_, _, Fq28, ⟨aq28, iq28, kq28⟩, bq28⟩,
    ⟨_, _, Fq29, ⟨aq29, iq29, kq29⟩, bq29⟩,
    ⟨_, _, Fq30, ⟨aq30, iq30, kq30⟩, bind_star1 (B := fun xs => bindArgs _ ⟨xs, []⟩) (fun _ => rfl) (fun _ _ _ => rfl)⟩,
    ⟨_, _, Fq31, ⟨aq31, iq31, kq31⟩, bind_star1 (B := fun xs => bindArgs _ ⟨xs, []⟩) (fun _ => rfl) (fun _ _ _ => rfl)⟩,
    ⟨⟨_, _, Fq32, aq32, iq32, bq32⟩, oex_of ob_InvalidOperation sa_InvalidOperation xs_InvalidOperation xt_InvalidOperation xk_InvalidOperation, PySem.W.mg_of X G ge_InvalidOperation⟩,
    ⟨⟨_, _, Fq33, aq33, iq33, bq33⟩, oex_of ob_InvalidOrder sa_InvalidOrder xs_InvalidOrder xt_InvalidOrder xk_InvalidOrder, PySem.W.mg_of X G ge_InvalidOrder⟩,
    ⟨⟨_, _, Fq34, aq34, iq34, bq34⟩, oex_of ob_UnknownOrder sa_UnknownOrder xs_UnknownOrder xt_UnknownOrder xk_UnknownOrder, PySem.W.mg_of X G ge_UnknownOrder⟩,
    ⟨⟨_, _, Fq35, aq35, iq35, bq35⟩, oex_of ob_NotHolding sa_NotHolding xs_NotHolding xt_NotHolding xk_NotHolding, PySem.W.mg_of X G ge_NotHolding⟩,
    ⟨⟨_, _, Fq36, aq36, iq36, bq36⟩, oex_of ob_UnknownLetter sa_UnknownLetter xs_UnknownLetter xt_UnknownLetter xk_UnknownLetter, PySem.W.mg_of X G ge_UnknownLetter⟩,
    ⟨_, _, Fq37, PySem.W.mg_of X G aq37, bq37⟩,
    ⟨_, _, Fq38, PySem.W.mg_of X G aq38, bq38⟩,
    ⟨_, _, Fq39, PySem.W.mg_of X G aq39, bq39⟩,
    ⟨_, _, Fq40, PySem.W.mg_of X G aq40, bq40⟩,
    ⟨_, _, Fq41, PySem.W.mg_of X G aq41, bq41⟩,
    ⟨_, _, Fq42, PySem.W.mg_of X G aq42, bq42⟩,
    ⟨_, _, Fq43, PySem.W.mg_of X G aq43, bq43⟩,
    ⟨_, _, Fq44, PySem.W.mg_of X G aq44, bq44⟩,
    ⟨_, _, Fq45, PySem.W.mg_of X G aq45, bq45⟩,
    ⟨_, _, Fq46, PySem.W.mg_of X G aq46, bq46⟩,
    ⟨_, _, Fq47, PySem.W.mg_of X G aq47, bq47⟩,
    ⟨_, _, Fq48, PySem.W.mg_of X G aq48, bq48⟩,
    ⟨_, _, Fq49, PySem.W.mg_of X G aq49, bq49⟩,
    ⟨_, _, Fq50, PySem.W.mg_of X G aq50, bq50⟩,
    ⟨_, _, Fq51, PySem.W.mg_of X G aq51, bq51⟩,
    ⟨_, _, Fq52, PySem.W.mg_of X G aq52, bq52⟩,
    ⟨_, _, Fq53, PySem.W.mg_of X G aq53, bq53⟩,
    ⟨_, _, Fq54, PySem.W.mg_of X G aq54, bq54⟩,
    ⟨_, _, Fq55, PySem.W.mg_of X G aq55, bq55⟩,
    ⟨pg_Book, hd_Book, po_Book, sa_Book⟩,
    ⟨pg_LivePost, hd_LivePost, po_LivePost, sa_LivePost⟩,
    fun f z => by rw [aq21] at z; cases z; exact fi_q21,
    fun f z => by rw [aq30] at z; cases z; exact fi_q30,
    n_Book_listed,
    n_LivePost_scene,
    n_LivePost_done,
    n_LivePost_undone,
    n_LivePost_is_open,
    n_LivePost_kept_scene,
    n_LivePost_kept_done,
    n_LivePost_kept_undone,
    ⟨_, PySem.W.mg_of X G c_LETTERS⟩,
    ⟨_, PySem.W.mg_of X G c_MAX_LETTERS⟩,
    ⟨_, PySem.W.mg_of X G c_MAX_ORDERS_books⟩,
    ⟨_, PySem.W.mg_of X G c_MAX_DAY⟩,
    ⟨_, PySem.W.mg_of X G c_MAX_WAY⟩,
    ⟨_, PySem.W.mg_of X G c_MAX_PASSED⟩,
    PySem.W.mg_of X G ge_MailError,
    PySem.W.mg_of X G ge_InvalidOperation,
    PySem.W.mg_of X G ge_InvalidOrder,
    PySem.W.mg_of X G ge_UnknownOrder,
    PySem.W.mg_of X G ge_NotHolding,
    PySem.W.mg_of X G ge_DecodeError,
    PySem.W.mg_of X G ge_NotationError,
    PySem.W.mg_of X G ge_UnknownLetter,
    PySem.W.mg_of X G ge_InvalidAddress,
    PySem.W.mg_of X G ge_InvalidDay,
    PySem.W.mg_of X G ge_InvalidNumber,
    PySem.W.mg_of X G ge_Contradiction,
    PySem.W.mg_of X G ge_InvalidCount,
    ⟨⟨_, ⟨raB, rbB⟩, fcB⟩⟩,
    ⟨xb_InvalidAddress, PySem.W.mg_of X G ge_InvalidAddress, xk_InvalidAddress, xs_InvalidAddress, xt_InvalidAddress⟩,
    ⟨xb_InvalidNumber, PySem.W.mg_of X G ge_InvalidNumber, xk_InvalidNumber, xs_InvalidNumber, xt_InvalidNumber⟩,
    ⟨⟨eg_InvalidAddress, ek_InvalidAddress, es_InvalidAddress, ed_InvalidAddress, ea_InvalidAddress, en_InvalidAddress, et_InvalidAddress, em_InvalidAddress⟩, ex_InvalidAddress, ev_InvalidAddress⟩,
    kt_InvalidAddress_InvalidOperation,
    kt_InvalidAddress_InvalidOrder,
    kt_InvalidAddress_UnknownOrder,
    kt_InvalidAddress_NotHolding,
    kt_InvalidAddress_DecodeError,
    kt_InvalidAddress_NotationError,
    kt_InvalidAddress_UnknownLetter,
    kt_InvalidAddress_InvalidAddress,
    kt_InvalidAddress_InvalidDay,
    kt_InvalidAddress_InvalidNumber,
    kt_InvalidAddress_Contradiction,
    kt_InvalidAddress_InvalidCount,
    ⟨⟨eg_InvalidNumber, ek_InvalidNumber, es_InvalidNumber, ed_InvalidNumber, ea_InvalidNumber, en_InvalidNumber, et_InvalidNumber, em_InvalidNumber⟩, ex_InvalidNumber, ev_InvalidNumber⟩,
    kt_InvalidNumber_InvalidOperation,
    kt_InvalidNumber_InvalidOrder,
    kt_InvalidNumber_UnknownOrder,
    kt_InvalidNumber_NotHolding,
    kt_InvalidNumber_DecodeError,
    kt_InvalidNumber_NotationError,
    kt_InvalidNumber_UnknownLetter,
    kt_InvalidNumber_InvalidAddress,
    kt_InvalidNumber_InvalidDay,
    kt_InvalidNumber_InvalidNumber,
    kt_InvalidNumber_Contradiction,
    kt_InvalidNumber_InvalidCount,
    ⟨⟨eg_InvalidOperation, ek_InvalidOperation, es_InvalidOperation, ed_InvalidOperation, ea_InvalidOperation, en_InvalidOperation, et_InvalidOperation, em_InvalidOperation⟩, ex_InvalidOperation, ev_InvalidOperation⟩,
    kt_InvalidOperation_InvalidOperation,
    kt_InvalidOperation_InvalidOrder,
    kt_InvalidOperation_UnknownOrder,
    kt_InvalidOperation_NotHolding,
    kt_InvalidOperation_DecodeError,
    kt_InvalidOperation_NotationError,
    kt_InvalidOperation_UnknownLetter,
    kt_InvalidOperation_InvalidAddress,
    kt_InvalidOperation_InvalidDay,
    kt_InvalidOperation_InvalidNumber,
    kt_InvalidOperation_Contradiction,
    kt_InvalidOperation_InvalidCount,
    ⟨⟨eg_InvalidOrder, ek_InvalidOrder, es_InvalidOrder, ed_InvalidOrder, ea_InvalidOrder, en_InvalidOrder, et_InvalidOrder, em_InvalidOrder⟩, ex_InvalidOrder, ev_InvalidOrder⟩,
    kt_InvalidOrder_InvalidOperation,
    kt_InvalidOrder_InvalidOrder,
    kt_InvalidOrder_UnknownOrder,
    kt_InvalidOrder_NotHolding,
    kt_InvalidOrder_DecodeError,
    kt_InvalidOrder_NotationError,
    kt_InvalidOrder_UnknownLetter,
    kt_InvalidOrder_InvalidAddress,
    kt_InvalidOrder_InvalidDay,
    kt_InvalidOrder_InvalidNumber,
    kt_InvalidOrder_Contradiction,
    kt_InvalidOrder_InvalidCount,
    ⟨⟨eg_UnknownOrder, ek_UnknownOrder, es_UnknownOrder, ed_UnknownOrder, ea_UnknownOrder, en_UnknownOrder, et_UnknownOrder, em_UnknownOrder⟩, ex_UnknownOrder, ev_UnknownOrder⟩,
    kt_UnknownOrder_InvalidOperation,
    kt_UnknownOrder_InvalidOrder,
    kt_UnknownOrder_UnknownOrder,
    kt_UnknownOrder_NotHolding,
    kt_UnknownOrder_DecodeError,
    kt_UnknownOrder_NotationError,
    kt_UnknownOrder_UnknownLetter,
    kt_UnknownOrder_InvalidAddress,
    kt_UnknownOrder_InvalidDay,
    kt_UnknownOrder_InvalidNumber,
    kt_UnknownOrder_Contradiction,
    kt_UnknownOrder_InvalidCount,
    ⟨⟨eg_NotHolding, ek_NotHolding, es_NotHolding, ed_NotHolding, ea_NotHolding, en_NotHolding, et_NotHolding, em_NotHolding⟩, ex_NotHolding, ev_NotHolding⟩,
    kt_NotHolding_InvalidOperation,
    kt_NotHolding_InvalidOrder,
    kt_NotHolding_UnknownOrder,
    kt_NotHolding_NotHolding,
    kt_NotHolding_DecodeError,
    kt_NotHolding_NotationError,
    kt_NotHolding_UnknownLetter,
    kt_NotHolding_InvalidAddress,
    kt_NotHolding_InvalidDay,
    kt_NotHolding_InvalidNumber,
    kt_NotHolding_Contradiction,
    kt_NotHolding_InvalidCount,
    ⟨⟨eg_UnknownLetter, ek_UnknownLetter, es_UnknownLetter, ed_UnknownLetter, ea_UnknownLetter, en_UnknownLetter, et_UnknownLetter, em_UnknownLetter⟩, ex_UnknownLetter, ev_UnknownLetter⟩,
    kt_UnknownLetter_InvalidOperation,
    kt_UnknownLetter_InvalidOrder,
    kt_UnknownLetter_UnknownOrder,
    kt_UnknownLetter_NotHolding,
    kt_UnknownLetter_DecodeError,
    kt_UnknownLetter_NotationError,
    kt_UnknownLetter_UnknownLetter,
    kt_UnknownLetter_InvalidAddress,
    kt_UnknownLetter_InvalidDay,
    kt_UnknownLetter_InvalidNumber,
    kt_UnknownLetter_Contradiction,
    kt_UnknownLetter_InvalidCount,
    na_InvalidOperation,
    na_InvalidOrder,
    na_UnknownOrder,
    na_NotHolding,
    na_UnknownLetter_letter,
    PySem.W.mg_none_of X G b_isinstance,
    PySem.W.mg_none_of X G b_int,
    PySem.W.mg_none_of X G b_bool,
    PySem.W.mg_none_of X G b_str,
    PySem.W.mg_none_of X G b_tuple,
    PySem.W.mg_none_of X G b_list,
    PySem.W.mg_none_of X G b_len,
    PySem.W.mg_none_of X G b_all,
    PySem.W.mg_none_of X G b_enumerate,
    PySem.W.mg_none_of X G b_range,
    PySem.W.mg_none_of X G b_min,
    PySem.W.mg_none_of X G b_max,
    PySem.W.mg_none_of X G b_sorted,
    PySem.W.mg_none_of X G b_ValueError⟩
  refine ⟨_, [(cL_q52, PL_q52), (cL_q53, PL_q53), (cL_q55, PL_q55)], spLawT K [PL_q52, PL_q53, PL_q55], fun p hp => (by simp only [List.mem_cons, List.not_mem_nil, or_false] at hp; rcases hp with hp | hp | hp; (rw [hp]; exact hTb PL_q52 (by simp)); (rw [hp]; exact hTb PL_q53 (by simp)); (rw [hp]; exact hTb PL_q55 (by simp))), fun p hp => (by simp only [List.mem_cons, List.not_mem_nil, or_false] at hp; rcases hp with hp | hp | hp; (rw [hp]; exact hnP_PL_q52); (rw [hp]; exact hnP_PL_q53); (rw [hp]; exact hnP_PL_q55)), fun p hp => (by simp only [List.mem_cons, List.not_mem_nil, or_false] at hp; rcases hp with hp | hp | hp; (rw [hp]; exact PySem.W.codeHd_of_K X hcH_PL_q52); (rw [hp]; exact PySem.W.codeHd_of_K X hcH_PL_q53); (rw [hp]; exact PySem.W.codeHd_of_K X hcH_PL_q55)), fun s v => ?_, fun H a ns hl hb hH hS => ⟨a, ns, rfl, hS, hl, fun p hp => (by simp only [List.mem_cons, List.not_mem_nil, or_false] at hp; rcases hp with hp | hp | hp; (rw [hp]; exact hH (cL_q52, PL_q52) (by simp)); (rw [hp]; exact hH (cL_q53, PL_q53) (by simp)); (rw [hp]; exact hH (cL_q55, PL_q55) (by simp))), fun _ => rfl⟩, fun base _ _ tb => ok_law T sf AG FC (tb (cL_q55, PL_q55) (by simp)) DC_q52 (tb (cL_q52, PL_q52) (by simp)) DC_q53 (tb (cL_q53, PL_q53) (by simp)) hne_0_1 hne_0_2 hne_1_2⟩
  exact .of_eq rfl
end MF
open PySem PySem.W PyProof.Rows
set_option maxRecDepth 100000 in
set_option maxHeartbeats 0 in
theorem PySem.Challenge.cw_mailforwards_k43_operations_at_once_holds : PySem.Challenge.rw_mailforwards_k43_operations_at_once.Holds := by
  w_on; o_law; k_head; (case hw => w_witness2)
  k_fill
  refine LamX.walk_ofTs (l := PySem.Challenge.rw_mailforwards_k43_operations_at_once) (n := 63) (k := 15) (x := "_law_script") (CX := fun _ => C8.CX0) rfl (by decide) rfl ⟨rfl, by decide, by decide⟩ (fun w h Y => PySem.W.km_in_of Y) ?F (fun _ _ _ _ _ z => z)
  case F =>
    intro w mg fa h Y KX G hmg
    refine' MF.all_mk KX G hmg ?aC_Book ?aC_LivePost ?ge_MailError ?ge_InvalidOperation ?ge_InvalidOrder ?ge_UnknownOrder ?ge_NotHolding ?ge_DecodeError ?ge_NotationError ?ge_UnknownLetter ?ge_InvalidAddress ?ge_InvalidDay ?ge_InvalidNumber ?ge_Contradiction ?ge_InvalidCount ?ob_InvalidOperation ?sa_InvalidOperation ?xs_InvalidOperation ?xt_InvalidOperation ?xk_InvalidOperation ?ob_InvalidOrder ?sa_InvalidOrder ?xs_InvalidOrder ?xt_InvalidOrder ?xk_InvalidOrder ?ob_UnknownOrder ?sa_UnknownOrder ?xs_UnknownOrder ?xt_UnknownOrder ?xk_UnknownOrder ?ob_NotHolding ?sa_NotHolding ?xs_NotHolding ?xt_NotHolding ?xk_NotHolding ?ob_UnknownLetter ?sa_UnknownLetter ?xs_UnknownLetter ?xt_UnknownLetter ?xk_UnknownLetter ?aq0 ?lq0 ?cq0 ?kq0 ?aq1 ?lq1 ?cq1 ?kq1 ?aq2 ?lq2 ?cq2 ?kq2 ?aq3 ?lq3 ?cq3 ?kq3 ?aq4 ?iq4 ?lq4 ?cq4 ?kq4 ?aq5 ?pgq5 ?ptq5 ?prq5 ?lq5 ?cq5 ?kq5 ?aq6 ?iq6 ?lq6 ?cq6 ?kq6 ?aq7 ?iq7 ?lq7 ?cq7 ?kq7 ?aq8 ?iq8 ?lq8 ?cq8 ?kq8 ?aq9 ?lq9 ?cq9 ?kq9 ?aq10 ?lq10 ?cq10 ?kq10 ?aq11 ?lq11 ?cq11 ?kq11 ?aq12 ?iq12 ?lq12 ?cq12 ?kq12 ?aq13 ?iq13 ?lq13 ?cq13 ?kq13 ?aq14 ?iq14 ?lq14 ?cq14 ?kq14 ?taq15 ?raq15 ?rbq15 ?aq15 ?prq15 ?fiq15 ?lq15 ?cq15 ?kq15 ?aq16 ?pgq16 ?ptq16 ?prq16 ?lq16 ?cq16 ?kq16 ?aq17 ?pgq17 ?ptq17 ?prq17 ?lq17 ?cq17 ?kq17 ?aq18 ?pgq18 ?ptq18 ?prq18 ?lq18 ?cq18 ?kq18 ?aq19 ?pgq19 ?ptq19 ?prq19 ?lq19 ?cq19 ?kq19 ?aq20 ?iq20 ?lq20 ?cq20 ?kq20 ?aq21 ?iq21 ?lq21 ?cq21 ?kq21 ?aq22 ?iq22 ?lq22 ?cq22 ?kq22 ?aq23 ?iq23 ?lq23 ?cq23 ?kq23 ?aq24 ?iq24 ?lq24 ?cq24 ?kq24 ?aq25 ?iq25 ?lq25 ?cq25 ?kq25 ?aq26 ?iq26 ?lq26 ?cq26 ?kq26 ?aq27 ?iq27 ?lq27 ?cq27 ?kq27 ?aq28 ?iq28 ?lq28 ?cq28 ?kq28 ?aq29 ?iq29 ?lq29 ?cq29 ?kq29 ?aq30 ?iq30 ?lq30 ?cq30 ?kq30 ?aq31 ?iq31 ?lq31 ?cq31 ?kq31 ?aq32 ?iq32 ?lq32 ?cq32 ?kq32 ?aq33 ?iq33 ?lq33 ?cq33 ?kq33 ?aq34 ?iq34 ?lq34 ?cq34 ?kq34 ?aq35 ?iq35 ?lq35 ?cq35 ?kq35 ?aq36 ?iq36 ?lq36 ?cq36 ?kq36 ?aq37 ?lq37 ?cq37 ?kq37 ?aq38 ?lq38 ?cq38 ?kq38 ?aq39 ?lq39 ?cq39 ?kq39 ?aq40 ?lq40 ?cq40 ?kq40 ?aq41 ?lq41 ?cq41 ?kq41 ?aq42 ?lq42 ?cq42 ?kq42 ?aq43 ?lq43 ?cq43 ?kq43 ?aq44 ?lq44 ?cq44 ?kq44 ?aq45 ?lq45 ?cq45 ?kq45 ?aq46 ?lq46 ?cq46 ?kq46 ?aq47 ?lq47 ?cq47 ?kq47 ?aq48 ?lq48 ?cq48 ?kq48 ?aq49 ?lq49 ?cq49 ?kq49 ?aq50 ?lq50 ?cq50 ?kq50 ?aq51 ?lq51 ?cq51 ?kq51 ?aq52 ?lq52 ?cq52 ?kq52 ?aq53 ?lq53 ?cq53 ?kq53 ?aq54 ?lq54 ?cq54 ?kq54 ?aq55 ?lq55 ?cq55 ?kq55 ?fi_q21 ?fi_q30 ?pg_Book ?hd_Book ?po_Book ?sa_Book ?mk_Book ?kc_Book ?pg_LivePost ?hd_LivePost ?po_LivePost ?sa_LivePost ?mk_LivePost ?kc_LivePost ?n_Book_listed ?n_LivePost_scene ?n_LivePost_done ?n_LivePost_undone ?n_LivePost_is_open ?n_LivePost_kept_scene ?n_LivePost_kept_done ?n_LivePost_kept_undone ?c_LETTERS ?c_MAX_LETTERS ?c_MAX_ORDERS_books ?c_MAX_DAY ?c_MAX_WAY ?c_MAX_PASSED ?taB ?raB ?rbB ?fcB ?xb_InvalidAddress ?xk_InvalidAddress ?xs_InvalidAddress ?xt_InvalidAddress ?xb_InvalidNumber ?xk_InvalidNumber ?xs_InvalidNumber ?xt_InvalidNumber ?eg_InvalidAddress ?ek_InvalidAddress ?es_InvalidAddress ?ed_InvalidAddress ?ea_InvalidAddress ?en_InvalidAddress ?et_InvalidAddress ?em_InvalidAddress ?ex_InvalidAddress ?ev_InvalidAddress ?kt_InvalidAddress_InvalidOperation ?kt_InvalidAddress_InvalidOrder ?kt_InvalidAddress_UnknownOrder ?kt_InvalidAddress_NotHolding ?kt_InvalidAddress_DecodeError ?kt_InvalidAddress_NotationError ?kt_InvalidAddress_UnknownLetter ?kt_InvalidAddress_InvalidAddress ?kt_InvalidAddress_InvalidDay ?kt_InvalidAddress_InvalidNumber ?kt_InvalidAddress_Contradiction ?kt_InvalidAddress_InvalidCount ?eg_InvalidNumber ?ek_InvalidNumber ?es_InvalidNumber ?ed_InvalidNumber ?ea_InvalidNumber ?en_InvalidNumber ?et_InvalidNumber ?em_InvalidNumber ?ex_InvalidNumber ?ev_InvalidNumber ?kt_InvalidNumber_InvalidOperation ?kt_InvalidNumber_InvalidOrder ?kt_InvalidNumber_UnknownOrder ?kt_InvalidNumber_NotHolding ?kt_InvalidNumber_DecodeError ?kt_InvalidNumber_NotationError ?kt_InvalidNumber_UnknownLetter ?kt_InvalidNumber_InvalidAddress ?kt_InvalidNumber_InvalidDay ?kt_InvalidNumber_InvalidNumber ?kt_InvalidNumber_Contradiction ?kt_InvalidNumber_InvalidCount ?eg_InvalidOperation ?ek_InvalidOperation ?es_InvalidOperation ?ed_InvalidOperation ?ea_InvalidOperation ?en_InvalidOperation ?et_InvalidOperation ?em_InvalidOperation ?ex_InvalidOperation ?ev_InvalidOperation ?kt_InvalidOperation_InvalidOperation ?kt_InvalidOperation_InvalidOrder ?kt_InvalidOperation_UnknownOrder ?kt_InvalidOperation_NotHolding ?kt_InvalidOperation_DecodeError ?kt_InvalidOperation_NotationError ?kt_InvalidOperation_UnknownLetter ?kt_InvalidOperation_InvalidAddress ?kt_InvalidOperation_InvalidDay ?kt_InvalidOperation_InvalidNumber ?kt_InvalidOperation_Contradiction ?kt_InvalidOperation_InvalidCount ?eg_InvalidOrder ?ek_InvalidOrder ?es_InvalidOrder ?ed_InvalidOrder ?ea_InvalidOrder ?en_InvalidOrder ?et_InvalidOrder ?em_InvalidOrder ?ex_InvalidOrder ?ev_InvalidOrder ?kt_InvalidOrder_InvalidOperation ?kt_InvalidOrder_InvalidOrder ?kt_InvalidOrder_UnknownOrder ?kt_InvalidOrder_NotHolding ?kt_InvalidOrder_DecodeError ?kt_InvalidOrder_NotationError ?kt_InvalidOrder_UnknownLetter ?kt_InvalidOrder_InvalidAddress ?kt_InvalidOrder_InvalidDay ?kt_InvalidOrder_InvalidNumber ?kt_InvalidOrder_Contradiction ?kt_InvalidOrder_InvalidCount ?eg_UnknownOrder ?ek_UnknownOrder ?es_UnknownOrder ?ed_UnknownOrder ?ea_UnknownOrder ?en_UnknownOrder ?et_UnknownOrder ?em_UnknownOrder ?ex_UnknownOrder ?ev_UnknownOrder ?kt_UnknownOrder_InvalidOperation ?kt_UnknownOrder_InvalidOrder ?kt_UnknownOrder_UnknownOrder ?kt_UnknownOrder_NotHolding ?kt_UnknownOrder_DecodeError ?kt_UnknownOrder_NotationError ?kt_UnknownOrder_UnknownLetter ?kt_UnknownOrder_InvalidAddress ?kt_UnknownOrder_InvalidDay ?kt_UnknownOrder_InvalidNumber ?kt_UnknownOrder_Contradiction ?kt_UnknownOrder_InvalidCount ?eg_NotHolding ?ek_NotHolding ?es_NotHolding ?ed_NotHolding ?ea_NotHolding ?en_NotHolding ?et_NotHolding ?em_NotHolding ?ex_NotHolding ?ev_NotHolding ?kt_NotHolding_InvalidOperation ?kt_NotHolding_InvalidOrder ?kt_NotHolding_UnknownOrder ?kt_NotHolding_NotHolding ?kt_NotHolding_DecodeError ?kt_NotHolding_NotationError ?kt_NotHolding_UnknownLetter ?kt_NotHolding_InvalidAddress ?kt_NotHolding_InvalidDay ?kt_NotHolding_InvalidNumber ?kt_NotHolding_Contradiction ?kt_NotHolding_InvalidCount ?eg_UnknownLetter ?ek_UnknownLetter ?es_UnknownLetter ?ed_UnknownLetter ?ea_UnknownLetter ?en_UnknownLetter ?et_UnknownLetter ?em_UnknownLetter ?ex_UnknownLetter ?ev_UnknownLetter ?kt_UnknownLetter_InvalidOperation ?kt_UnknownLetter_InvalidOrder ?kt_UnknownLetter_UnknownOrder ?kt_UnknownLetter_NotHolding ?kt_UnknownLetter_DecodeError ?kt_UnknownLetter_NotationError ?kt_UnknownLetter_UnknownLetter ?kt_UnknownLetter_InvalidAddress ?kt_UnknownLetter_InvalidDay ?kt_UnknownLetter_InvalidNumber ?kt_UnknownLetter_Contradiction ?kt_UnknownLetter_InvalidCount ?na_InvalidOperation ?na_InvalidOrder ?na_UnknownOrder ?na_NotHolding ?na_UnknownLetter_letter ?b_isinstance ?b_int ?b_bool ?b_str ?b_tuple ?b_list ?b_len ?b_all ?b_enumerate ?b_range ?b_min ?b_max ?b_sorted ?b_ValueError ?sf ?aA ?lA ?kA ?zA ?vA_post ?vA_pass_days ?vA_give ?vA_stop ?uA ?hTb ?hnP_PL_q52 ?hcH_PL_q52 ?hnP_PL_q53 ?hcH_PL_q53 ?hnP_PL_q55 ?hcH_PL_q55 ?hne_0_1 ?hne_0_2 ?hne_1_2
    (case aC_Book => k_is)
    (case aC_LivePost => k_is)
    (case ge_MailError => k_is)
    (case ge_InvalidOperation => k_is)
    (case ge_InvalidOrder => k_is)
    (case ge_UnknownOrder => k_is)
    (case ge_NotHolding => k_is)
    (case ge_DecodeError => k_is)
    (case ge_NotationError => k_is)
    (case ge_UnknownLetter => k_is)
    (case ge_InvalidAddress => k_is)
    (case ge_InvalidDay => k_is)
    (case ge_InvalidNumber => k_is)
    (case ge_Contradiction => k_is)
    (case ge_InvalidCount => k_is)
    (case ob_InvalidOperation => first | kernel_rfl | kit_is | rfl)
    (case sa_InvalidOperation => k_is)
    (case xs_InvalidOperation => k_is)
    (case xt_InvalidOperation => k_is)
    (case xk_InvalidOperation => k_is)
    (case ob_InvalidOrder => first | kernel_rfl | kit_is | rfl)
    (case sa_InvalidOrder => k_is)
    (case xs_InvalidOrder => k_is)
    (case xt_InvalidOrder => k_is)
    (case xk_InvalidOrder => k_is)
    (case ob_UnknownOrder => first | kernel_rfl | kit_is | rfl)
    (case sa_UnknownOrder => k_is)
    (case xs_UnknownOrder => k_is)
    (case xt_UnknownOrder => k_is)
    (case xk_UnknownOrder => k_is)
    (case ob_NotHolding => first | kernel_rfl | kit_is | rfl)
    (case sa_NotHolding => k_is)
    (case xs_NotHolding => k_is)
    (case xt_NotHolding => k_is)
    (case xk_NotHolding => k_is)
    (case ob_UnknownLetter => first | kernel_rfl | kit_is | rfl)
    (case sa_UnknownLetter => k_is)
    (case xs_UnknownLetter => k_is)
    (case xt_UnknownLetter => k_is)
    (case xk_UnknownLetter => k_is)
    (case aq0 => k_is)
    (case lq0 => k_is)
    (case cq0 => k_is)
    (case kq0 => k_is)
    (case aq1 => k_is)
    (case lq1 => k_is)
    (case cq1 => k_is)
    (case kq1 => k_is)
    (case aq2 => k_is)
    (case lq2 => k_is)
    (case cq2 => k_is)
    (case kq2 => k_is)
    (case aq3 => k_is)
    (case lq3 => k_is)
    (case cq3 => k_is)
    (case kq3 => k_is)
    (case aq4 => k_is)
    (case iq4 => k_is)
    (case lq4 => k_is)
    (case cq4 => k_is)
    (case kq4 => k_is)
    (case aq5 => k_is)
    (case pgq5 => k_is)
    (case ptq5 => k_is)
    (case prq5 => k_is)
    (case lq5 => k_is)
    (case cq5 => k_is)
    (case kq5 => k_is)
    (case aq6 => k_is)
    (case iq6 => k_is)
    (case lq6 => k_is)
    (case cq6 => k_is)
    (case kq6 => k_is)
    (case aq7 => k_is)
    (case iq7 => k_is)
    (case lq7 => k_is)
    (case cq7 => k_is)
    (case kq7 => k_is)
    (case aq8 => k_is)
    (case iq8 => k_is)
    (case lq8 => k_is)
    (case cq8 => k_is)
    (case kq8 => k_is)
    (case aq9 => k_is)
    (case lq9 => k_is)
    (case cq9 => k_is)
    (case kq9 => k_is)
    (case aq10 => k_is)
    (case lq10 => k_is)
    (case cq10 => k_is)
    (case kq10 => k_is)
    (case aq11 => k_is)
    (case lq11 => k_is)
    (case cq11 => k_is)
    (case kq11 => k_is)
    (case aq12 => k_is)
    (case iq12 => k_is)
    (case lq12 => k_is)
    (case cq12 => k_is)
    (case kq12 => k_is)
    (case aq13 => k_is)
    (case iq13 => k_is)
    (case lq13 => k_is)
    (case cq13 => k_is)
    (case kq13 => k_is)
    (case aq14 => k_is)
    (case iq14 => k_is)
    (case lq14 => k_is)
    (case cq14 => k_is)
    (case kq14 => k_is)
    (case taq15 => k_is)
    (case raq15 => k_is)
    (case rbq15 => k_is)
    (case aq15 => k_is)
    (case prq15 => k_is)
    (case fiq15 => k_is)
    (case lq15 => k_is)
    (case cq15 => k_is)
    (case kq15 => k_is)
    (case aq16 => k_is)
    (case pgq16 => k_is)
    (case ptq16 => k_is)
    (case prq16 => k_is)
    (case lq16 => k_is)
    (case cq16 => k_is)
    (case kq16 => k_is)
    (case aq17 => k_is)
    (case pgq17 => k_is)
    (case ptq17 => k_is)
    (case prq17 => k_is)
    (case lq17 => k_is)
    (case cq17 => k_is)
    (case kq17 => k_is)
    (case aq18 => k_is)
    (case pgq18 => k_is)
    (case ptq18 => k_is)
    (case prq18 => k_is)
    (case lq18 => k_is)
    (case cq18 => k_is)
    (case kq18 => k_is)
    (case aq19 => k_is)
    (case pgq19 => k_is)
    (case ptq19 => k_is)
    (case prq19 => k_is)
    (case lq19 => k_is)
    (case cq19 => k_is)
    (case kq19 => k_is)
    (case aq20 => k_is)
    (case iq20 => k_is)
    (case lq20 => k_is)
    (case cq20 => k_is)
    (case kq20 => k_is)
    (case aq21 => k_is)
    (case iq21 => k_is)
    (case lq21 => k_is)
    (case cq21 => k_is)
    (case kq21 => k_is)
    (case aq22 => k_is)
    (case iq22 => k_is)
    (case lq22 => k_is)
    (case cq22 => k_is)
    (case kq22 => k_is)
    (case aq23 => k_is)
    (case iq23 => k_is)
    (case lq23 => k_is)
    (case cq23 => k_is)
    (case kq23 => k_is)
    (case aq24 => k_is)
    (case iq24 => k_is)
    (case lq24 => k_is)
    (case cq24 => k_is)
    (case kq24 => k_is)
    (case aq25 => k_is)
    (case iq25 => k_is)
    (case lq25 => k_is)
    (case cq25 => k_is)
    (case kq25 => k_is)
    (case aq26 => k_is)
    (case iq26 => k_is)
    (case lq26 => k_is)
    (case cq26 => k_is)
    (case kq26 => k_is)
    (case aq27 => k_is)
    (case iq27 => k_is)
    (case lq27 => k_is)
    (case cq27 => k_is)
    (case kq27 => k_is)
    (case aq28 => k_is)
    (case iq28 => k_is)
    (case lq28 => k_is)
    (case cq28 => k_is)
    (case kq28 => k_is)
    (case aq29 => k_is)
    (case iq29 => k_is)
    (case lq29 => k_is)
    (case cq29 => k_is)
    (case kq29 => k_is)
    (case aq30 => k_is)
    (case iq30 => k_is)
    (case lq30 => k_is)
    (case cq30 => k_is)
    (case kq30 => k_is)
    (case aq31 => k_is)
    (case iq31 => k_is)
    (case lq31 => k_is)
    (case cq31 => k_is)
    (case kq31 => k_is)
    (case aq32 => k_is)
    (case iq32 => k_is)
    (case lq32 => k_is)
    (case cq32 => k_is)
    (case kq32 => k_is)
    (case aq33 => k_is)
    (case iq33 => k_is)
    (case lq33 => k_is)
    (case cq33 => k_is)
    (case kq33 => k_is)
    (case aq34 => k_is)
    (case iq34 => k_is)
    (case lq34 => k_is)
    (case cq34 => k_is)
    (case kq34 => k_is)
    (case aq35 => k_is)
    (case iq35 => k_is)
    (case lq35 => k_is)
    (case cq35 => k_is)
    (case kq35 => k_is)
    (case aq36 => k_is)
    (case iq36 => k_is)
    (case lq36 => k_is)
    (case cq36 => k_is)
    (case kq36 => k_is)
    (case aq37 => k_is)
    (case lq37 => k_is)
    (case cq37 => k_is)
    (case kq37 => k_is)
    (case aq38 => k_is)
    (case lq38 => k_is)
    (case cq38 => k_is)
    (case kq38 => k_is)
    (case aq39 => k_is)
    (case lq39 => k_is)
    (case cq39 => k_is)
    (case kq39 => k_is)
    (case aq40 => k_is)
    (case lq40 => k_is)
    (case cq40 => k_is)
    (case kq40 => k_is)
    (case aq41 => k_is)
    (case lq41 => k_is)
    (case cq41 => k_is)
    (case kq41 => k_is)
    (case aq42 => k_is)
    (case lq42 => k_is)
    (case cq42 => k_is)
    (case kq42 => k_is)
    (case aq43 => k_is)
    (case lq43 => k_is)
    (case cq43 => k_is)
    (case kq43 => k_is)
    (case aq44 => k_is)
    (case lq44 => k_is)
    (case cq44 => k_is)
    (case kq44 => k_is)
    (case aq45 => k_is)
    (case lq45 => k_is)
    (case cq45 => k_is)
    (case kq45 => k_is)
    (case aq46 => k_is)
    (case lq46 => k_is)
    (case cq46 => k_is)
    (case kq46 => k_is)
    (case aq47 => k_is)
    (case lq47 => k_is)
    (case cq47 => k_is)
    (case kq47 => k_is)
    (case aq48 => k_is)
    (case lq48 => k_is)
    (case cq48 => k_is)
    (case kq48 => k_is)
    (case aq49 => k_is)
    (case lq49 => k_is)
    (case cq49 => k_is)
    (case kq49 => k_is)
    (case aq50 => k_is)
    (case lq50 => k_is)
    (case cq50 => k_is)
    (case kq50 => k_is)
    (case aq51 => k_is)
    (case lq51 => k_is)
    (case cq51 => k_is)
    (case kq51 => k_is)
    (case aq52 => k_is)
    (case lq52 => k_is)
    (case cq52 => k_is)
    (case kq52 => k_is)
    (case aq53 => k_is)
    (case lq53 => k_is)
    (case cq53 => k_is)
    (case kq53 => k_is)
    (case aq54 => k_is)
    (case lq54 => k_is)
    (case cq54 => k_is)
    (case kq54 => k_is)
    (case aq55 => k_is)
    (case lq55 => k_is)
    (case cq55 => k_is)
    (case kq55 => k_is)
    (case fi_q21 => k_is)
    (case fi_q30 => k_is)
    (case pg_Book => k_is)
    (case hd_Book => k_is)
    (case po_Book => k_is)
    (case sa_Book => k_is)
    (case mk_Book => k_is)
    (case kc_Book => k_is)
    (case pg_LivePost => k_is)
    (case hd_LivePost => k_is)
    (case po_LivePost => k_is)
    (case sa_LivePost => k_is)
    (case mk_LivePost => k_is)
    (case kc_LivePost => k_is)
    (case n_Book_listed => k_is)
    (case n_LivePost_scene => k_is)
    (case n_LivePost_done => k_is)
    (case n_LivePost_undone => k_is)
    (case n_LivePost_is_open => k_is)
    (case n_LivePost_kept_scene => k_is)
    (case n_LivePost_kept_done => k_is)
    (case n_LivePost_kept_undone => k_is)
    (case c_LETTERS => k_is)
    (case c_MAX_LETTERS => k_is)
    (case c_MAX_ORDERS_books => k_is)
    (case c_MAX_DAY => k_is)
    (case c_MAX_WAY => k_is)
    (case c_MAX_PASSED => k_is)
    (case taB => k_is)
    (case raB => k_is)
    (case rbB => k_is)
    (case fcB => k_is)
    (case xb_InvalidAddress => first | kernel_rfl | kit_is | rfl)
    (case xk_InvalidAddress => k_is)
    (case xs_InvalidAddress => k_is)
    (case xt_InvalidAddress => k_is)
    (case xb_InvalidNumber => first | kernel_rfl | kit_is | rfl)
    (case xk_InvalidNumber => k_is)
    (case xs_InvalidNumber => k_is)
    (case xt_InvalidNumber => k_is)
    (case eg_InvalidAddress => k_is)
    (case ek_InvalidAddress => k_is)
    (case es_InvalidAddress => k_is)
    (case ed_InvalidAddress => k_is)
    (case ea_InvalidAddress => k_is)
    (case en_InvalidAddress => k_is)
    (case et_InvalidAddress => k_is)
    (case em_InvalidAddress => k_is)
    (case ex_InvalidAddress => first | kernel_rfl | kit_is | rfl)
    (case ev_InvalidAddress => first | kernel_rfl | kit_is | rfl)
    (case kt_InvalidAddress_InvalidOperation => first | kernel_rfl | kit_is | rfl)
    (case kt_InvalidAddress_InvalidOrder => first | kernel_rfl | kit_is | rfl)
    (case kt_InvalidAddress_UnknownOrder => first | kernel_rfl | kit_is | rfl)
    (case kt_InvalidAddress_NotHolding => first | kernel_rfl | kit_is | rfl)
    (case kt_InvalidAddress_DecodeError => first | kernel_rfl | kit_is | rfl)
    (case kt_InvalidAddress_NotationError => first | kernel_rfl | kit_is | rfl)
    (case kt_InvalidAddress_UnknownLetter => first | kernel_rfl | kit_is | rfl)
    (case kt_InvalidAddress_InvalidAddress => first | kernel_rfl | kit_is | rfl)
    (case kt_InvalidAddress_InvalidDay => first | kernel_rfl | kit_is | rfl)
    (case kt_InvalidAddress_InvalidNumber => first | kernel_rfl | kit_is | rfl)
    (case kt_InvalidAddress_Contradiction => first | kernel_rfl | kit_is | rfl)
    (case kt_InvalidAddress_InvalidCount => first | kernel_rfl | kit_is | rfl)
    (case eg_InvalidNumber => k_is)
    (case ek_InvalidNumber => k_is)
    (case es_InvalidNumber => k_is)
    (case ed_InvalidNumber => k_is)
    (case ea_InvalidNumber => k_is)
    (case en_InvalidNumber => k_is)
    (case et_InvalidNumber => k_is)
    (case em_InvalidNumber => k_is)
    (case ex_InvalidNumber => first | kernel_rfl | kit_is | rfl)
    (case ev_InvalidNumber => first | kernel_rfl | kit_is | rfl)
    (case kt_InvalidNumber_InvalidOperation => first | kernel_rfl | kit_is | rfl)
    (case kt_InvalidNumber_InvalidOrder => first | kernel_rfl | kit_is | rfl)
    (case kt_InvalidNumber_UnknownOrder => first | kernel_rfl | kit_is | rfl)
    (case kt_InvalidNumber_NotHolding => first | kernel_rfl | kit_is | rfl)
    (case kt_InvalidNumber_DecodeError => first | kernel_rfl | kit_is | rfl)
    (case kt_InvalidNumber_NotationError => first | kernel_rfl | kit_is | rfl)
    (case kt_InvalidNumber_UnknownLetter => first | kernel_rfl | kit_is | rfl)
    (case kt_InvalidNumber_InvalidAddress => first | kernel_rfl | kit_is | rfl)
    (case kt_InvalidNumber_InvalidDay => first | kernel_rfl | kit_is | rfl)
    (case kt_InvalidNumber_InvalidNumber => first | kernel_rfl | kit_is | rfl)
    (case kt_InvalidNumber_Contradiction => first | kernel_rfl | kit_is | rfl)
    (case kt_InvalidNumber_InvalidCount => first | kernel_rfl | kit_is | rfl)
    (case eg_InvalidOperation => k_is)
    (case ek_InvalidOperation => k_is)
    (case es_InvalidOperation => k_is)
    (case ed_InvalidOperation => k_is)
    (case ea_InvalidOperation => k_is)
    (case en_InvalidOperation => k_is)
    (case et_InvalidOperation => k_is)
    (case em_InvalidOperation => k_is)
    (case ex_InvalidOperation => first | kernel_rfl | kit_is | rfl)
    (case ev_InvalidOperation => first | kernel_rfl | kit_is | rfl)
    (case kt_InvalidOperation_InvalidOperation => first | kernel_rfl | kit_is | rfl)
    (case kt_InvalidOperation_InvalidOrder => first | kernel_rfl | kit_is | rfl)
    (case kt_InvalidOperation_UnknownOrder => first | kernel_rfl | kit_is | rfl)
    (case kt_InvalidOperation_NotHolding => first | kernel_rfl | kit_is | rfl)
    (case kt_InvalidOperation_DecodeError => first | kernel_rfl | kit_is | rfl)
    (case kt_InvalidOperation_NotationError => first | kernel_rfl | kit_is | rfl)
    (case kt_InvalidOperation_UnknownLetter => first | kernel_rfl | kit_is | rfl)
    (case kt_InvalidOperation_InvalidAddress => first | kernel_rfl | kit_is | rfl)
    (case kt_InvalidOperation_InvalidDay => first | kernel_rfl | kit_is | rfl)
    (case kt_InvalidOperation_InvalidNumber => first | kernel_rfl | kit_is | rfl)
    (case kt_InvalidOperation_Contradiction => first | kernel_rfl | kit_is | rfl)
    (case kt_InvalidOperation_InvalidCount => first | kernel_rfl | kit_is | rfl)
    (case eg_InvalidOrder => k_is)
    (case ek_InvalidOrder => k_is)
    (case es_InvalidOrder => k_is)
    (case ed_InvalidOrder => k_is)
    (case ea_InvalidOrder => k_is)
    (case en_InvalidOrder => k_is)
    (case et_InvalidOrder => k_is)
    (case em_InvalidOrder => k_is)
    (case ex_InvalidOrder => first | kernel_rfl | kit_is | rfl)
    (case ev_InvalidOrder => first | kernel_rfl | kit_is | rfl)
    (case kt_InvalidOrder_InvalidOperation => first | kernel_rfl | kit_is | rfl)
    (case kt_InvalidOrder_InvalidOrder => first | kernel_rfl | kit_is | rfl)
    (case kt_InvalidOrder_UnknownOrder => first | kernel_rfl | kit_is | rfl)
    (case kt_InvalidOrder_NotHolding => first | kernel_rfl | kit_is | rfl)
    (case kt_InvalidOrder_DecodeError => first | kernel_rfl | kit_is | rfl)
    (case kt_InvalidOrder_NotationError => first | kernel_rfl | kit_is | rfl)
    (case kt_InvalidOrder_UnknownLetter => first | kernel_rfl | kit_is | rfl)
    (case kt_InvalidOrder_InvalidAddress => first | kernel_rfl | kit_is | rfl)
    (case kt_InvalidOrder_InvalidDay => first | kernel_rfl | kit_is | rfl)
    (case kt_InvalidOrder_InvalidNumber => first | kernel_rfl | kit_is | rfl)
    (case kt_InvalidOrder_Contradiction => first | kernel_rfl | kit_is | rfl)
    (case kt_InvalidOrder_InvalidCount => first | kernel_rfl | kit_is | rfl)
    (case eg_UnknownOrder => k_is)
    (case ek_UnknownOrder => k_is)
    (case es_UnknownOrder => k_is)
    (case ed_UnknownOrder => k_is)
    (case ea_UnknownOrder => k_is)
    (case en_UnknownOrder => k_is)
    (case et_UnknownOrder => k_is)
    (case em_UnknownOrder => k_is)
    (case ex_UnknownOrder => first | kernel_rfl | kit_is | rfl)
    (case ev_UnknownOrder => first | kernel_rfl | kit_is | rfl)
    (case kt_UnknownOrder_InvalidOperation => first | kernel_rfl | kit_is | rfl)
    (case kt_UnknownOrder_InvalidOrder => first | kernel_rfl | kit_is | rfl)
    (case kt_UnknownOrder_UnknownOrder => first | kernel_rfl | kit_is | rfl)
    (case kt_UnknownOrder_NotHolding => first | kernel_rfl | kit_is | rfl)
    (case kt_UnknownOrder_DecodeError => first | kernel_rfl | kit_is | rfl)
    (case kt_UnknownOrder_NotationError => first | kernel_rfl | kit_is | rfl)
    (case kt_UnknownOrder_UnknownLetter => first | kernel_rfl | kit_is | rfl)
    (case kt_UnknownOrder_InvalidAddress => first | kernel_rfl | kit_is | rfl)
    (case kt_UnknownOrder_InvalidDay => first | kernel_rfl | kit_is | rfl)
    (case kt_UnknownOrder_InvalidNumber => first | kernel_rfl | kit_is | rfl)
    (case kt_UnknownOrder_Contradiction => first | kernel_rfl | kit_is | rfl)
    (case kt_UnknownOrder_InvalidCount => first | kernel_rfl | kit_is | rfl)
    (case eg_NotHolding => k_is)
    (case ek_NotHolding => k_is)
    (case es_NotHolding => k_is)
    (case ed_NotHolding => k_is)
    (case ea_NotHolding => k_is)
    (case en_NotHolding => k_is)
    (case et_NotHolding => k_is)
    (case em_NotHolding => k_is)
    (case ex_NotHolding => first | kernel_rfl | kit_is | rfl)
    (case ev_NotHolding => first | kernel_rfl | kit_is | rfl)
    (case kt_NotHolding_InvalidOperation => first | kernel_rfl | kit_is | rfl)
    (case kt_NotHolding_InvalidOrder => first | kernel_rfl | kit_is | rfl)
    (case kt_NotHolding_UnknownOrder => first | kernel_rfl | kit_is | rfl)
    (case kt_NotHolding_NotHolding => first | kernel_rfl | kit_is | rfl)
    (case kt_NotHolding_DecodeError => first | kernel_rfl | kit_is | rfl)
    (case kt_NotHolding_NotationError => first | kernel_rfl | kit_is | rfl)
    (case kt_NotHolding_UnknownLetter => first | kernel_rfl | kit_is | rfl)
    (case kt_NotHolding_InvalidAddress => first | kernel_rfl | kit_is | rfl)
    (case kt_NotHolding_InvalidDay => first | kernel_rfl | kit_is | rfl)
    (case kt_NotHolding_InvalidNumber => first | kernel_rfl | kit_is | rfl)
    (case kt_NotHolding_Contradiction => first | kernel_rfl | kit_is | rfl)
    (case kt_NotHolding_InvalidCount => first | kernel_rfl | kit_is | rfl)
    (case eg_UnknownLetter => k_is)
    (case ek_UnknownLetter => k_is)
    (case es_UnknownLetter => k_is)
    (case ed_UnknownLetter => k_is)
    (case ea_UnknownLetter => k_is)
    (case en_UnknownLetter => k_is)
    (case et_UnknownLetter => k_is)
    (case em_UnknownLetter => k_is)
    (case ex_UnknownLetter => first | kernel_rfl | kit_is | rfl)
    (case ev_UnknownLetter => first | kernel_rfl | kit_is | rfl)
    (case kt_UnknownLetter_InvalidOperation => first | kernel_rfl | kit_is | rfl)
    (case kt_UnknownLetter_InvalidOrder => first | kernel_rfl | kit_is | rfl)
    (case kt_UnknownLetter_UnknownOrder => first | kernel_rfl | kit_is | rfl)
    (case kt_UnknownLetter_NotHolding => first | kernel_rfl | kit_is | rfl)
    (case kt_UnknownLetter_DecodeError => first | kernel_rfl | kit_is | rfl)
    (case kt_UnknownLetter_NotationError => first | kernel_rfl | kit_is | rfl)
    (case kt_UnknownLetter_UnknownLetter => first | kernel_rfl | kit_is | rfl)
    (case kt_UnknownLetter_InvalidAddress => first | kernel_rfl | kit_is | rfl)
    (case kt_UnknownLetter_InvalidDay => first | kernel_rfl | kit_is | rfl)
    (case kt_UnknownLetter_InvalidNumber => first | kernel_rfl | kit_is | rfl)
    (case kt_UnknownLetter_Contradiction => first | kernel_rfl | kit_is | rfl)
    (case kt_UnknownLetter_InvalidCount => first | kernel_rfl | kit_is | rfl)
    (case na_InvalidOperation => k_is)
    (case na_InvalidOrder => k_is)
    (case na_UnknownOrder => k_is)
    (case na_NotHolding => k_is)
    (case na_UnknownLetter_letter => k_is)
    (case b_isinstance => k_is)
    (case b_int => k_is)
    (case b_bool => k_is)
    (case b_str => k_is)
    (case b_tuple => k_is)
    (case b_list => k_is)
    (case b_len => k_is)
    (case b_all => k_is)
    (case b_enumerate => k_is)
    (case b_range => k_is)
    (case b_min => k_is)
    (case b_max => k_is)
    (case b_sorted => k_is)
    (case b_ValueError => k_is)
    (case sf => k_is)
    (case aA => k_is)
    (case lA => k_is)
    (case kA => k_keys)
    (case zA => first | rfl | decide | kernel_rfl)
    (case vA_post => k_is)
    (case vA_pass_days => k_is)
    (case vA_give => k_is)
    (case vA_stop => k_is)
    (case uA => k_is)
    (case hTb => exact PySem.W.km_tabs_of Y)
    (case hnP_PL_q52 => first | kernel_rfl | rfl)
    (case hcH_PL_q52 => first | kernel_rfl | rfl)
    (case hnP_PL_q53 => first | kernel_rfl | rfl)
    (case hcH_PL_q53 => first | kernel_rfl | rfl)
    (case hnP_PL_q55 => first | kernel_rfl | rfl)
    (case hcH_PL_q55 => first | kernel_rfl | rfl)
    (case hne_0_1 => decide)
    (case hne_0_2 => decide)
    (case hne_1_2 => decide)
