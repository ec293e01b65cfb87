import PyProof.Rows.All
import Wide.All
import OpenK.AllK
import Wide.FinOn
import HandS.ForMost
import HandS.Star
import HandS.Walk
import KE.GoesMore
import KE.KUnpack
import HandS.More
import HandS.ClsMeth
import KE.KSuper
import HandS.Property
import PyProof.FString2
import HandS.FStr
import HandS.Exc
import HandS.ExcOwn
import HandS.ExcInit
import HandS.ExcIs
import HandS.ExcField
import HandS.Small
import HandS.Lambda
import HandS.EndTab
import HandS.IsInst
import HandS.Wide
import HandS.TupAny
import HandS.Codes
import HandS.SetFor
import PyProof.SeqRoads2
import PyProof.Rows.CountFlat
import HandS.Deep
import KE.KExcInit
import PySem.Challenge.RW_mailforwards_k07_prolonged_orders
import PyProof.Rows.SortStr
import PyProof.Rows.StrMeet
import KE.KEqSeq
import HandS.Style
import HandS.SortRule
import HandS.Conv
import KE.KNestM
import KE.KLam
set_option Elab.async false
set_option linter.all false
set_option maxRecDepth 100000
set_option maxHeartbeats 1000000
namespace MF
open PySem PySem.Spec PyProof.Rows L2

def gFld (K : PySem.W.Frag) (to : TE) (f : Str) : TG := fun v σ H Q => to σ H fun x H1 => ∃ a C dx fs, x = .ref a ∧ H1 a = some (.ins C dx fs) ∧ Cls K C ∧ NoAttr K C f ∧ fs.length < 1000 ∧ Q σ (upd H1 a (.ins C dx (putF f v fs)))
theorem pg_fld {X : Cx} {o : Expr} {f : Str} {pos : Pos} {to : TE} (ho : PE X o to) : PG X (.Attribute o f pos) (gFld X.K to f) := by
  refine ⟨fun pins s σ H v u Q I r h => ?_⟩
  show wpAny _ _ (do
    let ov ← holding [u] (eval o X.env)
    standAt pos.atName
    holding [u, ov] (setAttr ov f u)
    release [u, ov] []) _ _ _
  refine wpAny_bind (wpAny_holding (thn (ho.run pins s σ H _ I h) fun ov s1 ⟨x, H1, I1, r1, a, C, dx, fs, ex, ea, c, n, l, q⟩ => ?_))
  subst ex
  obtain rfl : ov = Value.ref a := r1
  refine wpAny_bind (wpAny_standAt (wpAny_bind (wpAny_holding (setattr_ok I1 ea c n l r fun s2 I2 => ?_))))
  exact wpAny_release ⟨σ, _, I2, q⟩

theorem notNI {Q : Value → Shared → Prop} {v : V} {u : Value} {s' : Shared} (r : RelV v u) (h : Q u s') : PySem.W.CmpBack Q u s' := by
  cases v with
  | non => cases (show u = Value.none from r); exact h
  | bl b => cases (show u = Value.bool b from r); exact h
  | int i => obtain ⟨t, rfl⟩ := (show ∃ t, u = Value.int i t from r); exact h
  | str x => obtain ⟨t, rfl⟩ := (show ∃ t, u = Value.str x t from r); exact h
  | byt b => obtain ⟨t, rfl⟩ := (show ∃ t, u = Value.bytes b t from r); exact h
  | flt b => obtain ⟨t, rfl⟩ := (show ∃ t, u = Value.float b t from r); exact h
  | ref a => cases (show u = Value.ref a from r); exact h
  | ty n => cases (show u = Value.type n from r); exact h
theorem op_own {X : Cx} {op : Operator} {C f : Addr} {fd : FuncData} {ps : List Str} {CX : CXT} {k : Nat} {sp : Sp} {E : XK} (hc : PySem.W.selfFirst X.K C = true) (hs : PySem.W.findIn X.K (.ref C) (PySem.dunder op.info.2) = some (some (.ref f))) (hf : PySem.W.isFn X.K (.ref f) = true)
    (F : FnOk X.prog X.w X.K X.mg X.base CX k f fd ps sp) (hr : Room k X.A) (hb : Binds X.K fd ps []) (hx : Passes CX X E) :
    OpR X (binaryOp op) (fun x y H Q => ∃ a b dx dy fs gs, x = .ref a ∧ y = .ref b ∧ H a = some (.ins C dx fs) ∧ H b = some (.ins C dy gs) ∧ sp [.ref a, .ref b] H Q E) := by
  rintro pins s σ H x y u v Q I rx ry ⟨a, b, dx, dy, fs, gs, rfl, rfl, ea, eb, h⟩
  obtain rfl : u = Value.ref a := rx
  obtain rfl : v = Value.ref b := ry
  obtain ⟨mA, O, _⟩ := ins_get I.hok ea
  obtain ⟨mB, O', _⟩ := ins_get I.hok eb
  obtain ⟨od, ia, _⟩ := O.look
  obtain ⟨od', ib, _⟩ := O'.look
  obtain ⟨m, fr⟩ := I.fr
  refine PySem.W.binop_K fr I.mod.kin ia ib.type hc hs hf ?_
  refine thn (run_fn (us := [.ref a, .ref b]) (vs := [.ref a, .ref b]) F hr hb (dvs := []) .nil hx I (.cons rfl (.cons rfl .nil)) (by simpa using h)) fun r s' hq => ?_
  obtain ⟨z, H', I', rz, q⟩ := hq
  exact notNI rz ⟨z, H', I', rz, q⟩

theorem meets_enum_newT (t : Addr) (items : Array Value) :
    Meets (Builtin.«enumerate.__new__» ⟨[.type "enumerate", .ref t], []⟩) (fun _ R s => s.heap.IsTuple t items ∧
      R (.ok (.ret (.ref (s.heap.push { cls := .type "tuple_iterator", data := .fields #[.ref t, .int 0 0] }).objs.size))) { s with heap := (s.heap.push { cls := .type "tuple_iterator", data := .fields #[.ref t, .int 0 0] }).push { cls := .type "enumerate", data := .fields #[.none, .bool false, .ref s.heap.objs.size, rawInt 0, .none, .none] } }) :=
  .of_wp fun prog w A R s h => by
    obtain ⟨hp, g, d, tk, os⟩ := s; obtain ⟨h1, h⟩ := h
    have hsub := sub_enumerate
    have q1 : ∀ {A' : Around} {E : Value → Shared → Prop} {Q : Value → Shared → Prop}, Q (.ref hp.objs.size) ⟨hp.push { cls := .type "tuple_iterator", data := .fields #[.ref t, .int 0 0] }, g, d, tk, os⟩ → wpAny (model prog w) A' (pyIter (.ref t)) Q E ⟨hp, g, d, tk, os⟩ :=
      fun q => (begins_tuple t items).iter prog w _ _ ⟨hp, g, d, tk, os⟩ _ h1 q
    wp_walk using q1
    refine wpAny_stack_any fun st => wpAny_pure ?_
    split
    · rename_i c _ _ _ _ _
      cases (c == Value.type "enumerate")
      · wp_walk using q1
        exact ⟨_, rfl, h⟩
      · wp_walk using q1
        exact ⟨_, rfl, h⟩
    · wp_walk using q1
      exact ⟨_, rfl, h⟩
theorem call_enum_tuple {prog : Program} {w : World} {A : Around} {E : Value → Shared → Prop} {s : Shared} {t : Addr} {items : Array Value} {Q : Value → Shared → Prop} (ht : s.heap.IsTuple t items)
    (h : ∀ h', IsEnum h' (s.heap.objs.size + 1) s.heap.objs.size 0 .none → h'.IsTupleIter s.heap.objs.size t 0 → h'.objs.size = s.heap.objs.size + 2 →
      (∀ b o, s.heap.get? b = some o → h'.get? b = some o) → Q (.ref (s.heap.objs.size + 1)) { s with heap := h' }) :
    wpAny (model prog w) A (call (.type "enumerate") [.ref t]) Q E s := by
  refine callType_new F.called_enumerate (by decide) (F.typeCall_enumerate_1 _) (F.newCall_enumerate_1 _) (fun obj => F.args_object_init_2 obj _) F.entry_enumerate_new
    (meets_enum_newT t items) ⟨ht, ?_⟩
  have hz : (s.heap.push { cls := .type "tuple_iterator", data := .fields #[.ref t, .int 0 0] }).objs.size = s.heap.objs.size + 1 := Heap.size_push ..
  show _ ∧ _
  rw [hz]
  have he : IsEnum ((s.heap.push { cls := .type "tuple_iterator", data := .fields #[.ref t, .int 0 0] }).push
      { cls := .type "enumerate", data := .fields #[.none, .bool false, .ref s.heap.objs.size, rawInt 0, .none, .none] }) (s.heap.objs.size + 1) s.heap.objs.size 0 .none := by
    have := Heap.get?_push_size (s.heap.push { cls := .type "tuple_iterator", data := .fields #[.ref t, .int 0 0] })
      (o := { cls := .type "enumerate", data := .fields #[.none, .bool false, .ref s.heap.objs.size, rawInt 0, .none, .none] }) rfl
    rw [hz] at this; exact this
  exact ⟨⟨_, he, rfl⟩, h _ he ⟨_, Heap.get?_push_of_some _ (Heap.get?_push_size _ rfl), rfl, rfl⟩ (by rw [Heap.size_push, hz]) fun b o x => Heap.get?_push_of_some _ (Heap.get?_push_of_some _ x)⟩

def ItE (K : PySem.W.Frag) (a : Addr) : It :=
  ⟨fun i H => ∃ (xs : List V) (x : V), SqT K H a xs ∧ xs[i]? = some x, fun i H v H' => ∃ T x, v = .ref T ∧ H T = none ∧ H' = upd H T (.tup [.int (i : Nat), x]) ∧ ∀ xs, SqT K H a xs → xs[i]? = some x, fun i H => ∃ xs : List V, SqT K H a xs ∧ xs.length = i⟩
theorem turn_enumT {P : Program} {w : World} {K : PySem.W.Frag} {elts : List Expr} {kk : Nat} {tpos : Pos} (a e it : Addr) :
    Turn P w K (.Tuple elts kk tpos) (ItE K a) [e, it] e (fun i h => (∃ old, IsEnum h e it ((i : Nat) : Int) old) ∧ h.IsTupleIter it a i ∧ e ≠ it) where
  mem := by simp
  obj := fun i h st b hb => by
    obtain ⟨⟨old, he⟩, ⟨o, ho, hc, hd⟩, _⟩ := st
    have e' : b = e ∨ b = it := by simpa using hb
    rcases e' with z | z
    · rw [z]; exact ⟨_, he, fun v q => nomatch q⟩
    · rw [z]; exact ⟨o, ho, fun v q => by rw [hd] at q; cases q⟩
  keep := fun i h h' st k => let ⟨⟨old, he⟩, hi, hne⟩ := st; ⟨⟨old, k e (by simp) _ he⟩, hi.at fun o q => k it (by simp) o q, hne⟩
  item := by
    intro X hP hw hK hc i pins s σ H E I hf st hg
    subst hP hw hK
    obtain ⟨⟨old, he⟩, hit, hne⟩ := st
    obtain ⟨xs, x, hq, hx⟩ := hg
    obtain ⟨its, rv, p, hz⟩ := I.tuple hq
    obtain ⟨u, hu, ru⟩ := rv.get hx
    have hel : e < s.heap.objs.size := Heap.lt_size he
    have hil : it < s.heap.objs.size := by obtain ⟨_, q, _⟩ := hit; exact Heap.lt_size q
    have pt : s.heap.IsTuple a its.toArray := p
    have hai : a ≠ it := fun z => by
      subst z
      obtain ⟨o1, e1, c1, _⟩ := pt
      obtain ⟨o2, e2, c2, _⟩ := hit
      rw [e1] at e2; cases e2
      rw [c1] at c2
      exact absurd (Value.type.inj c2) (by decide)
    have hae : a ≠ e := fun z => by
      subst z
      obtain ⟨o1, e1, c1, _⟩ := pt
      rw [he] at e1; cases e1
      exact absurd (Value.type.inj c1) (by decide)
    have hlt : i < its.toArray.size := by
      have := (List.getElem?_eq_some_iff.mp hu).1
      simpa using this
    refine wpAny_pyNext_enum_itemD (Draws.tuple (A := X.A.in1) (by simpa using I.ok.hd hc) it a hai its.toArray) he ⟨hit, pt⟩ hlt hne (by simp [hne, Ne.symm hae]) fun x' h' tk hx' ho st' hT hsz hk => ?_
    have eu : x' = u := by
      have q : its.toArray[i]? = some u := by simpa using hu
      rw [q] at hx'; cases hx'; rfl
    subst eu
    refine ⟨_, rfl, wpAny_letOwnedTupleGo_enum (s := { s with heap := h', toks := tk + 1 }) ho fun h'' he' sb => ?_⟩
    have hT2 : h''.get? s.heap.objs.size = some { cls := .type "tuple", data := .seq #[.int i tk, x'] } := (sb.2 _ (Nat.ne_of_gt hel)).trans hT
    have new : ObjOk X.prog X.w (upd H s.heap.objs.size (.tup [.int (i : Nat), x])) h'' s.heap.objs.size (.tup [.int (i : Nat), x]) :=
      ⟨by show 2 ≤ sizeLine; decide, [.int i tk, x'], .cons ⟨_, rfl⟩ (.cons ru .nil), ⟨_, hT2, rfl, _, rfl⟩⟩
    have I1 : Inv X pins σ (upd H s.heap.objs.size (.tup [.int (i : Nat), x])) { s with heap := h'', toks := tk + 1 } :=
      I.turnedNew (ch := [e, it]) (fun b ob hb q => (sb.2 b (fun z => hb (by simp [z]))).trans (hk b ob (fun z => hb (by simp [z])) (fun z => hb (by simp [z])) q)) hf (Nat.le_refl _) new
    refine ⟨.ref s.heap.objs.size, _, I1, rfl, ⟨_, x, rfl, I.hok.fresh (Nat.le_refl _), rfl, fun ys hy => by rw [I.tuple_inj hy hq]; exact hx⟩, ⟨⟨x', ?_⟩, st'.1.at fun o q => (sb.2 it (Ne.symm hne)).trans q, hne⟩, fun b hb => ?_⟩
    · have e1 : ((i + 1 : Nat) : Int) = (i : Int) + 1 := by omega
      rw [e1]; exact he'
    · have hb' : b < s.heap.objs.size := by
        have e' : b = e ∨ b = it := by simpa using hb
        rcases e' with z | z
        · rw [z]; exact hel
        · rw [z]; exact hil
      rw [upd_ne (Nat.ne_of_lt hb')]
      exact (hf b hb).1
  done := by
    intro X hP hw hK hc i pins s σ H E I hf st hg
    subst hP hw hK
    obtain ⟨⟨old, he⟩, hit, hne⟩ := st
    obtain ⟨xs, hq, hx⟩ := hg
    obtain ⟨its, rv, p, hz⟩ := I.tuple hq
    obtain ⟨f0, f1, f2, f3, f4, f5⟩ := hf it (by simp)
    have pt : s.heap.IsTuple a its.toArray := p
    have hai : a ≠ it := fun z => by
      subst z
      obtain ⟨o1, e1, c1, _⟩ := pt
      obtain ⟨o2, e2, c2, _⟩ := hit
      rw [e1] at e2; cases e2
      rw [c1] at c2
      exact absurd (Value.type.inj c2) (by decide)
    have hl := rv.length
    have en : its.toArray.size = i := by simp; omega
    exact wpAny_pyNext_enum_endD (Draws.tuple (A := X.A.in1) (by simpa using I.ok.hd hc) it a hai its.toArray) he (by rw [en]; exact ⟨hit, pt⟩) fun h' eb => ⟨rfl, I.turned (t' := s.toks) (fun b o hb q => eb b o hb q) f0 f1 f3 f4 f5⟩
  self := fun A i s Q E st h => let ⟨⟨_, he⟩, _⟩ := st; wpAny_pyIter_enum he h
def iEnumT (K : PySem.W.Frag) (ta : TA) : TI := fun σ H R => ta σ H fun vs H1 => ∃ a xs, vs = [.ref a] ∧ SqT K H1 a xs ∧ R (ItE K a) H1
theorem pi_enumT {X : Cx} {e : Expr} {ta : TA} {p pos tpos : Pos} {elts : List Expr} {kk : Nat} (hg : Gl X "enumerate") (hm : X.mg "enumerate" = none) (ha : PA X [e] ta) (hs : starEach [e] X.env = [(false, eval e X.env)] := by rfl) :
    PI X (.Tuple elts kk tpos) (.Call (.Name "enumerate" p) [e] [] pos) (iEnumT X.K ta) := by
  refine ⟨fun pins s σ H R I h => ?_⟩
  refine Call_ (ld_blt I hg hm boot_enumerate (PyProof.Rows.callWith_type1 (thn (ha.run pos pins s σ H _ I h) fun us s1 ⟨vs, H1, I1, r1, q1⟩ => ?_) hs rfl))
  obtain ⟨a, xs, ex, hq, q⟩ := q1
  subst ex
  cases r1 with
  | cons r rr =>
    cases rr
    cases r
    obtain ⟨its, rv, p', hz⟩ := I1.tuple hq
    refine call_enum_tuple (show s1.heap.IsTuple a its.toArray from p') fun h' he hit hsz hk => wpAny_pyIter_enum he ?_
    have I2 : Inv X pins σ H1 { s1 with heap := h' } := I1.kept (t' := s1.toks) hk
    refine ⟨s1.heap.objs.size + 1, [s1.heap.objs.size + 1, s1.heap.objs.size], _, _, H1, rfl, I2, turn_enumT a (s1.heap.objs.size + 1) s1.heap.objs.size, ⟨⟨.none, he⟩, hit, Nat.succ_ne_self _⟩, fun b hb => ?_, q⟩
    have e' : b = s1.heap.objs.size + 1 ∨ b = s1.heap.objs.size := by simpa using hb
    have hle : s1.heap.objs.size ≤ b := by
      rcases e' with z | z
      · rw [z]; exact Nat.le_add_right _ _
      · rw [z]; exact Nat.le_refl _
    exact I1.fpOk hle (I1.hok.fresh hle)
theorem walk_enumT {K : PySem.W.Frag} {a : Addr} {xs : List V} : Walk (ItE K a) xs.length (fun H => SqT K H a xs) (YPair (fun i => some (.int (i : Nat))) (fun i => xs[i]?)) :=
  ⟨fun i H hi hg => ⟨xs, xs[i], hg, by simp [hi]⟩, fun H hg => ⟨xs, hg, rfl⟩, fun i H v H' hi hg ⟨T, x, e1, e2, e3, e4⟩ => ⟨T, _, x, e1, e2, e3, rfl, e4 xs hg⟩⟩


def setAll : List Nat → List V → L2.St → L2.St
  | i :: is, v :: vs, σ => setAll is vs (σ.set i (some v))
  | _, _, σ => σ
inductive Caps (X : Cx) : List Pattern → List Nat → Prop
  | nil : Caps X [] []
  | cons {x : Str} {p : Pos} {ps : List Pattern} {i : Nat} {is : List Nat} (hi : X.N[i]? = some x) (hx : Loc X.env.scope x) (hf : X.fn x = true ∨ X.env.scope.names.lookup x = some .local) (r : Caps X ps is) : Caps X (.MatchAs none (some x) p :: ps) (i :: is)
def capNames : List Pattern → List Str
  | .MatchAs none (some x) _ :: ps => x :: capNames ps
  | _ => []
theorem Caps.len {X : Cx} : ∀ {ps : List Pattern} {is : List Nat}, Caps X ps is → ps.length = is.length
  | _, _, .nil => rfl
  | _, _, .cons _ _ _ r => by simp [r.len]
theorem Caps.each {X : Cx} {A : Around} {E : Value → Shared → Prop} {s : Shared} : ∀ {ps : List Pattern} {is : List Nat} {us : List Value} {Q : Option (List (Str × Value)) → Shared → Prop}, Caps X ps is → us.length = ps.length →
    Q (some ((capNames ps).zip us)) s → wpAny (model X.prog X.w) A (matchEach ps X.env us) Q E s
  | _, _, [], Q, .nil, _, h => wpAny_matchEach_nil h
  | _, _, u :: us, Q, .cons hi hx hf r, hl, h => by
    refine wpAny_matchEach_cons (wpAny_matchPattern_Capture ?_)
    show wpAny _ _ (matchEach _ X.env us) _ _ _
    exact Caps.each r (by simpa using hl) h
theorem Caps.store {X : Cx} {pins : List (Addr × Obj)} {H : Hp} (hN : X.N.Nodup) : ∀ {ps : List Pattern} {is : List Nat} {us : List Value} {vs : List V} {σ : L2.St} {s : Shared} {Q : Unit → Shared → Prop}, Caps X ps is → Vals vs us → us.length = ps.length → Inv X pins σ H s →
    (∀ s', Inv X pins (setAll is vs σ) H s' → Q () s') → wpAny (model X.prog X.w) X.A (assignInOrder (((capNames ps).zip us).map fun (n, _) => bindName X.env n) (((capNames ps).zip us).map (·.2))) Q X.xe s
  | _, _, _, _, σ, s, Q, .nil, .nil, _, I, h => assignInOrder_nil (h s I)
  | _, _, _, _, σ, s, Q, .cons hi hx hf r, .cons rv rr, hl, I, h => by
    refine assignInOrder_cons (wpAny_bindName (store_ok I hN hi hx rv (fun s' I' => ?_) hf))
    exact Caps.store hN r rr (by simpa using hl) I' h
theorem fitL {n : Nat} (h : n ≤ sizeLine) : (n : Int) < 2 ^ 63 := by
  have h2 : n < 2 ^ 63 := Nat.lt_of_le_of_lt h line63
  exact Int.ofNat_lt.mpr h2
def notSeq : V → Bool
  | .non => true
  | .bl _ => true
  | .int _ => true
  | .str _ => true
  | _ => false
def tMatch (K : PySem.W.Frag) (is : List Nat) (te : TE) (tg : TT) (tb tc : TS) : TS := fun D σ H => te σ H fun x H1 =>
  (∃ a vs, x = .ref a ∧ (SqT K H1 a vs ∨ SqL K H1 a vs) ∧ ((vs.length = is.length ∧ tg (setAll is vs σ) H1 fun b H2 => if b = true then tb D (setAll is vs σ) H2 else tc D (setAll is vs σ) H2) ∨ (vs.length ≠ is.length ∧ tc D σ H1))) ∨
  (notSeq x = true ∧ tc D σ H1)
theorem ps_match {X : Cx} {subject g : Expr} {ps : List Pattern} {is : List Nat} {body other : List Stmt} {p1 p2 pos : Pos} {te : TE} {tg : TT} {tb tc : TS} (hc : X.calm = true) (hN : X.N.Nodup) (he : PE X subject te) (hp : Caps X ps is) (hg : PT X g tg) (hb : PSs X body tb) (ho : PSs X other tc)
    (hstar : ps.findIdx? (·.isStar) = none := by rfl) (hwild : (ps.all fun p => p.isWildcard || (p.isStar && p.names.isEmpty)) = false := by rfl) :
    PS X (.Match subject [⟨.MatchSequence ps p1, some g, body⟩, ⟨.MatchAs none none p2, none, other⟩] pos) (tMatch X.K is te tg tb tc) := by
  refine ⟨fun pins s σ H D I h => ?_⟩
  refine wpAny_Match (thn (he.run pins s σ H _ I h) fun u s1 ⟨x, H1, I1, r1, q1⟩ => ?_)
  have last : ∀ {s2 : Shared} {σ2 : L2.St} {H2 : Hp}, Inv X pins σ2 H2 s2 → tc D σ2 H2 → wpAny (model X.prog X.w) X.A (matchCases [⟨.MatchAs none none p2, none, other⟩] X.env u false) (SP X pins D) X.xe s2 := fun {s2 σ2 H2} I2 q2 => by
    refine wpAny_matchCases_cons (wpAny_matchPattern_Capture ?_)
    show wpAny _ _ (assignInOrder [] []) _ _ _
    exact assignInOrder_nil (ho.run pins s2 σ2 H2 D I2 q2)
  refine wpAny_matchCases_cons ?_
  rcases q1 with ⟨a, vs, rfl, hq, q⟩ | ⟨hn, q⟩
  · obtain rfl : u = Value.ref a := r1
    rcases hq with hq | hq
    · obtain ⟨its, rv, p, hz⟩ := I1.tuple hq
      have hl := rv.length
      have fit : (its.toArray.size : Int) < 2 ^ 63 := fitL (by rw [List.size_toArray, ← hl]; exact hz)
      have en : its.toArray.size = vs.length := by rw [List.size_toArray, hl]
      rcases q with ⟨el, q⟩ | ⟨el, q⟩
      · have e0 : ps.length = its.toArray.size := by rw [en, el, hp.len]
        refine matchSeq_tuple_hit p fit e0.symm ?_ hstar hwild
        rw [e0]
        refine unpackItems_tuple (s := { s1 with toks := s1.toks + 1 + 1 }) (I.ok.hd hc) p fun h' hx' => ?_
        have I2 := (I1.tok (s1.toks + 1 + 1)).kept (h' := h') (t' := s1.toks + 1 + 1) fun b o e => hx' b o (Nat.ne_of_lt (Heap.lt_size e)) e
        refine Caps.each hp (by rw [Array.length_toList, e0]) ?_
        refine Caps.store (us := its.toArray.toList) (vs := vs) hN hp (by simpa using rv) (by rw [Array.length_toList, e0]) I2 fun s3 I3 => ?_
        refine thn (hg.run pins s3 _ H1 _ I3 q) fun b s4 ⟨H2, I4, q4⟩ => ?_
        cases b with
        | true => exact hb.run pins s4 _ H2 D I4 (by simpa using q4)
        | false => exact last I4 (by simpa using q4)
      · refine matchSeq_tuple_miss p fit (by rw [en, hp.len]; exact el) ?_ hstar hwild
        exact last (I1.tok _) q
    · obtain ⟨its, rv, p, hz⟩ := I1.list hq
      have hl := rv.length
      have fit : (its.toArray.size : Int) < 2 ^ 63 := fitL (by rw [List.size_toArray, ← hl]; exact hz)
      have en : its.toArray.size = vs.length := by rw [List.size_toArray, hl]
      rcases q with ⟨el, q⟩ | ⟨el, q⟩
      · have e0 : ps.length = its.toArray.size := by rw [en, el, hp.len]
        refine matchSeq_list_hit p.isList fit e0.symm ?_ hstar hwild
        rw [e0]
        refine PySem.W.kun_itemsOf (s := { s1 with toks := s1.toks + 1 + 1 }) (I.ok.hd hc) p.isList fun h' hx' => ?_
        have I2 := (I1.tok (s1.toks + 1 + 1)).kept (h' := h') (t' := s1.toks + 1 + 1) fun b o e => hx' b o (Nat.ne_of_lt (Heap.lt_size e)) e
        refine Caps.each hp (by rw [Array.length_toList, e0]) ?_
        refine Caps.store (us := its.toArray.toList) (vs := vs) hN hp (by simpa using rv) (by rw [Array.length_toList, e0]) I2 fun s3 I3 => ?_
        refine thn (hg.run pins s3 _ H1 _ I3 q) fun b s4 ⟨H2, I4, q4⟩ => ?_
        cases b with
        | true => exact hb.run pins s4 _ H2 D I4 (by simpa using q4)
        | false => exact last I4 (by simpa using q4)
      · refine matchSeq_list_miss p.isList fit (by rw [en, hp.len]; exact el) ?_ hstar hwild
        exact last (I1.tok _) q
  · have miss : ∀ {T : String}, s1.TypeIs u T → flagOfType true (.type T) = pure false → wpAny (model X.prog X.w) X.A (matchPattern (.MatchSequence ps p1) X.env u) (fun r s₁ => match r with
          | none => wpAny (model X.prog X.w) X.A (matchCases [⟨.MatchAs none none p2, none, other⟩] X.env u false) (SP X pins D) X.xe s₁
          | some bs => wpAny (model X.prog X.w) X.A (assignInOrder (bs.map fun (n, _) => bindName X.env n) (bs.map (·.2))) (fun _ s₂ => wpAny (model X.prog X.w) X.A (isTrue g X.env (eval g X.env))
                  (fun ok s₃ => if ok then wpAny (model X.prog X.w) X.A (execs body X.env) (SP X pins D) X.xe s₃ else wpAny (model X.prog X.w) X.A (matchCases [⟨.MatchAs none none p2, none, other⟩] X.env u false) (SP X pins D) X.xe s₃) X.xe s₂) X.xe s₁) X.xe s1 := fun {T} hT hfl => by
      refine wpAny_matchPattern_Sequence (wpAny_collectionFlag hT hfl ?_) hstar hwild
      rw [if_neg (by decide)]
      exact last I1 q
    cases x with
    | non => cases (show u = Value.none from r1); exact miss (T := "NoneType") (by trivial) flag_seq_None
    | bl b => cases (show u = Value.bool b from r1); exact miss (T := "bool") (by trivial) flag_seq_bool
    | int i => obtain ⟨t, rfl⟩ := (show ∃ t, u = Value.int i t from r1); exact miss (T := "int") (by trivial) flag_seq_int
    | str z => obtain ⟨t, rfl⟩ := (show ∃ t, u = Value.str z t from r1); exact miss (T := "str") (by trivial) flag_seq_str
    | byt b => cases hn
    | flt b => cases hn
    | ref a => cases hn
    | ty n => cases hn

end MF
set_option Elab.async false
set_option linter.all false
set_option maxRecDepth 100000
set_option maxHeartbeats 1000000
namespace MF
open PySem PySem.Spec PyProof.Rows L2 StX

structure GFn (P : Program) (w : World) (K : PySem.W.Frag) (mg : Str → Option Value) (base : Heap) (CX : CXT) (k : Nat) (x : Str) (sp : Sp) : Prop where
  ex : ∃ f, FnR P w K mg base CX k f sp ∧ mg x = some (.ref f) ∧ PySem.W.keepIn K (.ref f) = true
structure MFn (P : Program) (w : World) (K : PySem.W.Frag) (mg : Str → Option Value) (base : Heap) (CX : CXT) (k : Nat) (C : Addr) (m : Str) (sp : Sp) : Prop where
  ex : ∃ f, FnR P w K mg base CX k f sp ∧ Meth K C m f
structure IFn (P : Program) (w : World) (K : PySem.W.Frag) (mg : Str → Option Value) (base : Heap) (CX : CXT) (k : Nat) (C : Addr) (x : Str) (sp : Sp) : Prop where
  ex : ∃ f, FnR P w K mg base CX k f sp ∧ Mk K C f ∧ mg x = some (.ref C)
section
variable {P : Program} {w : World} {K : PySem.W.Frag} {mg : Str → Option Value} {base : Heap} {CX : CXT} {j k : Nat} {C : Addr} {x m : Str} {sp sp' : Sp}
theorem GFn.mono (G : GFn P w K mg base CX j x sp) (h : j ≤ k) : GFn P w K mg base CX k x sp := let ⟨f, a, b⟩ := G.ex; ⟨f, a.mono h, b⟩
theorem GFn.imp (G : GFn P w K mg base CX k x sp) (h : ∀ vs H Q E, sp' vs H Q E → sp vs H Q E) : GFn P w K mg base CX k x sp' := let ⟨f, a, b⟩ := G.ex; ⟨f, a.imp h, b⟩
theorem MFn.mono (G : MFn P w K mg base CX j C m sp) (h : j ≤ k) : MFn P w K mg base CX k C m sp := let ⟨f, a, b⟩ := G.ex; ⟨f, a.mono h, b⟩
theorem MFn.imp (G : MFn P w K mg base CX k C m sp) (h : ∀ vs H Q E, sp' vs H Q E → sp vs H Q E) : MFn P w K mg base CX k C m sp' := let ⟨f, a, b⟩ := G.ex; ⟨f, a.imp h, b⟩
end
structure GDef (K : PySem.W.Frag) (mg : Str → Option Value) (x : Str) (st : Stmt) (ps : List Str) : Prop where
  ex : ∃ f fd, Fun K x x st f fd ∧ mg x = some (.ref f) ∧ Binds K fd ps []
structure MDef (K : PySem.W.Frag) (C : Addr) (m qual : Str) (st : Stmt) (ps : List Str) : Prop where
  ex : ∃ f fd, Fun K m qual st f fd ∧ Meth K C m f ∧ Binds K fd ps []
structure IDef (K : PySem.W.Frag) (mg : Str → Option Value) (C : Addr) (x qual : Str) (st : Stmt) (ps : List Str) : Prop where
  ex : ∃ f fd, Fun K "__init__" qual st f fd ∧ Mk K C f ∧ mg x = some (.ref C) ∧ Binds K fd ps []
section
variable {P : Program} {w : World} {K : PySem.W.Frag} {mg : Str → Option Value} {base : Heap} {CX : CXT} {k : Nat} {C : Addr} {x m qual : Str} {st : Stmt} {ps : List Str} {sp : Sp}
theorem raw0 {f : Addr} {fd : FuncData} (F : FnOk P w K mg base CX k f fd ps sp) (hb : Binds K fd ps []) : FnR P w K mg base CX k f sp :=
  (F.raw hb (dvs := []) .nil).imp fun vs H Q E h => by rw [List.append_nil]; exact h
theorem GDef.fn (D : GDef K mg x st ps) (h : ∀ f fd, Fun K x x st f fd → FnOk P w K mg base CX k f fd ps sp) : GFn P w K mg base CX k x sp :=
  let ⟨f, fd, a, b, c⟩ := D.ex
  ⟨f, raw0 (h f fd a) c, b, a.kp⟩
theorem MDef.fn (D : MDef K C m qual st ps) (h : ∀ f fd, Fun K m qual st f fd → FnOk P w K mg base CX k f fd ps sp) : MFn P w K mg base CX k C m sp :=
  let ⟨f, fd, a, b, c⟩ := D.ex
  ⟨f, raw0 (h f fd a) c, b⟩
theorem IDef.fn (D : IDef K mg C x qual st ps) (h : ∀ f fd, Fun K "__init__" qual st f fd → FnOk P w K mg base CX k f fd ps sp) : IFn P w K mg base CX k C x sp :=
  let ⟨f, fd, a, b, c, d⟩ := D.ex
  ⟨f, raw0 (h f fd a) d, b, c⟩
end
section
variable {X : Cx} {CX : CXT} {k : Nat} {C : Addr} {x m : Str} {sp : Sp} {E : XK} {e o : Expr} {es : List Expr} {ta te : TE} {t : TA} {p pos apos sp_ : Pos}
def tG (sp : Sp) (E : XK) (t : TA) : TE := fun σ H Q => t σ H fun vs H1 => sp vs H1 Q E
theorem pe_gX (G : GFn X.prog X.w X.K X.mg X.base CX k x sp) (hr : Room k X.A) (hx : Passes CX X E) (ha : PA X (e :: es) t) (hg : Gl X x := by rfl) (hdb : (x == ("__debug__" : Str)) = false := by decide)
    (he : starEach (e :: es) X.env = (false, eval e X.env) :: starEach es X.env := by rfl) (hpl : (backTo pos (starEach es X.env)).any (·.1) = false := by rfl) :
    PE X (.Call (.Name x p) (e :: es) [] pos) (tG sp E t) := by
  obtain ⟨f, F, hm, hk⟩ := G.ex
  refine ⟨fun pins s σ H Q I h => ?_⟩
  refine wpAny_Call_Name_kw (ld_glob I hg hm ?_ hdb)
  refine PySem.W.callWith_K (h₀ := X.base) I.ok.mod.kin hk (thn (ha.run pos pins s σ H _ I h) fun us s1 ⟨vs, H1, I1, r, q⟩ => ⟨I1.kIn, ?_⟩) he hpl
  exact wpAny_call (run_fnR F hr hx I1 r q)
theorem pe_g (G : GFn X.prog X.w X.K X.mg X.base CX0 k x sp) (hr : Room k X.A) (ha : PA X (e :: es) t) (hg : Gl X x := by rfl) (hdb : (x == ("__debug__" : Str)) = false := by decide)
    (he : starEach (e :: es) X.env = (false, eval e X.env) :: starEach es X.env := by rfl) (hpl : (backTo pos (starEach es X.env)).any (·.1) = false := by rfl) :
    PE X (.Call (.Name x p) (e :: es) [] pos) (tG sp E0 t) := pe_gX G hr pass0 ha hg hdb he hpl
theorem pe_g0X (G : GFn X.prog X.w X.K X.mg X.base CX k x sp) (hr : Room k X.A) (hx : Passes CX X E) (hg : Gl X x := by rfl) (hdb : (x == ("__debug__" : Str)) = false := by decide) :
    PE X (.Call (.Name x p) [] [] pos) (tG sp E tNil) := by
  obtain ⟨f, F, hm, hk⟩ := G.ex
  refine ⟨fun pins s σ H Q I h => ?_⟩
  refine wpAny_Call_Name_kw (ld_glob I hg hm ?_ hdb)
  exact PySem.W.callWith_K0 I.kIn hk (wpAny_call (run_fnR (us := []) F hr hx I .nil h))
theorem pe_gS (G : GFn X.prog X.w X.K X.mg X.base CX k x sp) (hr : Room k X.A) (hx : Passes CX X E) (he : PE X e te) (hg : Gl X x := by rfl) (hdb : (x == ("__debug__" : Str)) = false := by decide)
    (hst : starEach [.Starred e sp_] X.env = [(true, eval e X.env)] := by rfl) :
    PE X (.Call (.Name x p) [.Starred e sp_] [] pos) (tG sp E (tStar X.K te tNil)) := by
  obtain ⟨f, F, hm, hk⟩ := G.ex
  refine ⟨fun pins s σ H Q I h => ?_⟩
  refine wpAny_Call_Name_kw (ld_glob I hg hm ?_ hdb)
  refine PySem.W.callWith_S (h₀ := X.base) I.ok.mod.kin hk (thn (he.run pins s σ H _ I h) fun v s1 ⟨y, H1, I1, ry, a, xs, ey, hxs, q⟩ => ?_) hst
  subst ey
  obtain rfl : v = Value.ref a := ry
  refine star_any I1 hxs fun us s2 I2 rv => ⟨I2.kIn, wpAny_call (run_fnR F hr hx I2 rv ?_)⟩
  have q' : sp (xs ++ []) H1 Q E := q
  rw [List.append_nil] at q'
  exact q'
theorem pe_mkX (G : IFn X.prog X.w X.K X.mg X.base CX k C x sp) (hr : Room (k + 1) X.A) (hx : Passes CX X E) (ha : PA X (e :: es) t) (hg : Gl X x := by rfl) (hdb : (x == ("__debug__" : Str)) = false := by decide)
    (he : starEach (e :: es) X.env = (false, eval e X.env) :: starEach es X.env := by rfl) (hpl : (backTo pos (starEach es X.env)).any (·.1) = false := by rfl) : PE X (.Call (.Name x p) (e :: es) [] pos) (tMakeR C sp E t) := by
  obtain ⟨f, F, M, hm⟩ := G.ex
  exact pe_makeR M F hr hg hm hx ha hdb he hpl
theorem pe_mk0X (G : IFn X.prog X.w X.K X.mg X.base CX k C x sp) (hr : Room (k + 1) X.A) (hx : Passes CX X E) (hg : Gl X x := by rfl) (hdb : (x == ("__debug__" : Str)) = false := by decide) : PE X (.Call (.Name x p) [] [] pos) (tMakeR C sp E tNil) := by
  obtain ⟨f, F, M, hm⟩ := G.ex
  refine ⟨fun pins s σ H Q I h => ?_⟩
  refine wpAny_Call_Name_kw (ld_glob I hg hm ?_ hdb)
  exact PySem.W.callWith_K0 I.kIn M.kp (run_makeR (us := []) M F hr hx I .nil h)
theorem pe_mkS (G : IFn X.prog X.w X.K X.mg X.base CX k C x sp) (hr : Room (k + 1) X.A) (hx : Passes CX X E) (he : PE X e te) (hg : Gl X x := by rfl) (hdb : (x == ("__debug__" : Str)) = false := by decide)
    (hst : starEach [.Starred e sp_] X.env = [(true, eval e X.env)] := by rfl) : PE X (.Call (.Name x p) [.Starred e sp_] [] pos) (tMakeR C sp E (tStar X.K te tNil)) := by
  obtain ⟨f, F, M, hm⟩ := G.ex
  refine ⟨fun pins s σ H Q I h => ?_⟩
  refine wpAny_Call_Name_kw (ld_glob I hg hm ?_ hdb)
  refine PySem.W.callWith_S (h₀ := X.base) I.ok.mod.kin M.kp (thn (he.run pins s σ H _ I h) fun v s1 ⟨y, H1, I1, ry, a, xs, ey, hxs, q⟩ => ?_) hst
  subst ey
  obtain rfl : v = Value.ref a := ry
  refine star_any I1 hxs fun us s2 I2 rv => ⟨I2.kIn, run_makeR M F hr hx I2 rv ?_⟩
  have q' : ∀ x dx, H1 x = none → H1 dx = none → dx ≠ x → sp (V.ref x :: (xs ++ [])) (upd (upd H1 dx (.own x)) x (.ins C dx [])) (fun v H2 => v = .non ∧ Q (.ref x) H2) E := q
  rw [List.append_nil] at q'
  exact q'
theorem pe_mkS2 (G : IFn X.prog X.w X.K X.mg X.base CX k C x sp) (hr : Room (k + 1) X.A) (hx : Passes CX X E) (ha : PA X (e :: es) t) (hg : Gl X x := by rfl) (hdb : (x == ("__debug__" : Str)) = false := by decide)
    (he : starEach (e :: es) X.env = (false, eval e X.env) :: starEach es X.env := by rfl) (hst : (backTo pos (starEach es X.env)).any (·.1) = true := by rfl) : PE X (.Call (.Name x p) (e :: es) [] pos) (tMakeR C sp E t) := by
  obtain ⟨f, F, M, hm⟩ := G.ex
  refine ⟨fun pins s σ H Q I h => ?_⟩
  refine wpAny_Call_Name_kw (ld_glob I hg hm ?_ hdb)
  refine PySem.W.callWith_S2 (h₀ := X.base) I.ok.mod.kin M.kp (thn (ha.run pos pins s σ H _ I h) fun us s1 ⟨vs, H1, I1, r, q⟩ => ⟨I1.kIn, ?_⟩) he hst
  exact run_makeR M F hr hx I1 r q
def tM (C : Addr) (m : Str) (sp : Sp) (E : XK) (ta : TE) (t : TA) : TE := fun σ H Q => ta σ H fun x H1 => ∃ a dx fs, x = .ref a ∧ H1 a = some (.ins C dx fs) ∧ fs.lookup m = none ∧ t σ H1 fun vs H2 => sp (x :: vs) H2 Q E
theorem pe_mX {pl : Sem Bool} (G : MFn X.prog X.w X.K X.mg X.base CX k C m sp) (c : Cls X.K C) (hr : Room k X.A) (hx : Passes CX X E) (he : PE X o ta) (ha : PA X (e :: es) t)
    (hst : starEach (e :: es) X.env = (false, eval e X.env) :: starEach es X.env := by rfl) (hpl : (backTo pos (starEach es X.env)).any (·.1) = false := by rfl)
    (ht : eval (.Call (.Attribute o m apos) (e :: es) [] pos) X.env = (do
      let ov ← eval o X.env
      standAt apos.atName
      let (f, first) ← holding [ov] (getMethod ov m pl)
      callWith pos f first (backTo pos (starEach (e :: es) X.env)) (backToKw pos (keywordEach [] X.env))) := by rfl) :
    PE X (.Call (.Attribute o m apos) (e :: es) [] pos) (tM C m sp E ta t) := by
  obtain ⟨f, F, hm⟩ := G.ex
  refine ⟨fun pins s σ H Q I h => ?_⟩
  refine PySem.W.methodCall_KW (pl := pl) (thn (he.run pins s σ H _ I h) fun u s1 ⟨x, H1, I1, rx, a, dx, fs, ex, ea, l, q⟩ => ?_) ht
  subst ex
  obtain rfl : u = Value.ref a := rx
  refine getmeth_ok I1 ea c hm l ?_
  refine PySem.W.callWith_K (first := [.ref a]) (h₀ := X.base) I.ok.mod.kin hm.kp (thn (ha.run pos pins s1 σ H1 _ I1 q) fun us s2 ⟨vs, H2, I2, r, q2⟩ => ⟨I2.kIn, ?_⟩) hst hpl
  exact wpAny_call (run_fnR (us := .ref a :: us) (vs := .ref a :: vs) F hr hx I2 (.cons rfl r) q2)
theorem pe_m {pl : Sem Bool} (G : MFn X.prog X.w X.K X.mg X.base CX0 k C m sp) (c : Cls X.K C) (hr : Room k X.A) (he : PE X o ta) (ha : PA X (e :: es) t)
    (hst : starEach (e :: es) X.env = (false, eval e X.env) :: starEach es X.env := by rfl) (hpl : (backTo pos (starEach es X.env)).any (·.1) = false := by rfl)
    (ht : eval (.Call (.Attribute o m apos) (e :: es) [] pos) X.env = (do
      let ov ← eval o X.env
      standAt apos.atName
      let (f, first) ← holding [ov] (getMethod ov m pl)
      callWith pos f first (backTo pos (starEach (e :: es) X.env)) (backToKw pos (keywordEach [] X.env))) := by rfl) :
    PE X (.Call (.Attribute o m apos) (e :: es) [] pos) (tM C m sp E0 ta t) := pe_mX G c hr pass0 he ha hst hpl ht
theorem pe_mX0 {pl : Sem Bool} (G : MFn X.prog X.w X.K X.mg X.base CX k C m sp) (c : Cls X.K C) (hr : Room k X.A) (hx : Passes CX X E) (he : PE X o ta)
    (ht : eval (.Call (.Attribute o m apos) [] [] pos) X.env = (do
      let ov ← eval o X.env
      standAt apos.atName
      let (f, first) ← holding [ov] (getMethod ov m pl)
      callWith pos f first (backTo pos (starEach [] X.env)) (backToKw pos (keywordEach [] X.env))) := by rfl) :
    PE X (.Call (.Attribute o m apos) [] [] pos) (tM C m sp E ta tNil) := by
  obtain ⟨f, F, hm⟩ := G.ex
  refine ⟨fun pins s σ H Q I h => ?_⟩
  refine PySem.W.methodCall_KW (pl := pl) (thn (he.run pins s σ H _ I h) fun u s1 ⟨x, H1, I1, rx, a, dx, fs, ex, ea, l, q⟩ => ?_) ht
  subst ex
  obtain rfl : u = Value.ref a := rx
  refine getmeth_ok I1 ea c hm l ?_
  exact PySem.W.callWith_K0 (first := [.ref a]) I1.kIn hm.kp (wpAny_call (run_fnR (us := [.ref a]) (vs := [.ref a]) F hr hx I1 (.cons rfl .nil) q))
theorem pe_m0 {pl : Sem Bool} (G : MFn X.prog X.w X.K X.mg X.base CX0 k C m sp) (c : Cls X.K C) (hr : Room k X.A) (he : PE X o ta)
    (ht : eval (.Call (.Attribute o m apos) [] [] pos) X.env = (do
      let ov ← eval o X.env
      standAt apos.atName
      let (f, first) ← holding [ov] (getMethod ov m pl)
      callWith pos f first (backTo pos (starEach [] X.env)) (backToKw pos (keywordEach [] X.env))) := by rfl) :
    PE X (.Call (.Attribute o m apos) [] [] pos) (tM C m sp E0 ta tNil) := pe_mX0 G c hr pass0 he ht
theorem pe_gint {n : Int} (h : ∃ t, X.mg x = some (.int n t)) (hg : Gl X x := by rfl) (hd : (x == ("__debug__" : Str)) = false := by decide) : PE X (.Name x pos) (tC (.int n)) := by
  obtain ⟨t, h⟩ := h
  exact pe_glob hg h ⟨_, rfl⟩ hd
theorem pe_gstr {z : Str} (h : ∃ t, X.mg x = some (.str z t)) (hg : Gl X x := by rfl) (hd : (x == ("__debug__" : Str)) = false := by decide) : PE X (.Name x pos) (tC (.str z)) := by
  obtain ⟨t, h⟩ := h
  exact pe_glob hg h ⟨_, rfl⟩ hd
end
theorem op_ownR {X : Cx} {op : Operator} {C f : Addr} {m : Str} {CX : CXT} {k : Nat} {sp : Sp} {E : XK} (hc : PySem.W.selfFirst X.K C = true) (M : Meth X.K C m f) (F : FnR X.prog X.w X.K X.mg X.base CX k f sp) (hr : Room k X.A) (hx : Passes CX X E) (hm : PySem.dunder op.info.2 = m := by rfl) :
    OpR X (binaryOp op) (fun x y H Q => ∃ a b dx dy fs gs, x = .ref a ∧ y = .ref b ∧ H a = some (.ins C dx fs) ∧ H b = some (.ins C dy gs) ∧ sp [.ref a, .ref b] H Q E) := by
  subst hm
  rintro pins s σ H x y u v Q I rx ry ⟨a, b, dx, dy, fs, gs, rfl, rfl, ea, eb, h⟩
  obtain rfl : u = Value.ref a := rx
  obtain rfl : v = Value.ref b := ry
  obtain ⟨mA, O, _⟩ := ins_get I.hok ea
  obtain ⟨mB, O', _⟩ := ins_get I.hok eb
  obtain ⟨od, ia, _⟩ := O.look
  obtain ⟨od', ib, _⟩ := O'.look
  obtain ⟨mm, fr⟩ := I.fr
  refine PySem.W.binop_K fr I.mod.kin ia ib.type hc M.at_ M.fn ?_
  refine thn (wpAny_call (run_fnR (us := [.ref a, .ref b]) (vs := [.ref a, .ref b]) F hr hx I (.cons rfl (.cons rfl .nil)) h)) fun r s' hq => ?_
  obtain ⟨z, H', I', rz, q⟩ := hq
  exact notNI rz ⟨z, H', I', rz, q⟩
structure SDef (K : PySem.W.Frag) (mg : Str → Option Value) (C : Addr) (x qual : Str) (st : Stmt) (p1 pv : Str) : Prop where
  ex : ∃ f fd, Fun K "__init__" qual st f fd ∧ Mk K C f ∧ mg x = some (.ref C) ∧ ∀ us rest : List Value, us.length = [p1].length → bindArgs fd ⟨us ++ rest, []⟩ = (newTuple rest >>= fun t => pure ([p1].zip us ++ [(pv, t)]))
theorem SDef.fn0 {P : Program} {w : World} {K : PySem.W.Frag} {mg : Str → Option Value} {base : Heap} {k : Nat} {C : Addr} {x qual p1 pv : Str} {st : Stmt} {N : List Str} {sp : Sp} (D : SDef K mg C x qual st p1 pv) (S : FnScope N [p1, pv] (defScope st))
    (hbody : ∀ (f : Addr) (cdv : Value) (A : Around) (outer : List Env) (s : Shared) (H : Hp) (vs : List V) (Q : VK) (E : XK), Room k (A.deeper (envOfC qual (defScope st) s.heap.objs.size f cdv)) → sp vs H Q E →
      ∃ t, PSs (cxOf CX0 P w K mg base N qual (defScope st) f cdv A outer s H E).nox (defBody st) t ∧ t { nx := fun _ H' => Q .non H', rt := Q } (start N vs) H) :
    IFn P w K mg base CX0 (k + 1) C x (fun vs H Q E => ∃ v rest, vs = v :: rest ∧ rest.length ≤ sizeLine ∧ ∀ p, H p = Option.none → sp [v, V.ref p] (upd H p (.tup rest)) Q E) := by
  obtain ⟨f, fd, F, M, hm, hb⟩ := D.ex
  obtain ⟨oc, od, kV, doc, pm, an, cdv, ct, osl, rfl, lk, hcd⟩ := F.ex
  refine ⟨f, (fn_star (ps := [p1]) (pv := pv) (sp := sp) lk hcd S cxUp_none hb fun A outer s H vs Q E hr hsp => ?_).imp fun vs H Q E h => ?_, M, hm⟩
  · obtain ⟨t, h, q⟩ := hbody f cdv A outer s H vs Q E hr hsp
    exact ⟨t, h.nox, q⟩
  · obtain ⟨v, rest, rfl, hl, q⟩ := h
    exact ⟨[v], rest, rfl, rfl, hl, q⟩
end MF
set_option Elab.async false
set_option linter.all false
set_option maxRecDepth 100000
set_option maxHeartbeats 1000000
namespace MF
open PySem PySem.Spec PyProof.Rows L2 StX PySem.W
structure UseP (P : Program) (FL : Str) : Prop where
  file : ((P.main.file : Str) == FL) = true
  top : (P.main.scope.names.lookup ("super" : Str)).isSome = false
structure SFun (FL : Str) (K : PySem.W.Frag) (mg : Str → Option Value) (x qual : Str) (st : Stmt) (f C cc cda : Addr) (fd : FuncData) : Prop where
  ex : ∃ (oc : Value) (od : Option Addr) (kV doc pm : Value) (an : Option Addr) (ct : Value) (osl : Array (Option Value)), fd = ksFn x qual (defArgs st) (defBody st) (defScope st) .none kV doc pm an (.ref cda) ct cc ∧ K.lookup f = some ⟨oc, od, .func fd, osl⟩
  cd : codeIn K (.ref cda) qual = true
  co : ∃ (ccl : Value) (cdd : Option Addr) (vs : Array Value) (ccs : Array (Option Value)) (tf : Tok), K.lookup cda = some ⟨ccl, cdd, .fields vs, ccs⟩ ∧ vs[2]? = some (.str FL tf)
  ce : ∃ (cl : Value) (cld : Option Addr) (csl : Array (Option Value)), K.lookup cc = some ⟨cl, cld, .cell (some (.ref C)), csl⟩
  cls : ∃ cd, clsIn K C = some cd
  sub : mroIn K C (.ref C) = some true
  mgs : mg "super" = none
  opq : nsIn K cStatics "thirdparty.any" = some none
  kp : keepIn K (.ref f) = true
structure SMeth (K : PySem.W.Frag) (C : Addr) (m : Str) (f2 : Addr) : Prop where
  at_ : ks_superIn K C C m = some (some (.ref f2))
  ty : typeIn K (.ref f2) = some (.type "function")
  fi : fnIn K f2 = true
  nc : (m == ("__class__" : Str)) = false
structure SScope (N ps : List Str) (sc : Scope) : Prop where
  kind : sc.kind = .function
  co : sc.isCoroutine = false
  gen : sc.isGenerator = false
  nd : N.Nodup
  pre : N.take ps.length = ps
  par : ∀ x ∈ ps, sc.names.lookup x = some .local
  cell : ∀ y ∈ sc.names, y.2 ≠ .cell
  free : ∀ y ∈ sc.names, y.2 = .free → y.1 = ("__class__" : Str)
  sup : sc.names.lookup ("super" : Str) = some .globalImplicit
  cls : sc.names.lookup ("__class__" : Str) = some .free
  slf : ∃ rest, ps = ("self" : Str) :: rest
def scxOf (CX : CXT) (P : Program) (w : World) (K : PySem.W.Frag) (mg : Str → Option Value) (base : Heap) (N : List Str) (qual : Str) (scope : Scope) (f cda cc : Addr) (A : Around) (outer : List Env) (s : Shared) (H : Hp) (E : XK) : Cx where
  prog := P
  w := w
  K := K
  mg := mg
  base := base
  A := A.deeper (ksEnv qual scope s.heap.objs.size f (.ref cda) cc)
  N := N
  s_0 := s
  H_0 := H
  env := ksEnv qual scope s.heap.objs.size f (.ref cda) cc
  outer := outer
  stack := ksEnv qual scope s.heap.objs.size f (.ref cda) cc :: outer
  ex := []
  calm := true
  fn := fun _ => false
  pn := []
  xe := fun e s' => wpAny (model P w) (A.deeper (ksEnv qual scope s.heap.objs.size f (.ref cda) cc)) (leaving (ksEnv qual scope s.heap.objs.size f (.ref cda) cc) e) (fun _ s'' => CX outer H s E e s'') (fun e' s'' => CX outer H s E e' s'') s'
section
variable {CX : CXT} {P : Program} {w : World} {K : PySem.W.Frag} {mg : Str → Option Value} {base : Heap} {N ps : List Str} {qual : Str} {scope : Scope} {f cda cc C : Addr} {A : Around} {outer : List Env} {s : Shared} {H : Hp} {E : XK} {us : List Value} {vs : List V}
theorem rev_lookup : ∀ {ps : List Str} {us : List Value} {i : Nat} {y : Str} {u : Value}, ps.Nodup → ps[i]? = some y → us[i]? = some u → ps.length = us.length → (ps.zip us).reverse.lookup y = some u := by
  intro ps us i y u nd h1 h2 hl
  have hm : (y, u) ∈ (ps.zip us) := by
    refine List.mem_of_getElem? (i := i) ?_
    rw [List.getElem?_zip_eq_some]
    exact ⟨h1, h2⟩
  have nd2 : ((ps.zip us).map (·.1)).Nodup := by
    rw [List.map_fst_zip (by omega)]
    exact nd
  have key : ∀ (l : List (Str × Value)), (l.map (·.1)).Nodup → (y, u) ∈ l → l.lookup y = some u := by
    intro l
    induction l with
    | nil => intro _ h; cases h
    | cons p l ih =>
      intro hn hm
      obtain ⟨a, b⟩ := p
      simp only [List.map_cons, List.nodup_cons] at hn
      rcases List.mem_cons.mp hm with e | e
      · cases e
        simp [List.lookup]
      · have hne : ¬ y = a := fun z => hn.1 (z ▸ List.mem_map.mpr ⟨(y, u), e, rfl⟩)
        have : (y == a) = false := by simp [hne]
        simp only [List.lookup, this]
        exact ih hn.2 e
  refine key _ ?_ (List.mem_reverse.mpr hm)
  rw [List.map_reverse]
  exact List.pairwise_reverse.mpr (nd2.imp fun h => Ne.symm h)
theorem inv_startS {h₁ : Heap} {tk : Nat} (S : SScope N ps scope) (hd : A.handled = none) (e0 : Env0 P w K mg base A outer s H) (hl : vs.length = ps.length) (r : Vals vs us) (ce : ∃ (cl : Value) (cld : Option Addr) (csl : Array (Option Value)), K.lookup cc = some ⟨cl, cld, .cell (some (.ref C)), csl⟩)
    (hns : h₁.Ns s.heap.objs.size fun y => (ps.zip us).reverse.lookup y) (kp : ∀ b o, s.heap.get? b = some o → h₁.get? b = some o) :
    Inv (scxOf CX P w K mg base N qual scope f cda cc A outer s H E) [] (L2.start N vs) H { s with heap := h₁, toks := tk } := by
  obtain ⟨cl, cld, csl, lc⟩ := ce
  have bc := e0.mod.kin _ _ lc
  have noA : ∀ b : Addr, b ∉ (scxOf CX P w K mg base N qual scope f cda cc A outer s H E).ex := fun b z => absurd (show b ∈ ([] : List Addr) from z) (by simp)
  have lk : ∀ {y c}, List.lookup y [(("__class__" : Str), cc)] = some c → y = "__class__" ∧ c = cc := fun {y c} e => by
    have := PySem.mem_of_lookup e
    simp at this
    exact this
  have hpl : ps.length ≤ N.length := by have := congrArg List.length S.pre; rw [List.length_take] at this; omega
  refine ⟨⟨e0.mod, S.kind, rfl, rfl, Nat.le_refl _, fun y z c e1 e2 => ?_, fun y hy => ?_, fun y c z _ => ?_, fun _ => hd, Around.frames_deeper e0.frames, .inr ⟨rfl, rfl⟩, fun b z => absurd z (noA b), e0.bs, e0.bsz, fun b _ _ => noA b,
      fun b z => absurd z (noA b), e0.funs, e0.frf⟩,
    rfl, e0.bare, Un.kept kp, ⟨_, hns, fun i y v h1 h2 h3 => ?_⟩, fun y c e => ?_, e0.hok.fresh (Nat.le_refl _), fun y c e => ?_, fun q hq => absurd (show q ∈ ([] : List (Addr × Obj)) ++ [] from hq) (by simp), e0.hok.kept kp, ?_⟩
  · rw [(lk e1).1, (lk e2).1]
  · have hy : scope.names.lookup y = some .cell ∨ scope.names.lookup y = some .free := hy
    rcases hy with hy | hy
    · exact absurd rfl (S.cell _ (PySem.mem_of_lookup hy))
    · have e : y = ("__class__" : Str) := S.free _ (PySem.mem_of_lookup hy) rfl
      subst e
      exact ⟨cc, rfl⟩
  · have z : false = true := z
    cases z
  · have hi : i < vs.length := by
      unfold L2.start at h2
      by_cases hi : i < vs.length
      · exact hi
      · rw [List.getElem?_append_right (by simpa using hi)] at h2
        rw [List.getElem?_replicate] at h2
        split at h2 <;> cases h2
    have ha : vs[i]? = some v := by
      unfold L2.start at h2
      rw [List.getElem?_append_left (by simpa using hi), List.getElem?_map] at h2
      cases e : vs[i]? with
      | none => rw [e] at h2; cases h2
      | some a => rw [e] at h2; cases h2; rfl
    obtain ⟨u, hu, rv⟩ := r.get ha
    have hp : ps[i]? = some y := by
      rw [← S.pre, List.getElem?_take_of_lt (by omega)]; exact h1
    have ndP : ps.Nodup := by rw [← S.pre]; exact S.nd.sublist (List.take_sublist _ _)
    exact ⟨u, rv, .inl ⟨S.par y (List.mem_of_getElem? hp), rev_lookup ndP hp hu (by rw [← r.length, hl])⟩⟩
  · rw [(lk e).2]
    exact ⟨_, _, kp _ _ (e0.bs _ _ bc).1, rfl⟩
  · rw [(lk e).2]
    exact (e0.bs _ _ bc).2
  · unfold L2.start
    show _ = N.length
    rw [List.length_append, List.length_map, List.length_replicate]
    omega
end
section
variable {FL : Str} {X : Cx} {pins : List (Addr × Obj)} {σ : L2.St} {H : Hp} {s : Shared} {P : Program} {x qual m : Str} {st : Stmt} {f C cc cda f2 o dx : Addr} {fd : FuncData} {N ps : List Str} {fs : List (Str × V)} {body : List Stmt} {L : Addr} {ar : Arg} {p0 p1 p2 p3 p4 : Pos}
theorem super_at {whole : Sem Value} (U : UseP X.prog FL) (he : X.env = ksEnv qual (defScope st) L f (.ref cda) cc) (F : SFun FL X.K X.mg x qual st f C cc cda fd) (S : SScope X.N ps (defScope st)) (hp : ((defArgs st).posonlyargs ++ (defArgs st).args).head? = some ar) (ha : ar.arg = "self")
    (hat : (m == ("__class__" : Str)) = false) (I : Inv X pins σ H s) (hs : σ[0]? = some (some (.ref o))) (ho : H o = some (.ins C dx fs)) {Q : Value → Shared → Prop} (h : ∀ so s', Inv X ((so, ks_superObj C o C) :: pins) σ H s' → Q (.ref so) s') :
    _root_.PySem.wpAt (model X.prog X.w) X.A (.func body X.env) (attributeBase (.Call (.Name "super" p0) [] [] p1) m X.env whole) Q X.xe s := by
  obtain ⟨oc, od, kV, doc, pm, an, ct, osl, rfl, lk⟩ := F.ex
  obtain ⟨ccl, cdd, vs, ccs, tf, lco, hvs⟩ := F.co
  obtain ⟨cl, cld, csl, lce⟩ := F.ce
  obtain ⟨cd, hcd⟩ := F.cls
  have KX := I.kIn
  obtain ⟨oD, hD1, hD2⟩ : ∃ oD, s.heap.get? C = some oD ∧ oD.data = .cls cd := by
    unfold clsIn at hcd
    split at hcd
    · rename_i c d cd' sl hh
      cases hcd
      exact ⟨_, KX _ _ hh, rfl⟩
    · cases hcd
  obtain ⟨mA, O, _⟩ := ins_get I.hok ho
  obtain ⟨rest, eps⟩ := S.slf
  have hN0 : X.N[0]? = some ("self" : Str) := by
    have := S.pre
    rw [eps] at this
    cases e : X.N with
    | nil => rw [e] at this; simp at this
    | cons a l =>
      rw [e] at this
      simp at this
      rw [this.1]
      rfl
  have hself : (defScope st).names.lookup ("self" : Str) = some .local := S.par _ (by rw [eps]; simp)
  obtain ⟨ml, hns, hlook⟩ := I.loc
  obtain ⟨u, ru, hu⟩ := hlook 0 "self" (.ref o) hN0 hs (by rw [he]; exact .inl hself)
  obtain rfl : u = Value.ref o := ru
  have hm : ml "self" = some (.ref o) := by
    rcases hu with ⟨_, z⟩ | ⟨z, _⟩
    · exact z
    · rw [he] at z
      have z : (defScope st).names.lookup ("self" : Str) = some .cell ∨ (defScope st).names.lookup ("self" : Str) = some .free := z
      rw [hself] at z
      rcases z with z | z <;> cases z
  obtain ⟨mb, hb1, hb2⟩ := I.mod.blt
  have hglob := I.ok.glob
  have hblt := I.ok.blt
  have kS : X.env.kindOf "super" = some .globalImplicit := by rw [he]; exact S.sup
  have kC : X.env.kindOf "__class__" = some .free := by rw [he]; exact S.cls
  have kL : X.env.kindOf "self" = some .local := by rw [he]; exact hself
  have cellsC : X.env.cells.lookup ("__class__" : Str) = some cc := by rw [he]; rfl
  refine ks_wpAt_super_base (env := X.env) (f := f) (cc := cda) kS kC hat (by rw [he]) (KX _ _ lk) rfl hp (by rw [he]) (KX _ _ lco) rfl hvs U.file U.top ?_
  refine ks_loadName_global I.ok.kind kS (PySem.Calls.loadGlobal_builtin (env := X.env) (by rw [hglob]; exact I.mod.glob.keeps I.bk) F.mgs (by rw [hblt]; exact hb1.keeps I.bk) ((hb2 _ (by decide +kernel)).trans (show bootBuiltins "super" = some (.type "super") by first | boot_by_name | rfl | kernel_rfl)) ⟨rfl, ?_⟩)
  refine wpAny_loadName_free I.ok.kind kC cellsC ⟨_, KX _ _ lce, rfl⟩ ?_
  rw [ha]
  refine wpAny_loadName_local I.ok.kind kL hns hm ?_
  refine ks_wpAny_isType_cls hD1 hD2 ⟨rfl, ?_⟩
  refine ks_wpAny_call_super (x := o) (C := C) (D := C) hD1 hD2 O.obj rfl (fun c e => by cases e) (looks_mroIn KX F.sub) fun h' e k => ?_
  exact h _ _ (ClX.pin_new (t' := s.toks) I k (Nat.le_refl _) e (fun v z => by cases z))
theorem super_meth {A : Around} {E : Value → Shared → Prop} {so : Addr} {pl : Sem Bool} (F : SFun FL X.K X.mg x qual st f C cc cda fd) (M : SMeth X.K C m f2) (I : Inv X ((so, ks_superObj C o C) :: pins) σ H s) (ho : H o = some (.ins C dx fs)) {Q : Value × List Value → Shared → Prop}
    (h : ∀ q s', Inv X ((q, methodObj (.ref f2) (.ref o)) :: pins) σ H s' → X.base.get? q = none → Q (.ref q, []) s') : wpAny (model X.prog X.w) A (getMethod (.ref so) m pl) Q E s := by
  obtain ⟨cd, hcd⟩ := F.cls
  have KX := I.kIn
  have hm := M.at_
  unfold ks_superIn at hm
  rw [hcd] at hm
  obtain ⟨of, hof, hofc⟩ : ∃ of, s.heap.get? f2 = some of ∧ of.cls = .type "function" := by
    have ht' : (X.K.lookup f2).map (·.cls) = some (.type "function") := M.ty
    cases z : X.K.lookup f2 with
    | none => rw [z] at ht'; cases ht'
    | some of => rw [z] at ht'; exact ⟨of, KX _ _ z, Option.some.inj ht'⟩
  have hne : o ≠ C := fun z => by
    subst z
    unfold clsIn at hcd
    split at hcd
    · rename_i c d cd' sl hh
      have := (I.bs _ _ (I.ok.mod.kin _ _ hh)).2
      rw [ho] at this
      cases this
    · cases hcd
  have hso := ClX.pin_at I
  have I0 := ClX.unpin I
  have hbn := ClX.base_none I0 (Nat.le_refl _)
  obtain ⟨hh, g, d, t, os⟩ := s
  refine ks_wpAny_getMethod_super (D := C) hso (looks_opaque KX F.opq) (l₀ := cd.mro) (fun A Q E s k q => wpAny_bind ((looks_clsIn KX hcd) A _ E s k (wpAny_pure q))) rfl KX hm hof hofc hne M.nc ?_
  exact h _ _ (ClX.pin_new (s := ⟨hh, g, d, t, os⟩) (t' := t + 1) I0 (fun _ _ z => Heap.get?_push_of_some _ z) (Nat.le_refl _) (Heap.get?_push_size hh rfl) (fun v z => nomatch z)) hbn
theorem run_sm {CX : CXT} {k : Nat} {q : Addr} {sp : Sp} {E : XK} {Q : VK} {us : List Value} {vs : List V} (R : FnR X.prog X.w X.K X.mg X.base CX k f2 sp) (hr : Room k X.A) (hx : Passes CX X E) (I : Inv X ((q, methodObj (.ref f2) (.ref o)) :: pins) σ H s)
    (r : Vals vs us) (h : sp (.ref o :: vs) H Q E) : wpAny (model X.prog X.w) X.A (call (.ref q) us) (EP X pins σ Q) X.xe s := by
  have z : wpAny (model X.prog X.w) X.A (call (.ref q) us) (EP X ((q, methodObj (.ref f2) (.ref o)) :: pins) σ Q) X.xe s :=
    wpAny_call (method_call (ClX.pin_at I) (run_fnR (us := .ref o :: us) (vs := .ref o :: vs) R hr hx I (.cons rfl r) h))
  exact thn z fun _ _ y => ClX.unpinE y
theorem super_call {CX : CXT} {k : Nat} {sp : Sp} {E : XK} {e : Expr} {es : List Expr} {t : TA} (U : UseP X.prog FL) (he : X.env = ksEnv qual (defScope st) L f (.ref cda) cc) (F : SFun FL X.K X.mg x qual st f C cc cda fd) (S : SScope X.N ps (defScope st)) (hp : ((defArgs st).posonlyargs ++ (defArgs st).args).head? = some ar) (ha : ar.arg = "self")
    (M : SMeth X.K C m f2) (R : FnR X.prog X.w X.K X.mg X.base CX k f2 sp) (hr : Room k X.A) (hx : Passes CX X E) (hA : PA X (e :: es) t)
    (I : Inv X pins σ H s) (hs : σ[0]? = some (some (.ref o))) (ho : H o = some (.ins C dx fs)) {Q : VK} (h : t σ H fun vs H1 => sp (.ref o :: vs) H1 Q E)
    (hst : starEach (e :: es) X.env = (false, eval e X.env) :: starEach es X.env) (hpl : (backTo p3 (starEach es X.env)).any (·.1) = false) {pl : Sem Bool}
    (hev : eval (.Call (.Attribute (.Call (.Name "super" p0) [] [] p1) m p2) (e :: es) [] p3) X.env = (do
      let ov ← attributeBase (.Call (.Name "super" p0) [] [] p1) m X.env (eval (.Call (.Name "super" p0) [] [] p1) X.env)
      standAt p2.atName
      let (f, first) ← holding [ov] (getMethod ov m pl)
      callWith p3 f first (backTo p3 (starEach (e :: es) X.env)) [])) :
    _root_.PySem.wpAt (model X.prog X.w) X.A (.func body X.env) (eval (.Call (.Attribute (.Call (.Name "super" p0) [] [] p1) m p2) (e :: es) [] p3) X.env) (EP X pins σ Q) X.xe s := by
  refine ks_wpAt_MethodCall (pl := pl) (super_at U he F S hp ha M.nc I hs ho fun so s1 I1 => ?_) hev
  refine super_meth F M I1 ho fun q s2 I2 hb => ?_
  have hL : q ≠ X.env.locals := (I2.pin (q, methodObj (.ref f2) (.ref o)) (List.mem_append_right _ List.mem_cons_self)).2.2.1
  refine callWith_M (K := X.K) (h₀ := X.base) (first := []) I2.ok.mod.kin (news_at hL hb (ClX.pin_at I2)) List.mem_cons_self M.fi ?_ hst hpl
  refine thn (hA.run p3 _ s2 σ H _ I2 h) fun us s3 ⟨vs, H3, I3, r, q3⟩ => ⟨⟨ClX.pin_at I3, I3.kIn⟩, ?_⟩
  exact run_sm R hr hx I3 r q3
theorem super_call0 {CX : CXT} {k : Nat} {sp : Sp} {E : XK} (U : UseP X.prog FL) (he : X.env = ksEnv qual (defScope st) L f (.ref cda) cc) (F : SFun FL X.K X.mg x qual st f C cc cda fd) (S : SScope X.N ps (defScope st)) (hp : ((defArgs st).posonlyargs ++ (defArgs st).args).head? = some ar) (ha : ar.arg = "self")
    (M : SMeth X.K C m f2) (R : FnR X.prog X.w X.K X.mg X.base CX k f2 sp) (hr : Room k X.A) (hx : Passes CX X E)
    (I : Inv X pins σ H s) (hs : σ[0]? = some (some (.ref o))) (ho : H o = some (.ins C dx fs)) {Q : VK} (h : sp [.ref o] H Q E) {pl : Sem Bool}
    (hev : eval (.Call (.Attribute (.Call (.Name "super" p0) [] [] p1) m p2) [] [] p3) X.env = (do
      let ov ← attributeBase (.Call (.Name "super" p0) [] [] p1) m X.env (eval (.Call (.Name "super" p0) [] [] p1) X.env)
      standAt p2.atName
      let (f, first) ← holding [ov] (getMethod ov m pl)
      callWith p3 f first (backTo p3 (starEach [] X.env)) [])) :
    _root_.PySem.wpAt (model X.prog X.w) X.A (.func body X.env) (eval (.Call (.Attribute (.Call (.Name "super" p0) [] [] p1) m p2) [] [] p3) X.env) (EP X pins σ Q) X.xe s := by
  refine ks_wpAt_MethodCall (pl := pl) (super_at U he F S hp ha M.nc I hs ho fun so s1 I1 => ?_) hev
  refine super_meth F M I1 ho fun q s2 I2 hb => ?_
  refine callWith_M0 (K := X.K) (first := []) ⟨ClX.pin_at I2, I2.kIn⟩ M.fi ?_
  exact run_sm (vs := []) (us := []) R hr hx I2 .nil h
end
section
variable {FL : Str} {P : Program} {w : World} {K : PySem.W.Frag} {mg : Str → Option Value} {base : Heap} {x qual m : Str} {st : Stmt} {f C cc cda f2 : Addr} {fd : FuncData} {N ps : List Str} {ar : Arg} {p0 p1 p2 p3 p4 : Pos} {k : Nat} {sp sp2 : Sp}
theorem SFun.fn {CX : CXT} (F : SFun FL K mg x qual st f C cc cda fd) (S : SScope N ps (defScope st)) (len : ∀ vs H Q E, sp vs H Q E → vs.length = ps.length)
    (hbody : ∀ (A : Around) (outer : List Env) (s s1 : Shared) (H : Hp) (vs : List V) (Q : VK) (E : XK), Room k (A.deeper (ksEnv qual (defScope st) s.heap.objs.size f (.ref cda) cc)) → sp vs H Q E →
      Inv (scxOf CX P w K mg base N qual (defScope st) f cda cc A outer s H E) [] (L2.start N vs) H s1 →
      _root_.PySem.wpAt (model P w) (A.deeper (ksEnv qual (defScope st) s.heap.objs.size f (.ref cda) cc)) (.func (defBody st) (ksEnv qual (defScope st) s.heap.objs.size f (.ref cda) cc)) (execs (defBody st) (ksEnv qual (defScope st) s.heap.objs.size f (.ref cda) cc))
        (SP (scxOf CX P w K mg base N qual (defScope st) f cda cc A outer s H E) [] { nx := fun _ H' => Q .non H', rt := Q }) (scxOf CX P w K mg base N qual (defScope st) f cda cc A outer s H E).xe s1) : FnOk P w K mg base CX (k + 1) f fd ps sp := by
  obtain ⟨oc, od, kV, doc, pm, an, ct, osl, rfl, lk⟩ := F.ex
  refine ⟨len, fun A outer s H args us vs Q E hr e0 hb r hsp => ?_⟩
  have hl := len _ _ _ _ hsp
  have KX : K.In s.heap := e0.mod.kin.keeps fun b o e => (e0.bs b o e).1
  have lim : s.heap.NoLimit := e0.mod.nolimit.keeps fun b o e => (e0.bs b o e).1
  refine ks_codeAny_call_defAt (fd := ksFn x qual (defArgs st) (defBody st) (defScope st) .none kV doc pm an (.ref cda) ct cc) (body := defBody st) (binds := ps.zip us) hr.depth (KX _ _ lk) rfl lim (codeRec_of KX F.cd) rfl hb S.cell (fun y hy => S.par _ (List.of_mem_zip hy).1) (fun h₁ hns kp => ?_) S.co S.gen S.kind
  have I : Inv (scxOf CX P w K mg base N qual (defScope st) f cda cc A outer s H E) [] (L2.start N vs) H { s with heap := h₁, toks := s.toks + (ps.zip us).length } := inv_startS S hr.hd e0 hl r F.ce hns kp
  refine ks_wpAt_mono (hbody A outer s _ H vs Q E (hr.deeper _) hsp I) (fun fl s' hs => ?_) fun e s' hs => hs
  have fin : ∀ {σ' : L2.St} {H' : Hp} {v : V} {u : Value}, Inv (scxOf CX P w K mg base N qual (defScope st) f cda cc A outer s H E) [] σ' H' s' → RelV v u → Q v H' → CE outer P w H s Q u s' :=
    fun {σ' H' v u} J rv q => ⟨v, H', J.os, J.bare, J.base, J.hok, rv, q⟩
  cases fl with
  | ret u =>
    obtain ⟨v, σ', H', J, rv, q⟩ := hs
    exact fin J rv q
  | next =>
    obtain ⟨σ', H', J, q⟩ := hs
    exact fin (v := V.non) (u := Value.none) J rfl q
  | brk =>
    obtain ⟨_, _, _, q⟩ := hs
    exact False.elim q
  | cont =>
    obtain ⟨_, _, _, q⟩ := hs
    exact False.elim q
theorem SFun.fnE {e : Expr} {es : List Expr} {rest : List Stmt} (U : UseP P FL) (F : SFun FL K mg x qual st f C cc cda fd) (S : SScope N ps (defScope st)) (M : SMeth K C m f2) (R : FnR P w K mg base CX0 k f2 sp2) (len : ∀ vs H Q E, sp vs H Q E → vs.length = ps.length)
    (hb : defBody st = .Expr (.Call (.Attribute (.Call (.Name "super" p0) [] [] p1) m p2) (e :: es) [] p3) p4 :: rest)
    (hp : ((defArgs st).posonlyargs ++ (defArgs st).args).head? = some ar) (ha : ar.arg = "self")
    (hst : ∀ env : Env, starEach (e :: es) env = (false, eval e env) :: starEach es env) (hpl : ∀ env : Env, (backTo p3 (starEach es env)).any (·.1) = false) (pl : Env → Sem Bool)
    (hev : ∀ env : Env, eval (.Call (.Attribute (.Call (.Name "super" p0) [] [] p1) m p2) (e :: es) [] p3) env = (do
      let ov ← attributeBase (.Call (.Name "super" p0) [] [] p1) m env (eval (.Call (.Name "super" p0) [] [] p1) env)
      standAt p2.atName
      let (f, first) ← holding [ov] (getMethod ov m (pl env))
      callWith p3 f first (backTo p3 (starEach (e :: es) env)) []))
    (hsw : ∀ L, swapsWith (.Call (.Attribute (.Call (.Name "super" p0) [] [] p1) m p2) (e :: es) [] p3) none p4.line (ksEnv qual (defScope st) L f (.ref cda) cc) = pure false)
    (hint : ∀ L, interactive (ksEnv qual (defScope st) L f (.ref cda) cc) = false)
    (hbody : ∀ (A : Around) (outer : List Env) (s : Shared) (H : Hp) (vs : List V) (Q : VK) (E : XK), Room k (A.deeper (ksEnv qual (defScope st) s.heap.objs.size f (.ref cda) cc)) → sp vs H Q E →
      ∃ o dx fs ta t, (L2.start N vs)[0]? = some (some (.ref o)) ∧ H o = some (.ins C dx fs) ∧ PA (scxOf CX0 P w K mg base N qual (defScope st) f cda cc A outer s H E).nox (e :: es) ta ∧ PSs (scxOf CX0 P w K mg base N qual (defScope st) f cda cc A outer s H E).nox rest t ∧
        ta (L2.start N vs) H fun us H1 => sp2 (.ref o :: us) H1 (fun _ H2 => t { nx := fun _ H' => Q .non H', rt := Q } (L2.start N vs) H2) fun _ _ _ => False) : FnOk P w K mg base CX0 (k + 1) f fd ps sp := by
  refine F.fn S len fun A outer s s1 H vs Q E hr hsp I => ?_
  obtain ⟨o, dx, fs, ta, t, h0, ho, pA, pS, hq⟩ := hbody A outer s H vs Q E hr hsp
  rw [hb]
  have I' := I.wish (fun _ _ => False)
  refine ks_wpAt_mono (Q := SP (scxOf CX0 P w K mg base N qual (defScope st) f cda cc A outer s H E).nox [] { nx := fun _ H' => Q .non H', rt := Q }) (E := fun _ _ => False) ?_ (fun _ _ q => q.unwish) fun _ _ z => z.elim
  refine ks_wpAt_execs_cons (ks_wpAt_Expr_any ?_ (hint _) (hsw _))
  refine ks_wpAt_mono (super_call (X := (scxOf CX0 P w K mg base N qual (defScope st) f cda cc A outer s H E).nox) (E := fun _ _ _ => False) U rfl F S hp ha M R hr pass0 pA I' h0 ho hq (hst _) (hpl _) (hev _)) (fun v s2 ⟨y, H2, I2, r2, q2⟩ => ?_) fun _ _ z => z
  exact _root_.PySem.wpAt_of_wpAny (pS.run [] s2 _ H2 _ I2 q2)
theorem SFun.fnA {y : Str} {py : Pos} {j : Nat} {rest : List Stmt} (U : UseP P FL) (F : SFun FL K mg x qual st f C cc cda fd) (S : SScope N ps (defScope st)) (M : SMeth K C m f2) (R : FnR P w K mg base CX0 k f2 sp2) (len : ∀ vs H Q E, sp vs H Q E → vs.length = ps.length)
    (hb : defBody st = .Assign [.Name y py] (.Call (.Attribute (.Call (.Name "super" p0) [] [] p1) m p2) [] [] p3) p4 :: rest) (hj : N[j]? = some y) (hy : (defScope st).names.lookup y = some .local)
    (hp : ((defArgs st).posonlyargs ++ (defArgs st).args).head? = some ar) (ha : ar.arg = "self") (pl : Env → Sem Bool)
    (hev : ∀ env : Env, eval (.Call (.Attribute (.Call (.Name "super" p0) [] [] p1) m p2) [] [] p3) env = (do
      let ov ← attributeBase (.Call (.Name "super" p0) [] [] p1) m env (eval (.Call (.Name "super" p0) [] [] p1) env)
      standAt p2.atName
      let (f, first) ← holding [ov] (getMethod ov m (pl env))
      callWith p3 f first (backTo p3 (starEach [] env)) []))
    (hsw : ∀ L, swapsWith (.Call (.Attribute (.Call (.Name "super" p0) [] [] p1) m p2) [] [] p3) (some (.Name y py)) p4.line (ksEnv qual (defScope st) L f (.ref cda) cc) = pure false)
    (hbody : ∀ (A : Around) (outer : List Env) (s : Shared) (H : Hp) (vs : List V) (Q : VK) (E : XK), Room k (A.deeper (ksEnv qual (defScope st) s.heap.objs.size f (.ref cda) cc)) → sp vs H Q E →
      ∃ o dx fs t, (L2.start N vs)[0]? = some (some (.ref o)) ∧ H o = some (.ins C dx fs) ∧ PSs (scxOf CX0 P w K mg base N qual (defScope st) f cda cc A outer s H E).nox rest t ∧
        sp2 [.ref o] H (fun v H1 => t { nx := fun _ H' => Q .non H', rt := Q } ((L2.start N vs).set j (some v)) H1) fun _ _ _ => False) : FnOk P w K mg base CX0 (k + 1) f fd ps sp := by
  refine F.fn S len fun A outer s s1 H vs Q E hr hsp I => ?_
  obtain ⟨o, dx, fs, t, h0, ho, pS, hq⟩ := hbody A outer s H vs Q E hr hsp
  rw [hb]
  have I' := I.wish (fun _ _ => False)
  refine ks_wpAt_mono (Q := SP (scxOf CX0 P w K mg base N qual (defScope st) f cda cc A outer s H E).nox [] { nx := fun _ H' => Q .non H', rt := Q }) (E := fun _ _ => False) ?_ (fun _ _ q => q.unwish) fun _ _ z => z.elim
  refine ks_wpAt_execs_cons (ks_wpAt_Assign_Name ?_ (hsw _))
  refine ks_wpAt_mono (super_call0 (X := (scxOf CX0 P w K mg base N qual (defScope st) f cda cc A outer s H E).nox) (E := fun _ _ _ => False) U rfl F S hp ha M R hr pass0 I' h0 ho hq (hev _)) (fun v s2 ⟨u, H2, I2, r2, q2⟩ => ?_) fun _ _ z => z
  refine store_ok I2 S.nd hj (.inl hy) r2 (fun s3 I3 => ?_) (.inr hy)
  exact _root_.PySem.wpAt_of_wpAny (pS.run [] s3 _ H2 _ I3 q2)
end
structure XDef (FL : Str) (K : PySem.W.Frag) (mg : Str → Option Value) (C : Addr) (m qual : Str) (st : Stmt) (ps : List Str) (f2 : Addr) : Prop where
  ex : ∃ f fd cc cda, SFun FL K mg m qual st f C cc cda fd ∧ PySem.W.findIn K (.ref C) m = some (some (.ref f)) ∧ PySem.W.isFn K (.ref f) = true ∧ Binds K fd ps [] ∧ SMeth K C m f2
theorem sfun_mk {FL : Str} {K : PySem.W.Frag} {mg : Str → Option Value} {x qual : Str} {st : Stmt} {f C cc cda : Addr} {oc ccl cl : Value} {od an cdd cld : Option Addr} {osl ccs csl : Array (Option Value)} {kV doc pm ct : Value} {vs : Array Value} {tf : Tok}
    (l : K.lookup f = some ⟨oc, od, .func (ksFn x qual (defArgs st) (defBody st) (defScope st) .none kV doc pm an (.ref cda) ct cc), osl⟩) (c : codeIn K (.ref cda) qual = true) (k : keepIn K (.ref f) = true) (lc : K.lookup cda = some ⟨ccl, cdd, .fields vs, ccs⟩) (hv : vs[2]? = some (.str FL tf))
    (ce : K.lookup cc = some ⟨cl, cld, .cell (some (.ref C)), csl⟩) (ic : isClsIn K C = true) (sub : mroIn K C (.ref C) = some true) (hs : mg "super" = none) (op : nsIn K cStatics "thirdparty.any" = some none) :
    SFun FL K mg x qual st f C cc cda (ksFn x qual (defArgs st) (defBody st) (defScope st) .none kV doc pm an (.ref cda) ct cc) :=
  ⟨⟨oc, od, kV, doc, pm, an, ct, osl, rfl, l⟩, c, ⟨ccl, cdd, vs, ccs, tf, lc, hv⟩, ⟨cl, cld, csl, ce⟩, Option.isSome_iff_exists.mp ic, sub, hs, op, k⟩
end MF
set_option Elab.async false
set_option linter.all false
set_option maxRecDepth 100000
set_option maxHeartbeats 1000000
namespace MF
open PySem PySem.Spec PyProof.Rows L2 StX
section
variable {X : Cx} {pins : List (Addr × Obj)} {σ : L2.St} {H : Hp} {s : Shared} {CX : CXT} {k : Nat} {C f : Addr} {sp : Sp} {E : XK}
theorem run_in1 {us : List Value} {vs : List V} {Q : VK} (F : FnR X.prog X.w X.K X.mg X.base CX k f sp) (hr : Room (k + 1) X.A) (hx : Passes CX X E) (I : Inv X pins σ H s) (r : Vals vs us) (h : sp vs H Q E) : wpAny (model X.prog X.w) X.A.in1 (call (.ref f) us) (EP X pins σ Q) X.xe s := by
  have e0 := I.env0
  refine wpAny_call (codeAny_mono (F X.A.in1 X.stack s H us vs Q E hr.in1 ⟨e0.frames, e0.mod, e0.bs, e0.bsz, e0.funs, e0.frf, e0.hok, e0.bare⟩ r h) fun r s' hq => ?_)
  cases r with
  | error e => exact hx pins σ H s e s' I hq
  | ok fl =>
    cases fl with
    | ret u => exact I.after hq
    | next => exact False.elim hq
    | brk => exact False.elim hq
    | cont => exact False.elim hq
def rLenO (C : Addr) (sp : Sp) (E : XK) : List V → Hp → VK → Prop := fun xs H Q => ∃ a dx fs, xs = [.ref a] ∧ H a = some (.ins C dx fs) ∧ sp [.ref a] H (fun v H' => ∃ n : Nat, v = .int (n : Int) ∧ (n : Int) < 2 ^ 63 ∧ Q (.int (n : Int)) H') E
theorem cr_lenO (M : Meth X.K C "__len__" f) (F : FnR X.prog X.w X.K X.mg X.base CX k f sp) (hr : Room (k + 1) X.A) (hx : Passes CX X E) : CallR X (.builtin "len") (rLenO C sp E) := by
  rintro pins s σ H xs us Q I r ⟨a, dx, fs, rfl, ea, h⟩
  rw [Vals.ref1 r]
  obtain ⟨mA, O, _⟩ := ins_get I.hok ea
  obtain ⟨od, ia, _⟩ := O.look
  obtain ⟨mm, fr⟩ := I.fr
  refine PySem.W.len_K fr I.mod.kin ia M.at_ M.fn ?_
  refine thn (run_in1 (us := [.ref a]) (vs := [.ref a]) F hr hx I (.cons rfl .nil) h) fun r s' hq => ?_
  obtain ⟨z, H', I', rz, n, rfl, hn, q⟩ := hq
  obtain ⟨t, rfl⟩ := rz
  exact ⟨⟨by omega, hn⟩, .int n, H', I'.tok _, ⟨_, rfl⟩, q⟩
def rIxO (C : Addr) (sp : Sp) (E : XK) : R2 := fun x y H Q => ∃ a dx fs, x = .ref a ∧ H a = some (.ins C dx fs) ∧ sp [.ref a, y] H Q E
theorem pe_ixO {a b : Expr} {ta tb : TE} {pos : Pos} (M : Meth X.K C "__getitem__" f) (F : FnR X.prog X.w X.K X.mg X.base CX k f sp) (hr : Room (k + 1) X.A) (hx : Passes CX X E) (hfi : PySem.W.fnIn X.K f = true) (ha : PE X a ta) (hb : PE X b tb)
    (hsl : ∀ o i, subscripted b true o i = runValue (.builtin "lifetime.subscript" ⟨[o, i], []⟩)) : PE X (.Subscript a b pos) (tOp (rIxO C sp E) ta tb) := by
  refine ⟨fun pins s σ H Q I h => ?_⟩
  refine Subscript_ (binT ha hb I h fun v u s2 x y H2 I2 rx ry q => ?_)
  obtain ⟨c, dx, fs, rfl, ec, q⟩ := q
  obtain rfl : v = Value.ref c := rx
  obtain ⟨mA, O, _⟩ := ins_get I2.hok ec
  obtain ⟨od, ia, _⟩ := O.look
  obtain ⟨mm, fr⟩ := I2.fr
  refine PySem.W.sub_K fr I2.mod.kin ia M.at_ hfi M.fn ?_ (hsl _ _)
  exact run_in1 (us := [.ref c, u]) (vs := [.ref c, y]) F hr hx I2 (.cons rfl (.cons ry .nil)) q
end
end MF
set_option Elab.async false
set_option linter.all false
set_option maxRecDepth 100000
set_option maxHeartbeats 1000000
namespace MF
open PySem PySem.Spec PyProof.Rows L2 StX ClX
structure PDef (K : PySem.W.Frag) (C : Addr) (m qual : Str) (st : Stmt) (ps : List Str) : Prop where
  ex : ∃ p f fd, Fun K m qual st f fd ∧ PropOf K C m p f ∧ Binds K fd ps []
structure PFn (P : Program) (w : World) (K : PySem.W.Frag) (mg : Str → Option Value) (base : Heap) (CX : CXT) (k : Nat) (C : Addr) (m : Str) (sp : Sp) : Prop where
  ex : ∃ p f fd ps, FnOk P w K mg base CX k f fd ps sp ∧ PropOf K C m p f ∧ Binds K fd ps []
theorem PDef.fn {P : Program} {w : World} {K : PySem.W.Frag} {mg : Str → Option Value} {base : Heap} {CX : CXT} {k : Nat} {C : Addr} {m qual : Str} {st : Stmt} {ps : List Str} {sp : Sp} (D : PDef K C m qual st ps) (h : ∀ f fd, Fun K m qual st f fd → FnOk P w K mg base CX k f fd ps sp) : PFn P w K mg base CX k C m sp :=
  let ⟨p, f, fd, a, b, c⟩ := D.ex
  ⟨p, f, fd, ps, h f fd a, b, c⟩
theorem pe_pr {X : Cx} {k : Nat} {C : Addr} {m : Str} {sp : Sp} {e : Expr} {ta : TE} {pos : Pos} (G : PFn X.prog X.w X.K X.mg X.base CX0 k C m sp) (c : Cls X.K C) (hr : Room (k + 1) X.A) (he : PE X e ta) (hab : attributeBase e m X.env (eval e X.env) = eval e X.env := by rfl) : PE X (.Attribute e m pos) (tProp C sp [] E0 ta) := by
  obtain ⟨p, f, fd, ps, F, hp, hb⟩ := G.ex
  exact pe_prop he c hp F hr hb .nil pass0 hab
structure CDef (K : PySem.W.Frag) (C : Addr) (m qual : Str) (st : Stmt) (ps : List Str) (pv : Str) : Prop where
  ex : ∃ mc p f fd, Fun K m qual st f fd ∧ CRead K C mc ∧ CMet K C mc m p f ∧ ∀ us rest : List Value, us.length = ps.length → bindArgs fd ⟨us ++ rest, []⟩ = (newTuple rest >>= fun t => pure (ps.zip us ++ [(pv, t)]))
structure CFn (P : Program) (w : World) (K : PySem.W.Frag) (mg : Str → Option Value) (base : Heap) (CX : CXT) (k : Nat) (C : Addr) (m : Str) (sp : Sp) : Prop where
  ex : ∃ mc p f, FnR P w K mg base CX k f sp ∧ CRead K C mc ∧ CMet K C mc m p f
theorem CDef.fn0 {P : Program} {w : World} {K : PySem.W.Frag} {mg : Str → Option Value} {base : Heap} {k : Nat} {C : Addr} {m qual pv : Str} {ps : List Str} {st : Stmt} {N : List Str} {sp : Sp} (D : CDef K C m qual st ps pv) (S : FnScope N (ps ++ [pv]) (defScope st))
    (hbody : ∀ (f : Addr) (cdv : Value) (A : Around) (outer : List Env) (s : Shared) (H : Hp) (vs : List V) (Q : VK) (E : XK), Room k (A.deeper (envOfC qual (defScope st) s.heap.objs.size f cdv)) → sp vs H Q E →
      ∃ t, PSs (cxOf CX0 P w K mg base N qual (defScope st) f cdv A outer s H E).nox (defBody st) t ∧ t { nx := fun _ H' => Q .non H', rt := Q } (start N vs) H) :
    CFn P w K mg base CX0 (k + 1) C m (fun vs H Q E => ∃ ws rest, vs = ws ++ rest ∧ ws.length = ps.length ∧ rest.length ≤ sizeLine ∧ ∀ p, H p = Option.none → sp (ws ++ [V.ref p]) (upd H p (.tup rest)) Q E) := by
  obtain ⟨mc, p, f, fd, F, R, M, hb⟩ := D.ex
  obtain ⟨oc, od, kV, doc, pm, an, cdv, ct, osl, rfl, lk, hcd⟩ := F.ex
  refine ⟨mc, p, f, fn_star (ps := ps) (pv := pv) (sp := sp) lk hcd S cxUp_none hb fun A outer s H vs Q E hr hsp => ?_, R, M⟩
  obtain ⟨t, h, q⟩ := hbody f cdv A outer s H vs Q E hr hsp
  exact ⟨t, h.nox, q⟩
theorem bind_star4 {B : List Value → Sem (List (Str × Value))} {p1 p2 p3 p4 pv : Str} (h0 : ∀ a b c d, B [a, b, c, d] = (newTuple [] >>= fun t => pure [(p1, a), (p2, b), (p3, c), (p4, d), (pv, t)])) (h1 : ∀ a b c d r rs, B (a :: b :: c :: d :: r :: rs) = (newTuple (r :: rs) >>= fun t => pure [(p1, a), (p2, b), (p3, c), (p4, d), (pv, t)])) :
    ∀ us rest : List Value, us.length = [p1, p2, p3, p4].length → B (us ++ rest) = (newTuple rest >>= fun t => pure ([p1, p2, p3, p4].zip us ++ [(pv, t)])) := by
  intro us rest hl
  match us, hl with
  | [a, b, c, d], _ =>
    cases rest with
    | nil => exact h0 a b c d
    | cons r rs => exact h1 a b c d r rs
theorem pe_cm {X : Cx} {k : Nat} {C : Addr} {m : Str} {sp : Sp} {o e : Expr} {es : List Expr} {ta : TE} {t : TA} {pos apos : Pos} {pl : Sem Bool} (G : CFn X.prog X.w X.K X.mg X.base CX0 k C m sp) (hr : Room k X.A) (he : PE X o ta) (ha : PA X (e :: es) t)
    (hst : starEach (e :: es) X.env = (false, eval e X.env) :: starEach es X.env := by rfl) (hpl : (backTo pos (starEach es X.env)).any (·.1) = false := by rfl)
    (ht : eval (.Call (.Attribute o m apos) (e :: es) [] pos) X.env = (do
      let ov ← eval o X.env
      standAt apos.atName
      let (f, first) ← holding [ov] (getMethod ov m pl)
      callWith pos f first (backTo pos (starEach (e :: es) X.env)) (backToKw pos (keywordEach [] X.env))) := by rfl) :
    PE X (.Call (.Attribute o m apos) (e :: es) [] pos) (tCMeth C sp E0 ta t) := by
  obtain ⟨mc, p, f, F, R, M⟩ := G.ex
  exact pe_cmeth he R M F hr pass0 ha hst hpl ht
def tMkL (i : Nat) (C : Addr) (sp : Sp) (E : XK) (t : TA) : TE := fun σ H Q => σ[i]? = some (some (.ref C)) ∧ tMakeR C sp E t σ H Q
theorem pe_mkSL {X : Cx} {CX : CXT} {k i : Nat} {C : Addr} {x y : Str} {sp : Sp} {E : XK} {e : Expr} {te : TE} {p pos sp_ : Pos} (G : IFn X.prog X.w X.K X.mg X.base CX k C y sp) (hr : Room (k + 1) X.A) (hx : Passes CX X E) (hN : X.N[i]? = some x) (hv : Vis X.env.scope x) (he : PE X e te)
    (hdb : (x == ("__debug__" : Str)) = false := by decide) (hcd : (x == ("__classdict__" : Str)) = false := by decide)
    (hst : starEach [.Starred e sp_] X.env = [(true, eval e X.env)] := by rfl) : PE X (.Call (.Name x p) [.Starred e sp_] [] pos) (tMkL i C sp E (tStar X.K te tNil)) := by
  obtain ⟨f, F, M, hm⟩ := G.ex
  refine ⟨fun pins s σ H Q I h => ?_⟩
  obtain ⟨hs, ht⟩ := h
  refine wpAny_Call_Name_kw (thn ((pe_var (pos := p) hN hv hdb hcd).run pins s σ H (fun v H1 => v = .ref C ∧ H1 = H) I ⟨.ref C, hs, rfl, rfl⟩) fun u s1 ⟨v, H1, I1, r1, q1⟩ => ?_)
  obtain ⟨rfl, rfl⟩ := q1
  cases r1
  refine PySem.W.callWith_S (h₀ := X.base) I.ok.mod.kin M.kp (thn (he.run pins s1 σ _ _ I1 ht) fun v s1 ⟨y, H1, I1, ry, a, xs, ey, hxs, q⟩ => ?_) hst
  subst ey
  obtain rfl : v = Value.ref a := ry
  refine star_any I1 hxs fun us s2 I2 rv => ⟨I2.kIn, run_makeR M F hr hx I2 rv ?_⟩
  have q' : ∀ x dx, H1 x = none → H1 dx = none → dx ≠ x → sp (V.ref x :: (xs ++ [])) (upd (upd H1 dx (.own x)) x (.ins C dx [])) (fun v H2 => v = .non ∧ Q (.ref x) H2) E := q
  rw [List.append_nil] at q'
  exact q'
end MF
set_option Elab.async false
set_option linter.all false
set_option maxRecDepth 100000
set_option maxHeartbeats 2000000
namespace MF
open PySem PySem.Spec PyProof.Rows L2 StX ClX
theorem passE {P : Program} {w : World} {K : PySem.W.Frag} {mg : Str → Option Value} {base : Heap} {N : List Str} {q : Str} {sc : Scope} {f : Addr} {cdv : Value} {A : Around} {outer : List Env} {s : Shared} {H : Hp} {E : XK} :
    Passes (L2.CX P w) (cxOf (L2.CX P w) P w K mg base N q sc f cdv A outer s H E) E := passes_call (W := fun cls d _ H => E cls d H) (takes_of rfl rfl rfl rfl) fun _ _ _ _ h => h
theorem takeE {P : Program} {w : World} {K : PySem.W.Frag} {mg : Str → Option Value} {base : Heap} {N : List Str} {q : Str} {sc : Scope} {f : Addr} {cdv : Value} {A : Around} {outer : List Env} {s : Shared} {H : Hp} {E : XK} :
    Takes (cxOf (L2.CX P w) P w K mg base N q sc f cdv A outer s H E) (fun cls d _ H => E cls d H) := takes_of rfl rfl rfl rfl
def txtOf : V → Str
  | .str y => y
  | .int i => toString i
  | .bl b => if b then "True" else "False"
  | _ => "None"
def FmtOk : V → Prop
  | .str y => y.length ≤ 1000
  | .int i => i.natAbs.log2 < 1920
  | .bl _ => True
  | .non => True
  | _ => False
def tFmtV (te : TE) : TE := fun σ H Q => te σ H fun x H1 => FmtOk x ∧ ∀ y : Str, y.length ≤ 100000 → Q (.str y) H1
theorem int_len (i : Int) (h : i.natAbs.log2 < 1920) : (Str.ofString (toString i)).length ≤ 100000 := by
  have e := int_text_length_le (k := 1920) (by decide) h
  rw [PySem.ofString_length]
  omega
section
variable {X : Cx}
theorem pe_fmtV {e : Expr} {te : TE} {pos : Pos} (he : PE X e te) : PE X (.FormattedValue e (-1) none pos) (tFmtV te) := by
  refine ⟨fun pins s σ H Q I h => ?_⟩
  refine wpAny_FormattedValue_plain (thn (he.run pins s σ H _ I h) fun v s1 hv => ?_)
  obtain ⟨x, H1, I1, r1, hx, q⟩ := hv
  cases x with
  | str y =>
    obtain ⟨t, rfl⟩ := r1
    have hz : y.length ≤ 1000 := hx
    have hz2 : y.length ≤ sizeLine := Nat.le_trans hz (by rw [sizeLine_eq]; omega)
    exact wpAny_formatField_str ⟨.str y, H1, I1, ⟨t, rfl⟩, q y (by omega)⟩ ⟨.str y, H1, I1.tok _, ⟨_, rfl⟩, q y (by omega)⟩ hz2
  | int i =>
    obtain ⟨t, rfl⟩ := r1
    exact wpAny_formatField_int hx ⟨.str (toString i), H1, I1.tok _, ⟨_, rfl⟩, q _ (int_len i hx)⟩
  | bl b =>
    obtain rfl : v = Value.bool b := r1
    refine wpAny_formatField_bool ⟨.str (if b then "True" else "False"), H1, I1.tok _, ⟨_, rfl⟩, q _ ?_⟩
    cases b <;> decide +kernel
  | non =>
    obtain rfl : v = Value.none := r1
    exact wpAny_formatField_none ⟨.str "None", H1, I1.tok _, ⟨_, rfl⟩, q _ (by decide +kernel)⟩
  | _ => exact hx.elim
structure BaseC (K : PySem.W.Frag) (B : Addr) : Prop where
  ex : ∃ mc, CRead K B mc ∧ PySem.W.findCls K (.ref B) mc "__init__" = some (.val (.builtin "ValueError.__init__"))
theorem pe_binit {pl : Sem Bool} {B : Addr} {x : Str} {e : Expr} {es : List Expr} {ta : TA} {p1 p2 pos : Pos} (hg : Gl X x) (hm : X.mg x = some (.ref B)) (b : BaseC X.K B) (ha : PA X (e :: es) ta) (hdb : (x == ("__debug__" : Str)) = false := by decide)
    (hc : eval (.Call (.Attribute (.Name x p1) "__init__" p2) (e :: es) [] pos) X.env = (do
      let ov ← eval (.Name x p1) X.env
      standAt p2.atName
      let (f, first) ← holding [ov] (getMethod ov "__init__" pl)
      callWith pos f first (backTo pos (starEach (e :: es) X.env)) (backToKw pos (keywordEach [] X.env))) := by rfl)
    (he : starEach (e :: es) X.env = (false, eval e X.env) :: starEach es X.env := by rfl) (hpl : (backTo pos (starEach es X.env)).any (·.1) = false := by rfl) :
    PE X (.Call (.Attribute (.Name x p1) "__init__" p2) (e :: es) [] pos) (tVeI X.K ta) := by
  refine ⟨fun pins s σ H Q I h => ?_⟩
  obtain ⟨mc, r, f0⟩ := b.ex
  refine PySem.W.methodCall_KW (ld_glob I hg hm ?_ hdb) hc
  refine PySem.W.method_cls I.kIn r.ga (PySem.W.cls_value I.kIn r.rd f0 rfl ?_)
  show wpAny _ _ (callWith pos (Value.builtin "ValueError.__init__") [] (backTo pos (starEach (e :: es) X.env)) []) _ _ _
  refine PyProof.Rows.callWith_method1 (thn (ha.run pos pins _ σ H _ (I.tok _) h) fun us s1 ⟨vs, H1, I1, r1, a, C, ws, ev, hl, T, ea, q⟩ => ?_) he hpl
  subst ev
  cases r1 with
  | @cons _ u0 _ ur ra rw' =>
    obtain rfl : u0 = Value.ref a := ra
    have hlen : ur.length ≤ sizeLine := by
      rw [← Paired.length rw', sizeLine_eq]
      omega
    exact oinit_ok T I1 ea hlen fun s' J => ⟨.non, H1, J, rfl, q⟩
end
structure EDef0 (K : PySem.W.Frag) (mg : Str → Option Value) (C : Addr) (x : Str) : Prop where
  bm : PySem.W.excIn K C [.type "ValueError", .type "Exception", .type "BaseException", .type "object"] "ValueError.__new__" = true
  gC : mg x = some (.ref C)
  kC : PySem.W.keepIn K (.ref C) = true
  exC : PySem.W.subIn K (.ref C) (.type "BaseException") = some true
  tyC : PySem.W.typeIn K (.ref C) = some (.type "type")
theorem pmk_0 {X : Cx} {C : Addr} {x : Str} {e : Expr} {es : List Expr} {t : TA} {p pos : Pos} (D : EDef0 X.K X.mg C x) (ha : PA X (e :: es) t) (hg : Gl X x := by rfl) (hdb : (x == ("__debug__" : Str)) = false := by decide)
    (he : starEach (e :: es) X.env = (false, eval e X.env) :: starEach es X.env := by rfl) (hpl : (backTo pos (starEach es X.env)).any (·.1) = false := by rfl) :
    PMk X (.Call (.Name x p) (e :: es) [] pos) (fun σ H Q => t σ H fun vs H1 => vs.length ≤ sizeLine ∧ Q (.ref C) none H1) :=
  pmk_ownA F.excBase_ValueError D.bm D.gC D.kC (raises_own D.exC D.tyC) hg ha hdb he hpl
structure EDef (K : PySem.W.Frag) (mg : Str → Option Value) (C : Addr) (x qual : Str) (st : Stmt) (ps : List Str) : Prop where
  ex : ∃ f fd, Fun K "__init__" qual st f fd ∧ PySem.W.findIn K (.ref C) "__init__" = some (some (.ref f)) ∧ PySem.W.typeIn K (.ref f) = some (.type "function") ∧ Binds K fd ps []
  ox : OexC K C
  gC : mg x = some (.ref C)
structure EFn (P : Program) (w : World) (K : PySem.W.Frag) (mg : Str → Option Value) (base : Heap) (CX : CXT) (k : Nat) (C : Addr) (x : Str) (ps : List Str) (sp : Sp) : Prop where
  ex : ∃ f fd, FnOk P w K mg base CX k f fd ps sp ∧ PySem.W.findIn K (.ref C) "__init__" = some (some (.ref f)) ∧ PySem.W.typeIn K (.ref f) = some (.type "function") ∧ Binds K fd ps []
  ox : OexC K C
  gC : mg x = some (.ref C)
theorem EDef.fn {P : Program} {w : World} {K : PySem.W.Frag} {mg : Str → Option Value} {base : Heap} {CX : CXT} {k : Nat} {C : Addr} {x qual : Str} {st : Stmt} {ps : List Str} {sp : Sp} (D : EDef K mg C x qual st ps) (h : ∀ f fd, Fun K "__init__" qual st f fd → FnOk P w K mg base CX k f fd ps sp) : EFn P w K mg base CX k C x ps sp :=
  let ⟨f, fd, a, b, c, d⟩ := D.ex
  ⟨⟨f, fd, h f fd a, b, c, d⟩, D.ox, D.gC⟩
def spE1 (K : PySem.W.Frag) (C : Addr) (n : Str) : Sp := fun vs H Q _ => ∃ a v, vs = [.ref a, v] ∧ FmtOk v ∧ H a = some (exo a C none) ∧ ∀ dx, H dx = none → dx ≠ a → Q .non (upd (upd H dx (exd dx [(n, v)])) a (exo a C (some dx)))
theorem pmk_1 {X : Cx} {k : Nat} {C : Addr} {x : Str} {ps : List Str} {sp : Sp} {e : Expr} {es : List Expr} {t : TA} {p pos : Pos} (D : EFn X.prog X.w X.K X.mg X.base CX0 k C x ps sp) (hr : Room (k + 1) X.A) (ha : PA X (e :: es) t) (hg : Gl X x := by rfl) (hdb : (x == ("__debug__" : Str)) = false := by decide)
    (he : starEach (e :: es) X.env = (false, eval e X.env) :: starEach es X.env := by rfl) (hpl : (backTo pos (starEach es X.env)).any (·.1) = false := by rfl) :
    PMk X (.Call (.Name x p) (e :: es) [] pos) (tMkO C sp [] t) := by
  obtain ⟨f, fd, F1, b, c, d⟩ := D.ex
  exact pmk_oex (p := p) (pos := pos) (dvs := []) (ds := []) D.ox b c F1 hr d .nil pass0 hg D.gC ha hdb he hpl
theorem e1_fin {K : PySem.W.Frag} {C : Addr} {n : Str} {v : V} {H1 : Hp} {Q : XK} (hf : FmtOk v) (h : ∀ d H3, Same H1 H3 → H1 d = none → H3 d = some (.xd [(n, v)]) → Q (.ref C) (some d) H3) :
    [v].length ≤ 1000 ∧ ∀ a, H1 a = none → spE1 K C n (.ref a :: ([v] ++ [])) (upd H1 a (exo a C none))
      (fun v H2 => v = .non ∧ ∃ (d : Addr) (fs : List (Str × V)), H2 a = some (exo a C (some d)) ∧ H2 d = some (exd d fs) ∧ H1 d = none ∧ Q (.ref C) (some d) (upd (del H2 a) d (.xd fs))) (fun _ _ _ => False) := by
  refine ⟨by simp, fun a ha => ⟨a, v, rfl, hf, upd_same, fun dx hd ne => ⟨rfl, dx, [(n, v)], upd_same, ?_, ?_, ?_⟩⟩⟩
  · rw [upd_ne ne, upd_same]
  · rw [upd_ne ne] at hd
    exact hd
  · have hd1 : H1 dx = none := by
      rw [upd_ne ne] at hd
      exact hd
    refine h dx _ (fun b u e => ?_) hd1 upd_same
    rw [upd_ne (ne_of_none e hd1), del_ne (ne_of_none e ha), upd_ne (ne_of_none e ha), upd_ne (ne_of_none e hd1), upd_ne (ne_of_none e ha)]
    exact e
end MF
namespace PySem.W
open PySem PySem.Spec PySem.Calls PyProof.Rows
section
variable {prog : Program} {w : World} {A : Around} {E : Value → Shared → Prop} {s : Shared} {K : Frag} {x D : Addr} {ox : Obj} {od : Option Obj}
theorem mf_findObj {C : Addr} {name : Str} {a g : Value} (hc : (clsIn K C).isSome = true) (ha : findIn K (.ref C) name = some (some a)) (hg : specialIn K a "__get__" = some (some g)) (ht : takesIn K a = some true) : findObj K C od name = some (.bind g a) := by
  cases od with
  | none => exact findObj_dataN hc ha hg ht
  | some od => exact findObj_data hc ha hg ht
theorem mf_classE {Q : Option Value → Shared → Prop} (hga : findIn K (.ref D) "__getattribute__" = some (some (.builtin "BaseException.__getattribute__"))) (hgt : findIn K (.ref D) "__getattr__" = some none) (hsub : subIn K (.ref D) (.type "BaseException") = some true)
    (hdct : hasDictIn K D = true) (ha : findIn K (.ref D) "__class__" = some (some (.builtin "object.__class__")))
    (hn : specialIn K (.builtin "object.__class__") "__get__" = some (some (.builtin "getset_descriptor.__get__"))) (htk : takesIn K (.builtin "object.__class__") = some true) (hm : mroIn K D (.type "object") = some true)
    (X : K.In s.heap) (I : InstAt s.heap x ox D od) (h : Q (some (.ref D)) { s with toks := s.toks + 1 }) : wpAny (model prog w) A (getAttr? (.ref x) "__class__") Q E s := by
  have hf : findObj K D od "__class__" = some (.bind (.builtin "getset_descriptor.__get__") (.builtin "object.__class__")) := mf_findObj (by obtain ⟨cd, hc, _⟩ := any_some hdct; rw [hc]; rfl) ha hn htk
  obtain ⟨hp, g, d, t, os⟩ := s
  have L0 := I.type (M := model prog w)
  have L1 := looks_findIn (M := model prog w) X hga
  have L2 := looks_findIn (M := model prog w) X hgt
  have L3 := looks_find (M := model prog w) X I hf
  have sub : Looks (model prog w) hp (isInstance (.ref x) (.type "BaseException")) true := L0.andThen (looks_subIn X hsub)
  have hx0 : (false && onTheHeap (Value.builtin "BaseException.__getattribute__")) = false := rfl
  have hx2 : (Value.builtin "BaseException.__getattribute__" == Value.builtin "object.__getattribute__") = false := by decide +kernel
  have hx1 : (onTheHeap (Value.ref D) && Value.builtin "BaseException.__getattribute__" == Value.builtin "object.__getattribute__") = false := by rw [hx2]; rfl
  unfold getAttr? getAttrBy? getAttrBy
  refine wpAny_bind (wpAny_mkText (wpAny_bind (wpAny_attempt (wpAny_holding (wpAny_bind (L0.at (wpAny_bind (L1.at ?_))))))))
  show wpAny _ _ (if (onTheHeap (Value.ref D) && Value.builtin "BaseException.__getattribute__" == Value.builtin "object.__getattribute__") = true then _ else _) _ _ _
  rw [hx1, if_neg Bool.false_ne_true]
  unfold getAttrByItsOwn hookBefore
  refine wpAny_bind ?_
  rw [if_pos (show onTheHeap (Value.ref D) = true from rfl)]
  refine L2.at ?_
  refine wpAny_bind (wpAny_attempt (wpAny_holding ?_))
  unfold callGetattribute
  rw [hx0, if_neg Bool.false_ne_true]
  unfold boundAndCalled
  rw [PySem.F.excAttr_ValueError.ga.bind (.ref x)]
  refine wpAny_bind (wpAny_pure ?_)
  show wpAny _ _ (call (.builtin "BaseException.__getattribute__") [.ref x, .str "__class__" t]) _ _ _
  refine wpAny_call (codeAny_call_builtin PySem.F.excAttr_ValueError.ga.plain PySem.F.entry_bexc_ga ?_)
  refine @check_slot (model prog w) _ _ ⟨hp, g, d, t + 1, os⟩ "BaseException.__getattribute__" "BaseException" "__getattribute__" (.ref x) [.str "__class__" t] [] _ (by decide +kernel) (by decide +kernel) sub (PySem.F.args_bexc_ga (.ref x) (.str "__class__" t)) ?_
  unfold Builtin.«object.__getattribute__»
  refine wpAny_bind (wpAny_of_eq (a := ((Value.ref x : Value), [Value.str "__class__" t])) (by first | rfl | (simp only [slotArgs]; rfl)) ?_)
  refine wpAny_bind (wpAny_pure (wpAny_bind (L0.at (wpAny_bind (L3.at ?_)))))
  show wpAny _ _ (holding [Value.builtin "object.__class__"] (call (.builtin "getset_descriptor.__get__") [.builtin "object.__class__", .ref x, .ref D]) >>= ret) _ _ _
  refine wpAny_bind (wpAny_holding (wpAny_call (class_get (s := ⟨hp, g, d, t + 1, os⟩) (ox := ox) (od := od) X I hm ?_)))
  refine wpAny_pure ?_
  show wpAny _ _ (handedOut (.ref D)) _ _ _
  rw [handedOut_of (v := .ref D) rfl]
  first
    | exact wpAny_pure (wpAny_pure h)
    | exact wpAny_pure h
    | exact wpAny_pure (wpAny_bind (wpAny_pure (wpAny_pure h)))
theorem mf_kitx (hga : findIn K (.ref D) "__getattribute__" = some (some (.builtin "BaseException.__getattribute__"))) (hgt : findIn K (.ref D) "__getattr__" = some none) (hsub : subIn K (.ref D) (.type "BaseException") = some true) (hdct : hasDictIn K D = true) (ha : findIn K (.ref D) "__class__" = some (some (.builtin "object.__class__")))
    (hn : specialIn K (.builtin "object.__class__") "__get__" = some (some (.builtin "getset_descriptor.__get__"))) (htk : takesIn K (.builtin "object.__class__") = some true) (hm : mroIn K D (.type "object") = some true) :
    KitX K (.ref x) (.ref D) (fun h => InstAt h x ox D od) where
  ty := fun _ _ _ I => I.type
  it := fun _ _ X _ => by
    obtain ⟨cdD, hcD, _⟩ := any_some hdct
    unfold clsIn at hcD
    split at hcD
    · rename_i c' d' cd' sl' ho
      intro A' Q' E' s' k q
      unfold isType loadHead
      exact wpAny_bind (wpAny_loadPart (k _ _ (X _ _ ho)) (wpAny_pure q))
    · cases hcD
  ne := fun h tp dd its n sl X htp => by
    obtain ⟨cdD, hcD, _⟩ := any_some hdct
    refine Bool.eq_false_iff.mpr fun q => ?_
    have e : D = tp := Value.ref.inj (beq_iff_eq.mp q)
    subst e
    unfold clsIn at hcD
    split at hcD
    · rename_i c' d' cd' sl' ho
      have z := (X _ _ ho).symm.trans htp
      cases z
    · cases hcD
  ca := fun X I k => mf_classE hga hgt hsub hdct ha hn htk hm X I k
end
end PySem.W
namespace MF
open PySem PySem.Spec PyProof.Rows L2 StX ClX
def DictSt (H : Hp) (d : Option Addr) : Prop := ∀ dd, d = some dd → ∃ fs : List (Str × V), H dd = some (.xd fs)
def rIsX (K : PySem.W.Frag) (D a : Addr) (d : Option Addr) : List V → Hp → VK → Prop := fun xs H Q => ∃ (c : V) (cv : Value) (b : Bool), xs = [.ref a, c] ∧ (∀ u, RelV c u → u = cv) ∧ PySem.W.kitOne K (.ref D) cv = some b ∧ DictSt H d ∧ Q (.bl b) H
theorem call_isX {X : Cx} {a D : Addr} {d : Option Addr} {oe : Obj} {pn : List (Addr × Obj)} (C : ExcC X.K D) (hz : Zc (.ref D) d oe) (hf : ∃ vs, oe.data = .fields vs) : CallR (X.suite a ((a, oe) :: pn)) (.builtin "isinstance") (rIsX X.K D a d) := by
  intro pins s σ H xs us Q I r h
  obtain ⟨c, cv, b, rfl, hcv, e, hd, q⟩ := h
  cases r with
  | cons rx rr =>
    cases rr with
    | cons rt rr =>
      cases rr
      cases rx
      have ec := hcv _ rt
      subst ec
      obtain ⟨hget, _⟩ := I.pin (a, oe) (List.mem_append.mpr (.inl List.mem_cons_self))
      obtain ⟨vs, hv⟩ := hf
      have J : ∃ od, PySem.W.InstAt s.heap a oe D od := by
        cases d with
        | none =>
          obtain ⟨oc, odd, oda, osl⟩ := oe
          obtain ⟨h1, h2⟩ := hz
          dsimp only at h1 h2 hv
          subst h1 h2 hv
          exact ⟨none, hget, rfl, rfl, trivial⟩
        | some dd =>
          obtain ⟨fs, hx⟩ := hd dd rfl
          have hx' : ObjOk X.prog X.w H s.heap dd (.xd fs) := I.hok dd _ hx
          obtain ⟨mA, hns, hr⟩ := hx'
          obtain ⟨od, ho, hl⟩ := lookIn_ns hns
          exact ⟨some od, hget, hz.1, by unfold PySem.W.notCls; rw [hv] <;> rfl, by rw [hz.2]; exact ho⟩
      obtain ⟨od, J⟩ := J
      exact PySem.W.kia_one (PySem.W.mf_kitx C.hg C.hk C.hs C.hd C.ha C.hn C.ht C.hm) I.kIn J e (fun z => nomatch z) fun tk => ⟨.bl b, H, I.kept (t' := tk) fun _ _ z => z, rfl, q⟩
end MF
set_option Elab.async false
set_option linter.all false
set_option maxRecDepth 100000
set_option maxHeartbeats 2000000
namespace MF
open PySem PySem.Spec PyProof.Rows L2 StX LamX
def LamO (f : Addr) (q : Str) (params : Arguments) (body : Expr) (scope : Scope) (cl : List (Str × Addr)) (c' : Addr) : HO := .ext fun h => ∃ pm ctv : Value, h.get? f = some (PySem.W.kla_obj "<lambda>" q params body scope cl pm c' ctv)
theorem lamO_ok {P : Program} {w : World} {H : Hp} {h : Heap} {f c' : Addr} {q : Str} {params : Arguments} {body : Expr} {scope : Scope} {cl : List (Str × Addr)} {pm ctv : Value} (e : h.get? f = some (PySem.W.kla_obj "<lambda>" q params body scope cl pm c' ctv)) : ObjOk P w H h f (LamO f q params body scope cl c') :=
  ⟨⟨pm, ctv, e⟩, ⟨_, e⟩, fun h1 h2 z k => by
    obtain ⟨p, t, a⟩ := z
    exact ⟨p, t, k _ a⟩⟩
theorem lamO_ne {f c' : Addr} {q : Str} {params : Arguments} {body : Expr} {scope : Scope} {cl : List (Str × Addr)} (ps : Array Value) : LamO f q params body scope cl c' ≠ .tbl ps := fun z => by
  unfold LamO at z
  cases z
theorem lamO_at {P : Program} {w : World} {H : Hp} {h : Heap} {f c' : Addr} {q : Str} {params : Arguments} {body : Expr} {scope : Scope} {cl : List (Str × Addr)} (hok : HOk P w H h) (e : H f = some (LamO f q params body scope cl c')) : ∃ pm ctv : Value, h.get? f = some (PySem.W.kla_obj "<lambda>" q params body scope cl pm c' ctv) := by
  have x : ObjOk P w H h f (.ext fun h => ∃ pm ctv : Value, h.get? f = some (PySem.W.kla_obj "<lambda>" q params body scope cl pm c' ctv)) := hok f _ e
  exact x.1
section
variable {X : Cx} {pins : List (Addr × Obj)} {σ : L2.St} {H : Hp} {s : Shared}
theorem lam_makeO {T : List (Addr × Str)} {c P : Addr} {params : Arguments} {body : Expr} {scope : Scope} {pos : Pos} {E : Value → Shared → Prop} {Q : Value → Shared → Prop} (I : Inv X pins σ H s) (TB : TabB X.base X.mg c P) (hcode : X.env.code = .ref c)
    (hm : (P, X.env.qual ++ "<lambda>") ∈ T) (hu : ∀ p ∈ T, p.1 = P → p.2 = X.env.qual ++ "<lambda>") (hT : Tabs T H) (hdef : defaultsOf params X.env = ([], [])) (hfree : ∀ y ∈ scope.names, y.2 = .free → ∃ c, X.env.cells.lookup y.1 = some c)
    (h : ∀ (f c' : Addr) (H1 : Hp) (s' : Shared), Inv X pins σ H1 s' → ExtN H H1 → Tabs T H1 → H f = none → H1 f = some (LamO f (X.env.qual ++ "<lambda>") params body scope (cloFrom X.env.cells scope.names []) c') → H1 c' = some (CodeO c' (X.env.qual ++ "<lambda>")) → Q (.ref f) s') :
    wpAny (model X.prog X.w) X.A (eval (.Lambda params body scope pos) X.env) Q E s := by
  obtain ⟨ps, hP, ht, ha⟩ := hT _ hm
  refine PySem.W.kla_eval hdef ?_
  have bP : s.heap.BuiltinsAt X.mg P := TB.bm.keeps I.bk
  have hP' : s.heap.get? P = some { cls := .none, data := .fields ps } := I.hok P _ hP
  have step : ∀ (h' : Heap) (tk : Nat) (H1 : Hp) (c' : Addr) (ctv : Value), Inv X pins σ H1 { s with heap := h', toks := tk } → s.heap.objs.size ≤ h'.objs.size → ExtN H H1 → Tabs T H1 → H1 c' = some (CodeO c' (X.env.qual ++ "<lambda>")) →
      Q (.ref h'.objs.size) { s with heap := h'.push (PySem.W.kla_obj "<lambda>" (X.env.qual ++ "<lambda>") params body scope (cloFrom X.env.cells scope.names []) ((X.mg "__name__").getD .none) c' ctv), toks := tk } := by
    intro h' tk H1 c' ctv I1 hsz eN T1 hc
    have n1 : H1 h'.objs.size = none := I1.hok.fresh (Nat.le_refl _)
    have J := I1.laid (t' := tk) (a := h'.objs.size) (h' := h'.push (PySem.W.kla_obj "<lambda>" (X.env.qual ++ "<lambda>") params body scope (cloFrom X.env.cells scope.names []) ((X.mg "__name__").getD .none) c' ctv)) (o := LamO h'.objs.size (X.env.qual ++ "<lambda>") params body scope (cloFrom X.env.cells scope.names []) c')
      (fun b o e => Heap.get?_push_of_some _ e) (Nat.le_refl _) (lamO_ok (Heap.get?_push_size _ rfl))
    refine h h'.objs.size c' _ _ J (eN.trans (ExtN.of fun b o e => by rw [upd_ne (ne_of_none e n1)]; exact e)) (T1.ext fun b o e => by rw [upd_ne (ne_of_none e n1)]; exact e) (I.hok.fresh hsz) upd_same (by rw [upd_ne (ne_of_none hc n1)]; exact hc)
  cases hc : codeAmong pos ps.toList with
  | none =>
    refine PySem.W.kla_makeFunction (mg := X.mg) (c := c) (P := P) (ps := ps) (closure_ok hfree) I.ok.glob (I.mod.glob.keeps I.bk) hcode (TB.code.keeps I.bk) hP' ht hc TB.gP bP fun c' ctv h' tk hx hge hlt hrec htb => ?_
    obtain ⟨c2, oc, vs, t, e2, hoc, hd, hv⟩ := hrec
    cases e2
    have nC : H c' = none := I.hok.fresh hge
    have I1 := inv_table (t' := tk) (q := X.env.qual ++ "<lambda>") (more := #[rawInt pos.line, rawInt pos.col, .ref c']) (h' := h') I hP (fun b o hb e => hx b o hb e) htb hge ⟨oc, vs, t, hoc, hd, hv⟩
    have hE : ExtN H (upd (upd H P (.tbl (ps ++ #[rawInt pos.line, rawInt pos.col, .ref c']))) c' (CodeO c' (X.env.qual ++ "<lambda>"))) := fun b o e n => by
      rw [upd_ne (ne_of_none e nC), upd_ne (fun z => n ps (Option.some.inj (e.symm.trans (by rw [z]; exact hP))))]
      exact e
    have eL : (ps ++ #[rawInt pos.line, rawInt pos.col, .ref c']).toList = ps.toList ++ [rawInt pos.line, rawInt pos.col, .ref c'] := by simp
    refine step h' tk _ c' ctv I1 (Nat.le_trans hge (Nat.le_of_lt hlt)) hE (fun p hp => ?_) upd_same
    by_cases hb : p.1 = P
    · rw [hu p hp hb, hb]
      refine ⟨_, by rw [upd_ne (ne_of_none hP nC), upd_same], by rw [eL]; exact PySem.TriplesOk_snoc _ _ _ _ ht, fun p' cv hcv => ?_⟩
      rw [eL] at hcv
      rcases among_app _ ht hcv with z | z
      · obtain ⟨c0, e1, e2⟩ := ha p' cv z
        exact ⟨c0, e1, hE _ _ e2 codeO_ne⟩
      · exact ⟨c', z, upd_same⟩
    · obtain ⟨ps', a1, a2, a3⟩ := hT p hp
      refine ⟨ps', by rw [upd_ne (ne_of_none a1 nC), upd_ne hb]; exact a1, a2, fun p' cv hcv => ?_⟩
      obtain ⟨c0, e1, e2⟩ := a3 p' cv hcv
      exact ⟨c0, e1, hE _ _ e2 codeO_ne⟩
  | some cv =>
    obtain ⟨c', e, hco⟩ := ha pos cv hc
    subst e
    refine PySem.W.kla_makeFunctionHit (mg := X.mg) (c := c) (P := P) (ps := ps) (closure_ok hfree) I.ok.glob (I.mod.glob.keeps I.bk) hcode (TB.code.keeps I.bk) hP' ht hc bP fun ctv h' tk hx hsz => ?_
    exact step h' tk H c' ctv (I.kept (t' := tk) hx) hsz (ExtN.refl H) hT hco
end
structure LamT (X : Cx) (k : Nat) where
  params : Arguments
  body : Expr
  scope : Scope
  t : XK → TE
  L : LamS X.env.scope scope
  bind : ∀ (q : Str) (cl : List (Str × Addr)) (pm cv ctv : Value), bindArgs (PySem.W.kla_fn "<lambda>" q params body scope cl pm cv ctv) ⟨[], []⟩ = pure []
  run : ∀ (A : Around) (outer : List Env) (s : Shared) (H : Hp) (E : XK) (f c' : Addr), Room k (A.deeper (lamEnv X scope s.heap.objs.size f c')) → PE (lamCx X A outer s H E scope f c') body (t E)
def LamAt (X : Cx) {k : Nat} (l : LamT X k) (H : Hp) (f : Addr) : Prop := ∃ c', H f = some (LamO f (X.env.qual ++ "<lambda>") l.params l.body l.scope (cloFrom X.env.cells l.scope.names []) c') ∧ H c' = some (CodeO c' (X.env.qual ++ "<lambda>"))
theorem LamAt.keep {X : Cx} {k : Nat} {l : LamT X k} {H H' : Hp} {f : Addr} (h : LamAt X l H f) (e : ∀ b φ, H b = some (.ext φ) → H' b = some (.ext φ)) : LamAt X l H' f := by
  obtain ⟨c', h1, h2⟩ := h
  exact ⟨c', e _ _ h1, e _ _ h2⟩
def tLamE (T : List (Addr × Str)) (X : Cx) {k : Nat} (l : LamT X k) : TE := fun σ H Q => Tabs T H ∧ ∀ f H1, ExtN H H1 → Tabs T H1 → H f = none → LamAt X l H1 f → Q (.ref f) H1
theorem pe_lamE {X : Cx} {k : Nat} (l : LamT X k) {T : List (Addr × Str)} {c P : Addr} {lpos : Pos} (TB : TabB X.base X.mg c P) (hcode : X.env.code = .ref c) (hmT : (P, X.env.qual ++ "<lambda>") ∈ T) (hu : ∀ p ∈ T, p.1 = P → p.2 = X.env.qual ++ "<lambda>")
    (hdef : defaultsOf l.params X.env = ([], [])) : PE X (.Lambda l.params l.body l.scope lpos) (tLamE T X l) := by
  refine ⟨fun pins s σ H Q I h => ?_⟩
  obtain ⟨hT, h⟩ := h
  exact lam_makeO I TB hcode hmT hu hT hdef (l.L.has I.ok) fun f c' H1 s' I1 eN T1 fn hf hc => ⟨.ref f, H1, I1, rfl, h f H1 eN T1 fn ⟨c', hf, hc⟩⟩
section
variable {X : Cx} {pins : List (Addr × Obj)} {σ : L2.St} {H : Hp} {s : Shared}
theorem pe_actO {CXg : CXT} {Eg : XK} {Ng : List Str} {qg : Str} {sg : Scope} {g f : Addr} {cdg : Value} {k i : Nat} {a : Str} {pn : List (Addr × Obj)} {xe : Value → Shared → Prop} {W : WX} {p1 p2 : Pos} {l : LamT X k}
    (I : Inv X pins σ H s) (tk : Takes ((cxOf CXg X.prog X.w X.K X.mg X.base Ng qg sg g cdg X.A X.stack s H Eg).tr pn xe) W) (hr : Room (k + 1) (X.A.deeper (envOfC qg sg s.heap.objs.size g cdg)))
    (hN : Ng[i]? = some a) (hv : Vis sg a) (hd : (a == ("__debug__" : Str)) = false := by decide) (hcd : (a == ("__classdict__" : Str)) = false := by decide) :
    PE ((cxOf CXg X.prog X.w X.K X.mg X.base Ng qg sg g cdg X.A X.stack s H Eg).tr pn xe) (.Call (.Name a p1) [] [] p2) (fun σZ HZ Q => σZ[i]? = some (some (.ref f)) ∧ LamAt X l HZ f ∧ ∃ E : XK, (∀ cls d H', E cls d H' → W cls d σZ H') ∧ l.t E σ HZ Q) := by
  refine ⟨fun pinsZ sZ σZ HZ Q IZ h => ?_⟩
  obtain ⟨hs, ⟨c', hfO, hcO⟩, E, hW, ht⟩ := h
  refine wpAny_Call_Name_kw (thn ((pe_var (pos := p1) (i := i) hN hv hd hcd).run pinsZ sZ σZ HZ (fun v H1 => v = .ref f ∧ H1 = HZ) IZ ⟨.ref f, hs, rfl, rfl⟩) fun u s1 ⟨v, H1, I1, r1, q1⟩ => ?_)
  obtain ⟨ev, eH⟩ := q1
  subst ev
  rw [eH] at I1
  obtain rfl : u = Value.ref f := r1
  obtain ⟨pm, ctv, of1⟩ := lamO_at I1.hok hfO
  refine PySem.W.callWith_F0 ⟨_, _, _, _, of1⟩ ?_
  have un : Un (frs X.stack) [] H HZ s.heap s1.heap := I1.base
  obtain ⟨⟨oc, vs, t, hoc, hdc, hvc⟩, _, _⟩ := I1.hok c' _ hcO
  have rc : codeAny (model X.prog X.w) (X.A.deeper (envOfC qg sg s.heap.objs.size g cdg)) (.call (.ref f) ⟨[], []⟩) (CR (L2.CX X.prog X.w) (envOfC qg sg s.heap.objs.size g cdg :: X.stack) X.prog X.w HZ s1 Q E) s1 := by
    refine PySem.W.kla_callFunE hr.depth of1 rfl l.L.co l.L.gen rfl ⟨c', oc, vs, t, rfl, hoc, hdc, hvc⟩ ?_
    rw [l.bind]
    refine wpAny_pure (wpAny_newFunctionEnv (fun y hy => (l.L.own y hy).2) (fun y hy => absurd hy (by simp)) (fun h₁ hns hsb => ⟨I1.nolimit.fresh _ hsb, ?_⟩) l.L.kind)
    show codeAny _ _ (.expr l.body (lamEnv X l.scope s1.heap.objs.size f c')) _ _
    have kp : ∀ b o, s1.heap.get? b = some o → h₁.get? b = some o := fun b o e => hsb.extBut b o (Nat.ne_of_lt (Heap.lt_size e)) (Heap.get?_push_of_some _ e)
    have J : Inv (lamCx X (X.A.deeper (envOfC qg sg s.heap.objs.size g cdg)) (envOfC qg sg s.heap.objs.size g cdg :: X.stack) s1 HZ E l.scope f c') [] σ HZ { s1 with heap := h₁, toks := s1.toks + ([] : List (Str × Value)).length } :=
      lam_start2 I l.L I1.env0 hr.hd un hns kp
    refine PySem.W.kla_codeExpr (wpAny_mono ((l.run _ _ s1 HZ E f c' (hr.deeper _)).run [] _ _ HZ Q J ht) (fun v s' hq => ?_) fun e s' hq => hq)
    obtain ⟨w', H', J', rv, q⟩ := hq
    exact ⟨w', H', J'.os, J'.bare, J'.base, J'.hok, rv, q⟩
  refine wpAny_call (codeAny_mono rc fun r s' hq => ?_)
  cases r with
  | error e => exact tk e s' (XE.of_call I1 (fun cls d H' h => hW cls d H' h) hq)
  | ok fl =>
    cases fl with
    | ret u => exact I1.after hq
    | next => exact False.elim hq
    | brk => exact False.elim hq
    | cont => exact False.elim hq
end
def GivesL (X : Cx) (Ng : List Str) (x : Str) (sg : Scope) (g : Addr) (cdg : Value) (bg : List Stmt) (a : Str) (TT : (XK → Hp → VK → Prop) → Hp → VK → Prop) : Prop :=
  ∀ (f : Addr) (s : Shared) (H : Hp) (Q : VK) (ok : Hp → Prop) (tl : XK → Hp → VK → Prop), (∀ (H H' : Hp), (∀ b φ, H b = some (.ext φ) → H' b = some (.ext φ)) → ok H → ok H') →
    (∀ (W : WX) (pn : List (Addr × Obj)) (xe : Value → Shared → Prop) (p1 p2 : Pos), Takes ((cxOf C8.CX0 X.prog X.w X.K X.mg X.base Ng x sg g cdg X.A X.stack s H C8.E0).tr pn xe) W →
      PE ((cxOf C8.CX0 X.prog X.w X.K X.mg X.base Ng x sg g cdg X.A X.stack s H C8.E0).tr pn xe) (.Call (.Name a p1) [] [] p2) (fun σZ HZ Q => σZ[0]? = some (some (.ref f)) ∧ ok HZ ∧ ∃ E : XK, (∀ cls d H', E cls d H' → W cls d σZ H') ∧ tl E HZ Q)) →
    ok H → TT tl H Q → (X.A.deeper (envOfC x sg s.heap.objs.size g cdg)).units + 65 < cLine →
    ∃ t, PSs (cxOf C8.CX0 X.prog X.w X.K X.mg X.base Ng x sg g cdg X.A X.stack s H C8.E0).nox bg t ∧ t { nx := fun _ H' => Q .non H', rt := Q } (L2.start Ng [.ref f]) H
structure LFn (X : Cx) (x a : Str) (TT : (XK → Hp → VK → Prop) → Hp → VK → Prop) : Prop where
  ex : ∃ (g : Addr) (oc : Value) (od : Option Addr) (pg : Arguments) (bg : List Stmt) (sg : Scope) (dV kV doc pm cdv ct : Value) (an : Option Addr) (osl : Array (Option Value)) (Ng : List Str),
    X.mg x = some (.ref g) ∧ PySem.W.keepIn X.K (.ref g) = true ∧ X.K.lookup g = some ⟨oc, od, .func (PySem.W.fnOf x x pg bg sg dV kV doc pm an cdv ct), osl⟩ ∧ PySem.W.codeIn X.K cdv x = true ∧ L2.Binds X.K (PySem.W.fnOf x x pg bg sg dV kV doc pm an cdv ct) [a] [] ∧ FnScope Ng [a] sg ∧ Ng[0]? = some a ∧ Vis sg a ∧
    GivesL X Ng x sg g cdv bg a TT
section
variable {X : Cx} {pins : List (Addr × Obj)} {σ : L2.St} {H : Hp} {s : Shared}
theorem lam_run {k : Nat} {x a : Str} {TT : (XK → Hp → VK → Prop) → Hp → VK → Prop} {l : LamT X k} {f : Addr} {Q : VK} (D : LFn X x a TT) (hr : Room (k + 2) X.A) (I : Inv X pins σ H s) (hl : LamAt X l H f) (h : TT (fun E H' Q' => l.t E σ H' Q') H Q)
    (hd : (a == ("__debug__" : Str)) = false := by decide) (hcd : (a == ("__classdict__" : Str)) = false := by decide) :
    ∃ g : Addr, X.mg x = some (.ref g) ∧ PySem.W.keepIn X.K (.ref g) = true ∧ codeAny (model X.prog X.w) X.A (.call (.ref g) ⟨[.ref f], []⟩) (CR C8.CX0 X.stack X.prog X.w H s Q C8.E0) s := by
  obtain ⟨g, oc, od, pg, bg, sg, dV, kV, doc, pm, cdv, ct, an, osl, Ng, hm, hk, lk, hcg, hb, Sg, hNg, hva, hG⟩ := D.ex
  refine ⟨g, hm, hk, ?_⟩
  refine run_ofS (N := Ng) (ps := [a]) (us := [.ref f]) (vs := [.ref f]) lk hcg Sg hr I.env0 (hb s [.ref f] I.kIn rfl) (.cons rfl .nil) rfl fun hr' => ?_
  obtain ⟨t', ht', hq'⟩ := hG f s H Q (fun H => LamAt X l H f) (fun E H' Q' => l.t E σ H' Q') (fun H H' e z => z.keep e) (fun W pn xe p1 p2 tk => pe_actO (i := 0) (l := l) I tk hr' hNg hva hd hcd) hl h (by have := hr'.un; omega)
  exact ⟨t', ht'.nox, hq'⟩
def tLamC (X : Cx) (k : Nat) (TT : (XK → Hp → VK → Prop) → Hp → VK → Prop) (te : TE) : TE := fun σ H Q => te σ H fun v H1 => ∃ (l : LamT X k) (f : Addr), v = .ref f ∧ LamAt X l H1 f ∧ TT (fun E H' Q' => l.t E σ H' Q') H1 Q
theorem pe_lamC {k : Nat} {x a : Str} {TT : (XK → Hp → VK → Prop) → Hp → VK → Prop} {e : Expr} {te : TE} {p pos : Pos} (D : LFn X x a TT) (hr : Room (k + 2) X.A) (ha : PA X [e] (tCons te tNil)) (hg : Gl X x := by rfl) (hdb : (x == ("__debug__" : Str)) = false := by decide)
    (hst : starEach (e :: []) X.env = (false, eval e X.env) :: starEach [] X.env := by rfl) (hpl : (backTo pos (starEach [] X.env)).any (·.1) = false := by rfl) (hd : (a == ("__debug__" : Str)) = false := by decide) (hcd : (a == ("__classdict__" : Str)) = false := by decide) :
    PE X (.Call (.Name x p) [e] [] pos) (tLamC X k TT te) := by
  obtain ⟨g0, _, _, _, _, _, _, _, _, _, _, _, _, _, _, hm0, hk0, _⟩ := D.ex
  refine ⟨fun pins s σ H Q I h => ?_⟩
  refine wpAny_Call_Name_kw (ld_glob I hg hm0 ?_ hdb)
  let R : V → Hp → Prop := fun v H1 => ∃ (l : LamT X k) (f : Addr), v = .ref f ∧ LamAt X l H1 f ∧ TT (fun E H' Q' => l.t E σ H' Q') H1 Q
  refine PySem.W.callWith_K (h₀ := X.base) I.ok.mod.kin hk0 (thn (ha.run pos pins s σ H (fun vs H1 => match vs with | [v] => R v H1 | _ => False) I h) fun us s1 hh => ?_) hst hpl
  obtain ⟨vs, H1, I1, r1, hR⟩ := hh
  match vs, r1, hR with
  | [v], r1, hR =>
  obtain ⟨l, f, ef, hl, q⟩ := hR
  subst ef
  refine ⟨I1.kIn, ?_⟩
  cases r1 with
  | cons ru rn =>
    cases rn
    cases ru
    obtain ⟨g, hm, hk, rc⟩ := lam_run D hr I1 hl q hd hcd
    rw [hm0] at hm
    cases hm
    refine wpAny_call (codeAny_mono rc fun r s2 hq => ?_)
    cases r with
    | error e => exact (show False from hq).elim
    | ok fl =>
      cases fl with
      | ret u => exact I1.after hq
      | next => exact False.elim hq
      | brk => exact False.elim hq
      | cont => exact False.elim hq
end
end MF
set_option Elab.async false
set_option linter.all false
set_option maxRecDepth 100000
set_option maxHeartbeats 2000000
namespace MF
open PySem PySem.Spec PyProof.Rows L2 StX LamX
structure BI (X : Cx) (pins : List (Addr × Obj)) (σ : L2.St) (H : Hp) (s : Shared) (fp : List Addr) : Prop where
  inv : Inv X pins σ H s
  fp : ∀ b ∈ fp, FpOk X pins H b ∧ b < s.heap.objs.size
theorem BI.now {X : Cx} {pins pins' : List (Addr × Obj)} {σ σ' : L2.St} {H H' : Hp} {s s' : Shared} {fp : List Addr} {scope : Scope} {cenv : Env} (B : BI X pins σ H s fp) (I : Inv (X.blk s H scope cenv fp) pins' σ' H' s') : Inv X pins σ H' s' :=
  B.inv.call' (ch := fp) I.os I.base I.hok I.bare fun b hb => ⟨(B.fp b hb).1.2.2.2.1, (B.fp b hb).1.2.1, (B.fp b hb).1.2.2.2.2.1, (B.fp b hb).1.2.2.2.2.2⟩
section
variable {X : Cx}
theorem lcI_core {pins : List (Addr × Obj)} {s : Shared} {σ : L2.St} {H : Hp} {Q : VK} {elt tg iter : Expr} {ifs : List Expr} {scope : Scope} {own : List (Str × Nat)} {pos pos' : Pos} {wi : TI} {g : TG} {tt : TT} {te : TE} {use : Option (Value → Sem Unit)} {Qf : Value → Shared → Prop}
    (hc : X.calm = true) (hN : X.N.Nodup) (I : Inv X pins σ H s) (hi : PI X tg iter wi) (ok : BlkOk X.N X.env.scope scope own)
    (hg : ∀ (s : Shared) (H : Hp) (C : Addr) (cl : List (Str × Addr)) (fp : List Addr), PG (X.blk s H scope (compEnvC scope cl C X.env) fp) tg g)
    (ht : ∀ (s : Shared) (H : Hp) (C : Addr) (cl : List (Str × Addr)) (fp : List Addr), BI X pins σ H s fp → PTs (X.blk s H scope (compEnvC scope cl C X.env) fp) ifs tt)
    (he : ∀ (s : Shared) (H : Hp) (C : Addr) (cl : List (Str × Addr)) (fp : List Addr), BI X pins σ H s fp → PE (X.blk s H scope (compEnvC scope cl C X.env) fp) elt te) (hs : ∀ x, foldedSetIterable iter X.env x = pure x)
    (h : tLc wi g tt te (own.map (·.2)) σ H Q)
    (hRR : ∀ D C s' m H', Inv X pins σ H' s' → Q (.ref D) H' → s'.heap.Ns C m → FpOk X pins H' C → compPost (model X.prog X.w) X.A X.xe use Qf (.ref D) C (.ok .next) s') :
    wpAny (model X.prog X.w) X.A (comprehension (.ListComp elt [⟨tg, iter, ifs, 0⟩] scope pos) scope X.env pos' (newList []) false (eval iter X.env) use) Qf X.xe s := by
  have hfree : ∀ y ∈ scope.names, y.2 = .free → ∃ c, X.env.cells.lookup y.1 = some c := fun y hy e => by
    rcases ok.free y hy e with k | k
    · exact I.ok.has _ (.inl k)
    · exact I.ok.has _ (.inr k)
  refine wpAny_comprehension_free (use := use) rfl hs (closure_ok hfree) ok.kind (fun y hy e => by rw [ok.uniq y hy, e])
    (thn (hi.run pins s σ H _ I h) fun xv s1 hx => thn hx fun itv s2 h2 => ?_)
  obtain ⟨it, fp, tn, J, H2, e, I2, T, st2, f2, q⟩ := h2
  subst e
  refine wpAny_newObj_type (newEnv_comp ?_) (by show 0 ≤ sizeLine; decide)
  generalize hD : s2.heap.objs.size = D
  have hDn : H2 D = none := I2.hok.fresh (Nat.le_of_eq hD)
  obtain ⟨W, ⟨m0, w0⟩, turn⟩ := q D hDn
  generalize hs3 : ({ s2 with heap := s2.heap.push { cls := .type "list", data := .seq ([] : List Value).toArray } } : Shared) = s3
  have I3 : Inv X pins σ (upd H2 D (.lst [])) s3 := by
    rw [← hs3]
    refine I2.laid (t' := s2.toks) (fun b o e => Heap.get?_push_of_some _ e) (Nat.le_of_eq hD) ⟨Nat.zero_le _, [], 0, .nil, ?_⟩
    rw [← hD]
    exact Heap.get?_push_size _ rfl
  have h3 : s3.heap = s2.heap.push { cls := .type "list", data := .seq ([] : List Value).toArray } := by rw [← hs3]
  have f3 : ∀ b ∈ fp, FpOk X pins (upd H2 D (.lst [])) b ∧ b < s3.heap.objs.size := fun b hb => by
    obtain ⟨o, e, _⟩ := T.obj _ _ st2 b hb
    have hlt := Heap.lt_size e
    refine ⟨⟨?_, (f2 b hb).2⟩, by rw [h3, Heap.size_push]; exact Nat.lt_succ_of_lt hlt⟩
    rw [upd_ne (by rw [← hD]; exact Nat.ne_of_lt hlt)]
    exact (f2 b hb).1
  have BB : BI X pins σ (upd H2 D (.lst [])) s3 fp := ⟨I3, f3⟩
  have st3 : tn 0 s3.heap := T.keep _ _ _ st2 fun b _ o e => by rw [h3]; exact Heap.get?_push_of_some _ e
  have I4 := block_start I3 ok hN f3
  have pg := hg s3 (upd H2 D (.lst [])) s3.heap.objs.size (cellsFrom (s3.heap.objs.size + 1) scope.names (cloFrom X.env.cells scope.names [])) fp
  have pt := ht s3 (upd H2 D (.lst [])) s3.heap.objs.size (cellsFrom (s3.heap.objs.size + 1) scope.names (cloFrom X.env.cells scope.names [])) fp BB
  have pe := he s3 (upd H2 D (.lst [])) s3.heap.objs.size (cellsFrom (s3.heap.objs.size + 1) scope.names (cloFrom X.env.cells scope.names [])) fp BB
  show codeAny _ _ (.compStart (.ListComp elt [⟨tg, iter, ifs, 0⟩] scope pos) 0 (.ref it) (.ref D) (compEnvC scope (cellsFrom (s3.heap.objs.size + 1) scope.names (cloFrom X.env.cells scope.names [])) s3.heap.objs.size X.env)) (compPost (model X.prog X.w) X.A X.xe use Qf (.ref D) s3.heap.objs.size) { s3 with heap := pushCells (s3.heap.push { cls := .type "dict", data := .dict #[] }) scope.names }
  have nfp : ∀ b ∈ fp, (upd H2 D (.lst [])) b = none := fun b hb => (f3 b hb).1.1
  generalize hce : compEnvC scope (cellsFrom (s3.heap.objs.size + 1) scope.names (cloFrom X.env.cells scope.names [])) s3.heap.objs.size X.env = ce at I4 pg pt pe ⊢
  have cL : ce.locals = s3.heap.objs.size := by subst hce; rfl
  generalize hH3 : upd H2 D (.lst []) = H3 at I3 I4 pg pt pe w0 nfp f3 BB
  generalize hs4 : ({ s3 with heap := pushCells (s3.heap.push { cls := .type "dict", data := .dict #[] }) scope.names } : Shared) = s4 at I4 ⊢
  have st4 : tn 0 s4.heap := T.keep _ _ _ st3 fun b _ o e => by rw [← hs4]; exact pushCells_keeps _ _ _ _ (Heap.get?_push_of_some _ e)
  have stat : ∀ {σ' : L2.St} {H' : Hp} {s' : Shared}, Inv (X.blk s3 H3 scope ce fp) [] σ' H' s' → (∀ b ∈ fp, H' b = none) → ∀ b ∈ fp, FpOk (X.blk s3 H3 scope ce fp) [] H' b := fun {σ' H' s'} I' hn b hb =>
    ⟨hn b hb, (I'.ok.exf b hb).1, I'.ok.exfs b hb, .inl hb, fun x c e => (I'.ok.exf b hb).2 x c e, fun p hp => absurd (show p ∈ ([] : List (Addr × Obj)) ++ [] from hp) (by simp)⟩
  have loop : codeAny (model X.prog X.w) X.A (.compLoop (.ListComp elt [⟨tg, iter, ifs, 0⟩] scope pos) 0 (.ref it) (.ref D) ce) (compPost (model X.prog X.w) X.A X.xe use Qf (.ref D) s3.heap.objs.size) s4 := by
    refine compLoop_any (fun n s' => ∃ i H', Inv (X.blk s3 H3 scope ce fp) [] (wipe σ (own.map (·.2))) H' s' ∧ tn i s'.heap ∧ (∀ b ∈ fp, H' b = none) ∧ W i n H') ?_ m0 ⟨0, H3, I4, st4, nfp, w0⟩
    rintro n s5 ⟨i, H5, I5, st5, n5, w5⟩
    rcases turn i n H5 w5 with ⟨stop, qq⟩ | ⟨go, Nx, hNx, step⟩
    · have td := T.done (X.blk s3 H3 scope ce fp) rfl rfl rfl hc i [] s5 _ H5 (fun _ _ => False) I5 (stat I5 n5) st5 stop
      refine thnF td fun r s6 ⟨hr, I6⟩ => ?_
      subst hr
      have I7 : Inv X pins σ H5 s6 := BB.now I6
      have nC : H5 s3.heap.objs.size = none := by
        have z : H5 ce.locals = none := I6.free
        rw [cL] at z
        exact z
      obtain ⟨m, hn, _⟩ := I6.loc
      have hn : s6.heap.Ns ce.locals m := hn
      rw [cL] at hn
      exact hRR D s3.heap.objs.size s6 m H5 I7 qq hn (I3.fpOk (Nat.le_refl _) nC)
    · have ti := T.item (X.blk s3 H3 scope ce fp) rfl rfl rfl hc i [] s5 _ H5 (fun _ _ => False) I5 (stat I5 n5) st5 go
      refine thnF ti fun r s6 ⟨u, hr, h6⟩ => ?_
      subst hr
      refine thnF h6 fun _ s7 ⟨x, H7, I7, r7, y7, st7, n7⟩ => ?_
      have I7' := I7.pinned (stat I7 n7) (T.obj _ _ st7)
      refine thnF (pg.run _ s7 _ H7 x u _ I7' r7 (step x H7 y7)) fun _ s8 ⟨σ8, H8, I8, hw8, q8⟩ => ?_
      refine thnF (pt.run _ s8 σ8 H8 _ I8 q8) fun b s9 ⟨H9, I9, q9⟩ => ?_
      have fin : ∀ {s' : Shared} {H' : Hp}, Inv (X.blk s3 H3 scope ce fp) ([] ++ pinsAt fp s7.heap) σ8 H' s' → Nx H' → ∃ m, m < n ∧ ∃ i H', Inv (X.blk s3 H3 scope ce fp) [] (wipe σ (own.map (·.2))) H' s' ∧ tn i s'.heap ∧ (∀ b ∈ fp, H' b = none) ∧ W i m H' := fun {s' H'} I' nx => by
        obtain ⟨m', hm, w'⟩ := hNx H' nx
        have pin' : ∀ b ∈ fp, ∀ o, s7.heap.get? b = some o → s'.heap.get? b = some o ∧ H' b = none := fun b hb o e =>
          let z := I'.pin (b, o) (List.mem_append_right _ (List.mem_append_right _ (mem_pinsAt hb e)))
          ⟨z.1, z.2.1⟩
        have hl : (wipe σ (own.map (·.2))).length = σ8.length := by rw [← hw8, wipe_length]
        refine ⟨m', hm, i + 1, H', (I'.unpinned (pins := [])).weak hl (fun j v e => ?_), T.keep _ _ _ st7 fun b hb o e => (pin' b hb o e).1, fun b hb => ?_, w'⟩
        · rw [← hw8] at e
          exact (wipe_some e).1
        · obtain ⟨o, e, _⟩ := T.obj _ _ st7 b hb
          exact (pin' b hb o e).2
      cases b with
      | false =>
        simp only [Bool.false_eq_true, if_false] at q9 ⊢
        exact fin I9 q9
      | true =>
        simp only [if_true] at q9 ⊢
        refine thnF (pe.run _ s9 σ8 H9 _ I9 q9) fun z s10 ⟨yv, H10, I10, r10, acc, hD10, hz10, nx⟩ => ?_
        exact app_ok (X := X.blk s3 H3 scope ce fp) I10 hD10 hz10 r10 fun s11 I11 => fin I11 nx
  exact codeAny_compStart_list loop (T.self X.A 0 _ _ _ st4 loop)
def tLcI (wi : TI) (g : TG) (tt : L2.St → TT) (te : L2.St → TE) (vs : List Nat) : TE := fun σ H Q => tLc wi g (tt σ) (te σ) vs σ H Q
theorem pe_lcI {elt tg iter : Expr} {ifs : List Expr} {scope : Scope} {own : List (Str × Nat)} {pos : Pos} {wi : TI} {g : TG} {tt : L2.St → TT} {te : L2.St → TE} (hc : X.calm = true) (hN : X.N.Nodup) (hi : PI X tg iter wi) (ok : BlkOk X.N X.env.scope scope own)
    (hg : ∀ (s : Shared) (H : Hp) (C : Addr) (cl : List (Str × Addr)) (fp : List Addr), PG (X.blk s H scope (compEnvC scope cl C X.env) fp) tg g)
    (ht : ∀ (pins : List (Addr × Obj)) (σ : L2.St) (s : Shared) (H : Hp) (C : Addr) (cl : List (Str × Addr)) (fp : List Addr), BI X pins σ H s fp → PTs (X.blk s H scope (compEnvC scope cl C X.env) fp) ifs (tt σ))
    (he : ∀ (pins : List (Addr × Obj)) (σ : L2.St) (s : Shared) (H : Hp) (C : Addr) (cl : List (Str × Addr)) (fp : List Addr), BI X pins σ H s fp → PE (X.blk s H scope (compEnvC scope cl C X.env) fp) elt (te σ)) (hs : ∀ x, foldedSetIterable iter X.env x = pure x := by intro _; rfl) :
    PE X (.ListComp elt [⟨tg, iter, ifs, 0⟩] scope pos) (tLcI wi g tt te (own.map (·.2))) := by
  refine ⟨fun pins s σ H Q I h => ?_⟩
  rw [eval_ListComp]
  refine lcI_core hc hN I hi ok hg (ht pins σ) (he pins σ) hs h fun D C s' m H' I' q hn f => ⟨m, hn, fun h'' sb => ?_⟩
  obtain ⟨f0, f1, f2, f3, f4, f5⟩ := f
  exact ⟨.ref D, H', I'.turned (t' := s'.toks) (fun b o hb e => (sb.2 b hb).trans e) f0 f1 f3 f4 f5, rfl, q⟩
def tLamB (X : Cx) (k : Nat) (TT : (XK → Hp → VK → Prop) → Hp → VK → Prop) (te : TE) (σ : L2.St) : TE := fun σ' H Q => te σ' H fun v H1 => ∃ (l : LamT X k) (f : Addr), v = .ref f ∧ LamAt X l H1 f ∧ TT (fun E H' Q' => l.t E σ H' Q') H1 Q
theorem pe_lamB {pins : List (Addr × Obj)} {σ : L2.St} {H0 : Hp} {s0 : Shared} {fp : List Addr} {scope : Scope} {cenv : Env} {k : Nat} {x a : Str} {TT : (XK → Hp → VK → Prop) → Hp → VK → Prop} {e : Expr} {te : TE} {p pos : Pos} (B : BI X pins σ H0 s0 fp) (D : LFn X x a TT) (hr : Room (k + 2) X.A)
    (ha : PA (X.blk s0 H0 scope cenv fp) [e] (tCons te tNil)) (hg : Gl (X.blk s0 H0 scope cenv fp) x := by rfl) (hdb : (x == ("__debug__" : Str)) = false := by decide)
    (hst : starEach (e :: []) cenv = (false, eval e cenv) :: starEach [] cenv := by rfl) (hpl : (backTo pos (starEach [] cenv)).any (·.1) = false := by rfl) (hd : (a == ("__debug__" : Str)) = false := by decide) (hcd : (a == ("__classdict__" : Str)) = false := by decide) :
    PE (X.blk s0 H0 scope cenv fp) (.Call (.Name x p) [e] [] pos) (tLamB X k TT te σ) := by
  obtain ⟨g0, _, _, _, _, _, _, _, _, _, _, _, _, _, _, hm0, hk0, _⟩ := D.ex
  refine ⟨fun pins' s σ' H Q I h => ?_⟩
  refine wpAny_Call_Name_kw (ld_glob I hg hm0 ?_ hdb)
  let R : V → Hp → Prop := fun v H1 => ∃ (l : LamT X k) (f : Addr), v = .ref f ∧ LamAt X l H1 f ∧ TT (fun E H' Q' => l.t E σ H' Q') H1 Q
  refine PySem.W.callWith_K (h₀ := X.base) I.ok.mod.kin hk0 (thn (ha.run pos pins' s σ' H (fun vs H1 => match vs with | [v] => R v H1 | _ => False) I h) fun us s1 hh => ?_) hst hpl
  obtain ⟨vs, H1, I1, r1, hR⟩ := hh
  match vs, r1, hR with
  | [v], r1, hR =>
  obtain ⟨l, f, ef, hl, q⟩ := hR
  subst ef
  refine ⟨I1.kIn, ?_⟩
  cases r1 with
  | cons ru rn =>
    cases rn
    cases ru
    obtain ⟨g, hm, hk, rc⟩ := lam_run D hr (B.now I1) hl q hd hcd
    rw [hm0] at hm
    cases hm
    refine wpAny_call (codeAny_mono rc fun r s2 hq => ?_)
    cases r with
    | error e => exact (show False from hq).elim
    | ok fl =>
      cases fl with
      | ret u => exact I1.after hq
      | next => exact False.elim hq
      | brk => exact False.elim hq
      | cont => exact False.elim hq
end
end MF
set_option Elab.async false
set_option linter.all false
set_option maxRecDepth 100000
set_option maxHeartbeats 1000000
namespace MF
open PySem PySem.Spec PyProof.Rows L2 StX

theorem Same.tup {K : PySem.W.Frag} {H H' : Hp} {a : Addr} {xs : List V} (e : Same H H') (h : SqT K H a xs) : SqT K H' a xs := by
  rcases h with (h | ⟨o, h⟩) | h
  · exact .inl (.inl (e _ _ h))
  · exact .inl (.inr ⟨o, e _ _ h⟩)
  · exact .inr h
theorem Same.upd {H H' : Hp} {p : Addr} {o : HO} (e : Same H H') (h : H' p = none) : Same H (L2.upd H' p o) := fun b u q => by
  rw [upd_ne (ne_of_none (e b u q) h)]
  exact e b u q
theorem Same.new {H : Hp} {p : Addr} {o : HO} (h : H p = none) : Same H (L2.upd H p o) := Same.upd (Same.refl H) h
theorem tyT {K : PySem.W.Frag} {H : Hp} {a : Addr} {xs : List V} (h : SqT K H a xs) : TyX K H (.ref a) (.type "tuple") := by
  rcases h with (h | ⟨o, h⟩) | ⟨o, its, n, e, c, _⟩
  · exact .base (.tup h)
  · exact .fTuple h
  · exact .kTuple e c
theorem tyL {K : PySem.W.Frag} {H : Hp} {a : Addr} {xs : List V} (h : SqL K H a xs) : TyX K H (.ref a) (.type "list") := by
  rcases h with (h | ⟨o, h⟩) | ⟨o, its, n, e, c, _⟩
  · exact .base (.lst h)
  · exact .base (.frz h)
  · exact .kList e c
def tyN : V → String
  | .non => "NoneType"
  | .bl _ => "bool"
  | .int _ => "int"
  | .str _ => "str"
  | _ => ""
theorem ty_flat {K : PySem.W.Frag} {H : Hp} : ∀ {v : V}, notSeq v = true → TyX K H v (.type (tyN v))
  | .non, _ => .base .non
  | .bl b, _ => .base (.bl b)
  | .int i, _ => .base (.int i)
  | .str x, _ => .base (.str x)
theorem isi_flat {K : PySem.W.Frag} {v : V} {T : String} (h : notSeq v = true) (b : Bool) (hb : ∀ w, notSeq w = true → tyN w = tyN v → kitB (tyN w) T = some b) : PySem.W.kitOne K (.type (tyN v)) (.type T) = some b := kit_ty (hb v h rfl)

theorem kt_int_int {K : PySem.W.Frag} : PySem.W.kitOne K (.type "int") (.type "int") = some true := kit_ty (by decide +kernel)
theorem kt_int_bool {K : PySem.W.Frag} : PySem.W.kitOne K (.type "int") (.type "bool") = some false := kit_ty (by decide +kernel)
theorem kt_int_str {K : PySem.W.Frag} : PySem.W.kitOne K (.type "int") (.type "str") = some false := kit_ty (by decide +kernel)
theorem kt_int_tuple {K : PySem.W.Frag} : PySem.W.kitOne K (.type "int") (.type "tuple") = some false := kit_ty (by decide +kernel)
theorem kt_int_list {K : PySem.W.Frag} : PySem.W.kitOne K (.type "int") (.type "list") = some false := kit_ty (by decide +kernel)
theorem kt_bool_int {K : PySem.W.Frag} : PySem.W.kitOne K (.type "bool") (.type "int") = some true := kit_ty (by decide +kernel)
theorem kt_bool_bool {K : PySem.W.Frag} : PySem.W.kitOne K (.type "bool") (.type "bool") = some true := kit_ty (by decide +kernel)
theorem kt_bool_str {K : PySem.W.Frag} : PySem.W.kitOne K (.type "bool") (.type "str") = some false := kit_ty (by decide +kernel)
theorem kt_bool_tuple {K : PySem.W.Frag} : PySem.W.kitOne K (.type "bool") (.type "tuple") = some false := kit_ty (by decide +kernel)
theorem kt_bool_list {K : PySem.W.Frag} : PySem.W.kitOne K (.type "bool") (.type "list") = some false := kit_ty (by decide +kernel)
theorem kt_NoneType_int {K : PySem.W.Frag} : PySem.W.kitOne K (.type "NoneType") (.type "int") = some false := kit_ty (by decide +kernel)
theorem kt_NoneType_bool {K : PySem.W.Frag} : PySem.W.kitOne K (.type "NoneType") (.type "bool") = some false := kit_ty (by decide +kernel)
theorem kt_NoneType_str {K : PySem.W.Frag} : PySem.W.kitOne K (.type "NoneType") (.type "str") = some false := kit_ty (by decide +kernel)
theorem kt_NoneType_tuple {K : PySem.W.Frag} : PySem.W.kitOne K (.type "NoneType") (.type "tuple") = some false := kit_ty (by decide +kernel)
theorem kt_NoneType_list {K : PySem.W.Frag} : PySem.W.kitOne K (.type "NoneType") (.type "list") = some false := kit_ty (by decide +kernel)
theorem kt_str_int {K : PySem.W.Frag} : PySem.W.kitOne K (.type "str") (.type "int") = some false := kit_ty (by decide +kernel)
theorem kt_str_bool {K : PySem.W.Frag} : PySem.W.kitOne K (.type "str") (.type "bool") = some false := kit_ty (by decide +kernel)
theorem kt_str_str {K : PySem.W.Frag} : PySem.W.kitOne K (.type "str") (.type "str") = some true := kit_ty (by decide +kernel)
theorem kt_str_tuple {K : PySem.W.Frag} : PySem.W.kitOne K (.type "str") (.type "tuple") = some false := kit_ty (by decide +kernel)
theorem kt_str_list {K : PySem.W.Frag} : PySem.W.kitOne K (.type "str") (.type "list") = some false := kit_ty (by decide +kernel)
theorem kt_tuple_int {K : PySem.W.Frag} : PySem.W.kitOne K (.type "tuple") (.type "int") = some false := kit_ty (by decide +kernel)
theorem kt_tuple_bool {K : PySem.W.Frag} : PySem.W.kitOne K (.type "tuple") (.type "bool") = some false := kit_ty (by decide +kernel)
theorem kt_tuple_str {K : PySem.W.Frag} : PySem.W.kitOne K (.type "tuple") (.type "str") = some false := kit_ty (by decide +kernel)
theorem kt_tuple_tuple {K : PySem.W.Frag} : PySem.W.kitOne K (.type "tuple") (.type "tuple") = some true := kit_ty (by decide +kernel)
theorem kt_tuple_list {K : PySem.W.Frag} : PySem.W.kitOne K (.type "tuple") (.type "list") = some false := kit_ty (by decide +kernel)
theorem kt_list_int {K : PySem.W.Frag} : PySem.W.kitOne K (.type "list") (.type "int") = some false := kit_ty (by decide +kernel)
theorem kt_list_bool {K : PySem.W.Frag} : PySem.W.kitOne K (.type "list") (.type "bool") = some false := kit_ty (by decide +kernel)
theorem kt_list_str {K : PySem.W.Frag} : PySem.W.kitOne K (.type "list") (.type "str") = some false := kit_ty (by decide +kernel)
theorem kt_list_tuple {K : PySem.W.Frag} : PySem.W.kitOne K (.type "list") (.type "tuple") = some false := kit_ty (by decide +kernel)
theorem kt_list_list {K : PySem.W.Frag} : PySem.W.kitOne K (.type "list") (.type "list") = some true := kit_ty (by decide +kernel)
def isIntB : V → Int → Int → Bool
  | .int i, lo, hi => decide (lo ≤ i) && decide (i ≤ hi)
  | _, _, _ => false
def letters : Str := "abcdefghijklmnopqrstuvwxyz"
def isAddrB : V → Bool
  | .str z => decide (1 ≤ z.length) && decide (z.length ≤ 8) && z.cps.toList.all fun c => decide (c ∈ letters.cps.toList)
  | _ => false
structure Ordr where
  src : Str
  tgt : Str
  first : Int
  last : Int
  way : Int
  deriving DecidableEq
def Ordr.vals (o : Ordr) : List V := [.str o.src, .str o.tgt, .int o.first, .int o.last, .int o.way]
def OrdAt (K : PySem.W.Frag) (H : Hp) (a : Addr) (o : Ordr) : Prop := SqT K H a o.vals
theorem OrdAt.mono {K : PySem.W.Frag} {H H' : Hp} {a : Addr} {o : Ordr} (h : OrdAt K H a o) (e : Same H H') : OrdAt K H' a o := MF.Same.tup e h
def overB (o p : Ordr) : Bool := decide (o.src = p.src) && (decide (o.first ≤ p.last) && decide (p.first ≤ o.last))
def isOrdB : List V → Bool
  | [s, t, f, l, w] => (isAddrB s && isAddrB t && !decide (s = t)) && ((isIntB l 0 1000000000000000000 && (match l with | .int i => isIntB f 0 i | _ => false)) && isIntB w 1 30)
  | _ => false
structure Ordr.Ok (o : Ordr) : Prop where
  as : isAddrB (.str o.src) = true
  at_ : isAddrB (.str o.tgt) = true
  ne : o.src ≠ o.tgt
  f0 : 0 ≤ o.first
  fl : o.first ≤ o.last
  lm : o.last ≤ 1000000000000000000
  w1 : 1 ≤ o.way
  w30 : o.way ≤ 30
theorem Ordr.Ok.b {o : Ordr} (h : o.Ok) : isOrdB o.vals = true := by
  obtain ⟨a, b, c, d, e, f, g, k⟩ := h
  have c' : decide (V.str o.src = V.str o.tgt) = false := decide_eq_false fun q => c (V.str.inj q)
  unfold isOrdB Ordr.vals
  simp only [a, b, c', isIntB, Bool.and_true, Bool.true_and, Bool.not_false]
  simp [d, e, f, g, k]
  omega

theorem iteD {c A B : Prop} [Decidable c] (hc : c) (h : A) : if decide c = true then A else B := by
  rw [if_pos (decide_eq_true hc)]
  exact h
theorem iteDN {c A B : Prop} [Decidable c] (hc : ¬ c) (h : B) : if decide c = true then A else B := by
  rw [if_neg (by rw [decide_eq_false hc]; exact Bool.false_ne_true)]
  exact h
theorem iteND {c A B : Prop} [Decidable c] (hc : c) (h : B) : if (!decide c) = true then A else B := by
  rw [decide_eq_true hc]
  exact iteF h
theorem iteNDN {c A B : Prop} [Decidable c] (hc : ¬ c) (h : A) : if (!decide c) = true then A else B := by
  rw [decide_eq_false hc]
  exact iteT h
theorem yesT {σ : L2.St} {H : Hp} {Q : Bool → Hp → Prop} (h : Q true H) : tYes σ H Q := h
theorem Paired.get {α β : Type} {R : α → β → Prop} : ∀ {l : List α} {r : List β} {i : Nat} {a : α}, Paired R l r → l[i]? = some a → ∃ b, r[i]? = some b ∧ R a b
  | _, _, _, _, .nil, e => by simp at e
  | _, _, 0, _, .cons h _, e => by simp at e; subst e; exact ⟨_, rfl, h⟩
  | _, _, i + 1, _, .cons _ t, e => by
    obtain ⟨b, h1, h2⟩ := Paired.get (i := i) t (by simpa using e)
    exact ⟨b, by simpa using h1, h2⟩
theorem Paired.append {α β : Type} {R : α → β → Prop} : ∀ {l l' : List α} {r r' : List β}, Paired R l r → Paired R l' r' → Paired R (l ++ l') (r ++ r')
  | _, _, _, _, .nil, h => h
  | _, _, _, _, .cons a t, h => .cons a (Paired.append t h)
def OrdsAt (K : PySem.W.Frag) (H : Hp) (as : List Addr) (os : List Ordr) : Prop := Paired (OrdAt K H) as os
theorem OrdsAt.mono {K : PySem.W.Frag} {H H' : Hp} {as : List Addr} {os : List Ordr} (h : OrdsAt K H as os) (e : Same H H') : OrdsAt K H' as os := PySem.Paired.mono (fun _ _ q => OrdAt.mono q e) h
structure Good (os : List Ordr) : Prop where
  len : os.length ≤ 30
  ok : ∀ o ∈ os, o.Ok
  apart : os.Pairwise fun o p => overB o p = false
def BookAt (K : PySem.W.Frag) (C : Addr) (H : Hp) (p : Addr) (os : List Ordr) : Prop :=
  ∃ dx t as, H p = some (.ins C dx [("listed", .ref t)]) ∧ SqT K H t (as.map V.ref) ∧ OrdsAt K H as os
theorem BookAt.mono {K : PySem.W.Frag} {C : Addr} {H H' : Hp} {p : Addr} {os : List Ordr} (h : BookAt K C H p os) (e : Same H H') : BookAt K C H' p os := by
  obtain ⟨dx, t, as, h1, h2, h3⟩ := h
  exact ⟨dx, t, as, e _ _ h1, MF.Same.tup e h2, h3.mono e⟩
theorem cut_take (xs : List V) (i : Nat) (h : i ≤ xs.length) : cutV xs none (some (i : Int)) = xs.take i := by
  unfold cutV
  rw [HT.sIx_none, HT.sIx_nat, Nat.min_eq_left h]
  simp
theorem ix_listK {X : Cx} {K : PySem.W.Frag} (h : X.K = K := by rfl) : IxR X (rIxL K) := h ▸ ix_list
theorem ix_seqK {X : Cx} {K : PySem.W.Frag} (h : X.K = K := by rfl) : IxR X (rIx K) := h ▸ ix_seq
theorem ix_tupK {X : Cx} {K : PySem.W.Frag} (h : X.K = K := by rfl) : IxR X (rIxT K) := h ▸ ix_tup
theorem pe_fldK {X : Cx} {K : PySem.W.Frag} {e : Expr} {ta : TE} {f : Str} {pos : Pos} (he : PE X e ta) (hb : attributeBase e f X.env (eval e X.env) = eval e X.env) (h : X.K = K := by rfl) : PE X (.Attribute e f pos) (tFld K ta f) := h ▸ pe_fld he hb
def spIsInteger : Sp := fun vs H Q _ => ∃ v lo hi, vs = [v, .int lo, .int hi] ∧ notSeq v = true ∧ Q (.bl (isIntB v lo hi)) H
def shortV : V → Prop
  | .str z => z.length ≤ sizeLine
  | _ => True
def spIsAddress : Sp := fun vs H Q _ => ∃ v, vs = [v] ∧ notSeq v = true ∧ shortV v ∧ ∀ H', Same H H' → Q (.bl (isAddrB v)) H'
def spOverlap (K : PySem.W.Frag) : Sp := fun vs H Q _ => ∃ a b o p, vs = [.ref a, .ref b] ∧ OrdAt K H a o ∧ OrdAt K H b p ∧ Q (.bl (overB o p)) H
def spIsOrder (K : PySem.W.Frag) : Sp := fun vs H Q _ => ∃ v b, vs = [v] ∧ ((∃ a xs, v = .ref a ∧ SqT K H a xs ∧ (∀ x ∈ xs, notSeq x = true ∧ shortV x) ∧ b = isOrdB xs) ∨ (∃ a xs, v = .ref a ∧ SqL K H a xs ∧ b = false) ∨ (notSeq v = true ∧ b = false)) ∧ ∀ H', Same H H' → Q (.bl b) H'
end MF
set_option Elab.async false
set_option linter.all false
set_option maxRecDepth 100000
set_option maxHeartbeats 1000000
namespace MF
open PySem PySem.Spec PyProof.Rows L2
def eqs (z : Str) (v : Value) : Bool := match v with
  | .str n _ => n.cps.toList == z.cps.toList
  | _ => false
theorem strEq (a b : Str) : (a.cps.toList == b.cps.toList) = (a == b) := by
  rw [Bool.eq_iff_iff, beq_iff_eq, beq_iff_eq]
  constructor
  · intro h
    obtain ⟨x⟩ := a
    obtain ⟨y⟩ := b
    have : x = y := Array.toList_inj.mp h
    rw [this]
  · intro h; rw [h]
theorem eqs_gives {z : Str} {t : Tok} : ∀ {ys : List Str} {us : List Value}, Vals (ys.map V.str) us → ∀ y ∈ us, MeetsSeq.EqGives y (.str z t) (eqs z y)
  | [], _, .nil => fun y hy => by cases hy
  | n :: ys, _, .cons r h => fun y hy => by
    obtain ⟨t', rfl⟩ := r
    rcases List.mem_cons.mp hy with e | e
    · rw [e]
      exact PySem.SeqRoads2.EqGives.str n z t' t
    · exact eqs_gives h y e
theorem eqs_count {z : Str} : ∀ {ys : List Str} {us : List Value}, Vals (ys.map V.str) us → us.countP (eqs z) = ys.count z
  | [], _, .nil => rfl
  | n :: ys, _, .cons r h => by
    obtain ⟨t', rfl⟩ := r
    have ih := eqs_count (z := z) h
    rw [List.countP_cons, List.count_cons, ih, show eqs z (.str n t') = (n == z) from strEq n z]
def rCntS (K : PySem.W.Frag) : V → List V → Hp → VK → Prop := fun x xs H Q => ∃ (p : Addr) (ys : List Str) (z : Str), x = .ref p ∧ xs = [.str z] ∧ SqL K H p (ys.map V.str) ∧ Q (.int (ys.count z : Nat)) H
theorem mt_lcountS {X : Cx} {K : PySem.W.Frag} (hK : X.K = K := by rfl) : MtR X "list.count" (rCntS K) := by
  subst hK
  intro pins s σ H x xs v us Q I rx rxs h
  obtain ⟨p, ns, k, rfl, rfl, hs, q⟩ := h
  cases rx
  obtain ⟨u, rfl, ru⟩ := rxs.one
  obtain ⟨t, rfl⟩ := ru
  obtain ⟨its, rv, ⟨⟨cls, dd, data, sl⟩, n, ho, hc, hdn, hd⟩, hlen⟩ := I.list hs
  simp only at hc hd
  subst hc hd
  refine call_meets PySem.F.slot_list_count ⟨_, ho, rfl⟩ PySem.F.entry_list_count (PySem.F.args_list_count_2 _ _)
    (SeqAt.list_countAt p its.toArray n dd sl (.str k t) (eqs k)) ⟨ho, fun y hy => (eqs_gives rv y (by simpa using hy)).at _ _, ?_⟩
  have ec : its.toArray.toList.countP (eqs k) = ns.count k := eqs_count rv
  refine ⟨.int (ns.count k : Nat), H, I.tok _, ⟨s.toks, ?_⟩, q⟩
  show Value.int ((its.toArray.toList.countP (eqs k) : Nat) : Int) s.toks = Value.int ((ns.count k : Nat) : Int) s.toks
  rw [ec]
theorem pe_bmK {X : Cx} {K : PySem.W.Frag} {o e : Expr} {es : List Expr} {to : TE} {t : TA} {name : Str} {apos cpos : Pos} {T id : String} {r : V → List V → Hp → VK → Prop} (pa : PlainAttrs T) (slot : Slot T name id) (hty : typeOf (.builtin id) = pure (.type "method_descriptor")) (hm : MtR X id r) (ho : PE X o to) (ha : PA X (e :: es) t)
    (hK : X.K = K := by rfl) (hbase : attributeBase o name X.env (eval o X.env) = eval o X.env := by rfl)
    (hfew : ((backTo cpos (starEach (e :: es) X.env)).all (fun x => !x.1) && (backToKw cpos (keywordEach [] X.env)).all (fun x => x.1.isSome)
      && decide ((e :: es).length + ([] : List Keyword).length + (if ([] : List Keyword).isEmpty then 0 else 1) < 30)) = true := by rfl)
    (hline : (apos.endLine == cpos.line) = true := by rfl) (hs : starEach (e :: es) X.env = (false, eval e X.env) :: starEach es X.env := by rfl) (hplain : (backTo cpos (starEach es X.env)).any (·.1) = false := by rfl) :
    PE X (.Call (.Attribute o name apos) (e :: es) [] cpos) (tBM K T r to t) := hK ▸ pe_bm pa slot hty hm ho ha hbase hfew hline hs hplain
end MF
set_option Elab.async false
set_option linter.all false
set_option maxRecDepth 100000
set_option maxHeartbeats 2000000
namespace MF
open PySem PySem.Spec PyProof.Rows L2 StX
theorem eqb_at {k : Bool} : ∀ {ys : List Bool} {us : List Value}, Vals (ys.map V.bl) us → ∀ y ∈ us, ∀ (A : Around) (s : Shared), SeqAt.EqAt A s y (.bool k) (isBoolOf k y)
  | [], _, .nil => fun y hy => by cases hy
  | b :: ys, _, .cons r h => fun y hy A s => by
    cases r
    rcases List.mem_cons.mp hy with e | e
    · rw [e]
      exact SeqAt.EqAt.bool_bool b k
    · exact eqb_at h y e A s
theorem eqb_count {k : Bool} : ∀ {ys : List Bool} {us : List Value}, Vals (ys.map V.bl) us → us.countP (isBoolOf k) = ys.count k
  | [], _, .nil => rfl
  | b :: ys, _, .cons r h => by
    cases r
    have ih := eqb_count (k := k) h
    rw [List.countP_cons, List.count_cons, ih]
    rfl
def rCntB (K : PySem.W.Frag) : V → List V → Hp → VK → Prop := fun x xs H Q => ∃ (p : Addr) (ys : List Bool) (k : Bool), x = .ref p ∧ xs = [.bl k] ∧ SqL K H p (ys.map V.bl) ∧ Q (.int (ys.count k : Nat)) H
theorem mt_lcountB {X : Cx} : MtR X "list.count" (rCntB X.K) := by
  intro pins s σ H x xs v us Q I rx rxs h
  obtain ⟨p, ys, k, rfl, rfl, hs, q⟩ := h
  cases rx
  obtain ⟨u, rfl, ru⟩ := rxs.one
  obtain rfl : u = Value.bool k := ru
  obtain ⟨its, rv, ⟨⟨cls, dd, data, sl⟩, n, ho, hc, hdn, hd⟩, hlen⟩ := I.list hs
  simp only at hc hd
  subst hc hd
  refine call_meets PySem.F.slot_list_count ⟨_, ho, rfl⟩ PySem.F.entry_list_count (PySem.F.args_list_count_2 _ _)
    (SeqAt.list_countAt p its.toArray n dd sl (.bool k) (isBoolOf k)) ⟨ho, fun y hy => eqb_at rv y (by simpa using hy) _ _, ?_⟩
  have ec : its.toArray.toList.countP (isBoolOf k) = ys.count k := eqb_count rv
  refine ⟨.int (ys.count k : Nat), H, I.tok _, ⟨s.toks, ?_⟩, q⟩
  show Value.int ((its.toArray.toList.countP (isBoolOf k) : Nat) : Int) s.toks = Value.int ((ys.count k : Nat) : Int) s.toks
  rw [ec]
theorem mt_lcountBK {X : Cx} {K : PySem.W.Frag} (h : X.K = K := by rfl) : MtR X "list.count" (rCntB K) := h ▸ mt_lcountB
theorem mt_indexDK {X : Cx} {K : PySem.W.Frag} (hu : X.A.units + 65 < cLine) (h : X.K = K := by rfl) : MtR X "list.index" (rIndexD K) := h ▸ mt_indexD hu
def rIsY (K : PySem.W.Frag) (cls : Value) (a : Addr) (d : Option Addr) : List V → Hp → VK → Prop := fun xs H Q => ∃ (D : Addr) (c : V) (cv : Value) (b : Bool), xs = [.ref a, c] ∧ cls = .ref D ∧ ExcC K D ∧ (∀ u, RelV c u → u = cv) ∧ PySem.W.kitOne K (.ref D) cv = some b ∧ DictSt H d ∧ Q (.bl b) H
theorem call_isY {X : Cx} {a : Addr} {cls : Value} {d : Option Addr} {oe : Obj} {pn : List (Addr × Obj)} (hz : Zc cls d oe) (hf : ∃ vs, oe.data = .fields vs) : CallR (X.suite a ((a, oe) :: pn)) (.builtin "isinstance") (rIsY X.K cls a d) := by
  intro pins s σ H xs us Q I r h
  obtain ⟨D, c, cv, b, e1, rfl, hC, hcv, e, hd, q⟩ := h
  exact call_isX hC hz hf pins s σ H xs us Q I r ⟨c, cv, b, e1, hcv, e, hd, q⟩
def tXfY (K : PySem.W.Frag) (a : Addr) (cls : Value) (d : Option Addr) (f : Str) (te : TE) : TE := fun σ H Q => te σ H fun x H1 => x = .ref a ∧ ∃ (C dd : Addr) (fs : List (Str × V)) (v : V), cls = .ref C ∧ XfC K C ∧ PySem.W.findIn K (.ref C) f = some none ∧ d = some dd ∧ H1 dd = some (.xd fs) ∧ fs.lookup f = some v ∧ Q v H1
theorem pe_xfY {X : Cx} {a : Addr} {oe : Obj} {cls : Value} {d : Option Addr} {pn : List (Addr × Obj)} {e : Expr} {te : TE} {pos : Pos} {n : Str}
    (hz : Zc cls d oe) (hf : ∃ vs, oe.data = .fields vs) (he : PE (X.suite a ((a, oe) :: pn)) e te) (hb : attributeBase e n X.env (eval e X.env) = eval e X.env := by rfl) :
    PE (X.suite a ((a, oe) :: pn)) (.Attribute e n pos) (tXfY X.K a cls d n te) := by
  refine ⟨fun pins s σ H Q I h => ?_⟩
  refine attr_of hb (thn (he.run pins s σ H _ I h) fun u s1 hh => ?_)
  obtain ⟨x, H1, I1, rx, ex, C, dd, fs, v, ec, T, hno, ed, ea, l, q⟩ := hh
  subst ex
  obtain rfl : u = Value.ref a := rx
  subst ec
  subst ed
  obtain ⟨ha, _⟩ := I1.pin (a, oe) (List.mem_append_left _ List.mem_cons_self)
  obtain ⟨vs, hd⟩ := hf
  have hx : ObjOk X.prog X.w H1 s1.heap dd (.xd fs) := I1.hok dd _ ea
  obtain ⟨mA, hns, hr⟩ := hx
  obtain ⟨od, ho, hl⟩ := lookIn_ns hns
  obtain ⟨u, hu, ru⟩ := RelO.some_of (v := v) (o := mA n) (by rw [← l]; exact hr n)
  have J : PySem.W.InstAt s1.heap a oe C (some od) := ⟨ha, hz.1, by unfold PySem.W.notCls; rw [hd] <;> rfl, by rw [hz.2]; exact ho⟩
  exact HandSPX.exc_get I1.kIn J T.ga T.gg T.exC (PySem.W.findObj_own T.hdC hno rfl (by rw [hl, hu])) (handed_of ru) ⟨v, H1, I1.tok _, ru, q⟩
structure ErrC (K : PySem.W.Frag) (C M : Addr) : Prop where
  exc : ExcC K C
  exm : PySem.W.exmOne K (.ref C) (.ref M) = some true
  ve : PySem.W.kitOne K (.ref C) (.type "ValueError") = some true
theorem ErrC.xf {K : PySem.W.Frag} {C M : Addr} (h : ErrC K C M) : XfC K C := ⟨h.exc.hg, h.exc.hk, h.exc.hs, h.exc.hd⟩
inductive Err where
  | order (i : V)
  | unknown (i : V)
  | address
  | day
  | number
  | letter (i : V)
  | holding (i : V)
  | operation (i : V)
  | contra
  | count
  | decode (i : V)
  | note (r w : V)
structure Cls5 where
  order : Addr
  unknown : Addr
  address : Addr
  day : Addr
  number : Addr
def ErrAt (c : Cls5) (cls : Value) (d : Option Addr) (H : Hp) : Err → Prop
  | .order v => cls = .ref c.order ∧ ∃ dd, d = some dd ∧ H dd = some (.xd [("index", v)])
  | .unknown v => cls = .ref c.unknown ∧ ∃ dd, d = some dd ∧ H dd = some (.xd [("index", v)])
  | .address => cls = .ref c.address ∧ d = none
  | .day => cls = .ref c.day ∧ d = none
  | .number => cls = .ref c.number ∧ d = none
  | _ => False
def errV : Err → List V
  | .order v => [.str "order", v]
  | .unknown v => [.str "unknown", v]
  | .address => [.str "address"]
  | .day => [.str "day"]
  | .number => [.str "number"]
  | _ => []
def TRaised (rk : Err → Prop) (c : Cls5) : (XK → Hp → VK → Prop) → Hp → VK → Prop := fun tl H Q =>
  tl (fun cls d H' => ∃ r, rk r ∧ ErrAt c cls d H' r ∧ ∀ p H2, Same H' H2 → H' p = none → H2 p = some (.tup (errV r)) → Q (.ref p) H2) H (fun _ H' => Q .non H')
def wordAt : Nat → Str
  | 0 => "order"
  | 1 => "unknown"
  | 2 => "address"
  | 3 => "day"
  | _ => "number"
end MF
set_option Elab.async false
set_option linter.all false
set_option maxRecDepth 100000
set_option maxHeartbeats 2000000
namespace MF
open PySem PySem.Spec PyProof.Rows L2 StX LamX
theorem pss_no {X : Cx} {ss : List Stmt} : PSs X ss (fun _ _ _ => False) := ⟨fun _ _ _ _ _ _ h => h.elim⟩
theorem ps_no {X : Cx} {st : Stmt} : PS X st (fun _ _ _ => False) := ⟨fun _ _ _ _ _ _ h => h.elim⟩
theorem pe_no {X : Cx} {e : Expr} : PE X e (fun _ _ _ => False) := ⟨fun _ _ _ _ _ _ h => h.elim⟩
theorem passM {X : Cx} {A : Around} {outer : List Env} {s : Shared} {H : Hp} {E : XK} {scope : Scope} {f c' : Addr} : Passes (L2.CX X.prog X.w) (lamCx X A outer s H E scope f c') E := passes_call (W := fun cls d _ H => E cls d H) (takes_of rfl rfl rfl rfl) fun _ _ _ _ h => h
theorem passN {X : Cx} : Passes (L2.CX X.prog X.w) X E0 := fun _ _ _ _ _ _ _ h => by
  obtain ⟨_, _, _, _, _, _, _, _, _, _, _, _, z⟩ := h
  exact z.elim
theorem pe_lamX {X : Cx} {k : Nat} {params : Arguments} {body : Expr} {scope : Scope} {t : XK → TE} {T : List (Addr × Str)} {q : Str} {c P : Addr} {lpos : Pos} (TB : TabB X.base X.mg c P) (hmT : (P, q) ∈ T) (hu : ∀ p ∈ T, p.1 = P → p.2 = q) (hq : X.env.qual ++ "<lambda>" = q) (hcode : X.env.code = .ref c)
    (hdef : defaultsOf params X.env = ([], [])) (L : LamS X.env.scope scope) (bind : ∀ (q : Str) (cl : List (Str × Addr)) (pm cv ctv : Value), bindArgs (PySem.W.kla_fn "<lambda>" q params body scope cl pm cv ctv) ⟨[], []⟩ = pure [])
    (run : ∀ (A : Around) (outer : List Env) (s : Shared) (H : Hp) (E : XK) (f c' : Addr), Room k (A.deeper (lamEnv X scope s.heap.objs.size f c')) → PE (lamCx X A outer s H E scope f c') body (t E)) :
    PE X (.Lambda params body scope lpos) (tLamE T X (k := k) ⟨params, body, scope, t, L, bind, run⟩) := by
  subst hq
  exact pe_lamE (k := k) ⟨params, body, scope, t, L, bind, run⟩ TB hcode hmT hu hdef
structure FunC (K : PySem.W.Frag) (x qual : Str) (st : Stmt) (f : Addr) (fd : FuncData) (c : Addr) : Prop where
  ex : ∃ (oc : Value) (od : Option Addr) (kV doc pm : Value) (an : Option Addr) (ct : Value) (osl : Array (Option Value)), fd = PySem.W.fnOf x qual (defArgs st) (defBody st) (defScope st) .none kV doc pm an (.ref c) ct ∧ K.lookup f = some ⟨oc, od, .func fd, osl⟩ ∧ PySem.W.codeIn K (.ref c) qual = true
theorem FunC.ok {P : Program} {w : World} {K : PySem.W.Frag} {mg : Str → Option Value} {base : Heap} {x qual : Str} {st : Stmt} {f c : Addr} {fd : FuncData} {N ps : List Str} {k : Nat} {sp : Sp} (F : FunC K x qual st f fd c) (S : FnScope N ps (defScope st)) (len : ∀ vs H Q E, sp vs H Q E → vs.length = ps.length)
    (hbody : ∀ (A : Around) (outer : List Env) (s : Shared) (H : Hp) (vs : List V) (Q : VK) (E : XK), Room k (A.deeper (envOfC qual (defScope st) s.heap.objs.size f (.ref c))) → sp vs H Q E →
      ∃ t, PSs (cxOf CX0 P w K mg base N qual (defScope st) f (.ref c) A outer s H E).nox (defBody st) t ∧ t { nx := fun _ H' => Q .non H', rt := Q } (start N vs) H) : FnOk P w K mg base CX0 (k + 1) f fd ps sp := by
  obtain ⟨oc, od, kV, doc, pm, an, ct, osl, rfl, lk, hcd⟩ := F.ex
  refine fn_of lk hcd S len fun A outer s H vs Q E hr hsp => ?_
  obtain ⟨t, h, q⟩ := hbody A outer s H vs Q E hr hsp
  exact ⟨t, h.nox, q⟩
theorem GDef.fnX {P : Program} {w : World} {K : PySem.W.Frag} {mg : Str → Option Value} {base : Heap} {k : Nat} {x : Str} {st : Stmt} {ps N : List Str} {sp : Sp} (D : GDef K mg x st ps) (S : FnScope N ps (defScope st)) (len : ∀ vs H Q E, sp vs H Q E → vs.length = ps.length)
    (hbody : ∀ (f : Addr) (cdv : Value) (A : Around) (outer : List Env) (s : Shared) (H : Hp) (vs : List V) (Q : VK) (E : XK), Room k (A.deeper (envOfC x (defScope st) s.heap.objs.size f cdv)) → sp vs H Q E →
      ∃ t, PSs (cxOf (L2.CX P w) P w K mg base N x (defScope st) f cdv A outer s H E) (defBody st) t ∧ t { nx := fun _ H' => Q .non H', rt := Q } (start N vs) H) : GFn P w K mg base (L2.CX P w) (k + 1) x sp :=
  D.fn fun f fd F => by
    obtain ⟨oc, od, kV, doc, pm, an, cdv, ct, osl, rfl, lk, hcd⟩ := F.ex
    exact fn_of lk hcd S len fun A outer s H vs Q E hr hsp => hbody f cdv A outer s H vs Q E hr hsp
theorem MDef.fnX {P : Program} {w : World} {K : PySem.W.Frag} {mg : Str → Option Value} {base : Heap} {k : Nat} {C : Addr} {m qual : Str} {st : Stmt} {ps N : List Str} {sp : Sp} (D : MDef K C m qual st ps) (S : FnScope N ps (defScope st)) (len : ∀ vs H Q E, sp vs H Q E → vs.length = ps.length)
    (hbody : ∀ (f : Addr) (cdv : Value) (A : Around) (outer : List Env) (s : Shared) (H : Hp) (vs : List V) (Q : VK) (E : XK), Room k (A.deeper (envOfC qual (defScope st) s.heap.objs.size f cdv)) → sp vs H Q E →
      ∃ t, PSs (cxOf (L2.CX P w) P w K mg base N qual (defScope st) f cdv A outer s H E) (defBody st) t ∧ t { nx := fun _ H' => Q .non H', rt := Q } (start N vs) H) : MFn P w K mg base (L2.CX P w) (k + 1) C m sp :=
  D.fn fun f fd F => by
    obtain ⟨oc, od, kV, doc, pm, an, cdv, ct, osl, rfl, lk, hcd⟩ := F.ex
    exact fn_of lk hcd S len fun A outer s H vs Q E hr hsp => hbody f cdv A outer s H vs Q E hr hsp
def spLawT (K : PySem.W.Frag) (Ps : List Addr) : Sp := fun vs H Q _ => ∃ (a : Addr) (ns : List Int), vs = [.ref a] ∧ SqL K H a (ns.map V.int) ∧ ns.length ≤ 63 ∧ (∀ P ∈ Ps, H P = some (.tbl #[])) ∧ ∀ H', Q (.bl true) H'
theorem op_neDK {X : Cx} {K : PySem.W.Frag} (hu : X.A.units + 64 < cLine) (h : X.K = K := by rfl) : OpR X (compareOp .NotEq) (rNeD K) := h ▸ op_neD hu
theorem op_eqDK {X : Cx} {K : PySem.W.Frag} (hu : X.A.units + 64 < cLine) (h : X.K = K := by rfl) : OpR X (compareOp .Eq) (rEqD K) := h ▸ op_eqD hu
theorem ExtN.ext {H H' : Hp} (e : ExtN H H') : ∀ b φ, H b = some (.ext φ) → H' b = some (.ext φ) := fun b φ h => e _ _ h fun ps z => by cases z
end MF
set_option Elab.async false
set_option linter.all false
set_option maxRecDepth 100000
set_option maxHeartbeats 2000000
namespace MF
open PySem PySem.Spec PyProof.Rows L2 StX LamX
structure GDefC (K : PySem.W.Frag) (mg : Str → Option Value) (x : Str) (st : Stmt) (ps : List Str) (c : Addr) : Prop where
  ex : ∃ f fd, FunC K x x st f fd c ∧ mg x = some (.ref f) ∧ Binds K fd ps [] ∧ PySem.W.keepIn K (.ref f) = true
theorem GDefC.fn {P : Program} {w : World} {K : PySem.W.Frag} {mg : Str → Option Value} {base : Heap} {CX : CXT} {k : Nat} {x : Str} {st : Stmt} {ps : List Str} {sp : Sp} {c : Addr} (D : GDefC K mg x st ps c) (h : ∀ f fd, FunC K x x st f fd c → FnOk P w K mg base CX k f fd ps sp) : GFn P w K mg base CX k x sp :=
  let ⟨f, fd, a, b, d, e⟩ := D.ex
  ⟨f, raw0 (h f fd a) d, b, e⟩
end MF
set_option Elab.async false
set_option linter.all false
set_option maxRecDepth 100000
set_option maxHeartbeats 2000000
namespace MF
open PySem PySem.Spec PyProof.Rows L2 StX
def oexB (K : PySem.W.Frag) (C : Addr) : Bool := match K.lookup C with
  | some ⟨.type "type", _, .cls cd, sl⟩ => (match cd.mro, sl.toList with
    | .ref C' :: bm, [_, _, _, _, some (.builtin n), _] => C' == C && n == "ValueError.__new__" && cd.hasDict && !cd.hasDel && PySem.HandSPX.refsVE bm
    | _, _ => false)
  | _ => false
theorem oex_cls {K : PySem.W.Frag} {C : Addr} (q : oexB K C = true) : ∃ nm q N bs bm sn sub ab col dd k0 k1 k2 k3 k5, K.lookup C = some (excClassObj nm q C N bs bm true sn sub ab col dd k0 k1 k2 k3 k5 "ValueError.__new__") ∧ PySem.HandSPX.refsVE bm = true := by
  unfold oexB at q
  split at q
  · rename_i dd cd sl hk
    split at q
    · rename_i C' bm k0 k1 k2 k3 n k5 hm hs
      simp only [Bool.and_eq_true, Bool.not_eq_true'] at q
      obtain ⟨⟨⟨⟨e1, e2⟩, e3⟩, e4⟩, e5⟩ := q
      obtain rfl : C' = C := beq_iff_eq.mp e1
      obtain rfl : n = "ValueError.__new__" := beq_iff_eq.mp e2
      obtain ⟨nm, bs, mro, N, qn, hdct, sn, sub, ab, col, del⟩ := cd
      simp only at hm e3 e4
      subst hm e3 e4
      have : sl = #[k0, k1, k2, k3, some (.builtin "ValueError.__new__"), k5] := Array.ext' hs
      subst this
      exact ⟨nm, qn, N, bs, bm, sn, sub, ab, col, dd, k0, k1, k2, k3, k5, hk, e5⟩
    · cases q
  · cases q
theorem oex_of {K : PySem.W.Frag} {C : Addr} (q : oexB K C = true) (sa : PySem.W.findIn K (.ref C) "__setattr__" = some (some (.builtin "object.__setattr__"))) (exC : PySem.W.subIn K (.ref C) (.type "BaseException") = some true) (tyC : PySem.W.typeIn K (.ref C) = some (.type "type")) (kC : PySem.W.keepIn K (.ref C) = true) : OexC K C := ⟨oex_cls q, sa, exC, tyC, kC⟩
end MF
set_option Elab.async false
set_option linter.all false
set_option maxRecDepth 100000
set_option maxHeartbeats 2000000
namespace MF
open PySem PySem.Spec PyProof.Rows L2 StX
theorem SDef.fnX {P : Program} {w : World} {K : PySem.W.Frag} {mg : Str → Option Value} {base : Heap} {k : Nat} {C : Addr} {x qual p1 pv : Str} {st : Stmt} {N : List Str} {sp : Sp} (D : SDef K mg C x qual st p1 pv) (S : FnScope N [p1, pv] (defScope st))
    (hbody : ∀ (f : Addr) (cdv : Value) (A : Around) (outer : List Env) (s : Shared) (H : Hp) (vs : List V) (Q : VK) (E : XK), Room k (A.deeper (envOfC qual (defScope st) s.heap.objs.size f cdv)) → sp vs H Q E →
      ∃ t, PSs (cxOf (L2.CX P w) P w K mg base N qual (defScope st) f cdv A outer s H E) (defBody st) t ∧ t { nx := fun _ H' => Q .non H', rt := Q } (start N vs) H) :
    IFn P w K mg base (L2.CX P w) (k + 1) C x (fun vs H Q E => ∃ v rest, vs = v :: rest ∧ rest.length ≤ sizeLine ∧ ∀ p, H p = Option.none → sp [v, V.ref p] (upd H p (.tup rest)) Q E) := by
  obtain ⟨f, fd, F, M, hm, hb⟩ := D.ex
  obtain ⟨oc, od, kV, doc, pm, an, cdv, ct, osl, rfl, lk, hcd⟩ := F.ex
  refine ⟨f, (fn_star (ps := [p1]) (pv := pv) (sp := sp) lk hcd S cxUp hb fun A outer s H vs Q E hr hsp => hbody f cdv A outer s H vs Q E hr hsp).imp fun vs H Q E h => ?_, M, hm⟩
  obtain ⟨v, rest, rfl, hl, q⟩ := h
  exact ⟨[v], rest, rfl, rfl, hl, q⟩
theorem owns_cx {P : Program} {w : World} {K : PySem.W.Frag} {mg : Str → Option Value} {base : Heap} {N : List Str} {qual : Str} {scope : Scope} {f : Addr} {cd : Value} {A : Around} {outer : List Env} {s : Shared} {H : Hp} {E : XK} :
    PassesOwn (model P w) (cxOf (L2.CX P w) P w K mg base N qual scope f cd A outer s H E).A (cxOf (L2.CX P w) P w K mg base N qual scope f cd A outer s H E).env (cxOf (L2.CX P w) P w K mg base N qual scope f cd A outer s H E).xe :=
  passes_of (X := cxOf (L2.CX P w) P w K mg base N qual scope f cd A outer s H E) rfl
end MF
set_option Elab.async false
set_option linter.all false
namespace MF
open PySem PySem.Spec PyProof.Rows L2 StX
theorem newS {H H2 : Hp} {q : Addr} {o : HO} (h : H q = none) (e : L2.upd H q o = H2) : Same H H2 ∧ H2 q = some o := by
  subst e
  exact ⟨Same.new h, upd_same⟩
end MF
set_option Elab.async false
set_option linter.all false
set_option maxRecDepth 100000
set_option maxHeartbeats 2000000
set_option pp.maxSteps 600
namespace MF
open PySem PySem.Spec PyProof.Rows L2 StX
def top (i : Nat) : Stmt := PySem.Challenge.pw_mailforwards_k07_prolonged_orders.main.body.getD i (.Pass ⟨0, 0, 0, 0⟩)
abbrev s_is_integer : Stmt := top 14
abbrev s_is_address : Stmt := top 15
abbrev s_check_letter : Stmt := top 16
abbrev s_is_order : Stmt := top 17
abbrev s_do_overlap : Stmt := top 18
abbrev s_BookX_initX : Stmt := inClass (top 19) 1
abbrev s_Book_orders : Stmt := inClass (top 19) 3
abbrev s_BookX_addX : Stmt := inClass (top 19) 10
abbrev s_Book_check_order : Stmt := inClass (top 19) 12
abbrev s_Book_order_for : Stmt := inClass (top 19) 14
abbrev s_Book_next_change : Stmt := inClass (top 19) 16
abbrev s_book_of : Stmt := top 20
abbrev s_LetterX_initX : Stmt := inClass (top 23) 0
abbrev s_Letter_order_now : Stmt := inClass (top 23) 1
abbrev s_Letter_step : Stmt := inClass (top 23) 2
abbrev s_Letter_skip : Stmt := inClass (top 23) 3
abbrev s_Letter_finish : Stmt := inClass (top 23) 4
abbrev s_WalkerX_initX : Stmt := inClass (top 25) 0
abbrev s_Walker_order_now : Stmt := inClass (top 25) 1
abbrev s_Walker_has_come : Stmt := inClass (top 25) 2
abbrev s_last_ended : Stmt := top 26
abbrev s_prolonged : Stmt := top 27
abbrev s_walked : Stmt := top 28
abbrev s_orders_to_prolong : Stmt := top 29
abbrev s_day_if_prolonged : Stmt := top 30
abbrev s_InvalidOrderX_initX : Stmt := inClass (top 3) 0
abbrev s_UnknownOrderX_initX : Stmt := inClass (top 7) 0
abbrev s__law_taken : Stmt := top 32
abbrev s__law_alike : Stmt := top 33
abbrev s__law_raised : Stmt := top 34
abbrev s__law_orders : Stmt := top 35
abbrev s__law_book : Stmt := top 36
abbrev s__law_index : Stmt := top 37
abbrev s__law_ended : Stmt := top 38
abbrev s__law_walk : Stmt := top 39
abbrev s__law_are_rejected : Stmt := top 40
abbrev s_law : Stmt := top 41
theorem sc_is_integer : FnScope ["value", "low", "high"] ["value", "low", "high"] (defScope s_is_integer) := ⟨rfl, rfl, rfl, by decide +kernel, rfl, by decide +kernel, by decide +kernel⟩
theorem sc_is_address : FnScope ["value", "letter"] ["value"] (defScope s_is_address) := ⟨rfl, rfl, rfl, by decide +kernel, rfl, by decide +kernel, by decide +kernel⟩
theorem sc_check_letter : FnScope ["address", "day"] ["address", "day"] (defScope s_check_letter) := ⟨rfl, rfl, rfl, by decide +kernel, rfl, by decide +kernel, by decide +kernel⟩
theorem sc_is_order : FnScope ["value", "source", "target", "first", "last", "way"] ["value"] (defScope s_is_order) := ⟨rfl, rfl, rfl, by decide +kernel, rfl, by decide +kernel, by decide +kernel⟩
theorem sc_do_overlap : FnScope ["one", "other"] ["one", "other"] (defScope s_do_overlap) := ⟨rfl, rfl, rfl, by decide +kernel, rfl, by decide +kernel, by decide +kernel⟩
theorem sc_BookX_initX : FnScope ["self", "orders", "index", "order", "earlier"] ["self", "orders"] (defScope s_BookX_initX) := ⟨rfl, rfl, rfl, by decide +kernel, rfl, by decide +kernel, by decide +kernel⟩
theorem sc_Book_orders : FnScope ["self"] ["self"] (defScope s_Book_orders) := ⟨rfl, rfl, rfl, by decide +kernel, rfl, by decide +kernel, by decide +kernel⟩
theorem sc_BookX_addX : FnScope ["self", "other"] ["self", "other"] (defScope s_BookX_addX) := ⟨rfl, rfl, rfl, by decide +kernel, rfl, by decide +kernel, by decide +kernel⟩
theorem sc_Book_check_order : FnScope ["self", "index"] ["self", "index"] (defScope s_Book_check_order) := ⟨rfl, rfl, rfl, by decide +kernel, rfl, by decide +kernel, by decide +kernel⟩
theorem sc_Book_order_for : FnScope ["self", "address", "day", "index", "source", "target", "first", "last", "way"] ["self", "address", "day"] (defScope s_Book_order_for) := ⟨rfl, rfl, rfl, by decide +kernel, rfl, by decide +kernel, by decide +kernel⟩
theorem sc_Book_next_change : FnScope ["self", "day", "found", "source", "target", "first", "last", "way", "change"] ["self", "day"] (defScope s_Book_next_change) := ⟨rfl, rfl, rfl, by decide +kernel, rfl, by decide +kernel, by decide +kernel⟩
theorem sc_book_of : FnScope ["orders"] ["orders"] (defScope s_book_of) := ⟨rfl, rfl, rfl, by decide +kernel, rfl, by decide +kernel, by decide +kernel⟩
theorem sc_LetterX_initX : FnScope ["self", "book", "address", "day"] ["self", "book", "address", "day"] (defScope s_LetterX_initX) := ⟨rfl, rfl, rfl, by decide +kernel, rfl, by decide +kernel, by decide +kernel⟩
theorem sc_Letter_order_now : FnScope ["self"] ["self"] (defScope s_Letter_order_now) := ⟨rfl, rfl, rfl, by decide +kernel, rfl, by decide +kernel, by decide +kernel⟩
theorem sc_Letter_step : FnScope ["self", "index", "source", "target", "first", "last", "way"] ["self"] (defScope s_Letter_step) := ⟨rfl, rfl, rfl, by decide +kernel, rfl, by decide +kernel, by decide +kernel⟩
theorem sc_Letter_skip : FnScope ["self", "day", "count", "turns"] ["self"] (defScope s_Letter_skip) := ⟨rfl, rfl, rfl, by decide +kernel, rfl, by decide +kernel, by decide +kernel⟩
theorem sc_Letter_finish : FnScope ["self"] ["self"] (defScope s_Letter_finish) := ⟨rfl, rfl, rfl, by decide +kernel, rfl, by decide +kernel, by decide +kernel⟩
theorem sc_WalkerX_initX : SScope ["self", "book", "address", "day", "goal", "__class__"] ["self", "book", "address", "day", "goal"] (defScope s_WalkerX_initX) := ⟨rfl, rfl, rfl, by decide +kernel, rfl, by decide +kernel, by decide +kernel, by decide +kernel, rfl, rfl, ⟨_, rfl⟩⟩
theorem sc_Walker_order_now : SScope ["self", "index", "__class__"] ["self"] (defScope s_Walker_order_now) := ⟨rfl, rfl, rfl, by decide +kernel, rfl, by decide +kernel, by decide +kernel, by decide +kernel, rfl, rfl, ⟨_, rfl⟩⟩
theorem sc_Walker_has_come : FnScope ["self"] ["self"] (defScope s_Walker_has_come) := ⟨rfl, rfl, rfl, by decide +kernel, rfl, by decide +kernel, by decide +kernel⟩
theorem sc_last_ended : FnScope ["book", "address", "day", "best", "index", "source", "target", "first", "last", "way"] ["book", "address", "day"] (defScope s_last_ended) := ⟨rfl, rfl, rfl, by decide +kernel, rfl, by decide +kernel, by decide +kernel⟩
theorem sc_prolonged : FnScope ["book", "index", "day", "source", "target", "first", "last", "way", "orders"] ["book", "index", "day"] (defScope s_prolonged) := ⟨rfl, rfl, rfl, by decide +kernel, rfl, by decide +kernel, by decide +kernel⟩
theorem sc_walked : FnScope ["book", "address", "day", "goal", "walker"] ["book", "address", "day", "goal"] (defScope s_walked) := ⟨rfl, rfl, rfl, by decide +kernel, rfl, by decide +kernel, by decide +kernel⟩
theorem sc_orders_to_prolong : FnScope ["book", "address", "day", "goal", "walker"] ["book", "address", "day", "goal"] (defScope s_orders_to_prolong) := ⟨rfl, rfl, rfl, by decide +kernel, rfl, by decide +kernel, by decide +kernel⟩
theorem sc_day_if_prolonged : FnScope ["book", "address", "day", "goal", "walker"] ["book", "address", "day", "goal"] (defScope s_day_if_prolonged) := ⟨rfl, rfl, rfl, by decide +kernel, rfl, by decide +kernel, by decide +kernel⟩
theorem sc_InvalidOrderX_initX : FnScope ["self", "index"] ["self", "index"] (defScope s_InvalidOrderX_initX) := ⟨rfl, rfl, rfl, by decide +kernel, rfl, by decide +kernel, by decide +kernel⟩
theorem sc_UnknownOrderX_initX : FnScope ["self", "index"] ["self", "index"] (defScope s_UnknownOrderX_initX) := ⟨rfl, rfl, rfl, by decide +kernel, rfl, by decide +kernel, by decide +kernel⟩
theorem sc__law_taken : FnScope ["_law_row", "_law_many", "_law_found", "_law_cell"] ["_law_row", "_law_many"] (defScope s__law_taken) := ⟨rfl, rfl, rfl, by decide +kernel, rfl, by decide +kernel, by decide +kernel⟩
theorem sc__law_alike : FnScope ["_law_one", "_law_due", "_law_k"] ["_law_one", "_law_due"] (defScope s__law_alike) := ⟨rfl, rfl, rfl, by decide +kernel, rfl, by decide +kernel, by decide +kernel⟩
theorem sc__law_raised : FnScope ["_law_work", "e", "_law_kinds", "_law_at", "_law_word"] ["_law_work"] (defScope s__law_raised) := ⟨rfl, rfl, rfl, by decide +kernel, rfl, by decide +kernel, by decide +kernel⟩
theorem sc__law_orders : FnScope ["_law_row", "_law_most", "_law_long", "_law_found", "_law_free", "_law_names", "_law_k", "_law_source", "_law_target", "_law_first", "_law_last", "_law_turn"] ["_law_row", "_law_most", "_law_long"] (defScope s__law_orders) := ⟨rfl, rfl, rfl, by decide +kernel, rfl, by decide +kernel, by decide +kernel⟩
theorem sc__law_book : FnScope ["_law_orders_here", "_law_book_here", "_law_order"] ["_law_orders_here"] (defScope s__law_book) := ⟨rfl, rfl, rfl, by decide +kernel, rfl, by decide +kernel, by decide +kernel⟩
theorem sc__law_index : FnScope ["_law_orders_here", "_law_address", "_law_day", "_law_found", "_law_k"] ["_law_orders_here", "_law_address", "_law_day"] (defScope s__law_index) := ⟨rfl, rfl, rfl, by decide +kernel, rfl, by decide +kernel, by decide +kernel⟩
theorem sc__law_ended : FnScope ["_law_orders_here", "_law_address", "_law_day", "_law_found", "_law_k"] ["_law_orders_here", "_law_address", "_law_day"] (defScope s__law_ended) := ⟨rfl, rfl, rfl, by decide +kernel, rfl, by decide +kernel, by decide +kernel⟩
theorem sc__law_walk : FnScope ["_law_orders_here", "_law_address", "_law_day", "_law_goal", "_law_allowed", "_law_needed", "_law_steps", "_law_k"] ["_law_orders_here", "_law_address", "_law_day", "_law_goal", "_law_allowed"] (defScope s__law_walk) := ⟨rfl, rfl, rfl, by decide +kernel, rfl, by decide +kernel, by decide +kernel⟩
theorem sc__law_are_rejected : FnScope ["_law_book_here", "_law_orders_here", "_law_word", "_law_works", "_law_bad", "_law_day", "_law_goal", "_law_k", "_law_name", "_law_work"] ["_law_book_here", "_law_orders_here"] (defScope s__law_are_rejected) := ⟨rfl, rfl, rfl, by decide +kernel, rfl, by decide +kernel, by decide +kernel⟩
theorem sc_law : FnScope ["_law_script", "_law_row", "_law_orders_here", "_law_everything", "_law_turn", "_law_name", "_law_goal", "_law_day", "_law_due", "_law_told", "_law_behind", "_law_longer", "_law_book_here", "_law_free", "_law_k", "_law_j", "_law_order"] ["_law_script"] (defScope s_law) := ⟨rfl, rfl, rfl, by decide +kernel, rfl, by decide +kernel, by decide +kernel⟩
structure Top (K : PySem.W.Frag) (mg : Str → Option Value) (C_Book : Addr) (C_Letter : Addr) (C_Walker : Addr) (C_MailError : Addr) (C_InvalidOrder : Addr) (C_UnknownOrder : Addr) (C_InvalidAddress : Addr) (C_InvalidDay : Addr) (C_InvalidNumber : Addr) (FL : Str) : Prop where
  d_is_integer : GDef K mg "is_integer" s_is_integer ["value", "low", "high"]
  d_is_address : GDef K mg "is_address" s_is_address ["value"]
  d_check_letter : GDef K mg "check_letter" s_check_letter ["address", "day"]
  d_is_order : GDef K mg "is_order" s_is_order ["value"]
  d_do_overlap : GDef K mg "do_overlap" s_do_overlap ["one", "other"]
  d_BookX_initX : SDef K mg C_Book "Book" "Book.__init__" s_BookX_initX "self" "orders"
  d_Book_orders : PDef K C_Book "orders" "Book.orders" s_Book_orders ["self"]
  d_BookX_addX : MDef K C_Book "__add__" "Book.__add__" s_BookX_addX ["self", "other"]
  d_Book_check_order : MDef K C_Book "check_order" "Book.check_order" s_Book_check_order ["self", "index"]
  d_Book_order_for : MDef K C_Book "order_for" "Book.order_for" s_Book_order_for ["self", "address", "day"]
  d_Book_next_change : MDef K C_Book "next_change" "Book.next_change" s_Book_next_change ["self", "day"]
  d_book_of : GDef K mg "book_of" s_book_of ["orders"]
  d_LetterX_initX : IDef K mg C_Letter "Letter" "Letter.__init__" s_LetterX_initX ["self", "book", "address", "day"]
  d_Letter_order_now : MDef K C_Letter "order_now" "Letter.order_now" s_Letter_order_now ["self"]
  d_Letter_step : MDef K C_Letter "step" "Letter.step" s_Letter_step ["self"]
  d_Letter_skip : MDef K C_Letter "skip" "Letter.skip" s_Letter_skip ["self"]
  d_Letter_finish : MDef K C_Letter "finish" "Letter.finish" s_Letter_finish ["self"]
  d_WalkerX_initX : ∃ f2, XDef FL K mg C_Walker "__init__" "Walker.__init__" s_WalkerX_initX ["self", "book", "address", "day", "goal"] f2 ∧ ∃ fd, Fun K "__init__" "Letter.__init__" s_LetterX_initX f2 fd ∧ Binds K fd ["self", "book", "address", "day"] []
  d_Walker_order_now : ∃ f2, XDef FL K mg C_Walker "order_now" "Walker.order_now" s_Walker_order_now ["self"] f2 ∧ ∃ fd, Fun K "order_now" "Letter.order_now" s_Letter_order_now f2 fd ∧ Binds K fd ["self"] []
  d_Walker_has_come : MDef K C_Walker "has_come" "Walker.has_come" s_Walker_has_come ["self"]
  d_last_ended : GDef K mg "last_ended" s_last_ended ["book", "address", "day"]
  d_prolonged : GDef K mg "prolonged" s_prolonged ["book", "index", "day"]
  d_walked : GDef K mg "walked" s_walked ["book", "address", "day", "goal"]
  d_orders_to_prolong : GDef K mg "orders_to_prolong" s_orders_to_prolong ["book", "address", "day", "goal"]
  d_day_if_prolonged : GDef K mg "day_if_prolonged" s_day_if_prolonged ["book", "address", "day", "goal"]
  d_InvalidOrderX_initX : EDef K mg C_InvalidOrder "InvalidOrder" "InvalidOrder.__init__" s_InvalidOrderX_initX ["self", "index"]
  d_UnknownOrderX_initX : EDef K mg C_UnknownOrder "UnknownOrder" "UnknownOrder.__init__" s_UnknownOrderX_initX ["self", "index"]
  d__law_taken : GDef K mg "_law_taken" s__law_taken ["_law_row", "_law_many"]
  d__law_alike : GDef K mg "_law_alike" s__law_alike ["_law_one", "_law_due"]
  d__law_raised : GDef K mg "_law_raised" s__law_raised ["_law_work"]
  d__law_orders : GDef K mg "_law_orders" s__law_orders ["_law_row", "_law_most", "_law_long"]
  d__law_book : GDef K mg "_law_book" s__law_book ["_law_orders_here"]
  d__law_index : GDef K mg "_law_index" s__law_index ["_law_orders_here", "_law_address", "_law_day"]
  d__law_ended : GDef K mg "_law_ended" s__law_ended ["_law_orders_here", "_law_address", "_law_day"]
  d__law_walk : GDef K mg "_law_walk" s__law_walk ["_law_orders_here", "_law_address", "_law_day", "_law_goal", "_law_allowed"]
  d__law_are_rejected : GDef K mg "_law_are_rejected" s__law_are_rejected ["_law_book_here", "_law_orders_here"]
  d_law : GDef K mg "law" s_law ["_law_script"]
  d_Walker_step : MDef K C_Walker "step" "Letter.step" s_Letter_step ["self"]
  d_Walker_skip : MDef K C_Walker "skip" "Letter.skip" s_Letter_skip ["self"]
  d_Walker_finish : MDef K C_Walker "finish" "Letter.finish" s_Letter_finish ["self"]
  cl_Book : Cls K C_Book
  cl_Letter : Cls K C_Letter
  cl_Walker : Cls K C_Walker
  mk_Walker : PySem.W.makesIn K C_Walker = true ∧ PySem.W.keepIn K (.ref C_Walker) = true ∧ mg "Walker" = some (.ref C_Walker)
  n_Book_listed : NoAttr K C_Book "listed"
  n_Letter_book : NoAttr K C_Letter "book"
  n_Letter_address : NoAttr K C_Letter "address"
  n_Letter_day : NoAttr K C_Letter "day"
  n_Letter_count : NoAttr K C_Letter "count"
  n_Letter_known : NoAttr K C_Letter "known"
  n_Letter_is_endless : NoAttr K C_Letter "is_endless"
  n_Letter_change : NoAttr K C_Letter "change"
  n_Walker_book : NoAttr K C_Walker "book"
  n_Walker_address : NoAttr K C_Walker "address"
  n_Walker_day : NoAttr K C_Walker "day"
  n_Walker_count : NoAttr K C_Walker "count"
  n_Walker_known : NoAttr K C_Walker "known"
  n_Walker_is_endless : NoAttr K C_Walker "is_endless"
  n_Walker_change : NoAttr K C_Walker "change"
  n_Walker_goal : NoAttr K C_Walker "goal"
  n_Walker_needed : NoAttr K C_Walker "needed"
  c_LETTERS : ∃ t, mg "LETTERS" = some (.str "abcdefghijklmnopqrstuvwxyz" t)
  c_MAX_LETTERS : ∃ t, mg "MAX_LETTERS" = some (.int 8 t)
  c_MAX_ORDERS_books : ∃ t, mg "MAX_ORDERS_books" = some (.int 30 t)
  c_MAX_DAY : ∃ t, mg "MAX_DAY" = some (.int 1000000000000000000 t)
  c_MAX_WAY : ∃ t, mg "MAX_WAY" = some (.int 30 t)
  g_MailError : mg "MailError" = some (.ref C_MailError)
  g_InvalidOrder : mg "InvalidOrder" = some (.ref C_InvalidOrder)
  g_UnknownOrder : mg "UnknownOrder" = some (.ref C_UnknownOrder)
  g_InvalidAddress : mg "InvalidAddress" = some (.ref C_InvalidAddress)
  g_InvalidDay : mg "InvalidDay" = some (.ref C_InvalidDay)
  g_InvalidNumber : mg "InvalidNumber" = some (.ref C_InvalidNumber)
  base_MailError : BaseC K C_MailError
  x_InvalidAddress : EDef0 K mg C_InvalidAddress "InvalidAddress"
  x_InvalidDay : EDef0 K mg C_InvalidDay "InvalidDay"
  e_InvalidAddress : ErrC K C_InvalidAddress C_MailError
  k_InvalidAddress_InvalidOrder : PySem.W.kitOne K (.ref C_InvalidAddress) (.ref C_InvalidOrder) = some false
  k_InvalidAddress_UnknownOrder : PySem.W.kitOne K (.ref C_InvalidAddress) (.ref C_UnknownOrder) = some false
  k_InvalidAddress_InvalidAddress : PySem.W.kitOne K (.ref C_InvalidAddress) (.ref C_InvalidAddress) = some true
  k_InvalidAddress_InvalidDay : PySem.W.kitOne K (.ref C_InvalidAddress) (.ref C_InvalidDay) = some false
  k_InvalidAddress_InvalidNumber : PySem.W.kitOne K (.ref C_InvalidAddress) (.ref C_InvalidNumber) = some false
  e_InvalidDay : ErrC K C_InvalidDay C_MailError
  k_InvalidDay_InvalidOrder : PySem.W.kitOne K (.ref C_InvalidDay) (.ref C_InvalidOrder) = some false
  k_InvalidDay_UnknownOrder : PySem.W.kitOne K (.ref C_InvalidDay) (.ref C_UnknownOrder) = some false
  k_InvalidDay_InvalidAddress : PySem.W.kitOne K (.ref C_InvalidDay) (.ref C_InvalidAddress) = some false
  k_InvalidDay_InvalidDay : PySem.W.kitOne K (.ref C_InvalidDay) (.ref C_InvalidDay) = some true
  k_InvalidDay_InvalidNumber : PySem.W.kitOne K (.ref C_InvalidDay) (.ref C_InvalidNumber) = some false
  e_InvalidOrder : ErrC K C_InvalidOrder C_MailError
  k_InvalidOrder_InvalidOrder : PySem.W.kitOne K (.ref C_InvalidOrder) (.ref C_InvalidOrder) = some true
  k_InvalidOrder_UnknownOrder : PySem.W.kitOne K (.ref C_InvalidOrder) (.ref C_UnknownOrder) = some false
  k_InvalidOrder_InvalidAddress : PySem.W.kitOne K (.ref C_InvalidOrder) (.ref C_InvalidAddress) = some false
  k_InvalidOrder_InvalidDay : PySem.W.kitOne K (.ref C_InvalidOrder) (.ref C_InvalidDay) = some false
  k_InvalidOrder_InvalidNumber : PySem.W.kitOne K (.ref C_InvalidOrder) (.ref C_InvalidNumber) = some false
  e_UnknownOrder : ErrC K C_UnknownOrder C_MailError
  k_UnknownOrder_InvalidOrder : PySem.W.kitOne K (.ref C_UnknownOrder) (.ref C_InvalidOrder) = some false
  k_UnknownOrder_UnknownOrder : PySem.W.kitOne K (.ref C_UnknownOrder) (.ref C_UnknownOrder) = some true
  k_UnknownOrder_InvalidAddress : PySem.W.kitOne K (.ref C_UnknownOrder) (.ref C_InvalidAddress) = some false
  k_UnknownOrder_InvalidDay : PySem.W.kitOne K (.ref C_UnknownOrder) (.ref C_InvalidDay) = some false
  k_UnknownOrder_InvalidNumber : PySem.W.kitOne K (.ref C_UnknownOrder) (.ref C_InvalidNumber) = some false
  na_InvalidOrder : PySem.W.findIn K (.ref C_InvalidOrder) "index" = some none
  na_UnknownOrder : PySem.W.findIn K (.ref C_UnknownOrder) "index" = some none
  b_isinstance : mg "isinstance" = none
  b_int : mg "int" = none
  b_bool : mg "bool" = none
  b_str : mg "str" = none
  b_tuple : mg "tuple" = none
  b_list : mg "list" = none
  b_len : mg "len" = none
  b_all : mg "all" = none
  b_enumerate : mg "enumerate" = none
  b_range : mg "range" = none
  b_min : mg "min" = none
  b_max : mg "max" = none
  b_sorted : mg "sorted" = none
  b_super : mg "super" = none
  b_ValueError : mg "ValueError" = none

end MF
set_option Elab.async false
set_option linter.all false
set_option maxHeartbeats 1000000
namespace MF
open PySem

def holds (o : Ordr) (x : Str) (d : Int) : Bool := decide (o.src = x) && (decide (o.first ≤ d) && decide (d ≤ o.last))
def ordFor : List Ordr → Str → Int → Option Nat
  | [], _, _ => none
  | o :: os, x, d => if holds o x d = true then some 0 else (ordFor os x d).map (· + 1)
theorem ordFor_some {x : Str} {d : Int} : ∀ {os : List Ordr} {i : Nat}, ordFor os x d = some i → ∃ o, os[i]? = some o ∧ holds o x d = true
  | [], i, h => by cases h
  | o :: os, i, h => by
    unfold ordFor at h
    by_cases q : holds o x d = true
    · rw [if_pos q] at h
      cases h
      exact ⟨o, rfl, q⟩
    · rw [if_neg q] at h
      cases e : ordFor os x d with
      | none => rw [e] at h; cases h
      | some j =>
        rw [e] at h
        cases h
        obtain ⟨p, h1, h2⟩ := ordFor_some e
        exact ⟨p, by simpa using h1, h2⟩
theorem ordFor_is {x : Str} {d : Int} {o : Ordr} : ∀ {os : List Ordr} {i : Nat}, (∀ (j : Nat) p, j < i → os[j]? = some p → holds p x d = false) → os[i]? = some o → holds o x d = true → ordFor os x d = some i
  | [], i, _, h, _ => by simp at h
  | p :: os, 0, _, h, q => by
    simp at h
    subst h
    unfold ordFor
    rw [if_pos q]
  | p :: os, i + 1, hn, h, q => by
    have h0 : holds p x d = false := hn 0 p (Nat.succ_pos _) rfl
    unfold ordFor
    rw [h0, if_neg Bool.false_ne_true, ordFor_is (i := i) (fun j r hj e => hn (j + 1) r (Nat.succ_lt_succ hj) (by simpa using e)) (by simpa using h) q]
    rfl
theorem ordFor_none {x : Str} {d : Int} : ∀ {os : List Ordr}, (∀ p ∈ os, holds p x d = false) → ordFor os x d = none
  | [], _ => rfl
  | p :: os, h => by
    unfold ordFor
    rw [h p (by simp), if_neg Bool.false_ne_true, ordFor_none fun q hq => h q (by simp [hq])]
    rfl
theorem ordFor_none_iff {x : Str} {d : Int} {os : List Ordr} : ordFor os x d = none ↔ ∀ p ∈ os, holds p x d = false := by
  refine ⟨fun h => ?_, ordFor_none⟩
  induction os with
  | nil => intro p hp; cases hp
  | cons o os ih =>
    unfold ordFor at h
    by_cases q : holds o x d = true
    · rw [if_pos q] at h; cases h
    · rw [if_neg q] at h
      have h' : ordFor os x d = none := by
        cases e : ordFor os x d with
        | none => rfl
        | some j => rw [e] at h; cases h
      intro p hp
      rcases List.mem_cons.mp hp with rfl | hp
      · simpa using q
      · exact ih h' p hp
theorem ordFor_congr {x : Str} {d e : Int} : ∀ {os : List Ordr}, (∀ p ∈ os, holds p x d = holds p x e) → ordFor os x d = ordFor os x e
  | [], _ => rfl
  | p :: os, h => by
    unfold ordFor
    rw [h p (by simp), ordFor_congr fun q hq => h q (by simp [hq])]
def changes : List Ordr → Int → List Int
  | [], _ => []
  | o :: os, d => ([o.first, o.last + 1].filter fun c => decide (d < c)) ++ changes os d
theorem mem_changes {d c : Int} : ∀ {os : List Ordr}, c ∈ changes os d ↔ d < c ∧ ∃ o ∈ os, c = o.first ∨ c = o.last + 1
  | [] => by simp [changes]
  | o :: os => by
    unfold changes
    rw [List.mem_append, mem_changes (os := os), List.mem_filter]
    simp only [List.mem_cons, List.not_mem_nil, or_false, decide_eq_true_eq, exists_eq_or_imp]
    constructor
    · rintro (⟨h1, h2⟩ | ⟨h1, o', h2, h3⟩)
      · exact ⟨h2, .inl h1⟩
      · exact ⟨h1, .inr ⟨o', h2, h3⟩⟩
    · rintro ⟨h1, h2 | ⟨o', h2, h3⟩⟩
      · exact .inl ⟨h2, h1⟩
      · exact .inr ⟨h1, o', h2, h3⟩
def leastOf : List Int → Option Int
  | [] => none
  | a :: as => match leastOf as with
    | none => some a
    | some b => some (if a ≤ b then a else b)
theorem leastOf_none {l : List Int} : leastOf l = none ↔ l = [] := by
  cases l with
  | nil => simp [leastOf]
  | cons a as =>
    unfold leastOf
    cases leastOf as <;> simp
theorem leastOf_some : ∀ {l : List Int} {m : Int}, leastOf l = some m ↔ m ∈ l ∧ ∀ c ∈ l, m ≤ c
  | [], m => by simp [leastOf]
  | a :: as, m => by
    unfold leastOf
    cases e : leastOf as with
    | none =>
      have := leastOf_none.mp e
      subst this
      simp only [Option.some.injEq, List.mem_singleton]
      constructor
      · rintro rfl; exact ⟨rfl, fun c hc => by rw [hc]; exact Int.le_refl _⟩
      · rintro ⟨h, _⟩; exact h.symm
    | some b =>
      obtain ⟨hb, hm⟩ := (leastOf_some (l := as) (m := b)).mp e
      simp only [Option.some.injEq, List.mem_cons]
      constructor
      · intro h
        by_cases q : a ≤ b
        · rw [if_pos q] at h
          subst h
          exact ⟨.inl rfl, fun c hc => by
            rcases hc with rfl | hc
            · exact Int.le_refl _
            · have := hm c hc; omega⟩
        · rw [if_neg q] at h
          subst h
          exact ⟨.inr hb, fun c hc => by
            rcases hc with rfl | hc
            · omega
            · exact hm c hc⟩
      · rintro ⟨h1, h2⟩
        have ha := h2 a (.inl rfl)
        have hb' := h2 b (.inr hb)
        rcases h1 with rfl | h1
        · rw [if_pos hb']
        · have := hm m h1
          by_cases q : a ≤ b
          · rw [if_pos q]; omega
          · rw [if_neg q]; omega
def nextCh (os : List Ordr) (d : Int) : Option Int := leastOf (changes os d)
theorem nextCh_gt {os : List Ordr} {d c : Int} (h : nextCh os d = some c) : d < c := (mem_changes.mp (leastOf_some.mp h).1).1
theorem nextCh_const {os : List Ordr} {d e : Int} (hd : d ≤ e) (hc : ∀ c, nextCh os d = some c → e < c) : nextCh os e = nextCh os d := by
  have sub : ∀ c, c ∈ changes os e ↔ c ∈ changes os d := fun c => by
    rw [mem_changes, mem_changes]
    constructor
    · rintro ⟨h1, h2⟩; exact ⟨by omega, h2⟩
    · rintro ⟨h1, h2⟩
      refine ⟨?_, h2⟩
      cases q : nextCh os d with
      | none =>
        have := leastOf_none.mp q
        have hm : c ∈ changes os d := mem_changes.mpr ⟨h1, h2⟩
        rw [this] at hm; cases hm
      | some m =>
        have := (leastOf_some.mp q).2 c (mem_changes.mpr ⟨h1, h2⟩)
        have := hc m q
        omega
  unfold nextCh
  cases q : leastOf (changes os d) with
  | none =>
    have h0 := leastOf_none.mp q
    refine leastOf_none.mpr ?_
    cases r : changes os e with
    | nil => rfl
    | cons a as =>
      have : a ∈ changes os d := (sub a).mp (by rw [r]; simp)
      rw [h0] at this; cases this
  | some m =>
    obtain ⟨h1, h2⟩ := leastOf_some.mp q
    exact leastOf_some.mpr ⟨(sub m).mpr h1, fun c hc' => h2 c ((sub c).mp hc')⟩
theorem ordFor_const {os : List Ordr} {x : Str} {d e : Int} (hd : d ≤ e) (hc : ∀ c ∈ changes os d, e < c) : ordFor os x e = ordFor os x d := by
  refine ordFor_congr fun o ho => ?_
  have h1 : d < o.first → e < o.first := fun h => hc _ (mem_changes.mpr ⟨h, o, ho, .inl rfl⟩)
  have h2 : d < o.last + 1 → e < o.last + 1 := fun h => hc _ (mem_changes.mpr ⟨h, o, ho, .inr rfl⟩)
  have e1 : decide (o.first ≤ e) = decide (o.first ≤ d) := by
    by_cases q : o.first ≤ d
    · rw [decide_eq_true q, decide_eq_true (by omega)]
    · rw [decide_eq_false q, decide_eq_false (by omega)]
  have e2 : decide (e ≤ o.last) = decide (d ≤ o.last) := by
    by_cases q : d ≤ o.last
    · rw [decide_eq_true q, decide_eq_true (by omega)]
    · rw [decide_eq_false q, decide_eq_false (by omega)]
  unfold holds
  rw [e1, e2]

abbrev Pt := Str × Int
def nxt (os : List Ordr) (s : Pt) : Option Pt := (ordFor os s.1 s.2).bind fun i => os[i]?.map fun o => (o.tgt, s.2 + o.way)
inductive Go (os : List Ordr) : Pt → Nat → Pt → Prop
  | refl (s : Pt) : Go os s 0 s
  | step {s s' t : Pt} {n : Nat} (h : nxt os s = some s') (r : Go os s' n t) : Go os s (n + 1) t
def Ends (os : List Ordr) (s : Pt) (n : Nat) (t : Pt) : Prop := Go os s n t ∧ nxt os t = none
theorem nxt_of {os : List Ordr} {x : Str} {d : Int} {i : Nat} {o : Ordr} (h : ordFor os x d = some i) (e : os[i]? = some o) : nxt os (x, d) = some (o.tgt, d + o.way) := by
  unfold nxt
  simp only [h, Option.bind_some, e, Option.map_some]
theorem nxt_none {os : List Ordr} {x : Str} {d : Int} : nxt os (x, d) = none ↔ ordFor os x d = none := by
  unfold nxt
  cases h : ordFor os x d with
  | none => simp
  | some i =>
    obtain ⟨o, e, _⟩ := ordFor_some h
    simp [e]
theorem nxt_some {os : List Ordr} {s s' : Pt} (h : nxt os s = some s') : ∃ i o, ordFor os s.1 s.2 = some i ∧ os[i]? = some o ∧ holds o s.1 s.2 = true ∧ s' = (o.tgt, s.2 + o.way) := by
  obtain ⟨x, d⟩ := s
  unfold nxt at h
  cases q : ordFor os x d with
  | none => simp [q] at h
  | some i =>
    obtain ⟨o, e, ho⟩ := ordFor_some q
    simp [q, e] at h
    exact ⟨i, o, rfl, e, ho, h.symm⟩
theorem Go.trans {os : List Ordr} {s t u : Pt} {n m : Nat} (a : Go os s n t) (b : Go os t m u) : Go os s (n + m) u := by
  induction a with
  | refl s => rw [Nat.zero_add]; exact b
  | step h r ih => rw [Nat.succ_add]; exact .step h (ih b)
theorem Go.one {os : List Ordr} {s t : Pt} (h : nxt os s = some t) : Go os s 1 t := .step h (.refl t)
theorem Go.det {os : List Ordr} {s t u : Pt} {n : Nat} (a : Go os s n t) (b : Go os s n u) : t = u := by
  induction a with
  | refl s => cases b; rfl
  | step h r ih =>
    cases b with
    | step h' r' => rw [h] at h'; cases h'; exact ih r'
theorem Ends.after {os : List Ordr} {s t u : Pt} {n m : Nat} (e : Ends os s n t) (g : Go os s m u) : m ≤ n ∧ Ends os u (n - m) t := by
  induction g generalizing n with
  | refl s => exact ⟨Nat.zero_le _, e⟩
  | step h r ih =>
    obtain ⟨a, b⟩ := e
    cases a with
    | refl => rw [b] at h; cases h
    | step h' r' =>
      rw [h] at h'
      cases h'
      obtain ⟨h1, h2⟩ := ih ⟨r', b⟩
      exact ⟨Nat.succ_le_succ h1, by rw [Nat.succ_sub_succ]; exact h2⟩
theorem Ends.before {os : List Ordr} {s t u : Pt} {n m : Nat} (g : Go os s m u) (e : Ends os u n t) : Ends os s (m + n) t := ⟨g.trans e.1, e.2⟩
theorem Ends.uniq {os : List Ordr} {s t u : Pt} {n m : Nat} (a : Ends os s n t) (b : Ends os s m u) : n = m ∧ t = u := by
  obtain ⟨h1, h2⟩ := a.after b.1
  obtain ⟨h3, h4⟩ := b.after a.1
  have e : n = m := Nat.le_antisymm h3 h1
  subst e
  exact ⟨rfl, a.1.det b.1⟩
structure Fine (os : List Ordr) (M : Int) : Prop where
  way : ∀ o ∈ os, 1 ≤ o.way
  last : ∀ o ∈ os, o.last ≤ M
theorem Good.fine {os : List Ordr} (g : Good os) : Fine os 1000000000000000000 := ⟨fun o h => (g.ok o h).w1, fun o h => (g.ok o h).lm⟩
theorem nxt_day {os : List Ordr} {M : Int} (f : Fine os M) {s s' : Pt} (h : nxt os s = some s') : s.2 < s'.2 ∧ s.2 ≤ M := by
  obtain ⟨i, o, h1, h2, h3, rfl⟩ := nxt_some h
  have ho : o ∈ os := List.mem_of_getElem? h2
  have := f.way o ho
  have := f.last o ho
  simp only [holds, Bool.and_eq_true, decide_eq_true_eq] at h3
  refine ⟨?_, by omega⟩
  show s.2 < s.2 + o.way
  omega
theorem Go.day {os : List Ordr} {M : Int} (f : Fine os M) {s t : Pt} {n : Nat} (g : Go os s n t) : s.2 + (n : Int) ≤ t.2 := by
  induction g with
  | refl s => simp
  | step h r ih =>
    have := (nxt_day f h).1
    push_cast
    omega
theorem ends_ex {os : List Ordr} {M : Int} (f : Fine os M) : ∀ s : Pt, ∃ n t, Ends os s n t := by
  have all : ∀ (k : Nat) (s : Pt), (M + 1 - s.2).toNat ≤ k → ∃ n t, Ends os s n t := by
    intro k
    induction k with
    | zero =>
      intro s hs
      refine ⟨0, s, .refl s, ?_⟩
      cases q : nxt os s with
      | none => rfl
      | some s' => have := nxt_day f q; omega
    | succ k ih =>
      intro s hs
      cases q : nxt os s with
      | none => exact ⟨0, s, .refl s, q⟩
      | some s' =>
        have := nxt_day f q
        obtain ⟨n, t, h1, h2⟩ := ih s' (by omega)
        exact ⟨n + 1, t, .step q h1, h2⟩
  exact fun s => all _ s (Nat.le_refl _)
theorem Go.shift {os : List Ordr} {M : Int} (f : Fine os M) {hi δ : Int} (h0 : 0 ≤ δ) {s t : Pt} {n : Nat} (g : Go os s n t) (hc : ∀ c ∈ changes os s.2, hi < c) (ht : t.2 + δ ≤ hi) : Go os (s.1, s.2 + δ) n (t.1, t.2 + δ) := by
  induction g with
  | refl s => exact .refl _
  | @step s s' t n h r ih =>
    have hd := (nxt_day f h).1
    have hl := r.day f
    have hle : s.2 + δ ≤ hi := by omega
    obtain ⟨i, o, h1, h2, h3, e⟩ := nxt_some h
    have e1 : ordFor os s.1 (s.2 + δ) = some i := by
      rw [← h1]
      exact ordFor_const (by omega) fun c hc' => by have := hc c hc'; omega
    have e2 : nxt os (s.1, s.2 + δ) = some (s'.1, s'.2 + δ) := by
      rw [nxt_of e1 h2, e]
      simp only [Option.some.injEq, Prod.mk.injEq, true_and]
      omega
    refine .step e2 (ih (fun c hc' => hc c ?_) ht)
    obtain ⟨q1, q2⟩ := mem_changes.mp hc'
    exact mem_changes.mpr ⟨by omega, q2⟩
theorem Go.rounds {os : List Ordr} {M : Int} (f : Fine os M) {x : Str} {d d1 hi : Int} {k : Nat} (g : Go os (x, d1) k (x, d)) (hd : d1 ≤ d) (hc : ∀ c ∈ changes os d1, hi < c) : ∀ j : Nat, d + (j : Int) * (d - d1) ≤ hi → Go os (x, d) (j * k) (x, d + (j : Int) * (d - d1))
  | 0, _ => by simp; exact .refl _
  | j + 1, h => by
    have hp : 0 ≤ (j : Int) * (d - d1) := Int.mul_nonneg (Int.natCast_nonneg _) (by omega)
    have e : ((j + 1 : Nat) : Int) * (d - d1) = (j : Int) * (d - d1) + (d - d1) := by
      push_cast
      rw [Int.add_mul, Int.one_mul]
    rw [e] at h ⊢
    have a := Go.rounds f g hd hc j (by omega)
    have b := Go.shift f (δ := (j : Int) * (d - d1) + (d - d1)) (by omega) g hc (by show d + _ ≤ hi; omega)
    have e3 : (x, d1 + ((j : Int) * (d - d1) + (d - d1))) = (x, d + (j : Int) * (d - d1)) := by
      congr 1
      omega
    have b' : Go os (x, d + (j : Int) * (d - d1)) k (x, d + ((j : Int) * (d - d1) + (d - d1))) := by
      rw [← e3]
      exact b
    rw [Nat.succ_mul]
    exact a.trans b'
end MF
set_option Elab.async false
set_option linter.all false
set_option maxHeartbeats 1000000
namespace MF
open PySem
def ended (o : Ordr) (x : Str) (d : Int) : Bool := decide (o.src = x) && decide (o.last < d)
def lastN (os : List Ordr) (x : Str) (d : Int) : Nat → Option Nat
  | 0 => none
  | n + 1 => match os[n]? with
    | none => lastN os x d n
    | some o => match lastN os x d n with
      | none => if ended o x d = true then some n else none
      | some b => if ended o x d = true ∧ (os[b]?.map Ordr.last).getD 0 < o.last then some n else some b
def lastEnd (os : List Ordr) (x : Str) (d : Int) : Option Nat := lastN os x d os.length
def IsLast (os : List Ordr) (x : Str) (d : Int) (n : Nat) : Option Nat → Prop
  | none => ∀ (j : Nat) p, j < n → os[j]? = some p → ended p x d = false
  | some i => i < n ∧ ∃ o, os[i]? = some o ∧ ended o x d = true ∧ ∀ (j : Nat) p, j < n → os[j]? = some p → ended p x d = true → p.last ≤ o.last ∧ (j < i → p.last < o.last)
theorem lastN_is (os : List Ordr) (x : Str) (d : Int) : ∀ n, n ≤ os.length → IsLast os x d n (lastN os x d n)
  | 0, _ => fun j p h => absurd h (Nat.not_lt_zero _)
  | n + 1, hn => by
    have ih := lastN_is os x d n (by omega)
    have hlt : n < os.length := by omega
    have eo : os[n]? = some os[n] := by simp [hlt]
    unfold lastN
    rw [eo]
    simp only []
    cases q : lastN os x d n with
    | none =>
      rw [q] at ih
      simp only []
      by_cases he : ended os[n] x d = true
      · rw [if_pos he]
        refine ⟨Nat.lt_succ_self _, os[n], eo, he, fun j p hj ep hp => ?_⟩
        by_cases hjn : j < n
        · rw [ih j p hjn ep] at hp
          cases hp
        · have : j = n := by omega
          subst this
          rw [eo] at ep
          cases ep
          exact ⟨Int.le_refl _, fun z => absurd z (Nat.lt_irrefl _)⟩
      · rw [if_neg he]
        intro j p hj ep
        by_cases hjn : j < n
        · exact ih j p hjn ep
        · have : j = n := by omega
          subst this
          rw [eo] at ep
          cases ep
          simpa using he
    | some b =>
      rw [q] at ih
      obtain ⟨hb, o, ob, oe, hm⟩ := ih
      simp only [ob, Option.map_some, Option.getD_some]
      by_cases he : ended os[n] x d = true ∧ o.last < os[n].last
      · rw [if_pos he]
        refine ⟨Nat.lt_succ_self _, os[n], eo, he.1, fun j p hj ep hp => ?_⟩
        by_cases hjn : j < n
        · have := (hm j p hjn ep hp).1
          exact ⟨by omega, fun _ => by omega⟩
        · have : j = n := by omega
          subst this
          rw [eo] at ep
          cases ep
          exact ⟨Int.le_refl _, fun z => absurd z (Nat.lt_irrefl _)⟩
      · rw [if_neg he]
        refine ⟨by omega, o, ob, oe, fun j p hj ep hp => ?_⟩
        by_cases hjn : j < n
        · exact hm j p hjn ep hp
        · have : j = n := by omega
          subst this
          rw [eo] at ep
          cases ep
          refine ⟨?_, fun z => by omega⟩
          by_cases hl : o.last < os[j].last
          · exact absurd ⟨hp, hl⟩ he
          · omega
theorem lastEnd_is (os : List Ordr) (x : Str) (d : Int) : IsLast os x d os.length (lastEnd os x d) := lastN_is os x d _ (Nat.le_refl _)
theorem IsLast.uniq {os : List Ordr} {x : Str} {d : Int} {n : Nat} {r s : Option Nat} (a : IsLast os x d n r) (b : IsLast os x d n s) : r = s := by
  cases r with
  | none =>
    cases s with
    | none => rfl
    | some j =>
      obtain ⟨h, o, e, ho, _⟩ := b
      rw [a j o h e] at ho
      cases ho
  | some i =>
    obtain ⟨h, o, e, ho, hm⟩ := a
    cases s with
    | none =>
      rw [b i o h e] at ho
      cases ho
    | some j =>
      obtain ⟨h', o', e', ho', hm'⟩ := b
      have h1 := hm j o' h' e' ho'
      have h2 := hm' i o h e ho
      by_cases c : i = j
      · rw [c]
      · rcases Nat.lt_or_gt_of_ne c with c | c
        · have := h2.2 c
          omega
        · have := h1.2 c
          omega
theorem lastEnd_some {os : List Ordr} {x : Str} {d : Int} {i : Nat} (h : lastEnd os x d = some i) : ∃ o, os[i]? = some o ∧ o.src = x ∧ o.last < d ∧ ∀ p ∈ os, p.src = x → p.last < d → p.last ≤ o.last := by
  have := lastEnd_is os x d
  rw [h] at this
  obtain ⟨_, o, e, ho, hm⟩ := this
  simp only [ended, Bool.and_eq_true, decide_eq_true_eq] at ho
  refine ⟨o, e, ho.1, ho.2, fun p hp h1 h2 => ?_⟩
  obtain ⟨j, hj, ej⟩ := List.mem_iff_getElem.mp hp
  exact (hm j p hj (by rw [← ej]; simp [hj]) (by simp [ended, h1, h2])).1
theorem lastEnd_none {os : List Ordr} {x : Str} {d : Int} : lastEnd os x d = none ↔ ∀ p ∈ os, p.src = x → ¬ p.last < d := by
  constructor
  · intro h p hp h1 h2
    have := lastEnd_is os x d
    rw [h] at this
    obtain ⟨j, hj, ej⟩ := List.mem_iff_getElem.mp hp
    have q := this j p hj (by rw [← ej]; simp [hj])
    simp [ended, h1, h2] at q
  · intro h
    cases q : lastEnd os x d with
    | none => rfl
    | some i =>
      obtain ⟨o, e, h1, h2, _⟩ := lastEnd_some q
      exact absurd h2 (h o (List.mem_of_getElem? e) h1)
theorem lastEnd_const {os : List Ordr} {x : Str} {d e : Int} (hd : d ≤ e) (hc : ∀ c ∈ changes os d, e < c) : lastEnd os x e = lastEnd os x d := by
  have key : ∀ o ∈ os, ended o x e = ended o x d := fun o ho => by
    unfold ended
    by_cases q : o.last < d
    · rw [decide_eq_true q, decide_eq_true (show o.last < e by omega)]
    · have := hc (o.last + 1) (mem_changes.mpr ⟨by omega, o, ho, .inr rfl⟩)
      rw [decide_eq_false q, decide_eq_false (show ¬ o.last < e by omega)]
  refine IsLast.uniq (lastEnd_is os x e) ?_
  have := lastEnd_is os x d
  cases q : lastEnd os x d with
  | none =>
    rw [q] at this
    intro j p hj ep
    rw [key p (List.mem_of_getElem? ep)]
    exact this j p hj ep
  | some i =>
    rw [q] at this
    obtain ⟨h1, o, h2, h3, h4⟩ := this
    refine ⟨h1, o, h2, by rw [key o (List.mem_of_getElem? h2)]; exact h3, fun j p hj ep hp => h4 j p hj ep ?_⟩
    rw [← key p (List.mem_of_getElem? ep)]
    exact hp
def idxW (os : List Ordr) (goal x : Str) (d : Int) : Option Nat := match ordFor os x d with
  | some i => some i
  | none => if x = goal then none else lastEnd os x d
theorem idxW_const {os : List Ordr} {goal x : Str} {d e : Int} (hd : d ≤ e) (hc : ∀ c ∈ changes os d, e < c) : idxW os goal x e = idxW os goal x d := by
  unfold idxW
  rw [ordFor_const hd hc, lastEnd_const hd hc]
theorem idxW_some {os : List Ordr} {goal x : Str} {d : Int} {i : Nat} (h : idxW os goal x d = some i) : ∃ o, os[i]? = some o := by
  unfold idxW at h
  cases q : ordFor os x d with
  | some j =>
    rw [q] at h
    cases h
    obtain ⟨o, e, _⟩ := ordFor_some q
    exact ⟨o, e⟩
  | none =>
    rw [q] at h
    simp only [] at h
    by_cases c : x = goal
    · rw [if_pos c] at h; cases h
    · rw [if_neg c] at h
      obtain ⟨o, e, _⟩ := lastEnd_some h
      exact ⟨o, e⟩
def addN (os : List Ordr) (s : Pt) (us : List Nat) (i : Nat) : List Nat := if ordFor os s.1 s.2 = none ∧ i ∉ us then us ++ [i] else us
inductive GoN (os : List Ordr) (goal : Str) : Pt → List Nat → Nat → Pt → List Nat → Prop
  | refl (s : Pt) (us : List Nat) : GoN os goal s us 0 s us
  | step {s t : Pt} {us us' : List Nat} {i n : Nat} {o : Ordr} (h : idxW os goal s.1 s.2 = some i) (e : os[i]? = some o) (r : GoN os goal (o.tgt, s.2 + o.way) (addN os s us i) n t us') : GoN os goal s us (n + 1) t us'
def EndsN (os : List Ordr) (goal : Str) (s : Pt) (us : List Nat) (n : Nat) (t : Pt) (us' : List Nat) : Prop := GoN os goal s us n t us' ∧ idxW os goal t.1 t.2 = none
theorem GoN.trans {os : List Ordr} {goal : Str} {s t u : Pt} {a b c : List Nat} {n m : Nat} (x : GoN os goal s a n t b) (y : GoN os goal t b m u c) : GoN os goal s a (n + m) u c := by
  induction x with
  | refl s us => rw [Nat.zero_add]; exact y
  | step h e r ih => rw [Nat.succ_add]; exact .step h e (ih y)
theorem GoN.one {os : List Ordr} {goal : Str} {s : Pt} {us : List Nat} {i : Nat} {o : Ordr} (h : idxW os goal s.1 s.2 = some i) (e : os[i]? = some o) : GoN os goal s us 1 (o.tgt, s.2 + o.way) (addN os s us i) := .step h e (.refl _ _)
theorem EndsN.after {os : List Ordr} {goal : Str} {s t u : Pt} {a b c : List Nat} {n m : Nat} (e : EndsN os goal s a n t b) (g : GoN os goal s a m u c) : m ≤ n ∧ EndsN os goal u c (n - m) t b := by
  induction g generalizing n with
  | refl s us => exact ⟨Nat.zero_le _, e⟩
  | step h ei r ih =>
    obtain ⟨x, y⟩ := e
    cases x with
    | refl => rw [y] at h; cases h
    | step h' ei' r' =>
      rw [h] at h'
      cases h'
      rw [ei] at ei'
      cases ei'
      obtain ⟨h1, h2⟩ := ih ⟨r', y⟩
      exact ⟨Nat.succ_le_succ h1, by rw [Nat.succ_sub_succ]; exact h2⟩
theorem GoN.day {os : List Ordr} {goal : Str} (w : ∀ o ∈ os, 1 ≤ o.way) {s t : Pt} {a b : List Nat} {n : Nat} (g : GoN os goal s a n t b) : s.2 + (n : Int) ≤ t.2 := by
  induction g with
  | refl s us => simp
  | step h e r ih =>
    have := w _ (List.mem_of_getElem? e)
    simp only at ih
    push_cast
    omega
theorem addN_mem {os : List Ordr} {s : Pt} {us : List Nat} {i : Nat} (h : ordFor os s.1 s.2 = none) : i ∈ addN os s us i := by
  unfold addN
  by_cases c : i ∈ us
  · rw [if_neg (fun z => z.2 c)]; exact c
  · rw [if_pos ⟨h, c⟩]; simp
theorem addN_sub {os : List Ordr} {s : Pt} {us : List Nat} {i j : Nat} (h : j ∈ us) : j ∈ addN os s us i := by
  unfold addN
  split
  · exact List.mem_append_left _ h
  · exact h
theorem GoN.sub {os : List Ordr} {goal : Str} {s t : Pt} {a b : List Nat} {n : Nat} (g : GoN os goal s a n t b) : ∀ j ∈ a, j ∈ b := by
  induction g with
  | refl => exact fun j h => h
  | step h e r ih => exact fun j hj => ih j (addN_sub hj)
theorem GoN.shift {os : List Ordr} {goal : Str} (w : ∀ o ∈ os, 1 ≤ o.way) {hi δ : Int} (h0 : 0 ≤ δ) {s t : Pt} {a b c : List Nat} {n : Nat} (g : GoN os goal s a n t b) (hc : ∀ c ∈ changes os s.2, hi < c) (ht : t.2 + δ ≤ hi) (hb : ∀ j ∈ b, j ∈ c) :
    GoN os goal (s.1, s.2 + δ) c n (t.1, t.2 + δ) c := by
  induction g with
  | refl s us => exact .refl _ _
  | @step s t us us' i n o h e r ih =>
    have hw := w _ (List.mem_of_getElem? e)
    have hl := r.day w
    simp only at hl
    have hle : s.2 + δ ≤ hi := by omega
    have hcc : ∀ c ∈ changes os s.2, s.2 + δ < c := fun c hc' => by have := hc c hc'; omega
    have e1 : idxW os goal s.1 (s.2 + δ) = some i := by rw [idxW_const (by omega) hcc]; exact h
    have e2 : addN os (s.1, s.2 + δ) c i = c := by
      unfold addN
      by_cases q : ordFor os s.1 s.2 = none
      · have : i ∈ c := hb i (r.sub i (addN_mem q))
        rw [if_neg (fun z => z.2 this)]
      · rw [if_neg (fun z => q (by rw [← ordFor_const (by omega) hcc]; exact z.1))]
    have ih' := ih (fun c hc' => by
      refine hc c ?_
      obtain ⟨q1, q2⟩ := mem_changes.mp hc'
      exact mem_changes.mpr ⟨by simp only at q1; omega, q2⟩) ht hb
    refine .step e1 e ?_
    rw [e2]
    have e3 : ((o.tgt, s.2 + o.way).1, (o.tgt, s.2 + o.way).2 + δ) = (o.tgt, (s.1, s.2 + δ).2 + o.way) := by
      simp only [Prod.mk.injEq, true_and]
      omega
    rw [← e3]
    exact ih'
theorem GoN.rounds {os : List Ordr} {goal : Str} (w : ∀ o ∈ os, 1 ≤ o.way) {x : Str} {d d1 hi : Int} {k : Nat} {a b : List Nat} (g : GoN os goal (x, d1) a k (x, d) b) (hd : d1 ≤ d) (hc : ∀ c ∈ changes os d1, hi < c) : ∀ j : Nat, d + (j : Int) * (d - d1) ≤ hi → GoN os goal (x, d) b (j * k) (x, d + (j : Int) * (d - d1)) b
  | 0, _ => by simp; exact .refl _ _
  | j + 1, h => by
    have hp : 0 ≤ (j : Int) * (d - d1) := Int.mul_nonneg (Int.natCast_nonneg _) (by omega)
    have e : ((j + 1 : Nat) : Int) * (d - d1) = (j : Int) * (d - d1) + (d - d1) := by
      push_cast
      rw [Int.add_mul, Int.one_mul]
    rw [e] at h ⊢
    have r1 := GoN.rounds w g hd hc j (by omega)
    have r2 := GoN.shift w (c := b) (δ := (j : Int) * (d - d1) + (d - d1)) (by omega) g hc (by show d + _ ≤ hi; omega) (fun _ z => z)
    have e3 : (x, d1 + ((j : Int) * (d - d1) + (d - d1))) = (x, d + (j : Int) * (d - d1)) := by
      congr 1
      omega
    have r3 : GoN os goal (x, d + (j : Int) * (d - d1)) b k (x, d + ((j : Int) * (d - d1) + (d - d1))) b := by
      rw [← e3]
      exact r2
    rw [Nat.succ_mul]
    exact r1.trans r3
theorem addN_nodup {os : List Ordr} {s : Pt} {us : List Nat} {i m : Nat} (hi : i < m) (h : us.Nodup ∧ ∀ j ∈ us, j < m) : (addN os s us i).Nodup ∧ ∀ j ∈ addN os s us i, j < m := by
  unfold addN
  split
  · rename_i q
    refine ⟨?_, fun j hj => ?_⟩
    · refine List.nodup_append.mpr ⟨h.1, by simp, fun a ha b hb e => ?_⟩
      rw [List.mem_singleton.mp hb] at e
      exact q.2 (e ▸ ha)
    · rcases List.mem_append.mp hj with z | z
      · exact h.2 j z
      · rw [List.mem_singleton.mp z]
        exact hi
  · exact h
theorem GoN.nodup {os : List Ordr} {goal : Str} {s t : Pt} {a b : List Nat} {n : Nat} (g : GoN os goal s a n t b) (h : a.Nodup ∧ ∀ j ∈ a, j < os.length) : b.Nodup ∧ ∀ j ∈ b, j < os.length := by
  induction g with
  | refl => exact h
  | step hi e r ih => exact ih (addN_nodup (List.getElem?_eq_some_iff.mp e).1 h)
def NoEnd (os : List Ordr) (goal : Str) (s : Pt) (us : List Nat) : Prop := ∀ N t u, ¬ EndsN os goal s us N t u
theorem noEnd_of {os : List Ordr} {goal : Str} (w : ∀ o ∈ os, 1 ≤ o.way) {s : Pt} {us a b : List Nat} {x : Str} {d d1 : Int} {n k : Nat} (g0 : GoN os goal s us n (x, d) b) (g : GoN os goal (x, d1) a k (x, d) b) (hk : 1 ≤ k) (hc : changes os d1 = []) : NoEnd os goal s us := by
  intro N t u e
  have hd := g.day w
  simp only at hd
  have r := GoN.rounds w (hi := d + ((N + 1 : Nat) : Int) * (d - d1)) g (by omega) (by rw [hc]; intro c hc'; cases hc') (N + 1) (Int.le_refl _)
  have := (e.after (g0.trans r)).1
  have h2 : N + 1 ≤ (N + 1) * k := Nat.le_mul_of_pos_right _ hk
  omega
end MF
set_option Elab.async false
set_option linter.all false
set_option maxHeartbeats 1000000
namespace MF
open PySem
def WTo (os : List Ordr) (g : Str) (s : Pt) (r : Option (List Nat × Int)) : Prop := match r with
  | some (us, d) => ∃ N, EndsN os g s [] N (g, d) us
  | none => NoEnd os g s [] ∨ ∃ N t us, EndsN os g s [] N t us ∧ t.1 ≠ g
def proO (os : List Ordr) (i : Nat) (d : Int) : List Ordr := match os[i]? with
  | some o => os.set i { o with last := d }
  | none => os
theorem EndsN.uniq {os : List Ordr} {g : Str} {s t u : Pt} {us b c : List Nat} {n m : Nat} (x : EndsN os g s us n t b) (y : EndsN os g s us m u c) : n = m ∧ t = u ∧ b = c := by
  obtain ⟨h1, h2⟩ := x.after y.1
  obtain ⟨h3, h4⟩ := y.after x.1
  have e : n = m := by omega
  subst e
  rw [Nat.sub_self] at h2
  obtain ⟨g2, _⟩ := h2
  cases g2
  exact ⟨rfl, rfl, rfl⟩
theorem WTo.uniq {os : List Ordr} {g : Str} {s : Pt} {r r' : Option (List Nat × Int)} (a : WTo os g s r) (b : WTo os g s r') : r = r' := by
  cases r with
  | none =>
    cases r' with
    | none => rfl
    | some q =>
      obtain ⟨N, e⟩ := b
      rcases a with a | ⟨M, t, us, e', ne⟩
      · exact absurd e (a _ _ _)
      · obtain ⟨_, h, _⟩ := e.uniq e'
        exact absurd (by rw [← h]) ne
  | some q =>
    obtain ⟨N, e⟩ := a
    cases r' with
    | none =>
      rcases b with b | ⟨M, t, us, e', ne⟩
      · exact absurd e (b _ _ _)
      · obtain ⟨_, h, _⟩ := e.uniq e'
        exact absurd (by rw [← h]) ne
    | some q' =>
      obtain ⟨N', e'⟩ := b
      obtain ⟨_, h1, h2⟩ := e.uniq e'
      have h3 : q.2 = q'.2 := (Prod.mk.inj h1).2
      exact congrArg some (Prod.ext h2 h3)
theorem Good.apart2 {os : List Ordr} (g : Good os) {i j : Nat} {o p : Ordr} (ei : os[i]? = some o) (ej : os[j]? = some p) (ne : i ≠ j) (hs : o.src = p.src) : o.last < p.first ∨ p.last < o.first := by
  obtain ⟨hi, ei'⟩ := List.getElem?_eq_some_iff.mp ei
  obtain ⟨hj, ej'⟩ := List.getElem?_eq_some_iff.mp ej
  have key := List.pairwise_iff_getElem.mp g.apart
  have un : ∀ {a b : Ordr}, a.src = b.src → overB a b = false → a.last < b.first ∨ b.last < a.first := fun {a b} e h => by
    unfold overB at h
    rw [decide_eq_true e, Bool.true_and, Bool.and_eq_false_iff, decide_eq_false_iff_not, decide_eq_false_iff_not] at h
    omega
  rcases Nat.lt_or_gt_of_ne ne with c | c
  · have := key i j hi hj c
    rw [ei', ej'] at this
    exact un hs this
  · have := key j i hj hi c
    rw [ei', ej'] at this
    exact (un hs.symm this).symm
theorem holds_iff {o : Ordr} {x : Str} {d : Int} : holds o x d = true ↔ o.src = x ∧ o.first ≤ d ∧ d ≤ o.last := by
  simp [holds]
theorem Good.one_holds {os : List Ordr} (g : Good os) {x : Str} {d : Int} {i j : Nat} {o p : Ordr} (ei : os[i]? = some o) (ej : os[j]? = some p) (ho : holds o x d = true) (hp : holds p x d = true) : i = j := by
  by_cases c : i = j
  · exact c
  · obtain ⟨a1, a2, a3⟩ := holds_iff.mp ho
    obtain ⟨b1, b2, b3⟩ := holds_iff.mp hp
    have := g.apart2 ei ej c (a1.trans b1.symm)
    omega
theorem Good.ordFor_of {os : List Ordr} (g : Good os) {x : Str} {d : Int} {i : Nat} {o : Ordr} (ei : os[i]? = some o) (ho : holds o x d = true) : ordFor os x d = some i := by
  cases q : ordFor os x d with
  | none =>
    have := ordFor_none_iff.mp q o (List.mem_of_getElem? ei)
    rw [ho] at this
    cases this
  | some j =>
    obtain ⟨p, ej, hp⟩ := ordFor_some q
    rw [g.one_holds ei ej ho hp]
theorem ordFor_ext {x : Str} {d : Int} : ∀ {os os' : List Ordr}, os.length = os'.length → (∀ (i : Nat) o o', os[i]? = some o → os'[i]? = some o' → holds o x d = holds o' x d) → ordFor os x d = ordFor os' x d
  | [], [], _, _ => rfl
  | [], _ :: _, h, _ => by simp at h
  | _ :: _, [], h, _ => by simp at h
  | o :: os, o' :: os', h, k => by
    have h0 := k 0 o o' rfl rfl
    have ih := ordFor_ext (os := os) (os' := os') (x := x) (d := d) (by simpa using h) fun i a b ha hb => k (i + 1) a b (by simpa using ha) (by simpa using hb)
    unfold ordFor
    rw [h0, ih]
structure Pro (os os' : List Ordr) (D : Int) : Prop where
  len : os'.length = os.length
  each : ∀ (i : Nat) o, os[i]? = some o → ∃ l, os'[i]? = some { o with last := l } ∧ (l = o.last ∨ (o.last ≤ l ∧ l < D))
theorem Pro.refl (os : List Ordr) (D : Int) : Pro os os D := ⟨rfl, fun i o e => ⟨o.last, e, .inl rfl⟩⟩
theorem Pro.back {os os' : List Ordr} {D : Int} (P : Pro os os' D) {i : Nat} {o' : Ordr} (e : os'[i]? = some o') : ∃ o l, os[i]? = some o ∧ o' = { o with last := l } ∧ (l = o.last ∨ (o.last ≤ l ∧ l < D)) := by
  obtain ⟨hi, _⟩ := List.getElem?_eq_some_iff.mp e
  rw [P.len] at hi
  obtain ⟨l, h1, h2⟩ := P.each i os[i] (List.getElem?_eq_getElem hi)
  rw [e] at h1
  exact ⟨os[i], l, List.getElem?_eq_getElem hi, Option.some.inj h1, h2⟩
theorem Pro.ord {os os' : List Ordr} {D : Int} (P : Pro os os' D) {x : Str} {d : Int} (h : D ≤ d) : ordFor os x d = ordFor os' x d := by
  refine ordFor_ext P.len.symm fun i o o' e e' => ?_
  obtain ⟨l, h1, h2⟩ := P.each i o e
  rw [e'] at h1
  rw [Option.some.inj h1]
  unfold holds
  rcases h2 with h2 | h2
  · rw [h2]
  · have a : ¬ d ≤ o.last := by omega
    have b : ¬ d ≤ l := by omega
    simp only [decide_eq_false a, decide_eq_false b, Bool.and_false]
theorem pro_ended {o : Ordr} {x : Str} {d l D : Int} (h : D ≤ d) (h2 : l = o.last ∨ (o.last ≤ l ∧ l < D)) : MF.ended { o with last := l } x d = MF.ended o x d := by
  unfold MF.ended
  rcases h2 with h2 | h2
  · rw [h2]
  · have a : o.last < d := by omega
    have b : l < d := by omega
    simp only [decide_eq_true a, decide_eq_true b]
theorem Pro.last {os os' : List Ordr} {D : Int} (P : Pro os os' D) (g : Good os) (g' : Good os') {x : Str} {d : Int} (h : D ≤ d) : lastEnd os' x d = lastEnd os x d := by
  refine IsLast.uniq (lastEnd_is os' x d) ?_
  have L := lastEnd_is os x d
  rw [P.len]
  cases q : lastEnd os x d with
  | none =>
    rw [q] at L
    intro j p' hj ej
    obtain ⟨p, l, e1, e2, e3⟩ := P.back ej
    rw [e2, pro_ended h e3]
    exact L j p hj e1
  | some i =>
    rw [q] at L
    obtain ⟨hi, o, eo, oe, hm⟩ := L
    obtain ⟨l, el, hl⟩ := P.each i o eo
    refine ⟨hi, _, el, by rw [pro_ended h hl]; exact oe, fun j p' hj ej he => ?_⟩
    obtain ⟨p, m, e1, e2, e3⟩ := P.back ej
    by_cases c : i = j
    · subst c
      rw [el] at ej
      cases ej
      exact ⟨Int.le_refl _, fun z => absurd z (Nat.lt_irrefl _)⟩
    · have he' : ended p x d = true := by
        rw [e2, pro_ended h e3] at he
        exact he
      have hle := (hm j p hj e1 he').1
      have s1 : o.src = x := by
        simp only [ended, Bool.and_eq_true, decide_eq_true_eq] at oe
        exact oe.1
      have s2 : p.src = x := by
        simp only [ended, Bool.and_eq_true, decide_eq_true_eq] at he'
        exact he'.1
      have a1 := g.apart2 eo e1 c (s1.trans s2.symm)
      have a2 := g'.apart2 el ej c (by rw [e2]; exact s1.trans s2.symm)
      have f1 := (g.ok p (List.mem_of_getElem? e1)).fl
      have f2 := (g'.ok _ (List.mem_of_getElem? el)).fl
      have f3 : p'.first = p.first := by rw [e2]
      simp only at a2 f2 ⊢
      omega
theorem Go.last_le {os : List Ordr} {B W : Int} (hB : ∀ o ∈ os, o.last ≤ B) (hW : ∀ o ∈ os, o.way ≤ W) {s t : Pt} {n : Nat} (g : Go os s n t) (h : s.2 ≤ B + W) : t.2 ≤ B + W := by
  induction g with
  | refl => exact h
  | step hn r ih =>
    refine ih ?_
    obtain ⟨i, o, _, e2, e3, rfl⟩ := nxt_some hn
    have := (holds_iff.mp e3).2.2
    have h1 := hB o (List.mem_of_getElem? e2)
    have h2 := hW o (List.mem_of_getElem? e2)
    simp only
    omega
theorem goN_of {os os' : List Ordr} {D : Int} (P : Pro os os' D) (g' : Good os') {goal : Str} {us : List Nat} {s t : Pt} {n : Nat} (go : Go os' s n t) (h : D ≤ s.2) : GoN os goal s us n t us := by
  induction go with
  | refl s => exact .refl _ _
  | @step s s' t n hn r ih =>
    obtain ⟨i, o', e1, e2, e3, rfl⟩ := nxt_some hn
    rw [← P.ord h] at e1
    obtain ⟨o, l, f1, f2, f3⟩ := P.back e2
    have ei : idxW os goal s.1 s.2 = some i := by unfold idxW; rw [e1]
    have en : addN os s us i = us := by
      unfold addN
      rw [if_neg (fun z => by rw [e1] at z; cases z.1)]
    have hw := (g'.ok o' (List.mem_of_getElem? e2)).w1
    refine .step ei f1 ?_
    rw [en]
    have := ih (by simp only; omega)
    rw [f2] at this
    exact this
structure PSt (os : List Ordr) (g : Str) (s0 : Pt) (os' : List Ordr) (us : List Nat) (B : Int) : Prop where
  good : Good os'
  path : ∃ n x D, Pro os os' D ∧ Go os' s0 n (x, D) ∧ GoN os g s0 [] n (x, D) us
  bnd : ∀ o ∈ os', o.last ≤ B
  s0B : s0.2 ≤ B
  way : ∀ o ∈ os', o.way ≤ 14
theorem PSt.start {os : List Ordr} {g : Str} {s0 : Pt} {B : Int} (G : Good os) (h1 : ∀ o ∈ os, o.last ≤ B) (h2 : s0.2 ≤ B) (h3 : ∀ o ∈ os, o.way ≤ 14) : PSt os g s0 os [] B :=
  ⟨G, ⟨0, s0.1, s0.2, Pro.refl os s0.2, .refl _, .refl _ _⟩, h1, h2, h3⟩
section
variable {os os' : List Ordr} {g : Str} {s0 : Pt} {us : List Nat} {B : Int} {N : Nat} {a : Str} {d : Int}
theorem PSt.turn (S : PSt os g s0 os' us B) (G : Good os) (en : Ends os' s0 N (a, d)) : d ≤ B + 14 ∧ lastEnd os' a d = lastEnd os a d ∧ GoN os g s0 [] N (a, d) us ∧ ordFor os a d = none ∧ ordFor os' a d = none ∧ ∃ D, D ≤ d ∧ Pro os os' D := by
  obtain ⟨n, x, D, P, g1, g2⟩ := S.path
  obtain ⟨h1, h2⟩ := en.after g1
  have hd := h2.1.day S.good.fine
  simp only at hd
  have hD : D ≤ d := by omega
  have e0 : ordFor os' a d = none := nxt_none.mp en.2
  refine ⟨?_, P.last G S.good hD, ?_, by rw [P.ord hD]; exact e0, e0, D, hD, P⟩
  · exact Go.last_le S.bnd S.way en.1 (by have := S.s0B; omega)
  · have := g2.trans (goN_of P S.good (goal := g) (us := us) h2.1 (Int.le_refl _))
    rw [show n + (N - n) = N by omega] at this
    exact this
theorem PSt.goal (S : PSt os g s0 os' us B) (G : Good os) (en : Ends os' s0 N (a, d)) (h : a = g) : WTo os g s0 (some (us, d)) := by
  obtain ⟨_, _, h1, h2, _⟩ := S.turn G en
  subst h
  exact ⟨N, h1, by unfold idxW; simp [h2]⟩
theorem PSt.stuck (S : PSt os g s0 os' us B) (G : Good os) (en : Ends os' s0 N (a, d)) (h : a ≠ g) (hl : lastEnd os' a d = none) : WTo os g s0 none := by
  obtain ⟨_, h0, h1, h2, _⟩ := S.turn G en
  refine .inr ⟨N, (a, d), us, ⟨h1, ?_⟩, h⟩
  unfold idxW
  simp only [h2]
  rw [if_neg h, ← h0]
  exact hl
theorem PSt.next (S : PSt os g s0 os' us B) (G : Good os) (en : Ends os' s0 N (a, d)) (h : a ≠ g) {k : Nat} {o' : Ordr} (hl : lastEnd os' a d = some k) (ek : os'[k]? = some o') (hB : B + 14 ≤ 1000000000000000000) : o'.last ≤ d ∧ d ≤ 1000000000000000000 ∧ Good (proO os' k d) ∧ PSt os g s0 (proO os' k d) (if k ∈ us then us else us ++ [k]) (B + 14) := by
  obtain ⟨h0, h1, h2, h3, h4, D, hD, P⟩ := S.turn G en
  obtain ⟨o2, e2, hs, hlt, hmax⟩ := lastEnd_some hl
  rw [ek] at e2
  cases e2
  have ok' := S.good.ok o' (List.mem_of_getElem? ek)
  have hk : k < os'.length := (List.getElem?_eq_some_iff.mp ek).1
  have ep : proO os' k d = os'.set k { o' with last := d } := by unfold proO; rw [ek]
  have get : ∀ j, (os'.set k { o' with last := d })[j]? = if k = j then some { o' with last := d } else os'[j]? := fun j => by
    rw [List.getElem?_set]
    by_cases c : k = j
    · rw [if_pos c, if_pos c, if_pos (by omega)]
    · rw [if_neg c, if_neg c]
  have mem : ∀ {p}, p ∈ os'.set k { o' with last := d } → p = { o' with last := d } ∨ p ∈ os' := fun {p} hp => by
    rcases List.mem_or_eq_of_mem_set hp with z | z
    · exact .inr z
    · exact .inl z
  have okn : ({ o' with last := d } : Ordr).Ok := ⟨ok'.as, ok'.at_, ok'.ne, ok'.f0, by have := ok'.fl; simp only; omega, by simp only; omega, ok'.w1, ok'.w30⟩
  have ap : ∀ j p, j ≠ k → os'[j]? = some p → overB p { o' with last := d } = false ∧ overB { o' with last := d } p = false := fun j p hj ep' => by
    by_cases c : p.src = o'.src
    · have ap0 := S.good.apart2 ep' ek hj c
      have pf := (S.good.ok p (List.mem_of_getElem? ep')).fl
      have hh : holds p a d = false := ordFor_none_iff.mp h4 p (List.mem_of_getElem? ep')
      have : p.last < o'.first ∨ d < p.first := by
        by_cases c2 : p.last < d
        · have := hmax p (List.mem_of_getElem? ep') (c.trans hs) c2
          omega
        · by_cases c3 : p.first ≤ d
          · have : holds p a d = true := holds_iff.mpr ⟨c.trans hs, c3, by omega⟩
            rw [this] at hh
            cases hh
          · omega
      constructor
      · rcases this with z | z
        · have : ¬ o'.first ≤ p.last := by omega
          simp [overB, this]
        · have : ¬ p.first ≤ d := by omega
          simp [overB, this]
      · rcases this with z | z
        · have : ¬ o'.first ≤ p.last := by omega
          simp [overB, this]
        · have : ¬ p.first ≤ d := by omega
          simp [overB, this]
    · have c' : ¬ o'.src = p.src := fun z => c z.symm
      simp [overB, c, c']
  have gn : Good (os'.set k { o' with last := d }) := by
    refine ⟨by rw [List.length_set]; exact S.good.len, fun p hp => ?_, ?_⟩
    · rcases mem hp with rfl | z
      · exact okn
      · exact S.good.ok p z
    · refine List.pairwise_iff_getElem.mpr fun i j hi hj hij => ?_
      rw [List.length_set] at hi hj
      have gi := get i
      have gj := get j
      rw [List.getElem?_eq_getElem (by rw [List.length_set]; exact hi)] at gi
      rw [List.getElem?_eq_getElem (by rw [List.length_set]; exact hj)] at gj
      by_cases ci : k = i
      · rw [if_pos ci] at gi
        have cj : ¬ k = j := by omega
        rw [if_neg cj] at gj
        rw [Option.some.inj gi]
        exact (ap j _ (fun z => cj z.symm) gj.symm).2
      · rw [if_neg ci] at gi
        by_cases cj : k = j
        · rw [if_pos cj] at gj
          rw [Option.some.inj gj]
          exact (ap i _ (fun z => ci z.symm) gi.symm).1
        · rw [if_neg cj] at gj
          have := List.pairwise_iff_getElem.mp S.good.apart i j hi hj hij
          rw [List.getElem?_eq_getElem hi] at gi
          rw [List.getElem?_eq_getElem hj] at gj
          rw [Option.some.inj gi, Option.some.inj gj]
          exact this
  rw [ep]
  refine ⟨by omega, by omega, gn, gn, ?_, fun p hp => ?_, by have := S.s0B; omega, fun p hp => ?_⟩
  · have keep : ∀ {s t : Pt} {n : Nat}, Go os' s n t → Go (os'.set k { o' with last := d }) s n t := fun {s t n} go => by
      induction go with
      | refl => exact .refl _
      | @step s s' t n hn r ih =>
        obtain ⟨i, o, e1, e2, e3, rfl⟩ := nxt_some hn
        refine .step ?_ ih
        by_cases c : k = i
        · subst c
          rw [ek] at e2
          cases e2
          obtain ⟨z1, z2, z3⟩ := holds_iff.mp e3
          have ho : holds { o' with last := d } s.1 s.2 = true := holds_iff.mpr ⟨z1, z2, by simp only; omega⟩
          have gi := get k
          rw [if_pos rfl] at gi
          exact nxt_of (o := { o' with last := d }) (gn.ordFor_of gi ho) gi
        · have gi := get i
          rw [if_neg c] at gi
          rw [e2] at gi
          exact nxt_of (gn.ordFor_of gi e3) gi
    have gk := get k
    rw [if_pos rfl] at gk
    have ho : holds { o' with last := d } a d = true := holds_iff.mpr ⟨hs, by have := ok'.fl; simp only; omega, Int.le_refl _⟩
    have st : nxt (os'.set k { o' with last := d }) (a, d) = some (o'.tgt, d + o'.way) := nxt_of (o := { o' with last := d }) (gn.ordFor_of gk ho) gk
    obtain ⟨o, l, f1, f2, f3⟩ := P.back ek
    have ei : idxW os g a d = some k := by
      unfold idxW
      simp only [h3]
      rw [if_neg h, ← h1]
      exact hl
    have ean : addN os (a, d) us k = if k ∈ us then us else us ++ [k] := by
      unfold addN
      by_cases c : k ∈ us
      · rw [if_neg (fun z => z.2 c), if_pos c]
      · rw [if_pos ⟨h3, c⟩, if_neg c]
    have w1 := ok'.w1
    have ew : o'.way = o.way ∧ o'.tgt = o.tgt ∧ o'.last = l := by rw [f2]; exact ⟨rfl, rfl, rfl⟩
    refine ⟨N + 1, o'.tgt, d + o'.way, ⟨by rw [List.length_set]; exact P.len, fun i p ei' => ?_⟩, (keep en.1).trans (Go.one st), ?_⟩
    · by_cases c : k = i
      · subst c
        rw [f1] at ei'
        cases ei'
        refine ⟨d, ?_, .inr ⟨?_, by omega⟩⟩
        · rw [gk, f2]
        · rcases f3 with z | z <;> omega
      · obtain ⟨m, q1, q2⟩ := P.each i p ei'
        refine ⟨m, ?_, ?_⟩
        · rw [get i, if_neg c]
          exact q1
        · rcases q2 with z | z
          · exact .inl z
          · exact .inr ⟨z.1, by omega⟩
    · have r := h2.trans (GoN.one (us := us) (s := (a, d)) ei f1)
      rw [ean] at r
      rw [ew.1, ew.2.1]
      exact r
  · rcases mem hp with rfl | z
    · simp only
      omega
    · have := S.bnd p z
      omega
  · rcases mem hp with rfl | z
    · exact S.way o' (List.mem_of_getElem? ek)
    · exact S.way p z
end
end MF
set_option Elab.async false
set_option linter.all false
set_option maxHeartbeats 1000000
namespace MF
open PySem
inductive SGo (os : List Ordr) (f : Int) : Str → Int → Nat → Str → Int → Prop
  | refl (x : Str) (a : Int) : SGo os f x a 0 x a
  | step {x y : Str} {a b : Int} {i n : Nat} {o : Ordr} (h : ordFor os x f = some i) (e : os[i]? = some o) (r : SGo os f o.tgt (a + o.way) n y b) : SGo os f x a (n + 1) y b
theorem SGo.trans {os : List Ordr} {f : Int} {x y z : Str} {a b c : Int} {n m : Nat} (p : SGo os f x a n y b) (q : SGo os f y b m z c) : SGo os f x a (n + m) z c := by
  induction p with
  | refl => rw [Nat.zero_add]; exact q
  | step h e r ih => rw [Nat.succ_add]; exact .step h e (ih q)
theorem SGo.one {os : List Ordr} {f : Int} {x : Str} {a : Int} {i : Nat} {o : Ordr} (h : ordFor os x f = some i) (e : os[i]? = some o) : SGo os f x a 1 o.tgt (a + o.way) := .step h e (.refl _ _)
theorem SGo.le {os : List Ordr} {f : Int} (w : ∀ o ∈ os, 1 ≤ o.way) {x y : Str} {a b : Int} {n : Nat} (p : SGo os f x a n y b) : a + (n : Int) ≤ b := by
  induction p with
  | refl => simp
  | step h e r ih =>
    have := w _ (List.mem_of_getElem? e)
    push_cast
    omega
theorem SGo.shift {os : List Ordr} {f : Int} {x y : Str} {a b : Int} {n : Nat} (p : SGo os f x a n y b) (δ : Int) : SGo os f x (a + δ) n y (b + δ) := by
  induction p with
  | refl => exact .refl _ _
  | @step x y a b i n o h e r ih =>
    refine .step h e ?_
    rw [show a + δ + o.way = a + o.way + δ by omega]
    exact ih
theorem SGo.go {os : List Ordr} {f last : Int} (w : ∀ o ∈ os, 1 ≤ o.way) (hc : ∀ c ∈ changes os f, last < c) {x y : Str} {a b : Int} {n : Nat} (p : SGo os f x a n y b) : f ≤ a → b ≤ last → Go os (x, a) n (y, b) := by
  induction p with
  | refl => intro _ _; exact .refl _
  | @step x y a b i n o h e r ih =>
    intro h1 h2
    have hw := w _ (List.mem_of_getElem? e)
    have hl := r.le w
    have e1 : ordFor os x a = some i := by
      rw [ordFor_const h1 fun c hc' => by have := hc c hc'; omega]
      exact h
    exact .step (nxt_of e1 e) (ih (by omega) h2)
structure SpanD where
  first : Int
  last : Int
  way : Int
  rd : Int
  loop : Bool
def SpanD.need (s : SpanD) : Int := if s.loop = true then s.way + s.rd else s.way
def SpanD.per (s : SpanD) : Int := max (s.first - 1) (s.last - s.need)
def LookOk (os : List Ordr) (x : Str) (f way rd : Int) (loop : Bool) : Prop :=
  0 ≤ way ∧ 1 ≤ rd ∧ ((loop = false ∧ rd = 1 ∧ ∃ n y, SGo os f x f n y (f + way) ∧ ordFor os y f = none) ∨ (loop = true ∧ ∃ n m y, 1 ≤ m ∧ SGo os f x f n y (f + way) ∧ SGo os f y (f + way) m y (f + way + rd)))
structure SpanOk (os : List Ordr) (x : Str) (s : SpanD) : Prop where
  f0 : 0 ≤ s.first
  fl : s.first ≤ s.last
  lm : s.last ≤ 1000000000000000000
  const : ∀ c ∈ changes os s.first, s.last < c
  look : LookOk os x s.first s.way s.rd s.loop
def Used (os : List Ordr) (s : Pt) (j : Nat) : Prop := ∃ n t, Go os s n t ∧ ordFor os t.1 t.2 = some j
open Classical in
noncomputable def endPt (os : List Ordr) (s : Pt) : Pt := if h : ∃ t n, Ends os s n t then h.choose else s
theorem endPt_eq {os : List Ordr} {s t : Pt} {n : Nat} (h : Ends os s n t) : endPt os s = t := by
  unfold endPt
  have ex : ∃ t n, Ends os s n t := ⟨t, n, h⟩
  rw [dif_pos ex]
  obtain ⟨m, hm⟩ := ex.choose_spec
  exact (hm.uniq h).2
noncomputable def endA (os : List Ordr) (x : Str) (d : Int) : Str := (endPt os (x, d)).1
theorem endPt_go {os : List Ordr} (g : Good os) {s t : Pt} {n : Nat} (h : Go os s n t) : endPt os s = endPt os t := by
  obtain ⟨m, u, e⟩ := ends_ex g.fine t
  rw [endPt_eq e, endPt_eq (Ends.before h e)]
theorem Used.of {os : List Ordr} {s t : Pt} {n j : Nat} (h : Go os s n t) (u : Used os t j) : Used os s j := by
  obtain ⟨m, v, g, e⟩ := u
  exact ⟨n + m, v, h.trans g, e⟩
theorem Go.split {os : List Ordr} {s t u : Pt} {n m : Nat} (a : Go os s n t) (b : Go os s m u) : (m < n ∧ ∃ k, 1 ≤ k ∧ n = m + k ∧ Go os u k t) ∨ (n ≤ m ∧ Go os t (m - n) u) := by
  induction a generalizing m with
  | refl s => exact .inr ⟨Nat.zero_le _, b⟩
  | @step s s' t n h r ih =>
    cases b with
    | refl => exact .inl ⟨Nat.succ_pos _, n + 1, by omega, by omega, .step h r⟩
    | @step _ s2 _ m h' r' =>
      rw [h] at h'
      cases h'
      rcases ih r' with ⟨q, k, k1, k2, k3⟩ | ⟨q, k⟩
      · exact .inl ⟨by omega, k, k1, by omega, k3⟩
      · exact .inr ⟨by omega, by rw [Nat.succ_sub_succ]; exact k⟩
theorem Go.const_ord {os : List Ordr} {x : Str} {f last d e : Int} (hc : ∀ c ∈ changes os f, last < c) (h1 : f ≤ d) (h2 : d ≤ last) (h3 : f ≤ e) (h4 : e ≤ last) : ordFor os x d = ordFor os x e := by
  rw [ordFor_const (os := os) (x := x) h1 fun c hc' => by have := hc c hc'; omega, ordFor_const (os := os) (x := x) h3 fun c hc' => by have := hc c hc'; omega]
theorem Go.move {os : List Ordr} (g : Good os) {f last δ : Int} (hc : ∀ c ∈ changes os f, last < c) {s t : Pt} {n : Nat} (a : Go os s n t) : f ≤ s.2 → f ≤ s.2 + δ → t.2 ≤ last → t.2 + δ ≤ last → Go os (s.1, s.2 + δ) n (t.1, t.2 + δ) := by
  induction a with
  | refl => intro _ _ _ _; exact .refl _
  | @step s s' t n h r ih =>
    intro h1 h2 h3 h4
    have hd := (nxt_day g.fine h).1
    have hl := r.day g.fine
    obtain ⟨i, o, e1, e2, e3, rfl⟩ := nxt_some h
    have k : ordFor os s.1 (s.2 + δ) = some i := by
      rw [← e1]
      refine Go.const_ord hc h2 ?_ h1 ?_ <;> simp only at hl hd ⊢ <;> omega
    have := ih (by simp only; omega) (by simp only at hd ⊢; omega) h3 h4
    refine .step (nxt_of k e2) ?_
    rw [show s.2 + δ + o.way = s.2 + o.way + δ by omega]
    exact this
theorem SpanOk.alike {os : List Ordr} (g : Good os) {x : Str} {s : SpanD} (S : SpanOk os x s) {d : Int} (h1 : s.first ≤ d) (h2 : d + s.rd ≤ s.per) : endA os x (d + s.rd) = endA os x d ∧ ∀ j, Used os (x, d + s.rd) j ↔ Used os (x, d) j := by
  obtain ⟨w0, r1, L⟩ := S.look
  have wy : ∀ o ∈ os, 1 ≤ o.way := fun o ho => (g.ok o ho).w1
  have hc := S.const
  unfold SpanD.per at h2
  have h2' : d + s.rd ≤ s.last - s.need := by
    rcases Int.max_def (s.first - 1) (s.last - s.need) ▸ h2 with h2
    split at h2 <;> omega
  rcases L with ⟨lf, rd1, n, y, p, ey⟩ | ⟨lt, n, m, y, m1, p, q⟩
  · unfold SpanD.need at h2'
    rw [lf, if_neg Bool.false_ne_true] at h2'
    have at_ : ∀ e, s.first ≤ e → e + s.way ≤ s.last → Go os (x, e) n (y, e + s.way) ∧ ordFor os y (e + s.way) = none := fun e e1 e2 => by
      have p' := p.shift (e - s.first)
      rw [show s.first + (e - s.first) = e by omega, show s.first + s.way + (e - s.first) = e + s.way by omega] at p'
      refine ⟨p'.go wy hc (by omega) (by omega), ?_⟩
      rw [Go.const_ord hc (by omega) (by omega) (Int.le_refl _) S.fl]
      exact ey
    obtain ⟨g1, o1⟩ := at_ d h1 (by omega)
    obtain ⟨g2, o2⟩ := at_ (d + s.rd) (by omega) (by omega)
    have E1 : endPt os (x, d) = (y, d + s.way) := endPt_eq ⟨g1, nxt_none.mpr o1⟩
    have E2 : endPt os (x, d + s.rd) = (y, d + s.rd + s.way) := endPt_eq ⟨g2, nxt_none.mpr o2⟩
    refine ⟨by unfold endA; rw [E1, E2], fun j => ⟨fun ⟨k, t, gk, ek⟩ => ?_, fun ⟨k, t, gk, ek⟩ => ?_⟩⟩
    · rcases Go.split g2 gk with ⟨lt, c, c1, c2, c3⟩ | ⟨lt, c3⟩
      · have hd := gk.day g.fine
        have hd2 := c3.day g.fine
        simp only at hd hd2
        have mv := Go.move g (δ := -s.rd) hc gk (by simp only; omega) (by simp only; omega) (by omega) (by omega)
        refine ⟨k, (t.1, t.2 + -s.rd), ?_, ?_⟩
        · simp only at mv
          rw [show d + s.rd + -s.rd = d by omega] at mv
          exact mv
        · rw [← ek]
          exact Go.const_ord hc (by simp only; omega) (by simp only; omega) (by omega) (by omega)
      · cases hz : k - n with
        | zero =>
          rw [hz] at c3
          cases c3
          rw [o2] at ek
          cases ek
        | succ z =>
          rw [hz] at c3
          cases c3 with
          | step hh _ => rw [nxt_none.mpr o2] at hh; cases hh
    · rcases Go.split g1 gk with ⟨lt, c, c1, c2, c3⟩ | ⟨lt, c3⟩
      · have hd := gk.day g.fine
        have hd2 := c3.day g.fine
        simp only at hd hd2
        have mv := Go.move g (δ := s.rd) hc gk (by simp only; omega) (by simp only; omega) (by omega) (by omega)
        refine ⟨k, (t.1, t.2 + s.rd), mv, ?_⟩
        rw [← ek]
        exact Go.const_ord hc (by simp only; omega) (by simp only; omega) (by omega) (by omega)
      · cases hz : k - n with
        | zero =>
          rw [hz] at c3
          cases c3
          rw [o1] at ek
          cases ek
        | succ z =>
          rw [hz] at c3
          cases c3 with
          | step hh _ => rw [nxt_none.mpr o1] at hh; cases hh
  · unfold SpanD.need at h2'
    rw [if_pos lt] at h2'
    have at_ : ∀ e, s.first ≤ e → e + s.way ≤ s.last → Go os (x, e) n (y, e + s.way) := fun e e1 e2 => by
      have p' := p.shift (e - s.first)
      rw [show s.first + (e - s.first) = e by omega, show s.first + s.way + (e - s.first) = e + s.way by omega] at p'
      exact p'.go wy hc (by omega) (by omega)
    have rnd : ∀ e, s.first ≤ e → e + s.way + s.rd ≤ s.last → Go os (y, e + s.way) m (y, e + s.way + s.rd) := fun e e1 e2 => by
      have p' := q.shift (e - s.first)
      rw [show s.first + s.way + (e - s.first) = e + s.way by omega, show s.first + s.way + s.rd + (e - s.first) = e + s.way + s.rd by omega] at p'
      exact p'.go wy hc (by omega) (by omega)
    have g1 := at_ d h1 (by omega)
    have l1 := rnd d h1 (by omega)
    have g2 := at_ (d + s.rd) (by omega) (by omega)
    have l2 := rnd (d + s.rd) (by omega) (by omega)
    rw [show d + s.rd + s.way = d + s.way + s.rd by omega] at g2 l2
    refine ⟨by unfold endA; rw [endPt_go g g2, endPt_go g (g1.trans l1)], fun j => ⟨fun ⟨k, t, gk, ek⟩ => ?_, fun ⟨k, t, gk, ek⟩ => ?_⟩⟩
    · rcases Go.split g2 gk with ⟨lt, c, c1, c2, c3⟩ | ⟨lt, c3⟩
      · have hd := gk.day g.fine
        have hd2 := c3.day g.fine
        simp only at hd hd2
        have mv := Go.move g (δ := -s.rd) hc gk (by simp only; omega) (by simp only; omega) (by omega) (by omega)
        refine ⟨k, (t.1, t.2 + -s.rd), ?_, ?_⟩
        · simp only at mv
          rw [show d + s.rd + -s.rd = d by omega] at mv
          exact mv
        · rw [← ek]
          exact Go.const_ord hc (by simp only; omega) (by simp only; omega) (by omega) (by omega)
      · exact Used.of (g1.trans l1) ⟨_, t, c3, ek⟩
    · rcases Go.split (g1.trans l1) gk with ⟨lt, c, c1, c2, c3⟩ | ⟨lt, c3⟩
      · have hd := gk.day g.fine
        have hd2 := c3.day g.fine
        simp only at hd hd2
        have mv := Go.move g (δ := s.rd) hc gk (by simp only; omega) (by simp only; omega) (by omega) (by omega)
        refine ⟨k, (t.1, t.2 + s.rd), mv, ?_⟩
        rw [← ek]
        exact Go.const_ord hc (by simp only; omega) (by simp only; omega) (by omega) (by omega)
      · exact Used.of g2 ⟨_, t, c3, ek⟩
end MF
set_option Elab.async false
set_option linter.all false
set_option maxHeartbeats 1000000
namespace MF
open PySem
def intR (a b : Int) : List Int := (List.range (b + 1 - a).toNat).map fun (k : Nat) => a + (k : Int)
theorem mem_intR {a b d : Int} : d ∈ intR a b ↔ a ≤ d ∧ d ≤ b := by
  unfold intR
  rw [List.mem_map]
  constructor
  · rintro ⟨k, hk, rfl⟩
    have := List.mem_range.mp hk
    omega
  · rintro ⟨h1, h2⟩
    exact ⟨(d - a).toNat, List.mem_range.mpr (by omega), by omega⟩
theorem intR_nil {a b : Int} (h : b < a) : intR a b = [] := by
  unfold intR
  rw [show (b + 1 - a).toNat = 0 by omega]
  rfl
theorem intR_cons {a b : Int} (h : a ≤ b) : intR a b = a :: intR (a + 1) b := by
  unfold intR
  rw [show (b + 1 - a).toNat = (b + 1 - (a + 1)).toNat + 1 by omega, List.range_succ_eq_map, List.map_cons, List.map_map]
  congr 1
  · simp
  · refine List.map_congr_left fun k _ => ?_
    simp only [Function.comp]
    push_cast
    omega
theorem intR_snoc {a b : Int} (h : a ≤ b) : intR a b = intR a (b - 1) ++ [b] := by
  unfold intR
  rw [show (b + 1 - a).toNat = (b - 1 + 1 - a).toNat + 1 by omega, List.range_succ, List.map_append]
  congr 1
  simp only [List.map_cons, List.map_nil]
  congr 1
  omega
theorem intR_app {a m b : Int} (h1 : a ≤ m + 1) (h2 : m ≤ b) : intR a b = intR a m ++ intR (m + 1) b := by
  have : ∀ (n : Nat) (a : Int), (m + 1 - a).toNat = n → a ≤ m + 1 → intR a b = intR a m ++ intR (m + 1) b := by
    intro n
    induction n with
    | zero =>
      intro a h h1
      have : a = m + 1 := by omega
      subst this
      rw [intR_nil (a := m + 1) (b := m) (by omega)]
      rfl
    | succ n ih =>
      intro a h h1
      rw [intR_cons (a := a) (b := b) (by omega), intR_cons (a := a) (b := m) (by omega), ih (a + 1) (by omega) (by omega)]
      rfl
  exact this _ a rfl h1
def sumI (g : Int → Int) (l : List Int) : Int := (l.map g).sum
theorem sumI_app (g : Int → Int) (l l' : List Int) : sumI g (l ++ l') = sumI g l + sumI g l' := by
  unfold sumI
  rw [List.map_append, List.sum_append]
theorem sumI_cons (g : Int → Int) (a : Int) (l : List Int) : sumI g (a :: l) = g a + sumI g l := by
  unfold sumI
  rw [List.map_cons, List.sum_cons]
theorem sumI_one (g : Int → Int) (a : Int) : sumI g [a] = g a := by
  unfold sumI
  simp
theorem sumI_congr {g h : Int → Int} {l : List Int} (e : ∀ d ∈ l, g d = h d) : sumI g l = sumI h l := by
  unfold sumI
  rw [List.map_congr_left e]
theorem sum_reps {g : Int → Int} {lo r : Int} (hr : 1 ≤ r) : ∀ (n : Nat) (b : Int), (b + 1 - lo).toNat = n → lo ≤ b + 1 → (∀ d, lo ≤ d → d + r ≤ b → g (d + r) = g d) → sumI (fun d => ((d - lo) / r + 1) * g d) (intR (max lo (b - r + 1)) b) = sumI g (intR lo b) := by
  intro n
  induction n with
  | zero =>
    intro b hb h1 hp
    rw [intR_nil (by omega), intR_nil (by omega)]
    rfl
  | succ n ih =>
    intro b hb h1 hp
    by_cases c : b - lo < r
    · rw [show max lo (b - r + 1) = lo by omega]
      refine sumI_congr fun d hd => ?_
      obtain ⟨d1, d2⟩ := mem_intR.mp hd
      rw [Int.ediv_eq_zero_of_lt (by omega) (by omega)]
      omega
    · have ih' := ih (b - 1) (by omega) (by omega) (fun d d1 d2 => hp d d1 (by omega))
      rw [show max lo (b - 1 - r + 1) = b - r by omega, intR_cons (a := b - r) (b := b - 1) (by omega), sumI_cons] at ih'
      rw [show max lo (b - r + 1) = b - r + 1 by omega, intR_snoc (a := b - r + 1) (b := b) (by omega), sumI_app, sumI_one, intR_snoc (a := lo) (b := b) (by omega), sumI_app, sumI_one, ← ih']
      have e1 : g b = g (b - r) := by
        have := hp (b - r) (by omega) (by omega)
        rw [show b - r + r = b by omega] at this
        exact this
      have e2 : (b - lo) / r = (b - r - lo) / r + 1 := by
        rw [show b - lo = b - r - lo + 1 * r by omega, Int.add_mul_ediv_right _ _ (by omega)]
      rw [e1, e2]
      generalize (b - r - lo) / r = q
      generalize g (b - r) = u
      generalize sumI _ _ = z
      rw [Int.add_mul (q + 1) 1 u, Int.one_mul]
      omega
def SpanD.lo (s : SpanD) (low : Int) : Int := max low s.first
def SpanD.hi (s : SpanD) (high : Int) : Int := min high s.last
def SpanD.brd (s : SpanD) (high : Int) : Int := min (s.hi high) s.per
def SpanD.days (s : SpanD) (low high : Int) : List (Int × Int) :=
  (intR (max (s.lo low) (s.brd high - s.rd + 1)) (s.brd high)).map (fun d => (d, (d - s.lo low) / s.rd + 1)) ++ (intR (max (s.lo low) (s.brd high + 1)) (s.hi high)).map (fun d => (d, 1))
def sumP (g : Int → Int) (l : List (Int × Int)) : Int := (l.map fun p => p.2 * g p.1).sum
theorem sumP_app (g : Int → Int) (l l' : List (Int × Int)) : sumP g (l ++ l') = sumP g l + sumP g l' := by
  unfold sumP
  rw [List.map_append, List.sum_append]
theorem SpanD.sum_days {s : SpanD} (hr : 1 ≤ s.rd) {g : Int → Int} {low high : Int} (h : s.lo low ≤ s.hi high) (hp : ∀ d, s.first ≤ d → d + s.rd ≤ s.per → g (d + s.rd) = g d) : sumP g (s.days low high) = sumI g (intR (s.lo low) (s.hi high)) := by
  have bp : s.brd high ≤ s.per := by unfold SpanD.brd; omega
  have bh : s.brd high ≤ s.hi high := by unfold SpanD.brd; omega
  have lf : s.first ≤ s.lo low := by unfold SpanD.lo; omega
  unfold SpanD.days
  rw [sumP_app]
  have e2 : ∀ a b : Int, sumP g ((intR a b).map fun d => (d, 1)) = sumI g (intR a b) := fun a b => by
    unfold sumP sumI
    rw [List.map_map]
    refine congrArg _ (List.map_congr_left fun d _ => ?_)
    simp
  have e1 : ∀ a b : Int, sumP g ((intR a b).map fun d => (d, (d - s.lo low) / s.rd + 1)) = sumI (fun d => ((d - s.lo low) / s.rd + 1) * g d) (intR a b) := fun a b => by
    unfold sumP sumI
    rw [List.map_map]
    rfl
  rw [e1, e2]
  by_cases c : s.lo low ≤ s.brd high + 1
  · rw [sum_reps hr _ _ rfl c fun d d1 d2 => hp d (by omega) (by omega), show max (s.lo low) (s.brd high + 1) = s.brd high + 1 by omega, intR_app (m := s.brd high) c bh, sumI_app]
  · rw [intR_nil (a := max (s.lo low) (s.brd high - s.rd + 1)) (b := s.brd high) (by omega), show max (s.lo low) (s.brd high + 1) = s.lo low by omega]
    show 0 + _ = _
    omega
theorem SpanD.mem_days {s : SpanD} {low high : Int} {p : Int × Int} (h : p ∈ s.days low high) : s.lo low ≤ p.1 ∧ p.1 ≤ s.hi high ∧ (p.2 = 1 ∨ (p.1 ≤ s.brd high ∧ p.2 = (p.1 - s.lo low) / s.rd + 1)) := by
  unfold SpanD.days at h
  have bh : s.brd high ≤ s.hi high := by unfold SpanD.brd; omega
  rcases List.mem_append.mp h with h | h
  · obtain ⟨d, hd, rfl⟩ := List.mem_map.mp h
    obtain ⟨h1, h2⟩ := mem_intR.mp hd
    exact ⟨by simp only; omega, by simp only; omega, .inr ⟨h2, rfl⟩⟩
  · obtain ⟨d, hd, rfl⟩ := List.mem_map.mp h
    obtain ⟨h1, h2⟩ := mem_intR.mp hd
    exact ⟨by simp only; omega, by simp only; omega, .inl rfl⟩
theorem SpanD.rep {s : SpanD} (hr : 1 ≤ s.rd) {P : Int → Prop} {low high : Int} (hp : ∀ d, s.first ≤ d → d + s.rd ≤ s.per → P d → P (d + s.rd)) {d : Int} (h1 : s.lo low ≤ d) (h2 : d ≤ s.hi high) (hd : P d) : ∃ p ∈ s.days low high, P p.1 := by
  have bp : s.brd high ≤ s.per := by unfold SpanD.brd; omega
  have lf : s.first ≤ s.lo low := by unfold SpanD.lo; omega
  have go : ∀ (n : Nat) (d : Int), (s.hi high - d).toNat = n → s.lo low ≤ d → d ≤ s.hi high → P d → ∃ p ∈ s.days low high, P p.1 := by
    intro n
    induction n using Nat.strongRecOn with
    | ind n ih =>
      intro d hn h1 h2 hd
      by_cases c1 : s.brd high < d
      · refine ⟨(d, 1), ?_, hd⟩
        unfold SpanD.days
        exact List.mem_append_right _ (List.mem_map.mpr ⟨d, mem_intR.mpr ⟨by omega, h2⟩, rfl⟩)
      · by_cases c2 : s.brd high - s.rd < d
        · refine ⟨(d, (d - s.lo low) / s.rd + 1), ?_, hd⟩
          unfold SpanD.days
          exact List.mem_append_left _ (List.mem_map.mpr ⟨d, mem_intR.mpr ⟨by omega, by omega⟩, rfl⟩)
        · have bh : s.brd high ≤ s.hi high := by unfold SpanD.brd; omega
          exact ih (s.hi high - (d + s.rd)).toNat (by omega) (d + s.rd) rfl (by omega) (by omega) (hp d (by omega) (by omega) hd)
  exact go _ d rfl h1 h2 hd
inductive Cover (os : List Ordr) (x : Str) : Int → List SpanD → Int → Prop
  | nil (a : Int) : Cover os x a [] a
  | cons {a b : Int} {s : SpanD} {l : List SpanD} (S : SpanOk os x s) (e : s.first = a) (r : Cover os x (s.last + 1) l b) : Cover os x a (s :: l) b
theorem Cover.snoc {os : List Ordr} {x : Str} {a b : Int} {l : List SpanD} {s : SpanD} (c : Cover os x a l b) (S : SpanOk os x s) (e : s.first = b) : Cover os x a (l ++ [s]) (s.last + 1) := by
  induction c with
  | nil a => exact .cons S e (.nil _)
  | cons S' e' r ih => exact .cons S' e' (ih e)
theorem Cover.le {os : List Ordr} {x : Str} {a b : Int} {l : List SpanD} (c : Cover os x a l b) : a ≤ b := by
  induction c with
  | nil => exact Int.le_refl _
  | cons S e r ih =>
    have := S.fl
    omega
def SpanD.meets (s : SpanD) (first last : Int) : Bool := decide (s.first ≤ last) && decide (first ≤ s.last)
theorem Cover.sum {os : List Ordr} (g : Good os) {x : Str} {gf : Int → Int} (hg : ∀ d e, endA os x d = endA os x e → gf d = gf e) {first last : Int} : ∀ {l : List SpanD} {a b : Int}, Cover os x a l b → (l.map fun s => if s.meets first last = true then sumP gf (s.days first last) else 0).sum = sumI gf (intR (max a first) (min (b - 1) last)) := by
  intro l a b c
  induction c with
  | nil a =>
    rw [intR_nil (by omega)]
    rfl
  | @cons a b s l S e r ih =>
    have fl := S.fl
    have hle := r.le
    rw [List.map_cons, List.sum_cons, ih]
    have r1 := S.look.2.1
    by_cases c : s.first ≤ last ∧ first ≤ s.last
    · have m : s.meets first last = true := by simp [SpanD.meets, c.1, c.2]
      have lo : s.lo first = max first s.first := rfl
      have hi : s.hi last = min last s.last := rfl
      by_cases c3 : first ≤ last
      · rw [if_pos m, SpanD.sum_days r1 (by omega) fun d d1 d2 => hg _ _ (S.alike g d1 d2).1, ← sumI_app, lo, hi]
        congr 1
        by_cases c2 : s.last ≤ last
        · rw [show min last s.last = s.last by omega, show max (s.last + 1) first = s.last + 1 by omega, intR_app (a := max a first) (m := s.last) (b := min (b - 1) last) (by omega) (by omega), show max first s.first = max a first by omega]
        · rw [show min last s.last = last by omega, intR_nil (a := max (s.last + 1) first) (by omega), List.append_nil, show max first s.first = max a first by omega, show min (b - 1) last = last by omega]
      · have z : s.days first last = [] := by
          unfold SpanD.days SpanD.brd
          rw [lo, hi, intR_nil (by omega), intR_nil (by omega)]
          rfl
        rw [if_pos m, z, intR_nil (a := max (s.last + 1) first) (by omega), intR_nil (a := max a first) (by omega)]
        rfl
    · have m : ¬ s.meets first last = true := by
        unfold SpanD.meets
        rw [Bool.and_eq_true, decide_eq_true_eq, decide_eq_true_eq]
        exact c
      rw [if_neg m, Int.zero_add]
      by_cases c2 : s.first ≤ last
      · rw [show max (s.last + 1) first = max a first by omega]
      · rw [intR_nil (a := max (s.last + 1) first) (by omega), intR_nil (a := max a first) (by omega)]
theorem Cover.has {os : List Ordr} {x : Str} {a b d : Int} {l : List SpanD} (c : Cover os x a l b) (h1 : a ≤ d) (h2 : d < b) : ∃ s ∈ l, SpanOk os x s ∧ s.first ≤ d ∧ d ≤ s.last := by
  induction c with
  | nil => omega
  | @cons a b s l S e r ih =>
    by_cases q : d ≤ s.last
    · exact ⟨s, by simp, S, by omega, q⟩
    · obtain ⟨t, ht, rest⟩ := ih (by omega) h2
      exact ⟨t, by simp [ht], rest⟩
theorem Cover.ok {os : List Ordr} {x : Str} {a b : Int} {l : List SpanD} (c : Cover os x a l b) : ∀ s ∈ l, SpanOk os x s := by
  induction c with
  | nil => intro s h; cases h
  | cons S e r ih =>
    intro t ht
    rcases List.mem_cons.mp ht with rfl | ht
    · exact S
    · exact ih t ht
end MF
set_option Elab.async false
set_option linter.all false
set_option maxHeartbeats 1000000
namespace MF
open PySem PySem.Spec PyProof.Rows L2
noncomputable def ind (os : List Ordr) (x z : Str) (d : Int) : Int := if endA os x d = z then 1 else 0
noncomputable def cnt (os : List Ordr) (x : Str) (first last : Int) (z : Str) : Int := sumI (ind os x z) (intR first last)
theorem sumI_nn {g : Int → Int} {l : List Int} (h : ∀ d ∈ l, 0 ≤ g d) : 0 ≤ sumI g l := by
  induction l with
  | nil => exact Int.le_refl _
  | cons a l ih =>
    rw [sumI_cons]
    have := h a (by simp)
    have := ih fun d hd => h d (by simp [hd])
    omega
theorem ind_nn (os : List Ordr) (x z : Str) (d : Int) : 0 ≤ ind os x z d := by unfold ind; split <;> omega
theorem cnt_nn (os : List Ordr) (x : Str) (first last : Int) (z : Str) : 0 ≤ cnt os x first last z := sumI_nn fun d _ => ind_nn os x z d
theorem sumI_pos {g : Int → Int} {l : List Int} (h : ∀ d ∈ l, 0 ≤ g d) : sumI g l ≠ 0 ↔ ∃ d ∈ l, g d ≠ 0 := by
  induction l with
  | nil => simp [sumI]
  | cons a l ih =>
    have h1 := h a (by simp)
    have h2 := sumI_nn fun d hd => h d (List.mem_cons_of_mem _ hd)
    have ih' := ih fun d hd => h d (by simp [hd])
    rw [sumI_cons]
    constructor
    · intro q
      by_cases c : g a = 0
      · obtain ⟨d, hd, e⟩ := ih'.mp (by omega)
        exact ⟨d, by simp [hd], e⟩
      · exact ⟨a, by simp, c⟩
    · rintro ⟨d, hd, e⟩
      rcases List.mem_cons.mp hd with rfl | hd
      · omega
      · have := ih'.mpr ⟨d, hd, e⟩
        omega
theorem cnt_ne {os : List Ordr} {x : Str} {first last : Int} {z : Str} : cnt os x first last z ≠ 0 ↔ ∃ d, first ≤ d ∧ d ≤ last ∧ endA os x d = z := by
  unfold cnt
  rw [sumI_pos fun d _ => ind_nn os x z d]
  constructor
  · rintro ⟨d, hd, e⟩
    obtain ⟨h1, h2⟩ := mem_intR.mp hd
    refine ⟨d, h1, h2, ?_⟩
    unfold ind at e
    by_cases c : endA os x d = z
    · exact c
    · rw [if_neg c] at e; exact absurd rfl e
  · rintro ⟨d, h1, h2, e⟩
    refine ⟨d, mem_intR.mpr ⟨h1, h2⟩, ?_⟩
    unfold ind
    rw [if_pos e]
    decide
theorem Go.name {os : List Ordr} {s t : Pt} {n : Nat} (g : Go os s n t) {nm : List Str} (h : s.1 ∈ nm) (ht : ∀ o ∈ os, o.tgt ∈ nm) : t.1 ∈ nm := by
  induction g with
  | refl => exact h
  | step hn r ih =>
    obtain ⟨i, o, _, e, _, rfl⟩ := nxt_some hn
    exact ih (ht o (List.mem_of_getElem? e))
theorem putK_ks {κ : Type} [DecidableEq κ] (kvs : List (κ × V)) (k : κ) (v : V) : (valV kvs k = none ∧ (putK kvs k v).map (·.1) = kvs.map (·.1) ++ [k]) ∨ (k ∈ kvs.map (·.1) ∧ (putK kvs k v).map (·.1) = kvs.map (·.1)) := by
  cases e : valV kvs k with
  | none => exact .inl ⟨rfl, by rw [putK_new _ e, List.map_append]; rfl⟩
  | some x =>
    refine .inr ⟨valV_in e, ?_⟩
    unfold putK
    rw [valV_any, e, if_pos (show (some x).isSome = true from rfl), List.map_map]
    refine List.map_congr_left fun kv _ => ?_
    show (if kv.1 = k then (kv.1, v) else kv).1 = kv.1
    split <;> rfl
theorem nd_put {κ : Type} [DecidableEq κ] {kvs : List (κ × V)} {k : κ} (v : V) (hn : (kvs.map (·.1)).Nodup) : ((putK kvs k v).map (·.1)).Nodup := by
  rcases putK_ks kvs k v with ⟨h, _⟩ | ⟨_, h⟩
  · exact nd_putK v hn h
  · rw [h]; exact hn
theorem keys_put {κ : Type} [DecidableEq κ] {kvs : List (κ × V)} {k : κ} {v : V} {j : κ} : j ∈ (putK kvs k v).map (·.1) ↔ j = k ∨ j ∈ kvs.map (·.1) := by
  rcases putK_ks kvs k v with ⟨_, h⟩ | ⟨h0, h⟩
  · rw [h]; simp [or_comm]
  · rw [h]
    constructor
    · exact .inr
    · rintro (rfl | z)
      · exact h0
      · exact z
structure DictC (nm : List Str) (kvs : List (Key × V)) (C : Str → Int) : Prop where
  nd : (kvs.map (·.1)).Nodup
  sub : ∀ k ∈ kvs.map (·.1), ∃ a ∈ nm, k = .inr a
  nn : ∀ z, 0 ≤ C z
  val : ∀ z, valV kvs (.inr z : Key) = if C z = 0 then none else some (.int (C z))
theorem DictC.nil (nm : List Str) : DictC nm [] (fun _ => 0) := ⟨List.nodup_nil, (fun _ h => by cases h), fun _ => Int.le_refl _, fun _ => rfl⟩
theorem DictC.congr {nm : List Str} {kvs : List (Key × V)} {C C' : Str → Int} (D : DictC nm kvs C) (h : ∀ z, C' z = C z) : DictC nm kvs C' := by
  have : C' = C := funext h
  rw [this]
  exact D
theorem DictC.get {nm : List Str} {kvs : List (Key × V)} {C : Str → Int} (D : DictC nm kvs C) (z : Str) : (valV kvs (.inr z : Key)).getD (.int 0) = .int (C z) := by
  rw [D.val z]
  by_cases c : C z = 0
  · rw [if_pos c, c]; rfl
  · rw [if_neg c]; rfl
theorem DictC.put {nm : List Str} {kvs : List (Key × V)} {C C' : Str → Int} (D : DictC nm kvs C) {a : Str} (ha : a ∈ nm) {c : Int} (hc : 1 ≤ c) (h : ∀ z, C' z = C z + if a = z then c else 0) : DictC nm (putK kvs (.inr a) (.int (C a + c))) C' := by
  refine ⟨nd_put _ D.nd, fun k hk => ?_, fun z => ?_, fun z => ?_⟩
  · rcases keys_put.mp hk with z | z
    · exact ⟨a, ha, z⟩
    · exact D.sub k z
  · have := D.nn z
    rw [h z]
    split <;> omega
  · rw [valV_put, h z]
    have := D.nn z
    by_cases q : a = z
    · subst q
      rw [if_pos rfl, if_pos rfl, if_neg (by omega)]
    · rw [if_neg (fun w => q (Sum.inr.inj w).symm), if_neg q, Int.add_zero]
      exact D.val z
theorem lenSubG {α : Type} [DecidableEq α] : ∀ {l m : List α}, l.Nodup → (∀ a ∈ l, a ∈ m) → l.length ≤ m.length
  | [], _, _, _ => Nat.zero_le _
  | a :: l, m, hn, hs => by
    have ha : a ∈ m := hs a (by simp)
    have hn' := List.nodup_cons.mp hn
    have := lenSubG (l := l) (m := m.erase a) hn'.2 fun b hb => by
      have hne : b ≠ a := fun z => hn'.1 (z ▸ hb)
      exact (List.mem_erase_of_ne hne).mpr (hs b (by simp [hb]))
    rw [List.length_erase_of_mem ha] at this
    have : 0 < m.length := List.length_pos_of_mem ha
    simp only [List.length_cons]
    omega
theorem lenSub {l : List Key} {nm : List Str} (nd : l.Nodup) (h : ∀ k ∈ l, ∃ a ∈ nm, k = .inr a) : l.length ≤ nm.length := by
  have := lenSubG (m := nm.map Sum.inr) nd fun k hk => by
    obtain ⟨a, h1, rfl⟩ := h k hk
    exact List.mem_map.mpr ⟨a, h1, rfl⟩
  rw [List.length_map] at this
  exact this
theorem DictC.len {nm : List Str} {kvs : List (Key × V)} {C : Str → Int} (D : DictC nm kvs C) : kvs.length ≤ nm.length := by
  have := lenSub D.nd D.sub
  rw [List.length_map] at this
  exact this
theorem DictC.keys {nm : List Str} {kvs : List (Key × V)} {C : Str → Int} (D : DictC nm kvs C) : ∃ ks : List Str, kvs.map (·.1) = ks.map Sum.inr ∧ ks.Nodup ∧ ∀ z, z ∈ ks ↔ C z ≠ 0 := by
  have ex : ∀ {l : List Key}, (∀ k ∈ l, ∃ a ∈ nm, k = .inr a) → ∃ ks : List Str, l = ks.map Sum.inr := by
    intro l
    induction l with
    | nil => intro _; exact ⟨[], rfl⟩
    | cons k l ih =>
      intro h
      obtain ⟨ks, e⟩ := ih fun j hj => h j (by simp [hj])
      obtain ⟨a, _, e'⟩ := h k (by simp)
      exact ⟨a :: ks, by rw [List.map_cons, e, e']⟩
  obtain ⟨ks, e⟩ := ex D.sub
  have nd := D.nd
  rw [e] at nd
  refine ⟨ks, e, (List.pairwise_map.mp nd).imp (fun h e => h (congrArg _ e)), fun z => ?_⟩
  have m1 : z ∈ ks ↔ (Sum.inr z : Key) ∈ kvs.map (·.1) := by
    rw [e, List.mem_map]
    constructor
    · intro h; exact ⟨z, h, rfl⟩
    · rintro ⟨a, h, q⟩
      rw [← Sum.inr.inj q]
      exact h
  rw [m1]
  constructor
  · intro h c
    have := D.val z
    rw [if_pos c] at this
    exact valV_not this h
  · intro c
    have := D.val z
    rw [if_neg c] at this
    exact valV_in this
def CntAt (kvs : List (Key × V)) (C : Str → Int) : Prop := ∃ ys : List Str, kvs = ys.map (fun z => ((Sum.inr z : Key), V.int (C z))) ∧ ys.Nodup ∧ sortedS ys = true ∧ (∀ z, z ∈ ys ↔ C z ≠ 0) ∧ ys.length ≤ 31
theorem cnt_val {C : Str → Int} : ∀ (ys : List Str) (z : Str), valV (ys.map (fun z => ((Sum.inr z : Key), V.int (C z)))) (Sum.inr z) = if z ∈ ys then some (V.int (C z)) else none
  | [], z => rfl
  | y :: ys, z => by
    rw [List.map_cons]
    by_cases c : y = z
    · subst c
      rw [valV_pos (p := ((Sum.inr y : Key), V.int (C y))) rfl, if_pos (by simp)]
    · rw [valV_neg (p := ((Sum.inr y : Key), V.int (C y))) (fun q => c (Sum.inr.inj q)), cnt_val ys z]
      have : (z ∈ y :: ys) ↔ z ∈ ys := by
        rw [List.mem_cons]
        exact ⟨fun h => h.elim (fun e => absurd e.symm c) id, .inr⟩
      simp only [this]
end MF
set_option Elab.async false
set_option linter.all false
set_option maxHeartbeats 1000000
namespace MF
open PySem PySem.Spec PyProof.Rows L2
def leS (a b : Str) : Prop := ¬ b.cps.toList < a.cps.toList
theorem rising_pw : ∀ (p : Str) (l : List Str), risingS p l = true → (p :: l).Pairwise leS
  | p, [], _ => by simp
  | p, x :: r, h => by
    unfold risingS at h
    rw [Bool.and_eq_true] at h
    obtain ⟨h1, h2⟩ := h
    have ih := rising_pw x r h2
    rw [ltCps_eq] at h1
    have h1' : leS p x := by
      unfold leS
      simpa using h1
    refine List.pairwise_cons.mpr ⟨fun b hb => ?_, ih⟩
    rcases List.mem_cons.mp hb with rfl | hb
    · exact h1'
    · have h3 : leS x b := (List.pairwise_cons.mp ih).1 b hb
      unfold leS at *
      exact List.not_lt.mpr (List.le_trans (List.not_lt.mp h1') (List.not_lt.mp h3))
theorem sorted_pw {l : List Str} (h : sortedS l = true) : l.Pairwise leS := by
  cases l with
  | nil => exact .nil
  | cons x r => exact rising_pw x r h
theorem leS_anti {a b : Str} (h1 : leS a b) (h2 : leS b a) : a = b := by
  unfold leS at *
  have := List.le_antisymm (List.not_lt.mp h1) (List.not_lt.mp h2)
  obtain ⟨x⟩ := a
  obtain ⟨y⟩ := b
  have : x = y := Array.toList_inj.mp this
  rw [this]
theorem perm_sorted_eq : ∀ {a b : List Str}, a.Perm b → a.Pairwise leS → b.Pairwise leS → a = b
  | [], b, h, _, _ => (List.nil_perm.mp h).symm
  | x :: a, [], h, _, _ => by have := h.length_eq; simp at this
  | x :: a, y :: b, h, ha, hb => by
    obtain ⟨h1, h2⟩ := List.pairwise_cons.mp ha
    obtain ⟨h3, h4⟩ := List.pairwise_cons.mp hb
    have e : x = y := by
      rcases List.mem_cons.mp (h.mem_iff.mp (List.mem_cons_self (a := x) (l := a))) with z | z
      · exact z
      · rcases List.mem_cons.mp (h.mem_iff.mpr (List.mem_cons_self (a := y) (l := b))) with w | w
        · exact w.symm
        · exact leS_anti (h1 y w) (h3 x z)
    subst e
    rw [perm_sorted_eq (List.Perm.cons_inv h) h2 h4]
theorem sortedS_uniq {a b : List Str} (h : a.Perm b) (ha : sortedS a = true) (hb : sortedS b = true) : a = b := perm_sorted_eq h (sorted_pw ha) (sorted_pw hb)
theorem sorted_eq : ∀ {a b : List Int}, a.Pairwise (· < ·) → b.Pairwise (· < ·) → (∀ z, z ∈ a ↔ z ∈ b) → a = b
  | [], [], _, _, _ => rfl
  | [], y :: b, _, _, h => by have := (h y).mpr (by simp); cases this
  | x :: a, [], _, _, h => by have := (h x).mp (by simp); cases this
  | x :: a, y :: b, ha, hb, h => by
    obtain ⟨h1, h2⟩ := List.pairwise_cons.mp ha
    obtain ⟨h3, h4⟩ := List.pairwise_cons.mp hb
    have e : x = y := by
      have m1 := (h x).mp (by simp)
      have m2 := (h y).mpr (by simp)
      rcases List.mem_cons.mp m1 with z | z
      · exact z
      · rcases List.mem_cons.mp m2 with w | w
        · exact w.symm
        · have := h3 x z
          have := h1 y w
          omega
    subst e
    rw [sorted_eq h2 h4 fun z => ?_]
    have := h z
    rw [List.mem_cons, List.mem_cons] at this
    constructor
    · intro hz
      rcases this.mp (.inr hz) with w | w
      · have := h1 z hz; omega
      · exact w
    · intro hz
      rcases this.mpr (.inr hz) with w | w
      · have := h3 z hz; omega
      · exact w
end MF
set_option Elab.async false
set_option linter.all false
set_option maxRecDepth 100000
set_option maxHeartbeats 2000000
set_option pp.maxSteps 600
namespace MF
open PySem PySem.Spec PyProof.Rows L2 StX
section
variable {P : Program} {w : World} {K : PySem.W.Frag} {mg : Str → Option Value} {base : Heap} {C_Book C_Letter C_Walker C_MailError C_InvalidOrder C_UnknownOrder C_InvalidAddress C_InvalidDay C_InvalidNumber : Addr} {FL : Str}
theorem ok_is_integer (T : Top K mg C_Book C_Letter C_Walker C_MailError C_InvalidOrder C_UnknownOrder C_InvalidAddress C_InvalidDay C_InvalidNumber FL) : GFn P w K mg base CX0 1 "is_integer" spIsInteger := by
  refine T.d_is_integer.fn fun f fd F => F.ok sc_is_integer (fun vs H Q E h => ?_) (fun cdv A outer s H vs Q E hr h => ?_)
  · obtain ⟨v, lo, hi, rfl, _⟩ := h
    rfl
  · obtain ⟨v, lo, hi, rfl, hn, k⟩ := h
    refine ⟨_, (pss_one (ps_ret (pe_and (pe_callB call_isi (by rfl) T.b_isinstance (by decide +kernel) (pa_cons (pv 0) (pa_cons (pe_bltn (v := .ty "int") (by rfl) T.b_int (by decide +kernel) rfl) pa_nil))) (pe_and (pe_not (pe_callB call_isi (by rfl) T.b_isinstance (by decide +kernel) (pa_cons (pv 0) (pa_cons (pe_bltn (v := .ty "bool") (by rfl) T.b_bool (by decide +kernel) rfl) pa_nil)))) (pe_one (pe_chain op_le op_le (pv 1) (pv 0) (pv 2))))))), ?_⟩
    cases v with
    | int i =>
      refine ⟨_, rfl, _, _, _, _, true, rfl, .ty "int", ty_flat hn, kt_int_int, true, rfl, iteT ?_⟩
      refine ⟨_, rfl, _, _, _, _, false, rfl, .ty "bool", ty_flat hn, kt_int_bool, false, rfl, true, rfl, iteT ?_⟩
      refine ⟨_, rfl, _, rfl, _, _, rfl, rfl, _, rfl, ?_⟩
      refine ite2 (fun h1 => ?_) (fun h1 => ?_)
      · have h1' : lo ≤ i := of_decide_eq_true h1
        refine ⟨_, rfl, _, _, rfl, rfl, ?_⟩
        simpa [isIntB, h1'] using k
      · have h1' : decide (lo ≤ i) = false := by simpa using h1
        simpa [isIntB, h1'] using k
    | bl b =>
      refine ⟨_, rfl, _, _, _, _, true, rfl, .ty "int", ty_flat hn, kt_bool_int, true, rfl, iteT ?_⟩
      refine ⟨_, rfl, _, _, _, _, true, rfl, .ty "bool", ty_flat hn, kt_bool_bool, true, rfl, false, rfl, iteF ?_⟩
      exact k
    | non =>
      refine ⟨_, rfl, _, _, _, _, false, rfl, .ty "int", ty_flat hn, kt_NoneType_int, false, rfl, iteF ?_⟩
      exact k
    | str x =>
      refine ⟨_, rfl, _, _, _, _, false, rfl, .ty "int", ty_flat hn, kt_str_int, false, rfl, iteF ?_⟩
      exact k
    | byt b => cases hn
    | flt b => cases hn
    | ref a => cases hn
    | ty n => cases hn
theorem ok_do_overlap (T : Top K mg C_Book C_Letter C_Walker C_MailError C_InvalidOrder C_UnknownOrder C_InvalidAddress C_InvalidDay C_InvalidNumber FL) : GFn P w K mg base CX0 1 "do_overlap" (spOverlap K) := by
  refine T.d_do_overlap.fn fun f fd F => F.ok sc_do_overlap (fun vs H Q E h => ?_) (fun cdv A outer s H vs Q E hr h => ?_)
  · obtain ⟨a, b, o, p, rfl, _⟩ := h
    rfl
  · obtain ⟨a, b, o, p, rfl, ha, hb, k⟩ := h
    refine ⟨_, (pss_one (ps_ret (pe_and (pe_cmpR op_eq (pe_ix ix_tup (pv 0) pe_int (fun _ _ => rfl)) (pe_ix ix_tup (pv 1) pe_int (fun _ _ => rfl)) (nomark _)) (pe_and (pe_cmpR op_le (pe_ix ix_tup (pv 0) pe_int (fun _ _ => rfl)) (pe_ix ix_tup (pv 1) pe_int (fun _ _ => rfl)) (nomark _)) (pe_one (pe_cmpR op_le (pe_ix ix_tup (pv 1) pe_int (fun _ _ => rfl)) (pe_ix ix_tup (pv 0) pe_int (fun _ _ => rfl)) (nomark _))))))), ?_⟩
    refine ⟨_, rfl, a, _, _, _, rfl, rfl, ha, rfl, _, rfl, b, _, _, _, rfl, rfl, hb, rfl, rfl, _, rfl, ?_⟩
    refine ite2 (fun h1 => ?_) (fun h1 => ?_)
    · have h1' : o.src = p.src := V.str.inj (of_decide_eq_true h1)
      refine ⟨_, rfl, a, _, _, _, rfl, rfl, ha, rfl, _, rfl, b, _, _, _, rfl, rfl, hb, rfl, _, _, rfl, rfl, _, rfl, ?_⟩
      refine ite2 (fun h2 => ?_) (fun h2 => ?_)
      · have h2' : o.first ≤ p.last := of_decide_eq_true h2
        refine ⟨_, rfl, b, _, _, _, rfl, rfl, hb, rfl, _, rfl, a, _, _, _, rfl, rfl, ha, rfl, _, _, rfl, rfl, ?_⟩
        simpa [overB, h1', h2'] using k
      · have h2' : ¬ o.first ≤ p.last := by simpa using h2
        simpa [overB, h1', h2'] using k
    · have h1' : ¬ o.src = p.src := fun q => h1 (decide_eq_true (congrArg V.str q))
      simpa [overB, h1'] using k
end

end MF
set_option Elab.async false
set_option linter.all false
set_option maxRecDepth 100000
set_option maxHeartbeats 2000000
set_option pp.maxSteps 600
namespace MF
open PySem PySem.Spec PyProof.Rows L2 StX
section
variable {P : Program} {w : World} {K : PySem.W.Frag} {mg : Str → Option Value} {base : Heap} {C_Book C_Letter C_Walker C_MailError C_InvalidOrder C_UnknownOrder C_InvalidAddress C_InvalidDay C_InvalidNumber : Addr} {FL : Str}
theorem ok_is_address (T : Top K mg C_Book C_Letter C_Walker C_MailError C_InvalidOrder C_UnknownOrder C_InvalidAddress C_InvalidDay C_InvalidNumber FL) : GFn P w K mg base CX0 1 "is_address" spIsAddress := by
  refine T.d_is_address.fn fun f fd F => F.ok sc_is_address (fun vs H Q E h => ?_) (fun cdv A outer s H vs Q E hr h => ?_)
  · obtain ⟨v, rfl, _⟩ := h
    rfl
  · obtain ⟨v, rfl, hn, hs, k⟩ := h
    refine ⟨_, (pss_cons (ps_if (PW.pt (pw_or (pt_not (pt_val (pe_callB call_isi (by rfl) T.b_isinstance (by decide +kernel) (pa_cons (pv 0) (pa_cons (pe_bltn (v := .ty "str") (by rfl) T.b_str (by decide +kernel) rfl) pa_nil))))) (pw_or1 (pt_not (pt_chain op_le op_le pe_int (pe_callB call_len_str (by rfl) T.b_len (by decide +kernel) (pa_cons (pv 0) pa_nil)) (pe_gint T.c_MAX_LETTERS))))))
  (pss_one (ps_ret pe_bl))
  pss_nil)
  (pss_one (ps_ret (pe_callB (cr_all rfl) (by rfl) T.b_all (by decide +kernel) (pa_cons (pe_lc (own := [("letter", 1)]) (g := (gName 1)) (by rfl) sc_is_address.nd (pi_str (pv 0)) (blkOk_by (own := [("letter", 1)]) (N := ["value", "letter"]) (sc := defScope s_is_address) (by decide +kernel)) (fun _ _ _ _ _ => (pg_name (i := 1) sc_is_address.nd rfl (Or.inl rfl))) (fun _ _ _ _ _ => pts_nil) (fun _ _ _ _ _ => (pe_cmpR op_in_sign (pv 1) (pe_gstr T.c_LETTERS) rfl))) pa_nil))))), ?_⟩
    cases v with
    | str z =>
      refine ⟨_, rfl, _, _, _, _, true, rfl, .ty "str", ty_flat hn, kt_str_str, true, rfl, iteF ?_⟩
      refine ⟨_, rfl, z, rfl, hs, _, _, rfl, rfl, _, rfl, ?_⟩
      have h8 : ∀ b, isAddrB (.str z) = b → Q (.bl b) H := fun b e => by rw [← e]; exact k H (Same.refl H)
      refine ite2 (fun h1 => ?_) (fun h1 => ?_)
      · have h1' : 1 ≤ z.length := by have := of_decide_eq_true h1; omega
        refine ⟨_, _, rfl, rfl, _, rfl, ?_⟩
        by_cases h2 : z.length ≤ 8
        · have h2' : decide (((z.length : Nat) : Int) ≤ 8) = true := decide_eq_true (by omega)
          rw [h2']
          refine iteF ?_
          refine ⟨_, rfl, z, rfl, fun D hD => lc_it walk_str (fun i H' => Same H H' ∧ H' D = some (.lst ((z.cps.toList.take i).map fun c => V.bl (decide (c ∈ letters.cps.toList))))) ⟨Same.new hD, upd_same⟩ (fun _ _ _ _ => trivial) ?_ ?_⟩
          · rintro i x H1 H2 hi ⟨s1, l1⟩ ⟨rfl, c, hc, rfl⟩
            have hlt : i < z.cps.size := hi
            have hlen : z.cps.size = z.length := rfl
            refine ⟨rfl, yesT ?_⟩
            refine iteT ?_
            refine ⟨_, rfl, c, _, rfl, rfl, _, l1, ?_, ?_, ?_⟩
            · rw [List.length_map]
              exact Nat.lt_of_le_of_lt (List.length_take_le _ _) (Nat.lt_of_lt_of_le (Nat.lt_of_lt_of_le hlt (hlen ▸ h2)) (by decide))
            · intro b o e
              have nb : b ≠ D := ne_of_none e hD
              rw [upd_ne nb]
              exact s1 b o e
            · rw [upd_same]
              have e1 : z.cps.toList[i]? = some c := by simpa using hc
              rw [List.take_add_one, e1]
              simp [letters]
          · rintro H1 ⟨s1, l1⟩
            have e1 : z.cps.toList.take z.cps.size = z.cps.toList := List.take_of_length_le (by simp)
            rw [e1] at l1
            have e2 : (z.cps.toList.map fun c => V.bl (decide (c ∈ letters.cps.toList))) = (z.cps.toList.map fun c => decide (c ∈ letters.cps.toList)).map V.bl := by rw [List.map_map]; rfl
            rw [e2] at l1
            refine ⟨D, _, rfl, SqL.of l1, ?_⟩
            have e3 : ((z.cps.toList.map fun c => decide (c ∈ letters.cps.toList)).all id) = isAddrB (.str z) := by
              show _ = (decide (1 ≤ z.length) && decide (z.length ≤ 8) && z.cps.toList.all fun c => decide (c ∈ letters.cps.toList))
              rw [decide_eq_true h1', decide_eq_true h2, List.all_map]
              rfl
            rw [e3]
            exact k H1 s1
        · have h2' : decide (((z.length : Nat) : Int) ≤ 8) = false := decide_eq_false (by omega)
          rw [h2']
          exact iteT (h8 _ (by simp [isAddrB, h2]))
      · have h1' : ¬ 1 ≤ z.length := fun q => h1 (decide_eq_true (by omega))
        exact ⟨false, rfl, iteT (h8 _ (by simp [isAddrB, h1']))⟩
    | int i =>
      refine ⟨_, rfl, _, _, _, _, false, rfl, .ty "str", ty_flat hn, kt_int_str, false, rfl, iteT ?_⟩
      exact iteT (k H (Same.refl H))
    | bl b =>
      refine ⟨_, rfl, _, _, _, _, false, rfl, .ty "str", ty_flat hn, kt_bool_str, false, rfl, iteT ?_⟩
      exact iteT (k H (Same.refl H))
    | non =>
      refine ⟨_, rfl, _, _, _, _, false, rfl, .ty "str", ty_flat hn, kt_NoneType_str, false, rfl, iteT ?_⟩
      exact iteT (k H (Same.refl H))
    | byt b => cases hn
    | flt b => cases hn
    | ref a => cases hn
    | ty n => cases hn
end

end MF
set_option Elab.async false
set_option linter.all false
set_option maxRecDepth 100000
set_option maxHeartbeats 2000000
set_option pp.maxSteps 600
namespace MF
open PySem PySem.Spec PyProof.Rows L2 StX
section
variable {P : Program} {w : World} {K : PySem.W.Frag} {mg : Str → Option Value} {base : Heap} {C_Book C_Letter C_Walker C_MailError C_InvalidOrder C_UnknownOrder C_InvalidAddress C_InvalidDay C_InvalidNumber : Addr} {FL : Str}
theorem ok_is_order (T : Top K mg C_Book C_Letter C_Walker C_MailError C_InvalidOrder C_UnknownOrder C_InvalidAddress C_InvalidDay C_InvalidNumber FL) : GFn P w K mg base CX0 2 "is_order" (spIsOrder K) := by
  have G_is_address : GFn P w K mg base CX0 1 "is_address" spIsAddress := ok_is_address T
  have G_is_integer : GFn P w K mg base CX0 1 "is_integer" spIsInteger := ok_is_integer T
  refine T.d_is_order.fn fun f fd F => F.ok sc_is_order (fun vs H Q E h => ?_) (fun cdv A outer s H vs Q E hr h => ?_)
  · obtain ⟨v, b, rfl, _⟩ := h
    rfl
  · obtain ⟨v, b, rfl, hv, k⟩ := h
    refine ⟨_, (pss_one (ps_match rfl sc_is_order.nd (pv 0) (Caps.cons (i := 1) rfl (Or.inl rfl) (Or.inl rfl) (Caps.cons (i := 2) rfl (Or.inl rfl) (Or.inl rfl) (Caps.cons (i := 3) rfl (Or.inl rfl) (Or.inl rfl) (Caps.cons (i := 4) rfl (Or.inl rfl) (Or.inl rfl) (Caps.cons (i := 5) rfl (Or.inl rfl) (Or.inl rfl) Caps.nil))))) (pt_val (pe_callB call_isi (by rfl) T.b_isinstance (by decide +kernel) (pa_cons (pv 0) (pa_cons (pe_bltn (v := .ty "tuple") (by rfl) T.b_tuple (by decide +kernel) rfl) pa_nil))))
  (pss_cons (ps_if (PW.pt (pw_or (pt_not (pt_val (pe_g G_is_address (hr.mono (by decide)) (pa_cons (pv 1) pa_nil)))) (pw_or (pt_not (pt_val (pe_g G_is_address (hr.mono (by decide)) (pa_cons (pv 2) pa_nil)))) (pw_or1 (pt_cmpR op_eq (pv 1) (pv 2) (nomark _))))))
  (pss_one (ps_ret pe_bl))
  pss_nil)
  (pss_cons (ps_if (PW.pt (pw_or (pt_not (pt_val (pe_g G_is_integer (hr.mono (by decide)) (pa_cons (pv 4) (pa_cons pe_int (pa_cons (pe_gint T.c_MAX_DAY) pa_nil)))))) (pw_or1 (pt_not (pt_val (pe_g G_is_integer (hr.mono (by decide)) (pa_cons (pv 3) (pa_cons pe_int (pa_cons (pv 4) pa_nil)))))))))
  (pss_one (ps_ret pe_bl))
  pss_nil)
  (pss_one (ps_ret (pe_g G_is_integer (hr.mono (by decide)) (pa_cons (pv 5) (pa_cons pe_int (pa_cons (pe_gint T.c_MAX_WAY) pa_nil))))))))
  (pss_one (ps_ret pe_bl)))), ?_⟩
    rcases hv with ⟨a, xs, rfl, hq, hf, rfl⟩ | ⟨a, xs, rfl, hq, rfl⟩ | ⟨hn, rfl⟩
    · by_cases hl : xs.length = 5
      · obtain ⟨s, t, f, l, y, rfl⟩ : ∃ s t f l y, xs = [s, t, f, l, y] := by
          match xs, hl with
          | [s, t, f, l, y], _ => exact ⟨s, t, f, l, y, rfl⟩
        refine ⟨_, rfl, .inl ⟨a, _, rfl, .inl hq, .inl ⟨rfl, ?_⟩⟩⟩
        refine ⟨_, rfl, _, _, _, _, true, rfl, .ty "tuple", tyT hq, kt_tuple_tuple, true, rfl, iteT ?_⟩
        have hs := hf s (by simp)
        have ht := hf t (by simp)
        have hf1 := hf f (by simp)
        have hl1 := hf l (by simp)
        have hy := hf y (by simp)
        have no : isOrdB [s, t, f, l, y] = false → ∀ H', Same H H' → Q (.bl false) H' := fun e H' q => by
          have := k H' q
          rw [e] at this
          exact this
        have yes : isOrdB [s, t, f, l, y] = true → ∀ H', Same H H' → Q (.bl true) H' := fun e H' q => by
          have := k H' q
          rw [e] at this
          exact this
        refine ⟨_, rfl, s, rfl, hs.1, hs.2, fun H1 e1 => ⟨_, rfl, ?_⟩⟩
        cases h1 : isAddrB s with
        | false => exact iteT (iteT (no (by simp [isOrdB, h1]) H1 e1))
        | true =>
          refine iteF ?_
          refine ⟨_, rfl, t, rfl, ht.1, ht.2, fun H2 e2 => ⟨_, rfl, ?_⟩⟩
          have e12 := e1.trans e2
          cases h2 : isAddrB t with
          | false => exact iteT (iteT (no (by simp [isOrdB, h1, h2]) H2 e12))
          | true =>
            refine iteF ?_
            obtain ⟨zs, rfl⟩ : ∃ z, s = V.str z := by
              cases s with
              | str z => exact ⟨z, rfl⟩
              | _ => cases h1
            obtain ⟨zt, rfl⟩ : ∃ z, t = V.str z := by
              cases t with
              | str z => exact ⟨z, rfl⟩
              | _ => cases h2
            refine ⟨_, rfl, _, rfl, rfl, _, rfl, ?_⟩
            refine ite2 (fun h3 => no ?_ H2 e12) (fun h3 => ?_)
            · simp [isOrdB, of_decide_eq_true h3]
            have h3' : decide (V.str zs = V.str zt) = false := by simpa using h3
            refine ⟨_, rfl, l, _, _, rfl, hl1.1, _, rfl, ?_⟩
            cases h4 : isIntB l 0 1000000000000000000 with
            | false => exact iteT (iteT (no (by simp [isOrdB, h4]) H2 e12))
            | true =>
              refine iteF ?_
              obtain ⟨il, rfl⟩ : ∃ i, l = V.int i := by
                cases l with
                | int i => exact ⟨i, rfl⟩
                | _ => cases h4
              refine ⟨_, rfl, _, rfl, f, _, _, rfl, hf1.1, _, rfl, ?_⟩
              cases h5 : isIntB f 0 il with
              | false => exact iteT (no (by simp [isOrdB, h5]) H2 e12)
              | true =>
                refine iteF ?_
                refine ⟨_, rfl, y, _, _, rfl, hy.1, ?_⟩
                have e6 : isOrdB [V.str zs, V.str zt, f, V.int il, y] = isIntB y 1 30 := by
                  simp only [isOrdB, h1, h2, h3', h4, h5, Bool.not_false, Bool.true_and]
                rw [← e6]
                exact k H2 e12
      · have e : isOrdB xs = false := by
          unfold isOrdB
          split
          · exact absurd rfl hl
          · rfl
        refine ⟨_, rfl, .inl ⟨a, _, rfl, .inl hq, .inr ⟨hl, ?_⟩⟩⟩
        have := k H (Same.refl H)
        rw [e] at this
        exact this
    · by_cases hl : xs.length = 5
      · refine ⟨_, rfl, .inl ⟨a, _, rfl, .inr hq, .inl ⟨hl, ?_⟩⟩⟩
        match xs, hl with
        | [s, t, f, l, y], _ =>
          exact ⟨_, rfl, _, _, _, _, false, rfl, .ty "tuple", tyL hq, kt_list_tuple, false, rfl, iteF (k H (Same.refl H))⟩
      · exact ⟨_, rfl, .inl ⟨a, _, rfl, .inr hq, .inr ⟨hl, k H (Same.refl H)⟩⟩⟩
    · exact ⟨_, rfl, .inr ⟨hn, k H (Same.refl H)⟩⟩
def spCheckOk : Sp := fun vs H Q _ => ∃ z d, vs = [.str z, .int d] ∧ isAddrB (.str z) = true ∧ 0 ≤ d ∧ d ≤ 1000000000000000000 ∧ ∀ H', Same H H' → Q .non H'
theorem isAddr_short {z : Str} (h : isAddrB (.str z) = true) : z.length ≤ 8 := by
  simp only [isAddrB, Bool.and_eq_true, decide_eq_true_eq] at h
  exact h.1.2
theorem ok_check_letter (T : Top K mg C_Book C_Letter C_Walker C_MailError C_InvalidOrder C_UnknownOrder C_InvalidAddress C_InvalidDay C_InvalidNumber FL) : GFn P w K mg base CX0 2 "check_letter" spCheckOk := by
  have G_is_address : GFn P w K mg base CX0 1 "is_address" spIsAddress := ok_is_address T
  have G_is_integer : GFn P w K mg base CX0 1 "is_integer" spIsInteger := ok_is_integer T
  refine T.d_check_letter.fn fun f fd F => F.ok sc_check_letter (fun vs H Q E h => ?_) (fun cdv A outer s H vs Q E hr h => ?_)
  · obtain ⟨z, d, rfl, _⟩ := h
    rfl
  · obtain ⟨z, d, rfl, ha, h0, h1, k⟩ := h
    refine ⟨_, (pss_cons (ps_if (pt_not (pt_val (pe_g G_is_address (hr.mono (by decide)) (pa_cons (pv 0) pa_nil))))
  (pss_one ps_never)
  pss_nil)
  (pss_one (ps_if (pt_not (pt_val (pe_g G_is_integer (hr.mono (by decide)) (pa_cons (pv 1) (pa_cons pe_int (pa_cons (pe_gint T.c_MAX_DAY) pa_nil))))))
  (pss_one ps_never)
  pss_nil))), ?_⟩
    refine ⟨_, rfl, _, rfl, rfl, Nat.le_trans (isAddr_short ha) (by decide), fun H1 e1 => ⟨_, rfl, ?_⟩⟩
    rw [ha]
    refine iteF ?_
    have e : isIntB (.int d) 0 1000000000000000000 = true := by simp [isIntB, h0, h1]
    refine ⟨_, rfl, _, _, _, rfl, rfl, _, rfl, ?_⟩
    rw [e]
    exact iteF (k H1 e1)
end

end MF
set_option Elab.async false
set_option linter.all false
set_option maxRecDepth 100000
set_option maxHeartbeats 2000000
set_option pp.maxSteps 600
namespace MF
open PySem PySem.Spec PyProof.Rows L2 StX
section
variable {P : Program} {w : World} {K : PySem.W.Frag} {mg : Str → Option Value} {base : Heap} {C_Book C_Letter C_Walker C_MailError C_InvalidOrder C_UnknownOrder C_InvalidAddress C_InvalidDay C_InvalidNumber : Addr} {FL : Str}
def spInitIn (K : PySem.W.Frag) (C : Addr) : Sp := fun vs H Q _ => ∃ x dx t as os, vs = [.ref x, .ref t] ∧ H x = some (.ins C dx []) ∧ SqT K H t (as.map V.ref) ∧ OrdsAt K H as os ∧ Good os ∧
  ∀ H', H' x = some (.ins C dx [("listed", .ref t)]) → (∀ b o, H b = some o → b ≠ x → H' b = some o) → Q .non H'
def spBookInit (K : PySem.W.Frag) (C : Addr) : Sp := fun vs H Q E => ∃ v rest, vs = v :: rest ∧ rest.length ≤ sizeLine ∧ ∀ p, H p = Option.none → spInitIn K C [v, V.ref p] (upd H p (.tup rest)) Q E
theorem isOrd_flat {o : Ordr} (h : o.Ok) : ∀ x ∈ o.vals, notSeq x = true ∧ shortV x := by
  intro x hx
  have ls : o.src.length ≤ sizeLine := Nat.le_trans (by have := h.as; simp only [isAddrB, Bool.and_eq_true, decide_eq_true_eq] at this; exact this.1.2) (by decide)
  have lt : o.tgt.length ≤ sizeLine := Nat.le_trans (by have := h.at_; simp only [isAddrB, Bool.and_eq_true, decide_eq_true_eq] at this; exact this.1.2) (by decide)
  simp only [Ordr.vals, List.mem_cons, List.not_mem_nil, or_false] at hx
  rcases hx with rfl | rfl | rfl | rfl | rfl
  · exact ⟨rfl, ls⟩
  · exact ⟨rfl, lt⟩
  · exact ⟨rfl, trivial⟩
  · exact ⟨rfl, trivial⟩
  · exact ⟨rfl, trivial⟩
theorem ok_Book (T : Top K mg C_Book C_Letter C_Walker C_MailError C_InvalidOrder C_UnknownOrder C_InvalidAddress C_InvalidDay C_InvalidNumber FL) : IFn P w K mg base CX0 3 C_Book "Book" (spBookInit K C_Book) := by
  have G_is_order : GFn P w K mg base CX0 2 "is_order" (spIsOrder K) := ok_is_order T
  have G_do_overlap : GFn P w K mg base CX0 1 "do_overlap" (spOverlap K) := ok_do_overlap T
  refine T.d_BookX_initX.fn0 (sp := spInitIn K C_Book) sc_BookX_initX fun f cdv A outer s H vs Q E hr h => ?_
  obtain ⟨x, dx, t, as, os, rfl, hx, ht, ho, g, k⟩ := h
  refine ⟨_, (pss_cons (ps_for PassesOwn.never rfl (pi_enumT (by rfl) T.b_enumerate (pa_cons (pv 1) pa_nil)) (pg_tup rfl (pgs_cons (pg_name (i := 2) sc_BookX_initX.nd rfl (Or.inl rfl)) (pgs_cons (pg_name (i := 3) sc_BookX_initX.nd rfl (Or.inl rfl)) pgs_nil)))
  (pss_cons (ps_if (PW.pt (pw_or (pt_cmpR op_eq (pv 2) (pe_gint T.c_MAX_ORDERS_books) (nomark _)) (pw_or1 (pt_not (pt_val (pe_g G_is_order (hr.mono (by decide)) (pa_cons (pv 3) pa_nil)))))))
  (pss_one ps_never)
  pss_nil)
  (pss_one (ps_for PassesOwn.never rfl (pi_tup (pe_slice sl_tup (pv 1) po_none (po_some (pv 2)))) (pg_name (i := 4) sc_BookX_initX.nd rfl (Or.inl rfl))
  (pss_one (ps_if (pt_val (pe_g G_do_overlap (hr.mono (by decide)) (pa_cons (pv 4) (pa_cons (pv 3) pa_nil))))
  (pss_one ps_never)
  pss_nil))))))
  (pss_one (ps_fld (pv 0) (pv 1) rfl))), ?_⟩
  have hl : as.length = os.length := PySem.Paired.length ho
  refine ⟨_, rfl, t, _, rfl, ht, for_it walk_enumT (fun i σ H' => Same H H' ∧ ∃ v2 v3 v4, σ = [some (.ref x), some (.ref t), v2, v3, v4]) ⟨Same.refl H, _, _, _, rfl⟩ (fun i σ H' _ ⟨s1, _⟩ => MF.Same.tup s1 ht) ?_ ?_⟩
  · rintro i y σ H1 H2 hi ⟨s1, v2, v3, v4, rfl⟩ ⟨p, z1, z2, rfl, hp, rfl, e1, e2⟩
    cases e1
    rw [List.length_map] at hi
    obtain ⟨a, ea⟩ : ∃ a, as[i]? = some a := ⟨as[i], by simp [hi]⟩
    replace e2 : (as.map V.ref)[i]? = some z2 := e2
    rw [List.getElem?_map, ea] at e2
    cases e2
    obtain ⟨o, eo, oa⟩ := Paired.get ho ea
    have s2 : Same H (upd H1 p (.tup [.int (i : Nat), .ref a])) := MF.Same.upd s1 hp
    have om : o ∈ os := List.mem_of_getElem? eo
    refine ⟨p, _, rfl, .inl (.inl upd_same), rfl, _, _, rfl, _, _, rfl, rfl, ?_⟩
    refine ⟨_, rfl, rfl, _, rfl, ?_⟩
    have hi30 : i < 30 := Nat.lt_of_lt_of_le (hl ▸ hi) g.len
    have ne30 : decide (V.int ((i : Nat) : Int) = V.int 30) = false := decide_eq_false fun q => by
      have := V.int.inj q
      omega
    rw [ne30]
    refine iteF ?_
    refine ⟨_, rfl, _, true, rfl, .inl ⟨a, _, rfl, oa.mono s2, isOrd_flat (g.ok o om), (g.ok o om).b.symm⟩, fun H3 s3 => ⟨_, rfl, iteF ?_⟩⟩
    have s13 := s2.trans s3
    have tt : SqT K H3 t (as.map V.ref) := MF.Same.tup s13 ht
    refine ⟨_, rfl, _, rfl, _, rfl, t, _, rfl, tt, ?_, fun p2 hp2 => ?_⟩
    · rw [HT.sIx_nat, List.length_map]
      omega
    rw [cut_take _ _ (by rw [List.length_map]; omega)]
    refine ⟨p2, rfl, ⟨_, .inl (.inl upd_same)⟩, for_it (walk_tup (xs := (as.map V.ref).take i)) (fun j σ H' => Same H H' ∧ SqT K H' p2 ((as.map V.ref).take i) ∧ ∃ v4, σ = [some (.ref x), some (.ref t), some (.int (i : Nat)), some (.ref a), v4]) ⟨MF.Same.upd s13 hp2, .inl (.inl upd_same), _, rfl⟩ (fun j σ H' _ ⟨_, q, _⟩ => q) ?_ ?_⟩
    · rintro j y σ H4 H5 hj ⟨s4, q4, v4', rfl⟩ ⟨rfl, ey⟩
      rw [List.length_take, List.length_map] at hj
      have hji : j < i := by omega
      obtain ⟨b, eb⟩ : ∃ b, as[j]? = some b := ⟨as[j]'(by omega), by simp [show j < as.length by omega]⟩
      rw [List.getElem?_take, if_pos hji, List.getElem?_map, eb] at ey
      cases ey
      obtain ⟨o', eo', ob⟩ := Paired.get ho eb
      refine ⟨_, rfl, _, rfl, b, a, o', o, rfl, ob.mono s4, oa.mono s4, ⟨_, rfl, ?_⟩⟩
      have hov : overB o' o = false := by
        have hj' : j < os.length := by omega
        have hi' : i < os.length := by omega
        have := List.pairwise_iff_getElem.mp g.apart j i hj' hi' hji
        rw [List.getElem?_eq_getElem hj'] at eo'
        rw [List.getElem?_eq_getElem hi'] at eo
        cases eo'
        cases eo
        exact this
      rw [hov]
      exact iteF ⟨s4, q4, _, rfl⟩
    · rintro σ H4 ⟨s4, _, v4', rfl⟩
      exact ⟨s4, _, _, _, rfl⟩
  · rintro σ H1 ⟨s1, v2, v3, v4, rfl⟩
    refine ⟨_, rfl, _, rfl, x, C_Book, dx, [], rfl, s1 _ _ hx, T.cl_Book, T.n_Book_listed, (by show 0 < 1000; decide), ?_⟩
    refine k _ upd_same fun b o e hb => ?_
    rw [upd_ne hb]
    exact s1 b o e
theorem book_made' {C : Addr} {H : Hp} {as : List Addr} {os : List Ordr} {R : VK} {E : XK} (h : OrdsAt K H as os) (g : Good os) {x dx : Addr} (hx : H x = none) (hdx : H dx = none) (ne : dx ≠ x) (k : ∀ H', Same H H' → BookAt K C H' x os → R .non H') :
    spBookInit K C (.ref x :: as.map V.ref) (upd (upd H dx (.own x)) x (.ins C dx [])) R E := by
  have hl : as.length = os.length := PySem.Paired.length h
  have s0 : Same H (upd (upd H dx (.own x)) x (.ins C dx [])) := fun b o e => by
    rw [upd_ne (ne_of_none e hx), upd_ne (ne_of_none e hdx)]
    exact e
  refine ⟨_, _, rfl, ?_, fun p hp => ?_⟩
  · rw [List.length_map, hl]
    exact Nat.le_trans g.len (by decide)
  have s1 := s0.trans (Same.new (o := .tup (as.map V.ref)) hp)
  have nxp : x ≠ p := fun q => by
    subst q
    rw [upd_same] at hp
    cases hp
  refine ⟨x, dx, p, as, os, rfl, by rw [upd_ne nxp, upd_same], .inl (.inl upd_same), h.mono s1, g, fun H' hx' kp => ?_⟩
  have s2 : Same H H' := fun b o e => kp b o (s1 b o e) (ne_of_none e hx)
  refine k H' s2 ⟨dx, p, as, hx', .inl (.inl (kp p _ upd_same nxp.symm)), h.mono s2⟩
theorem book_made {C : Addr} {H : Hp} {as : List Addr} {os : List Ordr} {Q : VK} {E : XK} (h : OrdsAt K H as os) (g : Good os) (k : ∀ H' p, Same H H' → H p = none → BookAt K C H' p os → Q (.ref p) H') :
    ∀ x dx, H x = none → H dx = none → dx ≠ x → spBookInit K C (.ref x :: as.map V.ref) (upd (upd H dx (.own x)) x (.ins C dx [])) (fun v H2 => v = .non ∧ Q (.ref x) H2) E := by
  intro x dx hx hdx ne
  exact book_made' h g hx hdx ne fun H' s b => ⟨rfl, k H' x s hx b⟩
def spBookOf (K : PySem.W.Frag) (C : Addr) : Sp := fun vs H Q _ => ∃ t as os, vs = [.ref t] ∧ (SqT K H t (as.map V.ref) ∨ SqL K H t (as.map V.ref)) ∧ OrdsAt K H as os ∧ Good os ∧ ∀ H' p, Same H H' → H p = none → BookAt K C H' p os → Q (.ref p) H'
theorem ok_book_of (T : Top K mg C_Book C_Letter C_Walker C_MailError C_InvalidOrder C_UnknownOrder C_InvalidAddress C_InvalidDay C_InvalidNumber FL) : GFn P w K mg base CX0 5 "book_of" (spBookOf K C_Book) := by
  have G_Book : IFn P w K mg base CX0 3 C_Book "Book" (spBookInit K C_Book) := ok_Book T
  refine T.d_book_of.fn fun f fd F => F.ok sc_book_of (fun vs H Q E h => ?_) (fun cdv A outer s H vs Q E hr h => ?_)
  · obtain ⟨t, as, os, rfl, _⟩ := h
    rfl
  · obtain ⟨t, as, os, rfl, ht, ho, g, k⟩ := h
    refine ⟨_, (pss_one (ps_ret (pe_mkS G_Book (hr.mono (by decide)) pass0 (pv 0)))), ?_⟩
    refine ⟨_, rfl, t, _, rfl, ht, ?_⟩
    show ∀ x dx, H x = none → H dx = none → dx ≠ x → spBookInit K C_Book (.ref x :: (as.map V.ref ++ [])) _ _ _
    rw [List.append_nil]
    exact book_made ho g k
def spBookAdd (K : PySem.W.Frag) (C : Addr) : Sp := fun vs H Q _ => ∃ a b os ps, vs = [.ref a, .ref b] ∧ BookAt K C H a os ∧ BookAt K C H b ps ∧ Good (os ++ ps) ∧ ∀ H' p, Same H H' → H p = none → BookAt K C H' p (os ++ ps) → Q (.ref p) H'
theorem ok_Book_add (T : Top K mg C_Book C_Letter C_Walker C_MailError C_InvalidOrder C_UnknownOrder C_InvalidAddress C_InvalidDay C_InvalidNumber FL) : MFn P w K mg base CX0 6 C_Book "__add__" (spBookAdd K C_Book) := by
  have G_book_of : GFn P w K mg base CX0 5 "book_of" (spBookOf K C_Book) := ok_book_of T
  refine T.d_BookX_addX.fn fun f fd F => F.ok sc_BookX_addX (fun vs H Q E h => ?_) (fun cdv A outer s H vs Q E hr h => ?_)
  · obtain ⟨a, b, os, ps, rfl, _⟩ := h
    rfl
  · obtain ⟨a, b, os, ps, rfl, ⟨dx, t, as, h1, h2, h3⟩, ⟨dy, u, bs, h4, h5, h6⟩, g, k⟩ := h
    refine ⟨_, (pss_one (ps_ret (pe_g G_book_of (hr.mono (by decide)) (pa_cons (pe_op op_catA (pe_fld (pv 0) rfl) (pe_fld (pv 1) rfl)) pa_nil)))), ?_⟩
    have la : as.length = os.length := PySem.Paired.length h3
    have lb : bs.length = ps.length := PySem.Paired.length h6
    refine ⟨_, rfl, a, C_Book, dx, _, _, rfl, h1, T.cl_Book, T.n_Book_listed, rfl, _, rfl, b, C_Book, dy, _, _, rfl, h4, T.cl_Book, T.n_Book_listed, rfl, t, u, _, _, rfl, rfl, h2, h5, ?_, fun e => ?_, fun _ e => ?_, fun _ _ p hp => ?_⟩
    · rw [List.length_map, List.length_map, la, lb, ← List.length_append]
      exact Nat.le_trans g.len (by decide)
    · have : os = [] := List.eq_nil_of_length_eq_zero (by rw [← la]; simpa using e)
      subst this
      exact ⟨u, bs, ps, rfl, .inl h5, h6, g, k⟩
    · have : ps = [] := List.eq_nil_of_length_eq_zero (by rw [← lb]; simpa using e)
      subst this
      rw [List.append_nil] at g k
      exact ⟨t, as, os, rfl, .inl h2, h3, g, k⟩
    · have s1 := Same.new (o := .tup (as.map V.ref ++ bs.map V.ref)) hp
      refine ⟨p, as ++ bs, os ++ ps, rfl, .inl ?_, Paired.append (OrdsAt.mono h3 s1) (OrdsAt.mono h6 s1), g, fun H' q e1 e2 e3 => k H' q (s1.trans e1) (s1.free e2) e3⟩
      rw [List.map_append]
      exact .inl (.inl upd_same)
end

end MF
set_option Elab.async false
set_option linter.all false
set_option maxRecDepth 100000
set_option maxHeartbeats 2000000
set_option pp.maxSteps 600
namespace MF
open PySem PySem.Spec PyProof.Rows L2 StX
section
variable {P : Program} {w : World} {K : PySem.W.Frag} {mg : Str → Option Value} {base : Heap} {C_Book C_Letter C_Walker C_MailError C_InvalidOrder C_UnknownOrder C_InvalidAddress C_InvalidDay C_InvalidNumber : Addr} {FL : Str}
def optI : Option Nat → V
  | none => .non
  | some i => .int (i : Nat)
def optZ : Option Int → V
  | none => .non
  | some i => .int i
def spOrderFor (K : PySem.W.Frag) (C : Addr) : Sp := fun vs H Q _ => ∃ p os z d, vs = [.ref p, .str z, .int d] ∧ BookAt K C H p os ∧ ∀ H', Same H H' → Q (optI (ordFor os z d)) H'
theorem ok_order_for (T : Top K mg C_Book C_Letter C_Walker C_MailError C_InvalidOrder C_UnknownOrder C_InvalidAddress C_InvalidDay C_InvalidNumber FL) : MFn P w K mg base CX0 1 C_Book "order_for" (spOrderFor K C_Book) := by
  refine T.d_Book_order_for.fn fun f fd F => F.ok sc_Book_order_for (fun vs H Q E h => ?_) (fun cdv A outer s H vs Q E hr h => ?_)
  · obtain ⟨p, os, z, d, rfl, _⟩ := h
    rfl
  · obtain ⟨p, os, z, d, rfl, ⟨dx, t, as, h1, h2, h3⟩, k⟩ := h
    refine ⟨_, (pss_cons (ps_for PassesOwn.never rfl (pi_enumT (by rfl) T.b_enumerate (pa_cons (pe_fld (pv 0) rfl) pa_nil)) (pg_tup rfl (pgs_cons (pg_name (i := 3) sc_Book_order_for.nd rfl (Or.inl rfl)) (pgs_cons (pg_tup rfl (pgs_cons (pg_name (i := 4) sc_Book_order_for.nd rfl (Or.inl rfl)) (pgs_cons (pg_name (i := 5) sc_Book_order_for.nd rfl (Or.inl rfl)) (pgs_cons (pg_name (i := 6) sc_Book_order_for.nd rfl (Or.inl rfl)) (pgs_cons (pg_name (i := 7) sc_Book_order_for.nd rfl (Or.inl rfl)) (pgs_cons (pg_name (i := 8) sc_Book_order_for.nd rfl (Or.inl rfl)) pgs_nil)))))) pgs_nil)))
  (pss_one (ps_if (PW.pt (pw_and (pt_cmpR op_eq (pv 4) (pv 1) (nomark _)) (pw_and1 (pt_chain op_le op_le (pv 6) (pv 2) (pv 7)))))
  (pss_one (ps_ret (pv 3)))
  pss_nil)))
  (pss_one (ps_ret pe_non))), ?_⟩
    have hl : as.length = os.length := PySem.Paired.length h3
    refine ⟨_, rfl, p, C_Book, dx, _, _, rfl, h1, T.cl_Book, T.n_Book_listed, rfl, t, _, rfl, h2, for_it walk_enumT (fun i σ H' => Same H H' ∧ (∃ v3 v4 v5 v6 v7 v8, σ = [some (.ref p), some (.str z), some (.int d), v3, v4, v5, v6, v7, v8]) ∧ ∀ (j : Nat) q, j < i → os[j]? = some q → holds q z d = false)
      ⟨Same.refl H, ⟨_, _, _, _, _, _, rfl⟩, fun j q hj => absurd hj (Nat.not_lt_zero _)⟩ (fun i σ H' _ ⟨s1, _⟩ => MF.Same.tup s1 h2) ?_ ?_⟩
    · rintro i y σ H1 H2 hi ⟨s1, ⟨v3, v4, v5, v6, v7, v8, rfl⟩, hn⟩ ⟨q, z1, z2, rfl, hq, rfl, e1, e2⟩
      cases e1
      rw [List.length_map] at hi
      obtain ⟨a, ea⟩ : ∃ a, as[i]? = some a := ⟨as[i], by simp [hi]⟩
      replace e2 : (as.map V.ref)[i]? = some z2 := e2
      rw [List.getElem?_map, ea] at e2
      cases e2
      obtain ⟨o, eo, oa⟩ := Paired.get h3 ea
      have s2 : Same H (upd H1 q (.tup [.int (i : Nat), .ref a])) := MF.Same.upd s1 hq
      refine ⟨q, _, rfl, .inl (.inl upd_same), rfl, _, _, rfl, _, _, rfl, a, o.vals, rfl, oa.mono s2, rfl, _, _, rfl, _, _, rfl, _, _, rfl, _, _, rfl, _, _, rfl, rfl, rfl, ?_⟩
      refine ⟨_, rfl, _, rfl, rfl, _, rfl, ?_⟩
      have fin : holds o z d = false → (Same H (upd H1 q (.tup [.int (i : Nat), .ref a])) ∧ (∃ v3 v4 v5 v6 v7 v8, ([some (.ref p), some (.str z), some (.int d), some (.int (i : Nat)), some (.str o.src), some (.str o.tgt), some (.int o.first), some (.int o.last), some (.int o.way)] : L2.St) = [some (.ref p), some (.str z), some (.int d), v3, v4, v5, v6, v7, v8]) ∧ ∀ (j : Nat) q, j < i + 1 → os[j]? = some q → holds q z d = false) := fun hh =>
        ⟨s2, ⟨_, _, _, _, _, _, rfl⟩, fun j q hj ej => by
          by_cases hji : j < i
          · exact hn j q hji ej
          · have : j = i := by omega
            subst this
            rw [eo] at ej
            cases ej
            exact hh⟩
      refine ite2 (fun c1 => ?_) (fun c1 => ?_)
      · have c1' : o.src = z := V.str.inj (of_decide_eq_true c1)
        refine ⟨_, rfl, _, rfl, _, _, rfl, rfl, _, rfl, ?_⟩
        refine ite2 (fun c2 => ?_) (fun c2 => ?_)
        · have c2' : o.first ≤ d := of_decide_eq_true c2
          refine ⟨_, rfl, _, _, rfl, rfl, _, rfl, ?_⟩
          refine ite2 (fun c3 => ?_) (fun c3 => ?_)
          · have c3' : d ≤ o.last := of_decide_eq_true c3
            refine ⟨_, rfl, ?_⟩
            have e : ordFor os z d = some i := ordFor_is hn eo (by simp [holds, c1', c2', c3'])
            have := k _ s2
            rw [e] at this
            exact this
          · have c3' : ¬ d ≤ o.last := fun q => c3 (decide_eq_true q)
            exact fin (by simp [holds, c3'])
        · have c2' : ¬ o.first ≤ d := fun q => c2 (decide_eq_true q)
          refine ⟨_, rfl, ?_⟩
          exact iteF (fin (by simp [holds, c2']))
      · have c1' : ¬ o.src = z := fun q => c1 (decide_eq_true (congrArg V.str q))
        exact iteF (fin (by simp [holds, c1']))
    · rintro σ H1 ⟨s1, ⟨v3, v4, v5, v6, v7, v8, rfl⟩, hn⟩
      have e : ordFor os z d = none := ordFor_none fun q hq => by
        obtain ⟨j, hj, ej⟩ := List.getElem_of_mem hq
        exact hn j q (by rw [List.length_map, hl]; exact hj) (by rw [List.getElem?_eq_getElem hj, ej])
      have := k _ s1
      rw [e] at this
      exact this
end

end MF
set_option Elab.async false
set_option linter.all false
set_option maxRecDepth 100000
set_option maxHeartbeats 2000000
set_option pp.maxSteps 600
namespace MF
open PySem PySem.Spec PyProof.Rows L2 StX
section
variable {P : Program} {w : World} {K : PySem.W.Frag} {mg : Str → Option Value} {base : Heap} {C_Book C_Letter C_Walker C_MailError C_InvalidOrder C_UnknownOrder C_InvalidAddress C_InvalidDay C_InvalidNumber : Addr} {FL : Str}
theorem changes_append (d : Int) : ∀ a b : List Ordr, changes (a ++ b) d = changes a d ++ changes b d
  | [], b => rfl
  | o :: a, b => by
    show ([o.first, o.last + 1].filter fun c => decide (d < c)) ++ changes (a ++ b) d = (([o.first, o.last + 1].filter fun c => decide (d < c)) ++ changes a d) ++ changes b d
    rw [changes_append d a b, List.append_assoc]
theorem changes_len (d : Int) : ∀ a : List Ordr, (changes a d).length ≤ 2 * a.length
  | [] => Nat.zero_le _
  | o :: a => by
    unfold changes
    have h1 := List.length_filter_le (fun c => decide (d < c)) [o.first, o.last + 1]
    have h2 := changes_len d a
    rw [List.length_append, List.length_cons]
    simp only [List.length_cons, List.length_nil] at h1
    omega
theorem DpAll.ints {H : Hp} : ∀ ns : List Int, DpAll K H (ns.map V.int) (ns.map PyData.int)
  | [] => .nil
  | n :: ns => .cons (.int n) (DpAll.ints ns)
def spNextChange (K : PySem.W.Frag) (C : Addr) : Sp := fun vs H Q _ => ∃ p os d, vs = [.ref p, .int d] ∧ BookAt K C H p os ∧ os.length ≤ 30 ∧ ∀ H', Same H H' → Q (optZ (nextCh os d)) H'
theorem ok_next_change (T : Top K mg C_Book C_Letter C_Walker C_MailError C_InvalidOrder C_UnknownOrder C_InvalidAddress C_InvalidDay C_InvalidNumber FL) : MFn P w K mg base CX0 1 C_Book "next_change" (spNextChange K C_Book) := by
  refine T.d_Book_next_change.fn fun f fd F => F.ok sc_Book_next_change (fun vs H Q E h => ?_) (fun cdv A outer s H vs Q E hr h => ?_)
  · obtain ⟨p, os, d, rfl, _⟩ := h
    rfl
  · obtain ⟨p, os, d, rfl, ⟨dx, t, as, h1, h2, h3⟩, h30, k⟩ := h
    refine ⟨_, (pss_cons (ps_set (i := 2) sc_Book_next_change.nd rfl (Or.inl rfl) (pe_lst pa_nil))
  (pss_cons (ps_for PassesOwn.never rfl (pi_tup (pe_fld (pv 0) rfl)) (pg_tup rfl (pgs_cons (pg_name (i := 3) sc_Book_next_change.nd rfl (Or.inl rfl)) (pgs_cons (pg_name (i := 4) sc_Book_next_change.nd rfl (Or.inl rfl)) (pgs_cons (pg_name (i := 5) sc_Book_next_change.nd rfl (Or.inl rfl)) (pgs_cons (pg_name (i := 6) sc_Book_next_change.nd rfl (Or.inl rfl)) (pgs_cons (pg_name (i := 7) sc_Book_next_change.nd rfl (Or.inl rfl)) pgs_nil))))))
  (pss_one (ps_expr (pe_bm PySem.F.plainAttrs_list PySem.F.slot_list_extend PySem.F.type_list_extend mt_extend (pv 2) (pa_cons (pe_lc (own := [("change", 8)]) (g := (gName 8)) (by rfl) sc_Book_next_change.nd (pi_tup (pe_tup (pa_cons (pv 5) (pa_cons (pe_op op_add (pv 6) pe_int) pa_nil)))) (blkOk_by (own := [("change", 8)]) (N := ["self", "day", "found", "source", "target", "first", "last", "way", "change"]) (sc := defScope s_Book_next_change) (by decide +kernel)) (fun _ _ _ _ _ => (pg_name (i := 8) sc_Book_next_change.nd rfl (Or.inl rfl))) (fun _ _ _ _ _ => (pts_one (pt_cmpR op_gt (pv 8) (pv 1) (nomark _)))) (fun _ _ _ _ _ => (pv 8))) pa_nil)))))
  (pss_one (ps_ret (pe_ifExp (pt_cmpR (op_neD hr.units) (pv 2) (pe_lst pa_nil) (nomark _)) (pe_callB (cr_min rfl) (by rfl) T.b_min (by decide +kernel) (pa_cons (pv 2) pa_nil)) pe_non))))), ?_⟩
    have hl : as.length = os.length := PySem.Paired.length h3
    refine ⟨Nat.zero_le _, fun l hl0 => ?_⟩
    have s0 : Same H (upd H l (.lst [])) := Same.new hl0
    refine ⟨_, rfl, p, C_Book, dx, _, _, rfl, s0 _ _ h1, T.cl_Book, T.n_Book_listed, rfl, t, rfl, ⟨_, MF.Same.tup s0 h2⟩, for_it (walk_tup (xs := as.map V.ref)) (fun i σ H' => Same H H' ∧ H' l = some (.lst ((changes (os.take i) d).map V.int)) ∧ ∃ v3 v4 v5 v6 v7 v8, σ = [some (.ref p), some (.int d), some (.ref l), v3, v4, v5, v6, v7, v8])
      ⟨s0, upd_same, _, _, _, _, _, _, rfl⟩ (fun i σ H' _ ⟨s1, _⟩ => MF.Same.tup s1 h2) ?_ ?_⟩
    · rintro i y σ H1 H2 hi ⟨s1, el, v3, v4, v5, v6, v7, v8, rfl⟩ ⟨rfl, ey⟩
      rw [List.length_map] at hi
      obtain ⟨a, ea⟩ : ∃ a, as[i]? = some a := ⟨as[i], by simp [hi]⟩
      rw [List.getElem?_map, ea] at ey
      cases ey
      obtain ⟨o, eo, oa⟩ := Paired.get h3 ea
      have hio : i < os.length := hl ▸ hi
      refine ⟨a, o.vals, rfl, oa.mono s1, rfl, _, _, rfl, _, _, rfl, _, _, rfl, _, _, rfl, _, _, rfl, rfl, ?_⟩
      refine ⟨_, rfl, .inl ⟨rfl, _, SqL.of el⟩, ?_⟩
      refine ⟨_, rfl, _, rfl, _, _, rfl, rfl, (by show 2 ≤ sizeLine; decide), fun q hq => ?_⟩
      have s2 : Same H (upd H2 q (.tup [.int o.first, .int (o.last + 1)])) := MF.Same.upd s1 hq
      have nlq : l ≠ q := ne_of_none el hq
      have el2 : upd H2 q (.tup [.int o.first, .int (o.last + 1)]) l = some (.lst ((changes (os.take i) d).map V.int)) := by rw [upd_ne nlq]; exact el
      refine ⟨q, rfl, ⟨_, .inl (.inl upd_same)⟩, fun D hD => ?_⟩
      have nlD : l ≠ D := ne_of_none el2 hD
      have nqD : q ≠ D := ne_of_none (o := .tup [.int o.first, .int (o.last + 1)]) upd_same hD
      refine lc_it (walk_tup (xs := [V.int o.first, V.int (o.last + 1)])) (fun j H' => Same H H' ∧ H' l = some (.lst ((changes (os.take i) d).map V.int)) ∧ H' q = some (.tup [.int o.first, .int (o.last + 1)]) ∧ H' D = some (.lst ((([o.first, o.last + 1].take j).filter fun c => decide (d < c)).map V.int)))
        ⟨MF.Same.upd s2 hD, by rw [upd_ne nlD]; exact el2, by rw [upd_ne nqD, upd_same], by rw [upd_same]; rfl⟩ (fun j H' _ ⟨_, _, e, _⟩ => .inl (.inl e)) ?_ ?_
      · rintro j y H3 H4 hj ⟨s3, l3, q3, d3⟩ ⟨rfl, ey⟩
        have hj2 : j < 2 := hj
        obtain ⟨c, rfl, ec⟩ : ∃ c, y = V.int c ∧ [o.first, o.last + 1][j]? = some c := by
          have : j = 0 ∨ j = 1 := by omega
          rcases this with rfl | rfl
          · cases ey; exact ⟨_, rfl, rfl⟩
          · cases ey; exact ⟨_, rfl, rfl⟩
        have et : [o.first, o.last + 1].take (j + 1) = [o.first, o.last + 1].take j ++ [c] := by
          rw [List.take_add_one, ec]
          rfl
        refine ⟨rfl, ?_⟩
        refine ⟨_, rfl, _, rfl, _, _, rfl, rfl, _, rfl, ?_⟩
        refine ite2 (fun c1 => ?_) (fun c1 => ?_)
        · have c1' : d < c := of_decide_eq_true c1
          refine ⟨_, rfl, _, d3, ?_, ?_, ?_, ?_, ?_⟩
          · rw [List.length_map]
            exact Nat.lt_of_le_of_lt (List.length_filter_le _ _) (Nat.lt_of_le_of_lt (List.length_take_le _ _) (Nat.lt_of_lt_of_le hj2 (by decide)))
          · intro b u e
            have nb : b ≠ D := ne_of_none (s2 b u e) hD
            rw [upd_ne nb]
            exact s3 b u e
          · rw [upd_ne nlD]; exact l3
          · rw [upd_ne nqD]; exact q3
          · rw [upd_same, et, List.filter_append, List.map_append]
            simp [c1']
        · have c1' : ¬ d < c := fun z => c1 (decide_eq_true z)
          refine ⟨s3, l3, q3, ?_⟩
          rw [d3, et, List.filter_append, List.map_append]
          simp [c1']
      · rintro H3 ⟨s3, l3, q3, d3⟩
        have e2 : [o.first, o.last + 1].take 2 = [o.first, o.last + 1] := rfl
        have et : os.take (i + 1) = os.take i ++ [o] := by
          rw [List.take_add_one, eo]
          rfl
        have ec : changes (os.take (i + 1)) d = changes (os.take i) d ++ ([o.first, o.last + 1].filter fun c => decide (d < c)) := by
          rw [et, changes_append]
          show _ ++ changes [o] d = _
          unfold changes
          simp [changes]
        refine ⟨l, D, _, _, rfl, rfl, l3, d3, ?_, ?_, ?_, _, _, _, _, _, _, rfl⟩
        · have := changes_len d (os.take i)
          have h4 : (([o.first, o.last + 1].take [V.int o.first, V.int (o.last + 1)].length).filter fun c => decide (d < c)).length ≤ 2 := List.length_filter_le _ _
          rw [List.length_map, List.length_map]
          rw [List.length_take] at this
          have h5 : 62 ≤ sizeLine := by decide
          omega
        · intro b u e
          have nb : b ≠ l := ne_of_none e hl0
          rw [upd_ne nb]
          exact s3 b u e
        · rw [upd_same, ec, List.map_append]
          rfl
    · rintro σ H1 ⟨s1, el, v3, v4, v5, v6, v7, v8, rfl⟩
      rw [List.length_map, hl, List.take_length] at el
      refine ⟨_, rfl, Nat.zero_le _, fun r hr0 => ?_⟩
      have s2 := MF.Same.upd (o := .lst []) s1 hr0
      have nlr : l ≠ r := ne_of_none el hr0
      have el2 : upd H1 r (.lst []) l = some (.lst ((changes os d).map V.int)) := by rw [upd_ne nlr]; exact el
      refine ⟨.list ((changes os d).map PyData.int), .list [], .lst (SqL.of el2) (DpAll.ints _), .lst (SqL.of upd_same) .nil, PySem.W.ke_shaped_ints _, rfl, _, rfl, ?_⟩
      cases ec : changes os d with
      | nil =>
        refine iteF ?_
        have e : nextCh os d = none := by unfold nextCh; rw [ec]; rfl
        have := k _ s2
        rw [e] at this
        exact this
      | cons c cs =>
        refine iteT ?_
        rw [ec] at el2
        refine ⟨_, rfl, l, _, rfl, SqL.of el2, Nat.succ_pos _, fun m hm hle => ?_⟩
        have e : nextCh os d = some m := by
          unfold nextCh
          rw [ec]
          exact leastOf_some.mpr ⟨hm, hle⟩
        have := k _ s2
        rw [e] at this
        exact this
end

end MF
set_option Elab.async false
set_option linter.all false
set_option maxRecDepth 100000
set_option maxHeartbeats 2000000
set_option pp.maxSteps 600
namespace MF
open PySem PySem.Spec PyProof.Rows L2 StX
section
variable {P : Program} {w : World} {K : PySem.W.Frag} {mg : Str → Option Value} {base : Heap} {C_Book C_Letter C_Walker C_MailError C_InvalidOrder C_UnknownOrder C_InvalidAddress C_InvalidDay C_InvalidNumber : Addr} {FL : Str}
def lf (bk : Addr) (x : Str) (d n : Int) (kn : Addr) (e : Bool) (c : V) : List (Str × V) := [("book", .ref bk), ("address", .str x), ("day", .int d), ("count", .int n), ("known", .ref kn), ("is_endless", .bl e), ("change", c)]
def LetterAt (C : Addr) (H : Hp) (p kn : Addr) (kvs : List (Key × V)) (bk : Addr) (x : Str) (d n : Int) (e : Bool) (c : Option Int) : Prop := (∃ dx, H p = some (.ins C dx (lf bk x d n kn e (optZ c)))) ∧ H kn = some (.dK kvs)
theorem LetterAt.ne {C : Addr} {H : Hp} {p kn : Addr} {kvs : List (Key × V)} {bk : Addr} {x : Str} {d n : Int} {e : Bool} {c : Option Int} (h : LetterAt C H p kn kvs bk x d n e c) : p ≠ kn := by
  obtain ⟨⟨dx, h1⟩, h2⟩ := h
  exact ne_of h1 h2 (by intro z; cases z)
theorem LetterAt.keep {C : Addr} {H H' : Hp} {p kn : Addr} {kvs : List (Key × V)} {bk : Addr} {x : Str} {d n : Int} {e : Bool} {c : Option Int} (h : LetterAt C H p kn kvs bk x d n e c) (k1 : ∀ o, H p = some o → H' p = some o) (k2 : ∀ o, H kn = some o → H' kn = some o) : LetterAt C H' p kn kvs bk x d n e c := by
  obtain ⟨⟨dx, h1⟩, h2⟩ := h
  exact ⟨⟨dx, k1 _ h1⟩, k2 _ h2⟩
theorem BookAt.keep {C : Addr} {H H' : Hp} {p q : Addr} {os : List Ordr} (h : BookAt K C H p os) (hq : ∃ o, H q = some o ∧ (∀ xs, o ≠ .tup xs) ∧ (∀ u xs, o ≠ .frz u (.tup xs))) (ne : p ≠ q) (k : ∀ b u, H b = some u → b ≠ q → H' b = some u) : BookAt K C H' p os := by
  obtain ⟨dx, t, as, h1, h2, h3⟩ := h
  obtain ⟨oq, eq, n1, n2⟩ := hq
  have tp : ∀ a xs, SqT K H a xs → SqT K H' a xs := fun a xs z => by
    rcases z with (z | ⟨u, z⟩) | z
    · refine .inl (.inl (k _ _ z fun w => ?_))
      rw [w, eq] at z
      exact n1 _ (Option.some.inj z)
    · refine .inl (.inr ⟨u, k _ _ z fun w => ?_⟩)
      rw [w, eq] at z
      exact n2 _ _ (Option.some.inj z)
    · exact .inr z
  exact ⟨dx, t, as, k _ _ h1 ne, tp _ _ h2, PySem.Paired.mono (fun a o z => tp a _ z) h3⟩
def spLetterInit (K : PySem.W.Frag) (CB CL : Addr) : Sp := fun vs H Q _ => ∃ p dx bk os x d, vs = [.ref p, .ref bk, .str x, .int d] ∧ H p = some (.ins CL dx []) ∧ BookAt K CB H bk os ∧ os.length ≤ 30 ∧ bk ≠ p ∧
  ∀ H' kn, H kn = none → LetterAt CL H' p kn [] bk x d 0 false (nextCh os d) → (∀ b u, H b = some u → b ≠ p → H' b = some u) → Q .non H'
def spLetterInitX (K : PySem.W.Frag) (CB CL : Addr) : Sp := fun vs H Q _ => ∃ p dx bk os x d, vs = [.ref p, .ref bk, .str x, .int d] ∧ H p = some (.ins CL dx []) ∧ BookAt K CB H bk os ∧ os.length ≤ 30 ∧ bk ≠ p ∧
  ∀ H' kn, H kn = none → LetterAt CL H' p kn [] bk x d 0 false (nextCh os d) → (∀ b u, H b = some u → b ≠ p → H' b = some u) → (∃ fs, H' p = some (.ins CL dx fs)) → Q .non H'
structure LCls (K : PySem.W.Frag) (C : Addr) : Prop where
  cl : Cls K C
  book : NoAttr K C "book"
  address : NoAttr K C "address"
  day : NoAttr K C "day"
  count : NoAttr K C "count"
  known : NoAttr K C "known"
  is_endless : NoAttr K C "is_endless"
  change : NoAttr K C "change"
theorem lcls (T : Top K mg C_Book C_Letter C_Walker C_MailError C_InvalidOrder C_UnknownOrder C_InvalidAddress C_InvalidDay C_InvalidNumber FL) : LCls K C_Letter := ⟨T.cl_Letter, T.n_Letter_book, T.n_Letter_address, T.n_Letter_day, T.n_Letter_count, T.n_Letter_known, T.n_Letter_is_endless, T.n_Letter_change⟩
theorem letter_initX (T : Top K mg C_Book C_Letter C_Walker C_MailError C_InvalidOrder C_UnknownOrder C_InvalidAddress C_InvalidDay C_InvalidNumber FL) {C : Addr} (L : LCls K C) {f : Addr} {fd : FuncData} (F : Fun K "__init__" "Letter.__init__" s_LetterX_initX f fd) : FnOk P w K mg base CX0 2 f fd ["self", "book", "address", "day"] (spLetterInitX K C_Book C) := by
  have M_Book_next_change : MFn P w K mg base CX0 1 C_Book "next_change" (spNextChange K C_Book) := ok_next_change T
  refine F.ok sc_LetterX_initX (fun vs H Q E h => ?_) (fun cdv A outer s H vs Q E hr h => ?_)
  · obtain ⟨p, dx, bk, os, x, d, rfl, _⟩ := h
    rfl
  · obtain ⟨p, dx, bk, os, x, d, rfl, hp, hb, h30, nbp, k⟩ := h
    refine ⟨_, (pss_cons (ps_fld (pv 0) (pv 1) rfl)
  (pss_cons (ps_fld (pv 0) (pv 2) rfl)
  (pss_cons (ps_fld (pv 0) (pv 3) rfl)
  (pss_cons (ps_fld (pv 0) pe_int rfl)
  (pss_cons (ps_fld (pv 0) pe_dnewK rfl)
  (pss_cons (ps_fld (pv 0) pe_bl rfl)
  (pss_one (ps_fld (pv 0) (pe_m M_Book_next_change T.cl_Book (hr.mono (by decide)) (pv 1) (pa_cons (pv 3) pa_nil)) rfl)))))))), ?_⟩
    have hpi : ∃ o, H p = some o ∧ (∀ xs, o ≠ HO.tup xs) ∧ (∀ u xs, o ≠ HO.frz u (.tup xs)) := ⟨_, hp, (fun _ z => by cases z), (fun _ _ z => by cases z)⟩
    refine ⟨_, rfl, _, rfl, p, C, dx, _, rfl, hp, L.cl, L.book, (by show 0 < 1000; decide), ?_⟩
    refine ⟨_, rfl, _, rfl, p, C, dx, _, rfl, upd_same, L.cl, L.address, (by show 1 < 1000; decide), ?_⟩
    rw [upd_upd]
    refine ⟨_, rfl, _, rfl, p, C, dx, _, rfl, upd_same, L.cl, L.day, (by show 2 < 1000; decide), ?_⟩
    rw [upd_upd]
    refine ⟨_, rfl, p, C, dx, _, rfl, upd_same, L.cl, L.count, (by show 3 < 1000; decide), ?_⟩
    rw [upd_upd]
    intro kn hkn
    have npk : p ≠ kn := fun z => by
      subst z
      rw [upd_same] at hkn
      cases hkn
    have hkn0 : H kn = none := by rw [upd_ne npk.symm] at hkn; exact hkn
    refine ⟨_, rfl, p, C, dx, _, rfl, (by rw [upd_ne npk, upd_same]), L.cl, L.known, (by show 4 < 1000; decide), ?_⟩
    refine ⟨_, rfl, p, C, dx, _, rfl, upd_same, L.cl, L.is_endless, (by show 5 < 1000; decide), ?_⟩
    rw [upd_upd]
    generalize eH : upd (upd (upd H p _) kn _) p _ = H1
    have kH : ∀ b u, H b = some u → b ≠ p → H1 b = some u := fun b u e nb => by
      rw [← eH, upd_ne nb, upd_ne (ne_of_none e hkn0), upd_ne nb]
      exact e
    have hb1 : BookAt K C_Book H1 bk os := hb.keep hpi nbp kH
    have hp1 : H1 p = some (.ins C dx [("book", .ref bk), ("address", .str x), ("day", .int d), ("count", .int 0), ("known", .ref kn), ("is_endless", .bl false)]) := by
      rw [← eH, upd_same]
      rfl
    have hk1 : H1 kn = some (.dK []) := by rw [← eH, upd_ne npk.symm, upd_same]
    obtain ⟨dy, t, as, b1, b2, b3⟩ := id hb1
    refine ⟨_, rfl, bk, dy, _, rfl, b1, rfl, _, rfl, bk, os, d, rfl, hb1, h30, fun H2 s2 => ?_⟩
    refine ⟨_, rfl, p, C, dx, _, rfl, s2 _ _ hp1, L.cl, L.change, (by show 6 < 1000; decide), ?_⟩
    refine k _ kn hkn0 ⟨⟨dx, upd_same⟩, by rw [upd_ne npk.symm]; exact s2 _ _ hk1⟩ (fun b u e nb => ?_) ⟨_, upd_same⟩
    rw [upd_ne nb]
    exact s2 _ _ (kH b u e nb)
theorem letter_init (T : Top K mg C_Book C_Letter C_Walker C_MailError C_InvalidOrder C_UnknownOrder C_InvalidAddress C_InvalidDay C_InvalidNumber FL) {C : Addr} (L : LCls K C) {f : Addr} {fd : FuncData} (F : Fun K "__init__" "Letter.__init__" s_LetterX_initX f fd) : FnOk P w K mg base CX0 2 f fd ["self", "book", "address", "day"] (spLetterInit K C_Book C) :=
  (letter_initX T L F).imp fun vs H Q E ⟨p, dx, bk, os, x, d, h1, h2, h3, h4, h5, k⟩ => ⟨p, dx, bk, os, x, d, h1, h2, h3, h4, h5, fun H' kn a b c _ => k H' kn a b c⟩
theorem ok_LetterX (T : Top K mg C_Book C_Letter C_Walker C_MailError C_InvalidOrder C_UnknownOrder C_InvalidAddress C_InvalidDay C_InvalidNumber FL) : IFn P w K mg base CX0 2 C_Letter "Letter" (spLetterInitX K C_Book C_Letter) := T.d_LetterX_initX.fn fun f fd F => letter_initX T (lcls T) F
theorem ok_Letter (T : Top K mg C_Book C_Letter C_Walker C_MailError C_InvalidOrder C_UnknownOrder C_InvalidAddress C_InvalidDay C_InvalidNumber FL) : IFn P w K mg base CX0 2 C_Letter "Letter" (spLetterInit K C_Book C_Letter) := T.d_LetterX_initX.fn fun f fd F => letter_init T (lcls T) F
def spOrderNowX (K : PySem.W.Frag) (CB CL : Addr) : Sp := fun vs H Q _ => ∃ p dx bk os x d n kn e c ext, vs = [.ref p] ∧ H p = some (.ins CL dx (lf bk x d n kn e c ++ ext)) ∧ BookAt K CB H bk os ∧ ∀ H', Same H H' → Q (optI (ordFor os x d)) H'
def spOrderNow (K : PySem.W.Frag) (CB CL : Addr) : Sp := fun vs H Q _ => ∃ p kn kvs bk os x d n e c, vs = [.ref p] ∧ LetterAt CL H p kn kvs bk x d n e c ∧ BookAt K CB H bk os ∧ ∀ H', Same H H' → Q (optI (ordFor os x d)) H'
theorem letter_order_now (T : Top K mg C_Book C_Letter C_Walker C_MailError C_InvalidOrder C_UnknownOrder C_InvalidAddress C_InvalidDay C_InvalidNumber FL) {C : Addr} (L : LCls K C) {f : Addr} {fd : FuncData} (F : Fun K "order_now" "Letter.order_now" s_Letter_order_now f fd) : FnOk P w K mg base CX0 2 f fd ["self"] (spOrderNowX K C_Book C) := by
  have M_Book_order_for : MFn P w K mg base CX0 1 C_Book "order_for" (spOrderFor K C_Book) := ok_order_for T
  refine F.ok sc_Letter_order_now (fun vs H Q E h => ?_) (fun cdv A outer s H vs Q E hr h => ?_)
  · obtain ⟨p, dx, bk, os, x, d, n, kn, e, c, ext, rfl, _⟩ := h
    rfl
  · obtain ⟨p, dx, bk, os, x, d, n, kn, e, c, ext, rfl, h1, hb, k⟩ := h
    refine ⟨_, (pss_one (ps_ret (pe_m M_Book_order_for T.cl_Book (hr.mono (by decide)) (pe_fld (pv 0) rfl) (pa_cons (pe_fld (pv 0) rfl) (pa_cons (pe_fld (pv 0) rfl) pa_nil))))), ?_⟩
    obtain ⟨dy, t, as, b1, b2, b3⟩ := id hb
    refine ⟨_, rfl, p, C, dx, _, _, rfl, h1, L.cl, L.book, rfl, bk, dy, _, rfl, b1, rfl, ?_⟩
    refine ⟨_, rfl, p, C, dx, _, _, rfl, h1, L.cl, L.address, rfl, _, rfl, p, C, dx, _, _, rfl, h1, L.cl, L.day, rfl, ?_⟩
    exact ⟨bk, os, x, d, rfl, hb, k⟩
theorem ok_order_now (T : Top K mg C_Book C_Letter C_Walker C_MailError C_InvalidOrder C_UnknownOrder C_InvalidAddress C_InvalidDay C_InvalidNumber FL) : MFn P w K mg base CX0 2 C_Letter "order_now" (spOrderNow K C_Book C_Letter) := T.d_Letter_order_now.fn fun f fd F =>
  (letter_order_now T (lcls T) F).imp fun vs H Q E ⟨p, kn, kvs, bk, os, x, d, n, e, c, h1, ⟨⟨dx, h2⟩, _⟩, hb, k⟩ => ⟨p, dx, bk, os, x, d, n, kn, e, optZ c, [], h1, h2, hb, k⟩
end

end MF
set_option Elab.async false
set_option linter.all false
set_option maxRecDepth 100000
set_option maxHeartbeats 2000000
set_option pp.maxSteps 600
namespace MF
open PySem PySem.Spec PyProof.Rows L2 StX
section
variable {P : Program} {w : World} {K : PySem.W.Frag} {mg : Str → Option Value} {base : Heap} {C_Book C_Letter C_Walker C_MailError C_InvalidOrder C_UnknownOrder C_InvalidAddress C_InvalidDay C_InvalidNumber : Addr} {FL : Str}
def stepCh (os : List Ordr) (c : Option Int) (d : Int) : Option Int := match c with
  | none => none
  | some m => if m ≤ d then nextCh os d else some m
def resets (c : Option Int) (d : Int) : Bool := match c with
  | none => false
  | some m => decide (m ≤ d)
def spStep (K : PySem.W.Frag) (CB CL : Addr) : Sp := fun vs H Q _ => ∃ p kn kvs bk os x d n e c, vs = [.ref p] ∧ LetterAt CL H p kn kvs bk x d n e c ∧ BookAt K CB H bk os ∧ os.length ≤ 30 ∧ bk ≠ p ∧
  (ordFor os x d = none → ∀ H', Same H H' → Q (.bl false) H') ∧
  (∀ i o, ordFor os x d = some i → os[i]? = some o → ∀ H' kn', (resets c (d + o.way) = false → kn' = kn) → (resets c (d + o.way) = true → H kn' = none) →
    LetterAt CL H' p kn' (if resets c (d + o.way) = true then [] else kvs) bk o.tgt (d + o.way) (n + 1) e (stepCh os c (d + o.way)) → (∀ b u, H b = some u → b ≠ p → H' b = some u) → Q (.bl true) H')
def spStepX (K : PySem.W.Frag) (CB CL : Addr) : Sp := fun vs H Q _ => ∃ p kn kvs bk os x d n e c, vs = [.ref p] ∧ LetterAt CL H p kn kvs bk x d n e c ∧ BookAt K CB H bk os ∧ os.length ≤ 30 ∧ bk ≠ p ∧
  (ordFor os x d = none → ∀ H', Same H H' → Q (.bl false) H') ∧
  (∀ i o, ordFor os x d = some i → os[i]? = some o → ∀ H' kn', (resets c (d + o.way) = false → kn' = kn) → (resets c (d + o.way) = true → H kn' = none) →
    LetterAt CL H' p kn' (if resets c (d + o.way) = true then [] else kvs) bk o.tgt (d + o.way) (n + 1) e (stepCh os c (d + o.way)) → (∀ b u, H b = some u → b ≠ p → H' b = some u) → (∀ dx fs, H p = some (.ins CL dx fs) → ∃ fs', H' p = some (.ins CL dx fs')) → Q (.bl true) H')
theorem ok_stepX (T : Top K mg C_Book C_Letter C_Walker C_MailError C_InvalidOrder C_UnknownOrder C_InvalidAddress C_InvalidDay C_InvalidNumber FL) : MFn P w K mg base CX0 3 C_Letter "step" (spStepX K C_Book C_Letter) := by
  have M_Book_next_change : MFn P w K mg base CX0 1 C_Book "next_change" (spNextChange K C_Book) := ok_next_change T
  have M_Letter_order_now : MFn P w K mg base CX0 2 C_Letter "order_now" (spOrderNow K C_Book C_Letter) := ok_order_now T
  refine T.d_Letter_step.fn fun f fd F => F.ok sc_Letter_step (fun vs H Q E h => ?_) (fun cdv A outer s H vs Q E hr h => ?_)
  · obtain ⟨p, kn, kvs, bk, os, x, d, n, e, c, rfl, _⟩ := h
    rfl
  · obtain ⟨p, kn, kvs, bk, os, x, d, n, e, c, rfl, L, hb, h30, nbp, k0, k1⟩ := h
    refine ⟨_, (pss_cons (ps_set (i := 1) sc_Letter_step.nd rfl (Or.inl rfl) (pe_m0 M_Letter_order_now T.cl_Letter (hr.mono (by decide)) (pv 0)))
  (pss_cons (ps_if (pt_cmpR op_isN (pv 1) pe_non (nomark _))
  (pss_one (ps_ret pe_bl))
  pss_nil)
  (pss_cons (ps_asg (pe_ix ix_tup (pe_fld (pe_fld (pv 0) rfl) rfl) (pv 1) (fun _ _ => rfl)) (pg_tup rfl (pgs_cons (pg_name (i := 2) sc_Letter_step.nd rfl (Or.inl rfl)) (pgs_cons (pg_name (i := 3) sc_Letter_step.nd rfl (Or.inl rfl)) (pgs_cons (pg_name (i := 4) sc_Letter_step.nd rfl (Or.inl rfl)) (pgs_cons (pg_name (i := 5) sc_Letter_step.nd rfl (Or.inl rfl)) (pgs_cons (pg_name (i := 6) sc_Letter_step.nd rfl (Or.inl rfl)) pgs_nil)))))))
  (pss_cons (ps_fld (pv 0) (pv 3) rfl)
  (pss_cons (ps_fldaug (pv 0) (pv 6) in_add)
  (pss_cons (ps_fldaug (pv 0) pe_int in_add)
  (pss_cons (ps_if (PW.pt (pw_and (pt_cmpR op_notN (pe_fld (pv 0) rfl) pe_non (nomark _)) (pw_and1 (pt_cmpR op_ge (pe_fld (pv 0) rfl) (pe_fld (pv 0) rfl) (nomark _)))))
  (pss_cons (ps_fld (pv 0) pe_dnewK rfl)
  (pss_one (ps_fld (pv 0) (pe_m M_Book_next_change T.cl_Book (hr.mono (by decide)) (pe_fld (pv 0) rfl) (pa_cons (pe_fld (pv 0) rfl) pa_nil)) rfl)))
  pss_nil)
  (pss_one (ps_ret pe_bl))))))))), ?_⟩
    obtain ⟨⟨dx, h1⟩, h2⟩ := id L
    have npk := L.ne
    refine ⟨_, rfl, p, dx, _, rfl, h1, rfl, p, kn, kvs, bk, os, x, d, n, e, c, rfl, L, hb, fun H1 s1 => ?_⟩
    cases eo : ordFor os x d with
    | none =>
      refine ⟨_, rfl, rfl, _, rfl, ?_⟩
      exact iteD rfl (k0 eo H1 s1)
    | some i =>
      obtain ⟨o, ei, _⟩ := ordFor_some eo
      refine ⟨_, rfl, rfl, _, rfl, ?_⟩
      refine iteDN (by intro z; cases z) ?_
      have hb1 := hb.mono s1
      obtain ⟨dy, t, as, b1, b2, b3⟩ := id hb1
      have la : as.length = os.length := PySem.Paired.length b3
      have hi : i < as.length := by rw [la]; exact (List.getElem?_eq_some_iff.mp ei).1
      obtain ⟨a, ea⟩ : ∃ a, as[i]? = some a := ⟨as[i], by simp [hi]⟩
      obtain ⟨o', eo', oa⟩ := Paired.get b3 ea
      rw [ei] at eo'
      cases eo'
      have hp1 := s1 _ _ h1
      refine ⟨_, rfl, p, C_Letter, dx, _, _, rfl, hp1, T.cl_Letter, T.n_Letter_book, rfl, bk, C_Book, dy, _, _, rfl, b1, T.cl_Book, T.n_Book_listed, rfl, _, rfl, t, _, _, _, rfl, rfl, b2, atI_nat (by rw [List.getElem?_map, ea]; rfl), ?_⟩
      refine ⟨a, o.vals, rfl, oa, rfl, _, _, rfl, _, _, rfl, _, _, rfl, _, _, rfl, _, _, rfl, rfl, ?_⟩
      refine ⟨_, rfl, _, rfl, p, C_Letter, dx, _, rfl, hp1, T.cl_Letter, T.n_Letter_address, (by show 7 < 1000; decide), ?_⟩
      refine ⟨_, rfl, p, C_Letter, dx, _, _, rfl, upd_same, T.cl_Letter, T.n_Letter_day, rfl, _, rfl, _, _, rfl, rfl, dx, _, upd_same, (by show 7 < 1000; decide), ?_⟩
      rw [upd_upd]
      refine ⟨_, rfl, p, C_Letter, dx, _, _, rfl, upd_same, T.cl_Letter, T.n_Letter_count, rfl, _, _, rfl, rfl, dx, _, upd_same, (by show 7 < 1000; decide), ?_⟩
      rw [upd_upd]
      generalize eH : upd H1 p _ = H2
      have hp2 : H2 p = some (.ins C_Letter dx (lf bk o.tgt (d + o.way) (n + 1) kn e (optZ c))) := by rw [← eH, upd_same]; rfl
      have k2 : ∀ b u, H b = some u → b ≠ p → H2 b = some u := fun b u e nb => by rw [← eH, upd_ne nb]; exact s1 _ _ e
      have hk2 : H2 kn = some (.dK kvs) := k2 _ _ h2 npk.symm
      have hpi : ∃ o, H p = some o ∧ (∀ xs, o ≠ HO.tup xs) ∧ (∀ u xs, o ≠ HO.frz u (.tup xs)) := ⟨_, h1, (fun _ z => by cases z), (fun _ _ z => by cases z)⟩
      have hb2 : BookAt K C_Book H2 bk os := hb.keep hpi nbp k2
      refine ⟨_, rfl, p, C_Letter, dx, _, _, rfl, hp2, T.cl_Letter, T.n_Letter_change, rfl, rfl, _, rfl, ?_⟩
      cases c with
      | none =>
        refine iteF ?_
        exact k1 i o eo ei H2 kn (fun _ => rfl) (fun z => by cases z) ⟨⟨dx, hp2⟩, hk2⟩ k2 fun dx' fs' z => by rw [h1] at z; cases z; exact ⟨_, hp2⟩
      | some m =>
        refine iteT ?_
        refine ⟨_, rfl, p, C_Letter, dx, _, _, rfl, hp2, T.cl_Letter, T.n_Letter_day, rfl, _, rfl, p, C_Letter, dx, _, _, rfl, hp2, T.cl_Letter, T.n_Letter_change, rfl, _, _, rfl, rfl, _, rfl, ?_⟩
        refine ite2 (fun c1 => ?_) (fun c1 => ?_)
        · have c1' : m ≤ d + o.way := of_decide_eq_true c1
          have er : resets (some m) (d + o.way) = true := c1
          intro kn' hkn'
          have npk' : p ≠ kn' := ne_of_none hp2 hkn'
          have hkn0 : H kn' = none := by
            cases q : H kn' with
            | none => rfl
            | some u => rw [k2 _ _ q npk'.symm] at hkn'; cases hkn'
          refine ⟨_, rfl, p, C_Letter, dx, _, rfl, (by rw [upd_ne npk']; exact hp2), T.cl_Letter, T.n_Letter_known, (by show 7 < 1000; decide), ?_⟩
          generalize eH3 : upd (upd H2 kn' _) p _ = H3
          have hp3 : H3 p = some (.ins C_Letter dx (lf bk o.tgt (d + o.way) (n + 1) kn' e (optZ (some m)))) := by rw [← eH3, upd_same]; rfl
          have k3 : ∀ b u, H b = some u → b ≠ p → H3 b = some u := fun b u e nb => by rw [← eH3, upd_ne nb, upd_ne (ne_of_none e hkn0)]; exact k2 _ _ e nb
          have hk3 : H3 kn' = some (.dK []) := by rw [← eH3, upd_ne npk'.symm, upd_same]
          have hb3 : BookAt K C_Book H3 bk os := hb.keep hpi nbp k3
          obtain ⟨dz, t3, as3, b13, b23, b33⟩ := id hb3
          refine ⟨_, rfl, p, C_Letter, dx, _, _, rfl, hp3, T.cl_Letter, T.n_Letter_book, rfl, bk, dz, _, rfl, b13, rfl, _, rfl, p, C_Letter, dx, _, _, rfl, hp3, T.cl_Letter, T.n_Letter_day, rfl, bk, os, d + o.way, rfl, hb3, h30, fun H4 s4 => ?_⟩
          refine ⟨_, rfl, p, C_Letter, dx, _, rfl, s4 _ _ hp3, T.cl_Letter, T.n_Letter_change, (by show 7 < 1000; decide), ?_⟩
          have ec : stepCh os (some m) (d + o.way) = nextCh os (d + o.way) := by simp [stepCh, c1']
          refine k1 i o eo ei _ kn' (fun z => by rw [er] at z; cases z) (fun _ => hkn0) ⟨⟨dx, ?_⟩, ?_⟩ (fun b u e nb => ?_) (fun dx' fs' z => by rw [h1] at z; cases z; exact ⟨_, upd_same⟩)
          · rw [upd_same, ec]
            rfl
          · rw [upd_ne npk'.symm, if_pos er]
            exact s4 _ _ hk3
          · rw [upd_ne nb]
            exact s4 _ _ (k3 b u e nb)
        · have c1' : ¬ m ≤ d + o.way := fun z => c1 (decide_eq_true z)
          have er : resets (some m) (d + o.way) = false := decide_eq_false c1'
          have ec : stepCh os (some m) (d + o.way) = some m := by simp [stepCh, c1']
          refine k1 i o eo ei H2 kn (fun _ => rfl) (fun z => by rw [er] at z; cases z) ⟨⟨dx, ?_⟩, ?_⟩ k2 (fun dx' fs' z => by rw [h1] at z; cases z; exact ⟨_, hp2⟩)
          · rw [ec]
            exact hp2
          · rw [if_neg (by rw [er]; exact Bool.false_ne_true)]
            exact hk2
theorem ok_step (T : Top K mg C_Book C_Letter C_Walker C_MailError C_InvalidOrder C_UnknownOrder C_InvalidAddress C_InvalidDay C_InvalidNumber FL) : MFn P w K mg base CX0 3 C_Letter "step" (spStep K C_Book C_Letter) := (ok_stepX T).imp fun vs H Q E ⟨p, kn, kvs, bk, os, x, d, n, e, c, h1, h2, h3, h4, h5, k0, k1⟩ =>
  ⟨p, kn, kvs, bk, os, x, d, n, e, c, h1, h2, h3, h4, h5, k0, fun i o a b H' kn' r1 r2 L k _ => k1 i o a b H' kn' r1 r2 L k⟩
end

end MF
set_option Elab.async false
set_option linter.all false
set_option maxRecDepth 100000
set_option maxHeartbeats 2000000
set_option pp.maxSteps 600
namespace MF
open PySem PySem.Spec PyProof.Rows L2 StX
section
variable {P : Program} {w : World} {K : PySem.W.Frag} {mg : Str → Option Value} {base : Heap} {C_Book C_Letter C_Walker C_MailError C_InvalidOrder C_UnknownOrder C_InvalidAddress C_InvalidDay C_InvalidNumber : Addr} {FL : Str}
def spSkip (CL : Addr) : Sp := fun vs H Q _ => ∃ p kn kvs bk x d n e c, vs = [.ref p] ∧ LetterAt CL H p kn kvs bk x d n e c ∧ kvs.length < 1000 ∧
  (valV kvs (.inr x : Key) = none → ∀ H' t, H t = none → LetterAt CL H' p kn (putK kvs (.inr x) (.ref t)) bk x d n e c → H' t = some (.tup [.int d, .int n]) → (∀ b u, H b = some u → b ≠ kn → H' b = some u) → Q .non H') ∧
  (∀ v, valV kvs (.inr x : Key) = some v → ∃ t1 d1 c1, v = .ref t1 ∧ H t1 = some (.tup [.int d1, .int c1]) ∧
    (c = none → ∀ H' kn' t, H kn' = none → H t = none → LetterAt CL H' p kn' [(.inr x, .ref t)] bk x d n true none → H' t = some (.tup [.int d, .int n]) → (∀ b u, H b = some u → b ≠ p → H' b = some u) → Q .non H') ∧
    (∀ m, c = some m → d1 < d ∧ d - d1 < 2 ^ 62 ∧ d < m ∧ m - d < 2 ^ 62 ∧ ∀ H' kn' t, H kn' = none → H t = none →
      LetterAt CL H' p kn' [(.inr x, .ref t)] bk x (d + (m - 1 - d) / (d - d1) * (d - d1)) (n + (m - 1 - d) / (d - d1) * (n - c1)) e c →
      H' t = some (.tup [.int (d + (m - 1 - d) / (d - d1) * (d - d1)), .int (n + (m - 1 - d) / (d - d1) * (n - c1))]) → (∀ b u, H b = some u → b ≠ p → H' b = some u) → Q .non H'))
theorem ok_skip (T : Top K mg C_Book C_Letter C_Walker C_MailError C_InvalidOrder C_UnknownOrder C_InvalidAddress C_InvalidDay C_InvalidNumber FL) : MFn P w K mg base CX0 1 C_Letter "skip" (spSkip C_Letter) := by
  refine T.d_Letter_skip.fn fun f fd F => F.ok sc_Letter_skip (fun vs H Q E h => ?_) (fun cdv A outer s H vs Q E hr h => ?_)
  · obtain ⟨p, kn, kvs, bk, x, d, n, e, c, rfl, _⟩ := h
    rfl
  · obtain ⟨p, kn, kvs, bk, x, d, n, e, c, rfl, L, hl, k0, k1⟩ := h
    have hu := hu_of hr
    refine ⟨_, (C8.pss_cut (ps_if (pt_cmp (pc_din hu (pe_fld (pv 0) rfl) (pe_fld (pv 0) rfl)))
  (pss_cons (ps_if (pt_cmpR op_isN (pe_fld (pv 0) rfl) pe_non (nomark _))
  (pss_one (ps_fld (pv 0) pe_bl rfl))
  (pss_cons (ps_asg (pe_dget hu (pe_fld (pv 0) rfl) (pe_fld (pv 0) rfl) (fun _ _ => rfl)) (pg_tup rfl (pgs_cons (pg_name (i := 1) sc_Letter_skip.nd rfl (Or.inl rfl)) (pgs_cons (pg_name (i := 2) sc_Letter_skip.nd rfl (Or.inl rfl)) pgs_nil))))
  (pss_cons (ps_set (i := 3) sc_Letter_skip.nd rfl (Or.inl rfl) (pe_op op_fdivW (pe_op op_sub (pe_op op_sub (pe_fld (pv 0) rfl) pe_int) (pe_fld (pv 0) rfl)) (pe_op op_sub (pe_fld (pv 0) rfl) (pv 1))))
  (pss_cons (ps_fldaug (pv 0) (pe_op op_mul (pv 3) (pe_op op_sub (pe_fld (pv 0) rfl) (pv 2))) in_add)
  (pss_one (ps_fldaug (pv 0) (pe_op op_mul (pv 3) (pe_op op_sub (pe_fld (pv 0) rfl) (pv 1))) in_add))))))
  (pss_one (ps_fld (pv 0) pe_dnewK rfl)))
  pss_nil)
  (pss_one (ps_dput hu (pe_fld (pv 0) rfl) (pe_fld (pv 0) rfl) (pe_tup (pa_cons (pe_fld (pv 0) rfl) (pa_cons (pe_fld (pv 0) rfl) pa_nil))) rfl))), ?_⟩
    obtain ⟨⟨dx, h1⟩, h2⟩ := id L
    have npk := L.ne
    refine ⟨fun σ' H' => ∃ kn1 kvs1 d1 n1 e1 v1 v2 v3, σ' = [some (.ref p), v1, v2, v3] ∧ LetterAt C_Letter H' p kn1 kvs1 bk x d1 n1 e1 c ∧ kvs1.length < 1000 ∧
      (∀ H2 t, H' t = none → LetterAt C_Letter H2 p kn1 (putK kvs1 (.inr x) (.ref t)) bk x d1 n1 e1 c → H2 t = some (.tup [.int d1, .int n1]) → (∀ b u, H' b = some u → b ≠ kn1 → H2 b = some u) → Q .non H2), ?_, ?_⟩
    · refine ⟨_, rfl, p, C_Letter, dx, _, _, rfl, h1, T.cl_Letter, T.n_Letter_address, rfl, _, rfl, p, C_Letter, dx, _, _, rfl, h1, T.cl_Letter, T.n_Letter_known, rfl, kn, _, rfl, DGet.k (k := Sum.inr x) h2, _, rfl, ?_⟩
      cases ev : valV kvs (Sum.inr x : Key) with
      | none =>
        refine iteF ?_
        exact ⟨kn, kvs, d, n, e, _, _, _, rfl, L, hl, k0 ev⟩
      | some v =>
        refine iteT ?_
        obtain ⟨t1, d1, c1, rfl, ht1, ka, kb⟩ := k1 v ev
        refine ⟨_, rfl, p, C_Letter, dx, _, _, rfl, h1, T.cl_Letter, T.n_Letter_change, rfl, rfl, _, rfl, ?_⟩
        cases c with
        | none =>
          refine iteD rfl ?_
          refine ⟨_, rfl, p, C_Letter, dx, _, rfl, h1, T.cl_Letter, T.n_Letter_is_endless, (by show 7 < 1000; decide), ?_⟩
          intro kn' hkn'
          have npk' : p ≠ kn' := ne_of_none (o := _) upd_same hkn'
          rw [upd_ne npk'.symm] at hkn'
          refine ⟨_, rfl, p, C_Letter, dx, _, rfl, (by rw [upd_ne npk', upd_same]), T.cl_Letter, T.n_Letter_known, (by show 7 < 1000; decide), ?_⟩
          generalize eH : upd (upd (upd H p _) kn' _) p _ = H1
          have hp1 : H1 p = some (.ins C_Letter dx (lf bk x d n kn' true (optZ none))) := by rw [← eH, upd_same]; rfl
          have hk1 : H1 kn' = some (.dK []) := by rw [← eH, upd_ne npk'.symm, upd_same]
          have kH : ∀ b u, H b = some u → b ≠ p → H1 b = some u := fun b u q nb => by rw [← eH, upd_ne nb, upd_ne (ne_of_none q hkn'), upd_ne nb]; exact q
          refine ⟨kn', [], d, n, true, _, _, _, rfl, ⟨⟨dx, hp1⟩, hk1⟩, (by show 0 < 1000; decide), fun H2 t ht L2 et kk => ?_⟩
          have ht0 : H t = none := by
            cases q : H t with
            | none => rfl
            | some u =>
              by_cases z : t = p
              · rw [z, hp1] at ht; cases ht
              · rw [kH _ _ q z] at ht; cases ht
          exact ka rfl H2 kn' t hkn' ht0 L2 et fun b u q nb => kk b u (kH b u q nb) (ne_of_none q hkn')
        | some m =>
          obtain ⟨g1, g2, g3, g4, kc⟩ := kb m rfl
          refine iteDN (by intro z; cases z) ?_
          refine ⟨_, rfl, p, C_Letter, dx, _, _, rfl, h1, T.cl_Letter, T.n_Letter_known, rfl, _, rfl, p, C_Letter, dx, _, _, rfl, h1, T.cl_Letter, T.n_Letter_address, rfl, kn, _, rfl, (by have := DGet.k (k := Sum.inr x) h2; rw [ev] at this; exact this), ?_⟩
          refine ⟨t1, _, rfl, .inl (.inl ht1), rfl, _, _, rfl, _, _, rfl, rfl, ?_⟩
          refine ⟨_, rfl, p, C_Letter, dx, _, _, rfl, h1, T.cl_Letter, T.n_Letter_change, rfl, _, _, rfl, rfl, _, rfl, p, C_Letter, dx, _, _, rfl, h1, T.cl_Letter, T.n_Letter_day, rfl, _, _, rfl, rfl, _, rfl, p, C_Letter, dx, _, _, rfl, h1, T.cl_Letter, T.n_Letter_day, rfl, _, rfl, _, _, rfl, rfl, _, _, rfl, rfl, ?_, ?_⟩
          · exact wide_div (b := 62) (by omega) (by omega) (by decide) (by decide)
          generalize eq : (m - 1 - d) / (d - d1) = q at kc ⊢
          have q0 : 0 ≤ q := by rw [← eq]; exact Int.ediv_nonneg (by omega) (by omega)
          have q1 : q ≤ m - 1 - d := by rw [← eq]; exact Int.ediv_le_self _ (by omega)
          refine ⟨_, rfl, p, C_Letter, dx, _, _, rfl, h1, T.cl_Letter, T.n_Letter_count, rfl, _, rfl, _, rfl, p, C_Letter, dx, _, _, rfl, h1, T.cl_Letter, T.n_Letter_count, rfl, _, rfl, _, _, rfl, rfl, _, _, rfl, rfl, .inl ⟨by omega, by omega⟩, _, _, rfl, rfl, dx, _, h1, (by show 7 < 1000; decide), ?_⟩
          refine ⟨_, rfl, p, C_Letter, dx, _, _, rfl, upd_same, T.cl_Letter, T.n_Letter_day, rfl, _, rfl, _, rfl, p, C_Letter, dx, _, _, rfl, upd_same, T.cl_Letter, T.n_Letter_day, rfl, _, rfl, _, _, rfl, rfl, _, _, rfl, rfl, .inl ⟨by omega, by omega⟩, _, _, rfl, rfl, dx, _, upd_same, (by show 7 < 1000; decide), ?_⟩
          rw [upd_upd]
          intro kn' hkn'
          have npk' : p ≠ kn' := ne_of_none (o := _) upd_same hkn'
          rw [upd_ne npk'.symm] at hkn'
          refine ⟨_, rfl, p, C_Letter, dx, _, rfl, (by rw [upd_ne npk', upd_same]), T.cl_Letter, T.n_Letter_known, (by show 7 < 1000; decide), ?_⟩
          generalize eH : upd (upd (upd H p _) kn' _) p _ = H1
          have hp1 : H1 p = some (.ins C_Letter dx (lf bk x (d + q * (d - d1)) (n + q * (n - c1)) kn' e (optZ (some m)))) := by rw [← eH, upd_same, ← eq]; rfl
          have hk1 : H1 kn' = some (.dK []) := by rw [← eH, upd_ne npk'.symm, upd_same]
          have kH : ∀ b u, H b = some u → b ≠ p → H1 b = some u := fun b u q nb => by rw [← eH, upd_ne nb, upd_ne (ne_of_none q hkn'), upd_ne nb]; exact q
          refine ⟨kn', [], _, _, e, _, _, _, rfl, ⟨⟨dx, hp1⟩, hk1⟩, (by show 0 < 1000; decide), fun H2 t ht L2 et kk => ?_⟩
          have ht0 : H t = none := by
            cases q : H t with
            | none => rfl
            | some u =>
              by_cases z : t = p
              · rw [z, hp1] at ht; cases ht
              · rw [kH _ _ q z] at ht; cases ht
          exact kc H2 kn' t hkn' ht0 L2 et fun b u q nb => kk b u (kH b u q nb) (ne_of_none q hkn')
    · rintro σ' H1 ⟨kn1, kvs1, d1, n1, e1, v1, v2, v3, rfl, ⟨⟨dy, g1⟩, g2⟩, gl, kk⟩
      refine ⟨_, rfl, p, C_Letter, dy, _, _, rfl, g1, T.cl_Letter, T.n_Letter_day, rfl, _, rfl, p, C_Letter, dy, _, _, rfl, g1, T.cl_Letter, T.n_Letter_count, rfl, (by show 2 ≤ sizeLine; decide), fun t ht => ?_⟩
      have npt : p ≠ t := ne_of_none g1 ht
      have nkt : kn1 ≠ t := ne_of_none g2 ht
      have npk1 : p ≠ kn1 := ne_of g1 g2 (by intro z; cases z)
      refine ⟨_, rfl, p, C_Letter, dy, _, _, rfl, (by rw [upd_ne npt]; exact g1), T.cl_Letter, T.n_Letter_known, rfl, _, rfl, p, C_Letter, dy, _, _, rfl, (by rw [upd_ne npt]; exact g1), T.cl_Letter, T.n_Letter_address, rfl, kn1, _, rfl, DPut.k (k := Sum.inr x) (by rw [upd_ne nkt]; exact g2) (small1000 (by omega)), ?_⟩
      refine kk _ t ht ⟨⟨dy, by rw [upd_ne npk1, upd_ne npt]; exact g1⟩, upd_same⟩ (by rw [upd_ne nkt.symm, upd_same]) fun b u q nb => ?_
      rw [upd_ne nb, upd_ne (ne_of_none q ht)]
      exact q
end

end MF
set_option Elab.async false
set_option linter.all false
set_option maxRecDepth 100000
set_option maxHeartbeats 2000000
set_option pp.maxSteps 600
namespace MF
open PySem PySem.Spec PyProof.Rows L2 StX
section
variable {P : Program} {w : World} {K : PySem.W.Frag} {mg : Str → Option Value} {base : Heap} {C_Book C_Letter C_Walker C_MailError C_InvalidOrder C_UnknownOrder C_InvalidAddress C_InvalidDay C_InvalidNumber : Addr} {FL : Str}
def tupl : HO → Bool
  | .tup _ => true
  | .frz _ (.tup _) => true
  | _ => false
theorem BookAt.kept {C : Addr} {H H' : Hp} {p : Addr} {os : List Ordr} (h : BookAt K C H p os) (hp : ∀ u, H p = some u → H' p = some u) (ht : ∀ b u, H b = some u → tupl u = true → H' b = some u) : BookAt K C H' p os := by
  obtain ⟨dx, t, as, h1, h2, h3⟩ := h
  have tp : ∀ a xs, SqT K H a xs → SqT K H' a xs := fun a xs z => by
    rcases z with (z | ⟨u, z⟩) | z
    · exact .inl (.inl (ht _ _ z rfl))
    · exact .inl (.inr ⟨u, ht _ _ z rfl⟩)
    · exact .inr z
  exact ⟨dx, t, as, hp _ h1, tp _ _ h2, PySem.Paired.mono (fun a o z => tp a _ z) h3⟩
theorem nodup_len {α : Type} [DecidableEq α] : ∀ {l m : List α}, l.Nodup → (∀ a ∈ l, a ∈ m) → l.length ≤ m.length
  | [], _, _, _ => Nat.zero_le _
  | a :: l, m, hn, hs => by
    have ha : a ∈ m := hs a (by simp)
    have hn' := List.nodup_cons.mp hn
    have := nodup_len (l := l) (m := m.erase a) hn'.2 fun b hb => by
      have hne : b ≠ a := fun z => hn'.1 (z ▸ hb)
      exact (List.mem_erase_of_ne hne).mpr (hs b (by simp [hb]))
    rw [List.length_erase_of_mem ha] at this
    have : 0 < m.length := List.length_pos_of_mem ha
    simp only [List.length_cons]
    omega
theorem none_none {os : List Ordr} {x : Str} {d : Int} (h : nextCh os d = none) : ordFor os x d = none := by
  have h0 := leastOf_none.mp h
  refine ordFor_none fun o ho => ?_
  have : ¬ d ≤ o.last := fun q => by
    have hm : o.last + 1 ∈ changes os d := mem_changes.mpr ⟨by omega, o, ho, .inr rfl⟩
    rw [h0] at hm
    cases hm
  simp [holds, this]
theorem nextCh_le {os : List Ordr} (g : Good os) {d c : Int} (h : nextCh os d = some c) : c ≤ 1000000000000000001 := by
  obtain ⟨_, o, ho, hc⟩ := mem_changes.mp (leastOf_some.mp h).1
  have := (g.ok o ho).lm
  have := (g.ok o ho).fl
  omega
structure LInv (K : PySem.W.Frag) (CB CL : Addr) (os : List Ordr) (nm : List Str) (N : Int) (t : Pt) (q : Bool) (m : Nat) (H : Hp) (p kn : Addr) (kvs : List (Key × V)) (bk : Addr) (x : Str) (d n : Int) (c : Option Int) : Prop where
  la : LetterAt CL H p kn kvs bk x d n false c
  ba : BookAt K CB H bk os
  ch : c = nextCh os d
  d0 : 0 ≤ d
  dm : d ≤ 1000000000000000030
  en : Ends os (x, d) m t
  tot : n + m = N
  mem : x ∈ nm
  nd : (kvs.map (·.1)).Nodup
  sub : ∀ kv ∈ kvs, ∃ a ∈ nm, kv.1 = .inr a
  val : ∀ a v, valV kvs (.inr a : Key) = some v → ∃ t1 d1 c1, ∃ k : Nat, v = .ref t1 ∧ H t1 = some (.tup [.int d1, .int c1]) ∧ nextCh os d1 = c ∧ Go os (a, d1) k (x, d) ∧ n = c1 + k ∧ 0 ≤ d1 ∧ (q = true → 1 ≤ k)
section
variable {os : List Ordr} {nm : List Str} {N : Int} {t : Pt} {m : Nat} {H : Hp} {p kn bk : Addr} {kvs : List (Key × V)} {x : Str} {d n : Int} {c : Option Int} {q : Bool}
theorem LInv.small (I : LInv K C_Book C_Letter os nm N t q m H p kn kvs bk x d n c) (h : nm.length ≤ 31) : kvs.length < 1000 := by
  have := nodup_len (m := nm.map Sum.inr) I.nd fun k hk => by
    obtain ⟨kv, h1, rfl⟩ := List.mem_map.mp hk
    obtain ⟨a, h2, h3⟩ := I.sub kv h1
    rw [h3]
    exact List.mem_map.mpr ⟨a, h2, rfl⟩
  rw [List.length_map, List.length_map] at this
  omega
def SkipI (os : List Ordr) (H H' : Hp) (kvs kvs' : List (Key × V)) (x : Str) (d d' : Int) : Prop :=
  (d' = d ∧ valV kvs (.inr x : Key) = none ∧ ∃ t1 c1, kvs' = putK kvs (.inr x) (.ref t1) ∧ H t1 = none ∧ H' t1 = some (.tup [.int d, c1])) ∨
  ∃ t1 d1 c1 k1 t2 c2 hi, valV kvs (.inr x : Key) = some (.ref t1) ∧ H t1 = some (.tup [.int d1, c1]) ∧ 1 ≤ k1 ∧ Go os (x, d1) k1 (x, d) ∧ (∀ c' ∈ changes os d1, hi < c') ∧ d ≤ d' ∧ d' ≤ hi ∧ hi - d' < d - d1 ∧ nextCh os d = some (hi + 1) ∧ (∃ m, Go os (x, d) m (x, d')) ∧ kvs' = [(.inr x, .ref t2)] ∧ H' t2 = some (.tup [.int d', c2])
theorem LInv.skip (g : Good os) (hnm : nm.length ≤ 31) (nbp : bk ≠ p) (I : LInv K C_Book C_Letter os nm N t true m H p kn kvs bk x d n c) {Q : VK} {E : XK}
    (k : ∀ H' kn' kvs' d' n' m', m' ≤ m → (kn' = kn ∨ H kn' = none) → LInv K C_Book C_Letter os nm N t false m' H' p kn' kvs' bk x d' n' c → (∀ b u, H b = some u → b ≠ p → b ≠ kn → H' b = some u) → SkipI os H H' kvs kvs' x d d' → Q .non H') : spSkip C_Letter [.ref p] H Q E := by
  obtain ⟨⟨dx, h1⟩, h2⟩ := id I.la
  obtain ⟨dy, tb, as, b1, b2, b3⟩ := id I.ba
  have nbk : bk ≠ kn := ne_of b1 h2 (by intro z; cases z)
  have npk := I.la.ne
  refine ⟨p, kn, kvs, bk, x, d, n, false, c, rfl, I.la, I.small hnm, fun ev H' t1 ht1 L et kp => ?_, fun v ev => ?_⟩
  · have nt : ∀ b u, H b = some u → tupl u = true → H' b = some u := fun b u e z => kp b u e fun w => by
      rw [w, h2] at e; cases e; cases z
    refine k H' kn _ d n m (Nat.le_refl _) (.inl rfl) ⟨L, I.ba.kept (fun u e => kp _ _ e nbk) nt, I.ch, I.d0, I.dm, I.en, I.tot, I.mem, ?_, ?_, ?_⟩ (fun b u e _ nb => kp b u e nb) (.inl ⟨rfl, ev, t1, _, rfl, ht1, et⟩)
    · exact nd_putK _ I.nd ev
    · rw [putK_new _ ev]
      intro kv hkv
      rcases List.mem_append.mp hkv with z | z
      · exact I.sub kv z
      · rw [List.mem_singleton.mp z]
        exact ⟨x, I.mem, rfl⟩
    · intro a v hv
      rw [valV_put] at hv
      by_cases ea : (Sum.inr a : Key) = Sum.inr x
      · rw [if_pos ea] at hv
        cases hv
        cases Sum.inr.inj ea
        exact ⟨t1, d, n, 0, rfl, et, I.ch.symm, .refl _, by simp, I.d0, fun z => by cases z⟩
      · rw [if_neg ea] at hv
        obtain ⟨t2, d2, c2, k2, e1, e2, e3, e4, e5, e6, e7⟩ := I.val a v hv
        exact ⟨t2, d2, c2, k2, e1, nt _ _ e2 rfl, e3, e4, e5, e6, fun z => by cases z⟩
  · obtain ⟨t1, d1, c1, k1, e1, e2, e3, e4, e5, e6, e7⟩ := I.val x v ev
    have k1p : 1 ≤ k1 := e7 rfl
    have hday := e4.day g.fine
    simp only at hday
    refine ⟨t1, d1, c1, e1, e2, fun hc => ?_, fun mm hc => ?_⟩
    · exfalso
      rw [hc] at e3
      have h0 : nxt os (x, d1) = none := nxt_none.mpr (none_none e3)
      cases e4 with
      | refl => omega
      | step h _ => rw [h0] at h; cases h
    · subst hc
      have hm1 : nextCh os d = some mm := I.ch.symm
      have gt := nextCh_gt hm1
      have le := nextCh_le g hm1
      have dm := I.dm
      refine ⟨by omega, by omega, gt, by omega, fun H' kn' t2 hk' ht2 L et kp => ?_⟩
      have dpos : 0 < d - d1 := by omega
      generalize eq : (mm - 1 - d) / (d - d1) = qq at L et
      have q0 : 0 ≤ qq := by rw [← eq]; exact Int.ediv_nonneg (by omega) (by omega)
      have qm : qq * (d - d1) ≤ mm - 1 - d := by rw [← eq]; exact Int.ediv_mul_le _ (by omega)
      have qp : 0 ≤ qq * (d - d1) := Int.mul_nonneg q0 (by omega)
      obtain ⟨j, ej⟩ : ∃ j : Nat, qq = (j : Int) := ⟨qq.toNat, by omega⟩
      have cc : ∀ c' ∈ changes os d1, mm - 1 < c' := fun c' hc' => by
        have := (leastOf_some.mp e3).2 c' hc'
        omega
      have go : Go os (x, d) (j * k1) (x, d + qq * (d - d1)) := by
        rw [ej]
        exact Go.rounds g.fine e4 (by omega) cc j (by rw [← ej]; omega)
      obtain ⟨hle, hend⟩ := I.en.after go
      have en1 : n - c1 = (k1 : Int) := by omega
      have etot : qq * (n - c1) = ((j * k1 : Nat) : Int) := by rw [en1, ej]; push_cast; rfl
      have nt : ∀ b u, H b = some u → tupl u = true → H' b = some u := fun b u e z => kp b u e fun w => by
        rw [w, h1] at e; cases e; cases z
      have ech : some mm = nextCh os (d + qq * (d - d1)) := by
        rw [← hm1]
        exact (nextCh_const (by omega) fun c' hc' => by rw [hm1] at hc'; cases hc'; omega).symm
      refine k H' kn' _ _ _ (m - j * k1) (Nat.sub_le _ _) (.inr hk') ⟨L, I.ba.kept (fun u e => kp _ _ e nbp) nt, ech, by have := I.d0; omega, by omega, hend, ?_, I.mem, ?_, ?_, ?_⟩ (fun b u e nb _ => kp b u e nb) (.inr ⟨t1, d1, _, k1, t2, _, mm - 1, by rw [ev, e1], e2, k1p, e4, cc, by omega, by omega, ?_, by rw [hm1]; congr 1; omega, ⟨_, go⟩, rfl, et⟩)
      · rw [etot]
        have := I.tot
        omega
      · simp
      · intro kv hkv
        rw [List.mem_singleton.mp hkv]
        exact ⟨x, I.mem, rfl⟩
      · intro a v' hv
        by_cases ea : (Sum.inr x : Key) = Sum.inr a
        · rw [valV_pos ea] at hv
          cases hv
          cases Sum.inr.inj ea
          exact ⟨t2, _, _, 0, rfl, et, ech.symm, .refl _, by simp, by have := I.d0; omega, fun z => by cases z⟩
        · rw [valV_neg ea] at hv
          cases hv
      · have h3 := Int.emod_lt_of_pos (mm - 1 - d) dpos
        have h4 := Int.mul_ediv_add_emod (mm - 1 - d) (d - d1)
        rw [eq, Int.mul_comm] at h4
        omega
theorem LInv.step (g : Good os) (hnm : ∀ o ∈ os, o.tgt ∈ nm) (nbp : bk ≠ p) (I : LInv K C_Book C_Letter os nm N t false m H p kn kvs bk x d n c) {Q : VK} {E : XK}
    (k0 : m = 0 → t = (x, d) → N = n → ∀ H', Same H H' → Q (.bl false) H')
    (k : ∀ H' kn' kvs' x' d' n' c' m', m = m' + 1 → (kn' = kn ∨ H kn' = none) → LInv K C_Book C_Letter os nm N t true m' H' p kn' kvs' bk x' d' n' c' → (∀ b u, H b = some u → b ≠ p → H' b = some u) → (∃ i o, ordFor os x d = some i ∧ os[i]? = some o ∧ x' = o.tgt ∧ d' = d + o.way ∧ ((kvs' = [] ∧ ∃ mm, nextCh os d = some mm ∧ mm ≤ d') ∨ kvs' = kvs)) → Q (.bl true) H') : spStep K C_Book C_Letter [.ref p] H Q E := by
  obtain ⟨⟨dx, h1⟩, h2⟩ := id I.la
  refine ⟨p, kn, kvs, bk, os, x, d, n, false, c, rfl, I.la, I.ba, g.len, nbp, fun eo H' s => ?_, fun i o eo ei H' kn' z1 z2 L kp => ?_⟩
  · have hn : nxt os (x, d) = none := nxt_none.mpr eo
    have e := I.en
    obtain ⟨a, b⟩ := e
    cases a with
    | refl => exact k0 rfl rfl (by have := I.tot; omega) H' s
    | step h _ => rw [hn] at h; cases h
  · have hn := nxt_of eo ei
    have ho : o ∈ os := List.mem_of_getElem? ei
    obtain ⟨o', ei', hh⟩ := ordFor_some eo
    rw [ei] at ei'
    cases ei'
    simp only [holds, Bool.and_eq_true, decide_eq_true_eq] at hh
    have w1 := (g.ok o ho).w1
    have w30 := (g.ok o ho).w30
    have lm := (g.ok o ho).lm
    obtain ⟨hle, hend⟩ := I.en.after (Go.one hn)
    have d0 := I.d0
    have nt : ∀ b u, H b = some u → tupl u = true → H' b = some u := fun b u e z => kp b u e fun w => by
      rw [w, h1] at e; cases e; cases z
    have ech : stepCh os c (d + o.way) = nextCh os (d + o.way) := by
      rw [I.ch]
      cases hc : nextCh os d with
      | none =>
        have := none_none (x := x) hc
        rw [this] at eo
        cases eo
      | some mm =>
        by_cases hm : mm ≤ d + o.way
        · simp [stepCh, hm]
        · have e1 : nextCh os (d + o.way) = nextCh os d := nextCh_const (by omega) fun c' hc' => by rw [hc] at hc'; cases hc'; omega
          rw [e1, hc]
          simp [stepCh, hm]
    have rs : ((if resets c (d + o.way) = true then [] else kvs) = [] ∧ ∃ mm, nextCh os d = some mm ∧ mm ≤ d + o.way) ∨ (if resets c (d + o.way) = true then [] else kvs) = kvs := by
      cases hr : resets c (d + o.way) with
      | false => exact .inr rfl
      | true =>
        refine .inl ⟨rfl, ?_⟩
        rw [← I.ch]
        cases c with
        | none => cases hr
        | some mm => exact ⟨mm, rfl, of_decide_eq_true hr⟩
    refine k H' kn' _ o.tgt (d + o.way) (n + 1) _ (m - 1) (by omega) ?_ ⟨L, I.ba.kept (fun u e => kp _ _ e nbp) nt, ech, by omega, by omega, hend, by have := I.tot; omega, hnm o ho, ?_, ?_, ?_⟩ kp ⟨i, o, eo, ei, rfl, rfl, rs⟩
    · cases hr : resets c (d + o.way) with
      | false => exact .inl (z1 hr)
      | true => exact .inr (z2 hr)
    · by_cases hr : resets c (d + o.way) = true
      · rw [if_pos hr]; simp
      · rw [if_neg hr]; exact I.nd
    · by_cases hr : resets c (d + o.way) = true
      · rw [if_pos hr]; intro kv hkv; cases hkv
      · rw [if_neg hr]; exact I.sub
    · by_cases hr : resets c (d + o.way) = true
      · rw [if_pos hr]; intro a v hv; cases hv
      · rw [if_neg hr]
        intro a v hv
        obtain ⟨t2, d2, c2, k2, e1, e2, e3, e4, e5, e6, e7⟩ := I.val a v hv
        refine ⟨t2, d2, c2, k2 + 1, e1, nt _ _ e2 rfl, ?_, e4.trans (Go.one hn), by push_cast; omega, e6, fun _ => Nat.succ_pos _⟩
        rw [e3]
        cases c with
        | none => rfl
        | some mm =>
          have hm : ¬ mm ≤ d + o.way := fun z => hr (decide_eq_true z)
          simp [stepCh, hm]
end
end

end MF
set_option Elab.async false
set_option linter.all false
set_option maxRecDepth 100000
set_option maxHeartbeats 2000000
set_option pp.maxSteps 600
namespace MF
open PySem PySem.Spec PyProof.Rows L2 StX
section
variable {P : Program} {w : World} {K : PySem.W.Frag} {mg : Str → Option Value} {base : Heap} {C_Book C_Letter C_Walker C_MailError C_InvalidOrder C_UnknownOrder C_InvalidAddress C_InvalidDay C_InvalidNumber : Addr} {FL : Str}
theorem nilT {σ : L2.St} {H : Hp} {Q : List V → Hp → Prop} (h : Q [] H) : tNil σ H Q := h
def spFinish (K : PySem.W.Frag) (CB CL : Addr) : Sp := fun vs H Q _ => ∃ p kn bk os x d t, ∃ N : Nat, vs = [.ref p] ∧ LetterAt CL H p kn [] bk x d 0 false (nextCh os d) ∧ BookAt K CB H bk os ∧ Good os ∧ 0 ≤ d ∧ d ≤ 1000000000000000000 ∧ bk ≠ p ∧ Ends os (x, d) N t ∧
  ∀ H' kn' kvs' c', LetterAt CL H' p kn' kvs' bk t.1 t.2 N false c' → (∀ b u, H b = some u → b ≠ p → b ≠ kn → H' b = some u) → Q .non H'
theorem ok_finish (T : Top K mg C_Book C_Letter C_Walker C_MailError C_InvalidOrder C_UnknownOrder C_InvalidAddress C_InvalidDay C_InvalidNumber FL) : MFn P w K mg base CX0 4 C_Letter "finish" (spFinish K C_Book C_Letter) := by
  have M_Letter_step : MFn P w K mg base CX0 3 C_Letter "step" (spStep K C_Book C_Letter) := ok_step T
  have M_Letter_skip : MFn P w K mg base CX0 1 C_Letter "skip" (spSkip C_Letter) := ok_skip T
  refine T.d_Letter_finish.fn fun f fd F => F.ok sc_Letter_finish (fun vs H Q E h => ?_) (fun cdv A outer s H vs Q E hr h => ?_)
  · obtain ⟨p, kn, bk, os, x, d, t, N, rfl, _⟩ := h
    rfl
  · obtain ⟨p, kn, bk, os, x, d, t, N, rfl, L, hb, g, h0, h1, nbp, en, k⟩ := h
    refine ⟨_, (pss_cons (ps_expr (pe_m0 M_Letter_skip T.cl_Letter (hr.mono (by decide)) (pv 0)))
  (pss_one (ps_while PassesOwn.never (PW.pt (pw_and (pt_not (pt_val (pe_fld (pv 0) rfl))) (pw_and1 (pt_val (pe_m0 M_Letter_step T.cl_Letter (hr.mono (by decide)) (pv 0))))))
  (pss_one (ps_expr (pe_m0 M_Letter_skip T.cl_Letter (hr.mono (by decide)) (pv 0))))))), ?_⟩
    obtain ⟨⟨dx, l1⟩, l2⟩ := id L
    have hnm : (x :: os.map Ordr.tgt).length ≤ 31 := by have := g.len; simp; omega
    have htg : ∀ o ∈ os, o.tgt ∈ x :: os.map Ordr.tgt := fun o ho => List.mem_cons_of_mem _ (List.mem_map.mpr ⟨o, ho, rfl⟩)
    have I0 : LInv K C_Book C_Letter os (x :: os.map Ordr.tgt) N t true N H p kn [] bk x d 0 (nextCh os d) := ⟨L, hb, rfl, h0, by omega, en, by omega, by simp, List.nodup_nil, (fun _ z => by cases z), (fun _ _ z => by cases z)⟩
    refine ⟨_, rfl, p, dx, _, rfl, l1, rfl, ?_⟩
    refine nilT ?_
    refine I0.skip g hnm nbp fun H1 kn1 kvs1 d1 n1 m1 _ hk1 I1 f1 _ => ?_
    refine ⟨fun m σ H' => σ = [some (.ref p)] ∧ ∃ kn' kvs' x' d' n' c', (kn' = kn ∨ H kn' = none) ∧ LInv K C_Book C_Letter os (x :: os.map Ordr.tgt) N t false m H' p kn' kvs' bk x' d' n' c' ∧ (∀ b u, H b = some u → b ≠ p → b ≠ kn → H' b = some u),
      ⟨m1, rfl, kn1, kvs1, _, _, _, _, hk1, I1, f1⟩, ?_⟩
    rintro m σ H2 ⟨rfl, kn2, kvs2, x2, d2, n2, c2, hk2, I2, f2⟩
    obtain ⟨⟨dy, g1⟩, g2⟩ := id I2.la
    refine ⟨_, rfl, p, C_Letter, dy, _, _, rfl, g1, T.cl_Letter, T.n_Letter_is_endless, rfl, _, rfl, iteT ?_⟩
    refine ⟨_, rfl, p, dy, _, rfl, g1, rfl, ?_⟩
    refine nilT ?_
    refine I2.step g htg nbp (fun em et eN H3 s3 => ⟨_, rfl, iteF ?_⟩) (fun H3 kn3 kvs3 x3 d3 n3 c3 m3 em hk3 I3 f3 _ => ⟨_, rfl, iteT ?_⟩)
    · refine k H3 kn2 kvs2 c2 ?_ fun b u e n1 n2 => s3 _ _ (f2 b u e n1 n2)
      have : LetterAt C_Letter H3 p kn2 kvs2 bk x2 d2 n2 false c2 := I2.la.keep (fun o z => s3 _ _ z) (fun o z => s3 _ _ z)
      rw [et, eN]
      exact this
    · obtain ⟨⟨dz, r1⟩, r2⟩ := id I3.la
      have free : ∀ b, H2 b = none → (∃ u, H b = some u) → b = kn := fun b hb ⟨u, e⟩ => by
        by_cases z1 : b = p
        · rw [z1, g1] at hb; cases hb
        · by_cases z2 : b = kn
          · exact z2
          · rw [f2 b u e z1 z2] at hb; cases hb
      have hk3' : kn3 = kn ∨ H kn3 = none := by
        rcases hk3 with z | z
        · rw [z]; exact hk2
        · cases q : H kn3 with
          | none => exact .inr rfl
          | some u => exact .inl (free kn3 z ⟨u, q⟩)
      have f13 : ∀ b u, H b = some u → b ≠ p → b ≠ kn → H3 b = some u := fun b u e n1 n2 => f3 b u (f2 b u e n1 n2) n1
      refine ⟨fun σ' H' => σ' = [some (.ref p)] ∧ ∃ m', m' < m ∧ ∃ kn' kvs' x' d' n' c', (kn' = kn ∨ H kn' = none) ∧ LInv K C_Book C_Letter os (x :: os.map Ordr.tgt) N t false m' H' p kn' kvs' bk x' d' n' c' ∧ (∀ b u, H b = some u → b ≠ p → b ≠ kn → H' b = some u), fun σ' H' ⟨e, m', hm, r⟩ => ⟨m', hm, e, r⟩, ?_⟩
      refine ⟨_, rfl, p, dz, _, rfl, r1, rfl, ?_⟩
      refine nilT ?_
      refine I3.skip g hnm nbp fun H4 kn4 kvs4 d4 n4 m4 hm4 hk4 I4 f4 _ => ?_
      have free3 : ∀ b, H3 b = none → (∃ u, H b = some u) → b = kn := fun b hb ⟨u, e⟩ => by
        by_cases z1 : b = p
        · rw [z1, r1] at hb; cases hb
        · by_cases z2 : b = kn
          · exact z2
          · rw [f13 b u e z1 z2] at hb; cases hb
      refine ⟨rfl, m4, by omega, kn4, kvs4, _, _, _, _, ?_, I4, fun b u e n1 n2 => f4 b u (f13 b u e n1 n2) n1 ?_⟩
      · rcases hk4 with z | z
        · rw [z]; exact hk3'
        · cases q : H kn4 with
          | none => exact .inr rfl
          | some u => exact .inl (free3 kn4 z ⟨u, q⟩)
      · intro z
        rcases hk3' with w | w
        · exact n2 (z.trans w)
        · rw [z, w] at e; cases e
def spEndOf (K : PySem.W.Frag) (CB : Addr) : Sp := fun vs H Q _ => ∃ bk os x d t, ∃ N : Nat, vs = [.ref bk, .str x, .int d] ∧ BookAt K CB H bk os ∧ Good os ∧ 0 ≤ d ∧ d ≤ 1000000000000000000 ∧ Ends os (x, d) N t ∧
  ∀ H' r, Same H H' → H r = none → H' r = some (.tup [.str t.1, .int t.2, .int N]) → Q (.ref r) H'
def spEnd (K : PySem.W.Frag) (CB : Addr) : Sp := fun vs H Q _ => ∃ bk os x d t, ∃ N : Nat, vs = [.ref bk, .str x, .int d] ∧ BookAt K CB H bk os ∧ Good os ∧ isAddrB (.str x) = true ∧ 0 ≤ d ∧ d ≤ 1000000000000000000 ∧ Ends os (x, d) N t ∧
  ∀ H' r, Same H H' → H r = none → H' r = some (.tup [.str t.1, .int t.2]) → Q (.ref r) H'
end

end MF
set_option Elab.async false
set_option linter.all false
set_option maxRecDepth 100000
set_option maxHeartbeats 2000000
set_option pp.maxSteps 600
namespace MF
open PySem PySem.Spec PyProof.Rows L2 StX
section
variable {P : Program} {w : World} {K : PySem.W.Frag} {mg : Str → Option Value} {base : Heap} {C_Book C_Letter C_Walker C_MailError C_InvalidOrder C_UnknownOrder C_InvalidAddress C_InvalidDay C_InvalidNumber : Addr} {FL : Str}
def ScAt (K : PySem.W.Frag) (H : Hp) (rw sc : Addr) (xs : List V) : Prop := (Rd H sc (.lst xs) ∧ sc ≠ rw) ∨
    ∃ (o : Obj) (its : Array Value) (n : Nat), K.lookup sc = some o ∧ o.cls = .type "list" ∧ o.dict = none ∧ o.data = .seq its n ∧ its.size ≤ sizeLine ∧ Vals xs its.toList
theorem ScAt.sq {H : Hp} {rw sc : Addr} {xs : List V} (h : ScAt K H rw sc xs) : SqL K H sc xs := by
  rcases h with ⟨h, _⟩ | h
  · exact .inl h
  · exact .inr h
theorem ScAt.keep {H H' : Hp} {rw sc : Addr} {xs : List V} (h : ScAt K H rw sc xs) (k : ∀ b u, H b = some u → b ≠ rw → H' b = some u) : ScAt K H' rw sc xs := by
  rcases h with ⟨h | ⟨o, h⟩, n⟩ | h
  · exact .inl ⟨.inl (k _ _ h n), n⟩
  · exact .inl ⟨.inr ⟨o, k _ _ h n⟩, n⟩
  · exact .inr h
def RowAt (K : PySem.W.Frag) (H : Hp) (rw sc : Addr) (ns : List Int) : Prop := ∃ j : Nat, ∃ m r, H rw = some (.lst [.ref sc, .int (j : Nat), .int m, .int r]) ∧ ScAt K H rw sc (ns.map V.int) ∧ 0 ≤ m ∧ m < 2147483647
theorem RowAt.keep {H H' : Hp} {rw sc : Addr} {ns : List Int} (h : RowAt K H rw sc ns) (s : Same H H') : RowAt K H' rw sc ns := by
  obtain ⟨j, m, r, h1, h2, h3⟩ := h
  exact ⟨j, m, r, s _ _ h1, h2.keep fun b u e _ => s _ _ e, h3⟩
theorem ScAt.of0 {H H' : Hp} {rw sc : Addr} {xs : List V} (h : SqL K H sc xs) (s : Same H H') (n : H rw = none) : ScAt K H' rw sc xs := by
  rcases h with (z | ⟨o, z⟩) | z
  · exact .inl ⟨.inl (s _ _ z), ne_of_none z n⟩
  · exact .inl ⟨.inr ⟨o, s _ _ z⟩, ne_of_none z n⟩
  · exact .inr z
theorem RowAt.other {H0 H H' : Hp} {rw sc : Addr} {ns : List Int} (h : RowAt K H rw sc ns) (h0 : SqL K H0 sc (ns.map V.int)) (n : H0 rw = none) (s : Same H0 H') (e : ∀ u, H rw = some u → H' rw = some u) : RowAt K H' rw sc ns := by
  obtain ⟨j, m, r, h1, h2, h3⟩ := h
  exact ⟨j, m, r, e _ h1, .of0 h0 s n, h3⟩
def spTaken (K : PySem.W.Frag) : Sp := fun vs H Q _ => ∃ rw sc ns many, vs = [.ref rw, .int many] ∧ RowAt K H rw sc ns ∧ 0 < many ∧ many < 1000000000000000000 ∧
  ∀ v H', 0 ≤ v → v < many → RowAt K H' rw sc ns → (∀ b u, H b = some u → b ≠ rw → H' b = some u) → Q (.int v) H'
theorem pow18 : (10 : Int) ^ (18 : Int).toNat = 1000000000000000000 := by decide
theorem ok_taken (T : Top K mg C_Book C_Letter C_Walker C_MailError C_InvalidOrder C_UnknownOrder C_InvalidAddress C_InvalidDay C_InvalidNumber FL) : GFn P w K mg base CX0 1 "_law_taken" (spTaken K) := by
  refine T.d__law_taken.fn fun f fd F => F.ok sc__law_taken (fun vs H Q E h => ?_) (fun cdv A outer s H vs Q E hr h => ?_)
  · obtain ⟨rw, sc, ns, many, rfl, _⟩ := h
    rfl
  · obtain ⟨rw', sc, ns, many, rfl, ⟨j, m, r, h1, h2, m0, m1⟩, p0, p1, k⟩ := h
    refine ⟨_, (pss_cons (ps_if (pt_cmpR op_gt (pe_ix ix_list (pv 0) pe_int (fun _ _ => rfl)) pe_int (nomark _))
  (pss_cons (ps_set (i := 2) sc__law_taken.nd rfl (Or.inl rfl) (pe_op op_mod (pe_callTy call_int1 (by rfl) T.b_int (by decide +kernel) (pa_cons (pe_ix ix_list (pv 0) pe_int (fun _ _ => rfl)) pa_nil)) (pv 1)))
  (pss_cons (ps_asg (pe_op op_fdivW (pe_ix ix_list (pv 0) pe_int (fun _ _ => rfl)) (pv 1)) (pg_sub (pv 0) pe_int set_list))
  (pss_one (ps_ret (pv 2)))))
  pss_nil)
  (pss_cons (ps_asg (pe_op op_add (pe_ix ix_list (pv 0) pe_int (fun _ _ => rfl)) pe_int) (pg_sub (pv 0) pe_int set_list))
  (pss_cons (ps_if (pt_cmpR op_gt (pe_ix ix_list (pv 0) pe_int (fun _ _ => rfl)) (pe_callB call_len_seq (by rfl) T.b_len (by decide +kernel) (pa_cons (pe_ix ix_list (pv 0) pe_int (fun _ _ => rfl)) pa_nil)) (nomark _))
  (pss_cons (ps_asg (pe_op op_mod (pe_callTy call_int1 (by rfl) T.b_int (by decide +kernel) (pa_cons (pe_op op_add (pe_op op_mul (pe_ix ix_list (pv 0) pe_int (fun _ _ => rfl)) pe_int) pe_int) pa_nil)) pe_int) (pg_sub (pv 0) pe_int set_list))
  (pss_one (ps_ret (pe_op op_mod (pe_callTy call_int1 (by rfl) T.b_int (by decide +kernel) (pa_cons (pe_op op_fdivW (pe_ix ix_list (pv 0) pe_int (fun _ _ => rfl)) pe_int) pa_nil)) (pv 1)))))
  pss_nil)
  (pss_cons (ps_set (i := 3) sc__law_taken.nd rfl (Or.inl rfl) (pe_ix ix_list (pe_ix ix_list (pv 0) pe_int (fun _ _ => rfl)) (pe_op op_sub (pe_ix ix_list (pv 0) pe_int (fun _ _ => rfl)) pe_int) (fun _ _ => rfl)))
  (pss_cons (ps_asg (pe_op op_mod (pe_callTy call_int1 (by rfl) T.b_int (by decide +kernel) (pa_cons (pe_op op_add (pe_op op_add (pe_op op_mul (pe_ix ix_list (pv 0) pe_int (fun _ _ => rfl)) pe_int) (pv 3)) pe_int) pa_nil)) pe_int) (pg_sub (pv 0) pe_int set_list))
  (pss_cons (ps_if (pt_cmpR op_ge (pv 3) (pe_op op_pow pe_int pe_int) (nomark _))
  (pss_one (ps_asg (pe_op op_fdivW (pv 3) (pv 1)) (pg_sub (pv 0) pe_int set_list)))
  pss_nil)
  (pss_one (ps_ret (pe_op op_mod (pe_callTy call_int1 (by rfl) T.b_int (by decide +kernel) (pa_cons (pv 3) pa_nil)) (pv 1)))))))))), ?_⟩
    have S1 := SqL.of (K := K) h1
    have dv : CDivW 0 many := ⟨p0, by
      have : many.natAbs < 2 ^ 60 := by omega
      have := (Nat.log2_lt (n := many.natAbs) (k := 60) (by omega)).mpr this
      omega⟩
    have mod0 : ∀ x : Int, 0 ≤ x % many ∧ x % many < many := fun x => ⟨Int.emod_nonneg _ (by omega), Int.emod_lt_of_pos _ p0⟩
    have fr : ∀ (o : HO) b u, H b = some u → b ≠ rw' → upd H rw' o b = some u := fun o b u e nb => by rw [upd_ne nb]; exact e
    refine ⟨_, rfl, rw', _, _, _, rfl, rfl, S1, rfl, _, _, rfl, rfl, _, rfl, ?_⟩
    refine ite2 (fun c1 => ?_) (fun c1 => ?_)
    · refine ⟨_, rfl, rw', _, _, _, rfl, rfl, S1, rfl, .inl ⟨_, rfl, _, rfl, _, _, rfl, rfl, p0, ?_⟩⟩
      refine ⟨_, rfl, rw', _, _, _, rfl, rfl, S1, rfl, _, rfl, _, _, rfl, rfl, dv, _, rfl, rw', _, _, 3, rfl, rfl, h1, rfl, ?_⟩
      refine ⟨_, rfl, k _ _ (mod0 r).1 (mod0 r).2 ?_ (fr _)⟩
      exact ⟨j, m, r / many, upd_same, h2.keep (fr _), m0, m1⟩
    · -- _law_row[1] = _law_row[1] + 1
      refine ⟨_, rfl, rw', _, _, _, rfl, rfl, S1, rfl, _, _, rfl, rfl, _, rfl, rw', _, _, 1, rfl, rfl, h1, rfl, ?_⟩
      have h1' : upd H rw' (.lst ([.ref sc, .int (j : Nat), .int m, .int r].set 1 (.int ((j : Nat) + 1)))) rw' = some (.lst [.ref sc, .int ((j : Nat) + 1), .int m, .int r]) := upd_same
      have h2' := h2.keep (H' := upd H rw' (.lst ([.ref sc, .int (j : Nat), .int m, .int r].set 1 (.int ((j : Nat) + 1))))) (fr _)
      have fr1 := fr (.lst ([.ref sc, .int (j : Nat), .int m, .int r].set 1 (.int ((j : Nat) + 1))))
      generalize upd H rw' _ = H1 at h1' h2' fr1
      have S2 := SqL.of (K := K) h1'
      have fr2 : ∀ (o : HO) b u, H b = some u → b ≠ rw' → upd H1 rw' o b = some u := fun o b u e nb => by rw [upd_ne nb]; exact fr1 b u e nb
      have fr3 : ∀ (o : HO) b u, H1 b = some u → b ≠ rw' → upd H1 rw' o b = some u := fun o b u e nb => by rw [upd_ne nb]; exact e
      have modm : ∀ x : Int, 0 ≤ x % 2147483647 ∧ x % 2147483647 < 2147483647 := fun x => ⟨Int.emod_nonneg _ (by omega), Int.emod_lt_of_pos _ (by omega)⟩
      refine ⟨_, rfl, rw', _, _, _, rfl, rfl, S2, rfl, _, rfl, rw', _, _, _, rfl, rfl, S2, rfl, sc, _, rfl, .inl h2'.sq, _, _, rfl, rfl, _, rfl, ?_⟩
      refine ite2 (fun c2 => ?_) (fun c2 => ?_)
      · -- behind the script's end
        refine ⟨_, rfl, rw', _, _, _, rfl, rfl, S2, rfl, _, _, rfl, rfl, .inl ⟨by omega, by omega⟩, _, _, rfl, rfl, .inl ⟨_, rfl, _, _, rfl, rfl, (by show (0 : Int) < 2147483647; decide), _, rfl, rw', _, _, 2, rfl, rfl, h1', rfl, ?_⟩⟩
        refine ⟨_, rfl, rw', _, _, _, rfl, rfl, SqL.of upd_same, rfl, _, _, rfl, rfl, ⟨by decide, by decide⟩, .inl ⟨_, rfl, _, rfl, _, _, rfl, rfl, p0, ?_⟩⟩
        exact k _ _ (mod0 _).1 (mod0 _).2 ⟨j + 1, _, r, upd_same, h2'.keep (fr3 _), (modm _).1, (modm _).2⟩ (fr2 _)
      · have c2' : ¬ ((ns.map V.int).length : Int) < (j : Int) + 1 := fun z => c2 (decide_eq_true z)
        rw [List.length_map] at c2'
        have hj : j < ns.length := by omega
        have at1 : atI (ns.map V.int) ((j : Int) + 1 - 1) = some (V.int ns[j]) := by
          have : (j : Int) + 1 - 1 = (j : Int) := by omega
          rw [this]
          exact atI_nat (by simp [hj])
        refine ⟨_, rfl, rw', _, _, _, rfl, rfl, S2, rfl, _, rfl, rw', _, _, _, rfl, rfl, S2, rfl, _, _, rfl, rfl, sc, _, _, _, rfl, rfl, h2'.sq, at1, ?_⟩
        generalize ns[j] = cell
        refine ⟨_, rfl, rw', _, _, _, rfl, rfl, S2, rfl, _, _, rfl, rfl, .inl ⟨by omega, by omega⟩, _, rfl, _, _, rfl, rfl, _, _, rfl, rfl, .inl ⟨_, rfl, _, _, rfl, rfl, (by show (0 : Int) < 2147483647; decide), _, rfl, rw', _, _, 2, rfl, rfl, h1', rfl, ?_⟩⟩
        refine ⟨_, rfl, _, _, rfl, rfl, ⟨by decide, by decide, by decide⟩, _, _, rfl, rfl, _, rfl, ?_⟩
        refine ite2 (fun c3 => ?_) (fun c3 => ?_)
        · refine ⟨_, rfl, _, rfl, _, _, rfl, rfl, dv, _, rfl, rw', _, _, 3, rfl, rfl, upd_same, rfl, ?_⟩
          rw [upd_upd]
          refine ⟨_, rfl, .inl ⟨_, rfl, _, rfl, _, _, rfl, rfl, p0, ?_⟩⟩
          exact k _ _ (mod0 _).1 (mod0 _).2 ⟨j + 1, _, _, upd_same, h2'.keep (fr3 _), (modm _).1, (modm _).2⟩ (fr2 _)
        · refine ⟨_, rfl, .inl ⟨_, rfl, _, rfl, _, _, rfl, rfl, p0, ?_⟩⟩
          exact k _ _ (mod0 _).1 (mod0 _).2 ⟨j + 1, _, r, upd_same, h2'.keep (fr3 _), (modm _).1, (modm _).2⟩ (fr2 _)
end

end MF
set_option Elab.async false
set_option linter.all false
set_option maxRecDepth 100000
set_option maxHeartbeats 2000000
set_option pp.maxSteps 600
namespace MF
open PySem PySem.Spec PyProof.Rows L2 StX
section
variable {P : Program} {w : World} {K : PySem.W.Frag} {mg : Str → Option Value} {base : Heap} {C_Book C_Letter C_Walker C_MailError C_InvalidOrder C_UnknownOrder C_InvalidAddress C_InvalidDay C_InvalidNumber : Addr} {FL : Str}
theorem Good.take {os : List Ordr} (g : Good os) (i : Nat) : Good (os.take i) :=
  ⟨by have := g.len; rw [List.length_take]; omega, fun o ho => g.ok o (List.mem_of_mem_take ho), g.apart.sublist (List.take_sublist _ _)⟩
theorem Good.one {o : Ordr} (h : o.Ok) : Good [o] := ⟨by show 1 ≤ 30; decide, fun p hp => by rw [List.mem_singleton.mp hp]; exact h, by simp⟩
theorem Good.nil : Good [] := ⟨Nat.zero_le _, (fun p hp => by cases hp), List.Pairwise.nil⟩
def spLawBook (K : PySem.W.Frag) (C : Addr) : Sp := fun vs H Q _ => ∃ l as os, vs = [.ref l] ∧ SqL K H l (as.map V.ref) ∧ OrdsAt K H as os ∧ Good os ∧ ∀ H' p, Same H H' → H p = none → BookAt K C H' p os → Q (.ref p) H'
theorem ok_law_book (T : Top K mg C_Book C_Letter C_Walker C_MailError C_InvalidOrder C_UnknownOrder C_InvalidAddress C_InvalidDay C_InvalidNumber FL) (sf : PySem.W.selfFirst K C_Book = true) : GFn P w K mg base CX0 7 "_law_book" (spLawBook K C_Book) := by
  have G_Book : IFn P w K mg base CX0 3 C_Book "Book" (spBookInit K C_Book) := ok_Book T
  obtain ⟨fa, Fa, Ma⟩ := (ok_Book_add (P := P) (w := w) (base := base) T).ex
  refine T.d__law_book.fn fun f fd F => F.ok sc__law_book (fun vs H Q E h => ?_) (fun cdv A outer s H vs Q E hr h => ?_)
  · obtain ⟨l, as, os, rfl, _⟩ := h
    rfl
  · obtain ⟨l, as, os, rfl, hl, ho, g, k⟩ := h
    refine ⟨_, (pss_cons (ps_set (i := 1) sc__law_book.nd rfl (Or.inl rfl) (pe_mk0X G_Book (hr.mono (by decide)) pass0))
  (pss_cons (ps_for PassesOwn.never rfl (pi_list (pv 0)) (pg_name (i := 2) sc__law_book.nd rfl (Or.inl rfl))
  (pss_one (ps_set (i := 1) sc__law_book.nd rfl (Or.inl rfl) (pe_op (op_ownR sf Ma Fa (hr.mono (by decide)) pass0) (pv 1) (pe_mkX G_Book (hr.mono (by decide)) pass0 (pa_cons (pv 2) pa_nil))))))
  (pss_one (ps_ret (pv 1))))), ?_⟩
    have la : as.length = os.length := PySem.Paired.length ho
    intro x0 dx0 hx0 hdx0 ne0
    refine book_made' (as := []) (os := []) .nil Good.nil hx0 hdx0 ne0 (fun H1 s1 B1 => ⟨rfl, ?_⟩)
    refine ⟨_, rfl, l, rfl, ⟨_, s1.seq hl⟩, for_it (walk_list (xs := as.map V.ref)) (fun i σ H' => Same H H' ∧ ∃ p v2, σ = [some (.ref l), some (.ref p), v2] ∧ H p = none ∧ BookAt K C_Book H' p (os.take i)) ⟨s1, x0, _, rfl, hx0, B1⟩ (fun i σ H' _ ⟨s2, _⟩ => s2.seq hl) ?_ ?_⟩
    · rintro i y σ H2 H3 hi ⟨s2, p, v2, rfl, fp, B2⟩ ⟨rfl, ey⟩
      rw [List.length_map] at hi
      obtain ⟨a, ea⟩ : ∃ a, as[i]? = some a := ⟨as[i], by simp [hi]⟩
      rw [List.getElem?_map, ea] at ey
      cases ey
      obtain ⟨o, eo, oa⟩ := Paired.get ho ea
      have om : o ∈ os := List.mem_of_getElem? eo
      have et : os.take (i + 1) = os.take i ++ [o] := by rw [List.take_add_one, eo]; rfl
      refine ⟨_, rfl, _, rfl, ?_⟩
      have oa3 : OrdsAt K H3 [a] [o] := .cons (oa.mono s2) .nil
      intro p4 dx4 hp4 hdx4 ne4
      refine book_made' (as := [a]) (os := [o]) oa3 (Good.one (g.ok o om)) hp4 hdx4 ne4 (fun H4 s4 B4 => ⟨rfl, ?_⟩)
      obtain ⟨dx, t, bs, b1, b2, b3⟩ := id (B2.mono s4)
      obtain ⟨dy, u, cs, c1, c2, c3⟩ := id B4
      refine ⟨p, p4, dx, dy, _, _, rfl, rfl, b1, c1, p, p4, os.take i, [o], rfl, B2.mono s4, B4, by rw [← et]; exact g.take _, fun H5 p5 s5 f5 B5 => ?_⟩
      have s25 := (s2.trans s4).trans s5
      exact ⟨s25, p5, _, rfl, (s2.trans s4).free f5, by rw [et]; exact B5⟩
    · rintro σ H2 ⟨s2, p, v2, rfl, fp, B2⟩
      rw [List.length_map, la, List.take_length] at B2
      exact ⟨_, rfl, k H2 p s2 fp B2⟩
end

end MF
set_option Elab.async false
set_option linter.all false
set_option maxRecDepth 100000
set_option maxHeartbeats 2000000
set_option pp.maxSteps 600
namespace MF
open PySem PySem.Spec PyProof.Rows L2 StX
section
variable {P : Program} {w : World} {K : PySem.W.Frag} {mg : Str → Option Value} {base : Heap} {C_Book C_Letter C_Walker C_MailError C_InvalidOrder C_UnknownOrder C_InvalidAddress C_InvalidDay C_InvalidNumber : Addr} {FL : Str}
def nmS (k : Nat) : Str := ⟨#[97 + k]⟩
theorem nmS_inj {i j : Nat} (h : nmS i = nmS j) : i = j := by
  have h1 : (#[97 + i] : Array Nat) = #[97 + j] := congrArg Str.cps h
  have h2 : 97 + i = 97 + j := by simpa using h1
  omega
theorem nmS_addr {k : Nat} (h : k < 6) : isAddrB (.str (nmS k)) = true := by
  have : k = 0 ∨ k = 1 ∨ k = 2 ∨ k = 3 ∨ k = 4 ∨ k = 5 := by omega
  rcases this with rfl | rfl | rfl | rfl | rfl | rfl <;> decide +kernel
def nameT (n : Nat) : Str := cutS "abcdef" none (some ((n : Nat) : Int))
theorem names_at {n : Nat} (h2 : 2 ≤ n) (h6 : n ≤ 6) : (nameT n).length ≤ sizeLine ∧ ∀ k : Nat, k < n → (nameT n).cps.toList[k]? = some (97 + k) := by
  have : n = 2 ∨ n = 3 ∨ n = 4 ∨ n = 5 ∨ n = 6 := by omega
  rcases this with rfl | rfl | rfl | rfl | rfl <;> (refine ⟨by decide +kernel, ?_⟩; decide +kernel)
theorem names_ix {n : Nat} (h2 : 2 ≤ n) (h6 : n ≤ 6) {i : Int} (h0 : 0 ≤ i) (h1 : i < n) : atI (nameT n).cps.toList i = some (97 + i.toNat) := by
  have e : i = ((i.toNat : Nat) : Int) := by omega
  rw [e]
  exact atI_nat ((names_at h2 h6).2 _ (by omega))
theorem ints_ix {l : List Int} {i : Nat} (h : i < l.length) : atI (l.map V.int) (0 + (i : Int)) = some (V.int (l.getD i 0)) := by
  rw [Int.zero_add]
  refine atI_nat ?_
  rw [List.getElem?_map, List.getElem?_eq_getElem h, List.getD_eq_getElem?_getD, List.getElem?_eq_getElem h]
  rfl
def KeepR (rw : Addr) (H H' : Hp) : Prop := ∀ b u, H b = some u → b ≠ rw → H' b = some u
theorem KeepR.trans {rw : Addr} {H H1 H2 : Hp} (a : KeepR rw H H1) (b : KeepR rw H1 H2) : KeepR rw H H2 := fun c u e n => b c u (a c u e n) n
theorem KeepR.of {rw : Addr} {H H' : Hp} (s : Same H H') : KeepR rw H H' := fun b u e _ => s b u e
theorem RowAt.ex {H : Hp} {rw sc : Addr} {ns : List Int} (h : RowAt K H rw sc ns) : ∃ xs, H rw = some (.lst xs) := by
  obtain ⟨j, m, r, h1, _⟩ := h
  exact ⟨_, h1⟩
theorem KeepR.tup {rw sc : Addr} {ns : List Int} {H H' : Hp} (k : KeepR rw H H') (r : RowAt K H rw sc ns) : ∀ b u, H b = some u → tupl u = true → H' b = some u := fun b u e y => k b u e fun z => by
  obtain ⟨xs, h⟩ := r.ex
  rw [z, h] at e
  cases e
  cases y
theorem OrdsAt.keepR {H H' : Hp} {as : List Addr} {os : List Ordr} (h : OrdsAt K H as os) (k : ∀ b u, H b = some u → tupl u = true → H' b = some u) : OrdsAt K H' as os := PySem.Paired.mono (fun a o z => by
    rcases z with (z | ⟨u, z⟩) | z
    · exact .inl (.inl (k _ _ z rfl))
    · exact .inl (.inr ⟨u, k _ _ z rfl⟩)
    · exact .inr z) h
def spLaw (K : PySem.W.Frag) : Sp := fun vs H Q _ => ∃ (a : Addr) (ns : List Int), vs = [.ref a] ∧ SqL K H a (ns.map V.int) ∧ ns.length ≤ 63 ∧ ∀ H', Q (.bl true) H'
theorem row_new {H : Hp} {a rw : Addr} {ns : List Int} (hS : SqL K H a (ns.map V.int)) (h : H rw = none) : RowAt K (upd H rw (.lst [.ref a, .int 0, .int 0, .int 0])) rw a ns :=
  ⟨0, 0, 0, upd_same, .of0 hS (Same.new h) h, by decide, by decide⟩
theorem RowAt.via {H H1 H2 : Hp} {rw sc : Addr} {ns : List Int} (h : RowAt K H rw sc ns) (k : KeepR rw H H2) (h1 : RowAt K H1 rw sc ns) (e : ∀ u, H1 rw = some u → H2 rw = some u) : RowAt K H2 rw sc ns := by
  obtain ⟨j, m, r, a1, a2, a3⟩ := h1
  obtain ⟨j', m', r', b1, b2, b3⟩ := h
  exact ⟨j, m, r, e _ a1, b2.keep k, a3⟩
end

end MF
set_option Elab.async false
set_option linter.all false
set_option maxRecDepth 100000
set_option maxHeartbeats 2000000
set_option pp.maxSteps 600
namespace MF
open PySem PySem.Spec PyProof.Rows L2 StX
section
variable {P : Program} {w : World} {K : PySem.W.Frag} {mg : Str → Option Value} {base : Heap} {C_Book C_Letter C_Walker C_MailError C_InvalidOrder C_UnknownOrder C_InvalidAddress C_InvalidDay C_InvalidNumber : Addr} {FL : Str}
structure DrawnOs (most long : Nat) (os : List Ordr) : Prop where
  good : Good os
  len : os.length ≤ most
  names : ∀ o ∈ os, ∃ i j, i < 6 ∧ j < 6 ∧ o.src = nmS i ∧ o.tgt = nmS j
  tight : ∀ o ∈ os, o.last < (most : Int) * (14 + max 12 (long : Int))
  lasts : ∀ o ∈ os, o.last < (most : Int) * (27 + long)
  ways : ∀ o ∈ os, o.way ≤ 14
  spans : ∀ o ∈ os, o.last - o.first < max 12 (long : Int)
structure DrawnSo (B : Int) (i : Nat) (os : List Ordr) (kvs : List (Key × V)) : Prop where
  len : os.length ≤ i
  klen : kvs.length ≤ i
  ok : ∀ o ∈ os, o.Ok
  apart : os.Pairwise fun o p => overB o p = false
  names : ∀ o ∈ os, ∃ i j, i < 6 ∧ j < 6 ∧ o.src = nmS i ∧ o.tgt = nmS j
  ways : ∀ o ∈ os, o.way ≤ 14
  vals : ∀ s v, valV kvs (.inr s : Key) = some v → ∃ z : Int, v = .int z ∧ 0 ≤ z ∧ z ≤ i * B
  free : ∀ o ∈ os, ∃ z : Int, valV kvs (.inr o.src : Key) = some (.int z) ∧ o.last < z
  spans : ∀ o ∈ os, o.last - o.first < B - 14
theorem DrawnSo.nil (B : Int) : DrawnSo B 0 [] [] := ⟨Nat.le_refl _, Nat.le_refl _, (fun _ z => by cases z), .nil, (fun _ z => by cases z), (fun _ z => by cases z), (fun _ _ z => by cases z), (fun _ z => by cases z), (fun _ z => by cases z)⟩
theorem DrawnSo.skip {B : Int} {i : Nat} {os : List Ordr} {kvs : List (Key × V)} (b0 : 0 ≤ B) (D : DrawnSo B i os kvs) : DrawnSo B (i + 1) os kvs :=
  ⟨by have := D.len; omega, by have := D.klen; omega, D.ok, D.apart, D.names, D.ways, fun s v h => by
    obtain ⟨z, a, b, c⟩ := D.vals s v h
    refine ⟨z, a, b, ?_⟩
    push_cast
    rw [Int.add_mul, Int.one_mul]
    omega, D.free, D.spans⟩
theorem DrawnSo.snoc {B : Int} {i : Nat} {os : List Ordr} {kvs : List (Key × V)} (b0 : 0 ≤ B) (hB : (i : Int) * B ≤ 1000000) (hb : B ≤ 1000000) (D : DrawnSo B i os kvs) {a b : Nat} (ha : a < 6) (hb' : b < 6) (hne : nmS a ≠ nmS b) {f l w z : Int} (hz : (valV kvs (.inr (nmS a) : Key)).getD (.int 0) = .int z)
    (f0 : z ≤ f) (fl : f ≤ l) (lB : l + 1 ≤ z + B) (lf : l - f < B - 14) (w1 : 1 ≤ w) (w14 : w ≤ 14) : DrawnSo B (i + 1) (os ++ [⟨nmS a, nmS b, f, l, w⟩]) (putK kvs (.inr (nmS a)) (.int (l + 1))) := by
  have z0 : 0 ≤ z ∧ z ≤ i * B := by
    cases q : valV kvs (.inr (nmS a) : Key) with
    | none =>
      rw [q] at hz
      cases hz
      exact ⟨Int.le_refl _, Int.mul_nonneg (Int.natCast_nonneg _) b0⟩
    | some v =>
      obtain ⟨z', e1, e2, e3⟩ := D.vals _ _ q
      rw [q, e1] at hz
      cases hz
      exact ⟨e2, e3⟩
  have mem : ∀ {o}, o ∈ os ++ [(⟨nmS a, nmS b, f, l, w⟩ : Ordr)] → o ∈ os ∨ o = ⟨nmS a, nmS b, f, l, w⟩ := fun {o} h => by
    rcases List.mem_append.mp h with h | h
    · exact .inl h
    · exact .inr (List.mem_singleton.mp h)
  have eB : ((i + 1 : Nat) : Int) * B = i * B + B := by
    push_cast
    rw [Int.add_mul, Int.one_mul]
  refine ⟨?_, ?_, ?_, ?_, ?_, ?_, ?_, ?_, ?_⟩
  · rw [List.length_append]
    have := D.len
    show os.length + 1 ≤ i + 1
    omega
  · have := length_putK kvs (.inr (nmS a)) (.int (l + 1))
    have := D.klen
    omega
  · intro o h
    rcases mem h with h | rfl
    · exact D.ok o h
    · exact ⟨nmS_addr ha, nmS_addr hb', hne, by show 0 ≤ f; omega, fl, by show l ≤ _; omega, w1, by show w ≤ 30; omega⟩
  · refine List.pairwise_append.mpr ⟨D.apart, by simp, fun o ho p hp => ?_⟩
    rw [List.mem_singleton.mp hp]
    by_cases q : o.src = nmS a
    · obtain ⟨z', e1, e2⟩ := D.free o ho
      rw [q] at e1
      rw [e1] at hz
      cases hz
      have : ¬ f ≤ o.last := by omega
      show (_ && (_ && decide (f ≤ o.last))) = false
      rw [decide_eq_false this, Bool.and_false, Bool.and_false]
    · show (decide (o.src = nmS a) && _) = false
      rw [decide_eq_false q, Bool.false_and]
  · intro o h
    rcases mem h with h | rfl
    · exact D.names o h
    · exact ⟨a, b, ha, hb', rfl, rfl⟩
  · intro o h
    rcases mem h with h | rfl
    · exact D.ways o h
    · exact w14
  · intro s v h
    rw [valV_put] at h
    rw [eB]
    by_cases ea : (Sum.inr s : Key) = Sum.inr (nmS a)
    · rw [if_pos ea] at h
      cases h
      exact ⟨l + 1, rfl, by omega, by omega⟩
    · rw [if_neg ea] at h
      obtain ⟨z', e1, e2, e3⟩ := D.vals s v h
      exact ⟨z', e1, e2, by omega⟩
  · intro o h
    rw [valV_put]
    rcases mem h with h | rfl
    · by_cases ea : (Sum.inr o.src : Key) = Sum.inr (nmS a)
      · rw [if_pos ea]
        refine ⟨l + 1, rfl, ?_⟩
        obtain ⟨z', e1, e2⟩ := D.free o h
        rw [ea] at e1
        rw [e1] at hz
        cases hz
        omega
      · rw [if_neg ea]
        exact D.free o h
    · rw [if_pos rfl]
      exact ⟨l + 1, rfl, by show l < l + 1; omega⟩
  · intro o h
    rcases mem h with h | rfl
    · exact D.spans o h
    · exact lf
theorem overB_comm (o p : Ordr) : overB o p = overB p o := by
  unfold overB
  by_cases e : o.src = p.src
  · rw [decide_eq_true e, decide_eq_true e.symm, Bool.true_and, Bool.true_and, Bool.and_comm]
  · rw [decide_eq_false e, decide_eq_false (show ¬ p.src = o.src from fun z => e z.symm), Bool.false_and, Bool.false_and]
theorem DrawnSo.done {most long i t : Nat} {os : List Ordr} {kvs : List (Key × V)} (D : DrawnSo (14 + max 12 (long : Int)) i os kvs) (hi : i ≤ most) (hm : most ≤ 30) : DrawnOs most long (os.drop t ++ os.take t) := by
  have mem : ∀ {o}, o ∈ os.drop t ++ os.take t → o ∈ os := fun {o} h => by
    rcases List.mem_append.mp h with h | h
    · exact List.mem_of_mem_drop h
    · exact List.mem_of_mem_take h
  have el : (os.drop t ++ os.take t).length = os.length := by
    rw [List.length_append, List.length_drop, List.length_take]
    omega
  have hl := D.len
  have ap : (os.take t ++ os.drop t).Pairwise fun o p => overB o p = false := by
    rw [List.take_append_drop]
    exact D.apart
  obtain ⟨a1, a2, a3⟩ := List.pairwise_append.mp ap
  have tg : ∀ o ∈ os.drop t ++ os.take t, o.last < (most : Int) * (14 + max 12 (long : Int)) := fun o h => by
    obtain ⟨z, e1, e2⟩ := D.free o (mem h)
    obtain ⟨z', e3, e4, e5⟩ := D.vals _ _ e1
    cases e3
    have : (i : Int) * (14 + max 12 (long : Int)) ≤ (most : Int) * (14 + max 12 (long : Int)) := Int.mul_le_mul_of_nonneg_right (by omega) (by omega)
    omega
  refine ⟨⟨by omega, fun o h => D.ok o (mem h), ?_⟩, by omega, fun o h => D.names o (mem h), tg, fun o h => ?_, fun o h => D.ways o (mem h), fun o h => by have := D.spans o (mem h); omega⟩
  · exact List.pairwise_append.mpr ⟨a2, a1, fun o ho p hp => by rw [overB_comm]; exact a3 p hp o ho⟩
  · have h1 := tg o h
    have h2 : (most : Int) * (14 + max 12 (long : Int)) ≤ (most : Int) * (27 + long) := Int.mul_le_mul_of_nonneg_left (by omega) (by omega)
    omega
theorem cut_drop (xs : List V) (i : Nat) (h : i ≤ xs.length) : cutV xs (some (i : Int)) none = xs.drop i := by
  unfold cutV
  rw [HT.sIx_none, HT.sIx_nat, Nat.min_eq_left h, List.take_of_length_le (by rw [List.length_drop]; omega)]
theorem pairedDrop {α β : Type} {r : α → β → Prop} : ∀ {as : List α} {bs : List β} (n : Nat), PySem.Paired r as bs → PySem.Paired r (as.drop n) (bs.drop n)
  | _, _, 0, h => h
  | _, _, n + 1, .nil => .nil
  | _, _, n + 1, .cons _ h => pairedDrop n h
theorem pairedTake {α β : Type} {r : α → β → Prop} : ∀ {as : List α} {bs : List β} (n : Nat), PySem.Paired r as bs → PySem.Paired r (as.take n) (bs.take n)
  | _, _, 0, h => .nil
  | _, _, n + 1, .nil => .nil
  | _, _, n + 1, .cons h1 h => .cons h1 (pairedTake n h)
structure OSt (K : PySem.W.Frag) (H0 H : Hp) (rw sc : Addr) (ns : List Int) (lf df : Addr) (as : List Addr) (os : List Ordr) (kvs : List (Key × V)) (B : Int) (i : Nat) : Prop where
  kr : KeepR rw H0 H
  row : RowAt K H rw sc ns
  hl : H lf = some (.lst (as.map V.ref))
  hd : H df = some (.dK kvs)
  ords : OrdsAt K H as os
  D : DrawnSo B i os kvs
  nl : H0 lf = none
  nd : H0 df = none
  lr : lf ≠ rw
  dr : df ≠ rw
section
variable {H0 H H' : Hp} {rw sc lf df : Addr} {ns : List Int} {as : List Addr} {os : List Ordr} {kvs : List (Key × V)} {B : Int} {i : Nat}
theorem OSt.taken (S : OSt K H0 H rw sc ns lf df as os kvs B i) (R : RowAt K H' rw sc ns) (k : KeepR rw H H') : OSt K H0 H' rw sc ns lf df as os kvs B i :=
  ⟨S.kr.trans k, R, k _ _ S.hl S.lr, k _ _ S.hd S.dr, S.ords.keepR (k.tup S.row), S.D, S.nl, S.nd, S.lr, S.dr⟩
theorem OSt.same (S : OSt K H0 H rw sc ns lf df as os kvs B i) (s : Same H H') : OSt K H0 H' rw sc ns lf df as os kvs B i := S.taken (S.row.keep s) (KeepR.of s)
end
theorem pick3 {a b c v : Int} (h0 : 0 ≤ v) (h3 : v < 3) : ∃ z, atI [V.int a, .int b, .int c] v = some (.int z) ∧ (z = a ∨ z = b ∨ z = c) := by
  have : v = 0 ∨ v = 1 ∨ v = 2 := by omega
  rcases this with rfl | rfl | rfl
  · exact ⟨a, rfl, .inl rfl⟩
  · exact ⟨b, rfl, .inr (.inl rfl)⟩
  · exact ⟨c, rfl, .inr (.inr rfl)⟩
def spOrders (K : PySem.W.Frag) : Sp := fun vs H Q _ => ∃ rw sc ns, ∃ most long : Nat, vs = [.ref rw, .int (most : Nat), .int (long : Nat)] ∧ RowAt K H rw sc ns ∧ most ≤ 20 ∧ 1 ≤ long ∧ long ≤ 200 ∧
  ∀ H' l as os, KeepR rw H H' → H l = none → RowAt K H' rw sc ns → H' l = some (.lst (as.map V.ref)) → OrdsAt K H' as os → DrawnOs most long os → Q (.ref l) H'
theorem ok_orders (T : Top K mg C_Book C_Letter C_Walker C_MailError C_InvalidOrder C_UnknownOrder C_InvalidAddress C_InvalidDay C_InvalidNumber FL) : GFn P w K mg base CX0 2 "_law_orders" (spOrders K) := by
  have G__law_taken : GFn P w K mg base CX0 1 "_law_taken" (spTaken K) := ok_taken T
  refine T.d__law_orders.fn fun f fd F => F.ok sc__law_orders (fun vs H Q E h => ?_) (fun cdv A outer s H vs Q E hr h => ?_)
  · obtain ⟨rw, sc, ns, most, long, rfl, _⟩ := h
    rfl
  · obtain ⟨rw', sc, ns, most, long, rfl, R, hm, l1, l2, k⟩ := h
    have hu := hu_of hr
    refine ⟨_, (C8.pss_cut (ps_par3 (i := 3) (j := 4) (l := 5) (by rfl) sc__law_orders.nd rfl rfl rfl (by decide) (by decide) (by decide) rfl rfl rfl (pa_cons (pe_lst pa_nil) (pa_cons pe_dnewK (pa_cons (pe_slice sl_str pe_str po_none (po_some (pe_op op_add pe_int (pe_g G__law_taken (hr.mono (by decide)) (pa_cons (pv 0) (pa_cons pe_int pa_nil)))))) pa_nil))) (by rfl))
  (C8.pss_cut (ps_for PassesOwn.never rfl (pi_range1 (by rfl) T.b_range (pa_cons (pe_g G__law_taken (hr.mono (by decide)) (pa_cons (pv 0) (pa_cons (pe_op op_add (pv 1) pe_int) pa_nil))) pa_nil)) (pg_name (i := 6) sc__law_orders.nd rfl (Or.inl rfl))
  (C8.pss_cut (ps_par (i := 7) (j := 8) (by rfl) sc__law_orders.nd rfl rfl (by decide) rfl rfl (pa_cons (pe_ix ix_str (pv 5) (pe_g G__law_taken (hr.mono (by decide)) (pa_cons (pv 0) (pa_cons (pe_callB call_len_str (by rfl) T.b_len (by decide +kernel) (pa_cons (pv 5) pa_nil)) pa_nil))) (fun _ _ => rfl)) (pa_cons (pe_ix ix_str (pv 5) (pe_g G__law_taken (hr.mono (by decide)) (pa_cons (pv 0) (pa_cons (pe_callB call_len_str (by rfl) T.b_len (by decide +kernel) (pa_cons (pv 5) pa_nil)) pa_nil))) (fun _ _ => rfl)) pa_nil)) (by rfl))
  (pss_one (ps_if (pt_cmpR op_ne (pv 7) (pv 8) (nomark _))
  (C8.pss_cut (ps_set (i := 9) sc__law_orders.nd rfl (Or.inl rfl) (pe_op op_add (pe_dget2 hu (pv 4) (pv 7) pe_int ⟨rfl, rfl, rfl, rfl⟩) (pe_g G__law_taken (hr.mono (by decide)) (pa_cons (pv 0) (pa_cons (pe_ix ix_list (pe_lst (pa_cons pe_int (pa_cons pe_int (pa_cons pe_int pa_nil)))) (pe_g G__law_taken (hr.mono (by decide)) (pa_cons (pv 0) (pa_cons pe_int pa_nil))) (fun _ _ => rfl)) pa_nil)))))
  (C8.pss_cut (ps_set (i := 10) sc__law_orders.nd rfl (Or.inl rfl) (pe_op op_add (pv 9) (pe_g G__law_taken (hr.mono (by decide)) (pa_cons (pv 0) (pa_cons (pe_ix ix_list (pe_lst (pa_cons pe_int (pa_cons pe_int (pa_cons (pv 2) pa_nil)))) (pe_g G__law_taken (hr.mono (by decide)) (pa_cons (pv 0) (pa_cons pe_int pa_nil))) (fun _ _ => rfl)) pa_nil)))))
  (pss_cons (ps_expr (pe_bm PySem.F.plainAttrs_list PySem.F.slot_list_append PySem.F.type_list_append mt_append (pv 3) (pa_cons (pe_tup (pa_cons (pv 7) (pa_cons (pv 8) (pa_cons (pv 9) (pa_cons (pv 10) (pa_cons (pe_op op_add pe_int (pe_g G__law_taken (hr.mono (by decide)) (pa_cons (pv 0) (pa_cons (pe_ix ix_list (pe_lst (pa_cons pe_int (pa_cons pe_int (pa_cons pe_int pa_nil)))) (pe_g G__law_taken (hr.mono (by decide)) (pa_cons (pv 0) (pa_cons pe_int pa_nil))) (fun _ _ => rfl)) pa_nil)))) pa_nil)))))) pa_nil)))
  (pss_one (ps_dput hu (pv 4) (pv 7) (pe_op op_add (pv 10) pe_int) rfl)))))
  pss_nil))))
  (pss_cons (ps_set (i := 11) sc__law_orders.nd rfl (Or.inl rfl) (pe_g G__law_taken (hr.mono (by decide)) (pa_cons (pv 0) (pa_cons (pe_op op_add (pe_callB call_len_seq (by rfl) T.b_len (by decide +kernel) (pa_cons (pv 3) pa_nil)) pe_int) pa_nil))))
  (pss_one (ps_ret (pe_op op_cat (pe_slice sl_list (pv 3) (po_some (pv 11)) po_none) (pe_slice sl_list (pv 3) po_none (po_some (pv 11))))))))), ?_⟩
    refine ⟨fun σ' H' => ∃ n lf df, ∃ v6 v7 v8 v9 v10 v11, 2 ≤ n ∧ n ≤ 6 ∧ σ' = [some (.ref rw'), some (.int (most : Nat)), some (.int (long : Nat)), some (.ref lf), some (.ref df), some (.str (nameT n)), v6, v7, v8, v9, v10, v11] ∧ OSt K H H' rw' sc ns lf df [] [] [] (14 + max 12 (long : Int)) 0, ?_, ?_⟩
    · refine ⟨(by show 0 ≤ sizeLine; decide), fun lf hlf => ?_⟩
      intro df hdf
      have hdf0 : H df = none := (Same.new hlf).free hdf
      have ne : lf ≠ df := ne_of_none (o := .lst []) upd_same hdf
      obtain ⟨xs, hrw⟩ := R.ex
      have lr : lf ≠ rw' := (ne_of_none hrw hlf).symm
      have dr : df ≠ rw' := (ne_of_none hrw hdf0).symm
      have s2 : Same H (upd (upd H lf (.lst [])) df (.dK [])) := MF.Same.upd (Same.new hlf) hdf
      have S0 : OSt K H (upd (upd H lf (.lst [])) df (.dK [])) rw' sc ns lf df [] [] [] (14 + max 12 (long : Int)) 0 := ⟨KeepR.of s2, R.keep s2, by rw [upd_ne ne, upd_same]; rfl, upd_same, .nil, .nil _, hlf, hdf0, lr, dr⟩
      refine ⟨_, rfl, rw', sc, ns, 5, rfl, S0.row, (by decide), (by decide), fun v H1 v0 v1 R1 k1 => ?_⟩
      have S1 := S0.taken R1 k1
      refine ⟨_, _, rfl, rfl, _, rfl, _, rfl, (by decide +kernel), _, _, _, rfl, ?_⟩
      have e : (((2 + v).toNat : Nat) : Int) = 2 + v := by omega
      refine ⟨(2 + v).toNat, lf, df, none, none, none, none, none, none, by omega, by omega, ?_, S1⟩
      unfold nameT
      rw [e]
      rfl
    rintro σ H1 ⟨n, lf, df, v6, v7, v8, v9, v10, v11, n2, n6, rfl, S1⟩
    have nz := (names_at n2 n6).1
    have nl : (nameT n).length = n := by
      have : n = 2 ∨ n = 3 ∨ n = 4 ∨ n = 5 ∨ n = 6 := by omega
      rcases this with rfl | rfl | rfl | rfl | rfl <;> decide +kernel
    refine ⟨fun σ' H' => ∃ as os kvs, ∃ i : Nat, ∃ v6 v7 v8 v9 v10 v11, i ≤ most ∧ σ' = [some (.ref rw'), some (.int (most : Nat)), some (.int (long : Nat)), some (.ref lf), some (.ref df), some (.str (nameT n)), v6, v7, v8, v9, v10, v11] ∧ OSt K H H' rw' sc ns lf df as os kvs (14 + max 12 (long : Int)) i, ?_, ?_⟩
    · refine ⟨_, rfl, _, rfl, _, _, rfl, rfl, rw', sc, ns, _, rfl, S1.row, (by omega), (by omega), fun r H2 r0 r1 R2 k2 => ⟨r, rfl, (by omega), (by omega), for_it walk_range (fun i σ' H' => ∃ as os kvs, ∃ v6 v7 v8 v9 v10 v11, σ' = [some (.ref rw'), some (.int (most : Nat)), some (.int (long : Nat)), some (.ref lf), some (.ref df), some (.str (nameT n)), v6, v7, v8, v9, v10, v11] ∧ OSt K H H' rw' sc ns lf df as os kvs (14 + max 12 (long : Int)) i) ⟨[], [], [], v6, v7, v8, v9, v10, v11, rfl, S1.taken R2 k2⟩ (fun _ _ _ _ _ => trivial) ?_ ?_⟩⟩
      · rintro i y σ' H3 H4 hi ⟨as, os, kvs, w6, w7, w8, w9, w10, w11, rfl, S3⟩ ⟨rfl, rfl⟩
        refine ⟨fun σ' H' => ∃ a b, a < 6 ∧ b < 6 ∧ σ' = [some (.ref rw'), some (.int (most : Nat)), some (.int (long : Nat)), some (.ref lf), some (.ref df), some (.str (nameT n)), some (.int (0 + (i : Int))), some (.str (nmS a)), some (.str (nmS b)), w9, w10, w11] ∧ OSt K H H' rw' sc ns lf df as os kvs (14 + max 12 (long : Int)) i, ?_, ?_⟩
        · refine ⟨_, rfl, _, rfl, _, rfl, _, rfl, nz, rw', sc, ns, _, rfl, S3.row, (by omega), (by omega), fun a H5 a0 a1 R5 k5 => ?_⟩
          rw [nl] at a1
          have S5 := S3.taken R5 k5
          refine ⟨_, _, _, rfl, rfl, nz, names_ix n2 n6 a0 (by omega), ?_⟩
          refine ⟨_, rfl, _, rfl, _, rfl, _, rfl, nz, rw', sc, ns, _, rfl, S5.row, (by omega), (by omega), fun b H6 b0 b1 R6 k6 => ?_⟩
          rw [nl] at b1
          refine ⟨_, _, _, rfl, rfl, nz, names_ix n2 n6 b0 (by omega), _, _, rfl, ?_⟩
          exact ⟨a.toNat, b.toNat, by omega, by omega, rfl, S5.taken R6 k6⟩
        rintro σ' H5 ⟨a, b, ha, hb, rfl, S5⟩
        refine ⟨_, rfl, _, rfl, rfl, _, rfl, ?_⟩
        by_cases hne : V.str (nmS a) = V.str (nmS b)
        · refine iteND hne ?_
          exact ⟨as, os, kvs, _, _, _, _, _, _, rfl, { S5 with D := S5.D.skip (by omega) }⟩
        refine iteNDN hne ?_
        have hiB : (i : Int) * (14 + max 12 (long : Int)) ≤ 20 * (14 + max 12 (long : Int)) := Int.mul_le_mul_of_nonneg_right (by omega) (by omega)
        obtain ⟨z, hz, z0⟩ : ∃ z : Int, (valV kvs (.inr (nmS a) : Key)).getD (.int 0) = .int z ∧ 0 ≤ z := by
          cases q : valV kvs (.inr (nmS a) : Key) with
          | none => exact ⟨0, rfl, Int.le_refl _⟩
          | some v =>
            obtain ⟨z', e1, e2, e3⟩ := S5.D.vals _ _ q
            exact ⟨z', by rw [e1]; rfl, e2⟩
        refine ⟨fun σ' H' => ∃ f, z ≤ f ∧ f ≤ z + 14 ∧ σ' = [some (.ref rw'), some (.int (most : Nat)), some (.int (long : Nat)), some (.ref lf), some (.ref df), some (.str (nameT n)), some (.int (0 + (i : Int))), some (.str (nmS a)), some (.str (nmS b)), some (.int f), w10, w11] ∧ OSt K H H' rw' sc ns lf df as os kvs (14 + max 12 (long : Int)) i, ?_, ?_⟩
        · refine ⟨_, rfl, df, rfl, .inl ⟨kvs, .inl S5.hd⟩, _, rfl, _, DGet.k (k := Sum.inr (nmS a)) S5.hd, _, rfl, (by show 3 ≤ sizeLine; decide), fun p hp => ?_⟩
          have S6 := S5.same (Same.new (o := .lst [.int 1, .int 4, .int 15]) hp)
          have pr : p ≠ rw' := by
            obtain ⟨xs, q⟩ := S5.row.ex
            exact (ne_of_none q hp).symm
          refine ⟨_, rfl, rw', sc, ns, 3, rfl, S6.row, (by decide), (by decide), fun c H7 c0 c1 R7 k7 => ?_⟩
          have S7 := S6.taken R7 k7
          obtain ⟨y, ey, hy⟩ := pick3 (a := 1) (b := 4) (c := 15) c0 c1
          refine ⟨p, _, _, _, rfl, rfl, SqL.of (k7 _ _ upd_same pr), ey, rw', sc, ns, y, rfl, S7.row, (by omega), (by omega), fun d H8 d0 d1 R8 k8 => ⟨z, d, hz, rfl, ?_⟩⟩
          exact ⟨z + d, by omega, by omega, rfl, S7.taken R8 k8⟩
        clear S5
        rintro σ' H5 ⟨f, f0, f1, rfl, S5⟩
        refine ⟨fun σ' H' => ∃ l, f ≤ l ∧ l + 1 ≤ f + max 12 (long : Int) ∧ σ' = [some (.ref rw'), some (.int (most : Nat)), some (.int (long : Nat)), some (.ref lf), some (.ref df), some (.str (nameT n)), some (.int (0 + (i : Int))), some (.str (nmS a)), some (.str (nmS b)), some (.int f), some (.int l), w11] ∧ OSt K H H' rw' sc ns lf df as os kvs (14 + max 12 (long : Int)) i, ?_, ?_⟩
        · refine ⟨_, rfl, _, rfl, _, rfl, (by show 3 ≤ sizeLine; decide), fun p hp => ?_⟩
          have S6 := S5.same (Same.new (o := .lst [.int 3, .int 12, .int (long : Nat)]) hp)
          have pr : p ≠ rw' := by
            obtain ⟨xs, q⟩ := S5.row.ex
            exact (ne_of_none q hp).symm
          refine ⟨_, rfl, rw', sc, ns, 3, rfl, S6.row, (by decide), (by decide), fun c H7 c0 c1 R7 k7 => ?_⟩
          have S7 := S6.taken R7 k7
          obtain ⟨y, ey, hy⟩ := pick3 (a := 3) (b := 12) (c := (long : Nat)) c0 c1
          refine ⟨p, _, _, _, rfl, rfl, SqL.of (k7 _ _ upd_same pr), ey, rw', sc, ns, y, rfl, S7.row, (by omega), (by omega), fun d H8 d0 d1 R8 k8 => ⟨_, _, rfl, rfl, ?_⟩⟩
          exact ⟨f + d, by omega, by omega, rfl, S7.taken R8 k8⟩
        clear S5
        rintro σ' H5 ⟨l, g0, g1, rfl, S5⟩
        refine ⟨_, rfl, .inl ⟨rfl, _, SqL.of S5.hl⟩, _, rfl, _, rfl, _, rfl, _, rfl, _, rfl, (by show 3 ≤ sizeLine; decide), fun p hp => ?_⟩
        have S6 := S5.same (Same.new (o := .lst [.int 1, .int 3, .int 14]) hp)
        have pr : p ≠ rw' := by
          obtain ⟨xs, q⟩ := S5.row.ex
          exact (ne_of_none q hp).symm
        refine ⟨_, rfl, rw', sc, ns, 3, rfl, S6.row, (by decide), (by decide), fun c H7 c0 c1 R7 k7 => ?_⟩
        have S7 := S6.taken R7 k7
        obtain ⟨y, ey, hy⟩ := pick3 (a := 1) (b := 3) (c := 14) c0 c1
        refine ⟨p, _, _, _, rfl, rfl, SqL.of (k7 _ _ upd_same pr), ey, rw', sc, ns, y, rfl, S7.row, (by omega), (by omega), fun d H8 d0 d1 R8 k8 => ⟨_, _, rfl, rfl, (by show 5 ≤ sizeLine; decide), fun q hq => ?_⟩⟩
        have S8 := S7.taken R8 k8
        have nlq : lf ≠ q := ne_of_none S8.hl hq
        have ndq : df ≠ q := ne_of_none S8.hd hq
        have nld : lf ≠ df := ne_of S8.hl S8.hd (by intro z; cases z)
        have hal : as.length ≤ 20 := by
          have := PySem.Paired.length S8.ords
          have := S8.D.len
          omega
        refine ⟨lf, _, _, rfl, rfl, (by rw [upd_ne nlq]; exact S8.hl), (by rw [List.length_map, sizeLine_eq]; omega), ?_⟩
        refine ⟨_, rfl, _, _, rfl, rfl, _, rfl, _, rfl, df, _, rfl, DPut.k (k := Sum.inr (nmS a)) (by rw [upd_ne nld.symm, upd_ne ndq]; exact S8.hd) (small1000 (by have := S8.D.klen; omega)), ?_⟩
        have hqr : rw' ≠ q := by
          obtain ⟨xs, z⟩ := S8.row.ex
          exact ne_of_none z hq
        have kr9 : KeepR rw' H (upd (upd (upd H8 q (.tup [.str (nmS a), .str (nmS b), .int f, .int l, .int (1 + d)])) lf (.lst (as.map V.ref ++ [.ref q]))) df (.dK (putK kvs (.inr (nmS a)) (.int (l + 1))))) := fun c u e nc => by
          rw [upd_ne (ne_of_none e S8.nd), upd_ne (ne_of_none e S8.nl), upd_ne (ne_of_none (S8.kr c u e nc) hq)]
          exact S8.kr c u e nc
        refine ⟨as ++ [q], os ++ [⟨nmS a, nmS b, f, l, 1 + d⟩], putK kvs (.inr (nmS a)) (.int (l + 1)), _, _, _, _, _, _, rfl, kr9, ?_, ?_, upd_same, ?_, ?_, S8.nl, S8.nd, S8.lr, S8.dr⟩
        · exact R.via kr9 S8.row fun u e => by
            rw [upd_ne S8.dr.symm, upd_ne S8.lr.symm, upd_ne hqr]
            exact e
        · rw [upd_ne nld, upd_same, List.map_append]
          rfl
        · refine Paired.append (S8.ords.keepR fun c u e z => ?_) (.cons (.inl (.inl ?_)) .nil)
          · rw [upd_ne (fun x => by rw [x, S8.hd] at e; cases e; cases z), upd_ne (fun x => by rw [x, S8.hl] at e; cases e; cases z), upd_ne (ne_of_none e hq)]
            exact e
          · rw [upd_ne ndq.symm, upd_ne nlq.symm, upd_same]
            rfl
        · exact S8.D.snoc (by omega) (by omega) (by omega) ha hb (fun z => hne (by rw [z])) hz f0 g0 (by omega) (by omega) (by omega) (by omega)
      · rintro σ' H3 ⟨as, os, kvs, w6, w7, w8, w9, w10, w11, rfl, S3⟩
        exact ⟨as, os, kvs, r.toNat, w6, w7, w8, w9, w10, w11, by omega, rfl, S3⟩
    rintro σ H2 ⟨as, os, kvs, i, v6, v7, v8, v9, v10, v11, hi, rfl, S2⟩
    have hal := PySem.Paired.length S2.ords
    have hol := S2.D.len
    refine ⟨_, rfl, _, rfl, lf, _, rfl, .inl (SqL.of S2.hl), _, _, rfl, rfl, rw', sc, ns, _, rfl, S2.row, (by omega), (by rw [List.length_map]; omega), fun t H3 t0 t1 R3 k3 => ?_⟩
    rw [List.length_map] at t1
    obtain ⟨tn, rfl⟩ : ∃ tn : Nat, t = (tn : Int) := ⟨t.toNat, by omega⟩
    have S3 := S2.taken R3 k3
    refine ⟨_, rfl, _, rfl, _, rfl, lf, _, rfl, SqL.of S3.hl, fun p1 hp1 => ?_⟩
    have n1 : lf ≠ p1 := ne_of_none S3.hl hp1
    refine ⟨_, rfl, _, rfl, _, rfl, lf, _, rfl, SqL.of (by rw [upd_ne n1]; exact S3.hl), fun p2 hp2 => ?_⟩
    have n12 : p1 ≠ p2 := ne_of_none (o := _) upd_same hp2
    refine ⟨p1, p2, _, _, rfl, rfl, (by rw [upd_ne n12]; exact upd_same), upd_same, ?_, fun p3 hp3 => ?_⟩
    · have a1 := cutV_length (as.map V.ref) (some (tn : Int)) none
      have a2 := cutV_length (as.map V.ref) none (some (tn : Int))
      rw [List.length_map] at a1 a2
      rw [sizeLine_eq]
      omega
    have s1 : Same H3 (upd H3 p1 (.lst (cutV (as.map V.ref) (some (tn : Int)) none))) := Same.new hp1
    have s2 := MF.Same.upd (o := .lst (cutV (as.map V.ref) none (some (tn : Int)))) s1 hp2
    have s3 := MF.Same.upd (o := .lst (cutV (as.map V.ref) (some (tn : Int)) none ++ cutV (as.map V.ref) none (some (tn : Int)))) s2 hp3
    have hp30 : H3 p3 = none := s2.free hp3
    have hp00 : H p3 = none := by
      cases q : H p3 with
      | none => rfl
      | some u =>
        by_cases z : p3 = rw'
        · obtain ⟨xs, e⟩ := S3.row.ex
          rw [z, e] at hp30
          cases hp30
        · rw [S3.kr _ _ q z] at hp30
          cases hp30
    refine k _ p3 (as.drop tn ++ as.take tn) (os.drop tn ++ os.take tn) (S3.kr.trans (KeepR.of s3)) hp00 (S3.row.keep s3) ?_ ?_ (S3.D.done hi (by omega))
    · rw [upd_same, cut_drop _ _ (by rw [List.length_map]; omega), cut_take _ _ (by rw [List.length_map]; omega), List.map_append, List.map_drop, List.map_take]
    · exact OrdsAt.mono (Paired.append (pairedDrop tn S3.ords) (pairedTake tn S3.ords)) s3
end

end MF
set_option Elab.async false
set_option linter.all false
set_option maxRecDepth 100000
set_option maxHeartbeats 2000000
set_option pp.maxSteps 600
namespace MF
open PySem PySem.Spec PyProof.Rows L2 StX
section
variable {P : Program} {w : World} {K : PySem.W.Frag} {mg : Str → Option Value} {base : Heap} {C_Book C_Letter C_Walker C_MailError C_InvalidOrder C_UnknownOrder C_InvalidAddress C_InvalidDay C_InvalidNumber : Addr} {FL : Str}
theorem GoN.split {os : List Ordr} {goal : Str} : ∀ {m n : Nat} {s t : Pt} {us us' : List Nat}, GoN os goal s us (m + n) t us' → ∃ u b, GoN os goal s us m u b ∧ GoN os goal u b n t us'
  | 0, n, s, t, us, us', g => ⟨s, us, .refl _ _, by rw [Nat.zero_add] at g; exact g⟩
  | m + 1, n, s, t, us, us', g => by
    rw [Nat.succ_add] at g
    cases g with
    | step h e r =>
      obtain ⟨u, b, g1, g2⟩ := GoN.split r
      exact ⟨u, b, .step h e g1, g2⟩
theorem late_names {os : List Ordr} {M : Int} (g : Good os) (hM : ∀ o ∈ os, o.last < M) {goal : Str} : ∀ {N : Nat} {s t : Pt} {us us' : List Nat}, M ≤ s.2 → EndsN os goal s us N t us' → ∃ L : List Str, L.length = N ∧ L.Nodup ∧ ∀ y ∈ L, y ∈ os.map Ordr.src ∧ ∃ k d b, GoN os goal s us k (y, d) b := by
  intro N
  induction N with
  | zero => intro s t us us' _ _; exact ⟨[], rfl, List.nodup_nil, fun y h => by cases h⟩
  | succ N ih =>
    intro s t us us' hs e
    obtain ⟨gn, hn⟩ := e
    cases gn with
    | @step _ _ _ _ i n o h ei r =>
      have wy : ∀ o ∈ os, 1 ≤ o.way := fun o ho => (g.ok o ho).w1
      have w1 := wy o (List.mem_of_getElem? ei)
      obtain ⟨L, l1, l2, l3⟩ := ih (s := (o.tgt, s.2 + o.way)) (by show M ≤ s.2 + o.way; omega) ⟨r, hn⟩
      have ch : changes os s.2 = [] := by
        cases q : changes os s.2 with
        | nil => rfl
        | cons c cs =>
          exfalso
          obtain ⟨h1, p, hp, h2⟩ := mem_changes.mp (show c ∈ changes os s.2 by rw [q]; exact List.mem_cons_self)
          have := hM p hp
          have := (g.ok p hp).fl
          rcases h2 with h2 | h2 <;> omega
      have sr : o.src = s.1 := by
        unfold idxW at h
        cases q : ordFor os s.1 s.2 with
        | some j =>
          rw [q] at h
          cases h
          obtain ⟨p, ep, hp⟩ := ordFor_some q
          rw [ei] at ep
          cases ep
          simp only [holds, Bool.and_eq_true, decide_eq_true_eq] at hp
          exact hp.1
        | none =>
          rw [q] at h
          simp only [] at h
          by_cases c : s.1 = goal
          · rw [if_pos c] at h; cases h
          · rw [if_neg c] at h
            obtain ⟨p, ep, hp, _⟩ := lastEnd_some h
            rw [ei] at ep
            cases ep
            exact hp
      refine ⟨s.1 :: L, by rw [List.length_cons, l1], List.nodup_cons.mpr ⟨fun hm => ?_, l2⟩, fun y hy => ?_⟩
      · obtain ⟨_, k, d, b, gk⟩ := l3 _ hm
        have g0 : GoN os goal (s.1, s.2) us (k + 1) (s.1, d) b := .step h ei gk
        exact noEnd_of wy g0 g0 (Nat.succ_pos _) ch (N + 1) t us' ⟨.step h ei r, hn⟩
      · rcases List.mem_cons.mp hy with rfl | hy
        · exact ⟨List.mem_map.mpr ⟨o, List.mem_of_getElem? ei, sr⟩, 0, s.2, us, .refl _ _⟩
        · obtain ⟨h1, k, d, b, gk⟩ := l3 y hy
          exact ⟨h1, k + 1, d, b, .step h ei gk⟩
theorem walk_few {os : List Ordr} {M : Nat} (g : Good os) (hM : ∀ o ∈ os, o.last < (M : Int)) {goal : Str} {N : Nat} {s t : Pt} {us us' : List Nat} (hs : 0 ≤ s.2) (e : EndsN os goal s us N t us') : N ≤ M + os.length := by
  by_cases c : N ≤ M
  · omega
  · obtain ⟨n, rfl⟩ : ∃ n, N = M + n := ⟨N - M, by omega⟩
    obtain ⟨u, b, g1, g2⟩ := GoN.split e.1
    have hd := g1.day fun o ho => (g.ok o ho).w1
    obtain ⟨L, l1, l2, l3⟩ := late_names g hM (s := u) (by omega) ⟨g2, e.2⟩
    have := lenSubG l2 fun y hy => (l3 y hy).1
    rw [List.length_map] at this
    omega
def WL (os : List Ordr) (A : Nat → Prop) (g : Str) (s : Pt) : Option (List Nat × Int) → Prop
  | some (us, d) => ∃ N, N < 400 ∧ EndsN os g s [] N (g, d) us ∧ ∀ j ∈ us, A j
  | none => ∀ N us d, N < 400 → EndsN os g s [] N (g, d) us → ∃ j ∈ us, ¬ A j
theorem wl_all {os : List Ordr} {g : Str} {s : Pt} {r r' : Option (List Nat × Int)} (hN : ∀ N t us, EndsN os g s [] N t us → N < 400) (h : WTo os g s r) (h' : WL os (fun j => j < os.length) g s r') : r = r' := by
  cases r with
  | none =>
    cases r' with
    | none => rfl
    | some p =>
      obtain ⟨us, d⟩ := p
      obtain ⟨N, _, e, _⟩ := h'
      rcases h with h | ⟨N', t, us', e', ne⟩
      · exact absurd e (h _ _ _)
      · obtain ⟨_, q, _⟩ := e.uniq e'
        exact absurd (by rw [← q]) ne
  | some p =>
    obtain ⟨us, d⟩ := p
    obtain ⟨N, e⟩ := h
    cases r' with
    | none =>
      obtain ⟨j, hj, nj⟩ := h' N us d (hN _ _ _ e) e
      exact absurd ((e.1.nodup ⟨List.nodup_nil, fun _ z => by cases z⟩).2 j hj) nj
    | some p' =>
      obtain ⟨us', d'⟩ := p'
      obtain ⟨N', _, e', _⟩ := h'
      obtain ⟨_, q, q2⟩ := e.uniq e'
      cases q
      rw [q2]
theorem wl_less {os : List Ordr} {g : Str} {s : Pt} {us : List Nat} {d : Int} {k : Nat} {r : Option (List Nat × Int)} (h : WTo os g s (some (us, d))) (hk : k ∈ us) (h' : WL os (fun j => j < os.length ∧ j ≠ k) g s r) : r = none := by
  cases r with
  | none => rfl
  | some p =>
    obtain ⟨us', d'⟩ := p
    obtain ⟨N, e⟩ := h
    obtain ⟨N', _, e', ha⟩ := h'
    obtain ⟨_, _, q⟩ := e.uniq e'
    rw [q] at hk
    exact absurd rfl (ha k hk).2
end

end MF
set_option Elab.async false
set_option linter.all false
set_option maxRecDepth 100000
set_option maxHeartbeats 2000000
set_option pp.maxSteps 600
namespace MF
open PySem PySem.Spec PyProof.Rows L2 StX
section
variable {P : Program} {w : World} {K : PySem.W.Frag} {mg : Str → Option Value} {base : Heap} {C_Book C_Letter C_Walker C_MailError C_InvalidOrder C_UnknownOrder C_InvalidAddress C_InvalidDay C_InvalidNumber : Addr} {FL : Str}
def FirstOf (os : List Ordr) (z : Str) (d : Int) (i : Nat) (js : List Nat) : Prop := (js = [] ∧ ∀ (j : Nat) q, j < i → os[j]? = some q → holds q z d = false) ∨ ∃ j rest, js = j :: rest ∧ ordFor os z d = some j
def spIndex (K : PySem.W.Frag) : Sp := fun vs H Q _ => ∃ l as os z d, vs = [.ref l, .str z, .int d] ∧ SqL K H l (as.map V.ref) ∧ OrdsAt K H as os ∧ os.length ≤ 30 ∧ ∀ H', Same H H' → Q (optI (ordFor os z d)) H'
theorem DpAll.nats {H : Hp} : ∀ ns : List Nat, DpAll K H (ns.map fun (n : Nat) => V.int (n : Int)) ((ns.map fun (n : Nat) => (n : Int)).map PyData.int)
  | [] => .nil
  | n :: ns => .cons (.int _) (DpAll.nats ns)
theorem ok_index (T : Top K mg C_Book C_Letter C_Walker C_MailError C_InvalidOrder C_UnknownOrder C_InvalidAddress C_InvalidDay C_InvalidNumber FL) : GFn P w K mg base CX0 1 "_law_index" (spIndex K) := by
  refine T.d__law_index.fn fun f fd F => F.ok sc__law_index (fun vs H Q E h => ?_) (fun cdv A outer s H vs Q E hr h => ?_)
  · obtain ⟨l, as, os, z, d, rfl, _⟩ := h
    rfl
  · obtain ⟨l, as, os, z, d, rfl, hl, ho, h30, k⟩ := h
    refine ⟨_, (pss_cons (ps_setLc (i := 3) (own := [("_law_k", 4)]) (g := (gName 4)) (by rfl) sc__law_index.nd rfl rfl (sw_true rfl rfl rfl (by decide +kernel)) (pi_range1 (by rfl) T.b_range (pa_cons (pe_callB call_len_seq (by rfl) T.b_len (by decide +kernel) (pa_cons (pv 0) pa_nil)) pa_nil)) (blkOk_by (own := [("_law_k", 4)]) (N := ["_law_orders_here", "_law_address", "_law_day", "_law_found", "_law_k"]) (sc := defScope s__law_index) (by decide +kernel)) (fun _ _ _ _ _ => (pg_name (i := 4) sc__law_index.nd rfl (Or.inl rfl))) (fun _ _ _ _ _ => (pts_one (PW.pt (pw_and (pt_cmpR op_eq (pe_ix (ix_tupK (K := K)) (pe_ix (ix_listK (K := K)) (pv 0) (pv 4) (fun _ _ => rfl)) pe_int (fun _ _ => rfl)) (pv 1) (nomark _)) (pw_and1 (pt_chain op_le op_le (pe_ix (ix_tupK (K := K)) (pe_ix (ix_listK (K := K)) (pv 0) (pv 4) (fun _ _ => rfl)) pe_int (fun _ _ => rfl)) (pv 2) (pe_ix (ix_tupK (K := K)) (pe_ix (ix_listK (K := K)) (pv 0) (pv 4) (fun _ _ => rfl)) pe_int (fun _ _ => rfl)))))))) (fun _ _ _ _ _ => (pv 4)))
  (pss_one (ps_ret (pe_ifExp (pt_cmpR (op_neD hr.units) (pv 3) (pe_lst pa_nil) (nomark _)) (pe_ix ix_list (pv 3) pe_int (fun _ _ => rfl)) pe_non)))), ?_⟩
    have la : as.length = os.length := PySem.Paired.length ho
    have lm : (as.map V.ref).length = as.length := List.length_map ..
    refine ⟨_, rfl, l, _, rfl, .inl hl, _, rfl, (by omega), (by omega), fun D hD => ?_⟩
    have sD : Same H (upd H D (.lst [])) := Same.new hD
    refine lc_it walk_range (fun i H' => Same H H' ∧ ∃ js : List Nat, H' D = some (.lst (js.map fun (n : Nat) => V.int (n : Int))) ∧ js.length ≤ i ∧ FirstOf os z d i js) ⟨sD, [], upd_same, Nat.le_refl _, .inl ⟨rfl, fun j q hj => absurd hj (Nat.not_lt_zero _)⟩⟩ (fun _ _ _ _ => trivial) ?_ ?_
    · rintro i y H1 H2 hi ⟨s1, js, d1, jl, fo⟩ ⟨rfl, rfl⟩
      have hi' : i < as.length := by
        rw [lm] at hi
        simpa using hi
      obtain ⟨a, ea⟩ : ∃ a, as[i]? = some a := ⟨as[i], by simp [hi']⟩
      obtain ⟨o, eo, oa⟩ := Paired.get ho ea
      have hl1 := s1.seq hl
      have oa1 := oa.mono s1
      have at1 : atI (as.map V.ref) (0 + (i : Int)) = some (V.ref a) := by
        rw [Int.zero_add]
        exact atI_nat (by rw [List.getElem?_map, ea]; rfl)
      have no : holds o z d = false → Same H H2 ∧ ∃ js : List Nat, H2 D = some (.lst (js.map fun (n : Nat) => V.int (n : Int))) ∧ js.length ≤ i + 1 ∧ FirstOf os z d (i + 1) js := fun hh => by
        refine ⟨s1, js, d1, Nat.le_succ_of_le jl, ?_⟩
        rcases fo with ⟨e, h⟩ | h
        · refine .inl ⟨e, fun j q hj ej => ?_⟩
          by_cases hji : j < i
          · exact h j q hji ej
          · have : j = i := by omega
            subst this
            rw [eo] at ej
            cases ej
            exact hh
        · exact .inr h
      refine ⟨rfl, ?_⟩
      refine ⟨_, rfl, _, rfl, l, _, _, _, rfl, rfl, hl1, at1, a, _, _, _, rfl, rfl, oa1, rfl, _, rfl, rfl, _, rfl, ?_⟩
      refine ite2 (fun c1 => ?_) (fun c1 => ?_)
      · have c1' : o.src = z := V.str.inj (of_decide_eq_true c1)
        refine ⟨_, rfl, _, rfl, l, _, _, _, rfl, rfl, hl1, at1, a, _, _, _, rfl, rfl, oa1, rfl, _, rfl, _, _, rfl, rfl, _, rfl, ?_⟩
        refine ite2 (fun c2 => ?_) (fun c2 => ?_)
        · have c2' : o.first ≤ d := of_decide_eq_true c2
          refine ⟨_, rfl, _, rfl, l, _, _, _, rfl, rfl, hl1, at1, a, _, _, _, rfl, rfl, oa1, rfl, _, _, rfl, rfl, _, rfl, ?_⟩
          refine ite2 (fun c3 => ?_) (fun c3 => ?_)
          · have c3' : d ≤ o.last := of_decide_eq_true c3
            have hh : holds o z d = true := by simp [holds, c1', c2', c3']
            refine ⟨_, rfl, _, d1, ?_, ?_, js ++ [i], ?_, ?_, ?_⟩
            · rw [List.length_map]
              have : (31 : Nat) ≤ sizeLine := by decide
              omega
            · intro b u e
              have nb : b ≠ D := ne_of_none e hD
              rw [upd_ne nb]
              exact s1 b u e
            · rw [upd_same, List.map_append]
              simp
            · rw [List.length_append]
              simp
              omega
            · rcases fo with ⟨e, h⟩ | ⟨j, rest, e, h⟩
              · subst e
                exact .inr ⟨i, [], rfl, ordFor_is h eo hh⟩
              · subst e
                exact .inr ⟨j, rest ++ [i], rfl, h⟩
          · have c3' : ¬ d ≤ o.last := fun q => c3 (decide_eq_true q)
            exact no (by simp [holds, c3'])
        · have c2' : ¬ o.first ≤ d := fun q => c2 (decide_eq_true q)
          refine ⟨_, rfl, iteF ?_⟩
          exact no (by simp [holds, c2'])
      · have c1' : ¬ o.src = z := fun q => c1 (decide_eq_true (congrArg V.str q))
        exact iteF (no (by simp [holds, c1']))
    · rintro H1 ⟨s1, js, d1, jl, fo⟩
      refine ⟨_, rfl, Nat.zero_le _, fun r hr0 => ?_⟩
      have s2 := MF.Same.upd (o := .lst []) s1 hr0
      have nDr : D ≠ r := ne_of_none d1 hr0
      have d2 : upd H1 r (.lst []) D = some (.lst (js.map fun (n : Nat) => V.int (n : Int))) := by rw [upd_ne nDr]; exact d1
      refine ⟨.list ((js.map fun (n : Nat) => (n : Int)).map PyData.int), .list [], .lst (SqL.of d2) (DpAll.nats _), .lst (SqL.of upd_same) .nil, PySem.W.ke_shaped_ints _, rfl, _, rfl, ?_⟩
      rcases fo with ⟨e, h⟩ | ⟨j, rest, e, h⟩
      · subst e
        refine iteF ?_
        have e : ordFor os z d = none := ordFor_none fun q hq => by
          obtain ⟨j, hj, ej⟩ := List.getElem_of_mem hq
          refine h j q ?_ (by rw [List.getElem?_eq_getElem hj, ej])
          rw [lm, la]
          simpa using hj
        have := k _ s2
        rw [e] at this
        exact this
      · subst e
        refine iteT ?_
        refine ⟨_, rfl, D, _, _, _, rfl, rfl, SqL.of d2, atI_nat (j := 0) rfl, ?_⟩
        have := k _ s2
        rw [h] at this
        exact this
end

end MF
set_option Elab.async false
set_option linter.all false
set_option maxRecDepth 100000
set_option maxHeartbeats 2000000
set_option pp.maxSteps 600
namespace MF
open PySem PySem.Spec PyProof.Rows L2 StX
section
variable {P : Program} {w : World} {K : PySem.W.Frag} {mg : Str → Option Value} {base : Heap} {C_Book C_Letter C_Walker C_MailError C_InvalidOrder C_UnknownOrder C_InvalidAddress C_InvalidDay C_InvalidNumber : Addr} {FL : Str}
theorem kA_tuple : PySem.W.kitAny K (.type "tuple") [.type "tuple", .type "list"] = some true := kitAny_cons kt_tuple_tuple (fun z => by cases z) (fun _ => rfl)
theorem kA_list : PySem.W.kitAny K (.type "list") [.type "tuple", .type "list"] = some true := kitAny_cons kt_list_tuple (fun _ => kitAny_cons kt_list_list (fun z => by cases z) (fun _ => rfl)) (fun z => by cases z)
theorem kA_int : PySem.W.kitAny K (.type "int") [.type "tuple", .type "list"] = some false := kitAny_cons kt_int_tuple (fun _ => kitAny_cons kt_int_list (fun _ => kitAny_nil) (fun z => by cases z)) (fun z => by cases z)
theorem kA_bool : PySem.W.kitAny K (.type "bool") [.type "tuple", .type "list"] = some false := kitAny_cons kt_bool_tuple (fun _ => kitAny_cons kt_bool_list (fun _ => kitAny_nil) (fun z => by cases z)) (fun z => by cases z)
theorem kA_str : PySem.W.kitAny K (.type "str") [.type "tuple", .type "list"] = some false := kitAny_cons kt_str_tuple (fun _ => kitAny_cons kt_str_list (fun _ => kitAny_nil) (fun z => by cases z)) (fun z => by cases z)
theorem kA_none : PySem.W.kitAny K (.type "NoneType") [.type "tuple", .type "list"] = some false := kitAny_cons kt_NoneType_tuple (fun _ => kitAny_cons kt_NoneType_list (fun _ => kitAny_nil) (fun z => by cases z)) (fun z => by cases z)
theorem canLay_mem {d : PyData} : ∀ {ds : List PyData}, PyData.canLayAll0 ds = true → d ∈ ds → d.canLay0 = true
  | [], _, h => by cases h
  | e :: ds, c, h => by
    simp only [PyData.canLayAll0, Bool.and_eq_true] at c
    rcases List.mem_cons.mp h with rfl | h
    · exact c.1
    · exact canLay_mem c.2 h
theorem depth_mem {d : PyData} : ∀ {ds : List PyData}, d ∈ ds → d.depth ≤ PyData.depthAll ds
  | [], h => by cases h
  | e :: ds, h => by
    rw [PyData.depthAll]
    rcases List.mem_cons.mp h with rfl | h
    · exact Nat.le_max_left _ _
    · exact Nat.le_trans (depth_mem h) (Nat.le_max_right _ _)
theorem DpAll.get {H : Hp} : ∀ {xs : List V} {ds : List PyData} {i : Nat} {x : V}, DpAll K H xs ds → xs[i]? = some x → ∃ d, ds[i]? = some d ∧ Dp K H x d
  | _, _, _, _, .nil, e => by simp at e
  | _, _, 0, _, .cons h _, e => by simp at e; subst e; exact ⟨_, rfl, h⟩
  | _, _, i + 1, _, .cons _ t, e => by
    obtain ⟨d, h1, h2⟩ := DpAll.get (i := i) t (by simpa using e)
    exact ⟨d, by simpa using h1, h2⟩
theorem DpAll.len {H : Hp} : ∀ {xs : List V} {ds : List PyData}, DpAll K H xs ds → xs.length = ds.length
  | _, _, .nil => rfl
  | _, _, .cons _ t => by simp [DpAll.len t]
mutual
theorem Dp.mono {H H' : Hp} (s : Same H H') : ∀ {x : V} {d : PyData}, Dp K H x d → Dp K H' x d
  | _, _, .non => .non
  | _, _, .bl b => .bl b
  | _, _, .int i => .int i
  | _, _, .str x => .str x
  | _, _, .lst h a => .lst (s.seq h) (DpAll.mono s a)
  | _, _, .tup h a => .tup (MF.Same.tup s h) (DpAll.mono s a)
theorem DpAll.mono {H H' : Hp} (s : Same H H') : ∀ {xs : List V} {ds : List PyData}, DpAll K H xs ds → DpAll K H' xs ds
  | _, _, .nil => .nil
  | _, _, .cons h t => .cons (Dp.mono s h) (DpAll.mono s t)
end
mutual
def smallD : PyData → Bool
  | .list ds | .tuple ds => decide (ds.length ≤ 1000000) && smallAll ds
  | .none | .bool _ | .int _ | .str _ => true
  | .dict _ => false
def smallAll : List PyData → Bool
  | [] => true
  | d :: ds => smallD d && smallAll ds
end
theorem small_mem {d : PyData} : ∀ {ds : List PyData}, smallAll ds = true → d ∈ ds → smallD d = true
  | [], _, h => by cases h
  | e :: ds, c, h => by
    simp only [smallAll, Bool.and_eq_true] at c
    rcases List.mem_cons.mp h with rfl | h
    · exact c.1
    · exact small_mem c.2 h
def spAlike (K : PySem.W.Frag) (n : Nat) : Sp := fun vs H Q _ => ∃ x y d, vs = [x, y] ∧ Dp K H x d ∧ Dp K H y d ∧ d.canLay0 = true ∧ d.depth ≤ n ∧ smallD d = true ∧ ∀ H', Same H H' → Q (.bl true) H'
def SeqAt' (K : PySem.W.Frag) (H : Hp) (a : Addr) (tp : Bool) (xs : List V) : Prop := if tp = true then SqT K H a xs else SqL K H a xs
theorem SeqAt'.mono {H H' : Hp} {a : Addr} {tp : Bool} {xs : List V} (s : Same H H') (h : SeqAt' K H a tp xs) : SeqAt' K H' a tp xs := by
  cases tp
  · exact s.seq h
  · exact MF.Same.tup s h
theorem SeqAt'.ty {H : Hp} {a : Addr} {tp : Bool} {xs : List V} (h : SeqAt' K H a tp xs) : TyX K H (.ref a) (.type (if tp = true then "tuple" else "list")) := by
  cases tp
  · exact tyL h
  · exact tyT h
theorem SeqAt'.ix {H : Hp} {a : Addr} {tp : Bool} {xs : List V} {i : Nat} {v : V} {Q : VK} (h : SeqAt' K H a tp xs) (e : xs[i]? = some v) (q : Q v H) : rIx K (.ref a) (.int (0 + (i : Int))) H Q := by
  rw [Int.zero_add]
  cases tp
  · exact .inl ⟨a, xs, _, v, rfl, rfl, h, atI_nat e, q⟩
  · exact .inr (.inl ⟨a, xs, _, v, rfl, rfl, h, atI_nat e, q⟩)
theorem SeqAt'.len {H : Hp} {a : Addr} {tp : Bool} {xs : List V} (h : SeqAt' K H a tp xs) : SqL K H a xs ∨ SqT K H a xs := by
  cases tp
  · exact .inl h
  · exact .inr h
theorem kA_seq (tp : Bool) : PySem.W.kitAny K (.type (if tp = true then "tuple" else "list")) [.type "tuple", .type "list"] = some true := by
  cases tp
  · exact kA_list
  · exact kA_tuple
theorem kt_seq (tp : Bool) : PySem.W.kitOne K (.type (if tp = true then "tuple" else "list")) (.type "tuple") = some tp := by
  cases tp
  · exact kt_list_tuple
  · exact kt_tuple_tuple
def spAl (K : PySem.W.Frag) : Nat → Sp
  | 0 => fun _ _ _ _ => False
  | m + 1 => spAlike K m
theorem alike_cases {H : Hp} {x y : V} {d : PyData} {n : Nat} (hx : Dp K H x d) (hy : Dp K H y d) (cl : d.canLay0 = true) (dp : d.depth ≤ n) (sm : smallD d = true) :
    (∃ T1 b, y = x ∧ (∀ H', TyX K H' x (.type T1)) ∧ PySem.W.kitAny K (.type T1) [.type "tuple", .type "list"] = some false ∧ scal x x = true ∧ PySem.W.kitOne K (.type T1) (.type "bool") = some b) ∨
    (∃ a a' tp xs ys ds, x = .ref a ∧ y = .ref a' ∧ SeqAt' K H a tp xs ∧ SeqAt' K H a' tp ys ∧ DpAll K H xs ds ∧ DpAll K H ys ds ∧ PyData.canLayAll0 ds = true ∧ PyData.depthAll ds + 1 ≤ n ∧ ds.length ≤ 1000000 ∧ smallAll ds = true) := by
  cases hx with
  | non => cases hy; exact .inl ⟨"NoneType", _, rfl, fun _ => .base .non, kA_none, rfl, kt_NoneType_bool⟩
  | bl b => cases hy; exact .inl ⟨"bool", _, rfl, fun _ => .base (.bl b), kA_bool, rfl, kt_bool_bool⟩
  | int i => cases hy; exact .inl ⟨"int", _, rfl, fun _ => .base (.int i), kA_int, rfl, kt_int_bool⟩
  | str z => cases hy; exact .inl ⟨"str", _, rfl, fun _ => .base (.str z), kA_str, rfl, kt_str_bool⟩
  | lst h1 a1 =>
    cases hy with
    | lst h2 a2 =>
      simp only [smallD, Bool.and_eq_true, decide_eq_true_eq] at sm
      exact .inr ⟨_, _, false, _, _, _, rfl, rfl, h1, h2, a1, a2, cl, dp, sm.1, sm.2⟩
  | tup h1 a1 =>
    cases hy with
    | tup h2 a2 =>
      simp only [smallD, Bool.and_eq_true, decide_eq_true_eq] at sm
      exact .inr ⟨_, _, true, _, _, _, rfl, rfl, h1, h2, a1, a2, cl, dp, sm.1, sm.2⟩
theorem alike_step (T : Top K mg C_Book C_Letter C_Walker C_MailError C_InvalidOrder C_UnknownOrder C_InvalidAddress C_InvalidDay C_InvalidNumber FL) (n : Nat) (G__law_alike : GFn P w K mg base CX0 n "_law_alike" (spAl K n)) : GFn P w K mg base CX0 (n + 1) "_law_alike" (spAlike K n) := by
  refine T.d__law_alike.fn fun f fd F => F.ok sc__law_alike (fun vs H Q E h => ?_) (fun cdv A outer s H vs Q E hr h => ?_)
  · obtain ⟨x, y, d, rfl, _⟩ := h
    rfl
  · obtain ⟨x, y, d, rfl, hx, hy, cl, dp, sm, k⟩ := h
    refine ⟨_, (pss_cons (ps_if (PW.pt (pw_and (pt_val (pe_callB call_isiT (by rfl) T.b_isinstance (by decide +kernel) (pa_cons (pv 0) (pa_cons (pe_tup (pa_cons (pe_bltn (v := .ty "tuple") (by rfl) T.b_tuple (by decide +kernel) rfl) (pa_cons (pe_bltn (v := .ty "list") (by rfl) T.b_list (by decide +kernel) rfl) pa_nil))) pa_nil)))) (pw_and1 (pt_val (pe_callB call_isiT (by rfl) T.b_isinstance (by decide +kernel) (pa_cons (pv 1) (pa_cons (pe_tup (pa_cons (pe_bltn (v := .ty "tuple") (by rfl) T.b_tuple (by decide +kernel) rfl) (pa_cons (pe_bltn (v := .ty "list") (by rfl) T.b_list (by decide +kernel) rfl) pa_nil))) pa_nil)))))))
  (pss_cons (ps_if (PW.pt (pw_or (pt_cmpR op_ne (pe_callB call_isi (by rfl) T.b_isinstance (by decide +kernel) (pa_cons (pv 0) (pa_cons (pe_bltn (v := .ty "tuple") (by rfl) T.b_tuple (by decide +kernel) rfl) pa_nil))) (pe_callB call_isi (by rfl) T.b_isinstance (by decide +kernel) (pa_cons (pv 1) (pa_cons (pe_bltn (v := .ty "tuple") (by rfl) T.b_tuple (by decide +kernel) rfl) pa_nil))) (nomark _)) (pw_or1 (pt_cmpR op_ne (pe_callB call_len_seq (by rfl) T.b_len (by decide +kernel) (pa_cons (pv 0) pa_nil)) (pe_callB call_len_seq (by rfl) T.b_len (by decide +kernel) (pa_cons (pv 1) pa_nil)) (nomark _)))))
  (pss_one (ps_ret pe_bl))
  pss_nil)
  (pss_one (ps_ret (pe_cmpR (op_eqD hr.units) (pe_lc (own := [("_law_k", 2)]) (g := (gName 2)) (by rfl) sc__law_alike.nd (pi_range1 (by rfl) T.b_range (pa_cons (pe_callB call_len_seq (by rfl) T.b_len (by decide +kernel) (pa_cons (pv 0) pa_nil)) pa_nil)) (blkOk_by (own := [("_law_k", 2)]) (N := ["_law_one", "_law_due", "_law_k"]) (sc := defScope s__law_alike) (by decide +kernel)) (fun _ _ _ _ _ => (pg_name (i := 2) sc__law_alike.nd rfl (Or.inl rfl))) (fun _ _ _ _ _ => (pts_one (pt_not (pt_val (pe_g G__law_alike hr (pa_cons (pe_ix (ix_seqK (K := K)) (pv 0) (pv 2) (fun _ _ => rfl)) (pa_cons (pe_ix (ix_seqK (K := K)) (pv 1) (pv 2) (fun _ _ => rfl)) pa_nil))))))) (fun _ _ _ _ _ => (pv 2))) (pe_lst pa_nil) (nomark _)))))
  pss_nil)
  (pss_one (ps_ret (pe_and (pe_cmpR op_eq (pv 0) (pv 1) (nomark _)) (pe_one (pe_cmpR op_eq (pe_callB call_isi (by rfl) T.b_isinstance (by decide +kernel) (pa_cons (pv 0) (pa_cons (pe_bltn (v := .ty "bool") (by rfl) T.b_bool (by decide +kernel) rfl) pa_nil))) (pe_callB call_isi (by rfl) T.b_isinstance (by decide +kernel) (pa_cons (pv 1) (pa_cons (pe_bltn (v := .ty "bool") (by rfl) T.b_bool (by decide +kernel) rfl) pa_nil))) (nomark _))))))), ?_⟩
    rcases alike_cases hx hy cl dp sm with ⟨T1, b, rfl, ty, ka, sc, kb⟩ | ⟨a, a', tp, xs, ys, ds, rfl, rfl, q1, q2, p1, p2, cl2, dp2, sm2, sm3⟩
    · refine ⟨_, rfl, (by show 2 ≤ sizeLine; decide), fun tp htp => ?_⟩
      refine ⟨_, tp, _, _, _, false, rfl, upd_same, .cons (.ty "tuple") (.cons (.ty "list") .nil), ty _, ka, false, rfl, iteF (iteF ?_)⟩
      refine ⟨_, rfl, _, rfl, sc, _, rfl, iteD rfl ?_⟩
      refine ⟨_, rfl, _, _, _, _, b, rfl, .ty "bool", ty _, kb, _, rfl, _, _, _, _, b, rfl, .ty "bool", ty _, kb, rfl, ?_⟩
      rw [decide_eq_true rfl]
      exact k _ (Same.new htp)
    · refine ⟨_, rfl, (by show 2 ≤ sizeLine; decide), fun t1 ht1 => ?_⟩
      have s1 : Same H (upd H t1 (.tup [.ty "tuple", .ty "list"])) := Same.new ht1
      refine ⟨_, t1, _, _, _, true, rfl, upd_same, .cons (.ty "tuple") (.cons (.ty "list") .nil), (q1.mono s1).ty, kA_seq tp, true, rfl, iteT ?_⟩
      refine ⟨_, rfl, (by show 2 ≤ sizeLine; decide), fun t2 ht2 => ?_⟩
      have s2 : Same H (upd (upd H t1 (.tup [.ty "tuple", .ty "list"])) t2 (.tup [.ty "tuple", .ty "list"])) := MF.Same.upd s1 ht2
      refine ⟨_, t2, _, _, _, true, rfl, upd_same, .cons (.ty "tuple") (.cons (.ty "list") .nil), (q2.mono s2).ty, kA_seq tp, true, rfl, iteT ?_⟩
      generalize upd (upd H t1 _) t2 _ = H2 at s2
      refine ⟨_, rfl, _, _, _, _, tp, rfl, .ty "tuple", (q1.mono s2).ty, kt_seq tp, _, rfl, _, _, _, _, tp, rfl, .ty "tuple", (q2.mono s2).ty, kt_seq tp, rfl, _, rfl, iteND rfl ?_⟩
      have l1 := MF.DpAll.len p1
      have l2 := MF.DpAll.len p2
      refine ⟨_, rfl, a, xs, rfl, (q1.mono s2).len, _, rfl, a', ys, rfl, (q2.mono s2).len, rfl, _, rfl, iteND (by rw [l1, l2]) ?_⟩
      refine ⟨_, rfl, a, xs, rfl, (q1.mono s2).len, _, rfl, (by omega), (by omega), fun D hD => ?_⟩
      have sD := MF.Same.upd (o := .lst []) s2 hD
      refine lc_it walk_range (fun i H' => Same H H' ∧ H' D = some (.lst [])) ⟨sD, upd_same⟩ (fun _ _ _ _ => trivial) ?_ ?_
      · rintro i z H3 H4 hi ⟨s3, d3⟩ ⟨rfl, rfl⟩
        have hi' : i < xs.length := by simpa using hi
        obtain ⟨v, ev⟩ : ∃ v, xs[i]? = some v := ⟨xs[i], by simp [hi']⟩
        obtain ⟨u, eu⟩ : ∃ u, ys[i]? = some u := ⟨ys[i]'(by omega), by simp [show i < ys.length by omega]⟩
        obtain ⟨dv, edv, pv'⟩ := MF.DpAll.get p1 ev
        obtain ⟨du, edu, pu'⟩ := MF.DpAll.get p2 eu
        rw [edv] at edu
        cases edu
        have md : dv ∈ ds := List.mem_of_getElem? edv
        refine ⟨rfl, ?_⟩
        refine ⟨_, rfl, _, rfl, (q1.mono s3).ix ev ?_⟩
        refine ⟨_, rfl, _, rfl, (q2.mono s3).ix eu ?_⟩
        have dm := depth_mem md
        cases n with
        | zero => omega
        | succ m =>
          refine ⟨v, u, dv, rfl, Dp.mono s3 pv', Dp.mono s3 pu', canLay_mem cl2 md, by omega, small_mem sm3 md, fun H5 s5 => ⟨_, rfl, iteF ?_⟩⟩
          exact ⟨s3.trans s5, s5 _ _ d3⟩
      · rintro H3 ⟨s3, d3⟩
        refine ⟨Nat.zero_le _, fun r hr0 => ?_⟩
        have s4 := MF.Same.upd (o := .lst []) s3 hr0
        have nDr : D ≠ r := ne_of_none d3 hr0
        refine ⟨.list [], .list [], .lst (SqL.of (by rw [upd_ne nDr]; exact d3)) .nil, .lst (SqL.of upd_same) .nil, rfl, rfl, ?_⟩
        exact k _ s4
theorem ok_alike (T : Top K mg C_Book C_Letter C_Walker C_MailError C_InvalidOrder C_UnknownOrder C_InvalidAddress C_InvalidDay C_InvalidNumber FL) : ∀ n, GFn P w K mg base CX0 (n + 1) "_law_alike" (spAlike K n)
  | 0 => alike_step T 0 (by
      obtain ⟨f, fd, F, hm, hb⟩ := T.d__law_alike.ex
      exact ⟨f, (fun _ _ _ _ _ _ _ _ _ _ _ z => z.elim), hm, F.kp⟩)
  | n + 1 => alike_step T (n + 1) (ok_alike T n)
end

end MF
set_option Elab.async false
set_option linter.all false
set_option maxRecDepth 100000
set_option maxHeartbeats 2000000
set_option pp.maxSteps 600
namespace MF
open PySem PySem.Spec PyProof.Rows L2 StX
section
theorem strOk_addr {z : Str} (h : isAddrB (.str z) = true) : PyData.strOk z = true := by
  simp only [isAddrB, Bool.and_eq_true, decide_eq_true_eq, List.all_eq_true] at h
  unfold PyData.strOk
  rw [← Array.all_toList, List.all_eq_true]
  intro c hc
  have hl : ∀ c ∈ letters.cps.toList, c < 1114112 := by decide
  exact decide_eq_true (hl c (by have := h.2 c hc; simpa using this))
theorem shaped_pt {z : Str} {d : Int} (h : isAddrB (.str z) = true) : SeqAt.shaped (.tuple [.str z, .int d]) = true := by
  have : (PyData.tuple [.str z, .int d]).canLay0 = true := by
    simp only [PyData.canLay0, PyData.canLayAll0, strOk_addr h, Bool.and_true]
  unfold SeqAt.shaped
  rw [this]
  rfl
theorem eqv_pt (A B : Pt) : PyData.eqv (.tuple [.str A.1, .int A.2]) (.tuple [.str B.1, .int B.2]) = decide (A = B) := by
  obtain ⟨a, b⟩ := A
  obtain ⟨c, d⟩ := B
  simp only [PyData.eqv, PyData.eqvAll, Bool.and_true]
  rw [Bool.eq_iff_iff]
  simp
end

end MF
set_option Elab.async false
set_option linter.all false
set_option maxRecDepth 100000
set_option maxHeartbeats 2000000
set_option pp.maxSteps 600
namespace MF
open PySem PySem.Spec PyProof.Rows L2 StX
section
variable {P : Program} {w : World} {K : PySem.W.Frag} {mg : Str → Option Value} {base : Heap} {C_Book C_Letter C_Walker C_MailError C_InvalidOrder C_UnknownOrder C_InvalidAddress C_InvalidDay C_InvalidNumber : Addr} {FL : Str}
theorem dp_strs {H : Hp} : ∀ ys : List Str, DpAll K H (ys.map V.str) (ys.map PyData.str)
  | [] => .nil
  | y :: ys => .cons (.str y) (dp_strs ys)
theorem eqv_strs : ∀ a b : List Str, PyData.eqvAll (a.map PyData.str) (b.map PyData.str) = decide (a = b)
  | [], [] => by simp [PyData.eqvAll]
  | [], b :: bs => by simp [PyData.eqvAll]
  | a :: as, [] => by simp [PyData.eqvAll]
  | a :: as, b :: bs => by
    rw [List.map_cons, List.map_cons, PyData.eqvAll, eqv_strs as bs]
    by_cases c : a = b
    · subst c
      simp [PyData.eqv]
    · simp [PyData.eqv, c]
theorem lay_strs {ys : List Str} (h : ∀ y ∈ ys, isAddrB (.str y) = true) : PyData.canLayAll0 (ys.map PyData.str) = true := by
  induction ys with
  | nil => simp [PyData.canLayAll0]
  | cons y ys ih =>
    rw [List.map_cons]
    simp only [PyData.canLayAll0, PyData.canLay0, ih fun z hz => h z (by simp [hz]), strOk_addr (h y (by simp)), Bool.and_self]
theorem depth_strs : ∀ ys : List Str, PyData.depthAll (ys.map PyData.str) ≤ 1
  | [] => by simp [PyData.depthAll]
  | y :: ys => by
    have := depth_strs ys
    rw [List.map_cons]
    simp only [PyData.depthAll, PyData.depth]
    omega
theorem shaped_strs {ys : List Str} (h : ∀ y ∈ ys, isAddrB (.str y) = true) : SeqAt.shaped (.list (ys.map PyData.str)) = true := by
  show ((PyData.list (ys.map PyData.str)).canLay0 && decide ((PyData.list (ys.map PyData.str)).depth ≤ 64)) = true
  rw [Bool.and_eq_true]
  refine ⟨?_, decide_eq_true ?_⟩
  · simp only [PyData.canLay0]
    exact lay_strs h
  · have := depth_strs ys
    simp only [PyData.depth]
    omega
end

end MF
set_option Elab.async false
set_option linter.all false
set_option maxRecDepth 100000
set_option maxHeartbeats 2000000
set_option pp.maxSteps 600
namespace MF
open PySem PySem.Spec PyProof.Rows L2 StX
section
variable {P : Program} {w : World} {K : PySem.W.Frag} {mg : Str → Option Value} {base : Heap} {C_Book C_Letter C_Walker C_MailError C_InvalidOrder C_UnknownOrder C_InvalidAddress C_InvalidDay C_InvalidNumber : Addr} {FL : Str}
theorem sl_listK {X : Cx} {K : PySem.W.Frag} (h : X.K = K := by rfl) : SlR X (rSlL K) := h ▸ sl_list
structure DK (n : Nat) (d : PyData) : Prop where
  lay : d.canLay0 = true
  dep : d.depth ≤ n
  sm : smallD d = true
theorem dk_lay : ∀ {ds : List PyData}, (∀ d ∈ ds, d.canLay0 = true) → PyData.canLayAll0 ds = true
  | [], _ => by simp [PyData.canLayAll0]
  | d :: ds, h => by simp only [PyData.canLayAll0, h d List.mem_cons_self, dk_lay fun e he => h e (List.mem_cons_of_mem _ he), Bool.and_self]
theorem dk_dep {n : Nat} : ∀ {ds : List PyData}, (∀ d ∈ ds, d.depth ≤ n) → PyData.depthAll ds ≤ n
  | [], _ => by simp [PyData.depthAll]
  | d :: ds, h => by
    rw [PyData.depthAll]
    exact Nat.max_le.mpr ⟨h d List.mem_cons_self, dk_dep fun e he => h e (List.mem_cons_of_mem _ he)⟩
theorem dk_small : ∀ {ds : List PyData}, (∀ d ∈ ds, smallD d = true) → smallAll ds = true
  | [], _ => rfl
  | d :: ds, h => by simp only [smallAll, h d List.mem_cons_self, dk_small fun e he => h e (List.mem_cons_of_mem _ he), Bool.and_self]
theorem DK.list {n : Nat} {ds : List PyData} (h : ∀ d ∈ ds, DK n d) (hl : ds.length ≤ 1000000) : DK (n + 1) (.list ds) :=
  ⟨by simp only [PyData.canLay0]; exact dk_lay fun d hd => (h d hd).lay, by simp only [PyData.depth]; have := dk_dep fun d hd => (h d hd).dep; omega, by simp only [smallD, Bool.and_eq_true]; exact ⟨decide_eq_true hl, dk_small fun d hd => (h d hd).sm⟩⟩
theorem DK.tuple {n : Nat} {ds : List PyData} (h : ∀ d ∈ ds, DK n d) (hl : ds.length ≤ 1000000) : DK (n + 1) (.tuple ds) :=
  ⟨by simp only [PyData.canLay0]; exact dk_lay fun d hd => (h d hd).lay, by simp only [PyData.depth]; have := dk_dep fun d hd => (h d hd).dep; omega, by simp only [smallD, Bool.and_eq_true]; exact ⟨decide_eq_true hl, dk_small fun d hd => (h d hd).sm⟩⟩
theorem DK.int (n : Nat) (i : Int) : DK n (.int i) := ⟨by simp only [PyData.canLay0], by simp only [PyData.depth]; omega, rfl⟩
theorem DK.bl (n : Nat) (b : Bool) : DK n (.bool b) := ⟨by simp only [PyData.canLay0], by simp only [PyData.depth]; omega, rfl⟩
theorem DK.non (n : Nat) : DK n .none := ⟨by simp only [PyData.canLay0], by simp only [PyData.depth]; omega, rfl⟩
theorem DK.strk (n : Nat) {z : Str} (h : PyData.strOk z = true) : DK n (.str z) := ⟨by simp only [PyData.canLay0, h], by simp only [PyData.depth]; omega, rfl⟩
theorem DK.str (n : Nat) {z : Str} (h : isAddrB (.str z) = true) : DK n (.str z) := DK.strk n (strOk_addr h)
theorem DK.le {n m : Nat} {d : PyData} (h : DK n d) (hm : n ≤ m) : DK m d := ⟨h.lay, Nat.le_trans h.dep hm, h.sm⟩
theorem DK.cons {n : Nat} {d : PyData} {ds : List PyData} (h : DK n d) (t : ∀ e ∈ ds, DK n e) : ∀ e ∈ d :: ds, DK n e := fun e he => by
  rcases List.mem_cons.mp he with rfl | he
  · exact h
  · exact t e he
theorem DK.nil {n : Nat} : ∀ e ∈ ([] : List PyData), DK n e := fun e he => by cases he
theorem DK.map {α : Type} {n : Nat} {f : α → PyData} {l : List α} (h : ∀ x ∈ l, DK n (f x)) : ∀ d ∈ l.map f, DK n d := fun d hd => by
  obtain ⟨x, hx, rfl⟩ := List.mem_map.mp hd
  exact h x hx
theorem DK.rep {n k : Nat} {d : PyData} (h : DK n d) : ∀ e ∈ List.replicate k d, DK n e := fun e he => by
  rw [(List.mem_replicate.mp he).2]
  exact h
theorem DK.shaped {n : Nat} {d : PyData} (h : DK n d) (hn : n ≤ 64) : SeqAt.shaped d = true := by
  unfold SeqAt.shaped
  rw [h.lay, Bool.true_and]
  exact decide_eq_true (Nat.le_trans h.dep hn)
theorem dkMap {H : Hp} {α : Type} {f : α → V} {g : α → PyData} (h : ∀ x, Dp K H (f x) (g x)) : ∀ l : List α, DpAll K H (l.map f) (l.map g)
  | [] => .nil
  | x :: l => .cons (h x) (dkMap h l)
theorem dkMem {H : Hp} {f : V → PyData} : ∀ l : List V, (∀ x ∈ l, Dp K H x (f x)) → DpAll K H l (l.map f)
  | [], _ => .nil
  | x :: l, h => .cons (h x List.mem_cons_self) (dkMem l fun y hy => h y (List.mem_cons_of_mem _ hy))
theorem dkPair {H : Hp} {α β : Type} {R : α → β → Prop} {f : α → V} {g : β → PyData} (h : ∀ a b, R a b → Dp K H (f a) (g b)) : ∀ {as : List α} {bs : List β}, Paired R as bs → DpAll K H (as.map f) (bs.map g)
  | _, _, .nil => .nil
  | _, _, .cons a t => .cons (h _ _ a) (dkPair h t)
theorem dkRep {H : Hp} {v : V} {d : PyData} (h : Dp K H v d) : ∀ n, DpAll K H (List.replicate n v) (List.replicate n d)
  | 0 => .nil
  | n + 1 => .cons h (dkRep h n)
theorem eqvMap {α : Type} [DecidableEq α] {f : α → PyData} (h : ∀ a b, PyData.eqv (f a) (f b) = decide (a = b)) : ∀ l l' : List α, PyData.eqvAll (l.map f) (l'.map f) = decide (l = l')
  | [], [] => by simp [PyData.eqvAll]
  | [], b :: bs => by simp [PyData.eqvAll]
  | a :: as, [] => by simp [PyData.eqvAll]
  | a :: as, b :: bs => by
    rw [List.map_cons, List.map_cons, PyData.eqvAll, eqvMap h as bs, h]
    by_cases c : a = b
    · subst c
      simp
    · simp [c]
def ordDK (o : Ordr) : PyData := .tuple [.str o.src, .str o.tgt, .int o.first, .int o.last, .int o.way]
theorem DK.ord {o : Ordr} (h : o.Ok) : DK 1 (ordDK o) := .tuple (.cons (.str 0 h.as) (.cons (.str 0 h.at_) (.cons (.int 0 _) (.cons (.int 0 _) (.cons (.int 0 _) .nil))))) (by show 5 ≤ _; decide)
theorem dkOrds {H : Hp} {as : List Addr} {os : List Ordr} (h : OrdsAt K H as os) : DpAll K H (as.map V.ref) (os.map ordDK) :=
  dkPair (R := OrdAt K H) (fun a o oa => .tup oa (.cons (.str _) (.cons (.str _) (.cons (.int _) (.cons (.int _) (.cons (.int _) .nil)))))) h
theorem eqvOrd (o p : Ordr) : PyData.eqv (ordDK o) (ordDK p) = decide (o = p) := by
  obtain ⟨a, b, c, d, e⟩ := o
  obtain ⟨a', b', c', d', e'⟩ := p
  unfold ordDK
  simp only [PyData.eqv, PyData.eqvAll, Bool.and_true]
  rw [Bool.eq_iff_iff]
  simp
theorem eqvOrds (l l' : List Ordr) : PyData.eqvAll (l.map ordDK) (l'.map ordDK) = decide (l = l') := eqvMap eqvOrd l l'
theorem eqvInt (i j : Int) : PyData.eqv (.int i) (.int j) = decide (i = j) := rfl
end

end MF
set_option Elab.async false
set_option linter.all false
set_option maxRecDepth 100000
set_option maxHeartbeats 2000000
set_option pp.maxSteps 600
namespace MF
open PySem PySem.Spec PyProof.Rows L2 StX
section
variable {P : Program} {w : World} {K : PySem.W.Frag} {mg : Str → Option Value} {base : Heap} {C_Book C_Letter C_Walker C_MailError C_InvalidOrder C_UnknownOrder C_InvalidAddress C_InvalidDay C_InvalidNumber : Addr} {FL : Str}
def spEnded (K : PySem.W.Frag) : Sp := fun vs H Q _ => ∃ l as os z d, vs = [.ref l, .str z, .int d] ∧ SqL K H l (as.map V.ref) ∧ OrdsAt K H as os ∧ Good os ∧ ∀ H', Same H H' → Q (optI (lastEnd os z d)) H'
theorem ended_uniq {os : List Ordr} (g : Good os) {i j : Nat} {o p : Ordr} (ei : os[i]? = some o) (ej : os[j]? = some p) (hs : o.src = p.src) (hl : o.last = p.last) : i = j := by
  by_cases c : i = j
  · exact c
  · exfalso
    obtain ⟨hi, eo⟩ := List.getElem?_eq_some_iff.mp ei
    obtain ⟨hj, ep⟩ := List.getElem?_eq_some_iff.mp ej
    have fo := (g.ok o (List.mem_of_getElem? ei)).fl
    have fp := (g.ok p (List.mem_of_getElem? ej)).fl
    have ov : overB o p = true := by
      unfold overB
      simp only [Bool.and_eq_true, decide_eq_true_eq]
      exact ⟨hs, by omega, by omega⟩
    have vo : overB p o = true := by
      unfold overB
      simp only [Bool.and_eq_true, decide_eq_true_eq]
      exact ⟨hs.symm, by omega, by omega⟩
    rcases Nat.lt_or_gt_of_ne c with h | h
    · have := List.pairwise_iff_getElem.mp g.apart i j hi hj h
      rw [eo, ep, ov] at this
      cases this
    · have := List.pairwise_iff_getElem.mp g.apart j i hj hi h
      rw [eo, ep, vo] at this
      cases this
def endL (os : List Ordr) (z : Str) (d : Int) (n : Nat) : List Nat := (List.range n).filter fun j => match os[j]? with | some o => ended o z d | none => false
theorem endL_succ {os : List Ordr} {z : Str} {d : Int} {n : Nat} {o : Ordr} (e : os[n]? = some o) : endL os z d (n + 1) = endL os z d n ++ if ended o z d = true then [n] else [] := by
  unfold endL
  rw [List.range_succ, List.filter_append]
  congr 1
  by_cases c : ended o z d = true
  · rw [if_pos c]; simp [e, c]
  · rw [if_neg c]; simp [e, c]
theorem endL_len {os : List Ordr} {z : Str} {d : Int} {n : Nat} : (endL os z d n).length ≤ n := by
  unfold endL
  exact Nat.le_trans (List.length_filter_le _ _) (by simp)
theorem endL_mem {os : List Ordr} {z : Str} {d : Int} {n j : Nat} : j ∈ endL os z d n ↔ j < n ∧ ∃ o, os[j]? = some o ∧ ended o z d = true := by
  unfold endL
  rw [List.mem_filter, List.mem_range]
  refine and_congr_right fun _ => ?_
  cases e : os[j]? with
  | none => simp
  | some o => simp
theorem lastEnd_max {os : List Ordr} (g : Good os) {z : Str} {d : Int} {i : Nat} {o : Ordr} (ei : os[i]? = some o) (he : ended o z d = true) (h : ∀ (j : Nat) p, os[j]? = some p → ended p z d = true → p.last ≤ o.last) : lastEnd os z d = some i := by
  refine IsLast.uniq (lastEnd_is os z d) ⟨(List.getElem?_eq_some_iff.mp ei).1, o, ei, he, fun j p hj ep hp => ⟨h j p ep hp, fun hji => ?_⟩⟩
  have h1 := h j p ep hp
  by_cases c : p.last = o.last
  · exfalso
    simp only [ended, Bool.and_eq_true, decide_eq_true_eq] at he hp
    have := ended_uniq g ep ei (by rw [hp.1, he.1]) c
    omega
  · omega
theorem lastEnd_no {os : List Ordr} {z : Str} {d : Int} (h : endL os z d os.length = []) : lastEnd os z d = none := by
  refine IsLast.uniq (lastEnd_is os z d) fun j p hj ep => ?_
  cases q : ended p z d with
  | false => rfl
  | true =>
    have : j ∈ endL os z d os.length := endL_mem.mpr ⟨hj, p, ep, q⟩
    rw [h] at this
    cases this
theorem ok_ended (T : Top K mg C_Book C_Letter C_Walker C_MailError C_InvalidOrder C_UnknownOrder C_InvalidAddress C_InvalidDay C_InvalidNumber FL) : GFn P w K mg base CX0 2 "_law_ended" (spEnded K) := by
  refine T.d__law_ended.fn fun f fd F => F.ok sc__law_ended (fun vs H Q E h => ?_) (fun cdv A outer s H vs Q E hr h => ?_)
  · obtain ⟨l, as, os, z, d, rfl, _⟩ := h
    rfl
  · obtain ⟨l, as, os, z, d, rfl, hl, ho, g, k⟩ := h
    refine ⟨_, (pss_cons (ps_set (i := 3) sc__law_ended.nd rfl (Or.inl rfl) (pe_callB cr_sortedPO (by rfl) T.b_sorted (by decide +kernel) (pa_cons (pe_lc (own := [("_law_k", 4)]) (g := (gName 4)) (by rfl) sc__law_ended.nd (pi_range1 (by rfl) T.b_range (pa_cons (pe_callB call_len_seq (by rfl) T.b_len (by decide +kernel) (pa_cons (pv 0) pa_nil)) pa_nil)) (blkOk_by (own := [("_law_k", 4)]) (N := ["_law_orders_here", "_law_address", "_law_day", "_law_found", "_law_k"]) (sc := defScope s__law_ended) (by decide +kernel)) (fun _ _ _ _ _ => (pg_name (i := 4) sc__law_ended.nd rfl (Or.inl rfl))) (fun _ _ _ _ _ => (pts_one (PW.pt (pw_and (pt_cmpR op_eq (pe_ix (ix_tupK (K := K)) (pe_ix (ix_listK (K := K)) (pv 0) (pv 4) (fun _ _ => rfl)) pe_int (fun _ _ => rfl)) (pv 1) (nomark _)) (pw_and1 (pt_cmpR op_lt (pe_ix (ix_tupK (K := K)) (pe_ix (ix_listK (K := K)) (pv 0) (pv 4) (fun _ _ => rfl)) pe_int (fun _ _ => rfl)) (pv 2) (nomark _))))))) (fun _ _ _ _ _ => (pe_tup (pa_cons (pe_ix (ix_tupK (K := K)) (pe_ix (ix_listK (K := K)) (pv 0) (pv 4) (fun _ _ => rfl)) pe_int (fun _ _ => rfl)) (pa_cons (pv 4) pa_nil))))) pa_nil)))
  (pss_one (ps_ret (pe_ifExp (pt_cmpR (op_neD hr.units) (pv 3) (pe_lst pa_nil) (nomark _)) (pe_ix ix_tup (pe_ix ix_list (pv 3) (pe_un un_neg pe_int) (fun _ _ => rfl)) pe_int (fun _ _ => rfl)) pe_non)))), ?_⟩
    have la : as.length = os.length := PySem.Paired.length ho
    have lm : (as.map V.ref).length = as.length := List.length_map ..
    have h30 := g.len
    let LAST (j : Nat) : Int := match os[j]? with | some o => o.last | none => 0
    refine ⟨_, rfl, l, _, rfl, .inl hl, _, rfl, (by omega), (by omega), fun D hD => ?_⟩
    refine lc_it walk_range (fun i H' => Same H H' ∧ ∃ qs : List Addr, H' D = some (.lst (qs.map V.ref)) ∧ PySem.Paired (fun q (j : Nat) => H' q = some (.tup [.int (LAST j), .int (j : Nat)])) qs (endL os z d i)) ⟨Same.new hD, [], upd_same, .nil⟩ (fun _ _ _ _ => trivial) ?_ ?_
    · rintro i y H1 H2 hi ⟨s1, qs, d1, P1⟩ ⟨rfl, rfl⟩
      have hi' : i < as.length := by
        rw [lm] at hi
        simpa using hi
      obtain ⟨a, ea⟩ : ∃ a, as[i]? = some a := ⟨as[i], by simp [hi']⟩
      obtain ⟨o, eo, oa⟩ := Paired.get ho ea
      have hl1 := s1.seq hl
      have oa1 := oa.mono s1
      have z0 : (0 : Int) + (i : Int) = (i : Int) := by omega
      have at1 : atI (as.map V.ref) (0 + (i : Int)) = some (V.ref a) := by
        rw [Int.zero_add]
        exact atI_nat (by rw [List.getElem?_map, ea]; rfl)
      have no : ended o z d = false → Same H H2 ∧ ∃ qs : List Addr, H2 D = some (.lst (qs.map V.ref)) ∧ PySem.Paired (fun q (j : Nat) => H2 q = some (.tup [.int (LAST j), .int (j : Nat)])) qs (endL os z d (i + 1)) := fun hh => by
        refine ⟨s1, qs, d1, ?_⟩
        rw [endL_succ eo, if_neg (by rw [hh]; decide), List.append_nil]
        exact P1
      refine ⟨rfl, ?_⟩
      refine ⟨_, rfl, _, rfl, l, _, _, _, rfl, rfl, hl1, at1, a, _, _, _, rfl, rfl, oa1, rfl, _, rfl, rfl, _, rfl, ?_⟩
      refine ite2 (fun c1 => ?_) (fun c1 => ?_)
      · have c1' : o.src = z := V.str.inj (of_decide_eq_true c1)
        refine ⟨_, rfl, _, rfl, l, _, _, _, rfl, rfl, hl1, at1, a, _, _, _, rfl, rfl, oa1, rfl, _, rfl, _, _, rfl, rfl, _, rfl, ?_⟩
        refine ite2 (fun c2 => ?_) (fun c2 => ?_)
        · have c2' : o.last < d := of_decide_eq_true c2
          have hh : ended o z d = true := by simp [ended, c1', c2']
          refine ⟨_, rfl, _, rfl, l, _, _, _, rfl, rfl, hl1, at1, a, _, _, _, rfl, rfl, oa1, rfl, _, rfl, (by show 2 ≤ sizeLine; decide), ?_⟩
          intro q hq
          generalize gH3 : L2.upd _ q _ = H3
          obtain ⟨s3, e3⟩ := newS hq gH3
          clear gH3
          have lq := PySem.Paired.length P1
          have ll := endL_len (os := os) (z := z) (d := d) (n := i)
          have d3 := s3 _ _ d1
          refine ⟨_, d3, by rw [List.length_map, lq, sizeLine_eq]; omega, ?_⟩
          generalize gH : L2.upd _ D _ = H4
          have up : ∀ b u, H3 b = some u → b ≠ D → H4 b = some u := fun b u e n => by rw [← gH, upd_ne n]; exact e
          have e4 : H4 D = some (.lst (qs.map V.ref ++ [V.ref q])) := by rw [← gH]; exact upd_same
          have eL : LAST i = o.last := by show (match os[i]? with | some o => o.last | none => 0) = _; rw [eo]
          refine ⟨fun b u e => up _ _ (s3 _ _ (s1 _ _ e)) (ne_of_none e hD), qs ++ [q], by rw [e4, List.map_append]; rfl, ?_⟩
          rw [endL_succ eo, if_pos hh]
          have nt : ∀ {b : Addr} {xs : List V}, H3 b = some (.tup xs) → b ≠ D := fun h z => by rw [z, d3] at h; cases h
          refine Paired.append (PySem.Paired.mono (fun p j e => up _ _ (s3 _ _ e) (nt (s3 _ _ e))) P1) (.cons ?_ .nil)
          rw [up _ _ e3 (nt e3), eL]
          show some (HO.tup [V.int o.last, V.int (0 + (i : Int))]) = _
          rw [z0]
        · have c2' : ¬ o.last < d := fun q => c2 (decide_eq_true q)
          exact no (by simp [ended, c2'])
      · have c1' : ¬ o.src = z := fun q => c1 (decide_eq_true (congrArg V.str q))
        exact iteF (no (by simp [ended, c1']))
    · rintro H1 ⟨s1, qs, d1, P1⟩
      rw [lm, la] at P1
      have th : ((os.length : Nat) : Int).toNat = os.length := by omega
      rw [th] at P1
      let kf : V → Int × Int := fun x => match x with
        | .ref t => (match H1 t with | some (.tup [.int i, .int j]) => (i, j) | _ => (0, 0))
        | _ => (0, 0)
      have kq : ∀ {q : Addr} {i j : Int}, H1 q = some (.tup [.int i, .int j]) → kf (.ref q) = (i, j) := fun h => by show (match H1 _ with | some (.tup [.int i, .int j]) => (i, j) | _ => (0, 0)) = _; rw [h]
      have hx : ∀ x ∈ qs.map V.ref, ∃ t, ∃ j : Nat, x = V.ref t ∧ j ∈ endL os z d os.length ∧ H1 t = some (.tup [.int (LAST j), .int (j : Nat)]) := fun x hx => by
        obtain ⟨q, hq, rfl⟩ := List.mem_map.mp hx
        obtain ⟨m, hm, em⟩ := List.mem_iff_getElem.mp hq
        obtain ⟨j, ej, hj⟩ := Paired.get P1 (show qs[m]? = some q by rw [← em]; simp [hm])
        exact ⟨q, j, rfl, List.mem_of_getElem? ej, hj⟩
      refine ⟨D, qs.map V.ref, kf, rfl, SqL.of d1, fun x hxm => ?_, fun ys p hsrt hstb hp => ?_⟩
      · obtain ⟨t, j, rfl, _, ht⟩ := hx x hxm
        exact ⟨t, rfl, by rw [kq ht]; exact ht⟩
      generalize gH5 : L2.upd _ p _ = H2
      obtain ⟨s2, e2⟩ := newS hp gH5
      clear gH5
      refine ⟨_, rfl, Nat.zero_le _, ?_⟩
      intro r hr0
      generalize gH3 : L2.upd _ r _ = H3
      obtain ⟨s3, e3⟩ := newS hr0 gH3
      clear gH3
      have s13 := s2.trans s3
      have hy : ∀ x ∈ ys, ∃ t, ∃ j : Nat, x = V.ref t ∧ j ∈ endL os z d os.length ∧ H1 t = some (.tup [.int (LAST j), .int (j : Nat)]) := fun x h => hx x (hstb.perm.mem_iff.mp h)
      let df : V → PyData := fun x => .tuple [.int (kf x).1, .int (kf x).2]
      have hd : ∀ x ∈ ys, Dp K H3 x (df x) := fun x h => by
        obtain ⟨t, j, rfl, _, ht⟩ := hy x h
        show Dp K H3 (.ref t) (.tuple [.int (kf (.ref t)).1, .int (kf (.ref t)).2])
        rw [kq ht]
        exact .tup (.inl (.inl (s13 _ _ ht))) (.cons (.int _) (.cons (.int _) .nil))
      have ly : ys.length ≤ 1000000 := by
        rw [hstb.perm.length_eq, List.length_map, PySem.Paired.length P1]
        have := endL_len (os := os) (z := z) (d := d) (n := os.length)
        omega
      have dk : DK 2 (.list (ys.map df)) := .list (DK.map fun x _ => .tuple (.cons (.int 0 _) (.cons (.int 0 _) .nil)) (by show 2 ≤ _; decide)) (by rw [List.length_map]; exact ly)
      refine ⟨.list (ys.map df), .list [], .lst (SqL.of (s3 _ _ e2)) (dkMem ys hd), .lst (SqL.of e3) .nil, dk.shaped (by decide), by decide +kernel, ?_⟩
      rw [show PyData.eqv (.list (ys.map df)) (.list []) = decide (ys = []) from by cases ys <;> simp [PyData.eqv, PyData.eqvAll]]
      refine ⟨_, rfl, ?_⟩
      have s03 := s1.trans s13
      by_cases c : ys = []
      · refine iteND c ?_
        subst c
        have q0 : qs = [] := by
          have := hstb.perm.length_eq
          rw [List.length_map] at this
          exact List.eq_nil_of_length_eq_zero this.symm
        subst q0
        have e0 : endL os z d os.length = [] := by
          have := PySem.Paired.length P1
          exact List.eq_nil_of_length_eq_zero this.symm
        have := k _ s03
        rw [lastEnd_no e0] at this
        exact this
      · refine iteNDN c ?_
        obtain ⟨M, w', rfl⟩ := SrtO.snoc_of (l := ys) (by cases ys with | nil => exact absurd rfl c | cons y l => simp)
        obtain ⟨t, i, rfl, hi, ht⟩ := hy w' (List.mem_append_right _ (List.mem_singleton.mpr rfl))
        obtain ⟨_, o, ei, he⟩ := endL_mem.mp hi
        have LA : ∀ {j : Nat} {p : Ordr}, os[j]? = some p → LAST j = p.last := fun {j p} h => by show (match os[j]? with | some o => o.last | none => 0) = _; rw [h]
        have el : lastEnd os z d = some i := lastEnd_max g ei he fun j p ej hp => by
          have hj : j ∈ endL os z d os.length := endL_mem.mpr ⟨(List.getElem?_eq_some_iff.mp ej).1, p, ej, hp⟩
          obtain ⟨m, hm, em⟩ := List.mem_iff_getElem.mp hj
          have hm' : m < qs.length := by rw [PySem.Paired.length P1]; exact hm
          obtain ⟨j', ej', hq⟩ := Paired.get P1 (show qs[m]? = some qs[m] by simp [hm'])
          have : j' = j := by
            rw [List.getElem?_eq_getElem hm, em] at ej'
            exact (Option.some.inj ej').symm
          subst this
          have my : V.ref qs[m] ∈ M ++ [V.ref t] := hstb.perm.mem_iff.mpr (List.mem_map.mpr ⟨_, List.getElem_mem hm', rfl⟩)
          have := (ltP_swo kf).le_last hsrt _ my
          have := SrtO.lexB_no.mp this
          rw [kq ht, kq hq, LA ei, LA ej] at this
          simp only at this
          omega
        refine ⟨_, rfl, _, rfl, p, _, _, V.ref t, rfl, rfl, SqL.of (s3 _ _ e2), atI_last _ _, ?_⟩
        refine ⟨t, _, _, _, rfl, rfl, .inl (.inl (s13 _ _ ht)), rfl, ?_⟩
        have := k _ s03
        rw [el] at this
        exact this
end

end MF
set_option Elab.async false
set_option linter.all false
set_option maxRecDepth 100000
set_option maxHeartbeats 2000000
set_option pp.maxSteps 600
namespace MF
open PySem PySem.Spec PyProof.Rows L2 StX
section
variable {P : Program} {w : World} {K : PySem.W.Frag} {mg : Str → Option Value} {base : Heap} {C_Book C_Letter C_Walker C_MailError C_InvalidOrder C_UnknownOrder C_InvalidAddress C_InvalidDay C_InvalidNumber : Addr} {FL : Str}
def spBookAt (K : PySem.W.Frag) (C : Addr) : Sp := fun vs H Q _ => ∃ p os o, ∃ i : Nat, vs = [.ref p, .int (i : Nat)] ∧ BookAt K C H p os ∧ os[i]? = some o ∧ ∀ a, OrdAt K H a o → Q (.ref a) H
def spCheckOrd (K : PySem.W.Frag) (C : Addr) : Sp := fun vs H Q _ => ∃ p os, ∃ i : Nat, vs = [.ref p, .int (i : Nat)] ∧ BookAt K C H p os ∧ i < os.length ∧ Q .non H
theorem ok_check_order (T : Top K mg C_Book C_Letter C_Walker C_MailError C_InvalidOrder C_UnknownOrder C_InvalidAddress C_InvalidDay C_InvalidNumber FL) : MFn P w K mg base CX0 2 C_Book "check_order" (spCheckOrd K C_Book) := by
  have G_is_integer : GFn P w K mg base CX0 1 "is_integer" spIsInteger := ok_is_integer T
  refine T.d_Book_check_order.fn fun f fd F => F.ok sc_Book_check_order (fun vs H Q E h => ?_) (fun cdv A outer s H vs Q E hr h => ?_)
  · obtain ⟨p, os, i, rfl, _⟩ := h
    rfl
  · obtain ⟨p, os, i, rfl, ⟨dx, t, as, h1, h2, h3⟩, hi, k⟩ := h
    refine ⟨_, (pss_one (ps_if (pt_not (pt_val (pe_g G_is_integer (hr.mono (by decide)) (pa_cons (pv 1) (pa_cons pe_int (pa_cons (pe_op op_sub (pe_callB call_len_seq (by rfl) T.b_len (by decide +kernel) (pa_cons (pe_fld (pv 0) rfl) pa_nil)) pe_int) pa_nil))))))
  (pss_one ps_never)
  pss_nil)), ?_⟩
    have hl : as.length = os.length := PySem.Paired.length h3
    refine ⟨_, rfl, _, rfl, p, C_Book, dx, _, _, rfl, h1, T.cl_Book, T.n_Book_listed, rfl, t, _, rfl, .inr h2, _, _, rfl, rfl, _, _, _, rfl, rfl, _, rfl, ?_⟩
    have e : isIntB (.int (i : Nat)) 0 (((as.map V.ref).length : Nat) - 1) = true := by
      rw [List.length_map, hl]
      have h1 : (0 : Int) ≤ (i : Nat) := by omega
      have h2 : ((i : Nat) : Int) ≤ (os.length : Nat) - 1 := by omega
      simp [isIntB, h1, h2]
    rw [e]
    exact iteF k
end

end MF
set_option Elab.async false
set_option linter.all false
set_option maxRecDepth 100000
set_option maxHeartbeats 2000000
set_option pp.maxSteps 600
namespace MF
open PySem PySem.Spec PyProof.Rows L2 StX
section
variable {P : Program} {w : World} {K : PySem.W.Frag} {mg : Str → Option Value} {base : Heap} {C_Book C_Letter C_Walker C_MailError C_InvalidOrder C_UnknownOrder C_InvalidAddress C_InvalidDay C_InvalidNumber : Addr} {FL : Str}
theorem lastN_step {os : List Ordr} {x : Str} {d : Int} {i : Nat} {o : Ordr} (eo : os[i]? = some o) : lastN os x d (i + 1) = match lastN os x d i with
      | none => if ended o x d = true then some i else none
      | some b => if ended o x d = true ∧ (os[b]?.map Ordr.last).getD 0 < o.last then some i else some b := by
  rw [lastN, eo]
  first | done | (cases lastN os x d i <;> rfl)
def spLastEnded (K : PySem.W.Frag) (C : Addr) : Sp := fun vs H Q _ => ∃ p os z d, vs = [.ref p, .str z, .int d] ∧ BookAt K C H p os ∧ ∀ H', Same H H' → Q (optI (lastEnd os z d)) H'
theorem ok_last_ended (T : Top K mg C_Book C_Letter C_Walker C_MailError C_InvalidOrder C_UnknownOrder C_InvalidAddress C_InvalidDay C_InvalidNumber FL) : GFn P w K mg base CX0 1 "last_ended" (spLastEnded K C_Book) := by
  refine T.d_last_ended.fn fun f fd F => F.ok sc_last_ended (fun vs H Q E h => ?_) (fun cdv A outer s H vs Q E hr h => ?_)
  · obtain ⟨p, os, z, d, rfl, _⟩ := h
    rfl
  · obtain ⟨p, os, z, d, rfl, hb, k⟩ := h
    obtain ⟨dx, t, as, h1, h2, h3⟩ := id hb
    refine ⟨_, (pss_cons (ps_set (i := 3) sc_last_ended.nd rfl (Or.inl rfl) pe_non)
  (pss_cons (ps_for PassesOwn.never rfl (pi_enumT (by rfl) T.b_enumerate (pa_cons (pe_fld (pv 0) rfl) pa_nil)) (pg_tup rfl (pgs_cons (pg_name (i := 4) sc_last_ended.nd rfl (Or.inl rfl)) (pgs_cons (pg_tup rfl (pgs_cons (pg_name (i := 5) sc_last_ended.nd rfl (Or.inl rfl)) (pgs_cons (pg_name (i := 6) sc_last_ended.nd rfl (Or.inl rfl)) (pgs_cons (pg_name (i := 7) sc_last_ended.nd rfl (Or.inl rfl)) (pgs_cons (pg_name (i := 8) sc_last_ended.nd rfl (Or.inl rfl)) (pgs_cons (pg_name (i := 9) sc_last_ended.nd rfl (Or.inl rfl)) pgs_nil)))))) pgs_nil)))
  (pss_one (ps_if (PW.pt (pw_and (pt_cmpR op_eq (pv 5) (pv 1) (nomark _)) (pw_and (pt_cmpR op_lt (pv 8) (pv 2) (nomark _)) (pw_and1 (PW.pt (pw_or (pt_cmpR op_isN (pv 3) pe_non (nomark _)) (pw_or1 (pt_cmpR op_gt (pv 8) (pe_ix ix_tup (pe_ix ix_tup (pe_fld (pv 0) rfl) (pv 3) (fun _ _ => rfl)) pe_int (fun _ _ => rfl)) (nomark _)))))))))
  (pss_one (ps_set (i := 3) sc_last_ended.nd rfl (Or.inl rfl) (pv 4)))
  pss_nil)))
  (pss_one (ps_ret (pv 3))))), ?_⟩
    have hl : as.length = os.length := PySem.Paired.length h3
    refine ⟨_, rfl, p, C_Book, dx, _, _, rfl, h1, T.cl_Book, T.n_Book_listed, rfl, t, _, rfl, h2, for_it walk_enumT (fun i σ H' => Same H H' ∧ ∃ v4 v5 v6 v7 v8 v9, σ = [some (.ref p), some (.str z), some (.int d), some (optI (lastN os z d i)), v4, v5, v6, v7, v8, v9])
      ⟨Same.refl H, _, _, _, _, _, _, rfl⟩ (fun i σ H' _ ⟨s1, _⟩ => MF.Same.tup s1 h2) ?_ ?_⟩
    · rintro i y σ H1 H2 hi ⟨s1, v4, v5, v6, v7, v8, v9, rfl⟩ ⟨q, z1, z2, rfl, hq, rfl, e1, e2⟩
      cases e1
      rw [List.length_map] at hi
      obtain ⟨a, ea⟩ : ∃ a, as[i]? = some a := ⟨as[i], by simp [hi]⟩
      replace e2 : (as.map V.ref)[i]? = some z2 := e2
      rw [List.getElem?_map, ea] at e2
      cases e2
      obtain ⟨o, eo, oa⟩ := Paired.get h3 ea
      have s2 : Same H (upd H1 q (.tup [.int (i : Nat), .ref a])) := MF.Same.upd s1 hq
      refine ⟨q, _, rfl, .inl (.inl upd_same), rfl, _, _, rfl, _, _, rfl, a, o.vals, rfl, oa.mono s2, rfl, _, _, rfl, _, _, rfl, _, _, rfl, _, _, rfl, _, _, rfl, rfl, rfl, ?_⟩
      have est := lastN_step (x := z) (d := d) eo
      have keep : lastN os z d (i + 1) = lastN os z d i → (Same H (upd H1 q (.tup [.int (i : Nat), .ref a])) ∧ ∃ v4 v5 v6 v7 v8 v9, ([some (.ref p), some (.str z), some (.int d), some (optI (lastN os z d i)), some (.int (i : Nat)), some (.str o.src), some (.str o.tgt), some (.int o.first), some (.int o.last), some (.int o.way)] : L2.St) = [some (.ref p), some (.str z), some (.int d), some (optI (lastN os z d (i + 1))), v4, v5, v6, v7, v8, v9]) := fun hh =>
        ⟨s2, _, _, _, _, _, _, by rw [hh]⟩
      refine ⟨_, rfl, _, rfl, rfl, _, rfl, ?_⟩
      refine ite2 (fun c1 => ?_) (fun c1 => ?_)
      · have c1' : o.src = z := V.str.inj (of_decide_eq_true c1)
        refine ⟨_, rfl, _, rfl, _, _, rfl, rfl, _, rfl, ?_⟩
        refine ite2 (fun c2 => ?_) (fun c2 => ?_)
        · have c2' : o.last < d := of_decide_eq_true c2
          have he : ended o z d = true := by simp [ended, c1', c2']
          have b1 := s2 _ _ h1
          have b2 := MF.Same.tup s2 h2
          cases q0 : lastN os z d i with
          | none =>
            rw [q0] at est
            simp only [if_pos he] at est
            refine ⟨_, rfl, rfl, _, rfl, iteD rfl ?_⟩
            refine iteT ?_
            refine ⟨_, rfl, s2, some (.int (i : Nat)), some (.str o.src), some (.str o.tgt), some (.int o.first), some (.int o.last), some (.int o.way), ?_⟩
            rw [est]
            rfl
          | some b =>
            rw [q0] at est keep
            have isl := lastN_is os z d i (by omega)
            rw [q0] at isl
            obtain ⟨hbi, ob, eb, _⟩ := isl
            simp only [eb, Option.map_some, Option.getD_some] at est
            obtain ⟨ab, eab⟩ : ∃ ab, as[b]? = some ab := ⟨as[b]'(by omega), List.getElem?_eq_getElem _⟩
            obtain ⟨ob', eb', oab⟩ := Paired.get h3 eab
            rw [eb] at eb'
            cases eb'
            refine ⟨_, rfl, rfl, _, rfl, iteDN (by intro z; cases z) ?_⟩
            refine ⟨_, rfl, _, rfl, p, C_Book, dx, _, _, rfl, b1, T.cl_Book, T.n_Book_listed, rfl, _, rfl, t, _, _, _, rfl, rfl, b2, atI_nat (by rw [List.getElem?_map, eab]; rfl), ab, _, _, _, rfl, rfl, oab.mono s2, rfl, _, _, rfl, rfl, _, rfl, ?_⟩
            refine ite2 (fun c3 => ?_) (fun c3 => ?_)
            · have c3' : ob.last < o.last := of_decide_eq_true c3
              rw [if_pos ⟨he, c3'⟩] at est
              refine ⟨_, rfl, s2, some (.int (i : Nat)), some (.str o.src), some (.str o.tgt), some (.int o.first), some (.int o.last), some (.int o.way), ?_⟩
              rw [est]
              rfl
            · have c3' : ¬ ob.last < o.last := fun q => c3 (decide_eq_true q)
              rw [if_neg (fun z => c3' z.2)] at est
              exact keep est
        · have c2' : ¬ o.last < d := fun q => c2 (decide_eq_true q)
          refine iteF (keep ?_)
          have he : ended o z d = false := by simp [ended, c2']
          rw [est, he]
          cases lastN os z d i <;> simp
      · have c1' : ¬ o.src = z := fun q => c1 (decide_eq_true (congrArg V.str q))
        refine iteF (keep ?_)
        have he : ended o z d = false := by simp [ended, c1']
        rw [est, he]
        cases lastN os z d i <;> simp
    · rintro σ H1 ⟨s1, v4, v5, v6, v7, v8, v9, rfl⟩
      refine ⟨_, rfl, ?_⟩
      have := k _ s1
      unfold lastEnd at this
      rw [List.length_map, hl]
      exact this
end

end MF
set_option Elab.async false
set_option linter.all false
set_option maxRecDepth 100000
set_option maxHeartbeats 2000000
set_option pp.maxSteps 600
namespace MF
open PySem PySem.Spec PyProof.Rows L2 StX
section
variable {P : Program} {w : World} {K : PySem.W.Frag} {mg : Str → Option Value} {base : Heap} {C_Book C_Letter C_Walker C_MailError C_InvalidOrder C_UnknownOrder C_InvalidAddress C_InvalidDay C_InvalidNumber : Addr} {FL : Str}
def wf (g : Str) (nd bk : Addr) (x : Str) (d n : Int) (kn : Addr) (e : Bool) (c : V) : List (Str × V) := [("book", .ref bk), ("address", .str x), ("day", .int d), ("count", .int n), ("known", .ref kn), ("is_endless", .bl e), ("change", c), ("goal", .str g), ("needed", .ref nd)]
def WLet (C : Addr) (g : Str) (nd : Addr) (H : Hp) (p kn : Addr) (kvs : List (Key × V)) (bk : Addr) (x : Str) (d n : Int) (e : Bool) (c : Option Int) : Prop := (∃ dx, H p = some (.ins C dx (wf g nd bk x d n kn e (optZ c)))) ∧ H kn = some (.dK kvs)
theorem WLet.ne {C : Addr} {g : Str} {nd : Addr} {H : Hp} {p kn : Addr} {kvs : List (Key × V)} {bk : Addr} {x : Str} {d n : Int} {e : Bool} {c : Option Int} (h : WLet C g nd H p kn kvs bk x d n e c) : p ≠ kn := by
  obtain ⟨⟨dx, h1⟩, h2⟩ := h
  exact ne_of h1 h2 (by intro z; cases z)
theorem WLet.keep {C : Addr} {g : Str} {nd : Addr} {H H' : Hp} {p kn : Addr} {kvs : List (Key × V)} {bk : Addr} {x : Str} {d n : Int} {e : Bool} {c : Option Int} (h : WLet C g nd H p kn kvs bk x d n e c) (k1 : ∀ o, H p = some o → H' p = some o) (k2 : ∀ o, H kn = some o → H' kn = some o) : WLet C g nd H' p kn kvs bk x d n e c := by
  obtain ⟨⟨dx, h1⟩, h2⟩ := h
  exact ⟨⟨dx, k1 _ h1⟩, k2 _ h2⟩
theorem wcls (T : Top K mg C_Book C_Letter C_Walker C_MailError C_InvalidOrder C_UnknownOrder C_InvalidAddress C_InvalidDay C_InvalidNumber FL) : LCls K C_Walker := ⟨T.cl_Walker, T.n_Walker_book, T.n_Walker_address, T.n_Walker_day, T.n_Walker_count, T.n_Walker_known, T.n_Walker_is_endless, T.n_Walker_change⟩
def needN (os : List Ordr) (s : Pt) (us : List Nat) : Option Nat → List Nat
  | none => us
  | some i => addN os s us i
def natsV (us : List Nat) : List V := us.map fun (n : Nat) => V.int (n : Int)
theorem natsV_flat (us : List Nat) : (natsV us).all flatV = true := by
  unfold natsV
  simp [flatV]
theorem natsV_in (us : List Nat) (i : Nat) : inV (.int (i : Int)) (natsV us) = decide (i ∈ us) := by
  unfold inV natsV
  rw [Bool.eq_iff_iff]
  simp only [List.any_map, List.any_eq_true, Function.comp, eqV, beq_iff_eq, decide_eq_true_eq]
  constructor
  · rintro ⟨j, h1, h2⟩
    have : j = i := by omega
    rw [← this]
    exact h1
  · intro h
    exact ⟨i, h, rfl⟩
def spOrderNowW (K : PySem.W.Frag) (CB CL : Addr) : Sp := fun vs H Q _ => ∃ g nd us p kn kvs bk os x d n e c, vs = [.ref p] ∧ WLet CL g nd H p kn kvs bk x d n e c ∧ H nd = some (.lst (natsV us)) ∧ BookAt K CB H bk os ∧ us.length ≤ 100 ∧
  ∀ H', (∀ b u, H b = some u → b ≠ nd → H' b = some u) → H' nd = some (.lst (natsV (needN os (x, d) us (idxW os g x d)))) → Q (optI (idxW os g x d)) H'
theorem ok_order_nowW (T : Top K mg C_Book C_Letter C_Walker C_MailError C_InvalidOrder C_UnknownOrder C_InvalidAddress C_InvalidDay C_InvalidNumber FL) (U : UseP P FL) : MFn P w K mg base CX0 3 C_Walker "order_now" (spOrderNowW K C_Book C_Walker) := by
  have G_last_ended : GFn P w K mg base CX0 1 "last_ended" (spLastEnded K C_Book) := ok_last_ended T
  obtain ⟨f2, ⟨f, fd, cc, cda, F, fa, fi, fb, SM⟩, fd2, F2, b2⟩ := T.d_Walker_order_now
  have R2 := raw0 (letter_order_now (P := P) (w := w) (base := base) T (wcls T) F2) b2
  refine ⟨f, raw0 (F.fnA (j := 1) U sc_Walker_order_now SM R2 (fun vs H Q E h => ?_) rfl rfl rfl rfl rfl _ (fun _ => rfl) (fun _ => rfl) (fun A outer s H vs Q E hr h => ?_)) fb, ⟨fa, fi, F.kp⟩⟩
  · obtain ⟨g, nd, us, p, kn, kvs, bk, os, x, d, n, e, c, rfl, _⟩ := h
    rfl
  · obtain ⟨g, nd, us, p, kn, kvs, bk, os, x, d, n, e, c, rfl, ⟨⟨dx, h1⟩, h2⟩, h3, hb, hus, k⟩ := h
    refine ⟨p, dx, _, _, rfl, h1, (pss_cons (ps_if (PW.pt (pw_and (pt_cmpR op_isN (pv 1) pe_non (nomark _)) (pw_and1 (pt_cmpR op_ne (pe_fld (pv 0) rfl) (pe_fld (pv 0) rfl) (nomark _)))))
  (pss_cons (ps_set (i := 1) sc_Walker_order_now.nd rfl (Or.inl rfl) (pe_g G_last_ended (hr.mono (by decide)) (pa_cons (pe_fld (pv 0) rfl) (pa_cons (pe_fld (pv 0) rfl) (pa_cons (pe_fld (pv 0) rfl) pa_nil)))))
  (pss_one (ps_if (PW.pt (pw_and (pt_cmpR op_notN (pv 1) pe_non (nomark _)) (pw_and1 (pt_cmpR op_notIn_seq (pv 1) (pe_fld (pv 0) rfl) rfl))))
  (pss_one (ps_expr (pe_bm PySem.F.plainAttrs_list PySem.F.slot_list_append PySem.F.type_list_append mt_append (pe_fld (pv 0) rfl) (pa_cons (pv 1) pa_nil))))
  pss_nil)))
  pss_nil)
  (pss_one (ps_ret (pv 1)))), ?_⟩
    refine ⟨p, dx, bk, os, x, d, n, kn, e, optZ c, [("goal", .str g), ("needed", .ref nd)], rfl, h1, hb, fun H1 s1 => ?_⟩
    have p1 := s1 _ _ h1
    have nnp : nd ≠ p := ne_of h3 h1 (by intro z; cases z)
    cases eo : ordFor os x d with
    | some i =>
      have ei : idxW os g x d = some i := by unfold idxW; rw [eo]
      have en : needN os (x, d) us (idxW os g x d) = us := by
        rw [ei]
        show addN os (x, d) us i = us
        unfold addN
        rw [if_neg (fun z => by have := z.1; simp only [eo] at this; cases this)]
      refine ⟨_, rfl, rfl, _, rfl, iteDN (by intro z; cases z) (iteF ?_)⟩
      refine ⟨_, rfl, ?_⟩
      have := k H1 (fun b u e _ => s1 _ _ e) (by rw [en]; exact s1 _ _ h3)
      rw [ei] at this
      exact this
    | none =>
      refine ⟨_, rfl, rfl, _, rfl, iteD rfl ?_⟩
      refine ⟨_, rfl, p, C_Walker, dx, _, _, rfl, p1, T.cl_Walker, T.n_Walker_address, rfl, _, rfl, p, C_Walker, dx, _, _, rfl, p1, T.cl_Walker, T.n_Walker_goal, rfl, rfl, _, rfl, ?_⟩
      by_cases hg : V.str x = V.str g
      · have hg' : x = g := V.str.inj hg
        have ei : idxW os g x d = none := by unfold idxW; rw [eo]; exact if_pos hg'
        refine iteND hg ?_
        refine ⟨_, rfl, ?_⟩
        have := k H1 (fun b u e _ => s1 _ _ e) (by rw [ei]; exact s1 _ _ h3)
        rw [ei] at this
        exact this
      · have hg' : ¬ x = g := fun z => hg (by rw [z])
        have ei : idxW os g x d = lastEnd os x d := by unfold idxW; rw [eo]; exact if_neg hg'
        refine iteNDN hg ?_
        refine ⟨_, rfl, p, C_Walker, dx, _, _, rfl, p1, T.cl_Walker, T.n_Walker_book, rfl, _, rfl, p, C_Walker, dx, _, _, rfl, p1, T.cl_Walker, T.n_Walker_address, rfl, _, rfl, p, C_Walker, dx, _, _, rfl, p1, T.cl_Walker, T.n_Walker_day, rfl, bk, os, x, d, rfl, hb.mono s1, fun H2 s2 => ?_⟩
        have s12 := s1.trans s2
        have p2 := s12 _ _ h1
        have n2 := s12 _ _ h3
        cases el : lastEnd os x d with
        | none =>
          refine ⟨_, rfl, rfl, _, rfl, ?_⟩
          refine iteND rfl ?_
          refine iteF ?_
          refine ⟨_, rfl, ?_⟩
          have := k H2 (fun b u e _ => s12 _ _ e) (by rw [ei, el]; exact n2)
          rw [ei, el] at this
          exact this
        | some i =>
          refine ⟨_, rfl, rfl, _, rfl, ?_⟩
          refine iteNDN (by intro z; cases z) ?_
          refine ⟨_, rfl, _, rfl, p, C_Walker, dx, _, _, rfl, p2, T.cl_Walker, T.n_Walker_needed, rfl, nd, _, rfl, .inl (SqL.of n2), rfl, natsV_flat us, _, rfl, ?_⟩
          have eq : (if true = true then !inV (.int (i : Int)) (natsV us) else inV (.int (i : Int)) (natsV us)) = !decide (i ∈ us) := by rw [if_pos rfl, natsV_in]
          rw [show (if true = true then !inV (optI (some i)) (natsV us) else inV (optI (some i)) (natsV us)) = !decide (i ∈ us) from eq]
          by_cases hi : i ∈ us
          · refine iteND hi ?_
            refine ⟨_, rfl, ?_⟩
            have en : addN os (x, d) us i = us := by unfold addN; exact if_neg fun z => z.2 hi
            have := k H2 (fun b u e _ => s12 _ _ e) (by rw [ei, el]; show H2 nd = some (.lst (natsV (addN os (x, d) us i))); rw [en]; exact n2)
            rw [ei, el] at this
            exact this
          · refine iteNDN hi ?_
            have en : addN os (x, d) us i = us ++ [i] := by unfold addN; exact if_pos ⟨eo, hi⟩
            refine ⟨_, rfl, p, C_Walker, dx, _, _, rfl, p2, T.cl_Walker, T.n_Walker_needed, rfl, .inl ⟨rfl, _, SqL.of n2⟩, _, rfl, nd, _, _, rfl, rfl, n2, (by unfold natsV; rw [List.length_map, sizeLine_eq]; omega), ?_⟩
            refine ⟨_, rfl, ?_⟩
            have := k (upd H2 nd (.lst (natsV us ++ [.int (i : Int)]))) (fun b u e nb => by rw [upd_ne nb]; exact s12 _ _ e) (by rw [ei, el]; show _ = some (HO.lst (natsV (addN os (x, d) us i))); rw [en, upd_same]; unfold natsV; rw [List.map_append]; rfl)
            rw [ei, el] at this
            exact this
def spWalkerInit (K : PySem.W.Frag) (CB CL : Addr) : Sp := fun vs H Q _ => ∃ p dx bk os x d g, vs = [.ref p, .ref bk, .str x, .int d, .str g] ∧ H p = some (.ins CL dx []) ∧ BookAt K CB H bk os ∧ os.length ≤ 30 ∧ bk ≠ p ∧
  ∀ H' kn nd, H kn = none → H nd = none → WLet CL g nd H' p kn [] bk x d 0 false (nextCh os d) → H' nd = some (.lst []) → (∀ b u, H b = some u → b ≠ p → H' b = some u) → Q .non H'
theorem ok_Walker (T : Top K mg C_Book C_Letter C_Walker C_MailError C_InvalidOrder C_UnknownOrder C_InvalidAddress C_InvalidDay C_InvalidNumber FL) (U : UseP P FL) : IFn P w K mg base CX0 3 C_Walker "Walker" (spWalkerInit K C_Book C_Walker) := by
  obtain ⟨f2, ⟨f, fd, cc, cda, F, fa, fi, fb, SM⟩, fd2, F2, b2⟩ := T.d_WalkerX_initX
  have R2 := raw0 (letter_init (P := P) (w := w) (base := base) T (wcls T) F2) b2
  refine ⟨f, raw0 (F.fnE U sc_WalkerX_initX SM R2 (fun vs H Q E h => ?_) rfl rfl rfl (fun _ => rfl) (fun _ => rfl) _ (fun _ => rfl) (fun _ => rfl) (fun _ => rfl) (fun A outer s H vs Q E hr h => ?_)) fb, ⟨T.mk_Walker.1, fa, fi, T.mk_Walker.2.1⟩, T.mk_Walker.2.2⟩
  · obtain ⟨p, dx, bk, os, x, d, g, rfl, _⟩ := h
    rfl
  · obtain ⟨p, dx, bk, os, x, d, g, rfl, hp, hb, h30, nbp, k⟩ := h
    refine ⟨p, dx, _, _, _, rfl, hp, (pa_cons (pv 1) (pa_cons (pv 2) (pa_cons (pv 3) pa_nil))), (pss_cons (ps_fld (pv 0) (pv 4) rfl)
  (pss_one (ps_fld (pv 0) (pe_lst pa_nil) rfl))), ?_⟩
    refine ⟨_, rfl, _, rfl, _, rfl, p, dx, bk, os, x, d, rfl, hp, hb, h30, nbp, fun H1 kn hkn L kp => ?_⟩
    obtain ⟨⟨dy, l1⟩, l2⟩ := id L
    have npk := L.ne
    refine ⟨_, rfl, _, rfl, p, C_Walker, dy, _, rfl, l1, T.cl_Walker, T.n_Walker_goal, (by show 7 < 1000; decide), ?_⟩
    refine ⟨(by show 0 ≤ sizeLine; decide), fun nd hnd => ?_⟩
    have npn : p ≠ nd := ne_of_none (o := _) upd_same hnd
    have hnd1 : H1 nd = none := by rw [upd_ne npn.symm] at hnd; exact hnd
    have hnd0 : H nd = none := by
      cases q : H nd with
      | none => rfl
      | some u => rw [kp _ _ q npn.symm] at hnd1; cases hnd1
    have nkn : kn ≠ nd := ne_of_none l2 hnd1
    refine ⟨_, rfl, p, C_Walker, dy, _, rfl, (by rw [upd_ne npn]; exact upd_same), T.cl_Walker, T.n_Walker_needed, (by show 8 < 1000; decide), ?_⟩
    refine k _ kn nd hkn hnd0 ⟨⟨dy, upd_same⟩, ?_⟩ ?_ fun b u e nb => ?_
    · rw [upd_ne npk.symm, upd_ne nkn, upd_ne npk.symm]
      exact l2
    · rw [upd_ne npn.symm, upd_same]
    · rw [upd_ne nb, upd_ne (ne_of_none e hnd0), upd_ne nb]
      exact kp b u e nb
end

end MF
set_option Elab.async false
set_option linter.all false
set_option maxRecDepth 100000
set_option maxHeartbeats 2000000
set_option pp.maxSteps 600
namespace MF
open PySem PySem.Spec PyProof.Rows L2 StX
section
variable {P : Program} {w : World} {K : PySem.W.Frag} {mg : Str → Option Value} {base : Heap} {C_Book C_Letter C_Walker C_MailError C_InvalidOrder C_UnknownOrder C_InvalidAddress C_InvalidDay C_InvalidNumber : Addr} {FL : Str}
theorem abc_len : Str.length "abcdef" ≤ sizeLine := by decide +kernel
theorem abc_ix {i : Int} (h0 : 0 ≤ i) (h1 : i < 6) : atI (Str.cps "abcdef").toList i = some (97 + i.toNat) := by
  have : i = 0 ∨ i = 1 ∨ i = 2 ∨ i = 3 ∨ i = 4 ∨ i = 5 := by omega
  rcases this with rfl | rfl | rfl | rfl | rfl | rfl <;> decide +kernel
theorem KeepR.free {rw sc t : Addr} {ns : List Int} {H H' : Hp} (k : KeepR rw H H') (r : RowAt K H' rw sc ns) (h : H' t = none) : H t = none := by
  cases q : H t with
  | none => rfl
  | some u =>
    by_cases z : t = rw
    · obtain ⟨xs, e⟩ := r.ex
      rw [z, e] at h
      cases h
    · rw [k t u q z] at h
      cases h
end

end MF
set_option Elab.async false
set_option linter.all false
set_option maxRecDepth 100000
set_option maxHeartbeats 2000000
set_option pp.maxSteps 600
namespace MF
open PySem PySem.Spec PyProof.Rows L2 StX
section
variable {P : Program} {w : World} {K : PySem.W.Frag} {mg : Str → Option Value} {base : Heap} {C_Book C_Letter C_Walker C_MailError C_InvalidOrder C_UnknownOrder C_InvalidAddress C_InvalidDay C_InvalidNumber : Addr} {FL : Str}
structure PS (K : PySem.W.Frag) (H0 H : Hp) (rw sc : Addr) (ns : List Int) (l : Addr) (as : List Addr) (os : List Ordr) : Prop where
  s0 : Same H0 H
  row : RowAt K H rw sc ns
  el : H l = some (.lst (as.map V.ref))
  ords : OrdsAt K H as os
  nl : l ≠ rw
theorem PS.same {H0 H H' : Hp} {rw sc : Addr} {ns : List Int} {l : Addr} {as : List Addr} {os : List Ordr} (S : PS K H0 H rw sc ns l as os) (s : Same H H') : PS K H0 H' rw sc ns l as os := ⟨S.s0.trans s, S.row.keep s, s _ _ S.el, S.ords.mono s, S.nl⟩
theorem PS.keepR {H0 H H' : Hp} {rw sc : Addr} {ns : List Int} {l : Addr} {as : List Addr} {os : List Ordr} (S : PS K H0 H rw sc ns l as os) (h0 : H0 rw = none) (r : RowAt K H' rw sc ns) (k : KeepR rw H H') : PS K H0 H' rw sc ns l as os :=
  ⟨fun b u e => k b u (S.s0 b u e) (ne_of_none e h0), r, k _ _ S.el S.nl, S.ords.keepR (k.tup S.row), S.nl⟩
theorem BookAt.keepR {C rw sc : Addr} {ns : List Int} {H H' : Hp} {bk : Addr} {os : List Ordr} (B : BookAt K C H bk os) (nb : bk ≠ rw) (R : RowAt K H rw sc ns) (k : KeepR rw H H') : BookAt K C H' bk os := B.kept (fun u e => k _ _ e nb) (k.tup R)
theorem RowAt.fresh {H : Hp} {rw sc p : Addr} {ns : List Int} (R : RowAt K H rw sc ns) (h : H p = none) : p ≠ rw := by
  obtain ⟨xs, q⟩ := R.ex
  exact (ne_of_none q h).symm
def farO (f l w : Int) : Ordr := ⟨"a", "g", f, l, w⟩
theorem far_good {most long : Nat} {os : List Ordr} {f l w : Int} (D : DrawnOs most long os) (hm : most ≤ 29) (hf : (most : Int) * (14 + max 12 (long : Int)) ≤ f) (h0 : 0 ≤ f) (hl : f ≤ l) (hl' : l ≤ 1000000000000000000) (hw : 1 ≤ w) (hw' : w ≤ 30) : Good (os ++ [farO f l w]) := by
  refine ⟨?_, fun o ho => ?_, ?_⟩
  · have := D.len
    rw [List.length_append]
    simp only [List.length_cons, List.length_nil]
    omega
  · rcases List.mem_append.mp ho with z | z
    · exact D.good.ok o z
    · rw [List.mem_singleton.mp z]
      exact ⟨by show isAddrB (.str "a") = true; decide, by show isAddrB (.str "g") = true; decide, by show ("a" : Str) ≠ "g"; decide, h0, hl, hl', hw, hw'⟩
  · refine List.pairwise_append.mpr ⟨D.good.apart, by simp, fun o ho p hp => ?_⟩
    rw [List.mem_singleton.mp hp]
    unfold overB
    have := D.tight o ho
    have : ¬ (farO f l w).first ≤ o.last := by
      show ¬ f ≤ o.last
      omega
    rw [decide_eq_false this, Bool.and_false, Bool.and_false]
end

end MF
set_option Elab.async false
set_option linter.all false
set_option maxRecDepth 100000
set_option maxHeartbeats 2000000
set_option pp.maxSteps 600
namespace MF
open PySem PySem.Spec PyProof.Rows L2 StX
section
variable {P : Program} {w : World} {K : PySem.W.Frag} {mg : Str → Option Value} {base : Heap} {C_Book C_Letter C_Walker C_MailError C_InvalidOrder C_UnknownOrder C_InvalidAddress C_InvalidDay C_InvalidNumber : Addr} {FL : Str}
def RK : Err → Prop
  | .address => True
  | .day => True
  | .order _ => True
  | .unknown _ => True
  | _ => False
theorem ok_raised {X : Cx} (hK : X.K = K) (hm : X.mg = mg) (T : Top K mg C_Book C_Letter C_Walker C_MailError C_InvalidOrder C_UnknownOrder C_InvalidAddress C_InvalidDay C_InvalidNumber FL) : LFn X "_law_raised" "_law_work" (TRaised RK ⟨C_InvalidOrder, C_UnknownOrder, C_InvalidAddress, C_InvalidDay, C_InvalidNumber⟩) := by
  subst hK
  subst hm
  obtain ⟨g, fd, F, hm, hb⟩ := T.d__law_raised.ex
  obtain ⟨oc, od, kV, doc, pm, an, cdv, ct, osl, rfl, lk, hcd⟩ := F.ex
  refine ⟨⟨g, oc, od, defArgs s__law_raised, defBody s__law_raised, defScope s__law_raised, .none, kV, doc, pm, cdv, ct, an, osl, ["_law_work", "e", "_law_kinds", "_law_at", "_law_word"], hm, F.kp, lk, hcd, hb, sc__law_raised, rfl, by first | exact .inl rfl | exact .inr (.inl rfl), ?_⟩⟩
  intro f s H Q ok tl hkeep act hok h hE65
  refine ⟨_, pss_cons (ps_try_as (i := 1) (c := .ref C_MailError) (Wout := fun _ _ _ _ => False) rfl rfl sc__law_raised.nd rfl rfl ⟨rfl, by decide, .inl T.g_MailError⟩ LamX.takes0 (fun W pn xe tk _ => pss_one (ps_expr (act W pn xe _ _ tk))) (fun a oe cls d pn hz hf =>
    (pss_cons (ps_set (i := 2) sc__law_raised.nd rfl (Or.inl rfl) (pe_lst (pa_cons (pe_callB (call_isY hz hf) (by rfl) T.b_isinstance (by decide +kernel) (pa_cons (pv 1) (pa_cons (pe_glob (v := V.ref C_InvalidOrder) rfl T.g_InvalidOrder rfl) pa_nil))) (pa_cons (pe_callB (call_isY hz hf) (by rfl) T.b_isinstance (by decide +kernel) (pa_cons (pv 1) (pa_cons (pe_glob (v := V.ref C_UnknownOrder) rfl T.g_UnknownOrder rfl) pa_nil))) (pa_cons (pe_callB (call_isY hz hf) (by rfl) T.b_isinstance (by decide +kernel) (pa_cons (pv 1) (pa_cons (pe_glob (v := V.ref C_InvalidAddress) rfl T.g_InvalidAddress rfl) pa_nil))) pa_nil)))))
  (pss_cons (ps_set (i := 2) sc__law_raised.nd rfl (Or.inl rfl) (pe_op op_cat (pv 2) (pe_lst (pa_cons (pe_callB (call_isY hz hf) (by rfl) T.b_isinstance (by decide +kernel) (pa_cons (pv 1) (pa_cons (pe_glob (v := V.ref C_InvalidDay) rfl T.g_InvalidDay rfl) pa_nil))) (pa_cons (pe_callB (call_isY hz hf) (by rfl) T.b_isinstance (by decide +kernel) (pa_cons (pv 1) (pa_cons (pe_glob (v := V.ref C_InvalidNumber) rfl T.g_InvalidNumber rfl) pa_nil))) pa_nil)))))
  (pss_cons (ps_if (PW.pt (pw_or (pt_cmpR op_ne (pe_bmK (K := X.K) PySem.F.plainAttrs_list PySem.F.slot_list_count PySem.F.type_list_count (mt_lcountBK (K := X.K)) (pv 2) (pa_cons pe_bl pa_nil)) pe_int (nomark _)) (pw_or1 (pt_not (pt_val (pe_callB (call_isY hz hf) (by rfl) T.b_isinstance (by decide +kernel) (pa_cons (pv 1) (pa_cons (pe_bltn (v := .ty "ValueError") (by rfl) T.b_ValueError (by decide +kernel) rfl) pa_nil))))))))
  (pss_one (ps_ret (pe_tup (pa_cons pe_str pa_nil))))
  pss_nil)
  (pss_cons (ps_set (i := 3) sc__law_raised.nd rfl (Or.inl rfl) (pe_bmK (K := X.K) PySem.F.plainAttrs_list PySem.F.slot_list_index PySem.F.type_list_index (mt_indexDK (K := X.K) hE65) (pv 2) (pa_cons pe_bl pa_nil)))
  (pss_cons (ps_set (i := 4) sc__law_raised.nd rfl (Or.inl rfl) (pe_ix (ix_listK (K := X.K)) (pe_lst (pa_cons pe_str (pa_cons pe_str (pa_cons pe_str (pa_cons pe_str (pa_cons pe_str pa_nil)))))) (pv 3) (fun _ _ => rfl)))
  (pss_one (ps_ret (pe_ifExp (pt_cmpR op_lt (pv 3) pe_int (nomark _)) (pe_tup (pa_cons (pv 4) (pa_cons (pe_xfY hz hf (pv 1)) pa_nil))) (pe_tup (pa_cons (pv 4) pa_nil)))))))))))) (pss_one (ps_ret pe_non)), ?_⟩
  refine ⟨rfl, hok, _, fun cls d H' ⟨r, hrk, hr, hk⟩ => ?_, h⟩
  have fin : ∃ (D : Addr) (b1 b2 b3 b4 b5 : Bool) (j : Nat) (res : List V), cls = .ref D ∧ ErrC X.K D C_MailError ∧ PySem.W.kitOne X.K (.ref D) (.ref C_InvalidOrder) = some b1 ∧ PySem.W.kitOne X.K (.ref D) (.ref C_UnknownOrder) = some b2 ∧ PySem.W.kitOne X.K (.ref D) (.ref C_InvalidAddress) = some b3 ∧
      PySem.W.kitOne X.K (.ref D) (.ref C_InvalidDay) = some b4 ∧ PySem.W.kitOne X.K (.ref D) (.ref C_InvalidNumber) = some b5 ∧ [b1, b2, b3, b4, b5].count true = 1 ∧ j < 5 ∧ [b1, b2, b3, b4, b5][j]? = some true ∧ (∀ m, m < j → [b1, b2, b3, b4, b5][m]? = some false) ∧ DictSt H' d ∧
      (j < 2 → ∃ v dd, d = some dd ∧ H' dd = some (.xd [("index", v)]) ∧ PySem.W.findIn X.K (.ref D) "index" = some none ∧ res = [.str (wordAt j), v]) ∧ (¬ j < 2 → res = [.str (wordAt j)]) ∧ (∀ p H2, Same H' H2 → H' p = none → H2 p = some (.tup res) → Q (.ref p) H2) := by
    cases r with
    | order i =>
      obtain ⟨h1, dd, h2, h3⟩ := hr
      exact ⟨C_InvalidOrder, true, false, false, false, false, 0, _,  h1, T.e_InvalidOrder, T.k_InvalidOrder_InvalidOrder, T.k_InvalidOrder_UnknownOrder, T.k_InvalidOrder_InvalidAddress, T.k_InvalidOrder_InvalidDay, T.k_InvalidOrder_InvalidNumber, rfl, by decide, rfl, (fun m hm => by rcases m with _ | _ | _ | _ | m <;> first | rfl | omega), (fun d2 e => by rw [h2] at e; cases e; exact ⟨_, h3⟩), (fun _ => ⟨i, dd, h2, h3, T.na_InvalidOrder, rfl⟩), (fun z => absurd (by decide) z), hk⟩
    | unknown i =>
      obtain ⟨h1, dd, h2, h3⟩ := hr
      exact ⟨C_UnknownOrder, false, true, false, false, false, 1, _,  h1, T.e_UnknownOrder, T.k_UnknownOrder_InvalidOrder, T.k_UnknownOrder_UnknownOrder, T.k_UnknownOrder_InvalidAddress, T.k_UnknownOrder_InvalidDay, T.k_UnknownOrder_InvalidNumber, rfl, by decide, rfl, (fun m hm => by rcases m with _ | _ | _ | _ | m <;> first | rfl | omega), (fun d2 e => by rw [h2] at e; cases e; exact ⟨_, h3⟩), (fun _ => ⟨i, dd, h2, h3, T.na_UnknownOrder, rfl⟩), (fun z => absurd (by decide) z), hk⟩
    | address =>
      exact ⟨C_InvalidAddress, false, false, true, false, false, 2, _,  hr.1, T.e_InvalidAddress, T.k_InvalidAddress_InvalidOrder, T.k_InvalidAddress_UnknownOrder, T.k_InvalidAddress_InvalidAddress, T.k_InvalidAddress_InvalidDay, T.k_InvalidAddress_InvalidNumber, rfl, by decide, rfl, (fun m hm => by rcases m with _ | _ | _ | _ | m <;> first | rfl | omega), (fun dd e => by rw [hr.2] at e; cases e), (fun z => absurd z (by decide)), (fun _ => rfl), hk⟩
    | day =>
      exact ⟨C_InvalidDay, false, false, false, true, false, 3, _,  hr.1, T.e_InvalidDay, T.k_InvalidDay_InvalidOrder, T.k_InvalidDay_UnknownOrder, T.k_InvalidDay_InvalidAddress, T.k_InvalidDay_InvalidDay, T.k_InvalidDay_InvalidNumber, rfl, by decide, rfl, (fun m hm => by rcases m with _ | _ | _ | _ | m <;> first | rfl | omega), (fun dd e => by rw [hr.2] at e; cases e), (fun z => absurd z (by decide)), (fun _ => rfl), hk⟩
    | number =>
      exact (show False from hrk).elim
    | letter i =>
      exact (show False from hrk).elim
    | holding i =>
      exact (show False from hrk).elim
    | operation i =>
      exact (show False from hrk).elim
    | contra =>
      exact (show False from hrk).elim
    | count =>
      exact (show False from hrk).elim
    | decode i =>
      exact (show False from hrk).elim
    | note r w =>
      exact (show False from hrk).elim
  obtain ⟨D, b1, b2, b3, b4, b5, j, res, hcls, EC, k1, k2, k3, k4, k5, hcnt, hj5, hj, hb, hd, r1, r2, kk⟩ := fin
  refine ⟨true, by rw [hcls]; exact EC.exm, fun _ a ha => ?_, fun z => by cases z⟩
  have ask : ∀ {H1 : Hp}, Same H' H1 → DictSt H1 d := fun s dd e => by
    obtain ⟨fs, z⟩ := hd dd e
    exact ⟨fs, s _ _ z⟩
  refine ⟨_, rfl, D, _, _, b1, rfl, hcls, EC.exc, (fun u z => z), k1, ask (Same.refl _), _, rfl, D, _, _, b2, rfl, hcls, EC.exc, (fun u z => z), k2, ask (Same.refl _), _, rfl, D, _, _, b3, rfl, hcls, EC.exc, (fun u z => z), k3, ask (Same.refl _), (by show 3 ≤ sizeLine; decide), fun p1 h1 => ?_⟩
  have s1 : Same H' (upd H' p1 (.lst [.bl b1, .bl b2, .bl b3])) := Same.new h1
  have e1 : (upd H' p1 (.lst [.bl b1, .bl b2, .bl b3])) p1 = some (.lst [.bl b1, .bl b2, .bl b3]) := upd_same
  generalize upd H' p1 (.lst [.bl b1, .bl b2, .bl b3]) = H1 at s1 e1
  refine ⟨_, rfl, _, rfl, D, _, _, b4, rfl, hcls, EC.exc, (fun u z => z), k4, ask s1, _, rfl, D, _, _, b5, rfl, hcls, EC.exc, (fun u z => z), k5, ask s1, (by show 2 ≤ sizeLine; decide), fun p2 h2 => ?_⟩
  have s2 := Same.new (o := .lst [.bl b4, .bl b5]) h2
  have e2 : (upd H1 p2 (.lst [.bl b4, .bl b5])) p2 = some (.lst [.bl b4, .bl b5]) := upd_same
  generalize upd H1 p2 (.lst [.bl b4, .bl b5]) = H2 at s2 e2
  refine ⟨p1, p2, _, _, rfl, rfl, s2 _ _ e1, e2, (by show 5 ≤ sizeLine; decide), fun p3 h3 => ?_⟩
  have s3 := Same.new (o := .lst ([b1, b2, b3, b4, b5].map V.bl)) h3
  have e3 : (upd H2 p3 (.lst ([b1, b2, b3, b4, b5].map V.bl))) p3 = some (.lst ([b1, b2, b3, b4, b5].map V.bl)) := upd_same
  have s03 := (s1.trans s2).trans s3
  change Same H' (upd H2 p3 (.lst ([.bl b1, .bl b2, .bl b3] ++ [.bl b4, .bl b5]))) at s03
  change (upd H2 p3 (.lst ([.bl b1, .bl b2, .bl b3] ++ [.bl b4, .bl b5]))) p3 = _ at e3
  generalize upd H2 p3 (.lst ([.bl b1, .bl b2, .bl b3] ++ [.bl b4, .bl b5])) = H3 at s03 e3
  refine ⟨_, rfl, .inl ⟨rfl, _, SqL.of e3⟩, p3, [b1, b2, b3, b4, b5], true, rfl, rfl, SqL.of e3, ?_⟩
  rw [hcnt]
  refine ⟨rfl, _, rfl, iteND rfl ?_⟩
  refine ⟨_, rfl, D, _, _, true, rfl, hcls, EC.exc, (fun u z => z), EC.ve, ask s03, _, rfl, ?_⟩
  refine iteF ?_
  have hz : ([b1, b2, b3, b4, b5].map PyData.bool)[j]? = some (.bool true) := by rw [List.getElem?_map, hj]; rfl
  have sh : ∀ c1 c2 c3 c4 c5 : Bool, SeqAt.shaped (.list ([c1, c2, c3, c4, c5].map PyData.bool)) = true := by decide +kernel
  have dpb : ∀ l : List Bool, DpAll X.K H3 (l.map V.bl) (l.map PyData.bool) := fun l => by
    induction l with
    | nil => exact .nil
    | cons b l ih => exact .cons (.bl b) ih
  refine ⟨_, rfl, .inl ⟨rfl, _, SqL.of e3⟩, p3, _, .bool true, [b1, b2, b3, b4, b5].map PyData.bool, j, .bool true, rfl, rfl, .lst (SqL.of e3) (dpb _), .bl true, sh _ _ _ _ _, by decide +kernel, hz, by decide +kernel, fun m z' hm ez => ?_, ?_⟩
  · rw [List.getElem?_map, hb m hm] at ez
    cases ez
    decide +kernel
  refine ⟨(by show 5 ≤ sizeLine; decide), fun p4 h4 => ?_⟩
  have s4 := Same.new (o := .lst [.str "order", .str "unknown", .str "address", .str "day", .str "number"]) h4
  have e4 : (upd H3 p4 (.lst [.str "order", .str "unknown", .str "address", .str "day", .str "number"])) p4 = some (.lst [.str "order", .str "unknown", .str "address", .str "day", .str "number"]) := upd_same
  generalize upd H3 p4 (.lst [.str "order", .str "unknown", .str "address", .str "day", .str "number"]) = H4 at s4 e4
  have s04 := s03.trans s4
  have wj : atI [V.str "order", .str "unknown", .str "address", .str "day", .str "number"] (j : Int) = some (.str (wordAt j)) := by
    have : j = 0 ∨ j = 1 ∨ j = 2 ∨ j = 3 ∨ j = 4 := by omega
    rcases this with rfl | rfl | rfl | rfl | rfl <;> rfl
  refine ⟨_, rfl, p4, _, _, _, rfl, rfl, SqL.of e4, wj, ?_⟩
  refine ⟨_, rfl, _, _, rfl, rfl, _, rfl, ite2 (fun c => ?_) (fun c => ?_)⟩
  · have c' : j < 2 := by
      have : ((j : Nat) : Int) < 2 := of_decide_eq_true c
      omega
    obtain ⟨v, dd, ed, hx, hno, rfl⟩ := r1 c'
    refine ⟨_, rfl, _, rfl, rfl, D, dd, _, v, hcls, EC.xf, hno, ed, s04 _ _ hx, (by simp [List.lookup]), (by show 2 ≤ sizeLine; decide), fun p5 h5 => ?_⟩
    exact kk p5 _ (s04.trans (Same.new h5)) (s04.free h5) upd_same
  · have c' : ¬ j < 2 := fun z => c (decide_eq_true (by show ((j : Nat) : Int) < 2; omega))
    obtain rfl := r2 c'
    refine ⟨_, rfl, (by show 1 ≤ sizeLine; decide), fun p5 h5 => ?_⟩
    exact kk p5 _ (s04.trans (Same.new h5)) (s04.free h5) upd_same
end

end MF
set_option Elab.async false
set_option linter.all false
set_option maxRecDepth 100000
set_option maxHeartbeats 2000000
set_option pp.maxSteps 600
namespace MF
open PySem PySem.Spec PyProof.Rows L2 StX
section
variable {P : Program} {w : World} {K : PySem.W.Frag} {mg : Str → Option Value} {base : Heap} {C_Book C_Letter C_Walker C_MailError C_InvalidOrder C_UnknownOrder C_InvalidAddress C_InvalidDay C_InvalidNumber : Addr} {FL : Str}
theorem tabs_keepR {T : List (Addr × Str)} {H H' : Hp} {rw sc : Addr} {ns : List Int} (R : RowAt K H rw sc ns) (t : LamX.Tabs T H) (k : KeepR rw H H') : LamX.Tabs T H' := fun p hp => by
  obtain ⟨xs, hr⟩ := R.ex
  obtain ⟨ps, h1, h2, h3⟩ := t p hp
  have ne : ∀ {b : Addr} {o : HO}, H b = some o → (∀ l, o ≠ .lst l) → H' b = some o := fun {b o} e n => k _ _ e fun z => by
    rw [z, hr] at e
    cases e
    exact n _ rfl
  refine ⟨ps, ne h1 (fun l z => by cases z), h2, fun pos cv hc => ?_⟩
  obtain ⟨c, e1, e2⟩ := h3 pos cv hc
  exact ⟨c, e1, ne e2 (fun l z => by cases z)⟩
theorem row_nil {H : Hp} {rw sc r : Addr} {ns : List Int} (R : RowAt K H rw sc ns) (z : H r = none) : r ≠ rw := fun e => by
  obtain ⟨xs, q⟩ := R.ex
  rw [← e, z] at q
  cases q
theorem row_extN {H H' : Hp} {rw sc : Addr} {ns : List Int} (R : RowAt K H rw sc ns) (e : LamX.ExtN H H') : RowAt K H' rw sc ns := by
  obtain ⟨j, m, r, h1, h2, h3⟩ := R
  refine ⟨j, m, r, e _ _ h1 (fun ps z => by cases z), ?_, h3⟩
  rcases h2 with ⟨h | ⟨o, h⟩, n⟩ | h
  · exact .inl ⟨.inl (e _ _ h (fun ps z => by cases z)), n⟩
  · exact .inl ⟨.inr ⟨o, e _ _ h (fun ps z => by cases z)⟩, n⟩
  · exact .inr h
theorem book_extN {C : Addr} {H H' : Hp} {p : Addr} {os : List Ordr} (h : BookAt K C H p os) (e : LamX.ExtN H H') : BookAt K C H' p os := by
  have h0 := h
  obtain ⟨dx, t, as, h1, _, _⟩ := h0
  refine h.kept (fun u hu => e _ _ hu (fun ps z => ?_)) (fun b u hu y => e _ _ hu (fun ps z => by rw [z] at y; cases y))
  rw [h1, Option.some.injEq] at hu
  rw [← hu] at z
  cases z
theorem tabs_but {T : List (Addr × Str)} {H H' : Hp} {lw : Addr} {xs : List V} (hr : H lw = some (.lst xs)) (t : LamX.Tabs T H) (k : ∀ b u, H b = some u → b ≠ lw → H' b = some u) : LamX.Tabs T H' := fun p hp => by
  obtain ⟨ps, h1, h2, h3⟩ := t p hp
  have ne : ∀ {b : Addr} {o : HO}, H b = some o → (∀ l, o ≠ .lst l) → H' b = some o := fun {b o} e n => k _ _ e fun z => by
    rw [z, hr] at e
    cases e
    exact n _ rfl
  refine ⟨ps, ne h1 (fun l z => by cases z), h2, fun pos cv hc => ?_⟩
  obtain ⟨c, e1, e2⟩ := h3 pos cv hc
  exact ⟨c, e1, ne e2 (fun l z => by cases z)⟩
theorem updS {H H2 : Hp} {q : Addr} {o : HO} (e : L2.upd H q o = H2) : (∀ b u, H b = some u → b ≠ q → H2 b = some u) ∧ H2 q = some o := by
  subst e
  exact ⟨fun b u h n => by rw [upd_ne n]; exact h, upd_same⟩
theorem upT {H H2 : Hp} {q : Addr} {xs : List V} (hq : H q = some (.lst xs)) (up : ∀ b u, H b = some u → b ≠ q → H2 b = some u) : ∀ b u, H b = some u → tupl u = true → H2 b = some u := fun b u e y => up _ _ e fun z => by
  rw [z, hq] at e
  cases e
  cases y
theorem keepR_ord {H H' : Hp} {rw sc : Addr} {ns : List Int} (R : RowAt K H rw sc ns) (k : ∀ b u, H b = some u → b ≠ rw → H' b = some u) {q : Addr} {o : Ordr} (h : OrdAt K H q o) : OrdAt K H' q o := by
  have : OrdsAt K H [q] [o] := .cons h .nil
  cases this.keepR (KeepR.tup k R) with
  | cons a _ => exact a
theorem ord_but {H H' : Hp} {q : Addr} {o : Ordr} (h : OrdAt K H q o) (k : ∀ b u, H b = some u → tupl u = true → H' b = some u) : OrdAt K H' q o := by
  have : OrdsAt K H [q] [o] := .cons h .nil
  cases this.keepR k with
  | cons a _ => exact a
theorem sq_extN {H H' : Hp} {l : Addr} {xs : List V} (h : SqL K H l xs) (e : LamX.ExtN H H') : SqL K H' l xs := by
  rcases h with (h | ⟨o, h⟩) | h
  · exact .inl (.inl (e _ _ h fun ps z => by cases z))
  · exact .inl (.inr ⟨o, e _ _ h fun ps z => by cases z⟩)
  · exact .inr h
theorem ords_extN {H H' : Hp} {as : List Addr} {os : List Ordr} (h : OrdsAt K H as os) (e : LamX.ExtN H H') : OrdsAt K H' as os := h.keepR fun b u hu y => e _ _ hu fun ps z => by rw [z] at y; cases y
def lawQ : Str := "law.<locals>.<lambda>"
end

end MF
set_option Elab.async false
set_option linter.all false
set_option maxRecDepth 100000
set_option maxHeartbeats 2000000
set_option pp.maxSteps 600
namespace MF
open PySem PySem.Spec PyProof.Rows L2 StX
section
variable {P : Program} {w : World} {K : PySem.W.Frag} {mg : Str → Option Value} {base : Heap} {C_Book C_Letter C_Walker C_MailError C_InvalidOrder C_UnknownOrder C_InvalidAddress C_InvalidDay C_InvalidNumber : Addr} {FL : Str}
def WAt (H : Hp) (v : V) : Option (List Nat × Int) → Prop
  | some (us, d) => ∃ t l, v = .ref t ∧ H t = some (.tup [.ref l, .int d]) ∧ H l = some (.lst (natsV us))
  | none => v = .non
def spWalkL (K : PySem.W.Frag) : Sp := fun vs H Q _ => ∃ l as os x d g al, ∃ ks : List Nat, vs = [.ref l, .str x, .int d, .str g, .ref al] ∧ SqL K H l (as.map V.ref) ∧ OrdsAt K H as os ∧ Good os ∧ H al = some (.lst (natsV ks)) ∧
  ∀ H' v r, Same H H' → WAt H' v r → WL os (fun j => j ∈ ks) g (x, d) r → Q v H'
theorem ok_walkL (T : Top K mg C_Book C_Letter C_Walker C_MailError C_InvalidOrder C_UnknownOrder C_InvalidAddress C_InvalidDay C_InvalidNumber FL) : GFn P w K mg base CX0 3 "_law_walk" (spWalkL K) := by
  have G__law_index : GFn P w K mg base CX0 1 "_law_index" (spIndex K) := ok_index T
  have G__law_ended : GFn P w K mg base CX0 2 "_law_ended" (spEnded K) := ok_ended T
  refine T.d__law_walk.fn fun f fd F => F.ok sc__law_walk (fun vs H Q E h => ?_) (fun cdv A outer s H vs Q E hr h => ?_)
  · obtain ⟨l, as, os, x, d, g, al, ks, rfl, _⟩ := h
    rfl
  · obtain ⟨l, as, os, x, d, goal, al, ks, rfl, hl, ho, g, hal, k⟩ := h
    refine ⟨_, (pss_cons (ps_par (i := 5) (j := 6) (by rfl) sc__law_walk.nd rfl rfl (by decide) rfl rfl (pa_cons (pe_lst pa_nil) (pa_cons pe_int pa_nil)) (by rfl))
  (pss_cons (ps_while PassesOwn.never (pt_cmpR op_lt (pv 6) pe_int (nomark _))
  (pss_cons (ps_par (i := 6) (j := 7) (by rfl) sc__law_walk.nd rfl rfl (by decide) rfl rfl (pa_cons (pe_op op_add (pv 6) pe_int) (pa_cons (pe_g G__law_index (hr.mono (by decide)) (pa_cons (pv 0) (pa_cons (pv 1) (pa_cons (pv 2) pa_nil)))) pa_nil)) (by rfl))
  (pss_cons (ps_if (PW.pt (pw_and (pt_cmpR op_isN (pv 7) pe_non (nomark _)) (pw_and1 (pt_cmpR op_eq (pv 1) (pv 3) (nomark _)))))
  (pss_one (ps_ret (pe_tup (pa_cons (pv 5) (pa_cons (pv 2) pa_nil)))))
  pss_nil)
  (C8.pss_cut (ps_if (pt_cmpR op_isN (pv 7) pe_non (nomark _))
  (pss_cons (ps_set (i := 7) sc__law_walk.nd rfl (Or.inl rfl) (pe_g G__law_ended (hr.mono (by decide)) (pa_cons (pv 0) (pa_cons (pv 1) (pa_cons (pv 2) pa_nil)))))
  (pss_cons (ps_if (PW.pt (pw_or (pt_cmpR op_isN (pv 7) pe_non (nomark _)) (pw_or1 (pt_cmpR op_notIn_seq (pv 7) (pv 4) rfl))))
  (pss_one (ps_ret pe_non))
  pss_nil)
  (pss_one (ps_set (i := 5) sc__law_walk.nd rfl (Or.inl rfl) (pe_op op_cat (pv 5) (pe_op op_rep (pe_lst (pa_cons (pv 7) pa_nil)) (pe_callTy call_int1 (by rfl) T.b_int (by decide +kernel) (pa_cons (pe_cmpR op_notIn_seq (pv 7) (pv 5) rfl) pa_nil))))))))
  pss_nil)
  (pss_one (ps_par (i := 1) (j := 2) (by rfl) sc__law_walk.nd rfl rfl (by decide) rfl rfl (pa_cons (pe_ix ix_tup (pe_ix ix_list (pv 0) (pv 7) (fun _ _ => rfl)) pe_int (fun _ _ => rfl)) (pa_cons (pe_op op_add (pv 2) (pe_ix ix_tup (pe_ix ix_list (pv 0) (pv 7) (fun _ _ => rfl)) pe_int (fun _ _ => rfl))) pa_nil)) (by rfl)))))))
  (pss_one (ps_ret pe_non)))), ?_⟩
    have lo : as.length = os.length := PySem.Paired.length ho
    have h30 := g.len
    let tl (x' : Str) (d' : Int) (v5 v6 v7 : Option V) : L2.St := [some (.ref l), some (.str x'), some (.int d'), some (.str goal), some (.ref al), v5, v6, v7]
    refine ⟨Nat.zero_le _, ?_⟩
    intro nd0 hnd0
    generalize gH0 : L2.upd _ nd0 _ = H0
    obtain ⟨s0, e0⟩ := newS hnd0 gH0
    clear gH0
    refine ⟨_, _, rfl, ?_⟩
    refine ⟨fun m σ H' => ∃ x' d' nd us v7, ∃ n : Nat, n + m = 400 ∧ Same H H' ∧ H' nd = some (.lst (natsV us)) ∧ GoN os goal (x, d) [] n (x', d') us ∧ (∀ j ∈ us, j ∈ ks) ∧ σ = tl x' d' (some (.ref nd)) (some (.int (n : Nat))) v7, ⟨400, x, d, nd0, [], none, 0, rfl, s0, e0, .refl _ _, (fun j h => by cases h), rfl⟩, ?_⟩
    rintro m σ H1 ⟨x', d', nd, us, v7, n, hnm, s1, e1, gn, hA, rfl⟩
    have ul : us.length ≤ 30 := by
      obtain ⟨h1, h2⟩ := gn.nodup ⟨List.nodup_nil, fun _ z => by cases z⟩
      have := lenSubG (m := List.range os.length) h1 fun a ha => List.mem_range.mpr (h2 a ha)
      rw [List.length_range] at this
      omega
    refine ⟨_, rfl, _, _, rfl, rfl, _, rfl, ?_⟩
    by_cases c : (n : Int) < 400
    · refine iteD c ?_
      obtain ⟨m', rfl⟩ : ∃ m', m = m' + 1 := ⟨m - 1, by omega⟩
      refine ⟨fun σ H' => ∃ x' d' nd us v7, ∃ n : Nat, n + m' = 400 ∧ Same H H' ∧ H' nd = some (.lst (natsV us)) ∧ GoN os goal (x, d) [] n (x', d') us ∧ (∀ j ∈ us, j ∈ ks) ∧ σ = tl x' d' (some (.ref nd)) (some (.int (n : Nat))) v7, fun σ' H' h => ⟨m', Nat.lt_succ_self _, h⟩, ?_⟩
      refine ⟨_, rfl, _, _, rfl, rfl, _, rfl, _, rfl, _, rfl, l, as, os, x', d', rfl, s1.seq hl, ho.mono s1, h30, fun H2 s2 => ?_⟩
      have s12 := s1.trans s2
      have e2 := s2 _ _ e1
      refine ⟨_, _, rfl, ?_⟩
      have step : ∀ {i : Nat} {o : Ordr} {nd' : Addr} {us' : List Nat} {H3 : Hp}, idxW os goal x' d' = some i → os[i]? = some o → us' = addN os (x', d') us i → (∀ j ∈ us', j ∈ ks) → Same H H3 → H3 nd' = some (.lst (natsV us')) →
          ∃ a, OrdAt K H3 a o ∧ atI (as.map V.ref) (i : Int) = some (V.ref a) ∧ SqL K H3 l (as.map V.ref) ∧ GoN os goal (x, d) [] (n + 1) (o.tgt, d' + o.way) us' := fun {i o nd' us' H3} h1 h2 h3 h4 h5 h6 => by
        obtain ⟨a, ea⟩ : ∃ a, as[i]? = some a := ⟨as[i]'(by rw [lo]; exact (List.getElem?_eq_some_iff.mp h2).1), by simp⟩
        obtain ⟨o', eo', oa⟩ := Paired.get ho ea
        rw [h2] at eo'
        cases eo'
        rw [h3]
        exact ⟨a, oa.mono h5, atI_nat (by rw [List.getElem?_map, ea]; rfl), h5.seq hl, gn.trans (GoN.one (s := (x', d')) h1 h2)⟩
      have fin : ∀ {i : Nat} {o : Ordr} {nd' : Addr} {us' : List Nat} {H3 : Hp}, idxW os goal x' d' = some i → os[i]? = some o → us' = addN os (x', d') us i → (∀ j ∈ us', j ∈ ks) → Same H H3 → H3 nd' = some (.lst (natsV us')) →
          (fun (σ' : L2.St) (H' : Hp) => ∃ i o nd' us', idxW os goal x' d' = some i ∧ os[i]? = some o ∧ us' = addN os (x', d') us i ∧ (∀ j ∈ us', j ∈ ks) ∧ Same H H' ∧ H' nd' = some (.lst (natsV us')) ∧ σ' = tl x' d' (some (.ref nd')) (some (.int ((n + 1 : Nat)))) (some (.int (i : Nat)))) (tl x' d' (some (.ref nd')) (some (.int ((n + 1 : Nat)))) (some (.int (i : Nat)))) H3 := fun h1 h2 h3 h4 h5 h6 => ⟨_, _, _, _, h1, h2, h3, h4, h5, h6, rfl⟩
      cases eo : ordFor os x' d' with
      | some i =>
        obtain ⟨o, ei, _⟩ := ordFor_some eo
        have ix : idxW os goal x' d' = some i := by unfold idxW; rw [eo]
        have an : us = addN os (x', d') us i := by
          unfold addN
          rw [if_neg fun z => by rw [show ordFor os (x', d').1 (x', d').2 = some i from eo] at z; cases z.1]
        refine ⟨_, rfl, rfl, _, rfl, iteDN (by intro z; cases z) (iteF ?_)⟩
        refine ⟨fun σ' H' => ∃ i o nd' us', idxW os goal x' d' = some i ∧ os[i]? = some o ∧ us' = addN os (x', d') us i ∧ (∀ j ∈ us', j ∈ ks) ∧ Same H H' ∧ H' nd' = some (.lst (natsV us')) ∧ σ' = tl x' d' (some (.ref nd')) (some (.int ((n + 1 : Nat)))) (some (.int (i : Nat))), ?_, ?_⟩
        · refine ⟨_, rfl, rfl, _, rfl, iteDN (by intro z; cases z) ?_⟩
          exact fin ix ei an hA s12 e2
        · rintro σ H3 ⟨i, o, nd', us', h1, h2, h3, h4, h5, h6, rfl⟩
          obtain ⟨a, oa, at1, hl3, gn'⟩ := step h1 h2 h3 h4 h5 h6
          refine ⟨_, rfl, _, rfl, l, _, _, V.ref a, rfl, rfl, hl3, at1, a, _, _, _, rfl, rfl, oa, rfl, _, rfl, _, rfl, _, rfl, l, _, _, V.ref a, rfl, rfl, hl3, at1, a, _, _, _, rfl, rfl, oa, rfl, _, _, rfl, rfl, _, _, rfl, ?_⟩
          exact ⟨o.tgt, d' + o.way, nd', us', _, n + 1, by omega, h5, h6, gn', h4, rfl⟩
      | none =>
        refine ⟨_, rfl, rfl, _, rfl, iteD rfl ?_⟩
        refine ⟨_, rfl, _, rfl, rfl, _, rfl, ?_⟩
        by_cases cg : x' = goal
        · refine iteD (show V.str x' = V.str goal by rw [cg]) ?_
          refine ⟨_, rfl, _, rfl, (by show 2 ≤ sizeLine; decide), ?_⟩
          intro t ht
          generalize gH3 : L2.upd _ t _ = H3
          obtain ⟨s3, e3⟩ := newS ht gH3
          clear gH3
          have ix : idxW os goal x' d' = none := by unfold idxW; rw [eo]; exact if_pos cg
          refine k _ (.ref t) (some (us, d')) (s12.trans s3) ⟨t, nd, rfl, e3, s3 _ _ e2⟩ ⟨n, by omega, (by subst cg; exact ⟨gn, ix⟩), hA⟩
        · refine iteDN (fun z => cg (V.str.inj z)) ?_
          have ix : idxW os goal x' d' = lastEnd os x' d' := by unfold idxW; rw [eo]; exact if_neg cg
          refine ⟨fun σ' H' => ∃ i o nd' us', idxW os goal x' d' = some i ∧ os[i]? = some o ∧ us' = addN os (x', d') us i ∧ (∀ j ∈ us', j ∈ ks) ∧ Same H H' ∧ H' nd' = some (.lst (natsV us')) ∧ σ' = tl x' d' (some (.ref nd')) (some (.int ((n + 1 : Nat)))) (some (.int (i : Nat))), ?_, ?_⟩
          · refine ⟨_, rfl, rfl, _, rfl, iteD rfl ?_⟩
            refine ⟨_, rfl, _, rfl, _, rfl, l, as, os, x', d', rfl, s12.seq hl, ho.mono s12, g, fun H3 s3 => ?_⟩
            have s13 := s12.trans s3
            have e3 := s3 _ _ e2
            cases el : lastEnd os x' d' with
            | none =>
              refine ⟨_, rfl, rfl, _, rfl, iteD rfl (iteT ?_)⟩
              refine k _ .non none s13 rfl fun N us2 d2 hN e => ?_
              exfalso
              obtain ⟨h1, h2⟩ := e.after gn
              have q : idxW os goal x' d' = none := by rw [ix, el]
              obtain ⟨_, q2, _⟩ := (EndsN.uniq h2 ⟨.refl _ _, q⟩)
              cases q2
              exact cg rfl
            | some i =>
              obtain ⟨o, ei, _⟩ := lastEnd_some el
              have ix' : idxW os goal x' d' = some i := by rw [ix, el]
              refine ⟨_, rfl, rfl, _, rfl, iteDN (by intro z; cases z) ?_⟩
              refine ⟨_, rfl, _, rfl, al, _, rfl, .inl (SqL.of (s13 _ _ hal)), rfl, natsV_flat ks, _, rfl, ?_⟩
              rw [show (if true = true then !inV (optI (some i)) (natsV ks) else inV (optI (some i)) (natsV ks)) = !decide (i ∈ ks) from by rw [if_pos rfl]; exact congrArg _ (natsV_in ks i)]
              by_cases hk : i ∈ ks
              · refine iteND hk ?_
                refine ⟨_, rfl, _, rfl, (by show 1 ≤ sizeLine; decide), ?_⟩
                intro z hz
                generalize gH4 : L2.upd _ z _ = H4
                obtain ⟨s4, e4⟩ := newS hz gH4
                clear gH4
                refine ⟨_, rfl, _, rfl, nd, _, rfl, .inl (SqL.of (s4 _ _ e3)), rfl, natsV_flat us, ?_⟩
                rw [show (if true = true then !inV (optI (some i)) (natsV us) else inV (optI (some i)) (natsV us)) = !decide (i ∈ us) from by rw [if_pos rfl]; exact congrArg _ (natsV_in us i)]
                refine .inr ⟨_, rfl, ?_⟩
                have eo' : ordFor os (x', d').1 (x', d').2 = none := eo
                by_cases hu : i ∈ us
                · rw [decide_eq_true hu]
                  refine ⟨z, _, _, rfl, rfl, e4, by decide, by decide, (by show 1 * 0 ≤ sizeLine; decide), ?_⟩
                  intro z2 hz2
                  generalize gH5 : L2.upd _ z2 _ = H5
                  obtain ⟨s5, e5⟩ := newS hz2 gH5
                  clear gH5
                  refine ⟨nd, z2, _, _, rfl, rfl, s5 _ _ (s4 _ _ e3), e5, by unfold natsV; rw [List.length_map, sizeLine_eq]; show us.length + 0 ≤ _; omega, ?_⟩
                  intro z3 hz3
                  generalize gH6 : L2.upd _ z3 _ = H6
                  obtain ⟨s6, e6⟩ := newS hz3 gH6
                  clear gH6
                  refine fin ix' ei ?_ hA (((s13.trans s4).trans s5).trans s6) (nd' := z3) (by rw [e6]; show some (HO.lst (natsV us ++ [])) = _; rw [List.append_nil])
                  unfold addN
                  rw [if_neg fun q => q.2 hu]
                · rw [decide_eq_false hu]
                  refine ⟨z, _, _, rfl, rfl, e4, by decide, by decide, (by show 1 * 1 ≤ sizeLine; decide), ?_⟩
                  intro z2 hz2
                  generalize gH5 : L2.upd _ z2 _ = H5
                  obtain ⟨s5, e5⟩ := newS hz2 gH5
                  clear gH5
                  refine ⟨nd, z2, _, _, rfl, rfl, s5 _ _ (s4 _ _ e3), e5, by unfold natsV; rw [List.length_map, sizeLine_eq]; show us.length + 1 ≤ _; omega, ?_⟩
                  intro z3 hz3
                  generalize gH6 : L2.upd _ z3 _ = H6
                  obtain ⟨s6, e6⟩ := newS hz3 gH6
                  clear gH6
                  refine fin (us' := us ++ [i]) ix' ei ?_ (fun j hj => ?_) (((s13.trans s4).trans s5).trans s6) (nd' := z3) (by rw [e6]; unfold natsV; rw [List.map_append]; rfl)
                  · unfold addN
                    rw [if_pos ⟨eo', hu⟩]
                  · rcases List.mem_append.mp hj with hj | hj
                    · exact hA j hj
                    · rw [List.mem_singleton.mp hj]; exact hk
              · refine iteNDN hk ?_
                refine k _ .non none s13 rfl fun N us2 d2 hN e => ⟨i, ?_, hk⟩
                obtain ⟨h1, h2⟩ := e.after (gn.trans (GoN.one (s := (x', d')) ix' ei))
                exact h2.1.sub i (addN_mem eo)
          · rintro σ H3 ⟨i, o, nd', us', h1, h2, h3, h4, h5, h6, rfl⟩
            obtain ⟨a, oa, at1, hl3, gn'⟩ := step h1 h2 h3 h4 h5 h6
            refine ⟨_, rfl, _, rfl, l, _, _, V.ref a, rfl, rfl, hl3, at1, a, _, _, _, rfl, rfl, oa, rfl, _, rfl, _, rfl, _, rfl, l, _, _, V.ref a, rfl, rfl, hl3, at1, a, _, _, _, rfl, rfl, oa, rfl, _, _, rfl, rfl, _, _, rfl, ?_⟩
            exact ⟨o.tgt, d' + o.way, nd', us', _, n + 1, by omega, h5, h6, gn', h4, rfl⟩
    · refine iteDN c ?_
      refine k _ .non none s1 rfl fun N us2 d2 hN e => ?_
      have := (e.after gn).1
      omega
end

end MF
set_option Elab.async false
set_option linter.all false
set_option maxRecDepth 100000
set_option maxHeartbeats 2000000
set_option pp.maxSteps 600
namespace MF
open PySem PySem.Spec PyProof.Rows L2 StX
section
variable {P : Program} {w : World} {K : PySem.W.Frag} {mg : Str → Option Value} {base : Heap} {C_Book C_Letter C_Walker C_MailError C_InvalidOrder C_UnknownOrder C_InvalidAddress C_InvalidDay C_InvalidNumber : Addr} {FL : Str}
def letErr (x d : V) : Option Err := if isAddrB x = true then (if isIntB d 0 1000000000000000000 = true then none else some .day) else some .address
def spCheckX (c : Cls5) : Sp := fun vs H Q E => ∃ x d, vs = [x, d] ∧ notSeq x = true ∧ shortV x ∧ notSeq d = true ∧ (letErr x d = none → ∀ H', Same H H' → Q .non H') ∧ ∀ e, letErr x d = some e → ∀ H' cls, Same H H' → ErrAt c cls none H' e → E cls none H'
theorem okX_check_letter (T : Top K mg C_Book C_Letter C_Walker C_MailError C_InvalidOrder C_UnknownOrder C_InvalidAddress C_InvalidDay C_InvalidNumber FL) : GFn P w K mg base (L2.CX P w) 3 "check_letter" (spCheckX ⟨C_InvalidOrder, C_UnknownOrder, C_InvalidAddress, C_InvalidDay, C_InvalidNumber⟩) := by
  have G_is_integer : GFn P w K mg base CX0 1 "is_integer" spIsInteger := ok_is_integer T
  have G_is_address : GFn P w K mg base CX0 1 "is_address" spIsAddress := ok_is_address T
  refine T.d_check_letter.fnX sc_check_letter (fun vs H Q E h => ?_) (fun f cdv A outer s H vs Q E hr h => ?_)
  · obtain ⟨x, d, rfl, _⟩ := h
    rfl
  · obtain ⟨x, d, rfl, nx, sx, nd, kq, kk⟩ := h
    refine ⟨_, (pss_cons (ps_if (pt_not (pt_val (pe_g G_is_address (hr.mono (by decide)) (pa_cons (pv 0) pa_nil))))
  (pss_one (ps_raise rfl takeE (pmk_0 T.x_InvalidAddress (pa_cons pe_str pa_nil))))
  pss_nil)
  (pss_one (ps_if (pt_not (pt_val (pe_g G_is_integer (hr.mono (by decide)) (pa_cons (pv 1) (pa_cons pe_int (pa_cons (pe_gint T.c_MAX_DAY) pa_nil))))))
  (pss_one (ps_raise rfl takeE (pmk_0 T.x_InvalidDay (pa_cons pe_str pa_nil))))
  pss_nil))), ?_⟩
    refine ⟨_, rfl, x, rfl, nx, sx, fun H1 s1 => ⟨_, rfl, ?_⟩⟩
    unfold letErr at kk kq
    cases ax : isAddrB x with
    | false =>
      rw [ax] at kk
      exact iteT ⟨by decide, kk _ rfl _ _ s1 ⟨rfl, rfl⟩⟩
    | true =>
      rw [ax] at kk kq
      refine iteF ?_
      refine ⟨_, rfl, d, _, _, rfl, nd, _, rfl, ?_⟩
      cases di : isIntB d 0 1000000000000000000 with
      | true =>
        rw [di] at kq
        exact iteF (kq rfl _ s1)
      | false =>
        rw [di] at kk
        exact iteT ⟨by decide, kk _ rfl _ _ s1 ⟨rfl, rfl⟩⟩
end

end MF
set_option Elab.async false
set_option linter.all false
set_option maxRecDepth 100000
set_option maxHeartbeats 2000000
set_option pp.maxSteps 600
namespace MF
open PySem PySem.Spec PyProof.Rows L2 StX
section
variable {P : Program} {w : World} {K : PySem.W.Frag} {mg : Str → Option Value} {base : Heap} {C_Book C_Letter C_Walker C_MailError C_InvalidOrder C_UnknownOrder C_InvalidAddress C_InvalidDay C_InvalidNumber : Addr} {FL : Str}
theorem ok_InvalidOrder (T : Top K mg C_Book C_Letter C_Walker C_MailError C_InvalidOrder C_UnknownOrder C_InvalidAddress C_InvalidDay C_InvalidNumber FL) : EFn P w K mg base CX0 1 C_InvalidOrder "InvalidOrder" ["self", "index"] (spE1 K C_InvalidOrder "index") := by
  refine T.d_InvalidOrderX_initX.fn fun f fd F => F.ok sc_InvalidOrderX_initX (fun vs H Q E h => ?_) (fun cdv A outer s H vs Q E hr h => ?_)
  · obtain ⟨a, v, rfl, _⟩ := h
    rfl
  · obtain ⟨a, v, rfl, hf, ha, k⟩ := h
    refine ⟨_, (pss_cons (ps_expr (pe_binit rfl T.g_MailError T.base_MailError (pa_cons (pv 0) (pa_cons (pe_joined (PJ.cons pe_str (PJ.cons (pe_fmtV (pv 1)) PJ.nil))) pa_nil))))
  (pss_one (ps_ost (pv 0) (pv 1)))), ?_⟩
    have ox := T.d_InvalidOrderX_initX.ox
    refine ⟨_, rfl, _, rfl, ?_, _, rfl, hf, fun y hy => ⟨_, rfl, ?_, ?_⟩⟩
    · decide +kernel
    · rw [Str.length_append]
      have : (Str.empty ++ ("invalid order at index " : Str)).length = 23 := by decide +kernel
      rw [this, sizeLine_eq]
      omega
    refine ⟨a, C_InvalidOrder, [.str _], rfl, by simp, ox, ha, ?_⟩
    exact ⟨_, rfl, _, rfl, a, C_InvalidOrder, rfl, ox, T.na_InvalidOrder, .inl ⟨ha, fun dx hd ne => k dx hd ne⟩⟩
def BadV (K : PySem.W.Frag) (H : Hp) (v : V) : Prop := (∃ a xs, v = .ref a ∧ SqT K H a xs ∧ (∀ x ∈ xs, notSeq x = true ∧ shortV x) ∧ isOrdB xs = false) ∨ (∃ a xs, v = .ref a ∧ SqL K H a xs) ∨ notSeq v = true
theorem BadV.mono {H H' : Hp} {v : V} (h : BadV K H v) (s : Same H H') : BadV K H' v := by
  rcases h with ⟨a, xs, h1, h2, h3⟩ | ⟨a, xs, h1, h2⟩ | h
  · exact .inl ⟨a, xs, h1, MF.Same.tup s h2, h3⟩
  · exact .inr (.inl ⟨a, xs, h1, s.seq h2⟩)
  · exact .inr (.inr h)
structure FirstBad (K : PySem.W.Frag) (H : Hp) (xs : List V) (n : Nat) : Prop where
  ex : ∃ as os v rest, xs = as.map V.ref ++ v :: rest ∧ OrdsAt K H as os ∧ (∀ o ∈ os, o.Ok) ∧ (os.Pairwise fun o p => overB o p = false) ∧ as.length = n ∧ n ≤ 30 ∧ (n = 30 ∨ BadV K H v ∨ ∃ a o p, v = .ref a ∧ OrdAt K H a o ∧ o.Ok ∧ p ∈ os ∧ overB p o = true)
theorem FirstBad.mono {H H' : Hp} {xs : List V} {n : Nat} (h : FirstBad K H xs n) (s : Same H H') : FirstBad K H' xs n := by
  obtain ⟨as, os, v, rest, h1, h2, h3, h4, h5, h6, h7⟩ := h.ex
  refine ⟨as, os, v, rest, h1, h2.mono s, h3, h4, h5, h6, ?_⟩
  rcases h7 with h | h | ⟨a, o, p, a1, a2, a3⟩
  · exact .inl h
  · exact .inr (.inl (h.mono s))
  · exact .inr (.inr ⟨a, o, p, a1, a2.mono s, a3⟩)
def spInitX (K : PySem.W.Frag) (c : Cls5) : Sp := fun vs H _ E => ∃ x t xs, ∃ n : Nat, vs = [.ref x, .ref t] ∧ SqT K H t xs ∧ FirstBad K H xs n ∧ ∀ H' cls d, Same H H' → ErrAt c cls d H' (.order (.int (n : Nat))) → E cls d H'
theorem okX_Book (T : Top K mg C_Book C_Letter C_Walker C_MailError C_InvalidOrder C_UnknownOrder C_InvalidAddress C_InvalidDay C_InvalidNumber FL) : IFn P w K mg base (L2.CX P w) 3 C_Book "Book" (fun vs H Q E => ∃ v rest, vs = v :: rest ∧ rest.length ≤ sizeLine ∧ ∀ p, H p = Option.none → spInitX K ⟨C_InvalidOrder, C_UnknownOrder, C_InvalidAddress, C_InvalidDay, C_InvalidNumber⟩ [v, V.ref p] (upd H p (.tup rest)) Q E) := by
  have G_is_order : GFn P w K mg base CX0 2 "is_order" (spIsOrder K) := ok_is_order T
  have G_do_overlap : GFn P w K mg base CX0 1 "do_overlap" (spOverlap K) := ok_do_overlap T
  have E_InvalidOrder : EFn P w K mg base CX0 1 C_InvalidOrder "InvalidOrder" ["self", "index"] (spE1 K C_InvalidOrder "index") := ok_InvalidOrder T
  refine T.d_BookX_initX.fnX (sp := spInitX K ⟨C_InvalidOrder, C_UnknownOrder, C_InvalidAddress, C_InvalidDay, C_InvalidNumber⟩) sc_BookX_initX fun f cdv A outer s H vs Q E hr h => ?_
  obtain ⟨x, t, xs, n, rfl, ht, fb, kk⟩ := h
  obtain ⟨as, os, v, rest, rfl, ho, ok, apart, hn, h30, hbad⟩ := fb.ex
  have fmtn : ∀ i : Nat, i ≤ 30 → FmtOk (.int (i : Nat)) := fun i hi => by
    show (i : Int).natAbs.log2 < 1920
    rw [Int.natAbs_natCast]
    have : i.log2 ≤ i := Nat.log2_le_self i
    omega
  refine ⟨_, (pss_cons (ps_for owns_cx rfl (pi_enumT (by rfl) T.b_enumerate (pa_cons (pv 1) pa_nil)) (pg_tup rfl (pgs_cons (pg_name (i := 2) sc_BookX_initX.nd rfl (Or.inl rfl)) (pgs_cons (pg_name (i := 3) sc_BookX_initX.nd rfl (Or.inl rfl)) pgs_nil)))
  (pss_cons (ps_if (PW.pt (pw_or (pt_cmpR op_eq (pv 2) (pe_gint T.c_MAX_ORDERS_books) (nomark _)) (pw_or1 (pt_not (pt_val (pe_g G_is_order (hr.mono (by decide)) (pa_cons (pv 3) pa_nil)))))))
  (pss_one (ps_raise rfl takeE (pmk_1 E_InvalidOrder (hr.mono (by decide)) (pa_cons (pv 2) pa_nil))))
  pss_nil)
  (pss_one (ps_for owns_cx rfl (pi_tup (pe_slice sl_tup (pv 1) po_none (po_some (pv 2)))) (pg_name (i := 4) sc_BookX_initX.nd rfl (Or.inl rfl))
  (pss_one (ps_if (pt_val (pe_g G_do_overlap (hr.mono (by decide)) (pa_cons (pv 4) (pa_cons (pv 3) pa_nil))))
  (pss_one (ps_raise rfl takeE (pmk_1 E_InvalidOrder (hr.mono (by decide)) (pa_cons (pv 2) pa_nil))))
  pss_nil))))))
  (pss_one (ps_fld (pv 0) (pv 1) rfl))), ?_⟩
  have hl : as.length = os.length := PySem.Paired.length ho
  have lx : (as.map V.ref ++ v :: rest).length = n + 1 + rest.length := by rw [List.length_append, List.length_map, hn, List.length_cons]; omega
  refine ⟨_, rfl, t, _, rfl, ht, for_it walk_enumT (fun i σ H' => i ≤ n ∧ Same H H' ∧ ∃ v2 v3 v4, σ = [some (.ref x), some (.ref t), v2, v3, v4]) ⟨Nat.zero_le _, Same.refl H, _, _, _, rfl⟩ (fun i σ H' _ ⟨_, s1, _⟩ => MF.Same.tup s1 ht) ?_ ?_⟩
  · rintro i y σ H1 H2 hi ⟨hin, s1, v2, v3, v4, rfl⟩ ⟨p, z1, z2, rfl, hp, rfl, e1, e2⟩
    cases e1
    replace e2 : (as.map V.ref ++ v :: rest)[i]? = some z2 := e2
    have s2 : Same H (upd H1 p (.tup [.int (i : Nat), z2])) := MF.Same.upd s1 hp
    refine ⟨p, _, rfl, .inl (.inl upd_same), rfl, _, _, rfl, _, _, rfl, rfl, ?_⟩
    generalize upd H1 p (.tup [.int (i : Nat), z2]) = H3 at s2
    refine ⟨_, rfl, rfl, _, rfl, ?_⟩
    by_cases c : i < n
    · have ne30 : decide (V.int ((i : Nat) : Int) = V.int 30) = false := decide_eq_false fun q => by
        have := V.int.inj q
        omega
      rw [ne30]
      refine iteF ?_
      obtain ⟨a, ea⟩ : ∃ a, as[i]? = some a := ⟨as[i], by simp [hn, c]⟩
      rw [List.getElem?_append_left (by rw [List.length_map, hn]; exact c), List.getElem?_map, ea] at e2
      cases e2
      obtain ⟨o, eo, oa⟩ := Paired.get ho ea
      have om : o ∈ os := List.mem_of_getElem? eo
      refine ⟨_, rfl, _, true, rfl, .inl ⟨a, _, rfl, oa.mono s2, isOrd_flat (ok o om), (ok o om).b.symm⟩, fun H4 s4 => ⟨_, rfl, iteF ?_⟩⟩
      have s14 := s2.trans s4
      have tt := MF.Same.tup s14 ht
      refine ⟨_, rfl, _, rfl, _, rfl, t, _, rfl, tt, ?_, fun p2 hp2 => ?_⟩
      · rw [HT.sIx_nat, lx]
        omega
      rw [cut_take _ _ (by rw [lx]; omega), List.take_append_of_le_length (by rw [List.length_map, hn]; omega)]
      refine ⟨p2, rfl, ⟨_, .inl (.inl upd_same)⟩, for_it (walk_tup (xs := (as.map V.ref).take i)) (fun j σ H' => Same H H' ∧ SqT K H' p2 ((as.map V.ref).take i) ∧ ∃ v4, σ = [some (.ref x), some (.ref t), some (.int (i : Nat)), some (.ref a), v4]) ⟨MF.Same.upd s14 hp2, .inl (.inl upd_same), _, rfl⟩ (fun j σ H' _ ⟨_, q, _⟩ => q) ?_ ?_⟩
      · rintro j y σ H4 H5 hj ⟨s4, q4, v4', rfl⟩ ⟨rfl, ey⟩
        rw [List.length_take, List.length_map] at hj
        have hji : j < i := by omega
        obtain ⟨b, eb⟩ : ∃ b, as[j]? = some b := ⟨as[j]'(by omega), by simp [show j < as.length by omega]⟩
        rw [List.getElem?_take, if_pos hji, List.getElem?_map, eb] at ey
        cases ey
        obtain ⟨o', eo', ob⟩ := Paired.get ho eb
        refine ⟨_, rfl, _, rfl, b, a, o', o, rfl, ob.mono s4, oa.mono s4, ⟨_, rfl, ?_⟩⟩
        have hov : overB o' o = false := by
          have hj' : j < os.length := by omega
          have hi' : i < os.length := by omega
          have := List.pairwise_iff_getElem.mp apart j i hj' hi' hji
          rw [List.getElem?_eq_getElem hj'] at eo'
          rw [List.getElem?_eq_getElem hi'] at eo
          cases eo'
          cases eo
          exact this
        rw [hov]
        exact iteF ⟨s4, q4, _, rfl⟩
      · rintro σ H4 ⟨s4, _, v4', rfl⟩
        exact ⟨c, s4, _, _, _, rfl⟩
    · have ein : i = n := by omega
      subst ein
      rw [List.getElem?_append_right (by rw [List.length_map, hn]; exact Nat.le_refl _), List.length_map, hn, Nat.sub_self] at e2
      cases e2
      by_cases c30 : i = 30
      · rw [show decide (V.int ((i : Nat) : Int) = V.int 30) = true from decide_eq_true (by rw [c30]; rfl)]
        refine iteT ?_
        exact ⟨_, rfl, e1_fin (fmtn i h30) fun d H5 s5 fd ed => kk _ _ _ (s2.trans s5) ⟨rfl, d, rfl, ed⟩⟩
      · have ne30 : decide (V.int ((i : Nat) : Int) = V.int 30) = false := decide_eq_false fun q => by
          have := V.int.inj q
          omega
        rw [ne30]
        refine iteF ?_
        rcases hbad with hb | hb | ⟨a, o, q, rfl, oa, oo, qm, qo⟩
        · exact absurd hb c30
        · have hb3 := hb.mono s2
          refine ⟨_, rfl, _, false, rfl, ?_, fun H4 s4 => ⟨_, rfl, iteT ⟨_, rfl, e1_fin (fmtn i h30) fun d H5 s5 fd ed => kk _ _ _ ((s2.trans s4).trans s5) ⟨rfl, d, rfl, ed⟩⟩⟩⟩
          rcases hb3 with ⟨a, xs, h1, h2, h3, h4⟩ | ⟨a, xs, h1, h2⟩ | h
          · exact .inl ⟨a, xs, h1, h2, h3, h4.symm⟩
          · exact .inr (.inl ⟨a, xs, h1, h2, rfl⟩)
          · exact .inr (.inr ⟨h, rfl⟩)
        · refine ⟨_, rfl, _, true, rfl, .inl ⟨a, _, rfl, oa.mono s2, isOrd_flat oo, oo.b.symm⟩, fun H4 s4 => ⟨_, rfl, iteF ?_⟩⟩
          have s14 := s2.trans s4
          have tt := MF.Same.tup s14 ht
          refine ⟨_, rfl, _, rfl, _, rfl, t, _, rfl, tt, ?_, fun p2 hp2 => ?_⟩
          · rw [HT.sIx_nat, lx]
            omega
          rw [cut_take _ _ (by rw [lx]; omega), List.take_append_of_le_length (by rw [List.length_map, hn]; omega)]
          refine ⟨p2, rfl, ⟨_, .inl (.inl upd_same)⟩, for_it (walk_tup (xs := (as.map V.ref).take i)) (fun j σ H' => Same H H' ∧ SqT K H' p2 ((as.map V.ref).take i) ∧ (∀ (m : Nat) q, m < j → os[m]? = some q → overB q o = false) ∧ ∃ v4, σ = [some (.ref x), some (.ref t), some (.int (i : Nat)), some (.ref a), v4]) ⟨MF.Same.upd s14 hp2, .inl (.inl upd_same), (fun m q hm => absurd hm (Nat.not_lt_zero _)), _, rfl⟩ (fun j σ H' _ ⟨_, q, _⟩ => q) ?_ ?_⟩
          · rintro j y σ H4 H5 hj ⟨s4, q4, nov, v4', rfl⟩ ⟨rfl, ey⟩
            rw [List.length_take, List.length_map] at hj
            have hji : j < i := by omega
            obtain ⟨b, eb⟩ : ∃ b, as[j]? = some b := ⟨as[j]'(by omega), by simp [show j < as.length by omega]⟩
            rw [List.getElem?_take, if_pos hji, List.getElem?_map, eb] at ey
            cases ey
            obtain ⟨o', eo', ob⟩ := Paired.get ho eb
            refine ⟨_, rfl, _, rfl, b, a, o', o, rfl, ob.mono s4, oa.mono s4, ⟨_, rfl, ?_⟩⟩
            cases hov : overB o' o with
            | true => exact iteT ⟨_, rfl, e1_fin (fmtn i h30) fun d H5 s5 fd ed => kk _ _ _ (s4.trans s5) ⟨rfl, d, rfl, ed⟩⟩
            | false =>
              refine iteF ⟨s4, q4, fun m q hm em => ?_, _, rfl⟩
              by_cases e : m = j
              · subst e
                rw [eo'] at em
                cases em
                exact hov
              · exact nov m q (by omega) em
          · rintro σ H4 ⟨s4, _, nov, v4', rfl⟩
            exfalso
            obtain ⟨m, hm, em⟩ := List.mem_iff_getElem.mp qm
            have := nov m q (by rw [List.length_take, List.length_map, hn]; omega) (by rw [← em]; simp [hm])
            rw [qo] at this
            cases this
  · rintro σ H1 ⟨hin, s1, v2, v3, v4, rfl⟩
    rw [lx] at hin
    omega
end

end MF
set_option Elab.async false
set_option linter.all false
set_option maxRecDepth 100000
set_option maxHeartbeats 2000000
set_option pp.maxSteps 600
namespace MF
open PySem PySem.Spec PyProof.Rows L2 StX
section
variable {P : Program} {w : World} {K : PySem.W.Frag} {mg : Str → Option Value} {base : Heap} {C_Book C_Letter C_Walker C_MailError C_InvalidOrder C_UnknownOrder C_InvalidAddress C_InvalidDay C_InvalidNumber : Addr} {FL : Str}
theorem ok_UnknownOrder (T : Top K mg C_Book C_Letter C_Walker C_MailError C_InvalidOrder C_UnknownOrder C_InvalidAddress C_InvalidDay C_InvalidNumber FL) : EFn P w K mg base CX0 1 C_UnknownOrder "UnknownOrder" ["self", "index"] (spE1 K C_UnknownOrder "index") := by
  refine T.d_UnknownOrderX_initX.fn fun f fd F => F.ok sc_UnknownOrderX_initX (fun vs H Q E h => ?_) (fun cdv A outer s H vs Q E hr h => ?_)
  · obtain ⟨a, v, rfl, _⟩ := h
    rfl
  · obtain ⟨a, v, rfl, hf, ha, k⟩ := h
    refine ⟨_, (pss_cons (ps_expr (pe_binit rfl T.g_MailError T.base_MailError (pa_cons (pv 0) (pa_cons (pe_joined (PJ.cons pe_str (PJ.cons (pe_fmtV (pv 1)) PJ.nil))) pa_nil))))
  (pss_one (ps_ost (pv 0) (pv 1)))), ?_⟩
    have ox := T.d_UnknownOrderX_initX.ox
    refine ⟨_, rfl, _, rfl, ?_, _, rfl, hf, fun y hy => ⟨_, rfl, ?_, ?_⟩⟩
    · decide +kernel
    · rw [Str.length_append]
      have : (Str.empty ++ ("there is no order " : Str)).length = 18 := by decide +kernel
      rw [this, sizeLine_eq]
      omega
    refine ⟨a, C_UnknownOrder, [.str _], rfl, by simp, ox, ha, ?_⟩
    exact ⟨_, rfl, _, rfl, a, C_UnknownOrder, rfl, ox, T.na_UnknownOrder, .inl ⟨ha, fun dx hd ne => k dx hd ne⟩⟩
def spCheckOrdX (K : PySem.W.Frag) (CB : Addr) (c : Cls5) : Sp := fun vs H Q E => ∃ bk os v, vs = [.ref bk, v] ∧ BookAt K CB H bk os ∧ os.length ≤ 30 ∧ notSeq v = true ∧ FmtOk v ∧ isIntB v 0 ((os.length : Int) - 1) = false ∧ ∀ H' cls d, Same H H' → ErrAt c cls d H' (.unknown v) → E cls d H'
theorem okX_check_order (T : Top K mg C_Book C_Letter C_Walker C_MailError C_InvalidOrder C_UnknownOrder C_InvalidAddress C_InvalidDay C_InvalidNumber FL) : MFn P w K mg base (L2.CX P w) 3 C_Book "check_order" (spCheckOrdX K C_Book ⟨C_InvalidOrder, C_UnknownOrder, C_InvalidAddress, C_InvalidDay, C_InvalidNumber⟩) := by
  have G_is_integer : GFn P w K mg base CX0 1 "is_integer" spIsInteger := ok_is_integer T
  have E_UnknownOrder : EFn P w K mg base CX0 1 C_UnknownOrder "UnknownOrder" ["self", "index"] (spE1 K C_UnknownOrder "index") := ok_UnknownOrder T
  refine T.d_Book_check_order.fnX sc_Book_check_order (fun vs H Q E h => ?_) (fun f cdv A outer s H vs Q E hr h => ?_)
  · obtain ⟨bk, os, v, rfl, _⟩ := h
    rfl
  · obtain ⟨bk, os, v, rfl, hB, h30, nv, fv, hi, kk⟩ := h
    refine ⟨_, (pss_one (ps_if (pt_not (pt_val (pe_g G_is_integer (hr.mono (by decide)) (pa_cons (pv 1) (pa_cons pe_int (pa_cons (pe_op op_sub (pe_callB call_len_seq (by rfl) T.b_len (by decide +kernel) (pa_cons (pe_fld (pv 0) rfl) pa_nil)) pe_int) pa_nil))))))
  (pss_one (ps_raise rfl takeE (pmk_1 E_UnknownOrder (hr.mono (by decide)) (pa_cons (pv 1) pa_nil))))
  pss_nil)), ?_⟩
    obtain ⟨dx, t, as, h1, h2, h3⟩ := hB
    have hl : as.length = os.length := PySem.Paired.length h3
    refine ⟨_, rfl, _, rfl, bk, C_Book, dx, _, _, rfl, h1, T.cl_Book, T.n_Book_listed, rfl, t, _, rfl, .inr h2, _, _, rfl, rfl, _, _, _, rfl, nv, _, rfl, ?_⟩
    have e : isIntB v 0 (((as.map V.ref).length : Nat) - 1) = false := by
      rw [List.length_map, hl]
      exact hi
    rw [e]
    refine iteT ?_
    exact ⟨_, rfl, e1_fin fv fun d H3 s3 fd ed => kk _ _ _ s3 ⟨rfl, d, rfl, ed⟩⟩
end

end MF
set_option Elab.async false
set_option linter.all false
set_option maxRecDepth 100000
set_option maxHeartbeats 2000000
set_option pp.maxSteps 600
namespace MF
open PySem PySem.Spec PyProof.Rows L2 StX
section
variable {P : Program} {w : World} {K : PySem.W.Frag} {mg : Str → Option Value} {base : Heap} {C_Book C_Letter C_Walker C_MailError C_InvalidOrder C_UnknownOrder C_InvalidAddress C_InvalidDay C_InvalidNumber : Addr} {FL : Str}
def spStepW (K : PySem.W.Frag) (CB CL : Addr) : Sp := fun vs H Q _ => ∃ g nd us p kn kvs bk os x d n e c, vs = [.ref p] ∧ WLet CL g nd H p kn kvs bk x d n e c ∧ H nd = some (.lst (natsV us)) ∧ us.length ≤ 100 ∧ BookAt K CB H bk os ∧ os.length ≤ 30 ∧ bk ≠ p ∧
  (idxW os g x d = none → ∀ H', (∀ b u, H b = some u → b ≠ nd → H' b = some u) → H' nd = some (.lst (natsV us)) → Q (.bl false) H') ∧
  (∀ i o, idxW os g x d = some i → os[i]? = some o → ∀ H' kn', (resets c (d + o.way) = false → kn' = kn) → (resets c (d + o.way) = true → H kn' = none) → H' nd = some (.lst (natsV (addN os (x, d) us i))) →
    WLet CL g nd H' p kn' (if resets c (d + o.way) = true then [] else kvs) bk o.tgt (d + o.way) (n + 1) e (stepCh os c (d + o.way)) → (∀ b u, H b = some u → b ≠ p → b ≠ nd → H' b = some u) → Q (.bl true) H')
theorem ok_stepW (T : Top K mg C_Book C_Letter C_Walker C_MailError C_InvalidOrder C_UnknownOrder C_InvalidAddress C_InvalidDay C_InvalidNumber FL) (U : UseP P FL) : MFn P w K mg base CX0 4 C_Walker "step" (spStepW K C_Book C_Walker) := by
  have M_Book_next_change : MFn P w K mg base CX0 1 C_Book "next_change" (spNextChange K C_Book) := ok_next_change T
  have M_Walker_order_now : MFn P w K mg base CX0 3 C_Walker "order_now" (spOrderNowW K C_Book C_Walker) := ok_order_nowW T U
  refine T.d_Walker_step.fn fun f fd F => F.ok sc_Letter_step (fun vs H Q E h => ?_) (fun cdv A outer s H vs Q E hr h => ?_)
  · obtain ⟨g, nd, us, p, kn, kvs, bk, os, x, d, n, e, c, rfl, _⟩ := h
    rfl
  · obtain ⟨g, nd, us, p, kn, kvs, bk, os, x, d, n, e, c, rfl, L, hnd, hus, hb, h30, nbp, k0, k1⟩ := h
    refine ⟨_, (pss_cons (ps_set (i := 1) sc_Letter_step.nd rfl (Or.inl rfl) (pe_m0 M_Walker_order_now T.cl_Walker (hr.mono (by decide)) (pv 0)))
  (pss_cons (ps_if (pt_cmpR op_isN (pv 1) pe_non (nomark _))
  (pss_one (ps_ret pe_bl))
  pss_nil)
  (pss_cons (ps_asg (pe_ix ix_tup (pe_fld (pe_fld (pv 0) rfl) rfl) (pv 1) (fun _ _ => rfl)) (pg_tup rfl (pgs_cons (pg_name (i := 2) sc_Letter_step.nd rfl (Or.inl rfl)) (pgs_cons (pg_name (i := 3) sc_Letter_step.nd rfl (Or.inl rfl)) (pgs_cons (pg_name (i := 4) sc_Letter_step.nd rfl (Or.inl rfl)) (pgs_cons (pg_name (i := 5) sc_Letter_step.nd rfl (Or.inl rfl)) (pgs_cons (pg_name (i := 6) sc_Letter_step.nd rfl (Or.inl rfl)) pgs_nil)))))))
  (pss_cons (ps_fld (pv 0) (pv 3) rfl)
  (pss_cons (ps_fldaug (pv 0) (pv 6) in_add)
  (pss_cons (ps_fldaug (pv 0) pe_int in_add)
  (pss_cons (ps_if (PW.pt (pw_and (pt_cmpR op_notN (pe_fld (pv 0) rfl) pe_non (nomark _)) (pw_and1 (pt_cmpR op_ge (pe_fld (pv 0) rfl) (pe_fld (pv 0) rfl) (nomark _)))))
  (pss_cons (ps_fld (pv 0) pe_dnewK rfl)
  (pss_one (ps_fld (pv 0) (pe_m M_Book_next_change T.cl_Book (hr.mono (by decide)) (pe_fld (pv 0) rfl) (pa_cons (pe_fld (pv 0) rfl) pa_nil)) rfl)))
  pss_nil)
  (pss_one (ps_ret pe_bl))))))))), ?_⟩
    obtain ⟨⟨dx, h1⟩, h2⟩ := id L
    have npk := L.ne
    refine ⟨_, rfl, p, dx, _, rfl, h1, rfl, g, nd, us, p, kn, kvs, bk, os, x, d, n, e, c, rfl, L, hnd, hb, hus, fun H1 f1 n1 => ?_⟩
    have nnp : nd ≠ p := ne_of hnd h1 (by intro z; cases z)
    have nnk : nd ≠ kn := ne_of hnd h2 (by intro z; cases z)
    have nbn : bk ≠ nd := by
      obtain ⟨dy, t, as, b1, _⟩ := hb
      exact ne_of b1 hnd (by intro z; cases z)
    have ntn : ∀ b u, H b = some u → tupl u = true → b ≠ nd := fun b u e z w => by
      rw [w, hnd] at e
      cases e
      cases z
    have ntp : ∀ b u, H b = some u → tupl u = true → b ≠ p := fun b u e z w => by
      rw [w, h1] at e
      cases e
      cases z
    cases eo : idxW os g x d with
    | none =>
      refine ⟨_, rfl, rfl, _, rfl, ?_⟩
      exact iteD rfl (k0 eo H1 f1 (by rw [eo] at n1; exact n1))
    | some i =>
      obtain ⟨o, ei⟩ := idxW_some eo
      rw [eo] at n1
      replace n1 : H1 nd = some (.lst (natsV (addN os (x, d) us i))) := n1
      refine ⟨_, rfl, rfl, _, rfl, ?_⟩
      refine iteDN (by intro z; cases z) ?_
      have hb1 := hb.kept (fun u e => f1 _ _ e nbn) (fun b u e z => f1 b u e (ntn b u e z))
      obtain ⟨dy, t, as, b1, b2, b3⟩ := id hb1
      have la : as.length = os.length := PySem.Paired.length b3
      have hi : i < as.length := by rw [la]; exact (List.getElem?_eq_some_iff.mp ei).1
      obtain ⟨a, ea⟩ : ∃ a, as[i]? = some a := ⟨as[i], by simp [hi]⟩
      obtain ⟨o', eo', oa⟩ := Paired.get b3 ea
      rw [ei] at eo'
      cases eo'
      have hp1 := f1 _ _ h1 nnp.symm
      refine ⟨_, rfl, p, C_Walker, dx, _, _, rfl, hp1, T.cl_Walker, T.n_Walker_book, rfl, bk, C_Book, dy, _, _, rfl, b1, T.cl_Book, T.n_Book_listed, rfl, _, rfl, t, _, _, _, rfl, rfl, b2, atI_nat (by rw [List.getElem?_map, ea]; rfl), ?_⟩
      refine ⟨a, o.vals, rfl, oa, rfl, _, _, rfl, _, _, rfl, _, _, rfl, _, _, rfl, _, _, rfl, rfl, ?_⟩
      refine ⟨_, rfl, _, rfl, p, C_Walker, dx, _, rfl, hp1, T.cl_Walker, T.n_Walker_address, (by show 9 < 1000; decide), ?_⟩
      refine ⟨_, rfl, p, C_Walker, dx, _, _, rfl, upd_same, T.cl_Walker, T.n_Walker_day, rfl, _, rfl, _, _, rfl, rfl, dx, _, upd_same, (by show 9 < 1000; decide), ?_⟩
      rw [upd_upd]
      refine ⟨_, rfl, p, C_Walker, dx, _, _, rfl, upd_same, T.cl_Walker, T.n_Walker_count, rfl, _, _, rfl, rfl, dx, _, upd_same, (by show 9 < 1000; decide), ?_⟩
      rw [upd_upd]
      generalize eH : upd H1 p _ = H2
      have hp2 : H2 p = some (.ins C_Walker dx (wf g nd bk o.tgt (d + o.way) (n + 1) kn e (optZ c))) := by rw [← eH, upd_same]; rfl
      have k2 : ∀ b u, H b = some u → b ≠ p → b ≠ nd → H2 b = some u := fun b u e nb nc => by rw [← eH, upd_ne nb]; exact f1 _ _ e nc
      have n2 : H2 nd = some (.lst (natsV (addN os (x, d) us i))) := by rw [← eH, upd_ne nnp]; exact n1
      have hk2 : H2 kn = some (.dK kvs) := k2 _ _ h2 npk.symm nnk.symm
      have hpi : ∃ o, H p = some o ∧ (∀ xs, o ≠ HO.tup xs) ∧ (∀ u xs, o ≠ HO.frz u (.tup xs)) := ⟨_, h1, (fun _ z => by cases z), (fun _ _ z => by cases z)⟩
      have hb2 : BookAt K C_Book H2 bk os := hb.kept (fun u e => k2 _ _ e nbp nbn) (fun b u e z => k2 b u e (ntp b u e z) (ntn b u e z))
      refine ⟨_, rfl, p, C_Walker, dx, _, _, rfl, hp2, T.cl_Walker, T.n_Walker_change, rfl, rfl, _, rfl, ?_⟩
      cases c with
      | none =>
        refine iteF ?_
        exact k1 i o eo ei H2 kn (fun _ => rfl) (fun z => by cases z) n2 ⟨⟨dx, hp2⟩, hk2⟩ k2
      | some m =>
        refine iteT ?_
        refine ⟨_, rfl, p, C_Walker, dx, _, _, rfl, hp2, T.cl_Walker, T.n_Walker_day, rfl, _, rfl, p, C_Walker, dx, _, _, rfl, hp2, T.cl_Walker, T.n_Walker_change, rfl, _, _, rfl, rfl, _, rfl, ?_⟩
        refine ite2 (fun c1 => ?_) (fun c1 => ?_)
        · have c1' : m ≤ d + o.way := of_decide_eq_true c1
          have er : resets (some m) (d + o.way) = true := c1
          intro kn' hkn'
          have npk' : p ≠ kn' := ne_of_none hp2 hkn'
          have hkn0 : H kn' = none := by
            cases q : H kn' with
            | none => rfl
            | some u =>
              by_cases z : kn' = nd
              · rw [z, n2] at hkn'; cases hkn'
              · rw [k2 _ _ q npk'.symm z] at hkn'; cases hkn'
          refine ⟨_, rfl, p, C_Walker, dx, _, rfl, (by rw [upd_ne npk']; exact hp2), T.cl_Walker, T.n_Walker_known, (by show 9 < 1000; decide), ?_⟩
          generalize eH3 : upd (upd H2 kn' _) p _ = H3
          have hp3 : H3 p = some (.ins C_Walker dx (wf g nd bk o.tgt (d + o.way) (n + 1) kn' e (optZ (some m)))) := by rw [← eH3, upd_same]; rfl
          have k3 : ∀ b u, H b = some u → b ≠ p → b ≠ nd → H3 b = some u := fun b u e nb nc => by rw [← eH3, upd_ne nb, upd_ne (ne_of_none e hkn0)]; exact k2 _ _ e nb nc
          have nnk' : nd ≠ kn' := ne_of_none n2 hkn'
          have n3 : H3 nd = some (.lst (natsV (addN os (x, d) us i))) := by rw [← eH3, upd_ne nnp, upd_ne nnk']; exact n2
          have hk3 : H3 kn' = some (.dK []) := by rw [← eH3, upd_ne npk'.symm, upd_same]
          have hb3 : BookAt K C_Book H3 bk os := hb.kept (fun u e => k3 _ _ e nbp nbn) (fun b u e z => k3 b u e (ntp b u e z) (ntn b u e z))
          obtain ⟨dz, t3, as3, b13, b23, b33⟩ := id hb3
          refine ⟨_, rfl, p, C_Walker, dx, _, _, rfl, hp3, T.cl_Walker, T.n_Walker_book, rfl, bk, dz, _, rfl, b13, rfl, _, rfl, p, C_Walker, dx, _, _, rfl, hp3, T.cl_Walker, T.n_Walker_day, rfl, bk, os, d + o.way, rfl, hb3, h30, fun H4 s4 => ?_⟩
          refine ⟨_, rfl, p, C_Walker, dx, _, rfl, s4 _ _ hp3, T.cl_Walker, T.n_Walker_change, (by show 9 < 1000; decide), ?_⟩
          have ec : stepCh os (some m) (d + o.way) = nextCh os (d + o.way) := by simp [stepCh, c1']
          refine k1 i o eo ei _ kn' (fun z => by rw [er] at z; cases z) (fun _ => hkn0) (by rw [upd_ne nnp]; exact s4 _ _ n3) ⟨⟨dx, ?_⟩, ?_⟩ fun b u e nb nc => ?_
          · rw [upd_same, ec]
            rfl
          · rw [upd_ne npk'.symm, if_pos er]
            exact s4 _ _ hk3
          · rw [upd_ne nb]
            exact s4 _ _ (k3 b u e nb nc)
        · have c1' : ¬ m ≤ d + o.way := fun z => c1 (decide_eq_true z)
          have er : resets (some m) (d + o.way) = false := decide_eq_false c1'
          have ec : stepCh os (some m) (d + o.way) = some m := by simp [stepCh, c1']
          refine k1 i o eo ei H2 kn (fun _ => rfl) (fun z => by rw [er] at z; cases z) n2 ⟨⟨dx, ?_⟩, ?_⟩ k2
          · rw [ec]
            exact hp2
          · rw [if_neg (by rw [er]; exact Bool.false_ne_true)]
            exact hk2
end

end MF
set_option Elab.async false
set_option linter.all false
set_option maxRecDepth 100000
set_option maxHeartbeats 2000000
set_option pp.maxSteps 600
namespace MF
open PySem PySem.Spec PyProof.Rows L2 StX
section
variable {P : Program} {w : World} {K : PySem.W.Frag} {mg : Str → Option Value} {base : Heap} {C_Book C_Letter C_Walker C_MailError C_InvalidOrder C_UnknownOrder C_InvalidAddress C_InvalidDay C_InvalidNumber : Addr} {FL : Str}
def spSkipW (CL : Addr) : Sp := fun vs H Q _ => ∃ g nd p kn kvs bk x d n e c, vs = [.ref p] ∧ WLet CL g nd H p kn kvs bk x d n e c ∧ kvs.length < 1000 ∧
  (valV kvs (.inr x : Key) = none → ∀ H' t, H t = none → WLet CL g nd H' p kn (putK kvs (.inr x) (.ref t)) bk x d n e c → H' t = some (.tup [.int d, .int n]) → (∀ b u, H b = some u → b ≠ kn → H' b = some u) → Q .non H') ∧
  (∀ v, valV kvs (.inr x : Key) = some v → ∃ t1 d1 c1, v = .ref t1 ∧ H t1 = some (.tup [.int d1, .int c1]) ∧
    (c = none → ∀ H' kn' t, H kn' = none → H t = none → WLet CL g nd H' p kn' [(.inr x, .ref t)] bk x d n true none → H' t = some (.tup [.int d, .int n]) → (∀ b u, H b = some u → b ≠ p → H' b = some u) → Q .non H') ∧
    (∀ m, c = some m → d1 < d ∧ d - d1 < 2 ^ 62 ∧ d < m ∧ m - d < 2 ^ 62 ∧ ∀ H' kn' t, H kn' = none → H t = none →
      WLet CL g nd H' p kn' [(.inr x, .ref t)] bk x (d + (m - 1 - d) / (d - d1) * (d - d1)) (n + (m - 1 - d) / (d - d1) * (n - c1)) e c →
      H' t = some (.tup [.int (d + (m - 1 - d) / (d - d1) * (d - d1)), .int (n + (m - 1 - d) / (d - d1) * (n - c1))]) → (∀ b u, H b = some u → b ≠ p → H' b = some u) → Q .non H'))
theorem ok_skipW (T : Top K mg C_Book C_Letter C_Walker C_MailError C_InvalidOrder C_UnknownOrder C_InvalidAddress C_InvalidDay C_InvalidNumber FL) : MFn P w K mg base CX0 1 C_Walker "skip" (spSkipW C_Walker) := by
  refine T.d_Walker_skip.fn fun f fd F => F.ok sc_Letter_skip (fun vs H Q E h => ?_) (fun cdv A outer s H vs Q E hr h => ?_)
  · obtain ⟨g, nd, p, kn, kvs, bk, x, d, n, e, c, rfl, _⟩ := h
    rfl
  · obtain ⟨g, nd, p, kn, kvs, bk, x, d, n, e, c, rfl, L, hl, k0, k1⟩ := h
    have hu := hu_of hr
    refine ⟨_, (C8.pss_cut (ps_if (pt_cmp (pc_din hu (pe_fld (pv 0) rfl) (pe_fld (pv 0) rfl)))
  (pss_cons (ps_if (pt_cmpR op_isN (pe_fld (pv 0) rfl) pe_non (nomark _))
  (pss_one (ps_fld (pv 0) pe_bl rfl))
  (pss_cons (ps_asg (pe_dget hu (pe_fld (pv 0) rfl) (pe_fld (pv 0) rfl) (fun _ _ => rfl)) (pg_tup rfl (pgs_cons (pg_name (i := 1) sc_Letter_skip.nd rfl (Or.inl rfl)) (pgs_cons (pg_name (i := 2) sc_Letter_skip.nd rfl (Or.inl rfl)) pgs_nil))))
  (pss_cons (ps_set (i := 3) sc_Letter_skip.nd rfl (Or.inl rfl) (pe_op op_fdivW (pe_op op_sub (pe_op op_sub (pe_fld (pv 0) rfl) pe_int) (pe_fld (pv 0) rfl)) (pe_op op_sub (pe_fld (pv 0) rfl) (pv 1))))
  (pss_cons (ps_fldaug (pv 0) (pe_op op_mul (pv 3) (pe_op op_sub (pe_fld (pv 0) rfl) (pv 2))) in_add)
  (pss_one (ps_fldaug (pv 0) (pe_op op_mul (pv 3) (pe_op op_sub (pe_fld (pv 0) rfl) (pv 1))) in_add))))))
  (pss_one (ps_fld (pv 0) pe_dnewK rfl)))
  pss_nil)
  (pss_one (ps_dput hu (pe_fld (pv 0) rfl) (pe_fld (pv 0) rfl) (pe_tup (pa_cons (pe_fld (pv 0) rfl) (pa_cons (pe_fld (pv 0) rfl) pa_nil))) rfl))), ?_⟩
    obtain ⟨⟨dx, h1⟩, h2⟩ := id L
    have npk := L.ne
    refine ⟨fun σ' H' => ∃ kn1 kvs1 d1 n1 e1 v1 v2 v3, σ' = [some (.ref p), v1, v2, v3] ∧ WLet C_Walker g nd H' p kn1 kvs1 bk x d1 n1 e1 c ∧ kvs1.length < 1000 ∧
      (∀ H2 t, H' t = none → WLet C_Walker g nd H2 p kn1 (putK kvs1 (.inr x) (.ref t)) bk x d1 n1 e1 c → H2 t = some (.tup [.int d1, .int n1]) → (∀ b u, H' b = some u → b ≠ kn1 → H2 b = some u) → Q .non H2), ?_, ?_⟩
    · refine ⟨_, rfl, p, C_Walker, dx, _, _, rfl, h1, T.cl_Walker, T.n_Walker_address, rfl, _, rfl, p, C_Walker, dx, _, _, rfl, h1, T.cl_Walker, T.n_Walker_known, rfl, kn, _, rfl, DGet.k (k := Sum.inr x) h2, _, rfl, ?_⟩
      cases ev : valV kvs (Sum.inr x : Key) with
      | none =>
        refine iteF ?_
        exact ⟨kn, kvs, d, n, e, _, _, _, rfl, L, hl, k0 ev⟩
      | some v =>
        refine iteT ?_
        obtain ⟨t1, d1, c1, rfl, ht1, ka, kb⟩ := k1 v ev
        refine ⟨_, rfl, p, C_Walker, dx, _, _, rfl, h1, T.cl_Walker, T.n_Walker_change, rfl, rfl, _, rfl, ?_⟩
        cases c with
        | none =>
          refine iteD rfl ?_
          refine ⟨_, rfl, p, C_Walker, dx, _, rfl, h1, T.cl_Walker, T.n_Walker_is_endless, (by show 9 < 1000; decide), ?_⟩
          intro kn' hkn'
          have npk' : p ≠ kn' := ne_of_none (o := _) upd_same hkn'
          rw [upd_ne npk'.symm] at hkn'
          refine ⟨_, rfl, p, C_Walker, dx, _, rfl, (by rw [upd_ne npk', upd_same]), T.cl_Walker, T.n_Walker_known, (by show 9 < 1000; decide), ?_⟩
          generalize eH : upd (upd (upd H p _) kn' _) p _ = H1
          have hp1 : H1 p = some (.ins C_Walker dx (wf g nd bk x d n kn' true (optZ none))) := by rw [← eH, upd_same]; rfl
          have hk1 : H1 kn' = some (.dK []) := by rw [← eH, upd_ne npk'.symm, upd_same]
          have kH : ∀ b u, H b = some u → b ≠ p → H1 b = some u := fun b u q nb => by rw [← eH, upd_ne nb, upd_ne (ne_of_none q hkn'), upd_ne nb]; exact q
          refine ⟨kn', [], d, n, true, _, _, _, rfl, ⟨⟨dx, hp1⟩, hk1⟩, (by show 0 < 1000; decide), fun H2 t ht L2 et kk => ?_⟩
          have ht0 : H t = none := by
            cases q : H t with
            | none => rfl
            | some u =>
              by_cases z : t = p
              · rw [z, hp1] at ht; cases ht
              · rw [kH _ _ q z] at ht; cases ht
          exact ka rfl H2 kn' t hkn' ht0 L2 et fun b u q nb => kk b u (kH b u q nb) (ne_of_none q hkn')
        | some m =>
          obtain ⟨g1, g2, g3, g4, kc⟩ := kb m rfl
          refine iteDN (by intro z; cases z) ?_
          refine ⟨_, rfl, p, C_Walker, dx, _, _, rfl, h1, T.cl_Walker, T.n_Walker_known, rfl, _, rfl, p, C_Walker, dx, _, _, rfl, h1, T.cl_Walker, T.n_Walker_address, rfl, kn, _, rfl, (by have := DGet.k (k := Sum.inr x) h2; rw [ev] at this; exact this), ?_⟩
          refine ⟨t1, _, rfl, .inl (.inl ht1), rfl, _, _, rfl, _, _, rfl, rfl, ?_⟩
          refine ⟨_, rfl, p, C_Walker, dx, _, _, rfl, h1, T.cl_Walker, T.n_Walker_change, rfl, _, _, rfl, rfl, _, rfl, p, C_Walker, dx, _, _, rfl, h1, T.cl_Walker, T.n_Walker_day, rfl, _, _, rfl, rfl, _, rfl, p, C_Walker, dx, _, _, rfl, h1, T.cl_Walker, T.n_Walker_day, rfl, _, rfl, _, _, rfl, rfl, _, _, rfl, rfl, ?_, ?_⟩
          · exact wide_div (b := 62) (by omega) (by omega) (by decide) (by decide)
          generalize eq : (m - 1 - d) / (d - d1) = q at kc ⊢
          have q0 : 0 ≤ q := by rw [← eq]; exact Int.ediv_nonneg (by omega) (by omega)
          have q1 : q ≤ m - 1 - d := by rw [← eq]; exact Int.ediv_le_self _ (by omega)
          refine ⟨_, rfl, p, C_Walker, dx, _, _, rfl, h1, T.cl_Walker, T.n_Walker_count, rfl, _, rfl, _, rfl, p, C_Walker, dx, _, _, rfl, h1, T.cl_Walker, T.n_Walker_count, rfl, _, rfl, _, _, rfl, rfl, _, _, rfl, rfl, .inl ⟨by omega, by omega⟩, _, _, rfl, rfl, dx, _, h1, (by show 9 < 1000; decide), ?_⟩
          refine ⟨_, rfl, p, C_Walker, dx, _, _, rfl, upd_same, T.cl_Walker, T.n_Walker_day, rfl, _, rfl, _, rfl, p, C_Walker, dx, _, _, rfl, upd_same, T.cl_Walker, T.n_Walker_day, rfl, _, rfl, _, _, rfl, rfl, _, _, rfl, rfl, .inl ⟨by omega, by omega⟩, _, _, rfl, rfl, dx, _, upd_same, (by show 9 < 1000; decide), ?_⟩
          rw [upd_upd]
          intro kn' hkn'
          have npk' : p ≠ kn' := ne_of_none (o := _) upd_same hkn'
          rw [upd_ne npk'.symm] at hkn'
          refine ⟨_, rfl, p, C_Walker, dx, _, rfl, (by rw [upd_ne npk', upd_same]), T.cl_Walker, T.n_Walker_known, (by show 9 < 1000; decide), ?_⟩
          generalize eH : upd (upd (upd H p _) kn' _) p _ = H1
          have hp1 : H1 p = some (.ins C_Walker dx (wf g nd bk x (d + q * (d - d1)) (n + q * (n - c1)) kn' e (optZ (some m)))) := by rw [← eH, upd_same, ← eq]; rfl
          have hk1 : H1 kn' = some (.dK []) := by rw [← eH, upd_ne npk'.symm, upd_same]
          have kH : ∀ b u, H b = some u → b ≠ p → H1 b = some u := fun b u q nb => by rw [← eH, upd_ne nb, upd_ne (ne_of_none q hkn'), upd_ne nb]; exact q
          refine ⟨kn', [], _, _, e, _, _, _, rfl, ⟨⟨dx, hp1⟩, hk1⟩, (by show 0 < 1000; decide), fun H2 t ht L2 et kk => ?_⟩
          have ht0 : H t = none := by
            cases q : H t with
            | none => rfl
            | some u =>
              by_cases z : t = p
              · rw [z, hp1] at ht; cases ht
              · rw [kH _ _ q z] at ht; cases ht
          exact kc H2 kn' t hkn' ht0 L2 et fun b u q nb => kk b u (kH b u q nb) (ne_of_none q hkn')
    · rintro σ' H1 ⟨kn1, kvs1, d1, n1, e1, v1, v2, v3, rfl, ⟨⟨dy, g1⟩, g2⟩, gl, kk⟩
      refine ⟨_, rfl, p, C_Walker, dy, _, _, rfl, g1, T.cl_Walker, T.n_Walker_day, rfl, _, rfl, p, C_Walker, dy, _, _, rfl, g1, T.cl_Walker, T.n_Walker_count, rfl, (by show 2 ≤ sizeLine; decide), fun t ht => ?_⟩
      have npt : p ≠ t := ne_of_none g1 ht
      have nkt : kn1 ≠ t := ne_of_none g2 ht
      have npk1 : p ≠ kn1 := ne_of g1 g2 (by intro z; cases z)
      refine ⟨_, rfl, p, C_Walker, dy, _, _, rfl, (by rw [upd_ne npt]; exact g1), T.cl_Walker, T.n_Walker_known, rfl, _, rfl, p, C_Walker, dy, _, _, rfl, (by rw [upd_ne npt]; exact g1), T.cl_Walker, T.n_Walker_address, rfl, kn1, _, rfl, DPut.k (k := Sum.inr x) (by rw [upd_ne nkt]; exact g2) (small1000 (by omega)), ?_⟩
      refine kk _ t ht ⟨⟨dy, by rw [upd_ne npk1, upd_ne npt]; exact g1⟩, upd_same⟩ (by rw [upd_ne nkt.symm, upd_same]) fun b u q nb => ?_
      rw [upd_ne nb, upd_ne (ne_of_none q ht)]
      exact q
end

end MF
set_option Elab.async false
set_option linter.all false
set_option maxRecDepth 100000
set_option maxHeartbeats 2000000
set_option pp.maxSteps 600
namespace MF
open PySem PySem.Spec PyProof.Rows L2 StX
section
variable {P : Program} {w : World} {K : PySem.W.Frag} {mg : Str → Option Value} {base : Heap} {C_Book C_Letter C_Walker C_MailError C_InvalidOrder C_UnknownOrder C_InvalidAddress C_InvalidDay C_InvalidNumber : Addr} {FL : Str}
structure WInv (K : PySem.W.Frag) (CB CL : Addr) (os : List Ordr) (nm : List Str) (g : Str) (s0 : Pt) (q : Bool) (H : Hp) (p kn nd : Addr) (kvs : List (Key × V)) (us : List Nat) (bk : Addr) (x : Str) (d : Int) (n : Nat) (c : Option Int) : Prop where
  la : WLet CL g nd H p kn kvs bk x d n false c
  nl : H nd = some (.lst (natsV us))
  ba : BookAt K CB H bk os
  ch : c = nextCh os d
  d0 : 0 ≤ d
  go : GoN os g s0 [] n (x, d) us
  mem : x ∈ nm
  nod : (kvs.map (·.1)).Nodup
  sub : ∀ kv ∈ kvs, ∃ a ∈ nm, kv.1 = .inr a
  val : ∀ a v, valV kvs (.inr a : Key) = some v → ∃ t1 d1 us1, ∃ c1 k : Nat, v = .ref t1 ∧ H t1 = some (.tup [.int d1, .int (c1 : Nat)]) ∧ nextCh os d1 = c ∧ GoN os g (a, d1) us1 k (x, d) us ∧ n = c1 + k ∧ 0 ≤ d1 ∧ (q = true → 1 ≤ k)
section
variable {os : List Ordr} {nm : List Str} {g : Str} {s0 : Pt} {H : Hp} {p kn nd bk : Addr} {kvs : List (Key × V)} {us : List Nat} {x : Str} {d : Int} {n : Nat} {c : Option Int} {q : Bool}
theorem WInv.small (I : WInv K C_Book C_Walker os nm g s0 q H p kn nd kvs us bk x d n c) (h : nm.length ≤ 31) : kvs.length ≤ 31 := by
  have := nodup_len (m := nm.map Sum.inr) I.nod fun k hk => by
    obtain ⟨kv, h1, rfl⟩ := List.mem_map.mp hk
    obtain ⟨a, h2, h3⟩ := I.sub kv h1
    rw [h3]
    exact List.mem_map.mpr ⟨a, h2, rfl⟩
  rw [List.length_map, List.length_map] at this
  omega
theorem WInv.few (I : WInv K C_Book C_Walker os nm g s0 q H p kn nd kvs us bk x d n c) (h : os.length ≤ 30) : us.length ≤ 30 := by
  obtain ⟨h1, h2⟩ := I.go.nodup ⟨List.nodup_nil, fun _ z => by cases z⟩
  have := nodup_len (m := List.range os.length) h1 fun a ha => List.mem_range.mpr (h2 a ha)
  rw [List.length_range] at this
  omega
theorem WInv.skip (gd : Good os) (hnm : nm.length ≤ 31) (nbp : bk ≠ p) (I : WInv K C_Book C_Walker os nm g s0 true H p kn nd kvs us bk x d n c) {Q : VK} {E : XK}
    (k : ∀ H' kn' kvs' d' n', (kn' = kn ∨ H kn' = none) → WInv K C_Book C_Walker os nm g s0 false H' p kn' nd kvs' us bk x d' n' c → d ≤ d' → (c = none → kvs'.length = kvs.length + 1) → (∀ b u, H b = some u → b ≠ p → b ≠ kn → H' b = some u) → Q .non H')
    (kE : ∀ H' kn' kvs' c', (kn' = kn ∨ H kn' = none) → WLet C_Walker g nd H' p kn' kvs' bk x d n true c' → H' nd = some (.lst (natsV us)) → NoEnd os g s0 [] → (∀ b u, H b = some u → b ≠ p → b ≠ kn → H' b = some u) → Q .non H') : spSkipW C_Walker [.ref p] H Q E := by
  obtain ⟨⟨dx, h1⟩, h2⟩ := id I.la
  obtain ⟨dy, tb, as, b1, b2, b3⟩ := id I.ba
  have nbk : bk ≠ kn := ne_of b1 h2 (by intro z; cases z)
  have npk := I.la.ne
  have nnp : nd ≠ p := ne_of I.nl h1 (by intro z; cases z)
  have nnk : nd ≠ kn := ne_of I.nl h2 (by intro z; cases z)
  refine ⟨g, nd, p, kn, kvs, bk, x, d, n, false, c, rfl, I.la, by have := I.small hnm; omega, fun ev H' t1 ht1 L et kp => ?_, fun v ev => ?_⟩
  · have nt : ∀ b u, H b = some u → tupl u = true → H' b = some u := fun b u e z => kp b u e fun w => by
      rw [w, h2] at e; cases e; cases z
    refine k H' kn _ d n (.inl rfl) ⟨L, kp _ _ I.nl nnk, I.ba.kept (fun u e => kp _ _ e nbk) nt, I.ch, I.d0, I.go, I.mem, ?_, ?_, ?_⟩ (Int.le_refl _) (fun _ => ?_) fun b u e _ nb => kp b u e nb
    · exact nd_putK _ I.nod ev
    · rw [putK_new _ ev]
      intro kv hkv
      rcases List.mem_append.mp hkv with z | z
      · exact I.sub kv z
      · rw [List.mem_singleton.mp z]
        exact ⟨x, I.mem, rfl⟩
    · intro a v hv
      rw [valV_put] at hv
      by_cases ea : (Sum.inr a : Key) = Sum.inr x
      · rw [if_pos ea] at hv
        cases hv
        cases Sum.inr.inj ea
        exact ⟨t1, d, us, n, 0, rfl, et, I.ch.symm, .refl _ _, by simp, I.d0, fun z => by cases z⟩
      · rw [if_neg ea] at hv
        obtain ⟨t2, d2, us2, c2, k2, e1, e2, e3, e4, e5, e6, e7⟩ := I.val a v hv
        exact ⟨t2, d2, us2, c2, k2, e1, nt _ _ e2 rfl, e3, e4, e5, e6, fun z => by cases z⟩
    · rw [putK_new _ ev, List.length_append]
      rfl
  · obtain ⟨t1, d1, us1, c1, k1, e1, e2, e3, e4, e5, e6, e7⟩ := I.val x v ev
    have k1p : 1 ≤ k1 := e7 rfl
    have hway : ∀ o ∈ os, 1 ≤ o.way := gd.fine.way
    have hday := e4.day hway
    simp only at hday
    refine ⟨t1, d1, c1, e1, e2, fun hc => ?_, fun mm hc => ?_⟩
    · intro H' kn' t2 hk' ht2 L et kp
      refine kE H' kn' _ _ (.inr hk') L (kp _ _ I.nl nnp) ?_ fun b u e nb _ => kp b u e nb
      rw [hc] at e3
      exact noEnd_of hway I.go e4 k1p (leastOf_none.mp e3)
    · subst hc
      have hm1 : nextCh os d = some mm := I.ch.symm
      have gt := nextCh_gt hm1
      have le := nextCh_le gd hm1
      refine ⟨by omega, by omega, gt, by have := I.d0; omega, fun H' kn' t2 hk' ht2 L et kp => ?_⟩
      have dpos : 0 < d - d1 := by omega
      generalize eq : (mm - 1 - d) / (d - d1) = qq at L et
      have q0 : 0 ≤ qq := by rw [← eq]; exact Int.ediv_nonneg (by omega) (by omega)
      have qm : qq * (d - d1) ≤ mm - 1 - d := by rw [← eq]; exact Int.ediv_mul_le _ (by omega)
      have qp : 0 ≤ qq * (d - d1) := Int.mul_nonneg q0 (by omega)
      obtain ⟨j, ej⟩ : ∃ j : Nat, qq = (j : Int) := ⟨qq.toNat, by omega⟩
      have cc : ∀ c' ∈ changes os d1, mm - 1 < c' := fun c' hc' => by
        have := (leastOf_some.mp e3).2 c' hc'
        omega
      have go : GoN os g (x, d) us (j * k1) (x, d + qq * (d - d1)) us := by
        rw [ej]
        exact GoN.rounds hway e4 (by omega) cc j (by rw [← ej]; omega)
      have en1 : ((n : Nat) : Int) - (c1 : Nat) = (k1 : Int) := by omega
      have etot : ((n : Nat) : Int) + qq * ((n : Nat) - (c1 : Nat)) = ((n + j * k1 : Nat) : Int) := by rw [en1, ej]; push_cast; rfl
      rw [etot] at L et
      have nt : ∀ b u, H b = some u → tupl u = true → H' b = some u := fun b u e z => kp b u e fun w => by
        rw [w, h1] at e; cases e; cases z
      have ech : some mm = nextCh os (d + qq * (d - d1)) := by
        rw [← hm1]
        exact (nextCh_const (by omega) fun c' hc' => by rw [hm1] at hc'; cases hc'; omega).symm
      refine k H' kn' _ _ _ (.inr hk') ⟨L, kp _ _ I.nl nnp, I.ba.kept (fun u e => kp _ _ e nbp) nt, ech, by have := I.d0; omega, I.go.trans go, I.mem, ?_, ?_, ?_⟩ (by omega) (fun z => by cases z) fun b u e nb _ => kp b u e nb
      · simp
      · intro kv hkv
        rw [List.mem_singleton.mp hkv]
        exact ⟨x, I.mem, rfl⟩
      · intro a v' hv
        by_cases ea : (Sum.inr x : Key) = Sum.inr a
        · rw [valV_pos ea] at hv
          cases hv
          cases Sum.inr.inj ea
          exact ⟨t2, _, us, _, 0, rfl, et, ech.symm, .refl _ _, by simp, by have := I.d0; omega, fun z => by cases z⟩
        · rw [valV_neg ea] at hv
          cases hv
theorem WInv.step (gd : Good os) (hnm : ∀ o ∈ os, o.tgt ∈ nm) (nbp : bk ≠ p) (I : WInv K C_Book C_Walker os nm g s0 false H p kn nd kvs us bk x d n c) {Q : VK} {E : XK}
    (k0 : idxW os g x d = none → ∀ H', (∀ b u, H b = some u → b ≠ nd → H' b = some u) → H' nd = some (.lst (natsV us)) → Q (.bl false) H')
    (k : ∀ H' kn' kvs' us' x' d' n' c', (kn' = kn ∨ H kn' = none) → WInv K C_Book C_Walker os nm g s0 true H' p kn' nd kvs' us' bk x' d' n' c' → d < d' → (c = none → kvs' = kvs ∧ c' = none) → (∀ b u, H b = some u → b ≠ p → b ≠ nd → H' b = some u) → Q (.bl true) H') : spStepW K C_Book C_Walker [.ref p] H Q E := by
  obtain ⟨⟨dx, h1⟩, h2⟩ := id I.la
  have nbn : bk ≠ nd := by
    obtain ⟨dy, t, as, b1, _⟩ := I.ba
    exact ne_of b1 I.nl (by intro z; cases z)
  refine ⟨g, nd, us, p, kn, kvs, bk, os, x, d, n, false, c, rfl, I.la, I.nl, by have := I.few gd.len; omega, I.ba, gd.len, nbp, k0, fun i o eo ei H' kn' z1 z2 nl' L kp => ?_⟩
  have ho : o ∈ os := List.mem_of_getElem? ei
  have w1 := (gd.ok o ho).w1
  have d0 := I.d0
  have ntn : ∀ b u, H b = some u → tupl u = true → b ≠ nd := fun b u e z w => by
    rw [w, I.nl] at e
    cases e
    cases z
  have nt : ∀ b u, H b = some u → tupl u = true → H' b = some u := fun b u e z => kp b u e (fun w => by
    rw [w, h1] at e; cases e; cases z) (ntn b u e z)
  have go1 := GoN.one (us := us) (s := (x, d)) eo ei
  have ech : stepCh os c (d + o.way) = nextCh os (d + o.way) := by
    rw [I.ch]
    cases hc : nextCh os d with
    | none =>
      have e1 : nextCh os (d + o.way) = nextCh os d := nextCh_const (by omega) fun c' hc' => by rw [hc] at hc'; cases hc'
      rw [e1, hc]
      rfl
    | some mm =>
      by_cases hm : mm ≤ d + o.way
      · simp [stepCh, hm]
      · have e1 : nextCh os (d + o.way) = nextCh os d := nextCh_const (by omega) fun c' hc' => by rw [hc] at hc'; cases hc'; omega
        rw [e1, hc]
        simp [stepCh, hm]
  refine k H' kn' _ _ o.tgt (d + o.way) (n + 1) _ ?_ ⟨L, nl', I.ba.kept (fun u e => kp _ _ e nbp nbn) nt, ech, by omega, I.go.trans go1, hnm o ho, ?_, ?_, ?_⟩ (by omega) (fun z => ?_) kp
  · cases hr : resets c (d + o.way) with
    | false => exact .inl (z1 hr)
    | true => exact .inr (z2 hr)
  · by_cases hr : resets c (d + o.way) = true
    · rw [if_pos hr]; simp
    · rw [if_neg hr]; exact I.nod
  · by_cases hr : resets c (d + o.way) = true
    · rw [if_pos hr]; intro kv hkv; cases hkv
    · rw [if_neg hr]; exact I.sub
  · by_cases hr : resets c (d + o.way) = true
    · rw [if_pos hr]; intro a v hv; cases hv
    · rw [if_neg hr]
      intro a v hv
      obtain ⟨t2, d2, us2, c2, k2, e1, e2, e3, e4, e5, e6, e7⟩ := I.val a v hv
      refine ⟨t2, d2, us2, c2, k2 + 1, e1, nt _ _ e2 rfl, ?_, e4.trans go1, by omega, e6, fun _ => Nat.succ_pos _⟩
      rw [e3]
      cases c with
      | none => rfl
      | some mm =>
        have hm : ¬ mm ≤ d + o.way := fun z => hr (decide_eq_true z)
        simp [stepCh, hm]
  · subst z
    exact ⟨if_neg (by intro z; cases z), rfl⟩
end
end

end MF
set_option Elab.async false
set_option linter.all false
set_option maxRecDepth 100000
set_option maxHeartbeats 2000000
set_option pp.maxSteps 600
namespace MF
open PySem PySem.Spec PyProof.Rows L2 StX
section
variable {P : Program} {w : World} {K : PySem.W.Frag} {mg : Str → Option Value} {base : Heap} {C_Book C_Letter C_Walker C_MailError C_InvalidOrder C_UnknownOrder C_InvalidAddress C_InvalidDay C_InvalidNumber : Addr} {FL : Str}
def spFinishW (K : PySem.W.Frag) (CB CL : Addr) : Sp := fun vs H Q _ => ∃ g nd p kn bk os x d, vs = [.ref p] ∧ WLet CL g nd H p kn [] bk x d 0 false (nextCh os d) ∧ H nd = some (.lst []) ∧ BookAt K CB H bk os ∧ Good os ∧ 0 ≤ d ∧ bk ≠ p ∧
  (∀ H' kn' kvs' c' us N t, EndsN os g (x, d) [] N t us → WLet CL g nd H' p kn' kvs' bk t.1 t.2 (N : Nat) false c' → H' nd = some (.lst (natsV us)) → (∀ b u, H b = some u → b ≠ p → b ≠ kn → b ≠ nd → H' b = some u) → Q .non H') ∧
  (∀ H' kn' kvs' c' us y d' n, NoEnd os g (x, d) [] → WLet CL g nd H' p kn' kvs' bk y d' n true c' → H' nd = some (.lst (natsV us)) → (∀ b u, H b = some u → b ≠ p → b ≠ kn → b ≠ nd → H' b = some u) → Q .non H')
theorem ok_finishW (T : Top K mg C_Book C_Letter C_Walker C_MailError C_InvalidOrder C_UnknownOrder C_InvalidAddress C_InvalidDay C_InvalidNumber FL) (U : UseP P FL) : MFn P w K mg base CX0 5 C_Walker "finish" (spFinishW K C_Book C_Walker) := by
  have M_Walker_step : MFn P w K mg base CX0 4 C_Walker "step" (spStepW K C_Book C_Walker) := ok_stepW T U
  have M_Walker_skip : MFn P w K mg base CX0 1 C_Walker "skip" (spSkipW C_Walker) := ok_skipW T
  refine T.d_Walker_finish.fn fun f fd F => F.ok sc_Letter_finish (fun vs H Q E h => ?_) (fun cdv A outer s H vs Q E hr h => ?_)
  · obtain ⟨g, nd, p, kn, bk, os, x, d, rfl, _⟩ := h
    rfl
  · obtain ⟨g, nd, p, kn, bk, os, x, d, rfl, L, hnd, hb, gd, h0, nbp, kA, kB⟩ := h
    refine ⟨_, (pss_cons (ps_expr (pe_m0 M_Walker_skip T.cl_Walker (hr.mono (by decide)) (pv 0)))
  (pss_one (ps_while PassesOwn.never (PW.pt (pw_and (pt_not (pt_val (pe_fld (pv 0) rfl))) (pw_and1 (pt_val (pe_m0 M_Walker_step T.cl_Walker (hr.mono (by decide)) (pv 0))))))
  (pss_one (ps_expr (pe_m0 M_Walker_skip T.cl_Walker (hr.mono (by decide)) (pv 0))))))), ?_⟩
    obtain ⟨⟨dx, l1⟩, l2⟩ := id L
    have hnm : (x :: os.map Ordr.tgt).length ≤ 31 := by have := gd.len; simp; omega
    have htg : ∀ o ∈ os, o.tgt ∈ x :: os.map Ordr.tgt := fun o ho => List.mem_cons_of_mem _ (List.mem_map.mpr ⟨o, ho, rfl⟩)
    have I0 : WInv K C_Book C_Walker os (x :: os.map Ordr.tgt) g (x, d) true H p kn nd [] [] bk x d 0 (nextCh os d) := ⟨L, hnd, hb, rfl, h0, .refl _ _, by simp, List.nodup_nil, (fun _ z => by cases z), (fun _ _ z => by cases z)⟩
    have nnp : nd ≠ p := ne_of hnd l1 (by intro z; cases z)
    have nnk : nd ≠ kn := ne_of hnd l2 (by intro z; cases z)
    let Wv : Nat → Hp → Prop := fun m H' =>
      (∃ kn' kvs' us' x' d' n' c', (kn' = kn ∨ H kn' = none) ∧ WInv K C_Book C_Walker os (x :: os.map Ordr.tgt) g (x, d) false H' p kn' nd kvs' us' bk x' d' n' c' ∧ (∀ b u, H b = some u → b ≠ p → b ≠ kn → b ≠ nd → H' b = some u) ∧ m = (1000000000000000001 - d').toNat * 64 + (40 - kvs'.length)) ∨
      (∃ kn' kvs' us' y d' n' c', WLet C_Walker g nd H' p kn' kvs' bk y d' n' true c' ∧ H' nd = some (.lst (natsV us')) ∧ NoEnd os g (x, d) [] ∧ (∀ b u, H b = some u → b ≠ p → b ≠ kn → b ≠ nd → H' b = some u) ∧ m = 0)
    have sk : ∀ {Q' : VK} {E' : XK}, (∀ H1, (∃ m, Wv m H1) → Q' .non H1) → spSkipW C_Walker [.ref p] H Q' E' := fun h => I0.skip gd hnm nbp
      (fun H1 kn1 kvs1 d1 n1 hk1 I1 _ _ f1 => h H1 ⟨_, .inl ⟨kn1, kvs1, [], x, d1, n1, _, hk1, I1, fun b u e a1 a2 _ => f1 b u e a1 a2, rfl⟩⟩)
      (fun H1 kn1 kvs1 c1 hk1 L1 n1 ne f1 => h H1 ⟨_, .inr ⟨kn1, kvs1, [], x, d, _, c1, L1, n1, ne, fun b u e a1 a2 _ => f1 b u e a1 a2, rfl⟩⟩)
    refine ⟨_, rfl, p, dx, _, rfl, l1, rfl, ?_⟩
    refine nilT ?_
    refine sk fun H1 hW => ?_
    refine ⟨fun m σ H' => σ = [some (.ref p)] ∧ Wv m H', (let ⟨m, z⟩ := hW; ⟨m, rfl, z⟩), ?_⟩
    rintro m σ H2 ⟨rfl, hA | hB⟩
    · obtain ⟨kn2, kvs2, us2, x2, d2, n2, c2, hk2, I2, f2, em⟩ := hA
      obtain ⟨⟨dy, g1⟩, g2⟩ := id I2.la
      refine ⟨_, rfl, p, C_Walker, dy, _, _, rfl, g1, T.cl_Walker, T.n_Walker_is_endless, rfl, _, rfl, iteT ?_⟩
      refine ⟨_, rfl, p, dy, _, rfl, g1, rfl, ?_⟩
      refine nilT ?_
      refine I2.step gd htg nbp (fun ei H3 f3 n3 => ⟨_, rfl, iteF ?_⟩) (fun H3 kn3 kvs3 us3 x3 d3 n3 c3 hk3 I3 hd3 hc3 f3 => ⟨_, rfl, iteT ?_⟩)
      · have nn2 : nd ≠ kn2 := ne_of I2.nl g2 (by intro z; cases z)
        refine kA H3 kn2 kvs2 c2 us2 n2 (x2, d2) ⟨I2.go, ei⟩ (I2.la.keep (fun o z => f3 _ _ z nnp.symm) (fun o z => f3 _ _ z nn2.symm)) n3 fun b u e a1 a2 a3 => f3 _ _ (f2 b u e a1 a2 a3) a3
      · obtain ⟨⟨dz, r1⟩, r2⟩ := id I3.la
        have free : ∀ b, H2 b = none → (∃ u, H b = some u) → b = kn := fun b hb ⟨u, e⟩ => by
          by_cases z1 : b = p
          · rw [z1, g1] at hb; cases hb
          · by_cases z2 : b = kn
            · exact z2
            · by_cases z3 : b = nd
              · rw [z3, I2.nl] at hb; cases hb
              · rw [f2 b u e z1 z2 z3] at hb; cases hb
        have hk3' : kn3 = kn ∨ H kn3 = none := by
          rcases hk3 with z | z
          · rw [z]; exact hk2
          · cases q : H kn3 with
            | none => exact .inr rfl
            | some u => exact .inl (free kn3 z ⟨u, q⟩)
        have f13 : ∀ b u, H b = some u → b ≠ p → b ≠ kn → b ≠ nd → H3 b = some u := fun b u e n1 n2 n3 => f3 b u (f2 b u e n1 n2 n3) n1 n3
        have free3 : ∀ b, H3 b = none → (∃ u, H b = some u) → b = kn := fun b hb ⟨u, e⟩ => by
          by_cases z1 : b = p
          · rw [z1, r1] at hb; cases hb
          · by_cases z2 : b = kn
            · exact z2
            · by_cases z3 : b = nd
              · rw [z3, I3.nl] at hb; cases hb
              · rw [f13 b u e z1 z2 z3] at hb; cases hb
        have kk : ∀ kn4, (kn4 = kn3 ∨ H3 kn4 = none) → kn4 = kn ∨ H kn4 = none := fun kn4 hk4 => by
          rcases hk4 with z | z
          · rw [z]; exact hk3'
          · cases q : H kn4 with
            | none => exact .inr rfl
            | some u => exact .inl (free3 kn4 z ⟨u, q⟩)
        have keep : ∀ H4 : Hp, (∀ b u, H3 b = some u → b ≠ p → b ≠ kn3 → H4 b = some u) → ∀ b u, H b = some u → b ≠ p → b ≠ kn → b ≠ nd → H4 b = some u := fun H4 f4 b u e n1 n2 n3 => f4 b u (f13 b u e n1 n2 n3) n1 fun z => by
          rcases hk3' with y | y
          · exact n2 (z.trans y)
          · rw [z, y] at e; cases e
        have hs2 := I2.small hnm
        refine ⟨fun σ' H' => σ' = [some (.ref p)] ∧ ∃ m', m' < m ∧ Wv m' H', fun σ' H' ⟨e, m', hm, r⟩ => ⟨m', hm, e, r⟩, ?_⟩
        refine ⟨_, rfl, p, dz, _, rfl, r1, rfl, ?_⟩
        refine nilT ?_
        refine I3.skip gd hnm nbp (fun H4 kn4 kvs4 d4 n4 hk4 I4 hd4 hc4 f4 => ?_) (fun H4 kn4 kvs4 c4 hk4 L4 n4 ne f4 => ?_)
        · refine ⟨rfl, _, ?_, .inl ⟨kn4, kvs4, us3, x3, d4, n4, c3, kk kn4 hk4, I4, keep H4 f4, rfl⟩⟩
          have hs4 := I4.small hnm
          rw [em]
          cases ec : c2 with
          | none =>
            obtain ⟨e1, e2⟩ := hc3 ec
            have := hc4 e2
            rw [e1] at this
            omega
          | some mm =>
            have h1 : nextCh os d2 = some mm := by rw [← ec]; exact I2.ch.symm
            have gt := nextCh_gt h1
            have le := nextCh_le gd h1
            omega
        · exact ⟨rfl, 0, by omega, .inr ⟨kn4, kvs4, us3, x3, d3, _, c4, L4, n4, ne, keep H4 f4, rfl⟩⟩
    · obtain ⟨kn2, kvs2, us2, y, d2, n2, c2, L2', nl2, ne, f2, em⟩ := hB
      obtain ⟨⟨dy, g1⟩, g2⟩ := id L2'
      refine ⟨_, rfl, p, C_Walker, dy, _, _, rfl, g1, T.cl_Walker, T.n_Walker_is_endless, rfl, _, rfl, iteF ?_⟩
      refine iteF ?_
      exact kB H2 kn2 kvs2 c2 us2 y d2 n2 ne L2' nl2 f2
end

end MF
set_option Elab.async false
set_option linter.all false
set_option maxRecDepth 100000
set_option maxHeartbeats 2000000
set_option pp.maxSteps 600
namespace MF
open PySem PySem.Spec PyProof.Rows L2 StX
section
variable {P : Program} {w : World} {K : PySem.W.Frag} {mg : Str → Option Value} {base : Heap} {C_Book C_Letter C_Walker C_MailError C_InvalidOrder C_UnknownOrder C_InvalidAddress C_InvalidDay C_InvalidNumber : Addr} {FL : Str}
def spWalked (K : PySem.W.Frag) (CB CL : Addr) : Sp := fun vs H Q _ => ∃ bk os x d g, vs = [.ref bk, .str x, .int d, .str g] ∧ BookAt K CB H bk os ∧ Good os ∧ isAddrB (.str x) = true ∧ isAddrB (.str g) = true ∧ 0 ≤ d ∧ d ≤ 1000000000000000000 ∧
  (∀ H' p kn kvs nd us N t c, H p = none → H nd = none → Same H H' → EndsN os g (x, d) [] N t us → WLet CL g nd H' p kn kvs bk t.1 t.2 (N : Nat) false c → H' nd = some (.lst (natsV us)) → Q (.ref p) H') ∧
  (∀ H' p kn kvs nd y d' n c, H p = none → Same H H' → NoEnd os g (x, d) [] → WLet CL g nd H' p kn kvs bk y d' n true c → Q (.ref p) H')
theorem ok_walked (T : Top K mg C_Book C_Letter C_Walker C_MailError C_InvalidOrder C_UnknownOrder C_InvalidAddress C_InvalidDay C_InvalidNumber FL) (U : UseP P FL) : GFn P w K mg base CX0 6 "walked" (spWalked K C_Book C_Walker) := by
  have G_check_letter : GFn P w K mg base CX0 2 "check_letter" spCheckOk := ok_check_letter T
  have G_Walker : IFn P w K mg base CX0 3 C_Walker "Walker" (spWalkerInit K C_Book C_Walker) := ok_Walker T U
  have M_Walker_finish : MFn P w K mg base CX0 5 C_Walker "finish" (spFinishW K C_Book C_Walker) := ok_finishW T U
  refine T.d_walked.fn fun f fd F => F.ok sc_walked (fun vs H Q E h => ?_) (fun cdv A outer s H vs Q E hr h => ?_)
  · obtain ⟨bk, os, x, d, g, rfl, _⟩ := h
    rfl
  · obtain ⟨bk, os, x, d, g, rfl, hb, gd, ax, ag, h0, h1, kA, kB⟩ := h
    refine ⟨_, (pss_cons (ps_expr (pe_g G_check_letter (hr.mono (by decide)) (pa_cons (pv 1) (pa_cons (pv 2) pa_nil))))
  (pss_cons (ps_expr (pe_g G_check_letter (hr.mono (by decide)) (pa_cons (pv 3) (pa_cons pe_int pa_nil))))
  (pss_cons (ps_set (i := 4) sc_walked.nd rfl (Or.inl rfl) (pe_mkX G_Walker (hr.mono (by decide)) pass0 (pa_cons (pv 0) (pa_cons (pv 1) (pa_cons (pv 2) (pa_cons (pv 3) pa_nil))))))
  (pss_cons (ps_expr (pe_m0 M_Walker_finish T.cl_Walker (hr.mono (by decide)) (pv 4)))
  (pss_one (ps_ret (pv 4))))))), ?_⟩
    refine ⟨_, rfl, _, rfl, x, d, rfl, ax, h0, h1, fun H1 s1 => ?_⟩
    refine ⟨_, rfl, g, 0, rfl, ag, by decide, by decide, fun H2 s2 => ?_⟩
    have s12 := s1.trans s2
    refine ⟨_, rfl, _, rfl, _, rfl, _, rfl, fun p dx hp hdx ne => ?_⟩
    have s3 : Same H (upd (upd H2 dx (.own p)) p (.ins C_Walker dx [])) := s12.trans fun b o e => by
      rw [upd_ne (ne_of_none e hp), upd_ne (ne_of_none e hdx)]
      exact e
    have hp0 : H p = none := s12.free hp
    have nbp : bk ≠ p := by
      obtain ⟨dy, tb, as, b1, _⟩ := hb
      exact ne_of_none b1 hp0
    refine ⟨p, dx, bk, os, x, d, g, rfl, upd_same, hb.mono s3, gd.len, nbp, fun H4 kn nd hkn hnd L hnl kp => ⟨rfl, ?_⟩⟩
    have s4 : Same H H4 := fun b u e => kp b u (s3 b u e) (ne_of_none e hp0)
    have hkn0 : H kn = none := s3.free hkn
    have hnd0 : H nd = none := s3.free hnd
    obtain ⟨⟨dz, l1⟩, l2⟩ := id L
    refine ⟨_, rfl, p, dz, _, rfl, l1, rfl, g, nd, p, kn, bk, os, x, d, rfl, L, hnl, hb.mono s4, gd, h0, nbp, fun H5 kn' kvs' c' us N t en L5 n5 k5 => ?_, fun H5 kn' kvs' c' us y d' n ne5 L5 n5 k5 => ?_⟩
    · have s5 : Same H H5 := fun b u e => k5 b u (s4 b u e) (ne_of_none e hp0) (ne_of_none e hkn0) (ne_of_none e hnd0)
      exact ⟨_, rfl, kA H5 p kn' kvs' nd us N t c' hp0 hnd0 s5 en L5 n5⟩
    · have s5 : Same H H5 := fun b u e => k5 b u (s4 b u e) (ne_of_none e hp0) (ne_of_none e hkn0) (ne_of_none e hnd0)
      exact ⟨_, rfl, kB H5 p kn' kvs' nd y d' n c' hp0 s5 ne5 L5⟩
def spHasCome (CL : Addr) : Sp := fun vs H Q _ => ∃ g nd p kn kvs bk x d n e c, vs = [.ref p] ∧ WLet CL g nd H p kn kvs bk x d n e c ∧ Q (.bl (!e && decide (x = g))) H
theorem ok_has_come (T : Top K mg C_Book C_Letter C_Walker C_MailError C_InvalidOrder C_UnknownOrder C_InvalidAddress C_InvalidDay C_InvalidNumber FL) : MFn P w K mg base CX0 1 C_Walker "has_come" (spHasCome C_Walker) := by
  refine T.d_Walker_has_come.fn fun f fd F => F.ok sc_Walker_has_come (fun vs H Q E h => ?_) (fun cdv A outer s H vs Q E hr h => ?_)
  · obtain ⟨g, nd, p, kn, kvs, bk, x, d, n, e, c, rfl, _⟩ := h
    rfl
  · obtain ⟨g, nd, p, kn, kvs, bk, x, d, n, e, c, rfl, ⟨⟨dx, h1⟩, h2⟩, k⟩ := h
    refine ⟨_, (pss_one (ps_ret (pe_and (pe_not (pe_fld (pv 0) rfl)) (pe_one (pe_cmpR op_eq (pe_fld (pv 0) rfl) (pe_fld (pv 0) rfl) (nomark _)))))), ?_⟩
    refine ⟨_, rfl, p, C_Walker, dx, _, _, rfl, h1, T.cl_Walker, T.n_Walker_is_endless, rfl, _, rfl, _, rfl, ?_⟩
    cases e with
    | true => exact iteF k
    | false =>
      refine iteT ?_
      refine ⟨_, rfl, p, C_Walker, dx, _, _, rfl, h1, T.cl_Walker, T.n_Walker_address, rfl, _, rfl, p, C_Walker, dx, _, _, rfl, h1, T.cl_Walker, T.n_Walker_goal, rfl, rfl, ?_⟩
      have e1 : decide (V.str x = V.str g) = (!false && decide (x = g)) := by
        by_cases q : x = g
        · simp [q]
        · have : ¬ V.str x = V.str g := fun z => q (V.str.inj z)
          simp [q, this]
      rw [e1]
      exact k
def spOrdersTo (K : PySem.W.Frag) (CB : Addr) : Sp := fun vs H Q _ => ∃ bk os x d g, vs = [.ref bk, .str x, .int d, .str g] ∧ BookAt K CB H bk os ∧ Good os ∧ isAddrB (.str x) = true ∧ isAddrB (.str g) = true ∧ 0 ≤ d ∧ d ≤ 1000000000000000000 ∧
  (∀ H' r us d', Same H H' → WTo os g (x, d) (some (us, d')) → H r = none → H' r = some (.lst (natsV us)) → Q (.ref r) H') ∧ (∀ H', Same H H' → WTo os g (x, d) none → Q .non H')
def spDayIf (K : PySem.W.Frag) (CB : Addr) : Sp := fun vs H Q _ => ∃ bk os x d g, vs = [.ref bk, .str x, .int d, .str g] ∧ BookAt K CB H bk os ∧ Good os ∧ isAddrB (.str x) = true ∧ isAddrB (.str g) = true ∧ 0 ≤ d ∧ d ≤ 1000000000000000000 ∧
  (∀ H' us d', Same H H' → WTo os g (x, d) (some (us, d')) → Q (.int d') H') ∧ (∀ H', Same H H' → WTo os g (x, d) none → Q .non H')
theorem ok_orders_to (T : Top K mg C_Book C_Letter C_Walker C_MailError C_InvalidOrder C_UnknownOrder C_InvalidAddress C_InvalidDay C_InvalidNumber FL) (U : UseP P FL) : GFn P w K mg base CX0 7 "orders_to_prolong" (spOrdersTo K C_Book) := by
  have G_walked : GFn P w K mg base CX0 6 "walked" (spWalked K C_Book C_Walker) := ok_walked T U
  have M_Walker_has_come : MFn P w K mg base CX0 1 C_Walker "has_come" (spHasCome C_Walker) := ok_has_come T
  refine T.d_orders_to_prolong.fn fun f fd F => F.ok sc_orders_to_prolong (fun vs H Q E h => ?_) (fun cdv A outer s H vs Q E hr h => ?_)
  · obtain ⟨bk, os, x, d, g, rfl, _⟩ := h
    rfl
  · obtain ⟨bk, os, x, d, g, rfl, hb, gd, ax, ag, h0, h1, kA, kB⟩ := h
    refine ⟨_, (pss_cons (ps_set (i := 4) sc_orders_to_prolong.nd rfl (Or.inl rfl) (pe_g G_walked (hr.mono (by decide)) (pa_cons (pv 0) (pa_cons (pv 1) (pa_cons (pv 2) (pa_cons (pv 3) pa_nil))))))
  (pss_one (ps_ret (pe_ifExp (pt_val (pe_m0 M_Walker_has_come T.cl_Walker (hr.mono (by decide)) (pv 4))) (pe_fld (pv 4) rfl) pe_non)))), ?_⟩
    refine ⟨_, rfl, _, rfl, _, rfl, _, rfl, bk, os, x, d, g, rfl, hb, gd, ax, ag, h0, h1, fun H1 p kn kvs nd us N t c hp hnd s1 en L n1 => ?_, fun H1 p kn kvs nd y d' n c hp s1 ne L => ?_⟩
    · obtain ⟨⟨dx, l1⟩, l2⟩ := id L
      refine ⟨_, rfl, p, dx, _, rfl, l1, rfl, ?_⟩
      refine nilT ?_
      refine ⟨g, nd, p, kn, kvs, bk, t.1, t.2, N, false, c, rfl, L, _, rfl, ?_⟩
      by_cases q : t.1 = g
      · refine iteD q ?_
        refine ⟨_, rfl, p, C_Walker, dx, _, _, rfl, l1, T.cl_Walker, T.n_Walker_needed, rfl, kA H1 nd us t.2 s1 ⟨N, ?_⟩ hnd n1⟩
        have e' : (g, t.2) = t := by rw [← q]
        rw [e']
        exact en
      · exact iteDN q (kB H1 s1 (.inr ⟨N, t, us, en, q⟩))
    · obtain ⟨⟨dx, l1⟩, l2⟩ := id L
      refine ⟨_, rfl, p, dx, _, rfl, l1, rfl, ?_⟩
      refine nilT ?_
      refine ⟨g, nd, p, kn, kvs, bk, y, d', n, true, c, rfl, L, _, rfl, ?_⟩
      exact iteF (kB H1 s1 (.inl ne))
theorem ok_day_if (T : Top K mg C_Book C_Letter C_Walker C_MailError C_InvalidOrder C_UnknownOrder C_InvalidAddress C_InvalidDay C_InvalidNumber FL) (U : UseP P FL) : GFn P w K mg base CX0 7 "day_if_prolonged" (spDayIf K C_Book) := by
  have G_walked : GFn P w K mg base CX0 6 "walked" (spWalked K C_Book C_Walker) := ok_walked T U
  have M_Walker_has_come : MFn P w K mg base CX0 1 C_Walker "has_come" (spHasCome C_Walker) := ok_has_come T
  refine T.d_day_if_prolonged.fn fun f fd F => F.ok sc_day_if_prolonged (fun vs H Q E h => ?_) (fun cdv A outer s H vs Q E hr h => ?_)
  · obtain ⟨bk, os, x, d, g, rfl, _⟩ := h
    rfl
  · obtain ⟨bk, os, x, d, g, rfl, hb, gd, ax, ag, h0, h1, kA, kB⟩ := h
    refine ⟨_, (pss_cons (ps_set (i := 4) sc_day_if_prolonged.nd rfl (Or.inl rfl) (pe_g G_walked (hr.mono (by decide)) (pa_cons (pv 0) (pa_cons (pv 1) (pa_cons (pv 2) (pa_cons (pv 3) pa_nil))))))
  (pss_one (ps_ret (pe_ifExp (pt_val (pe_m0 M_Walker_has_come T.cl_Walker (hr.mono (by decide)) (pv 4))) (pe_fld (pv 4) rfl) pe_non)))), ?_⟩
    refine ⟨_, rfl, _, rfl, _, rfl, _, rfl, bk, os, x, d, g, rfl, hb, gd, ax, ag, h0, h1, fun H1 p kn kvs nd us N t c hp hnd s1 en L n1 => ?_, fun H1 p kn kvs nd y d' n c hp s1 ne L => ?_⟩
    · obtain ⟨⟨dx, l1⟩, l2⟩ := id L
      refine ⟨_, rfl, p, dx, _, rfl, l1, rfl, ?_⟩
      refine nilT ?_
      refine ⟨g, nd, p, kn, kvs, bk, t.1, t.2, N, false, c, rfl, L, _, rfl, ?_⟩
      by_cases q : t.1 = g
      · refine iteD q ?_
        refine ⟨_, rfl, p, C_Walker, dx, _, _, rfl, l1, T.cl_Walker, T.n_Walker_day, rfl, kA H1 us t.2 s1 ⟨N, ?_⟩⟩
        have e' : (g, t.2) = t := by rw [← q]
        rw [e']
        exact en
      · exact iteDN q (kB H1 s1 (.inr ⟨N, t, us, en, q⟩))
    · obtain ⟨⟨dx, l1⟩, l2⟩ := id L
      refine ⟨_, rfl, p, dx, _, rfl, l1, rfl, ?_⟩
      refine nilT ?_
      refine ⟨g, nd, p, kn, kvs, bk, y, d', n, true, c, rfl, L, _, rfl, ?_⟩
      exact iteF (kB H1 s1 (.inl ne))
theorem pairedSet {α β : Type} {R : α → β → Prop} : ∀ {as : List α} {bs : List β} {i : Nat} {a : α} {b : β}, PySem.Paired R as bs → R a b → PySem.Paired R (as.set i a) (bs.set i b)
  | _, _, _, _, _, .nil, _ => .nil
  | _, _, 0, _, _, .cons _ t, r => .cons r t
  | _, _, i + 1, _, _, .cons h t, r => .cons h (pairedSet (i := i) t r)
theorem ixNat {n j : Nat} (hj : j < n) : ixN n (j : Int) = some j := by
  unfold ixN
  rw [if_pos (by omega), if_pos (by omega)]
  rfl
def spProlonged (K : PySem.W.Frag) (C : Addr) : Sp := fun vs H Q _ => ∃ p os o, ∃ i : Nat, ∃ d, vs = [.ref p, .int (i : Nat), .int d] ∧ BookAt K C H p os ∧ os[i]? = some o ∧ os.length ≤ 30 ∧ o.last ≤ d ∧ d ≤ 1000000000000000000 ∧ Good (proO os i d) ∧
  ∀ H' q, Same H H' → H q = none → BookAt K C H' q (proO os i d) → Q (.ref q) H'
theorem ok_prolonged (T : Top K mg C_Book C_Letter C_Walker C_MailError C_InvalidOrder C_UnknownOrder C_InvalidAddress C_InvalidDay C_InvalidNumber FL) : GFn P w K mg base CX0 6 "prolonged" (spProlonged K C_Book) := by
  have G_is_integer : GFn P w K mg base CX0 1 "is_integer" spIsInteger := ok_is_integer T
  have M_Book_check_order : MFn P w K mg base CX0 2 C_Book "check_order" (spCheckOrd K C_Book) := ok_check_order T
  have G_book_of : GFn P w K mg base CX0 5 "book_of" (spBookOf K C_Book) := ok_book_of T
  refine T.d_prolonged.fn fun f fd F => F.ok sc_prolonged (fun vs H Q E h => ?_) (fun cdv A outer s H vs Q E hr h => ?_)
  · obtain ⟨p, os, o, i, d, rfl, _⟩ := h
    rfl
  · obtain ⟨p, os, o, i, d, rfl, hb, eo, h30, h0, h1, gd, k⟩ := h
    refine ⟨_, (pss_cons (ps_expr (pe_m M_Book_check_order T.cl_Book (hr.mono (by decide)) (pv 0) (pa_cons (pv 1) pa_nil)))
  (pss_cons (ps_asg (pe_ix ix_tup (pe_fld (pv 0) rfl) (pv 1) (fun _ _ => rfl)) (pg_tup rfl (pgs_cons (pg_name (i := 3) sc_prolonged.nd rfl (Or.inl rfl)) (pgs_cons (pg_name (i := 4) sc_prolonged.nd rfl (Or.inl rfl)) (pgs_cons (pg_name (i := 5) sc_prolonged.nd rfl (Or.inl rfl)) (pgs_cons (pg_name (i := 6) sc_prolonged.nd rfl (Or.inl rfl)) (pgs_cons (pg_name (i := 7) sc_prolonged.nd rfl (Or.inl rfl)) pgs_nil)))))))
  (pss_cons (ps_if (pt_not (pt_val (pe_g G_is_integer (hr.mono (by decide)) (pa_cons (pv 2) (pa_cons (pv 6) (pa_cons (pe_gint T.c_MAX_DAY) pa_nil))))))
  (pss_one ps_never)
  pss_nil)
  (pss_cons (ps_set (i := 8) sc_prolonged.nd rfl (Or.inl rfl) (pe_callTy call_list_of (by rfl) T.b_list (by decide +kernel) (pa_cons (pe_fld (pv 0) rfl) pa_nil)))
  (pss_cons (ps_asg (pe_tup (pa_cons (pv 3) (pa_cons (pv 4) (pa_cons (pv 5) (pa_cons (pv 2) (pa_cons (pv 7) pa_nil)))))) (pg_sub (pv 8) (pv 1) set_list))
  (pss_one (ps_ret (pe_g G_book_of (hr.mono (by decide)) (pa_cons (pv 8) pa_nil))))))))), ?_⟩
    obtain ⟨dx, t, as, b1, b2, b3⟩ := id hb
    have hl : as.length = os.length := PySem.Paired.length b3
    have hi : i < os.length := (List.getElem?_eq_some_iff.mp eo).1
    obtain ⟨a, ea⟩ : ∃ a, as[i]? = some a := ⟨as[i], by simp [hl, hi]⟩
    obtain ⟨o', eo', oa⟩ := Paired.get b3 ea
    rw [eo] at eo'
    cases eo'
    refine ⟨_, rfl, p, dx, _, rfl, b1, rfl, _, rfl, p, os, i, rfl, hb, hi, ?_⟩
    refine ⟨_, rfl, p, C_Book, dx, _, _, rfl, b1, T.cl_Book, T.n_Book_listed, rfl, _, rfl, t, _, _, _, rfl, rfl, b2, atI_nat (by rw [List.getElem?_map, ea]; rfl), ?_⟩
    refine ⟨a, o.vals, rfl, oa, rfl, _, _, rfl, _, _, rfl, _, _, rfl, _, _, rfl, _, _, rfl, rfl, ?_⟩
    refine ⟨_, rfl, _, rfl, _, _, _, rfl, rfl, _, rfl, ?_⟩
    have e : isIntB (.int d) o.last 1000000000000000000 = true := by simp [isIntB, h0, h1]
    rw [e]
    refine iteF ?_
    refine ⟨_, rfl, p, C_Book, dx, _, _, rfl, b1, T.cl_Book, T.n_Book_listed, rfl, t, _, rfl, .inr b2, fun l hl0 => ?_⟩
    have s1 : Same H (upd H l (.lst (as.map V.ref))) := Same.new hl0
    refine ⟨_, rfl, _, rfl, _, rfl, _, rfl, _, rfl, (by show 5 ≤ sizeLine; decide), fun q hq => ?_⟩
    have nlq : l ≠ q := ne_of_none upd_same hq
    have hq0 : H q = none := s1.free hq
    have ij : ixN (as.map V.ref).length ((i : Nat) : Int) = some i := ?ix
    refine ⟨_, rfl, _, rfl, l, _, _, i, rfl, rfl, (by rw [upd_ne nlq]; exact upd_same), ij, ?_⟩
    have s2 : Same H (upd (upd (upd H l (.lst (as.map V.ref))) q (.tup [.str o.src, .str o.tgt, .int o.first, .int d, .int o.way])) l (.lst ((as.map V.ref).set i (.ref q)))) := fun b u e => by
      rw [upd_ne (ne_of_none e hl0), upd_ne (ne_of_none e hq0), upd_ne (ne_of_none e hl0)]
      exact e
    have ep : proO os i d = os.set i { o with last := d } := by unfold proO; rw [eo]
    refine ⟨_, rfl, l, as.set i q, proO os i d, rfl, .inr (SqL.of (by rw [upd_same, List.map_set])), ?_, gd, fun H' r s3 hr0 B => k H' r (s2.trans s3) (s2.free hr0) B⟩
    rw [ep]
    refine pairedSet (b3.mono s2) (.inl (.inl ?_))
    rw [upd_ne nlq.symm, upd_same]
    rfl
    case ix =>
      rw [List.length_map, hl]
      exact ixNat hi
end

end MF
set_option Elab.async false
set_option linter.all false
set_option maxRecDepth 100000
set_option maxHeartbeats 2000000
set_option pp.maxSteps 600
namespace MF
open PySem PySem.Spec PyProof.Rows L2 StX
section
variable {P : Program} {w : World} {K : PySem.W.Frag} {mg : Str → Option Value} {base : Heap} {C_Book C_Letter C_Walker C_MailError C_InvalidOrder C_UnknownOrder C_InvalidAddress C_InvalidDay C_InvalidNumber : Addr} {FL : Str}
structure BadOs (ps : List Ordr) (n : Nat) : Prop where
  ok : ∀ o ∈ ps, o.Ok
  len : ps.length ≤ 30
  lt : n < ps.length
  ap : (ps.take n).Pairwise fun o p => overB o p = false
  bad : ∃ o p, ps[n]? = some o ∧ p ∈ ps.take n ∧ overB p o = true
theorem BadOs.first {ps : List Ordr} {n : Nat} (b : BadOs ps n) {H : Hp} {as : List Addr} (h : OrdsAt K H as ps) : FirstBad K H (as.map V.ref) n := by
  obtain ⟨o, p, eo, hp, ov⟩ := b.bad
  have la := PySem.Paired.length h
  have hn : n < as.length := by rw [la]; exact b.lt
  have l30 := b.len
  have lt := b.lt
  obtain ⟨o', eo', oa⟩ := Paired.get h (show as[n]? = some as[n] by simp [hn])
  rw [eo] at eo'
  cases eo'
  refine ⟨as.take n, ps.take n, V.ref as[n], (as.drop (n + 1)).map V.ref, ?_, pairedTake n h, fun q hq => b.ok q (List.mem_of_mem_take hq), b.ap, by rw [List.length_take]; omega, by omega, .inr (.inr ⟨as[n], o, p, rfl, oa, b.ok o (List.mem_of_getElem? eo), hp, ov⟩)⟩
  rw [← List.map_cons, ← List.map_append]
  congr 1
  rw [List.getElem_cons_drop, List.take_append_drop]
theorem badOs_ex {ps : List Ordr} (ok : ∀ o ∈ ps, o.Ok) (l30 : ps.length ≤ 30) (h : ¬ ps.Pairwise fun o p => overB o p = false) : ∃ n, BadOs ps n := by
  have key : ∀ m, m ≤ ps.length → ((ps.take m).Pairwise fun o p => overB o p = false) ∨ ∃ n, BadOs ps n := by
    intro m
    induction m with
    | zero => intro _; exact .inl (by rw [List.take_zero]; exact .nil)
    | succ m ih =>
      intro hm
      rcases ih (by omega) with h1 | h1
      · by_cases c : ∃ p ∈ ps.take m, overB p ps[m] = true
        · obtain ⟨p, hp, ov⟩ := c
          exact .inr ⟨m, ok, l30, by omega, h1, ps[m], p, by simp, hp, ov⟩
        · refine .inl ?_
          rw [List.take_add_one, List.getElem?_eq_getElem (by omega)]
          refine List.pairwise_append.mpr ⟨h1, by simp, fun p hp q hq => ?_⟩
          simp only [Option.toList_some, List.mem_singleton] at hq
          subst hq
          cases ov : overB p ps[m] with
          | false => rfl
          | true => exact absurd ⟨p, hp, ov⟩ c
      · exact .inr h1
  rcases key ps.length (Nat.le_refl _) with h1 | h1
  · rw [List.take_length] at h1
    exact absurd h1 h
  · exact h1
def spBookOfX (K : PySem.W.Frag) (c : Cls5) : Sp := fun vs H _ E => ∃ t xs, ∃ n : Nat, vs = [.ref t] ∧ (SqT K H t xs ∨ SqL K H t xs) ∧ xs.length ≤ sizeLine ∧ FirstBad K H xs n ∧ ∀ H' cls d, Same H H' → ErrAt c cls d H' (.order (.int (n : Nat))) → E cls d H'
theorem okX_book_of (T : Top K mg C_Book C_Letter C_Walker C_MailError C_InvalidOrder C_UnknownOrder C_InvalidAddress C_InvalidDay C_InvalidNumber FL) : GFn P w K mg base (L2.CX P w) 5 "book_of" (spBookOfX K ⟨C_InvalidOrder, C_UnknownOrder, C_InvalidAddress, C_InvalidDay, C_InvalidNumber⟩) := by
  have X_Book := okX_Book (P := P) (w := w) (base := base) T
  refine T.d_book_of.fnX sc_book_of (fun vs H Q E h => ?_) (fun f cdv A outer s H vs Q E hr h => ?_)
  · obtain ⟨t, xs, n, rfl, _⟩ := h
    rfl
  · obtain ⟨t, xs, n, rfl, ht, hl, fb, k⟩ := h
    refine ⟨_, pss_one (ps_ret (pe_mkS X_Book (hr.mono (by decide)) passE (pv 0))), ?_⟩
    refine ⟨_, rfl, t, _, rfl, ht, ?_⟩
    intro x dx hx hdx ne
    have fb' : FirstBad K H (xs ++ []) n := by rw [List.append_nil]; exact fb
    refine ⟨_, _, rfl, by rw [List.append_nil]; exact hl, fun p hp => ?_⟩
    have s0 : Same H (upd (upd H dx (.own x)) x (.ins C_Book dx [])) := fun b o e => by
      rw [upd_ne (ne_of_none e hx), upd_ne (ne_of_none e hdx)]
      exact e
    have s1 := s0.trans (Same.new (o := .tup (xs ++ [])) hp)
    exact ⟨x, p, xs ++ [], n, rfl, .inl (.inl upd_same), fb'.mono s1, fun H' cls d s h => k _ _ _ (s1.trans s) h⟩
def spProlongedX (K : PySem.W.Frag) (C : Addr) (c : Cls5) : Sp := fun vs H _ E => ∃ bk os v dv, vs = [.ref bk, v, dv] ∧ BookAt K C H bk os ∧ Good os ∧ notSeq v = true ∧ notSeq dv = true ∧
  ((FmtOk v ∧ isIntB v 0 ((os.length : Int) - 1) = false ∧ ∀ H' cls d, Same H H' → ErrAt c cls d H' (.unknown v) → E cls d H') ∨
   (∃ o, ∃ i : Nat, v = .int (i : Nat) ∧ os[i]? = some o ∧ isIntB dv o.last 1000000000000000000 = false ∧ ∀ H' cls d, Same H H' → ErrAt c cls d H' .day → E cls d H') ∨
   (∃ o d n, ∃ i : Nat, v = .int (i : Nat) ∧ os[i]? = some o ∧ dv = .int d ∧ o.last ≤ d ∧ d ≤ 1000000000000000000 ∧ BadOs (proO os i d) n ∧ ∀ H' cls dd, Same H H' → ErrAt c cls dd H' (.order (.int (n : Nat))) → E cls dd H'))
theorem okX_prolonged (T : Top K mg C_Book C_Letter C_Walker C_MailError C_InvalidOrder C_UnknownOrder C_InvalidAddress C_InvalidDay C_InvalidNumber FL) : GFn P w K mg base (L2.CX P w) 6 "prolonged" (spProlongedX K C_Book ⟨C_InvalidOrder, C_UnknownOrder, C_InvalidAddress, C_InvalidDay, C_InvalidNumber⟩) := by
  have G_is_integer : GFn P w K mg base CX0 1 "is_integer" spIsInteger := ok_is_integer T
  have M_Book_check_order : MFn P w K mg base CX0 2 C_Book "check_order" (spCheckOrd K C_Book) := ok_check_order T
  have X_Book_check_order : MFn P w K mg base (L2.CX P w) 3 C_Book "check_order" (spCheckOrdX K C_Book ⟨C_InvalidOrder, C_UnknownOrder, C_InvalidAddress, C_InvalidDay, C_InvalidNumber⟩) := okX_check_order T
  have X_book_of : GFn P w K mg base (L2.CX P w) 5 "book_of" (spBookOfX K ⟨C_InvalidOrder, C_UnknownOrder, C_InvalidAddress, C_InvalidDay, C_InvalidNumber⟩) := okX_book_of T
  refine T.d_prolonged.fnX sc_prolonged (fun vs H Q E h => ?_) (fun f cdv A outer s H vs Q E hr h => ?_)
  · obtain ⟨bk, os, v, dv, rfl, _⟩ := h
    rfl
  · obtain ⟨p, os, v, dv, rfl, hb, g, nv, nd, h⟩ := h
    obtain ⟨dx, t, as, b1, b2, b3⟩ := id hb
    have hl : as.length = os.length := PySem.Paired.length b3
    have h30 := g.len
    rcases h with ⟨fv, iv, k⟩ | h
    · refine ⟨_, pss_cons (ps_expr (pe_mX X_Book_check_order T.cl_Book (hr.mono (by decide)) passE (pv 0) (pa_cons (pv 1) pa_nil))) pss_no, ?_⟩
      exact ⟨_, rfl, p, dx, _, rfl, b1, rfl, _, rfl, p, os, v, rfl, hb, h30, nv, fv, iv, k⟩
    · have hx : ∃ o, ∃ i : Nat, v = .int (i : Nat) ∧ os[i]? = some o := by
        rcases h with ⟨o, i, h1, h2, _⟩ | ⟨o, d, n, i, h1, h2, _⟩ <;> exact ⟨o, i, h1, h2⟩
      obtain ⟨o, i, rfl, eo⟩ := hx
      have hi : i < os.length := (List.getElem?_eq_some_iff.mp eo).1
      obtain ⟨a, ea⟩ : ∃ a, as[i]? = some a := ⟨as[i], by simp [hl, hi]⟩
      obtain ⟨o', eo', oa⟩ := Paired.get b3 ea
      rw [eo] at eo'
      cases eo'
      refine ⟨_, (pss_cons (ps_expr (pe_m M_Book_check_order T.cl_Book (hr.mono (by decide)) (pv 0) (pa_cons (pv 1) pa_nil)))
  (pss_cons (ps_asg (pe_ix ix_tup (pe_fld (pv 0) rfl) (pv 1) (fun _ _ => rfl)) (pg_tup rfl (pgs_cons (pg_name (i := 3) sc_prolonged.nd rfl (Or.inl rfl)) (pgs_cons (pg_name (i := 4) sc_prolonged.nd rfl (Or.inl rfl)) (pgs_cons (pg_name (i := 5) sc_prolonged.nd rfl (Or.inl rfl)) (pgs_cons (pg_name (i := 6) sc_prolonged.nd rfl (Or.inl rfl)) (pgs_cons (pg_name (i := 7) sc_prolonged.nd rfl (Or.inl rfl)) pgs_nil)))))))
  (pss_cons (ps_if (pt_not (pt_val (pe_g G_is_integer (hr.mono (by decide)) (pa_cons (pv 2) (pa_cons (pv 6) (pa_cons (pe_gint T.c_MAX_DAY) pa_nil))))))
  (pss_one (ps_raise rfl takeE (pmk_0 T.x_InvalidDay (pa_cons pe_str pa_nil))))
  pss_nil)
  (pss_cons (ps_set (i := 8) sc_prolonged.nd rfl (Or.inl rfl) (pe_callTy call_list_of (by rfl) T.b_list (by decide +kernel) (pa_cons (pe_fld (pv 0) rfl) pa_nil)))
  (pss_cons (ps_asg (pe_tup (pa_cons (pv 3) (pa_cons (pv 4) (pa_cons (pv 5) (pa_cons (pv 2) (pa_cons (pv 7) pa_nil)))))) (pg_sub (pv 8) (pv 1) set_list))
  (pss_one (ps_ret (pe_gX X_book_of (hr.mono (by decide)) passE (pa_cons (pv 8) pa_nil))))))))), ?_⟩
      refine ⟨_, rfl, p, dx, _, rfl, b1, rfl, _, rfl, p, os, i, rfl, hb, hi, ?_⟩
      refine ⟨_, rfl, p, C_Book, dx, _, _, rfl, b1, T.cl_Book, T.n_Book_listed, rfl, _, rfl, t, _, _, _, rfl, rfl, b2, atI_nat (by rw [List.getElem?_map, ea]; rfl), ?_⟩
      refine ⟨a, o.vals, rfl, oa, rfl, _, _, rfl, _, _, rfl, _, _, rfl, _, _, rfl, _, _, rfl, rfl, ?_⟩
      refine ⟨_, rfl, _, rfl, dv, _, _, rfl, nd, _, rfl, ?_⟩
      rcases h with ⟨o2, i2, h1, h2, h3, k⟩ | ⟨o2, d, n, i2, h1, h2, rfl, h3, h4, bo, k⟩
      · have : i2 = i := by
          have := V.int.inj h1
          omega
        subst this
        rw [eo] at h2
        cases h2
        rw [h3]
        refine iteT ?_
        exact ⟨by decide, k _ _ _ (Same.refl _) ⟨rfl, rfl⟩⟩
      · have : i2 = i := by
          have := V.int.inj h1
          omega
        subst this
        rw [eo] at h2
        cases h2
        have e : isIntB (.int d) o.last 1000000000000000000 = true := by simp [isIntB, h3, h4]
        rw [e]
        refine iteF ?_
        refine ⟨_, rfl, p, C_Book, dx, _, _, rfl, b1, T.cl_Book, T.n_Book_listed, rfl, t, _, rfl, .inr b2, fun l hl0 => ?_⟩
        have s1 : Same H (upd H l (.lst (as.map V.ref))) := Same.new hl0
        refine ⟨_, rfl, _, rfl, _, rfl, _, rfl, _, rfl, (by show 5 ≤ sizeLine; decide), fun q hq => ?_⟩
        have nlq : l ≠ q := ne_of_none upd_same hq
        have hq0 : H q = none := s1.free hq
        have ij : ixN (as.map V.ref).length ((i2 : Nat) : Int) = some i2 := by
          rw [List.length_map, hl]
          exact ixNat hi
        refine ⟨_, rfl, _, rfl, l, _, _, i2, rfl, rfl, (by rw [upd_ne nlq]; exact upd_same), ij, ?_⟩
        have s2 : Same H (upd (upd (upd H l (.lst (as.map V.ref))) q (.tup [.str o.src, .str o.tgt, .int o.first, .int d, .int o.way])) l (.lst ((as.map V.ref).set i2 (.ref q)))) := fun b u e => by
          rw [upd_ne (ne_of_none e hl0), upd_ne (ne_of_none e hq0), upd_ne (ne_of_none e hl0)]
          exact e
        have ep : proO os i2 d = os.set i2 { o with last := d } := by unfold proO; rw [eo]
        have ords : OrdsAt K (upd (upd (upd H l (.lst (as.map V.ref))) q (.tup [.str o.src, .str o.tgt, .int o.first, .int d, .int o.way])) l (.lst ((as.map V.ref).set i2 (.ref q)))) (as.set i2 q) (proO os i2 d) := by
          rw [ep]
          refine pairedSet (b3.mono s2) (.inl (.inl ?_))
          rw [upd_ne nlq.symm, upd_same]
          rfl
        have fb := bo.first ords
        refine ⟨_, rfl, l, (as.set i2 q).map V.ref, n, rfl, .inr (SqL.of (by rw [upd_same, List.map_set])), by rw [List.length_map, List.length_set, sizeLine_eq]; omega, fb, fun H' cls dd s3 h => k _ _ _ (s2.trans s3) h⟩
def spWalkX (c : Cls5) : Sp := fun vs H _ E => ∃ b x d g e, vs = [b, x, d, g] ∧ notSeq x = true ∧ shortV x ∧ notSeq d = true ∧ notSeq g = true ∧ shortV g ∧ (letErr x d = some e ∨ (letErr x d = none ∧ letErr g (.int 0) = some e)) ∧ ∀ H' cls, Same H H' → ErrAt c cls none H' e → E cls none H'
theorem okX_walked (T : Top K mg C_Book C_Letter C_Walker C_MailError C_InvalidOrder C_UnknownOrder C_InvalidAddress C_InvalidDay C_InvalidNumber FL) : GFn P w K mg base (L2.CX P w) 4 "walked" (spWalkX ⟨C_InvalidOrder, C_UnknownOrder, C_InvalidAddress, C_InvalidDay, C_InvalidNumber⟩) := by
  have X_check_letter : GFn P w K mg base (L2.CX P w) 3 "check_letter" (spCheckX ⟨C_InvalidOrder, C_UnknownOrder, C_InvalidAddress, C_InvalidDay, C_InvalidNumber⟩) := okX_check_letter T
  refine T.d_walked.fnX sc_walked (fun vs H Q E h => ?_) (fun f cdv A outer s H vs Q E hr h => ?_)
  · obtain ⟨b, x, d, g, e, rfl, _⟩ := h
    rfl
  · obtain ⟨b, x, d, g, e, rfl, n1, n2, n3, m1, m2, he, kk⟩ := h
    refine ⟨_, pss_cons (ps_expr (pe_gX X_check_letter (hr.mono (by decide)) passE (pa_cons (pv 1) (pa_cons (pv 2) pa_nil)))) (pss_cons (ps_expr (pe_gX X_check_letter (hr.mono (by decide)) passE (pa_cons (pv 3) (pa_cons pe_int pa_nil)))) pss_no), ?_⟩
    refine ⟨_, rfl, _, rfl, x, d, rfl, n1, n2, n3, fun z H1 s1 => ?_, fun e' z H1 cls s1 h1 => ?_⟩
    · rcases he with he | ⟨_, he⟩
      · rw [he] at z; cases z
      · refine ⟨_, rfl, g, .int 0, rfl, m1, m2, rfl, fun z H2 s2 => ?_, fun e' z H2 cls s2 h2 => ?_⟩
        · rw [he] at z; cases z
        · rw [he] at z
          cases z
          exact kk _ _ (s1.trans s2) h2
    · rcases he with he | ⟨he, _⟩
      · rw [he] at z
        cases z
        exact kk _ _ s1 h1
      · rw [he] at z; cases z
theorem okX_orders_to (T : Top K mg C_Book C_Letter C_Walker C_MailError C_InvalidOrder C_UnknownOrder C_InvalidAddress C_InvalidDay C_InvalidNumber FL) : GFn P w K mg base (L2.CX P w) 5 "orders_to_prolong" (spWalkX ⟨C_InvalidOrder, C_UnknownOrder, C_InvalidAddress, C_InvalidDay, C_InvalidNumber⟩) := by
  have X_walked : GFn P w K mg base (L2.CX P w) 4 "walked" (spWalkX ⟨C_InvalidOrder, C_UnknownOrder, C_InvalidAddress, C_InvalidDay, C_InvalidNumber⟩) := okX_walked T
  refine T.d_orders_to_prolong.fnX sc_orders_to_prolong (fun vs H Q E h => ?_) (fun f cdv A outer s H vs Q E hr h => ?_)
  · obtain ⟨b, x, d, g, e, rfl, _⟩ := h
    rfl
  · obtain ⟨b, x, d, g, e, rfl, h⟩ := h
    refine ⟨_, pss_cons (ps_set (i := 4) sc_orders_to_prolong.nd rfl (Or.inl rfl) (pe_gX X_walked (hr.mono (by decide)) passE (pa_cons (pv 0) (pa_cons (pv 1) (pa_cons (pv 2) (pa_cons (pv 3) pa_nil)))))) pss_no, ?_⟩
    exact ⟨_, rfl, _, rfl, _, rfl, _, rfl, b, x, d, g, e, rfl, h⟩
theorem okX_day_if (T : Top K mg C_Book C_Letter C_Walker C_MailError C_InvalidOrder C_UnknownOrder C_InvalidAddress C_InvalidDay C_InvalidNumber FL) : GFn P w K mg base (L2.CX P w) 5 "day_if_prolonged" (spWalkX ⟨C_InvalidOrder, C_UnknownOrder, C_InvalidAddress, C_InvalidDay, C_InvalidNumber⟩) := by
  have X_walked : GFn P w K mg base (L2.CX P w) 4 "walked" (spWalkX ⟨C_InvalidOrder, C_UnknownOrder, C_InvalidAddress, C_InvalidDay, C_InvalidNumber⟩) := okX_walked T
  refine T.d_day_if_prolonged.fnX sc_day_if_prolonged (fun vs H Q E h => ?_) (fun f cdv A outer s H vs Q E hr h => ?_)
  · obtain ⟨b, x, d, g, e, rfl, _⟩ := h
    rfl
  · obtain ⟨b, x, d, g, e, rfl, h⟩ := h
    refine ⟨_, pss_cons (ps_set (i := 4) sc_day_if_prolonged.nd rfl (Or.inl rfl) (pe_gX X_walked (hr.mono (by decide)) passE (pa_cons (pv 0) (pa_cons (pv 1) (pa_cons (pv 2) (pa_cons (pv 3) pa_nil)))))) pss_no, ?_⟩
    exact ⟨_, rfl, _, rfl, _, rfl, _, rfl, b, x, d, g, e, rfl, h⟩
end

end MF
set_option Elab.async false
set_option linter.all false
set_option maxRecDepth 100000
set_option maxHeartbeats 2000000
set_option pp.maxSteps 600
namespace MF
open PySem PySem.Spec PyProof.Rows L2 StX
section
variable {P : Program} {w : World} {K : PySem.W.Frag} {mg : Str → Option Value} {base : Heap} {C_Book C_Letter C_Walker C_MailError C_InvalidOrder C_UnknownOrder C_InvalidAddress C_InvalidDay C_InvalidNumber : Addr} {FL : Str}
def rejQ : Str := "_law_are_rejected.<locals>.<lambda>"
theorem fmtI {i : Int} (h : i.natAbs < 1000000000000000000000) : FmtOk (.int i) := by
  show i.natAbs.log2 < 1920
  by_cases c : i.natAbs = 0
  · rw [c]; decide
  · rw [Nat.log2_lt c]
    exact Nat.lt_trans h (by decide +kernel)
def spRejected (K : PySem.W.Frag) (CB : Addr) (T : List (Addr × Str)) : Sp := fun vs H Q _ => ∃ bk l as os, vs = [.ref bk, .ref l] ∧ LamX.Tabs T H ∧ BookAt K CB H bk os ∧ Good os ∧ SqL K H l (as.map V.ref) ∧ OrdsAt K H as os ∧ ∀ H', Q (.bl true) H'
theorem ok_rejected (T : Top K mg C_Book C_Letter C_Walker C_MailError C_InvalidOrder C_UnknownOrder C_InvalidAddress C_InvalidDay C_InvalidNumber FL) {c2 P2 : Addr} (D : GDefC K mg "_law_are_rejected" s__law_are_rejected ["_law_book_here", "_law_orders_here"] c2) (TBL : LamX.TabB base mg c2 P2) : GFn P w K mg base CX0 9 "_law_are_rejected" (spRejected K C_Book [(P2, rejQ)]) := by
  have X_prolonged : GFn P w K mg base (L2.CX P w) 6 "prolonged" (spProlongedX K C_Book ⟨C_InvalidOrder, C_UnknownOrder, C_InvalidAddress, C_InvalidDay, C_InvalidNumber⟩) := okX_prolonged T
  have X_orders_to_prolong : GFn P w K mg base (L2.CX P w) 5 "orders_to_prolong" (spWalkX ⟨C_InvalidOrder, C_UnknownOrder, C_InvalidAddress, C_InvalidDay, C_InvalidNumber⟩) := okX_orders_to T
  have X_day_if_prolonged : GFn P w K mg base (L2.CX P w) 5 "day_if_prolonged" (spWalkX ⟨C_InvalidOrder, C_UnknownOrder, C_InvalidAddress, C_InvalidDay, C_InvalidNumber⟩) := okX_day_if T
  refine D.fn fun f fd F => F.ok sc__law_are_rejected (fun vs H Q E h => ?_) (fun A outer s H vs Q E hr h => ?_)
  · obtain ⟨bk, l, as, os, rfl, _⟩ := h
    rfl
  · obtain ⟨bk, l, as, os, rfl, T0, B0, g, hl0, ol0, k⟩ := h
    have HTM : (P2, rejQ) ∈ [(P2, rejQ)] := List.mem_cons_self
    have HTU : ∀ p ∈ [(P2, rejQ)], p.1 = P2 → p.2 = rejQ := fun p hp _ => by rw [List.mem_singleton.mp hp]
    refine ⟨_, (C8.pss_cut (ps_for PassesOwn.never rfl (pi_tup (pe_tup (pa_cons (pe_callB call_len_seq (by rfl) T.b_len (by decide +kernel) (pa_cons (pv 1) pa_nil)) (pa_cons (pe_op op_sub pe_int pe_int) (pa_cons pe_non (pa_cons pe_bl pa_nil)))))) (pg_name (i := 4) sc__law_are_rejected.nd rfl (Or.inr rfl))
  (pss_one (ps_if (pt_cmpR (op_neD hr.units) (pe_lamC (k := 6) (ok_raised rfl rfl T) (hr.mono (by decide)) (by exact (pa_cons (pe_lamX (X := (cxOf CX0 P w K mg base ["_law_book_here", "_law_orders_here", "_law_word", "_law_works", "_law_bad", "_law_day", "_law_goal", "_law_k", "_law_name", "_law_work"] "_law_are_rejected" (defScope s__law_are_rejected) f (.ref c2) A outer s H E).nox) (k := 6) TBL HTM HTU (by kernel_rfl) rfl rfl (LamX.lamS_by (sc := defScope s__law_are_rejected) (by decide +kernel)) (fun _ _ _ _ _ => rfl) (fun A outer s H E f c' hrL => (pe_gX X_prolonged (hrL.mono (by decide)) passM (pa_cons (pv 0) (pa_cons (pv 4) (pa_cons (pe_op op_sub pe_int pe_int) pa_nil)))))) pa_nil))) (pe_tup (pa_cons pe_str (pa_cons (pv 4) pa_nil))) (nomark _))
  (pss_one (ps_ret pe_bl))
  pss_nil)))
  (C8.pss_cut (ps_for PassesOwn.never rfl (pi_range1 (by rfl) T.b_range (pa_cons (pe_callB call_len_seq (by rfl) T.b_len (by decide +kernel) (pa_cons (pv 1) pa_nil)) pa_nil)) (pg_name (i := 7) sc__law_are_rejected.nd rfl (Or.inr rfl))
  (pss_one (ps_for PassesOwn.never rfl (pi_tup (pe_tup (pa_cons (pe_op op_sub (pe_ix ix_tup (pe_ix ix_list (pv 1) (pv 7) (fun _ _ => rfl)) pe_int (fun _ _ => rfl)) pe_int) (pa_cons (pe_op op_add (pe_op op_pow pe_int pe_int) pe_int) (pa_cons pe_non pa_nil))))) (pg_name (i := 4) sc__law_are_rejected.nd rfl (Or.inr rfl))
  (pss_one (ps_if (pt_cmpR (op_neD hr.units) (pe_lamC (k := 6) (ok_raised rfl rfl T) (hr.mono (by decide)) (by exact (pa_cons (pe_lamX (X := (cxOf CX0 P w K mg base ["_law_book_here", "_law_orders_here", "_law_word", "_law_works", "_law_bad", "_law_day", "_law_goal", "_law_k", "_law_name", "_law_work"] "_law_are_rejected" (defScope s__law_are_rejected) f (.ref c2) A outer s H E).nox) (k := 6) TBL HTM HTU (by kernel_rfl) rfl rfl (LamX.lamS_by (sc := defScope s__law_are_rejected) (by decide +kernel)) (fun _ _ _ _ _ => rfl) (fun A outer s H E f c' hrL => (pe_gX X_prolonged (hrL.mono (by decide)) passM (pa_cons (pv 0) (pa_cons (pv 7) (pa_cons (pv 4) pa_nil)))))) pa_nil))) (pe_tup (pa_cons pe_str pa_nil)) (nomark _))
  (pss_one (ps_ret pe_bl))
  pss_nil)))))
  (C8.pss_cut (ps_for PassesOwn.never rfl (pi_tup (pe_tup (pa_cons (pe_tup (pa_cons pe_str (pa_cons (pe_op op_sub pe_int pe_int) (pa_cons pe_str (pa_cons pe_str pa_nil))))) (pa_cons (pe_tup (pa_cons pe_str (pa_cons (pe_op op_sub pe_int pe_int) (pa_cons pe_str (pa_cons pe_str pa_nil))))) (pa_cons (pe_tup (pa_cons pe_str (pa_cons pe_int (pa_cons pe_str (pa_cons pe_str pa_nil))))) pa_nil))))) (pg_tup rfl (pgs_cons (pg_name (i := 8) sc__law_are_rejected.nd rfl (Or.inr rfl)) (pgs_cons (pg_name (i := 5) sc__law_are_rejected.nd rfl (Or.inr rfl)) (pgs_cons (pg_name (i := 6) sc__law_are_rejected.nd rfl (Or.inr rfl)) (pgs_cons (pg_name (i := 2) sc__law_are_rejected.nd rfl (Or.inr rfl)) pgs_nil)))))
  (pss_cons (ps_set (i := 3) sc__law_are_rejected.nd rfl (Or.inl rfl) (pe_lst (pa_cons (pe_lamX (X := (cxOf CX0 P w K mg base ["_law_book_here", "_law_orders_here", "_law_word", "_law_works", "_law_bad", "_law_day", "_law_goal", "_law_k", "_law_name", "_law_work"] "_law_are_rejected" (defScope s__law_are_rejected) f (.ref c2) A outer s H E).nox) (k := 6) TBL HTM HTU (by kernel_rfl) rfl rfl (LamX.lamS_by (sc := defScope s__law_are_rejected) (by decide +kernel)) (fun _ _ _ _ _ => rfl) (fun A outer s H E f c' hrL => (pe_gX X_orders_to_prolong (hrL.mono (by decide)) passM (pa_cons (pv 0) (pa_cons (pv 8) (pa_cons (pv 5) (pa_cons (pv 6) pa_nil))))))) pa_nil)))
  (pss_cons (ps_expr (pe_bm PySem.F.plainAttrs_list PySem.F.slot_list_append PySem.F.type_list_append mt_append (pv 3) (pa_cons (pe_lamX (X := (cxOf CX0 P w K mg base ["_law_book_here", "_law_orders_here", "_law_word", "_law_works", "_law_bad", "_law_day", "_law_goal", "_law_k", "_law_name", "_law_work"] "_law_are_rejected" (defScope s__law_are_rejected) f (.ref c2) A outer s H E).nox) (k := 6) TBL HTM HTU (by kernel_rfl) rfl rfl (LamX.lamS_by (sc := defScope s__law_are_rejected) (by decide +kernel)) (fun _ _ _ _ _ => rfl) (fun A outer s H E f c' hrL => (pe_gX X_day_if_prolonged (hrL.mono (by decide)) passM (pa_cons (pv 0) (pa_cons (pv 8) (pa_cons (pv 5) (pa_cons (pv 6) pa_nil))))))) pa_nil)))
  (pss_one (ps_if (pt_cmpR (op_neD hr.units) (pe_lcI (own := [("_law_work", 9)]) (g := (gName 9)) (by rfl) sc__law_are_rejected.nd (pi_list (pv 3)) (blkOk_by (own := [("_law_work", 9)]) (N := ["_law_book_here", "_law_orders_here", "_law_word", "_law_works", "_law_bad", "_law_day", "_law_goal", "_law_k", "_law_name", "_law_work"]) (sc := defScope s__law_are_rejected) (by decide +kernel)) (fun _ _ _ _ _ => (pg_name (i := 9) sc__law_are_rejected.nd rfl (Or.inl rfl))) (fun pins σ s H C cl fp BB => (pts_one (pt_cmpR (op_neDK (K := K) hr.units) (pe_lamB (k := 6) BB (ok_raised rfl rfl T) (hr.mono (by decide)) (pa_cons (pv 9) pa_nil)) (pe_tup (pa_cons (pv 2) pa_nil)) (nomark _)))) (fun pins σ s H C cl fp BB => (pv 9))) (pe_lst pa_nil) (nomark _))
  (pss_one (ps_ret pe_bl))
  pss_nil)))))
  (pss_one (ps_ret pe_bl))))), ?_⟩
    let tl (v2 v3 v4 v5 v6 v7 v8 v9 : Option V) : L2.St := [some (.ref bk), some (.ref l), v2, v3, v4, v5, v6, v7, v8, v9]
    let S (H' : Hp) : Prop := LamX.Tabs [(P2, rejQ)] H' ∧ BookAt K C_Book H' bk os ∧ SqL K H' l (as.map V.ref) ∧ OrdsAt K H' as os
    have ST : ∀ {H' : Hp}, S H' → LamX.Tabs [(P2, rejQ)] H' := fun z => z.1
    have SS : ∀ {H' H'' : Hp}, S H' → Same H' H'' → S H'' := fun z s => ⟨LamX.Tabs.ext z.1 s, z.2.1.mono s, s.seq z.2.2.1, z.2.2.2.mono s⟩
    have SN : ∀ {H' H'' : Hp}, S H' → LamX.ExtN H' H'' → LamX.Tabs [(P2, rejQ)] H'' → S H'' := fun z e t => ⟨t, book_extN z.2.1 e, sq_extN z.2.2.1 e, ords_extN z.2.2.2 e⟩
    have S0 : S H := ⟨T0, B0, hl0, ol0⟩
    clear T0 B0 hl0 ol0
    have lo : as.length = os.length := PySem.Paired.length S0.2.2.2
    have g30 := g.len
    refine ⟨fun σ' H' => S H' ∧ ∃ v2 v3 v4 v5 v6 v7 v8 v9, σ' = tl v2 v3 v4 v5 v6 v7 v8 v9, ?_, ?_⟩
    · refine ⟨_, rfl, l, _, rfl, .inl S0.2.2.1, _, _, rfl, rfl, (by show 4 ≤ sizeLine; decide), ?_⟩
      rw [List.length_map, lo]
      intro q4 hq4
      generalize gH9 : L2.upd _ q4 _ = H9
      obtain ⟨s9, e9⟩ := newS hq4 gH9
      clear gH9
      have S9 := SS S0 s9
      refine ⟨q4, rfl, ⟨_, .inl (.inl e9)⟩, for_it (walk_tup (xs := [V.int (os.length : Nat), V.int (0 - 1), V.non, V.bl true])) (fun i σ H' => S H' ∧ (∀ b xs, H9 b = some (.tup xs) → H' b = some (.tup xs)) ∧ ∃ v2 v3 v4 v5 v6 v7 v8 v9, σ = tl v2 v3 v4 v5 v6 v7 v8 v9) ⟨S9, fun _ _ z => z, _, _, _, _, _, _, _, _, rfl⟩ (fun i σ H' _ z => .inl (.inl (z.2.1 _ _ e9))) ?_ ?_⟩
      · rintro i y σ Hx H10 hi10 ⟨S10, k10, w2, w3, w4, w5, w6, w7, w8, w9, rfl⟩ ⟨rfl, ey⟩
        obtain ⟨n1, n2, n3, n4⟩ : notSeq y = true ∧ FmtOk y ∧ isIntB y 0 ((os.length : Int) - 1) = false ∧ ∃ dy, (∀ H', Dp K H' y dy) ∧ DK 0 dy ∧ PyData.eqv dy dy = true := by
          have : i = 0 ∨ i = 1 ∨ i = 2 ∨ i = 3 := by
            have : i < 4 := hi10
            omega
          rcases this with rfl | rfl | rfl | rfl <;> cases ey
          · exact ⟨rfl, fmtI (by omega), by simp [isIntB]; omega, _, (fun _ => .int _), .int 0 _, by simp [PyData.eqv]⟩
          · exact ⟨rfl, fmtI (by decide), by simp [isIntB], _, (fun _ => .int _), .int 0 _, by simp [PyData.eqv]⟩
          · exact ⟨rfl, True.intro, rfl, _, (fun _ => .non), .non 0, rfl⟩
          · exact ⟨rfl, True.intro, rfl, _, (fun _ => .bl true), .bl 0 true, rfl⟩
        obtain ⟨dy, hdy, kdy, qdy⟩ := n4
        refine ⟨S10.1, fun f1 H11 x11 T11 fn1 L11 => ?_⟩
        have S11 := SN S10 x11 T11
        refine ⟨_, f1, rfl, L11, ?_⟩
        refine ⟨_, rfl, _, rfl, _, _, rfl, rfl, bk, os, y, .int (0 - 1), rfl, S11.2.1, g, n1, rfl, .inl ⟨n2, n3, fun H12 cls dd s12 e12 => ⟨.unknown y, True.intro, e12, fun p H13 s13 fp ep => ?_⟩⟩⟩
        refine ⟨_, rfl, (by show 2 ≤ sizeLine; decide), ?_⟩
        intro z hz
        generalize gH14 : L2.upd _ z _ = H14
        obtain ⟨s14, e14⟩ := newS hz gH14
        clear gH14
        have kd : DK 1 (.tuple [.str "unknown", dy]) := .tuple (.cons (.strk 0 (by decide +kernel)) (.cons kdy .nil)) (by show 2 ≤ _; decide)
        refine ⟨.tuple [.str "unknown", dy], .tuple [.str "unknown", dy], .tup (.inl (.inl (s14 _ _ ep))) (.cons (.str _) (.cons (hdy _) .nil)), .tup (.inl (.inl e14)) (.cons (.str _) (.cons (hdy _) .nil)), kd.shaped (by decide), kd.shaped (by decide), ?_⟩
        have sT := (s12.trans s13).trans s14
        rw [show PyData.eqv (.tuple [.str "unknown", dy]) (.tuple [.str "unknown", dy]) = true from by simp [PyData.eqv, PyData.eqvAll, qdy]]
        refine ⟨_, rfl, iteF ?_⟩
        exact ⟨SS S11 sT, fun b xs e => sT _ _ (x11 _ _ (k10 _ _ e) (fun ps z => by cases z)), _, _, _, _, _, _, _, _, rfl⟩
      · rintro σ' H' ⟨S6, _, z⟩
        exact ⟨S6, z⟩
    clear S0
    rintro σ H0 ⟨S0, w2, w3, w4, w5, w6, w7, w8, w9, rfl⟩
    refine ⟨fun σ' H' => S H' ∧ ∃ v2 v3 v4 v5 v6 v7 v8 v9, σ' = tl v2 v3 v4 v5 v6 v7 v8 v9, ?_, ?_⟩
    · refine ⟨_, rfl, l, _, rfl, .inl S0.2.2.1, _, rfl, by rw [List.length_map]; omega, by rw [List.length_map]; omega, for_it walk_range (fun i σ H' => S H' ∧ ∃ v2 v3 v4 v5 v6 v7 v8 v9, σ = tl v2 v3 v4 v5 v6 v7 v8 v9) ⟨S0, _, _, _, _, _, _, _, _, rfl⟩ (fun _ _ _ _ _ => trivial) ?_ (fun σ' H' z => z)⟩
      rintro i y σ Hx H1 hi ⟨S1, w2, w3, w4, w5, w6, w7, w8, w9, rfl⟩ ⟨rfl, rfl⟩
      have hi' : i < as.length := by rw [List.length_map] at hi; omega
      obtain ⟨a, ea⟩ : ∃ a, as[i]? = some a := ⟨as[i], by simp [hi']⟩
      obtain ⟨o, eo, oa⟩ := Paired.get S1.2.2.2 ea
      have ok := g.ok o (List.mem_of_getElem? eo)
      have f0 := ok.f0
      have fl := ok.fl
      have lm := ok.lm
      have z0 : (0 : Int) + (i : Int) = (i : Int) := by omega
      refine ⟨_, rfl, _, rfl, l, _, _, V.ref a, rfl, rfl, S1.2.2.1, (by show atI _ (0 + (i : Int)) = _; rw [z0]; exact atI_nat (by rw [List.getElem?_map, ea]; rfl)), a, _, _, _, rfl, rfl, oa, rfl, _, _, rfl, rfl, _, _, rfl, rfl, ⟨by decide, by decide, by decide⟩, _, _, rfl, rfl, (by show 3 ≤ sizeLine; decide), ?_⟩
      intro q4 hq4
      generalize gH9 : L2.upd _ q4 _ = H9
      obtain ⟨s9, e9⟩ := newS hq4 gH9
      clear gH9
      have S9 := SS S1 s9
      refine ⟨q4, rfl, ⟨_, .inl (.inl e9)⟩, for_it (walk_tup (xs := [V.int (o.last - 1), V.int ((10 : Int) ^ (18 : Int).toNat + 1), V.non])) (fun j σ H' => S H' ∧ (∀ b xs, H9 b = some (.tup xs) → H' b = some (.tup xs)) ∧ ∃ v2 v3 v4 v5 v6 v8 v9, σ = tl v2 v3 v4 v5 v6 (some (.int (0 + (i : Int)))) v8 v9) ⟨S9, fun _ _ z => z, _, _, _, _, _, _, _, rfl⟩ (fun i σ H' _ z => .inl (.inl (z.2.1 _ _ e9))) ?_ ?_⟩
      · rintro j y σ Hx H10 hj ⟨S10, k10, w2, w3, w4, w5, w6, w8, w9, rfl⟩ ⟨rfl, ey⟩
        obtain ⟨n1, n2⟩ : notSeq y = true ∧ isIntB y o.last 1000000000000000000 = false := by
          have : j = 0 ∨ j = 1 ∨ j = 2 := by
            have : j < 3 := hj
            omega
          rcases this with rfl | rfl | rfl <;> cases ey
          · exact ⟨rfl, by simp [isIntB]; omega⟩
          · exact ⟨rfl, by simp [isIntB]⟩
          · exact ⟨rfl, rfl⟩
        refine ⟨S10.1, fun f1 H11 x11 T11 fn1 L11 => ?_⟩
        have S11 := SN S10 x11 T11
        refine ⟨_, f1, rfl, L11, ?_⟩
        refine ⟨_, rfl, _, rfl, _, rfl, bk, os, .int (0 + (i : Int)), y, rfl, S11.2.1, g, rfl, n1, .inr (.inl ⟨o, i, by rw [z0], eo, n2, fun H12 cls dd s12 e12 => ⟨.day, True.intro, e12, fun p H13 s13 fp ep => ?_⟩⟩)⟩
        refine ⟨(by show 1 ≤ sizeLine; decide), ?_⟩
        intro z hz
        generalize gH14 : L2.upd _ z _ = H14
        obtain ⟨s14, e14⟩ := newS hz gH14
        clear gH14
        refine ⟨.tuple [.str "day"], .tuple [.str "day"], .tup (.inl (.inl (s14 _ _ ep))) (.cons (.str _) .nil), .tup (.inl (.inl e14)) (.cons (.str _) .nil), by decide +kernel, by decide +kernel, ?_⟩
        have sT := (s12.trans s13).trans s14
        refine ⟨_, rfl, iteF ?_⟩
        exact ⟨SS S11 sT, fun b xs e => sT _ _ (x11 _ _ (k10 _ _ e) (fun ps z => by cases z)), _, _, _, _, _, _, _, rfl⟩
      · rintro σ' H' ⟨S6, _, w2, w3, w4, w5, w6, w8, w9, rfl⟩
        exact ⟨S6, _, _, _, _, _, _, _, _, rfl⟩
    clear S0
    rintro σ H0 ⟨S0, w2, w3, w4, w5, w6, w7, w8, w9, rfl⟩
    refine ⟨fun σ' H' => True, ?_, fun _ H' _ => k H'⟩
    refine ⟨_, _, rfl, rfl, (by show 4 ≤ sizeLine; decide), ?_⟩
    intro q1 hq1
    generalize gH2 : L2.upd _ q1 _ = H2
    obtain ⟨s2, e2⟩ := newS hq1 gH2
    clear gH2
    refine ⟨_, _, rfl, rfl, (by show 4 ≤ sizeLine; decide), ?_⟩
    intro q2 hq2
    generalize gH3 : L2.upd _ q2 _ = H3
    obtain ⟨s3, e3⟩ := newS hq2 gH3
    clear gH3
    refine ⟨(by show 4 ≤ sizeLine; decide), ?_⟩
    intro q3 hq3
    generalize gH4 : L2.upd _ q3 _ = H4
    obtain ⟨s4, e4⟩ := newS hq3 gH4
    clear gH4
    refine ⟨(by show 3 ≤ sizeLine; decide), ?_⟩
    intro qq hqq
    generalize gH8 : L2.upd _ qq _ = H8
    obtain ⟨s8, e8⟩ := newS hqq gH8
    clear gH8
    have S8 : S H8 := SS S0 (((s2.trans s3).trans s4).trans s8)
    have shA : shortV (.str "A") := (by show Str.length _ ≤ _; decide +kernel)
    have sha : shortV (.str "a") := (by show Str.length _ ≤ _; decide +kernel)
    have she : shortV (.str "") := (by show Str.length _ ≤ _; decide +kernel)
    refine ⟨qq, rfl, ⟨_, .inl (.inl e8)⟩, for_it (walk_tup (xs := [V.ref q1, V.ref q2, V.ref q3])) (fun i σ H' => S H' ∧ (∀ b xs, H8 b = some (.tup xs) → H' b = some (.tup xs)) ∧ ∃ v2 v3 v4 v5 v6 v7 v8 v9, σ = tl v2 v3 v4 v5 v6 v7 v8 v9) ⟨S8, fun _ _ z => z, _, _, _, _, _, _, _, _, rfl⟩ (fun i σ H' _ z => .inl (.inl (z.2.1 _ _ e8))) ?_ (fun _ _ _ => True.intro)⟩
    rintro i y σ Hx H6 hi ⟨S6, k6, w2, w3, w4, w5, w6, w7, w8, w9, rfl⟩ ⟨rfl, ey⟩
    have : i = 0 ∨ i = 1 ∨ i = 2 := by
      have : i < 3 := hi
      omega
    rcases this with rfl | rfl | rfl <;> cases ey
    · refine ⟨q1, _, rfl, .inl (.inl (k6 _ _ (s8 _ _ (s4 _ _ (s3 _ _ e2))))), rfl, _, _, rfl, _, _, rfl, _, _, rfl, _, _, rfl, rfl, ?_⟩
      refine ⟨ST S6, fun F1 Ha xa Ta fna LM1 => ?_⟩
      have Sa := SN S6 xa Ta
      refine ⟨(by show 1 ≤ sizeLine; decide), ?_⟩
      intro lw hlw
      generalize gHl1 : L2.upd _ lw _ = Hl1
      obtain ⟨sl1, el1⟩ := newS hlw gHl1
      clear gHl1
      have kx1 : LamX.ExtN Ha Hl1 := LamX.ExtN.of sl1
      have Tl1 := Ta.ext sl1
      replace LM1 := LM1.keep fun b φ z => sl1 _ _ z
      refine ⟨_, rfl, .inl ⟨rfl, _, SqL.of el1⟩, Tl1, fun F2 Hm2 xm2 Tm2 fnm2 LM2 => ?_⟩
      have em2 := xm2 _ _ el1 (fun ps z => by cases z)
      refine ⟨lw, _, _, rfl, rfl, em2, (by show 1 < sizeLine; decide), ?_⟩
      generalize gHl2 : L2.upd _ lw _ = Hl2
      obtain ⟨up2, er2⟩ := updS gHl2
      clear gHl2
      have el2 : Hl2 lw = some (.lst [.ref F1, .ref F2]) := er2
      have xx2 : ∀ b φ, Hl1 b = some (.ext φ) → Hl2 b = some (.ext φ) := fun b φ z => up2 _ _ (xm2 _ _ z (fun ps w => by cases w)) (fun w => by rw [w, el1] at z; cases z)
      have kx2 : LamX.ExtN Ha Hl2 := fun b u e n => up2 _ _ (xm2 _ _ (kx1 _ _ e n) n) (ne_of_none e hlw)
      have Tl2 := tabs_but em2 Tm2 up2
      replace LM1 := LM1.keep xx2
      replace LM2 := LM2.keep (fun b φ z => up2 _ _ z fun w => by rw [w, em2] at z; cases z)
      have Sl := SN Sa kx2 Tl2
      have kl : LamX.ExtN H6 Hl2 := LamX.ExtN.trans xa kx2
      clear sl1 xm2 Tm2 fnm2 em2 up2 er2 xx2
      refine ⟨_, rfl, lw, rfl, ⟨_, SqL.of el2⟩, fun D hD => ?_⟩
      refine lc_it (walk_list (xs := [V.ref F1, V.ref F2])) (fun i H' => Same Hl2 H' ∧ H' D = some (.lst [])) ⟨Same.new hD, upd_same⟩ (fun i H' _ p => SqL.of (p.1 _ _ el2)) ?_ ?_
      · rintro iF yF Hx H11 hiF ⟨s11, e11⟩ ⟨rfl, eyF⟩
        have i0n : iF = 0 ∨ iF = 1 := by have : iF < 2 := hiF; omega
        have S11 := SS Sl s11
        rcases i0n with rfl | rfl
        · cases eyF
          refine ⟨rfl, ?_⟩
          refine ⟨_, rfl, _, F1, rfl, LM1.keep (fun b φ z => s11 _ _ z), ?_⟩
          refine ⟨_, rfl, _, rfl, _, rfl, _, rfl, .ref bk, .str "A", .int (0 - 1), .str "A", .address, rfl, rfl, shA, rfl, rfl, shA, .inl (by unfold letErr; rw [if_neg (by decide +kernel)]), fun H12 cls s12 e12 => ⟨.address, True.intro, e12, fun p H13 s13 fp ep => ?_⟩⟩
          refine ⟨_, rfl, (by show 1 ≤ sizeLine; decide), ?_⟩
          intro z hz
          generalize gH14 : L2.upd _ z _ = H14
          obtain ⟨s14, e14⟩ := newS hz gH14
          clear gH14
          refine ⟨.tuple [.str "address"], .tuple [.str "address"], .tup (.inl (.inl (s14 _ _ ep))) (.cons (.str _) .nil), .tup (.inl (.inl e14)) (.cons (.str _) .nil), by decide +kernel, by decide +kernel, ?_⟩
          have sT := (s12.trans s13).trans s14
          exact ⟨_, rfl, iteF ⟨s11.trans sT, sT _ _ e11⟩⟩
        · cases eyF
          refine ⟨rfl, ?_⟩
          refine ⟨_, rfl, _, F2, rfl, LM2.keep (fun b φ z => s11 _ _ z), ?_⟩
          refine ⟨_, rfl, _, rfl, _, rfl, _, rfl, .ref bk, .str "A", .int (0 - 1), .str "A", .address, rfl, rfl, shA, rfl, rfl, shA, .inl (by unfold letErr; rw [if_neg (by decide +kernel)]), fun H12 cls s12 e12 => ⟨.address, True.intro, e12, fun p H13 s13 fp ep => ?_⟩⟩
          refine ⟨_, rfl, (by show 1 ≤ sizeLine; decide), ?_⟩
          intro z hz
          generalize gH14 : L2.upd _ z _ = H14
          obtain ⟨s14, e14⟩ := newS hz gH14
          clear gH14
          refine ⟨.tuple [.str "address"], .tuple [.str "address"], .tup (.inl (.inl (s14 _ _ ep))) (.cons (.str _) .nil), .tup (.inl (.inl e14)) (.cons (.str _) .nil), by decide +kernel, by decide +kernel, ?_⟩
          have sT := (s12.trans s13).trans s14
          exact ⟨_, rfl, iteF ⟨s11.trans sT, sT _ _ e11⟩⟩
      · rintro H11 ⟨s11, e11⟩
        refine ⟨Nat.zero_le _, ?_⟩
        intro z hz
        generalize gH12 : L2.upd _ z _ = H12
        obtain ⟨s12, e12⟩ := newS hz gH12
        clear gH12
        refine ⟨.list [], .list [], .lst (SqL.of (s12 _ _ e11)) .nil, .lst (SqL.of e12) .nil, by decide +kernel, by decide +kernel, ?_⟩
        refine ⟨_, rfl, iteF ?_⟩
        have sT := s11.trans s12
        have SE := SS Sl sT
        exact ⟨SE, fun b xs e => sT _ _ (kl _ _ (k6 _ _ e) (fun ps z => by cases z)), _, _, _, _, _, _, _, _, rfl⟩
    · refine ⟨q2, _, rfl, .inl (.inl (k6 _ _ (s8 _ _ (s4 _ _ e3)))), rfl, _, _, rfl, _, _, rfl, _, _, rfl, _, _, rfl, rfl, ?_⟩
      refine ⟨ST S6, fun F1 Ha xa Ta fna LM1 => ?_⟩
      have Sa := SN S6 xa Ta
      refine ⟨(by show 1 ≤ sizeLine; decide), ?_⟩
      intro lw hlw
      generalize gHl1 : L2.upd _ lw _ = Hl1
      obtain ⟨sl1, el1⟩ := newS hlw gHl1
      clear gHl1
      have kx1 : LamX.ExtN Ha Hl1 := LamX.ExtN.of sl1
      have Tl1 := Ta.ext sl1
      replace LM1 := LM1.keep fun b φ z => sl1 _ _ z
      refine ⟨_, rfl, .inl ⟨rfl, _, SqL.of el1⟩, Tl1, fun F2 Hm2 xm2 Tm2 fnm2 LM2 => ?_⟩
      have em2 := xm2 _ _ el1 (fun ps z => by cases z)
      refine ⟨lw, _, _, rfl, rfl, em2, (by show 1 < sizeLine; decide), ?_⟩
      generalize gHl2 : L2.upd _ lw _ = Hl2
      obtain ⟨up2, er2⟩ := updS gHl2
      clear gHl2
      have el2 : Hl2 lw = some (.lst [.ref F1, .ref F2]) := er2
      have xx2 : ∀ b φ, Hl1 b = some (.ext φ) → Hl2 b = some (.ext φ) := fun b φ z => up2 _ _ (xm2 _ _ z (fun ps w => by cases w)) (fun w => by rw [w, el1] at z; cases z)
      have kx2 : LamX.ExtN Ha Hl2 := fun b u e n => up2 _ _ (xm2 _ _ (kx1 _ _ e n) n) (ne_of_none e hlw)
      have Tl2 := tabs_but em2 Tm2 up2
      replace LM1 := LM1.keep xx2
      replace LM2 := LM2.keep (fun b φ z => up2 _ _ z fun w => by rw [w, em2] at z; cases z)
      have Sl := SN Sa kx2 Tl2
      have kl : LamX.ExtN H6 Hl2 := LamX.ExtN.trans xa kx2
      clear sl1 xm2 Tm2 fnm2 em2 up2 er2 xx2
      refine ⟨_, rfl, lw, rfl, ⟨_, SqL.of el2⟩, fun D hD => ?_⟩
      refine lc_it (walk_list (xs := [V.ref F1, V.ref F2])) (fun i H' => Same Hl2 H' ∧ H' D = some (.lst [])) ⟨Same.new hD, upd_same⟩ (fun i H' _ p => SqL.of (p.1 _ _ el2)) ?_ ?_
      · rintro iF yF Hx H11 hiF ⟨s11, e11⟩ ⟨rfl, eyF⟩
        have i0n : iF = 0 ∨ iF = 1 := by have : iF < 2 := hiF; omega
        have S11 := SS Sl s11
        rcases i0n with rfl | rfl
        · cases eyF
          refine ⟨rfl, ?_⟩
          refine ⟨_, rfl, _, F1, rfl, LM1.keep (fun b φ z => s11 _ _ z), ?_⟩
          refine ⟨_, rfl, _, rfl, _, rfl, _, rfl, .ref bk, .str "a", .int (0 - 1), .str "A", .day, rfl, rfl, sha, rfl, rfl, shA, .inl (by unfold letErr; rw [if_pos (by decide +kernel), if_neg (by decide +kernel)]), fun H12 cls s12 e12 => ⟨.day, True.intro, e12, fun p H13 s13 fp ep => ?_⟩⟩
          refine ⟨_, rfl, (by show 1 ≤ sizeLine; decide), ?_⟩
          intro z hz
          generalize gH14 : L2.upd _ z _ = H14
          obtain ⟨s14, e14⟩ := newS hz gH14
          clear gH14
          refine ⟨.tuple [.str "day"], .tuple [.str "day"], .tup (.inl (.inl (s14 _ _ ep))) (.cons (.str _) .nil), .tup (.inl (.inl e14)) (.cons (.str _) .nil), by decide +kernel, by decide +kernel, ?_⟩
          have sT := (s12.trans s13).trans s14
          exact ⟨_, rfl, iteF ⟨s11.trans sT, sT _ _ e11⟩⟩
        · cases eyF
          refine ⟨rfl, ?_⟩
          refine ⟨_, rfl, _, F2, rfl, LM2.keep (fun b φ z => s11 _ _ z), ?_⟩
          refine ⟨_, rfl, _, rfl, _, rfl, _, rfl, .ref bk, .str "a", .int (0 - 1), .str "A", .day, rfl, rfl, sha, rfl, rfl, shA, .inl (by unfold letErr; rw [if_pos (by decide +kernel), if_neg (by decide +kernel)]), fun H12 cls s12 e12 => ⟨.day, True.intro, e12, fun p H13 s13 fp ep => ?_⟩⟩
          refine ⟨_, rfl, (by show 1 ≤ sizeLine; decide), ?_⟩
          intro z hz
          generalize gH14 : L2.upd _ z _ = H14
          obtain ⟨s14, e14⟩ := newS hz gH14
          clear gH14
          refine ⟨.tuple [.str "day"], .tuple [.str "day"], .tup (.inl (.inl (s14 _ _ ep))) (.cons (.str _) .nil), .tup (.inl (.inl e14)) (.cons (.str _) .nil), by decide +kernel, by decide +kernel, ?_⟩
          have sT := (s12.trans s13).trans s14
          exact ⟨_, rfl, iteF ⟨s11.trans sT, sT _ _ e11⟩⟩
      · rintro H11 ⟨s11, e11⟩
        refine ⟨Nat.zero_le _, ?_⟩
        intro z hz
        generalize gH12 : L2.upd _ z _ = H12
        obtain ⟨s12, e12⟩ := newS hz gH12
        clear gH12
        refine ⟨.list [], .list [], .lst (SqL.of (s12 _ _ e11)) .nil, .lst (SqL.of e12) .nil, by decide +kernel, by decide +kernel, ?_⟩
        refine ⟨_, rfl, iteF ?_⟩
        have sT := s11.trans s12
        have SE := SS Sl sT
        exact ⟨SE, fun b xs e => sT _ _ (kl _ _ (k6 _ _ e) (fun ps z => by cases z)), _, _, _, _, _, _, _, _, rfl⟩
    · refine ⟨q3, _, rfl, .inl (.inl (k6 _ _ (s8 _ _ e4))), rfl, _, _, rfl, _, _, rfl, _, _, rfl, _, _, rfl, rfl, ?_⟩
      refine ⟨ST S6, fun F1 Ha xa Ta fna LM1 => ?_⟩
      have Sa := SN S6 xa Ta
      refine ⟨(by show 1 ≤ sizeLine; decide), ?_⟩
      intro lw hlw
      generalize gHl1 : L2.upd _ lw _ = Hl1
      obtain ⟨sl1, el1⟩ := newS hlw gHl1
      clear gHl1
      have kx1 : LamX.ExtN Ha Hl1 := LamX.ExtN.of sl1
      have Tl1 := Ta.ext sl1
      replace LM1 := LM1.keep fun b φ z => sl1 _ _ z
      refine ⟨_, rfl, .inl ⟨rfl, _, SqL.of el1⟩, Tl1, fun F2 Hm2 xm2 Tm2 fnm2 LM2 => ?_⟩
      have em2 := xm2 _ _ el1 (fun ps z => by cases z)
      refine ⟨lw, _, _, rfl, rfl, em2, (by show 1 < sizeLine; decide), ?_⟩
      generalize gHl2 : L2.upd _ lw _ = Hl2
      obtain ⟨up2, er2⟩ := updS gHl2
      clear gHl2
      have el2 : Hl2 lw = some (.lst [.ref F1, .ref F2]) := er2
      have xx2 : ∀ b φ, Hl1 b = some (.ext φ) → Hl2 b = some (.ext φ) := fun b φ z => up2 _ _ (xm2 _ _ z (fun ps w => by cases w)) (fun w => by rw [w, el1] at z; cases z)
      have kx2 : LamX.ExtN Ha Hl2 := fun b u e n => up2 _ _ (xm2 _ _ (kx1 _ _ e n) n) (ne_of_none e hlw)
      have Tl2 := tabs_but em2 Tm2 up2
      replace LM1 := LM1.keep xx2
      replace LM2 := LM2.keep (fun b φ z => up2 _ _ z fun w => by rw [w, em2] at z; cases z)
      have Sl := SN Sa kx2 Tl2
      have kl : LamX.ExtN H6 Hl2 := LamX.ExtN.trans xa kx2
      clear sl1 xm2 Tm2 fnm2 em2 up2 er2 xx2
      refine ⟨_, rfl, lw, rfl, ⟨_, SqL.of el2⟩, fun D hD => ?_⟩
      refine lc_it (walk_list (xs := [V.ref F1, V.ref F2])) (fun i H' => Same Hl2 H' ∧ H' D = some (.lst [])) ⟨Same.new hD, upd_same⟩ (fun i H' _ p => SqL.of (p.1 _ _ el2)) ?_ ?_
      · rintro iF yF Hx H11 hiF ⟨s11, e11⟩ ⟨rfl, eyF⟩
        have i0n : iF = 0 ∨ iF = 1 := by have : iF < 2 := hiF; omega
        have S11 := SS Sl s11
        rcases i0n with rfl | rfl
        · cases eyF
          refine ⟨rfl, ?_⟩
          refine ⟨_, rfl, _, F1, rfl, LM1.keep (fun b φ z => s11 _ _ z), ?_⟩
          refine ⟨_, rfl, _, rfl, _, rfl, _, rfl, .ref bk, .str "a", .int 0, .str "", .address, rfl, rfl, sha, rfl, rfl, she, .inr ⟨by unfold letErr; rw [if_pos (by decide +kernel), if_pos (by decide +kernel)], by unfold letErr; rw [if_neg (by decide +kernel)]⟩, fun H12 cls s12 e12 => ⟨.address, True.intro, e12, fun p H13 s13 fp ep => ?_⟩⟩
          refine ⟨_, rfl, (by show 1 ≤ sizeLine; decide), ?_⟩
          intro z hz
          generalize gH14 : L2.upd _ z _ = H14
          obtain ⟨s14, e14⟩ := newS hz gH14
          clear gH14
          refine ⟨.tuple [.str "address"], .tuple [.str "address"], .tup (.inl (.inl (s14 _ _ ep))) (.cons (.str _) .nil), .tup (.inl (.inl e14)) (.cons (.str _) .nil), by decide +kernel, by decide +kernel, ?_⟩
          have sT := (s12.trans s13).trans s14
          exact ⟨_, rfl, iteF ⟨s11.trans sT, sT _ _ e11⟩⟩
        · cases eyF
          refine ⟨rfl, ?_⟩
          refine ⟨_, rfl, _, F2, rfl, LM2.keep (fun b φ z => s11 _ _ z), ?_⟩
          refine ⟨_, rfl, _, rfl, _, rfl, _, rfl, .ref bk, .str "a", .int 0, .str "", .address, rfl, rfl, sha, rfl, rfl, she, .inr ⟨by unfold letErr; rw [if_pos (by decide +kernel), if_pos (by decide +kernel)], by unfold letErr; rw [if_neg (by decide +kernel)]⟩, fun H12 cls s12 e12 => ⟨.address, True.intro, e12, fun p H13 s13 fp ep => ?_⟩⟩
          refine ⟨_, rfl, (by show 1 ≤ sizeLine; decide), ?_⟩
          intro z hz
          generalize gH14 : L2.upd _ z _ = H14
          obtain ⟨s14, e14⟩ := newS hz gH14
          clear gH14
          refine ⟨.tuple [.str "address"], .tuple [.str "address"], .tup (.inl (.inl (s14 _ _ ep))) (.cons (.str _) .nil), .tup (.inl (.inl e14)) (.cons (.str _) .nil), by decide +kernel, by decide +kernel, ?_⟩
          have sT := (s12.trans s13).trans s14
          exact ⟨_, rfl, iteF ⟨s11.trans sT, sT _ _ e11⟩⟩
      · rintro H11 ⟨s11, e11⟩
        refine ⟨Nat.zero_le _, ?_⟩
        intro z hz
        generalize gH12 : L2.upd _ z _ = H12
        obtain ⟨s12, e12⟩ := newS hz gH12
        clear gH12
        refine ⟨.list [], .list [], .lst (SqL.of (s12 _ _ e11)) .nil, .lst (SqL.of e12) .nil, by decide +kernel, by decide +kernel, ?_⟩
        refine ⟨_, rfl, iteF ?_⟩
        have sT := s11.trans s12
        have SE := SS Sl sT
        exact ⟨SE, fun b xs e => sT _ _ (kl _ _ (k6 _ _ e) (fun ps z => by cases z)), _, _, _, _, _, _, _, _, rfl⟩
end

end MF
set_option Elab.async false
set_option linter.all false
set_option maxRecDepth 100000
set_option maxHeartbeats 2000000
set_option pp.maxSteps 600
namespace MF
open PySem PySem.Spec PyProof.Rows L2 StX
section
variable {P : Program} {w : World} {K : PySem.W.Frag} {mg : Str → Option Value} {base : Heap} {C_Book C_Letter C_Walker C_MailError C_InvalidOrder C_UnknownOrder C_InvalidAddress C_InvalidDay C_InvalidNumber : Addr} {FL : Str}
def spBookOrders (C : Addr) : Sp := fun vs H Q _ => ∃ p dx t, vs = [.ref p] ∧ H p = some (.ins C dx [("listed", .ref t)]) ∧ Q (.ref t) H
theorem ok_book_orders (T : Top K mg C_Book C_Letter C_Walker C_MailError C_InvalidOrder C_UnknownOrder C_InvalidAddress C_InvalidDay C_InvalidNumber FL) : PFn P w K mg base CX0 1 C_Book "orders" (spBookOrders C_Book) := by
  refine T.d_Book_orders.fn fun f fd F => F.ok sc_Book_orders (fun vs H Q E h => ?_) (fun cdv A outer s H vs Q E hr h => ?_)
  · obtain ⟨p, dx, t, rfl, _⟩ := h
    rfl
  · obtain ⟨p, dx, t, rfl, e, k⟩ := h
    refine ⟨_, (pss_one (ps_ret (pe_fld (pv 0) rfl))), ?_⟩
    exact ⟨_, rfl, p, C_Book, dx, _, _, rfl, e, T.cl_Book, T.n_Book_listed, rfl, k⟩
end

end MF
set_option Elab.async false
set_option linter.all false
set_option maxRecDepth 100000
set_option maxHeartbeats 2000000
set_option pp.maxSteps 600
namespace MF
open PySem PySem.Spec PyProof.Rows L2 StX
section
variable {P : Program} {w : World} {K : PySem.W.Frag} {mg : Str → Option Value} {base : Heap} {C_Book C_Letter C_Walker C_MailError C_InvalidOrder C_UnknownOrder C_InvalidAddress C_InvalidDay C_InvalidNumber : Addr} {FL : Str}
theorem sl_tupK {X : Cx} {K : PySem.W.Frag} (h : X.K = K := by rfl) : SlR X (rSlT K) := h ▸ sl_tup
theorem op_catAK {X : Cx} {K : PySem.W.Frag} (h : X.K = K := by rfl) : OpR X (binaryOp .Add) (rCatA K) := h ▸ op_catA
def behL (os : List Ordr) (o : Ordr) (n : Nat) : List Int := ((os.take n).filter fun p => decide (p.src = o.src) && decide (o.last < p.first)).map (·.first)
theorem behL_succ {os : List Ordr} {o p : Ordr} {n : Nat} (e : os[n]? = some p) : behL os o (n + 1) = behL os o n ++ if p.src = o.src ∧ o.last < p.first then [p.first] else [] := by
  unfold behL
  rw [List.take_add_one, e, List.filter_append, List.map_append]
  congr 1
  by_cases c : p.src = o.src ∧ o.last < p.first
  · rw [if_pos c]; simp [c.1, c.2]
  · rw [if_neg c]
    simp only [Option.toList_some, List.filter_cons, List.filter_nil]
    rw [if_neg (by simpa using fun h1 h2 => c ⟨h1, h2⟩)]
    rfl
theorem behL_len {os : List Ordr} {o : Ordr} {n : Nat} : (behL os o n).length ≤ n := by
  unfold behL
  rw [List.length_map]
  exact Nat.le_trans (List.length_filter_le _ _) (by rw [List.length_take]; omega)
theorem behL_mem {os : List Ordr} {o : Ordr} {z : Int} : z ∈ behL os o os.length ↔ ∃ p ∈ os, p.src = o.src ∧ o.last < p.first ∧ p.first = z := by
  unfold behL
  rw [List.take_length, List.mem_map]
  constructor
  · rintro ⟨p, hp, e⟩
    obtain ⟨h1, h2⟩ := List.mem_filter.mp hp
    simp only [Bool.and_eq_true, decide_eq_true_eq] at h2
    exact ⟨p, h1, h2.1, h2.2, e⟩
  · rintro ⟨p, hp, h1, h2, e⟩
    exact ⟨p, List.mem_filter.mpr ⟨hp, by simp [h1, h2]⟩, e⟩
theorem over_symm (o p : Ordr) : overB o p = overB p o := by
  unfold overB
  rw [show decide (o.src = p.src) = decide (p.src = o.src) from by rw [Bool.eq_iff_iff]; simp [eq_comm], Bool.and_comm (decide (o.first ≤ p.last))]
theorem pro_good {os : List Ordr} (g : Good os) {k : Nat} {o : Ordr} (e : os[k]? = some o) {d : Int} (h1 : o.last ≤ d) (h2 : d ≤ 1000000000000000000) (h3 : ∀ p ∈ os, p.src = o.src → o.last < p.first → d < p.first) : Good (proO os k d) := by
  have ep : proO os k d = os.set k { o with last := d } := by unfold proO; rw [e]
  obtain ⟨hk, ek⟩ := List.getElem?_eq_some_iff.mp e
  have oo := g.ok o (List.mem_of_getElem? e)
  have ok' : Ordr.Ok { o with last := d } := ⟨oo.as, oo.at_, oo.ne, oo.f0, Int.le_trans oo.fl h1, h2, oo.w1, oo.w30⟩
  have no : ∀ (j : Nat) p, j ≠ k → os[j]? = some p → overB { o with last := d } p = false := fun j p hj ej => by
    have mp : p ∈ os := List.mem_of_getElem? ej
    have op := g.ok p mp
    obtain ⟨hj', ej'⟩ := List.getElem?_eq_some_iff.mp ej
    have ov : overB o p = false := by
      rcases Nat.lt_or_gt_of_ne hj with z | z
      · rw [over_symm, ← ek, ← ej']
        exact List.pairwise_iff_getElem.mp g.apart j k hj' hk z
      · rw [← ek, ← ej']
        exact List.pairwise_iff_getElem.mp g.apart k j hk hj' z
    cases q : overB { o with last := d } p with
    | false => rfl
    | true =>
      exfalso
      unfold overB at q ov
      simp only [Bool.and_eq_true, decide_eq_true_eq] at q
      obtain ⟨q1, q2, q3⟩ := q
      have c : ¬ p.first ≤ o.last := fun c => by
        rw [decide_eq_true q1, decide_eq_true q2, decide_eq_true c] at ov
        cases ov
      have := h3 p mp q1.symm (by omega)
      omega
  rw [ep]
  refine ⟨by rw [List.length_set]; exact g.len, fun p hp => ?_, List.pairwise_iff_getElem.mpr fun i j hi hj hij => ?_⟩
  · rcases List.mem_or_eq_of_mem_set hp with hp | hp
    · exact g.ok p hp
    · rw [hp]; exact ok'
  · rw [List.length_set] at hi hj
    rw [List.getElem_set, List.getElem_set]
    by_cases c1 : k = i
    · rw [if_pos c1, if_neg (by omega)]
      exact no j _ (by omega) (by simp [hj])
    · rw [if_neg c1]
      by_cases c2 : k = j
      · rw [if_pos c2, over_symm]
        exact no i _ (by omega) (by simp [hi])
      · rw [if_neg c2]
        exact List.pairwise_iff_getElem.mp g.apart i j hi hj hij
theorem pro_bad {os : List Ordr} (g : Good os) {k : Nat} {o : Ordr} (e : os[k]? = some o) {p : Ordr} (hp : p ∈ os) (hs : p.src = o.src) (hl : o.last < p.first) : ∃ n, BadOs (proO os k p.first) n := by
  have ep : proO os k p.first = os.set k { o with last := p.first } := by unfold proO; rw [e]
  obtain ⟨hk, ek⟩ := List.getElem?_eq_some_iff.mp e
  have oo := g.ok o (List.mem_of_getElem? e)
  have op := g.ok p hp
  have fl := op.fl
  have pm := op.lm
  have of := oo.fl
  have ok' : Ordr.Ok { o with last := p.first } := ⟨oo.as, oo.at_, oo.ne, oo.f0, (by show o.first ≤ p.first; omega), (by show p.first ≤ _; omega), oo.w1, oo.w30⟩
  refine badOs_ex (fun q hq => ?_) (by rw [ep, List.length_set]; exact g.len) fun ap => ?_
  · rw [ep] at hq
    rcases List.mem_or_eq_of_mem_set hq with hq | hq
    · exact g.ok q hq
    · rw [hq]; exact ok'
  · obtain ⟨j, hj, ej⟩ := List.mem_iff_getElem.mp hp
    have jk : j ≠ k := fun z => by
      subst z
      rw [ek] at ej
      rw [ej] at hl
      omega
    have ov : overB { o with last := p.first } p = true := by
      unfold overB
      simp only [Bool.and_eq_true, decide_eq_true_eq]
      exact ⟨hs.symm, by show o.first ≤ p.last; omega, Int.le_refl _⟩
    rw [ep] at ap
    have ap := List.pairwise_iff_getElem.mp ap
    rcases Nat.lt_or_gt_of_ne jk with z | z
    · have := ap j k (by rw [List.length_set]; exact hj) (by rw [List.length_set]; exact hk) z
      rw [List.getElem_set, List.getElem_set, if_neg (by omega), if_pos rfl, ej, over_symm, ov] at this
      cases this
    · have := ap k j (by rw [List.length_set]; exact hk) (by rw [List.length_set]; exact hj) z
      rw [List.getElem_set, List.getElem_set, if_pos rfl, if_neg (by omega), ej, ov] at this
      cases this
theorem ok_law (T : Top K mg C_Book C_Letter C_Walker C_MailError C_InvalidOrder C_UnknownOrder C_InvalidAddress C_InvalidDay C_InvalidNumber FL) (U : UseP P FL) (sf : PySem.W.selfFirst K C_Book = true) {f : Addr} {fd : FuncData} {cL PL : Addr} (F : FunC K "law" "law" s_law f fd cL) (TBL : LamX.TabB base mg cL PL) {c2 P2 : Addr} (D2 : GDefC K mg "_law_are_rejected" s__law_are_rejected ["_law_book_here", "_law_orders_here"] c2) (TBL2 : LamX.TabB base mg c2 P2) (hne : P2 ≠ PL) : FnOk P w K mg base CX0 10 f fd ["_law_script"] (spLawT K [P2, PL]) := by
  have G__law_taken : GFn P w K mg base CX0 1 "_law_taken" (spTaken K) := ok_taken T
  have G__law_book : GFn P w K mg base CX0 7 "_law_book" (spLawBook K C_Book) := ok_law_book T sf
  have G__law_orders : GFn P w K mg base CX0 2 "_law_orders" (spOrders K) := ok_orders T
  have G__law_walk : GFn P w K mg base CX0 3 "_law_walk" (spWalkL K) := ok_walkL T
  have G__law_alike : GFn P w K mg base CX0 3 "_law_alike" (spAlike K 2) := ok_alike T 2
  have G__law_are_rejected := ok_rejected (P := P) (w := w) T D2 TBL2
  have G_orders_to_prolong : GFn P w K mg base CX0 7 "orders_to_prolong" (spOrdersTo K C_Book) := ok_orders_to T U
  have G_day_if_prolonged : GFn P w K mg base CX0 7 "day_if_prolonged" (spDayIf K C_Book) := ok_day_if T U
  have G_prolonged : GFn P w K mg base CX0 6 "prolonged" (spProlonged K C_Book) := ok_prolonged T
  have X_prolonged : GFn P w K mg base (L2.CX P w) 6 "prolonged" (spProlongedX K C_Book ⟨C_InvalidOrder, C_UnknownOrder, C_InvalidAddress, C_InvalidDay, C_InvalidNumber⟩) := okX_prolonged T
  have PR_Book_orders : PFn P w K mg base CX0 1 C_Book "orders" (spBookOrders C_Book) := ok_book_orders T
  refine F.ok sc_law (fun vs H Q E h => ?_) (fun A outer s H vs Q E hr h => ?_)
  · obtain ⟨a, ns, rfl, _⟩ := h
    rfl
  · obtain ⟨a, ns, rfl, hS, hlen, hP, k⟩ := h
    let TT : List (Addr × Str) := [(P2, rejQ), (PL, lawQ)]
    have HTM : (PL, lawQ) ∈ TT := List.mem_cons_of_mem _ List.mem_cons_self
    have HTU : ∀ p ∈ TT, p.1 = PL → p.2 = lawQ := fun p hp h => by
      rcases List.mem_cons.mp hp with rfl | hp
      · exact absurd h hne
      · rw [List.mem_singleton.mp hp]
    refine ⟨_, (pss_cons (ps_set (i := 1) sc_law.nd rfl (Or.inl rfl) (pe_lst (pa_cons (pv 0) (pa_cons pe_int (pa_cons pe_int (pa_cons pe_int pa_nil))))))
  (C8.pss_cut (ps_set (i := 2) sc_law.nd rfl (Or.inr rfl) (pe_g G__law_orders (hr.mono (by decide)) (pa_cons (pv 1) (pa_cons pe_int (pa_cons pe_int pa_nil)))))
  (C8.pss_cut (ps_asg (pe_tup (pa_cons (pe_g G__law_book (hr.mono (by decide)) (pa_cons (pv 2) pa_nil)) (pa_cons (pe_listRg rfl (by rfl) T.b_list (prg_1 (by rfl) T.b_range (pe_callB call_len_seq (by rfl) T.b_len (by decide +kernel) (pa_cons (pv 2) pa_nil)))) pa_nil))) (pg_tup rfl (pgs_cons (pg_name (i := 12) sc_law.nd rfl (Or.inr rfl)) (pgs_cons (pg_name (i := 3) sc_law.nd rfl (Or.inl rfl)) pgs_nil))))
  (C8.pss_cut (ps_for PassesOwn.never rfl (pi_range1 (by rfl) T.b_range (pa_cons pe_int pa_nil)) (pg_name (i := 4) sc_law.nd rfl (Or.inl rfl))
  (C8.pss_cut (ps_par3 (i := 5) (j := 6) (l := 7) (by rfl) sc_law.nd rfl rfl rfl (by decide) (by decide) (by decide) rfl rfl rfl (pa_cons (pe_ix ix_str pe_str (pe_g G__law_taken (hr.mono (by decide)) (pa_cons (pv 1) (pa_cons pe_int pa_nil))) (fun _ _ => rfl)) (pa_cons (pe_ix ix_str pe_str (pe_g G__law_taken (hr.mono (by decide)) (pa_cons (pv 1) (pa_cons pe_int pa_nil))) (fun _ _ => rfl)) (pa_cons (pe_g G__law_taken (hr.mono (by decide)) (pa_cons (pv 1) (pa_cons pe_int pa_nil))) pa_nil))) (by rfl))
  (C8.pss_cut (ps_set (i := 8) sc_law.nd rfl (Or.inl rfl) (pe_g G__law_walk (hr.mono (by decide)) (pa_cons (pv 2) (pa_cons (pv 5) (pa_cons (pv 7) (pa_cons (pv 6) (pa_cons (pv 3) pa_nil)))))))
  (C8.pss_cut (ps_set (i := 9) sc_law.nd rfl (Or.inl rfl) (pe_lst (pa_cons (pe_g G_orders_to_prolong (hr.mono (by decide)) (pa_cons (pv 12) (pa_cons (pv 5) (pa_cons (pv 7) (pa_cons (pv 6) pa_nil))))) (pa_cons (pe_g G_day_if_prolonged (hr.mono (by decide)) (pa_cons (pv 12) (pa_cons (pv 5) (pa_cons (pv 7) (pa_cons (pv 6) pa_nil))))) pa_nil))))
  (C8.pss_cut (ps_if (pt_not (pt_val (pe_g G__law_alike (hr.mono (by decide)) (pa_cons (pv 9) (pa_cons (pe_ifExp (pt_cmpR op_isN (pv 8) pe_non (nomark _)) (pe_lst (pa_cons pe_non (pa_cons pe_non pa_nil))) (pe_lst (pa_cons (pe_ix ix_tup (pv 8) pe_int (fun _ _ => rfl)) (pa_cons (pe_ix ix_tup (pv 8) pe_int (fun _ _ => rfl)) pa_nil)))) pa_nil)))))
  (pss_one (ps_ret pe_bl))
  pss_nil)
  (pss_one (ps_for PassesOwn.never rfl (pi_list (pe_ifExp (pt_cmpR op_notN (pv 8) pe_non (nomark _)) (pe_ix ix_tup (pv 8) pe_int (fun _ _ => rfl)) (pe_lst pa_nil))) (pg_name (i := 14) sc_law.nd rfl (Or.inr rfl))
  (pss_one (ps_if (pt_cmpR op_notN (pe_g G__law_walk (hr.mono (by decide)) (pa_cons (pv 2) (pa_cons (pv 5) (pa_cons (pv 7) (pa_cons (pv 6) (pa_cons (pe_lc (own := [("_law_j", 15)]) (g := (gName 15)) (by rfl) sc_law.nd (pi_list (pv 3)) (blkOk_by (own := [("_law_j", 15)]) (N := ["_law_script", "_law_row", "_law_orders_here", "_law_everything", "_law_turn", "_law_name", "_law_goal", "_law_day", "_law_due", "_law_told", "_law_behind", "_law_longer", "_law_book_here", "_law_free", "_law_k", "_law_j", "_law_order"]) (sc := defScope s_law) (by decide +kernel)) (fun _ _ _ _ _ => (pg_name (i := 15) sc_law.nd rfl (Or.inl rfl))) (fun _ _ _ _ _ => (pts_one (pt_cmpR op_ne (pv 15) (pv 14) (nomark _)))) (fun _ _ _ _ _ => (pv 15))) pa_nil)))))) pe_non (nomark _))
  (pss_one (ps_ret pe_bl))
  pss_nil)))))))))
  (C8.pss_cut (ps_for PassesOwn.never rfl (pi_list (pv 3)) (pg_name (i := 14) sc_law.nd rfl (Or.inr rfl))
  (C8.pss_cut (ps_setLc (i := 10) (own := [("_law_order", 16)]) (g := (gName 16)) (by rfl) sc_law.nd rfl rfl (sw_true rfl rfl rfl (by decide +kernel)) (pi_list (pv 2)) (blkOk_by (own := [("_law_order", 16)]) (N := ["_law_script", "_law_row", "_law_orders_here", "_law_everything", "_law_turn", "_law_name", "_law_goal", "_law_day", "_law_due", "_law_told", "_law_behind", "_law_longer", "_law_book_here", "_law_free", "_law_k", "_law_j", "_law_order"]) (sc := defScope s_law) (by decide +kernel)) (fun _ _ _ _ _ => (pg_name (i := 16) sc_law.nd rfl (Or.inl rfl))) (fun _ _ _ _ _ => (pts_one (PW.pt (pw_and (pt_cmpR op_eq (pe_ix (ix_tupK (K := K)) (pv 16) pe_int (fun _ _ => rfl)) (pe_ix (ix_tupK (K := K)) (pe_ix (ix_listK (K := K)) (pv 2) (pv 14) (fun _ _ => rfl)) pe_int (fun _ _ => rfl)) (nomark _)) (pw_and1 (pt_cmpR op_gt (pe_ix (ix_tupK (K := K)) (pv 16) pe_int (fun _ _ => rfl)) (pe_ix (ix_tupK (K := K)) (pe_ix (ix_listK (K := K)) (pv 2) (pv 14) (fun _ _ => rfl)) pe_int (fun _ _ => rfl)) (nomark _))))))) (fun _ _ _ _ _ => (pe_ix (ix_tupK (K := K)) (pv 16) pe_int (fun _ _ => rfl))))
  (C8.pss_cut (ps_set (i := 13) sc_law.nd rfl (Or.inr rfl) (pe_ifExp (pt_cmpR (op_neD hr.units) (pv 10) (pe_lst pa_nil) (nomark _)) (pe_op op_sub (pe_callB (cr_min rfl) (by rfl) T.b_min (by decide +kernel) (pa_cons (pv 10) pa_nil)) pe_int) (pe_op op_add (pe_ix ix_tup (pe_ix ix_list (pv 2) (pv 14) (fun _ _ => rfl)) pe_int (fun _ _ => rfl)) (pe_g G__law_taken (hr.mono (by decide)) (pa_cons (pv 1) (pa_cons pe_int pa_nil))))))
  (C8.pss_cut (ps_setLc (i := 11) (own := [("_law_j", 15)]) (g := (gName 15)) (by rfl) sc_law.nd rfl rfl (sw_true rfl rfl rfl (by decide +kernel)) (pi_list (pv 3)) (blkOk_by (own := [("_law_j", 15)]) (N := ["_law_script", "_law_row", "_law_orders_here", "_law_everything", "_law_turn", "_law_name", "_law_goal", "_law_day", "_law_due", "_law_told", "_law_behind", "_law_longer", "_law_book_here", "_law_free", "_law_k", "_law_j", "_law_order"]) (sc := defScope s_law) (by decide +kernel)) (fun _ _ _ _ _ => (pg_name (i := 15) sc_law.nd rfl (Or.inl rfl))) (fun _ _ _ _ _ => pts_nil) (fun _ _ _ _ _ => (pe_ifExp (pt_cmpR op_ne (pv 15) (pv 14) (nomark _)) (pe_ix (ix_listK (K := K)) (pv 2) (pv 15) (fun _ _ => rfl)) (pe_op (op_catAK (K := K)) (pe_slice (sl_tupK (K := K)) (pe_ix (ix_listK (K := K)) (pv 2) (pv 15) (fun _ _ => rfl)) po_none (po_some pe_int)) (pe_tup (pa_cons (pv 13) (pa_cons (pe_ix (ix_tupK (K := K)) (pe_ix (ix_listK (K := K)) (pv 2) (pv 15) (fun _ _ => rfl)) pe_int (fun _ _ => rfl)) pa_nil)))))))
  (C8.pss_cut (ps_if (pt_cmpR (op_neD hr.units) (pe_pr PR_Book_orders T.cl_Book (hr.mono (by decide)) (pe_g G_prolonged (hr.mono (by decide)) (pa_cons (pv 12) (pa_cons (pv 14) (pa_cons (pv 13) pa_nil))))) (pe_callTy call_tuple_of (by rfl) T.b_tuple (by decide +kernel) (pa_cons (pv 11) pa_nil)) (nomark _))
  (pss_one (ps_ret pe_bl))
  pss_nil)
  (pss_one (ps_if (PW.pt (pw_and (pt_cmpR (op_neD hr.units) (pv 10) (pe_lst pa_nil) (nomark _)) (pw_and1 (pt_cmpR op_isN (pe_lamC (k := 6) (ok_raised rfl rfl T) (hr.mono (by decide)) (by exact (pa_cons (pe_lamX (X := (cxOf CX0 P w K mg base ["_law_script", "_law_row", "_law_orders_here", "_law_everything", "_law_turn", "_law_name", "_law_goal", "_law_day", "_law_due", "_law_told", "_law_behind", "_law_longer", "_law_book_here", "_law_free", "_law_k", "_law_j", "_law_order"] "law" (defScope s_law) f (.ref cL) A outer s H E).nox) (k := 6) TBL HTM HTU (by kernel_rfl) rfl rfl (LamX.lamS_by (sc := defScope s_law) (by decide +kernel)) (fun _ _ _ _ _ => rfl) (fun A outer s H E f c' hrL => (pe_gX X_prolonged (hrL.mono (by decide)) passM (pa_cons (pv 12) (pa_cons (pv 14) (pa_cons (pe_op op_add (pv 13) pe_int) pa_nil)))))) pa_nil))) pe_non (nomark _)))))
  (pss_one (ps_ret pe_bl))
  pss_nil)))))))
  (pss_one (ps_ret (pe_g G__law_are_rejected (hr.mono (by decide)) (pa_cons (pv 12) (pa_cons (pv 2) pa_nil)))))))))), ?_⟩
    refine ⟨_, rfl, (by show 4 ≤ sizeLine; decide), fun rw hrw => ?_⟩
    have R0 := row_new hS hrw
    have s0 : Same H (upd H rw (.lst [.ref a, .int 0, .int 0, .int 0])) := Same.new hrw
    have T0 : LamX.Tabs TT (upd H rw (.lst [.ref a, .int 0, .int 0, .int 0])) := fun p hp => by
      rcases List.mem_cons.mp hp with rfl | hp
      · exact LamX.TabS.nil (s0 _ _ (hP P2 List.mem_cons_self))
      · rw [List.mem_singleton.mp hp]
        exact LamX.TabS.nil (s0 _ _ (hP PL (List.mem_cons_of_mem _ List.mem_cons_self)))
    generalize upd H rw _ = H1 at R0 s0 T0
    let tl (v2 v3 v4 v5 v6 v7 v8 v9 v10 v11 v12 v13 v14 v15 v16 : Option V) : L2.St := [some (.ref a), some (.ref rw), v2, v3, v4, v5, v6, v7, v8, v9, v10, v11, v12, v13, v14, v15, v16]
    refine ⟨fun σ' H' => RowAt K H' rw a ns ∧ LamX.Tabs TT H' ∧ ∃ l as os, H' l = some (.lst (as.map V.ref)) ∧ OrdsAt K H' as os ∧ DrawnOs 7 20 os ∧ l ≠ rw ∧ ∃ v3 v4 v5 v6 v7 v8 v9 v10 v11 v12 v13 v14 v15 v16, σ' = tl (some (.ref l)) v3 v4 v5 v6 v7 v8 v9 v10 v11 v12 v13 v14 v15 v16, ?_, ?_⟩
    · refine ⟨_, rfl, rw, a, ns, 7, 20, rfl, R0, by decide, by decide, by decide, fun H2 l1 as1 os1 k2 f1 R2 e1 o1 D1 => ?_⟩
      exact ⟨R2, tabs_keepR R0 T0 k2, l1, as1, os1, e1, o1, D1, row_nil R0 f1, _, _, _, _, _, _, _, _, _, _, _, _, _, _, rfl⟩
    clear R0 T0
    rintro σ H1 ⟨R1, T1, l, as, os, hl, ol, D, nl, w3, w4, w5, w6, w7, w8, w9, w10, w11, w12, w13, w14, w15, w16, rfl⟩
    have g := D.good
    have lo := PySem.Paired.length ol
    have d7 := D.len
    have ln : (as.map V.ref).length = os.length := by rw [List.length_map, lo]
    let S (H' : Hp) (bk ev : Addr) : Prop := RowAt K H' rw a ns ∧ LamX.Tabs TT H' ∧ BookAt K C_Book H' bk os ∧ bk ≠ rw ∧ H' l = some (.lst (as.map V.ref)) ∧ OrdsAt K H' as os ∧ H' ev = some (.lst (natsV (List.range os.length))) ∧ ev ≠ rw
    have SS : ∀ {bk ev : Addr} {H' H'' : Hp}, S H' bk ev → Same H' H'' → S H'' bk ev := fun ⟨z1, z2, z3, z4, z5, z6, z7, z8⟩ s => ⟨z1.keep s, z2.ext s, z3.mono s, z4, s _ _ z5, z6.mono s, s _ _ z7, z8⟩
    have SR : ∀ {bk ev : Addr} {H' H'' : Hp}, S H' bk ev → RowAt K H'' rw a ns → KeepR rw H' H'' → S H'' bk ev := fun ⟨z1, z2, z3, z4, z5, z6, z7, z8⟩ r k => ⟨r, tabs_keepR z1 z2 k, z3.keepR z4 z1 k, z4, k _ _ z5 nl, z6.keepR (KeepR.tup k z1), k _ _ z7 z8, z8⟩
    have SN : ∀ {bk ev : Addr} {H' H'' : Hp}, S H' bk ev → LamX.ExtN H' H'' → LamX.Tabs TT H'' → S H'' bk ev := fun ⟨z1, z2, z3, z4, z5, z6, z7, z8⟩ e t => ⟨row_extN z1 e, t, book_extN z3 e, z4, e _ _ z5 (fun ps z => by cases z), ords_extN z6 e, e _ _ z7 (fun ps z => by cases z), z8⟩
    refine ⟨fun σ' H' => ∃ bk ev, S H' bk ev ∧ ∃ v4 v5 v6 v7 v8 v9 v10 v11 v13 v14 v15 v16, σ' = tl (some (.ref l)) (some (.ref ev)) v4 v5 v6 v7 v8 v9 v10 v11 (some (.ref bk)) v13 v14 v15 v16, ?_, ?_⟩
    · refine ⟨_, rfl, l, as, os, rfl, SqL.of hl, ol, g, fun H2 bk s2 f2 B2 => ?_⟩
      refine ⟨_, rfl, l, _, rfl, .inl (SqL.of (s2 _ _ hl)), _, rfl, RgOk.of_le (by decide) (by rw [ln]; omega) (by decide) (by omega), ?_⟩
      intro ev hev
      generalize gH3 : L2.upd _ ev _ = H3
      obtain ⟨s3, e3⟩ := newS hev gH3
      clear gH3
      have ee : rgV 0 ((as.map V.ref).length : Nat) = natsV (List.range os.length) := by
        rw [ln]
        unfold rgV natsV
        rw [show ((os.length : Nat) : Int) - 0 = (os.length : Nat) by omega, Int.toNat_natCast]
        exact List.map_congr_left fun i _ => by rw [Int.zero_add]
      rw [ee] at e3
      refine ⟨(by show 2 ≤ sizeLine; decide), ?_⟩
      intro t ht
      generalize gH4 : L2.upd _ t _ = H4
      obtain ⟨s4, e4⟩ := newS ht gH4
      clear gH4
      have s24 := s3.trans s4
      refine ⟨t, _, rfl, .inl (.inl e4), rfl, _, _, rfl, _, _, rfl, rfl, ?_⟩
      exact ⟨bk, ev, ⟨R1.keep (s2.trans s24), T1.ext (s2.trans s24), B2.mono s24, row_nil R1 f2, s24 _ _ (s2 _ _ hl), (ol.mono s2).mono s24, s4 _ _ e3, row_nil (R1.keep s2) hev⟩, _, _, _, _, _, _, _, _, _, _, _, _, rfl⟩
    clear hl ol R1 T1
    rintro σ H1 ⟨bk, ev, S1, w4, w5, w6, w7, w8, w9, w10, w11, w13, w14, w15, w16, rfl⟩
    refine ⟨fun σ' H' => S H' bk ev ∧ ∃ v4 v5 v6 v7 v8 v9 v10 v11 v13 v14 v15 v16, σ' = tl (some (.ref l)) (some (.ref ev)) v4 v5 v6 v7 v8 v9 v10 v11 (some (.ref bk)) v13 v14 v15 v16, ?_, ?_⟩
    · refine ⟨5, rfl, (by decide), (by decide), for_it walk_range (fun i σ H' => S H' bk ev ∧ ∃ v4 v5 v6 v7 v8 v9 v10 v11 v13 v14 v15 v16, σ = tl (some (.ref l)) (some (.ref ev)) v4 v5 v6 v7 v8 v9 v10 v11 (some (.ref bk)) v13 v14 v15 v16) ⟨S1, _, _, _, _, _, _, _, _, _, _, _, _, rfl⟩ (fun _ _ _ _ _ => trivial) ?_ (fun σ' H' z => z)⟩
      clear S1
      rintro i y σ H1 H1' hi' ⟨S1, w4, w5, w6, w7, w8, w9, w10, w11, w13, w14, w15, w16, rfl⟩ ⟨rfl, rfl⟩
      refine ⟨fun σ' H' => S H' bk ev ∧ ∃ j1 j2, ∃ d : Int, j1 < 6 ∧ j2 < 6 ∧ 0 ≤ d ∧ d < 60 ∧ ∃ v4 v8 v9 v10 v11 v13 v14 v15 v16, σ' = tl (some (.ref l)) (some (.ref ev)) v4 (some (.str (nmS j1))) (some (.str (nmS j2))) (some (.int d)) v8 v9 v10 v11 (some (.ref bk)) v13 v14 v15 v16, ?_, ?_⟩
      · refine ⟨_, rfl, rw, a, ns, 6, rfl, S1.1, by decide, by decide, fun v H4 v0 v1 R4 k4 => ?_⟩
        refine ⟨_, _, _, rfl, rfl, abc_len, abc_ix v0 v1, ?_⟩
        have S4 := SR S1 R4 k4
        refine ⟨_, rfl, rw, a, ns, 6, rfl, S4.1, by decide, by decide, fun v2 H5 v20 v21 R5 k5 => ?_⟩
        refine ⟨_, _, _, rfl, rfl, abc_len, abc_ix v20 v21, ?_⟩
        have S5 := SR S4 R5 k5
        refine ⟨_, rfl, rw, a, ns, 60, rfl, S5.1, by decide, by decide, fun d H6 d0 d1 R6 k6 => ?_⟩
        exact ⟨_, _, _, rfl, SR S5 R6 k6, v.toNat, v2.toNat, d, by omega, by omega, d0, d1, _, _, _, _, _, _, _, _, _, rfl⟩
      clear S1
      rintro σ H1 ⟨S1, j1, j2, d, hj1, hj2, d0, d1, w4, w8, w9, w10, w11, w13, w14, w15, w16, rfl⟩
      have a1 := nmS_addr hj1
      have a2 := nmS_addr hj2
      have few : ∀ N t us, EndsN os (nmS j2) (nmS j1, d) [] N t us → N < 400 := fun N t us e => by
        have := walk_few (M := 238) g (fun o ho => by have := D.tight o ho; omega) (s := (nmS j1, d)) d0 e
        omega
      refine ⟨fun σ' H' => Same H1 H' ∧ ∃ v r, WAt H' v r ∧ WL os (fun j => j < os.length) (nmS j2) (nmS j1, d) r ∧ ∃ v4 v9 v10 v11 v13 v14 v15 v16, σ' = tl (some (.ref l)) (some (.ref ev)) v4 (some (.str (nmS j1))) (some (.str (nmS j2))) (some (.int d)) (some (v)) v9 v10 v11 (some (.ref bk)) v13 v14 v15 v16, ?_, ?_⟩
      · refine ⟨_, rfl, _, rfl, _, rfl, _, rfl, _, rfl, l, as, os, nmS j1, d, nmS j2, ev, List.range os.length, rfl, SqL.of S1.2.2.2.2.1, S1.2.2.2.2.2.1, g, S1.2.2.2.2.2.2.1, fun H2 v r s2 w2 wl => ?_⟩
        rw [show (fun j => j ∈ List.range os.length) = fun j => j < os.length from funext fun j => propext List.mem_range] at wl
        exact ⟨s2, v, r, w2, wl, _, _, _, _, _, _, _, _, rfl⟩
      rintro σ H2 ⟨s2, dv, r, wv, wl, w4, w9, w10, w11, w13, w14, w15, w16, rfl⟩
      have S2 := SS S1 s2
      have us1000 : ∀ {us : List Nat} {d' : Int}, WTo os (nmS j2) (nmS j1, d) (some (us, d')) → us.length ≤ 1000 := fun {us d'} h => by
        obtain ⟨N, e⟩ := h
        obtain ⟨h1, h2⟩ := e.1.nodup ⟨List.nodup_nil, fun _ z => by cases z⟩
        have := lenSubG (m := List.range os.length) h1 fun a ha => List.mem_range.mpr (h2 a ha)
        rw [List.length_range] at this
        omega
      refine ⟨fun σ' H' => Same H2 H' ∧ WTo os (nmS j2) (nmS j1, d) r ∧ ∃ lt v1 v2, H' lt = some (.lst [v1, v2]) ∧ ((r = none ∧ v1 = .non ∧ v2 = .non) ∨ ∃ us d' l1, r = some (us, d') ∧ v1 = .ref l1 ∧ v2 = .int d' ∧ H' l1 = some (.lst (natsV us))) ∧ ∃ v4 v10 v11 v13 v14 v15 v16, σ' = tl (some (.ref l)) (some (.ref ev)) v4 (some (.str (nmS j1))) (some (.str (nmS j2))) (some (.int d)) (some (dv)) (some (.ref lt)) v10 v11 (some (.ref bk)) v13 v14 v15 v16, ?_, ?_⟩
      · refine ⟨_, rfl, _, rfl, _, rfl, _, rfl, bk, os, nmS j1, d, nmS j2, rfl, S2.2.2.1, g, a1, a2, d0, by omega, fun H3 l1 us d' s3 w3 f3 e3 => ?_, fun H3 s3 w3 => ?_⟩
        · have er := wl_all few w3 wl
          refine ⟨_, rfl, _, rfl, _, rfl, _, rfl, bk, os, nmS j1, d, nmS j2, rfl, S2.2.2.1.mono s3, g, a1, a2, d0, by omega, fun H4 us2 d2 s4 w4 => ?_, fun H4 s4 w4 => ?_⟩
          · have er2 := wl_all few w4 wl
            rw [← er] at er2
            cases er2
            refine ⟨(by show 2 ≤ sizeLine; decide), ?_⟩
            intro lt hlt
            generalize gH5 : L2.upd _ lt _ = H5
            obtain ⟨s5, e5⟩ := newS hlt gH5
            clear gH5
            exact ⟨(s3.trans s4).trans s5, by rw [← er]; exact w3, lt, _, _, e5, .inr ⟨us, d', l1, er.symm, rfl, rfl, s5 _ _ (s4 _ _ e3)⟩, _, _, _, _, _, _, _, rfl⟩
          · have er2 := wl_all few w4 wl
            rw [← er] at er2
            cases er2
        · have er := wl_all few w3 wl
          refine ⟨_, rfl, _, rfl, _, rfl, _, rfl, bk, os, nmS j1, d, nmS j2, rfl, S2.2.2.1.mono s3, g, a1, a2, d0, by omega, fun H4 us2 d2 s4 w4 => ?_, fun H4 s4 w4 => ?_⟩
          · have er2 := wl_all few w4 wl
            rw [← er] at er2
            cases er2
          · refine ⟨(by show 2 ≤ sizeLine; decide), ?_⟩
            intro lt hlt
            generalize gH5 : L2.upd _ lt _ = H5
            obtain ⟨s5, e5⟩ := newS hlt gH5
            clear gH5
            exact ⟨(s3.trans s4).trans s5, by rw [← er]; exact w3, lt, _, _, e5, .inl ⟨er.symm, rfl, rfl⟩, _, _, _, _, _, _, _, rfl⟩
      rintro σ H3 ⟨s3, wto, lt, v1, v2, elt, hv, w4, w10, w11, w13, w14, w15, w16, rfl⟩
      have S3 := SS S2 s3
      refine ⟨fun σ' H' => Same H3 H' ∧ ∃ v4 v9 v10 v11 v13 v14 v15 v16, σ' = tl (some (.ref l)) (some (.ref ev)) v4 (some (.str (nmS j1))) (some (.str (nmS j2))) (some (.int d)) (some (dv)) v9 v10 v11 (some (.ref bk)) v13 v14 v15 v16, ?_, ?_⟩
      · rcases hv with ⟨rfl, rfl, rfl⟩ | ⟨us, d', l1, rfl, rfl, rfl, el1⟩
        · have wv' : dv = .non := wv
          subst wv'
          refine ⟨_, rfl, _, rfl, rfl, _, rfl, iteD rfl ?_⟩
          refine ⟨(by show 2 ≤ sizeLine; decide), ?_⟩
          intro z hz
          generalize gH4 : L2.upd _ z _ = H4
          obtain ⟨s4, e4⟩ := newS hz gH4
          clear gH4
          have dk : DK 2 (.list [.none, .none]) := .list (.cons (.non 1) (.cons (.non 1) .nil)) (by show 2 ≤ _; decide)
          refine ⟨.ref lt, .ref z, _, rfl, .lst (SqL.of (s4 _ _ elt)) (.cons .non (.cons .non .nil)), .lst (SqL.of e4) (.cons .non (.cons .non .nil)), dk.lay, dk.dep, dk.sm, fun H5 s5 => ?_⟩
          exact ⟨_, rfl, iteF ⟨s4.trans s5, _, _, _, _, _, _, _, _, rfl⟩⟩
        · obtain ⟨t, l2, rfl, et, el2⟩ := wv
          have l1000 := us1000 wto
          have et3 := s3 _ _ et
          refine ⟨_, rfl, _, rfl, rfl, _, rfl, iteDN (by intro z; cases z) ?_⟩
          refine ⟨_, rfl, t, _, _, _, rfl, rfl, .inl (.inl et3), rfl, _, rfl, t, _, _, _, rfl, rfl, .inl (.inl et3), rfl, (by show 2 ≤ sizeLine; decide), ?_⟩
          intro z hz
          generalize gH4 : L2.upd _ z _ = H4
          obtain ⟨s4, e4⟩ := newS hz gH4
          clear gH4
          have dk : DK 2 (.list [.list (us.map fun (n : Nat) => PyData.int (n : Int)), .int d']) := .list (.cons (.list (DK.map fun n _ => .int 0 _) (by rw [List.length_map]; omega)) (.cons (.int 1 _) .nil)) (by show 2 ≤ _; decide)
          refine ⟨.ref lt, .ref z, _, rfl, .lst (SqL.of (s4 _ _ elt)) (.cons (.lst (SqL.of (s4 _ _ el1)) (dkMap (fun n => .int _) us)) (.cons (.int _) .nil)), .lst (SqL.of e4) (.cons (.lst (SqL.of (s4 _ _ (s3 _ _ el2))) (dkMap (fun n => .int _) us)) (.cons (.int _) .nil)), dk.lay, dk.dep, dk.sm, fun H5 s5 => ?_⟩
          exact ⟨_, rfl, iteF ⟨s4.trans s5, _, _, _, _, _, _, _, _, rfl⟩⟩
      clear elt hv
      rintro σ H4 ⟨s4, w4, w9, w10, w11, w13, w14, w15, w16, rfl⟩
      have S4 := SS S3 s4
      have S45 : ∀ {H' : Hp}, Same H4 H' → S H' bk ev := fun s => SS S4 s
      rcases r with _ | ⟨us, d'⟩
      · have wv' : dv = .non := wv
        subst wv'
        refine ⟨_, rfl, rfl, _, rfl, iteND rfl ?_⟩
        refine ⟨Nat.zero_le _, ?_⟩
        intro z hz
        generalize gH5 : L2.upd _ z _ = H5
        obtain ⟨s5, e5⟩ := newS hz gH5
        clear gH5
        refine ⟨z, rfl, ⟨_, SqL.of e5⟩, for_it (walk_list (xs := [])) (fun i σ H' => Same H5 H' ∧ ∃ v4 v5 v6 v7 v8 v9 v10 v11 v13 v14 v15 v16, σ = tl (some (.ref l)) (some (.ref ev)) v4 v5 v6 v7 v8 v9 v10 v11 (some (.ref bk)) v13 v14 v15 v16) ⟨Same.refl _, _, _, _, _, _, _, _, _, _, _, _, _, rfl⟩ (fun i σ H' _ p => SqL.of (p.1 _ _ e5)) (fun i y σ H' H'' hi => absurd hi (Nat.not_lt_zero _)) ?_⟩
        rintro σ H6 ⟨s6, w4, w5, w6, w7, w8, w9, w10, w11, w13, w14, w15, w16, rfl⟩
        exact ⟨S45 (s5.trans s6), _, _, _, _, _, _, _, _, _, _, _, _, rfl⟩
      · obtain ⟨t, l2, rfl, et, el2⟩ := wv
        have et4 := s4 _ _ (s3 _ _ et)
        have el4 := s4 _ _ (s3 _ _ el2)
        refine ⟨_, rfl, rfl, _, rfl, iteNDN (by intro z; cases z) ?_⟩
        refine ⟨_, rfl, t, _, _, _, rfl, rfl, .inl (.inl et4), rfl, ?_⟩
        refine ⟨l2, rfl, ⟨_, SqL.of el4⟩, for_it (walk_list (xs := natsV us)) (fun i σ H' => Same H4 H' ∧ ∃ v4 v8 v9 v10 v11 v13 v14 v15 v16, σ = tl (some (.ref l)) (some (.ref ev)) v4 (some (.str (nmS j1))) (some (.str (nmS j2))) (some (.int d)) v8 v9 v10 v11 (some (.ref bk)) v13 v14 v15 v16) ⟨Same.refl _, _, _, _, _, _, _, _, _, _, rfl⟩ (fun i σ H' _ p => SqL.of (p.1 _ _ el4)) ?_ ?_⟩
        · rintro m y σ Hx H5 hm ⟨s5, w4, w8, w9, w10, w11, w13, w14, w15, w16, rfl⟩ ⟨rfl, ey⟩
          obtain ⟨k', hk', rfl⟩ : ∃ k' : Nat, k' ∈ us ∧ y = .int (k' : Nat) := by
            unfold natsV at ey
            rw [List.getElem?_map] at ey
            cases z : us[m]? with
            | none => rw [z] at ey; cases ey
            | some u => rw [z] at ey; exact ⟨u, List.mem_of_getElem? z, (Option.some.inj ey).symm⟩
          have S5 := S45 s5
          refine ⟨_, rfl, _, rfl, _, rfl, _, rfl, _, rfl, ev, rfl, ⟨_, SqL.of S5.2.2.2.2.2.2.1⟩, fun D' hD => ?_⟩
          refine lc_it (walk_list (xs := natsV (List.range os.length))) (fun i H' => Same H5 H' ∧ H' D' = some (.lst (natsV ((List.range i).filter fun j => decide (j ≠ k'))))) ⟨Same.new hD, by rw [upd_same]; rfl⟩ (fun i H' _ p => SqL.of (p.1 _ _ S5.2.2.2.2.2.2.1)) ?_ ?_
          · rintro i y Hx H6 hi ⟨s6, e6⟩ ⟨rfl, ey⟩
            have hi' : i < os.length := by unfold natsV at hi; rw [List.length_map, List.length_range] at hi; exact hi
            unfold natsV at ey
            rw [List.getElem?_map, List.getElem?_range hi'] at ey
            cases ey
            refine ⟨rfl, _, rfl, _, rfl, rfl, _, rfl, ?_⟩
            have fl : ((List.range i).filter fun j => decide (j ≠ k')).length ≤ i := Nat.le_trans (List.length_filter_le _ _) (by simp)
            rw [List.range_succ, List.filter_append]
            by_cases c : i = k'
            · refine iteND (show V.int ((i : Nat) : Int) = V.int (k' : Nat) by rw [c]) ?_
              rw [show [i].filter (fun j => decide (j ≠ k')) = [] from by simp [c], List.append_nil]
              exact ⟨s6, e6⟩
            · refine iteNDN (fun z => c (by have := V.int.inj z; omega)) ?_
              rw [show [i].filter (fun j => decide (j ≠ k')) = [i] from by simp [c]]
              refine ⟨_, rfl, _, e6, by unfold natsV; rw [List.length_map, sizeLine_eq]; omega, fun b u e => ?_, ?_⟩
              · rw [upd_ne (ne_of_none e hD)]
                exact s6 _ _ e
              · rw [upd_same]
                unfold natsV
                rw [List.map_append]
                rfl
          · rintro H6 ⟨s6, e6⟩
            have S6 := S45 (s5.trans s6)
            rw [show (natsV (List.range os.length)).length = os.length from by unfold natsV; rw [List.length_map, List.length_range]] at e6
            refine ⟨l, as, os, nmS j1, d, nmS j2, D', _, rfl, SqL.of S6.2.2.2.2.1, S6.2.2.2.2.2.1, g, e6, fun H7 v r s7 w7 wl7 => ?_⟩
            have er : r = none := wl_less (k := k') wto hk' (by
              rw [show (fun j => j ∈ (List.range os.length).filter fun j => decide (j ≠ k')) = fun j => j < os.length ∧ j ≠ k' from funext fun j => propext (by simp [List.mem_filter])] at wl7
              exact wl7)
            subst er
            have : v = .non := w7
            subst this
            refine ⟨rfl, _, rfl, iteND rfl ?_⟩
            exact ⟨(s5.trans s6).trans s7, _, _, _, _, _, _, _, _, _, rfl⟩
        · rintro σ H5 ⟨s5, w4, w8, w9, w10, w11, w13, w14, w15, w16, rfl⟩
          exact ⟨S45 s5, _, _, _, _, _, _, _, _, _, _, _, _, rfl⟩
    clear S1
    rintro σ H1 ⟨S1, w4, w5, w6, w7, w8, w9, w10, w11, w13, w14, w15, w16, rfl⟩
    refine ⟨fun σ' H' => S H' bk ev ∧ ∃ v4 v5 v6 v7 v8 v9 v10 v11 v13 v14 v15 v16, σ' = tl (some (.ref l)) (some (.ref ev)) v4 v5 v6 v7 v8 v9 v10 v11 (some (.ref bk)) v13 v14 v15 v16, ?_, ?_⟩
    · refine ⟨_, rfl, ev, rfl, ⟨_, SqL.of S1.2.2.2.2.2.2.1⟩, for_it (walk_list (xs := natsV (List.range os.length))) (fun i σ H' => S H' bk ev ∧ ∃ v4 v5 v6 v7 v8 v9 v10 v11 v13 v14 v15 v16, σ = tl (some (.ref l)) (some (.ref ev)) v4 v5 v6 v7 v8 v9 v10 v11 (some (.ref bk)) v13 v14 v15 v16) ⟨S1, _, _, _, _, _, _, _, _, _, _, _, _, rfl⟩ (fun i σ H' _ p => SqL.of p.1.2.2.2.2.2.2.1) ?_ (fun σ' H' z => z)⟩
      clear S1
      rintro k0 y σ Hx H1 hk0 ⟨S1, w4, w5, w6, w7, w8, w9, w10, w11, w13, w14, w15, w16, rfl⟩ ⟨rfl, ey⟩
      have hk : k0 < os.length := by unfold natsV at hk0; rw [List.length_map, List.length_range] at hk0; exact hk0
      unfold natsV at ey
      rw [List.getElem?_map, List.getElem?_range hk] at ey
      cases ey
      obtain ⟨o, eo⟩ : ∃ o, os[k0]? = some o := ⟨os[k0], List.getElem?_eq_getElem hk⟩
      have oo := g.ok o (List.mem_of_getElem? eo)
      have olast := D.lasts o (List.mem_of_getElem? eo)
      obtain ⟨ak, eak⟩ : ∃ ak, as[k0]? = some ak := ⟨as[k0]'(by rw [lo]; exact hk), by simp⟩
      have atk : atI (as.map V.ref) ((k0 : Nat) : Int) = some (V.ref ak) := atI_nat (by rw [List.getElem?_map, eak]; rfl)
      have oat : ∀ {H' : Hp}, S H' bk ev → OrdAt K H' ak o := fun z => by
        obtain ⟨o', eo', oa⟩ := Paired.get z.2.2.2.2.2.1 eak
        rw [eo] at eo'
        cases eo'
        exact oa
      refine ⟨fun σ' H' => Same H1 H' ∧ ∃ lb, H' lb = some (.lst ((behL os o os.length).map V.int)) ∧ H1 lb = none ∧ ∃ v4 v5 v6 v7 v8 v9 v11 v13 v15 v16, σ' = tl (some (.ref l)) (some (.ref ev)) v4 v5 v6 v7 v8 v9 (some (.ref lb)) v11 (some (.ref bk)) v13 (some (.int (k0 : Nat))) v15 v16, ?_, ?_⟩
      · refine ⟨_, rfl, l, rfl, ⟨_, SqL.of S1.2.2.2.2.1⟩, fun D' hD => ?_⟩
        refine lc_it (walk_list (xs := as.map V.ref)) (fun i H' => Same H1 H' ∧ H' D' = some (.lst ((behL os o i).map V.int))) ⟨Same.new hD, by rw [upd_same]; rfl⟩ (fun i H' _ p => SqL.of (p.1 _ _ S1.2.2.2.2.1)) ?_ ?_
        · rintro i y Hx H2 hi ⟨s2, e2⟩ ⟨rfl, ey⟩
          rw [List.length_map] at hi
          obtain ⟨q, eq⟩ : ∃ q, as[i]? = some q := ⟨as[i], by simp [hi]⟩
          rw [List.getElem?_map, eq] at ey
          cases ey
          have S2 := SS S1 s2
          obtain ⟨p, ep, hp⟩ := Paired.get S2.2.2.2.2.2.1 eq
          have ob := oat S2
          have ll := behL_len (os := os) (o := o) (n := i)
          have lhere := SqL.of (K := K) S2.2.2.2.2.1
          rw [behL_succ ep]
          refine ⟨rfl, _, rfl, q, _, _, _, rfl, rfl, hp, rfl, _, rfl, _, rfl, l, _, _, V.ref ak, rfl, rfl, lhere, atk, ak, _, _, _, rfl, rfl, ob, rfl, rfl, _, rfl, ?_⟩
          by_cases c1 : p.src = o.src
          · refine iteD (show V.str p.src = V.str o.src by rw [c1]) ?_
            refine ⟨_, rfl, q, _, _, _, rfl, rfl, hp, rfl, _, rfl, _, rfl, l, _, _, V.ref ak, rfl, rfl, lhere, atk, ak, _, _, _, rfl, rfl, ob, rfl, _, _, rfl, rfl, _, rfl, ?_⟩
            by_cases c2 : o.last < p.first
            · rw [if_pos ⟨c1, c2⟩]
              refine iteD c2 ?_
              refine ⟨_, rfl, q, _, _, _, rfl, rfl, hp, rfl, _, e2, by rw [List.length_map, sizeLine_eq]; omega, fun b u e => ?_, ?_⟩
              · rw [upd_ne (ne_of_none e hD)]
                exact s2 _ _ e
              · rw [upd_same, List.map_append]
                rfl
            · rw [if_neg (fun z => c2 z.2), List.append_nil]
              exact iteDN c2 ⟨s2, e2⟩
          · rw [if_neg (fun z => c1 z.1), List.append_nil]
            exact iteDN (fun z => c1 (V.str.inj z)) ⟨s2, e2⟩
        · rintro H2 ⟨s2, e2⟩
          rw [ln] at e2
          exact ⟨s2, D', e2, hD, _, _, _, _, _, _, _, _, _, _, rfl⟩
      rintro σ H2 ⟨s2, lb, elb, flb, w4, w5, w6, w7, w8, w9, w11, w13, w15, w16, rfl⟩
      have S2 := SS S1 s2
      have nlb : lb ≠ rw := row_nil S1.1 flb
      have bm : ∀ z, z ∈ behL os o os.length ↔ ∃ p ∈ os, p.src = o.src ∧ o.last < p.first ∧ p.first = z := fun z => behL_mem
      have bl := behL_len (os := os) (o := o) (n := os.length)
      generalize behL os o os.length = bs at elb bm bl
      refine ⟨fun σ' H' => S H' bk ev ∧ H' lb = some (.lst (bs.map V.int)) ∧ ∃ z : Int, o.last ≤ z ∧ z ≤ 1000000000000000000 ∧ (∀ p ∈ os, p.src = o.src → o.last < p.first → z < p.first) ∧ (bs ≠ [] → ∃ p ∈ os, p.src = o.src ∧ o.last < p.first ∧ p.first = z + 1) ∧ ∃ v4 v5 v6 v7 v8 v9 v11 v15 v16, σ' = tl (some (.ref l)) (some (.ref ev)) v4 v5 v6 v7 v8 v9 (some (.ref lb)) v11 (some (.ref bk)) (some (.int z)) (some (.int (k0 : Nat))) v15 v16, ?_, ?_⟩
      · refine ⟨_, rfl, Nat.zero_le _, ?_⟩
        intro x1 hx1
        generalize gH3 : L2.upd _ x1 _ = H3
        obtain ⟨s3, e3⟩ := newS hx1 gH3
        clear gH3
        have dk : DK 2 (.list (bs.map PyData.int)) := .list (DK.map fun o ho => .int 1 _) (by rw [List.length_map]; omega)
        refine ⟨.list (bs.map PyData.int), .list (([] : List Int).map PyData.int), .lst (SqL.of (s3 _ _ elb)) (dkMap (fun _ => .int _) _), .lst (SqL.of e3) .nil, dk.shaped (by decide), by decide +kernel, ?_⟩
        rw [show PyData.eqv (.list (bs.map PyData.int)) (.list (([] : List Int).map PyData.int)) = decide (bs = []) from eqvMap eqvInt _ _]
        refine ⟨_, rfl, ?_⟩
        have S3 := SS S2 s3
        have elb3 := s3 _ _ elb
        by_cases c : bs = []
        · refine iteND c ?_
          refine ⟨_, rfl, _, rfl, l, _, _, V.ref ak, rfl, rfl, SqL.of S3.2.2.2.2.1, atk, ak, _, _, _, rfl, rfl, oat S3, rfl, _, rfl, rw, a, ns, 50, rfl, S3.1, by decide, by decide, fun v H4 v0 v1 R4 k4 => ?_⟩
          refine ⟨_, _, rfl, rfl, SR S3 R4 k4, k4 _ _ elb3 nlb, o.last + v, by omega, by omega, fun p hp h1 h2 => ?_, fun h => absurd c h, _, _, _, _, _, _, _, _, _, rfl⟩
          have := (bm p.first).mpr ⟨p, hp, h1, h2, rfl⟩
          rw [c] at this
          cases this
        · refine iteNDN c ?_
          refine ⟨_, rfl, lb, bs, rfl, SqL.of elb3, List.length_pos_iff.mpr c, fun m hm hall => ?_⟩
          obtain ⟨p, hp, h1, h2, h3⟩ := (bm m).mp hm
          have pl := D.lasts p hp
          have pf := (g.ok p hp).fl
          refine ⟨_, _, rfl, rfl, S3, elb3, m - 1, by omega, by omega, fun q hq h4 h5 => ?_, fun _ => ⟨p, hp, h1, h2, by omega⟩, _, _, _, _, _, _, _, _, _, rfl⟩
          have := hall _ ((bm q.first).mpr ⟨q, hq, h4, h5, rfl⟩)
          omega
      clear S2 elb S1 s2
      rintro σ H2 ⟨S2, elb, z, z1, z2, z3, z4, w4, w5, w6, w7, w8, w9, w11, w15, w16, rfl⟩
      have pg := pro_good g eo z1 z2 z3
      have ep : proO os k0 z = os.set k0 { o with last := z } := by unfold proO; rw [eo]
      refine ⟨fun σ' H' => Same H2 H' ∧ ∃ ll qs, H' ll = some (.lst ((qs : List Addr).map V.ref)) ∧ OrdsAt K H' qs (proO os k0 z) ∧ ∃ v4 v5 v6 v7 v8 v9 v15 v16, σ' = tl (some (.ref l)) (some (.ref ev)) v4 v5 v6 v7 v8 v9 (some (.ref lb)) (some (.ref ll)) (some (.ref bk)) (some (.int z)) (some (.int (k0 : Nat))) v15 v16, ?_, ?_⟩
      · refine ⟨_, rfl, ev, rfl, ⟨_, SqL.of S2.2.2.2.2.2.2.1⟩, fun D' hD => ?_⟩
        refine lc_it (walk_list (xs := natsV (List.range os.length))) (fun i H' => Same H2 H' ∧ ∃ qs : List Addr, H' D' = some (.lst (qs.map V.ref)) ∧ OrdsAt K H' qs ((proO os k0 z).take i)) ⟨Same.new hD, [], upd_same, .nil⟩ (fun i H' _ p => SqL.of (p.1 _ _ S2.2.2.2.2.2.2.1)) ?_ ?_
        · rintro i y Hx H3 hi ⟨s3, qs, e3, o3⟩ ⟨rfl, ey⟩
          have hi' : i < os.length := by unfold natsV at hi; rw [List.length_map, List.length_range] at hi; exact hi
          unfold natsV at ey
          rw [List.getElem?_map, List.getElem?_range hi'] at ey
          cases ey
          have S3 := SS S2 s3
          obtain ⟨ai, eai⟩ : ∃ ai, as[i]? = some ai := ⟨as[i]'(by rw [lo]; exact hi'), by simp⟩
          obtain ⟨oi, eoi, oai⟩ := Paired.get S3.2.2.2.2.2.1 eai
          have ati : atI (as.map V.ref) ((i : Nat) : Int) = some (V.ref ai) := atI_nat (by rw [List.getElem?_map, eai]; rfl)
          have lq := PySem.Paired.length o3
          have lq2 : qs.length ≤ i := by rw [lq, List.length_take]; omega
          refine ⟨rfl, yesT ?_⟩
          refine iteT ?_
          refine ⟨_, rfl, _, rfl, rfl, _, rfl, ?_⟩
          have fin : ∀ {H4 : Hp} {q : Addr} {oq : Ordr}, Same H3 H4 → OrdAt K H4 q oq → (proO os k0 z)[i]? = some oq → ∃ acc, H4 D' = some (.lst acc) ∧ acc.length < sizeLine ∧ Same H2 (upd H4 D' (.lst (acc ++ [V.ref q]))) ∧ ∃ qs : List Addr, upd H4 D' (.lst (acc ++ [V.ref q])) D' = some (.lst (qs.map V.ref)) ∧ OrdsAt K (upd H4 D' (.lst (acc ++ [V.ref q]))) qs ((proO os k0 z).take (i + 1)) := fun {H4 q oq} s4 oq4 eq4 => by
            have e4 := s4 _ _ e3
            refine ⟨_, e4, by rw [List.length_map, sizeLine_eq]; omega, ?_⟩
            generalize gH5 : L2.upd _ D' _ = H5
            obtain ⟨up, e5⟩ := updS gH5
            clear gH5
            refine ⟨fun b u e => up _ _ (s4 _ _ (s3 _ _ e)) (ne_of_none e hD), qs ++ [q], by rw [e5, List.map_append]; rfl, ?_⟩
            rw [List.take_add_one, eq4]
            have upt := upT e4 up
            exact Paired.append ((o3.mono s4).keepR upt) (.cons (ord_but oq4 upt) .nil)
          have lhere := SqL.of (K := K) S3.2.2.2.2.1
          by_cases c : i = k0
          · refine iteND (show V.int ((i : Nat) : Int) = V.int (k0 : Nat) by rw [c]) ?_
            have eoi' : oi = o := by rw [c, eo] at eoi; exact (Option.some.inj eoi).symm
            subst eoi'
            refine ⟨_, rfl, _, rfl, l, _, _, V.ref ai, rfl, rfl, lhere, ati, _, rfl, ai, _, rfl, oai, (by show ¬ (HT.sIx 5 0 none = 0 ∧ HT.sIx 5 5 (some 3) = 5); decide), ?_⟩
            intro t1 ht1
            generalize gH4 : L2.upd _ t1 _ = H4
            obtain ⟨s4, e4⟩ := newS ht1 gH4
            clear gH4
            refine ⟨_, rfl, _, rfl, _, rfl, l, _, _, V.ref ai, rfl, rfl, SqL.of (s4 _ _ S3.2.2.2.2.1), ati, ai, _, _, _, rfl, rfl, oai.mono s4, rfl, (by show 2 ≤ sizeLine; decide), ?_⟩
            intro t2 ht2
            generalize gH5 : L2.upd _ t2 _ = H5
            obtain ⟨s5, e5⟩ := newS ht2 gH5
            clear gH5
            refine ⟨t1, t2, _, _, rfl, rfl, .inl (.inl (s5 _ _ e4)), .inl (.inl e5), (by show 5 ≤ sizeLine; decide), (fun z => by cases z), (fun _ z => by cases z), fun _ _ => ?_⟩
            intro t3 ht3
            generalize gH6 : L2.upd _ t3 _ = H6
            obtain ⟨s6, e6⟩ := newS ht3 gH6
            clear gH6
            refine fin ((s4.trans s5).trans s6) (oq := { oi with last := z }) (.inl (.inl e6)) ?_
            rw [ep, c, List.getElem?_set_self hk]
          · refine iteNDN (fun z => c (by have := V.int.inj z; omega)) ?_
            refine ⟨_, rfl, _, rfl, l, _, _, V.ref ai, rfl, rfl, lhere, ati, ?_⟩
            refine fin (Same.refl _) oai ?_
            rw [ep, List.getElem?_set_ne (fun z => c z.symm)]
            exact eoi
        · rintro H3 ⟨s3, qs, e3, o3⟩
          rw [show (natsV (List.range os.length)).length = os.length from by unfold natsV; rw [List.length_map, List.length_range], show (proO os k0 z).take os.length = proO os k0 z from by rw [ep, List.take_of_length_le (by rw [List.length_set]; exact Nat.le_refl _)]] at o3
          exact ⟨s3, D', qs, e3, o3, _, _, _, _, _, _, _, _, rfl⟩
      rintro σ H3 ⟨s3, ll, qs, ell, oll, w4, w5, w6, w7, w8, w9, w15, w16, rfl⟩
      have S3 := SS S2 s3
      refine ⟨fun σ' H' => Same H3 H' ∧ ∃ v4 v5 v6 v7 v8 v9 v11 v15 v16, σ' = tl (some (.ref l)) (some (.ref ev)) v4 v5 v6 v7 v8 v9 (some (.ref lb)) v11 (some (.ref bk)) (some (.int z)) (some (.int (k0 : Nat))) v15 v16, ?_, ?_⟩
      · refine ⟨_, rfl, _, rfl, _, rfl, bk, os, o, k0, z, rfl, S3.2.2.1, eo, g.len, z1, z2, pg, fun H4 q s4 f4 B4 => ?_⟩
        obtain ⟨dx, tb, bs', b1, b2, b3⟩ := B4
        refine ⟨q, dx, _, rfl, b1, q, dx, tb, rfl, b1, ?_⟩
        refine ⟨_, rfl, ll, _, rfl, .inl ⟨SqL.of (s4 _ _ ell), ?_⟩⟩
        intro tt htt
        generalize gH5 : L2.upd _ tt _ = H5
        obtain ⟨s5, e5⟩ := newS htt gH5
        clear gH5
        have dk : DK 2 (.tuple ((proO os k0 z).map ordDK)) := .tuple (DK.map fun o ho => .ord (pg.ok o ho)) (by rw [List.length_map]; have := pg.len; omega)
        refine ⟨.tuple ((proO os k0 z).map ordDK), .tuple ((proO os k0 z).map ordDK), .tup (MF.Same.tup s5 b2) (dkOrds (b3.mono s5)), .tup (.inl (.inl e5)) (dkOrds ((oll.mono s4).mono s5)), dk.shaped (by decide), dk.shaped (by decide), ?_⟩
        rw [PySem.SeqAt.eqv_refl _ dk.lay]
        exact ⟨_, rfl, iteF ⟨s4.trans s5, _, _, _, _, _, _, _, _, _, rfl⟩⟩
      rintro σ H4 ⟨s4, w4, w5, w6, w7, w8, w9, w11, w15, w16, rfl⟩
      have S4 := SS S3 s4
      have elb4 := s4 _ _ (s3 _ _ elb)
      refine ⟨_, rfl, Nat.zero_le _, ?_⟩
      intro x1 hx1
      generalize gH5 : L2.upd _ x1 _ = H5
      obtain ⟨s5, e5⟩ := newS hx1 gH5
      clear gH5
      have dk : DK 2 (.list (bs.map PyData.int)) := .list (DK.map fun o ho => .int 1 _) (by rw [List.length_map]; omega)
      refine ⟨.list (bs.map PyData.int), .list (([] : List Int).map PyData.int), .lst (SqL.of (s5 _ _ elb4)) (dkMap (fun _ => .int _) _), .lst (SqL.of e5) .nil, dk.shaped (by decide), by decide +kernel, ?_⟩
      rw [show PyData.eqv (.list (bs.map PyData.int)) (.list (([] : List Int).map PyData.int)) = decide (bs = []) from eqvMap eqvInt _ _]
      refine ⟨_, rfl, ?_⟩
      have S5 := SS S4 s5
      by_cases c : bs = []
      · refine iteND c ?_
        exact ⟨S5, _, _, _, _, _, _, _, _, _, _, _, _, rfl⟩
      · refine iteNDN c ?_
        obtain ⟨p, hp, h1, h2, h3⟩ := z4 c
        obtain ⟨n, bo⟩ := pro_bad g eo hp h1 h2
        rw [h3] at bo
        have pl := (g.ok p hp).lm
        have pf := (g.ok p hp).fl
        refine ⟨S5.2.1, fun f1 H11 x11 T11 fn1 L11 => ?_⟩
        have S11 := SN S5 x11 T11
        refine ⟨_, f1, rfl, L11, ?_⟩
        refine ⟨_, rfl, _, rfl, _, rfl, _, _, rfl, rfl, bk, os, .int (k0 : Nat), .int (z + 1), rfl, S11.2.2.1, g, rfl, rfl, .inr (.inr ⟨o, z + 1, n, k0, rfl, eo, rfl, by omega, by omega, bo, fun H12 cls dd s12 e12 => ⟨.order (.int (n : Nat)), True.intro, e12, fun p H13 s13 fp ep => ?_⟩⟩)⟩
        refine ⟨rfl, _, rfl, iteDN (by intro z; cases z) ?_⟩
        exact ⟨SS S11 (s12.trans s13), _, _, _, _, _, _, _, _, _, _, _, _, rfl⟩
    rintro σ H2 ⟨S2, w4, w5, w6, w7, w8, w9, w10, w11, w13, w14, w15, w16, rfl⟩
    refine ⟨_, rfl, _, rfl, bk, l, as, os, rfl, fun p hp => ?_, S2.2.2.1, g, SqL.of S2.2.2.2.2.1, S2.2.2.2.2.2.1, fun H' => k _⟩
    rw [List.mem_singleton.mp hp]
    exact S2.2.1 _ List.mem_cons_self
end

end MF
set_option Elab.async false
set_option linter.all false
set_option maxRecDepth 100000
set_option maxHeartbeats 2000000
set_option pp.maxSteps 600
namespace MF
open PySem PySem.Spec PyProof.Rows L2 StX
theorem all_mk {l : PySem.W.OpenLaw} {w : World} {K : PySem.W.Frag} {h : Heap} {mg : Str → Option Value} {fa C_Book C_Letter C_Walker C_MailError C_InvalidOrder C_UnknownOrder C_InvalidAddress C_InvalidDay C_InvalidNumber cL_q35 PL_q35 cL_q36 PL_q36 f_q0 f_q1 f_q2 f_q3 f_q4 f_q5 f_q6 p_q6 f_q7 f_q8 f_q9 f_q10 f_q11 f_q12 f_q13 f_q14 f_q15 f_q16 f_q17 cc_q17 cda_q17 f_q18 cc_q18 cda_q18 f_q19 f_q20 f_q21 f_q22 f_q23 f_q24 f_q25 f_q26 f_q27 f_q28 f_q29 f_q30 f_q31 f_q32 f_q33 f_q34 f_q35 f_q36 : Addr} (X : K.In h) (G : h.Ns mainGlobals mg) (hfa : mg "law" = some (.ref fa))
    {odq0 anq0 odq1 anq1 odq2 anq2 odq3 anq3 odq4 anq4 odq5 anq5 odq6 anq6 odq7 anq7 odq8 anq8 odq9 anq9 odq10 anq10 odq11 anq11 odq12 anq12 odq13 anq13 odq14 anq14 odq15 anq15 odq16 anq16 odq17 anq17 cddq17 cldq17 odq18 anq18 cddq18 cldq18 odq19 anq19 odq20 anq20 odq21 anq21 odq22 anq22 odq23 anq23 odq24 anq24 odq25 anq25 odq26 anq26 odq27 anq27 odq28 anq28 odq29 anq29 odq30 anq30 odq31 anq31 odq32 anq32 odq33 anq33 odq34 anq34 odq35 anq35 odq36 anq36 : Option Addr} {slq0 slq1 slq2 slq3 slq4 slq5 slq6 slq7 slq8 slq9 slq10 slq11 slq12 slq13 slq14 slq15 slq16 slq17 ccsq17 cslq17 slq18 ccsq18 cslq18 slq19 slq20 slq21 slq22 slq23 slq24 slq25 slq26 slq27 slq28 slq29 slq30 slq31 slq32 slq33 slq34 slq35 slq36 : Array (Option Value)} {ocq0 kVq0 dcq0 pmq0 cdq0 ctq0 ocq1 kVq1 dcq1 pmq1 cdq1 ctq1 ocq2 kVq2 dcq2 pmq2 cdq2 ctq2 ocq3 kVq3 dcq3 pmq3 cdq3 ctq3 ocq4 kVq4 dcq4 pmq4 cdq4 ctq4 ocq5 kVq5 dcq5 pmq5 cdq5 ctq5 ocq6 kVq6 dcq6 pmq6 cdq6 ctq6 ocq7 kVq7 dcq7 pmq7 cdq7 ctq7 ocq8 kVq8 dcq8 pmq8 cdq8 ctq8 ocq9 kVq9 dcq9 pmq9 cdq9 ctq9 ocq10 kVq10 dcq10 pmq10 cdq10 ctq10 ocq11 kVq11 dcq11 pmq11 cdq11 ctq11 ocq12 kVq12 dcq12 pmq12 cdq12 ctq12 ocq13 kVq13 dcq13 pmq13 cdq13 ctq13 ocq14 kVq14 dcq14 pmq14 cdq14 ctq14 ocq15 kVq15 dcq15 pmq15 cdq15 ctq15 ocq16 kVq16 dcq16 pmq16 cdq16 ctq16 ocq17 kVq17 dcq17 pmq17 ctq17 cclq17 clq17 ocq18 kVq18 dcq18 pmq18 ctq18 cclq18 clq18 ocq19 kVq19 dcq19 pmq19 cdq19 ctq19 ocq20 kVq20 dcq20 pmq20 cdq20 ctq20 ocq21 kVq21 dcq21 pmq21 cdq21 ctq21 ocq22 kVq22 dcq22 pmq22 cdq22 ctq22 ocq23 kVq23 dcq23 pmq23 cdq23 ctq23 ocq24 kVq24 dcq24 pmq24 cdq24 ctq24 ocq25 kVq25 dcq25 pmq25 cdq25 ctq25 ocq26 kVq26 dcq26 pmq26 cdq26 ctq26 ocq27 kVq27 dcq27 pmq27 cdq27 ctq27 ocq28 kVq28 dcq28 pmq28 cdq28 ctq28 ocq29 kVq29 dcq29 pmq29 cdq29 ctq29 ocq30 kVq30 dcq30 pmq30 cdq30 ctq30 ocq31 kVq31 dcq31 pmq31 cdq31 ctq31 ocq32 kVq32 dcq32 pmq32 cdq32 ctq32 ocq33 kVq33 dcq33 pmq33 cdq33 ctq33 ocq34 kVq34 dcq34 pmq34 cdq34 ctq34 ocq35 kVq35 dcq35 pmq35 ctq35 ocq36 kVq36 dcq36 pmq36 ctq36 mcB : Value} {tg_0 tg_1 tg_2 tg_3 tg_4 tfq17 tfq18 : Tok} {vsq17 vsq18 : Array Value} {FL : Str} {rs_q6 : List Value}
    (opq : PySem.W.nsIn K cStatics "thirdparty.any" = some none)
    (aC_Book : PySem.W.nsIn K mainGlobals "Book" = some (some (.ref C_Book)))
    (aC_Letter : PySem.W.nsIn K mainGlobals "Letter" = some (some (.ref C_Letter)))
    (aC_Walker : PySem.W.nsIn K mainGlobals "Walker" = some (some (.ref C_Walker)))
    (ge_MailError : PySem.W.nsIn K mainGlobals "MailError" = some (some (.ref C_MailError)))
    (ge_InvalidOrder : PySem.W.nsIn K mainGlobals "InvalidOrder" = some (some (.ref C_InvalidOrder)))
    (ge_UnknownOrder : PySem.W.nsIn K mainGlobals "UnknownOrder" = some (some (.ref C_UnknownOrder)))
    (ge_InvalidAddress : PySem.W.nsIn K mainGlobals "InvalidAddress" = some (some (.ref C_InvalidAddress)))
    (ge_InvalidDay : PySem.W.nsIn K mainGlobals "InvalidDay" = some (some (.ref C_InvalidDay)))
    (ge_InvalidNumber : PySem.W.nsIn K mainGlobals "InvalidNumber" = some (some (.ref C_InvalidNumber)))
    (ob_InvalidOrder : oexB K C_InvalidOrder = true)
    (sa_InvalidOrder : PySem.W.findIn K (.ref C_InvalidOrder) "__setattr__" = some (some (.builtin "object.__setattr__")))
    (xs_InvalidOrder : PySem.W.subIn K (.ref C_InvalidOrder) (.type "BaseException") = some true)
    (xt_InvalidOrder : PySem.W.typeIn K (.ref C_InvalidOrder) = some (.type "type"))
    (xk_InvalidOrder : PySem.W.keepIn K (.ref C_InvalidOrder) = true)
    (ob_UnknownOrder : oexB K C_UnknownOrder = true)
    (sa_UnknownOrder : PySem.W.findIn K (.ref C_UnknownOrder) "__setattr__" = some (some (.builtin "object.__setattr__")))
    (xs_UnknownOrder : PySem.W.subIn K (.ref C_UnknownOrder) (.type "BaseException") = some true)
    (xt_UnknownOrder : PySem.W.typeIn K (.ref C_UnknownOrder) = some (.type "type"))
    (xk_UnknownOrder : PySem.W.keepIn K (.ref C_UnknownOrder) = true)
    (aq0 : PySem.W.nsIn K mainGlobals "is_integer" = some (some (.ref f_q0)))
    (lq0 : K.lookup f_q0 = some ⟨ocq0, odq0, .func (PySem.W.fnOf "is_integer" "is_integer" (defArgs s_is_integer) (defBody s_is_integer) (defScope s_is_integer) .none kVq0 dcq0 pmq0 anq0 cdq0 ctq0), slq0⟩)
    (cq0 : PySem.W.codeIn K cdq0 "is_integer" = true)
    (kq0 : PySem.W.keepIn K (.ref f_q0) = true)
    (aq1 : PySem.W.nsIn K mainGlobals "is_address" = some (some (.ref f_q1)))
    (lq1 : K.lookup f_q1 = some ⟨ocq1, odq1, .func (PySem.W.fnOf "is_address" "is_address" (defArgs s_is_address) (defBody s_is_address) (defScope s_is_address) .none kVq1 dcq1 pmq1 anq1 cdq1 ctq1), slq1⟩)
    (cq1 : PySem.W.codeIn K cdq1 "is_address" = true)
    (kq1 : PySem.W.keepIn K (.ref f_q1) = true)
    (aq2 : PySem.W.nsIn K mainGlobals "check_letter" = some (some (.ref f_q2)))
    (lq2 : K.lookup f_q2 = some ⟨ocq2, odq2, .func (PySem.W.fnOf "check_letter" "check_letter" (defArgs s_check_letter) (defBody s_check_letter) (defScope s_check_letter) .none kVq2 dcq2 pmq2 anq2 cdq2 ctq2), slq2⟩)
    (cq2 : PySem.W.codeIn K cdq2 "check_letter" = true)
    (kq2 : PySem.W.keepIn K (.ref f_q2) = true)
    (aq3 : PySem.W.nsIn K mainGlobals "is_order" = some (some (.ref f_q3)))
    (lq3 : K.lookup f_q3 = some ⟨ocq3, odq3, .func (PySem.W.fnOf "is_order" "is_order" (defArgs s_is_order) (defBody s_is_order) (defScope s_is_order) .none kVq3 dcq3 pmq3 anq3 cdq3 ctq3), slq3⟩)
    (cq3 : PySem.W.codeIn K cdq3 "is_order" = true)
    (kq3 : PySem.W.keepIn K (.ref f_q3) = true)
    (aq4 : PySem.W.nsIn K mainGlobals "do_overlap" = some (some (.ref f_q4)))
    (lq4 : K.lookup f_q4 = some ⟨ocq4, odq4, .func (PySem.W.fnOf "do_overlap" "do_overlap" (defArgs s_do_overlap) (defBody s_do_overlap) (defScope s_do_overlap) .none kVq4 dcq4 pmq4 anq4 cdq4 ctq4), slq4⟩)
    (cq4 : PySem.W.codeIn K cdq4 "do_overlap" = true)
    (kq4 : PySem.W.keepIn K (.ref f_q4) = true)
    (aq5 : PySem.W.findIn K (.ref C_Book) "__init__" = some (some (.ref f_q5)))
    (iq5 : PySem.W.isFn K (.ref f_q5) = true)
    (lq5 : K.lookup f_q5 = some ⟨ocq5, odq5, .func (PySem.W.fnOf "__init__" "Book.__init__" (defArgs s_BookX_initX) (defBody s_BookX_initX) (defScope s_BookX_initX) .none kVq5 dcq5 pmq5 anq5 cdq5 ctq5), slq5⟩)
    (cq5 : PySem.W.codeIn K cdq5 "Book.__init__" = true)
    (kq5 : PySem.W.keepIn K (.ref f_q5) = true)
    (aq6 : PySem.W.findIn K (.ref C_Book) "orders" = some (some (.ref p_q6)))
    (pgq6 : PySem.W.specialIn K (.ref p_q6) "__get__" = some (some (.builtin "property.__get__")))
    (ptq6 : PySem.W.takesIn K (.ref p_q6) = some true)
    (prq6 : PySem.W.recIn K p_q6 "property" = some (.ref f_q6 :: rs_q6))
    (lq6 : K.lookup f_q6 = some ⟨ocq6, odq6, .func (PySem.W.fnOf "orders" "Book.orders" (defArgs s_Book_orders) (defBody s_Book_orders) (defScope s_Book_orders) .none kVq6 dcq6 pmq6 anq6 cdq6 ctq6), slq6⟩)
    (cq6 : PySem.W.codeIn K cdq6 "Book.orders" = true)
    (kq6 : PySem.W.keepIn K (.ref f_q6) = true)
    (aq7 : PySem.W.findIn K (.ref C_Book) "__add__" = some (some (.ref f_q7)))
    (iq7 : PySem.W.isFn K (.ref f_q7) = true)
    (lq7 : K.lookup f_q7 = some ⟨ocq7, odq7, .func (PySem.W.fnOf "__add__" "Book.__add__" (defArgs s_BookX_addX) (defBody s_BookX_addX) (defScope s_BookX_addX) .none kVq7 dcq7 pmq7 anq7 cdq7 ctq7), slq7⟩)
    (cq7 : PySem.W.codeIn K cdq7 "Book.__add__" = true)
    (kq7 : PySem.W.keepIn K (.ref f_q7) = true)
    (aq8 : PySem.W.findIn K (.ref C_Book) "check_order" = some (some (.ref f_q8)))
    (iq8 : PySem.W.isFn K (.ref f_q8) = true)
    (lq8 : K.lookup f_q8 = some ⟨ocq8, odq8, .func (PySem.W.fnOf "check_order" "Book.check_order" (defArgs s_Book_check_order) (defBody s_Book_check_order) (defScope s_Book_check_order) .none kVq8 dcq8 pmq8 anq8 cdq8 ctq8), slq8⟩)
    (cq8 : PySem.W.codeIn K cdq8 "Book.check_order" = true)
    (kq8 : PySem.W.keepIn K (.ref f_q8) = true)
    (aq9 : PySem.W.findIn K (.ref C_Book) "order_for" = some (some (.ref f_q9)))
    (iq9 : PySem.W.isFn K (.ref f_q9) = true)
    (lq9 : K.lookup f_q9 = some ⟨ocq9, odq9, .func (PySem.W.fnOf "order_for" "Book.order_for" (defArgs s_Book_order_for) (defBody s_Book_order_for) (defScope s_Book_order_for) .none kVq9 dcq9 pmq9 anq9 cdq9 ctq9), slq9⟩)
    (cq9 : PySem.W.codeIn K cdq9 "Book.order_for" = true)
    (kq9 : PySem.W.keepIn K (.ref f_q9) = true)
    (aq10 : PySem.W.findIn K (.ref C_Book) "next_change" = some (some (.ref f_q10)))
    (iq10 : PySem.W.isFn K (.ref f_q10) = true)
    (lq10 : K.lookup f_q10 = some ⟨ocq10, odq10, .func (PySem.W.fnOf "next_change" "Book.next_change" (defArgs s_Book_next_change) (defBody s_Book_next_change) (defScope s_Book_next_change) .none kVq10 dcq10 pmq10 anq10 cdq10 ctq10), slq10⟩)
    (cq10 : PySem.W.codeIn K cdq10 "Book.next_change" = true)
    (kq10 : PySem.W.keepIn K (.ref f_q10) = true)
    (aq11 : PySem.W.nsIn K mainGlobals "book_of" = some (some (.ref f_q11)))
    (lq11 : K.lookup f_q11 = some ⟨ocq11, odq11, .func (PySem.W.fnOf "book_of" "book_of" (defArgs s_book_of) (defBody s_book_of) (defScope s_book_of) .none kVq11 dcq11 pmq11 anq11 cdq11 ctq11), slq11⟩)
    (cq11 : PySem.W.codeIn K cdq11 "book_of" = true)
    (kq11 : PySem.W.keepIn K (.ref f_q11) = true)
    (aq12 : PySem.W.findIn K (.ref C_Letter) "__init__" = some (some (.ref f_q12)))
    (iq12 : PySem.W.isFn K (.ref f_q12) = true)
    (lq12 : K.lookup f_q12 = some ⟨ocq12, odq12, .func (PySem.W.fnOf "__init__" "Letter.__init__" (defArgs s_LetterX_initX) (defBody s_LetterX_initX) (defScope s_LetterX_initX) .none kVq12 dcq12 pmq12 anq12 cdq12 ctq12), slq12⟩)
    (cq12 : PySem.W.codeIn K cdq12 "Letter.__init__" = true)
    (kq12 : PySem.W.keepIn K (.ref f_q12) = true)
    (aq13 : PySem.W.findIn K (.ref C_Letter) "order_now" = some (some (.ref f_q13)))
    (iq13 : PySem.W.isFn K (.ref f_q13) = true)
    (lq13 : K.lookup f_q13 = some ⟨ocq13, odq13, .func (PySem.W.fnOf "order_now" "Letter.order_now" (defArgs s_Letter_order_now) (defBody s_Letter_order_now) (defScope s_Letter_order_now) .none kVq13 dcq13 pmq13 anq13 cdq13 ctq13), slq13⟩)
    (cq13 : PySem.W.codeIn K cdq13 "Letter.order_now" = true)
    (kq13 : PySem.W.keepIn K (.ref f_q13) = true)
    (aq14 : PySem.W.findIn K (.ref C_Letter) "step" = some (some (.ref f_q14)))
    (iq14 : PySem.W.isFn K (.ref f_q14) = true)
    (lq14 : K.lookup f_q14 = some ⟨ocq14, odq14, .func (PySem.W.fnOf "step" "Letter.step" (defArgs s_Letter_step) (defBody s_Letter_step) (defScope s_Letter_step) .none kVq14 dcq14 pmq14 anq14 cdq14 ctq14), slq14⟩)
    (cq14 : PySem.W.codeIn K cdq14 "Letter.step" = true)
    (kq14 : PySem.W.keepIn K (.ref f_q14) = true)
    (aq15 : PySem.W.findIn K (.ref C_Letter) "skip" = some (some (.ref f_q15)))
    (iq15 : PySem.W.isFn K (.ref f_q15) = true)
    (lq15 : K.lookup f_q15 = some ⟨ocq15, odq15, .func (PySem.W.fnOf "skip" "Letter.skip" (defArgs s_Letter_skip) (defBody s_Letter_skip) (defScope s_Letter_skip) .none kVq15 dcq15 pmq15 anq15 cdq15 ctq15), slq15⟩)
    (cq15 : PySem.W.codeIn K cdq15 "Letter.skip" = true)
    (kq15 : PySem.W.keepIn K (.ref f_q15) = true)
    (aq16 : PySem.W.findIn K (.ref C_Letter) "finish" = some (some (.ref f_q16)))
    (iq16 : PySem.W.isFn K (.ref f_q16) = true)
    (lq16 : K.lookup f_q16 = some ⟨ocq16, odq16, .func (PySem.W.fnOf "finish" "Letter.finish" (defArgs s_Letter_finish) (defBody s_Letter_finish) (defScope s_Letter_finish) .none kVq16 dcq16 pmq16 anq16 cdq16 ctq16), slq16⟩)
    (cq16 : PySem.W.codeIn K cdq16 "Letter.finish" = true)
    (kq16 : PySem.W.keepIn K (.ref f_q16) = true)
    (aq17 : PySem.W.findIn K (.ref C_Walker) "__init__" = some (some (.ref f_q17)))
    (iq17 : PySem.W.isFn K (.ref f_q17) = true)
    (lq17 : K.lookup f_q17 = some ⟨ocq17, odq17, .func (PySem.W.ksFn "__init__" "Walker.__init__" (defArgs s_WalkerX_initX) (defBody s_WalkerX_initX) (defScope s_WalkerX_initX) .none kVq17 dcq17 pmq17 anq17 (.ref cda_q17) ctq17 cc_q17), slq17⟩)
    (cq17 : PySem.W.codeIn K (.ref cda_q17) "Walker.__init__" = true)
    (kq17 : PySem.W.keepIn K (.ref f_q17) = true)
    (lcq17 : K.lookup cda_q17 = some ⟨cclq17, cddq17, .fields vsq17, ccsq17⟩)
    (hvq17 : vsq17[2]? = some (.str FL tfq17))
    (ceq17 : K.lookup cc_q17 = some ⟨clq17, cldq17, .cell (some (.ref C_Walker)), cslq17⟩)
    (icq17 : PySem.W.isClsIn K C_Walker = true)
    (suq17 : PySem.W.mroIn K C_Walker (.ref C_Walker) = some true)
    (smq17 : PySem.W.ks_superIn K C_Walker C_Walker "__init__" = some (some (.ref f_q12)))
    (stq17 : PySem.W.typeIn K (.ref f_q12) = some (.type "function"))
    (snq17 : PySem.W.fnIn K f_q12 = true)
    (aq18 : PySem.W.findIn K (.ref C_Walker) "order_now" = some (some (.ref f_q18)))
    (iq18 : PySem.W.isFn K (.ref f_q18) = true)
    (lq18 : K.lookup f_q18 = some ⟨ocq18, odq18, .func (PySem.W.ksFn "order_now" "Walker.order_now" (defArgs s_Walker_order_now) (defBody s_Walker_order_now) (defScope s_Walker_order_now) .none kVq18 dcq18 pmq18 anq18 (.ref cda_q18) ctq18 cc_q18), slq18⟩)
    (cq18 : PySem.W.codeIn K (.ref cda_q18) "Walker.order_now" = true)
    (kq18 : PySem.W.keepIn K (.ref f_q18) = true)
    (lcq18 : K.lookup cda_q18 = some ⟨cclq18, cddq18, .fields vsq18, ccsq18⟩)
    (hvq18 : vsq18[2]? = some (.str FL tfq18))
    (ceq18 : K.lookup cc_q18 = some ⟨clq18, cldq18, .cell (some (.ref C_Walker)), cslq18⟩)
    (icq18 : PySem.W.isClsIn K C_Walker = true)
    (suq18 : PySem.W.mroIn K C_Walker (.ref C_Walker) = some true)
    (smq18 : PySem.W.ks_superIn K C_Walker C_Walker "order_now" = some (some (.ref f_q13)))
    (stq18 : PySem.W.typeIn K (.ref f_q13) = some (.type "function"))
    (snq18 : PySem.W.fnIn K f_q13 = true)
    (aq19 : PySem.W.findIn K (.ref C_Walker) "has_come" = some (some (.ref f_q19)))
    (iq19 : PySem.W.isFn K (.ref f_q19) = true)
    (lq19 : K.lookup f_q19 = some ⟨ocq19, odq19, .func (PySem.W.fnOf "has_come" "Walker.has_come" (defArgs s_Walker_has_come) (defBody s_Walker_has_come) (defScope s_Walker_has_come) .none kVq19 dcq19 pmq19 anq19 cdq19 ctq19), slq19⟩)
    (cq19 : PySem.W.codeIn K cdq19 "Walker.has_come" = true)
    (kq19 : PySem.W.keepIn K (.ref f_q19) = true)
    (aq20 : PySem.W.nsIn K mainGlobals "last_ended" = some (some (.ref f_q20)))
    (lq20 : K.lookup f_q20 = some ⟨ocq20, odq20, .func (PySem.W.fnOf "last_ended" "last_ended" (defArgs s_last_ended) (defBody s_last_ended) (defScope s_last_ended) .none kVq20 dcq20 pmq20 anq20 cdq20 ctq20), slq20⟩)
    (cq20 : PySem.W.codeIn K cdq20 "last_ended" = true)
    (kq20 : PySem.W.keepIn K (.ref f_q20) = true)
    (aq21 : PySem.W.nsIn K mainGlobals "prolonged" = some (some (.ref f_q21)))
    (lq21 : K.lookup f_q21 = some ⟨ocq21, odq21, .func (PySem.W.fnOf "prolonged" "prolonged" (defArgs s_prolonged) (defBody s_prolonged) (defScope s_prolonged) .none kVq21 dcq21 pmq21 anq21 cdq21 ctq21), slq21⟩)
    (cq21 : PySem.W.codeIn K cdq21 "prolonged" = true)
    (kq21 : PySem.W.keepIn K (.ref f_q21) = true)
    (aq22 : PySem.W.nsIn K mainGlobals "walked" = some (some (.ref f_q22)))
    (lq22 : K.lookup f_q22 = some ⟨ocq22, odq22, .func (PySem.W.fnOf "walked" "walked" (defArgs s_walked) (defBody s_walked) (defScope s_walked) .none kVq22 dcq22 pmq22 anq22 cdq22 ctq22), slq22⟩)
    (cq22 : PySem.W.codeIn K cdq22 "walked" = true)
    (kq22 : PySem.W.keepIn K (.ref f_q22) = true)
    (aq23 : PySem.W.nsIn K mainGlobals "orders_to_prolong" = some (some (.ref f_q23)))
    (lq23 : K.lookup f_q23 = some ⟨ocq23, odq23, .func (PySem.W.fnOf "orders_to_prolong" "orders_to_prolong" (defArgs s_orders_to_prolong) (defBody s_orders_to_prolong) (defScope s_orders_to_prolong) .none kVq23 dcq23 pmq23 anq23 cdq23 ctq23), slq23⟩)
    (cq23 : PySem.W.codeIn K cdq23 "orders_to_prolong" = true)
    (kq23 : PySem.W.keepIn K (.ref f_q23) = true)
    (aq24 : PySem.W.nsIn K mainGlobals "day_if_prolonged" = some (some (.ref f_q24)))
    (lq24 : K.lookup f_q24 = some ⟨ocq24, odq24, .func (PySem.W.fnOf "day_if_prolonged" "day_if_prolonged" (defArgs s_day_if_prolonged) (defBody s_day_if_prolonged) (defScope s_day_if_prolonged) .none kVq24 dcq24 pmq24 anq24 cdq24 ctq24), slq24⟩)
    (cq24 : PySem.W.codeIn K cdq24 "day_if_prolonged" = true)
    (kq24 : PySem.W.keepIn K (.ref f_q24) = true)
    (aq25 : PySem.W.findIn K (.ref C_InvalidOrder) "__init__" = some (some (.ref f_q25)))
    (iq25 : PySem.W.typeIn K (.ref f_q25) = some (.type "function"))
    (lq25 : K.lookup f_q25 = some ⟨ocq25, odq25, .func (PySem.W.fnOf "__init__" "InvalidOrder.__init__" (defArgs s_InvalidOrderX_initX) (defBody s_InvalidOrderX_initX) (defScope s_InvalidOrderX_initX) .none kVq25 dcq25 pmq25 anq25 cdq25 ctq25), slq25⟩)
    (cq25 : PySem.W.codeIn K cdq25 "InvalidOrder.__init__" = true)
    (kq25 : PySem.W.keepIn K (.ref f_q25) = true)
    (aq26 : PySem.W.findIn K (.ref C_UnknownOrder) "__init__" = some (some (.ref f_q26)))
    (iq26 : PySem.W.typeIn K (.ref f_q26) = some (.type "function"))
    (lq26 : K.lookup f_q26 = some ⟨ocq26, odq26, .func (PySem.W.fnOf "__init__" "UnknownOrder.__init__" (defArgs s_UnknownOrderX_initX) (defBody s_UnknownOrderX_initX) (defScope s_UnknownOrderX_initX) .none kVq26 dcq26 pmq26 anq26 cdq26 ctq26), slq26⟩)
    (cq26 : PySem.W.codeIn K cdq26 "UnknownOrder.__init__" = true)
    (kq26 : PySem.W.keepIn K (.ref f_q26) = true)
    (aq27 : PySem.W.nsIn K mainGlobals "_law_taken" = some (some (.ref f_q27)))
    (lq27 : K.lookup f_q27 = some ⟨ocq27, odq27, .func (PySem.W.fnOf "_law_taken" "_law_taken" (defArgs s__law_taken) (defBody s__law_taken) (defScope s__law_taken) .none kVq27 dcq27 pmq27 anq27 cdq27 ctq27), slq27⟩)
    (cq27 : PySem.W.codeIn K cdq27 "_law_taken" = true)
    (kq27 : PySem.W.keepIn K (.ref f_q27) = true)
    (aq28 : PySem.W.nsIn K mainGlobals "_law_alike" = some (some (.ref f_q28)))
    (lq28 : K.lookup f_q28 = some ⟨ocq28, odq28, .func (PySem.W.fnOf "_law_alike" "_law_alike" (defArgs s__law_alike) (defBody s__law_alike) (defScope s__law_alike) .none kVq28 dcq28 pmq28 anq28 cdq28 ctq28), slq28⟩)
    (cq28 : PySem.W.codeIn K cdq28 "_law_alike" = true)
    (kq28 : PySem.W.keepIn K (.ref f_q28) = true)
    (aq29 : PySem.W.nsIn K mainGlobals "_law_raised" = some (some (.ref f_q29)))
    (lq29 : K.lookup f_q29 = some ⟨ocq29, odq29, .func (PySem.W.fnOf "_law_raised" "_law_raised" (defArgs s__law_raised) (defBody s__law_raised) (defScope s__law_raised) .none kVq29 dcq29 pmq29 anq29 cdq29 ctq29), slq29⟩)
    (cq29 : PySem.W.codeIn K cdq29 "_law_raised" = true)
    (kq29 : PySem.W.keepIn K (.ref f_q29) = true)
    (aq30 : PySem.W.nsIn K mainGlobals "_law_orders" = some (some (.ref f_q30)))
    (lq30 : K.lookup f_q30 = some ⟨ocq30, odq30, .func (PySem.W.fnOf "_law_orders" "_law_orders" (defArgs s__law_orders) (defBody s__law_orders) (defScope s__law_orders) .none kVq30 dcq30 pmq30 anq30 cdq30 ctq30), slq30⟩)
    (cq30 : PySem.W.codeIn K cdq30 "_law_orders" = true)
    (kq30 : PySem.W.keepIn K (.ref f_q30) = true)
    (aq31 : PySem.W.nsIn K mainGlobals "_law_book" = some (some (.ref f_q31)))
    (lq31 : K.lookup f_q31 = some ⟨ocq31, odq31, .func (PySem.W.fnOf "_law_book" "_law_book" (defArgs s__law_book) (defBody s__law_book) (defScope s__law_book) .none kVq31 dcq31 pmq31 anq31 cdq31 ctq31), slq31⟩)
    (cq31 : PySem.W.codeIn K cdq31 "_law_book" = true)
    (kq31 : PySem.W.keepIn K (.ref f_q31) = true)
    (aq32 : PySem.W.nsIn K mainGlobals "_law_index" = some (some (.ref f_q32)))
    (lq32 : K.lookup f_q32 = some ⟨ocq32, odq32, .func (PySem.W.fnOf "_law_index" "_law_index" (defArgs s__law_index) (defBody s__law_index) (defScope s__law_index) .none kVq32 dcq32 pmq32 anq32 cdq32 ctq32), slq32⟩)
    (cq32 : PySem.W.codeIn K cdq32 "_law_index" = true)
    (kq32 : PySem.W.keepIn K (.ref f_q32) = true)
    (aq33 : PySem.W.nsIn K mainGlobals "_law_ended" = some (some (.ref f_q33)))
    (lq33 : K.lookup f_q33 = some ⟨ocq33, odq33, .func (PySem.W.fnOf "_law_ended" "_law_ended" (defArgs s__law_ended) (defBody s__law_ended) (defScope s__law_ended) .none kVq33 dcq33 pmq33 anq33 cdq33 ctq33), slq33⟩)
    (cq33 : PySem.W.codeIn K cdq33 "_law_ended" = true)
    (kq33 : PySem.W.keepIn K (.ref f_q33) = true)
    (aq34 : PySem.W.nsIn K mainGlobals "_law_walk" = some (some (.ref f_q34)))
    (lq34 : K.lookup f_q34 = some ⟨ocq34, odq34, .func (PySem.W.fnOf "_law_walk" "_law_walk" (defArgs s__law_walk) (defBody s__law_walk) (defScope s__law_walk) .none kVq34 dcq34 pmq34 anq34 cdq34 ctq34), slq34⟩)
    (cq34 : PySem.W.codeIn K cdq34 "_law_walk" = true)
    (kq34 : PySem.W.keepIn K (.ref f_q34) = true)
    (aq35 : PySem.W.nsIn K mainGlobals "_law_are_rejected" = some (some (.ref f_q35)))
    (lq35 : K.lookup f_q35 = some ⟨ocq35, odq35, .func (PySem.W.fnOf "_law_are_rejected" "_law_are_rejected" (defArgs s__law_are_rejected) (defBody s__law_are_rejected) (defScope s__law_are_rejected) .none kVq35 dcq35 pmq35 anq35 (.ref cL_q35) ctq35), slq35⟩)
    (cq35 : PySem.W.codeIn K (.ref cL_q35) "_law_are_rejected" = true)
    (kq35 : PySem.W.keepIn K (.ref f_q35) = true)
    (aq36 : PySem.W.nsIn K mainGlobals "law" = some (some (.ref f_q36)))
    (lq36 : K.lookup f_q36 = some ⟨ocq36, odq36, .func (PySem.W.fnOf "law" "law" (defArgs s_law) (defBody s_law) (defScope s_law) .none kVq36 dcq36 pmq36 anq36 (.ref cL_q36) ctq36), slq36⟩)
    (cq36 : PySem.W.codeIn K (.ref cL_q36) "law" = true)
    (kq36 : PySem.W.keepIn K (.ref f_q36) = true)
    (in_Walker_step : PySem.W.findIn K (.ref C_Walker) "step" = some (some (.ref f_q14)))
    (in_Walker_skip : PySem.W.findIn K (.ref C_Walker) "skip" = some (some (.ref f_q15)))
    (in_Walker_finish : PySem.W.findIn K (.ref C_Walker) "finish" = some (some (.ref f_q16)))
    (pg_Book : PySem.W.plainGet K C_Book Str.empty = true)
    (hd_Book : PySem.W.hasDictIn K C_Book = true)
    (po_Book : PySem.W.plainOver K C_Book = true)
    (sa_Book : PySem.W.findIn K (.ref C_Book) "__setattr__" = some (some (.builtin "object.__setattr__")))
    (mk_Book : PySem.W.makesIn K C_Book = true)
    (kc_Book : PySem.W.keepIn K (.ref C_Book) = true)
    (pg_Letter : PySem.W.plainGet K C_Letter Str.empty = true)
    (hd_Letter : PySem.W.hasDictIn K C_Letter = true)
    (po_Letter : PySem.W.plainOver K C_Letter = true)
    (sa_Letter : PySem.W.findIn K (.ref C_Letter) "__setattr__" = some (some (.builtin "object.__setattr__")))
    (mk_Letter : PySem.W.makesIn K C_Letter = true)
    (kc_Letter : PySem.W.keepIn K (.ref C_Letter) = true)
    (pg_Walker : PySem.W.plainGet K C_Walker Str.empty = true)
    (hd_Walker : PySem.W.hasDictIn K C_Walker = true)
    (po_Walker : PySem.W.plainOver K C_Walker = true)
    (sa_Walker : PySem.W.findIn K (.ref C_Walker) "__setattr__" = some (some (.builtin "object.__setattr__")))
    (mk_Walker : PySem.W.makesIn K C_Walker = true)
    (kc_Walker : PySem.W.keepIn K (.ref C_Walker) = true)
    (n_Book_listed : PySem.W.findIn K (.ref C_Book) "listed" = some none)
    (n_Letter_book : PySem.W.findIn K (.ref C_Letter) "book" = some none)
    (n_Letter_address : PySem.W.findIn K (.ref C_Letter) "address" = some none)
    (n_Letter_day : PySem.W.findIn K (.ref C_Letter) "day" = some none)
    (n_Letter_count : PySem.W.findIn K (.ref C_Letter) "count" = some none)
    (n_Letter_known : PySem.W.findIn K (.ref C_Letter) "known" = some none)
    (n_Letter_is_endless : PySem.W.findIn K (.ref C_Letter) "is_endless" = some none)
    (n_Letter_change : PySem.W.findIn K (.ref C_Letter) "change" = some none)
    (n_Walker_book : PySem.W.findIn K (.ref C_Walker) "book" = some none)
    (n_Walker_address : PySem.W.findIn K (.ref C_Walker) "address" = some none)
    (n_Walker_day : PySem.W.findIn K (.ref C_Walker) "day" = some none)
    (n_Walker_count : PySem.W.findIn K (.ref C_Walker) "count" = some none)
    (n_Walker_known : PySem.W.findIn K (.ref C_Walker) "known" = some none)
    (n_Walker_is_endless : PySem.W.findIn K (.ref C_Walker) "is_endless" = some none)
    (n_Walker_change : PySem.W.findIn K (.ref C_Walker) "change" = some none)
    (n_Walker_goal : PySem.W.findIn K (.ref C_Walker) "goal" = some none)
    (n_Walker_needed : PySem.W.findIn K (.ref C_Walker) "needed" = some none)
    (c_LETTERS : PySem.W.nsIn K mainGlobals "LETTERS" = some (some (.str "abcdefghijklmnopqrstuvwxyz" tg_0)))
    (c_MAX_LETTERS : PySem.W.nsIn K mainGlobals "MAX_LETTERS" = some (some (.int 8 tg_1)))
    (c_MAX_ORDERS_books : PySem.W.nsIn K mainGlobals "MAX_ORDERS_books" = some (some (.int 30 tg_2)))
    (c_MAX_DAY : PySem.W.nsIn K mainGlobals "MAX_DAY" = some (some (.int 1000000000000000000 tg_3)))
    (c_MAX_WAY : PySem.W.nsIn K mainGlobals "MAX_WAY" = some (some (.int 30 tg_4)))
    (taB : PySem.W.typeIn K (.ref C_MailError) = some mcB)
    (raB : PySem.W.readsIn K C_MailError mcB = true)
    (rbB : PySem.W.specialIn K (.ref C_MailError) "__getattribute__" = some (some (.builtin "type.__getattribute__")))
    (fcB : PySem.W.findCls K (.ref C_MailError) mcB "__init__" = some (.val (.builtin "ValueError.__init__")))
    (xb_InvalidAddress : PySem.W.excIn K C_InvalidAddress [.type "ValueError", .type "Exception", .type "BaseException", .type "object"] "ValueError.__new__" = true)
    (xk_InvalidAddress : PySem.W.keepIn K (.ref C_InvalidAddress) = true)
    (xs_InvalidAddress : PySem.W.subIn K (.ref C_InvalidAddress) (.type "BaseException") = some true)
    (xt_InvalidAddress : PySem.W.typeIn K (.ref C_InvalidAddress) = some (.type "type"))
    (xb_InvalidDay : PySem.W.excIn K C_InvalidDay [.type "ValueError", .type "Exception", .type "BaseException", .type "object"] "ValueError.__new__" = true)
    (xk_InvalidDay : PySem.W.keepIn K (.ref C_InvalidDay) = true)
    (xs_InvalidDay : PySem.W.subIn K (.ref C_InvalidDay) (.type "BaseException") = some true)
    (xt_InvalidDay : PySem.W.typeIn K (.ref C_InvalidDay) = some (.type "type"))
    (eg_InvalidAddress : PySem.W.findIn K (.ref C_InvalidAddress) "__getattribute__" = some (some (.builtin "BaseException.__getattribute__")))
    (ek_InvalidAddress : PySem.W.findIn K (.ref C_InvalidAddress) "__getattr__" = some none)
    (es_InvalidAddress : PySem.W.subIn K (.ref C_InvalidAddress) (.type "BaseException") = some true)
    (ed_InvalidAddress : PySem.W.hasDictIn K C_InvalidAddress = true)
    (ea_InvalidAddress : PySem.W.findIn K (.ref C_InvalidAddress) "__class__" = some (some (.builtin "object.__class__")))
    (en_InvalidAddress : PySem.W.specialIn K (.builtin "object.__class__") "__get__" = some (some (.builtin "getset_descriptor.__get__")))
    (et_InvalidAddress : PySem.W.takesIn K (.builtin "object.__class__") = some true)
    (em_InvalidAddress : PySem.W.mroIn K C_InvalidAddress (.type "object") = some true)
    (ex_InvalidAddress : PySem.W.exmOne K (.ref C_InvalidAddress) (.ref C_MailError) = some true)
    (ev_InvalidAddress : PySem.W.kitOne K (.ref C_InvalidAddress) (.type "ValueError") = some true)
    (kt_InvalidAddress_InvalidOrder : PySem.W.kitOne K (.ref C_InvalidAddress) (.ref C_InvalidOrder) = some false)
    (kt_InvalidAddress_UnknownOrder : PySem.W.kitOne K (.ref C_InvalidAddress) (.ref C_UnknownOrder) = some false)
    (kt_InvalidAddress_InvalidAddress : PySem.W.kitOne K (.ref C_InvalidAddress) (.ref C_InvalidAddress) = some true)
    (kt_InvalidAddress_InvalidDay : PySem.W.kitOne K (.ref C_InvalidAddress) (.ref C_InvalidDay) = some false)
    (kt_InvalidAddress_InvalidNumber : PySem.W.kitOne K (.ref C_InvalidAddress) (.ref C_InvalidNumber) = some false)
    (eg_InvalidDay : PySem.W.findIn K (.ref C_InvalidDay) "__getattribute__" = some (some (.builtin "BaseException.__getattribute__")))
    (ek_InvalidDay : PySem.W.findIn K (.ref C_InvalidDay) "__getattr__" = some none)
    (es_InvalidDay : PySem.W.subIn K (.ref C_InvalidDay) (.type "BaseException") = some true)
    (ed_InvalidDay : PySem.W.hasDictIn K C_InvalidDay = true)
    (ea_InvalidDay : PySem.W.findIn K (.ref C_InvalidDay) "__class__" = some (some (.builtin "object.__class__")))
    (en_InvalidDay : PySem.W.specialIn K (.builtin "object.__class__") "__get__" = some (some (.builtin "getset_descriptor.__get__")))
    (et_InvalidDay : PySem.W.takesIn K (.builtin "object.__class__") = some true)
    (em_InvalidDay : PySem.W.mroIn K C_InvalidDay (.type "object") = some true)
    (ex_InvalidDay : PySem.W.exmOne K (.ref C_InvalidDay) (.ref C_MailError) = some true)
    (ev_InvalidDay : PySem.W.kitOne K (.ref C_InvalidDay) (.type "ValueError") = some true)
    (kt_InvalidDay_InvalidOrder : PySem.W.kitOne K (.ref C_InvalidDay) (.ref C_InvalidOrder) = some false)
    (kt_InvalidDay_UnknownOrder : PySem.W.kitOne K (.ref C_InvalidDay) (.ref C_UnknownOrder) = some false)
    (kt_InvalidDay_InvalidAddress : PySem.W.kitOne K (.ref C_InvalidDay) (.ref C_InvalidAddress) = some false)
    (kt_InvalidDay_InvalidDay : PySem.W.kitOne K (.ref C_InvalidDay) (.ref C_InvalidDay) = some true)
    (kt_InvalidDay_InvalidNumber : PySem.W.kitOne K (.ref C_InvalidDay) (.ref C_InvalidNumber) = some false)
    (eg_InvalidOrder : PySem.W.findIn K (.ref C_InvalidOrder) "__getattribute__" = some (some (.builtin "BaseException.__getattribute__")))
    (ek_InvalidOrder : PySem.W.findIn K (.ref C_InvalidOrder) "__getattr__" = some none)
    (es_InvalidOrder : PySem.W.subIn K (.ref C_InvalidOrder) (.type "BaseException") = some true)
    (ed_InvalidOrder : PySem.W.hasDictIn K C_InvalidOrder = true)
    (ea_InvalidOrder : PySem.W.findIn K (.ref C_InvalidOrder) "__class__" = some (some (.builtin "object.__class__")))
    (en_InvalidOrder : PySem.W.specialIn K (.builtin "object.__class__") "__get__" = some (some (.builtin "getset_descriptor.__get__")))
    (et_InvalidOrder : PySem.W.takesIn K (.builtin "object.__class__") = some true)
    (em_InvalidOrder : PySem.W.mroIn K C_InvalidOrder (.type "object") = some true)
    (ex_InvalidOrder : PySem.W.exmOne K (.ref C_InvalidOrder) (.ref C_MailError) = some true)
    (ev_InvalidOrder : PySem.W.kitOne K (.ref C_InvalidOrder) (.type "ValueError") = some true)
    (kt_InvalidOrder_InvalidOrder : PySem.W.kitOne K (.ref C_InvalidOrder) (.ref C_InvalidOrder) = some true)
    (kt_InvalidOrder_UnknownOrder : PySem.W.kitOne K (.ref C_InvalidOrder) (.ref C_UnknownOrder) = some false)
    (kt_InvalidOrder_InvalidAddress : PySem.W.kitOne K (.ref C_InvalidOrder) (.ref C_InvalidAddress) = some false)
    (kt_InvalidOrder_InvalidDay : PySem.W.kitOne K (.ref C_InvalidOrder) (.ref C_InvalidDay) = some false)
    (kt_InvalidOrder_InvalidNumber : PySem.W.kitOne K (.ref C_InvalidOrder) (.ref C_InvalidNumber) = some false)
    (eg_UnknownOrder : PySem.W.findIn K (.ref C_UnknownOrder) "__getattribute__" = some (some (.builtin "BaseException.__getattribute__")))
    (ek_UnknownOrder : PySem.W.findIn K (.ref C_UnknownOrder) "__getattr__" = some none)
    (es_UnknownOrder : PySem.W.subIn K (.ref C_UnknownOrder) (.type "BaseException") = some true)
    (ed_UnknownOrder : PySem.W.hasDictIn K C_UnknownOrder = true)
    (ea_UnknownOrder : PySem.W.findIn K (.ref C_UnknownOrder) "__class__" = some (some (.builtin "object.__class__")))
    (en_UnknownOrder : PySem.W.specialIn K (.builtin "object.__class__") "__get__" = some (some (.builtin "getset_descriptor.__get__")))
    (et_UnknownOrder : PySem.W.takesIn K (.builtin "object.__class__") = some true)
    (em_UnknownOrder : PySem.W.mroIn K C_UnknownOrder (.type "object") = some true)
    (ex_UnknownOrder : PySem.W.exmOne K (.ref C_UnknownOrder) (.ref C_MailError) = some true)
    (ev_UnknownOrder : PySem.W.kitOne K (.ref C_UnknownOrder) (.type "ValueError") = some true)
    (kt_UnknownOrder_InvalidOrder : PySem.W.kitOne K (.ref C_UnknownOrder) (.ref C_InvalidOrder) = some false)
    (kt_UnknownOrder_UnknownOrder : PySem.W.kitOne K (.ref C_UnknownOrder) (.ref C_UnknownOrder) = some true)
    (kt_UnknownOrder_InvalidAddress : PySem.W.kitOne K (.ref C_UnknownOrder) (.ref C_InvalidAddress) = some false)
    (kt_UnknownOrder_InvalidDay : PySem.W.kitOne K (.ref C_UnknownOrder) (.ref C_InvalidDay) = some false)
    (kt_UnknownOrder_InvalidNumber : PySem.W.kitOne K (.ref C_UnknownOrder) (.ref C_InvalidNumber) = some false)
    (na_InvalidOrder : PySem.W.findIn K (.ref C_InvalidOrder) "index" = some none)
    (na_UnknownOrder : PySem.W.findIn K (.ref C_UnknownOrder) "index" = some none)
    (b_isinstance : PySem.W.nsIn K mainGlobals "isinstance" = some none)
    (b_int : PySem.W.nsIn K mainGlobals "int" = some none)
    (b_bool : PySem.W.nsIn K mainGlobals "bool" = some none)
    (b_str : PySem.W.nsIn K mainGlobals "str" = some none)
    (b_tuple : PySem.W.nsIn K mainGlobals "tuple" = some none)
    (b_list : PySem.W.nsIn K mainGlobals "list" = some none)
    (b_len : PySem.W.nsIn K mainGlobals "len" = some none)
    (b_all : PySem.W.nsIn K mainGlobals "all" = some none)
    (b_enumerate : PySem.W.nsIn K mainGlobals "enumerate" = some none)
    (b_range : PySem.W.nsIn K mainGlobals "range" = some none)
    (b_min : PySem.W.nsIn K mainGlobals "min" = some none)
    (b_max : PySem.W.nsIn K mainGlobals "max" = some none)
    (b_sorted : PySem.W.nsIn K mainGlobals "sorted" = some none)
    (b_super : PySem.W.nsIn K mainGlobals "super" = some none)
    (b_ValueError : PySem.W.nsIn K mainGlobals "ValueError" = some none)
    (uf : ((l.prog.main.file : Str) == FL) = true)
    (ut : (l.prog.main.scope.names.lookup ("super" : Str)).isSome = false)
    (sf : PySem.W.selfFirst K C_Book = true)
    (hTb : ∀ P ∈ [PL_q35, PL_q36], h.get? P = some (PySem.W.tabObj #[]))
    (hnP_PL_q35 : K.lookup PL_q35 = none)
    (hcH_PL_q35 : PySem.W.codeHdIn K cL_q35 PL_q35 = true)
    (hnP_PL_q36 : K.lookup PL_q36 = none)
    (hcH_PL_q36 : PySem.W.codeHdIn K cL_q36 PL_q36 = true)
    (hne_0_1 : PL_q35 ≠ PL_q36) :
    LamX.LawAtS l w K CX0 10 63 "_law_script" mg fa h := by
  have e := hfa.symm.trans (PySem.W.mg_of X G aq36)
  cases e
  have Fq0 := fun_mk (st := s_is_integer) lq0 cq0 kq0
  have bq0 := Fq0.binds (ps := ["value", "low", "high"]) fun _ _ _ _ _ _ us hl => match us, hl with | [_, _, _], _ => rfl
  have Fq1 := fun_mk (st := s_is_address) lq1 cq1 kq1
  have bq1 := Fq1.binds (ps := ["value"]) fun _ _ _ _ _ _ us hl => match us, hl with | [_], _ => rfl
  have Fq2 := fun_mk (st := s_check_letter) lq2 cq2 kq2
  have bq2 := Fq2.binds (ps := ["address", "day"]) fun _ _ _ _ _ _ us hl => match us, hl with | [_, _], _ => rfl
  have Fq3 := fun_mk (st := s_is_order) lq3 cq3 kq3
  have bq3 := Fq3.binds (ps := ["value"]) fun _ _ _ _ _ _ us hl => match us, hl with | [_], _ => rfl
  have Fq4 := fun_mk (st := s_do_overlap) lq4 cq4 kq4
  have bq4 := Fq4.binds (ps := ["one", "other"]) fun _ _ _ _ _ _ us hl => match us, hl with | [_, _], _ => rfl
  have Fq5 := fun_mk (st := s_BookX_initX) lq5 cq5 kq5
  have Fq6 := fun_mk (st := s_Book_orders) lq6 cq6 kq6
  have bq6 := Fq6.binds (ps := ["self"]) fun _ _ _ _ _ _ us hl => match us, hl with | [_], _ => rfl
  have Fq7 := fun_mk (st := s_BookX_addX) lq7 cq7 kq7
  have bq7 := Fq7.binds (ps := ["self", "other"]) fun _ _ _ _ _ _ us hl => match us, hl with | [_, _], _ => rfl
  have Fq8 := fun_mk (st := s_Book_check_order) lq8 cq8 kq8
  have bq8 := Fq8.binds (ps := ["self", "index"]) fun _ _ _ _ _ _ us hl => match us, hl with | [_, _], _ => rfl
  have Fq9 := fun_mk (st := s_Book_order_for) lq9 cq9 kq9
  have bq9 := Fq9.binds (ps := ["self", "address", "day"]) fun _ _ _ _ _ _ us hl => match us, hl with | [_, _, _], _ => rfl
  have Fq10 := fun_mk (st := s_Book_next_change) lq10 cq10 kq10
  have bq10 := Fq10.binds (ps := ["self", "day"]) fun _ _ _ _ _ _ us hl => match us, hl with | [_, _], _ => rfl
  have Fq11 := fun_mk (st := s_book_of) lq11 cq11 kq11
  have bq11 := Fq11.binds (ps := ["orders"]) fun _ _ _ _ _ _ us hl => match us, hl with | [_], _ => rfl
  have Fq12 := fun_mk (st := s_LetterX_initX) lq12 cq12 kq12
  have bq12 := Fq12.binds (ps := ["self", "book", "address", "day"]) fun _ _ _ _ _ _ us hl => match us, hl with | [_, _, _, _], _ => rfl
  have Fq13 := fun_mk (st := s_Letter_order_now) lq13 cq13 kq13
  have bq13 := Fq13.binds (ps := ["self"]) fun _ _ _ _ _ _ us hl => match us, hl with | [_], _ => rfl
  have Fq14 := fun_mk (st := s_Letter_step) lq14 cq14 kq14
  have bq14 := Fq14.binds (ps := ["self"]) fun _ _ _ _ _ _ us hl => match us, hl with | [_], _ => rfl
  have Fq15 := fun_mk (st := s_Letter_skip) lq15 cq15 kq15
  have bq15 := Fq15.binds (ps := ["self"]) fun _ _ _ _ _ _ us hl => match us, hl with | [_], _ => rfl
  have Fq16 := fun_mk (st := s_Letter_finish) lq16 cq16 kq16
  have bq16 := Fq16.binds (ps := ["self"]) fun _ _ _ _ _ _ us hl => match us, hl with | [_], _ => rfl
  have Fq17 := sfun_mk (st := s_WalkerX_initX) lq17 cq17 kq17 lcq17 hvq17 ceq17 icq17 suq17 (PySem.W.mg_none_of X G b_super) opq
  have bq17 : Binds K (PySem.W.ksFn "__init__" "Walker.__init__" (defArgs s_WalkerX_initX) (defBody s_WalkerX_initX) (defScope s_WalkerX_initX) .none kVq17 dcq17 pmq17 anq17 (.ref cda_q17) ctq17 cc_q17) ["self", "book", "address", "day", "goal"] [] := .all (fun us hl => match us, hl with | [_, _, _, _, _], _ => rfl)
  have Fq18 := sfun_mk (st := s_Walker_order_now) lq18 cq18 kq18 lcq18 hvq18 ceq18 icq18 suq18 (PySem.W.mg_none_of X G b_super) opq
  have bq18 : Binds K (PySem.W.ksFn "order_now" "Walker.order_now" (defArgs s_Walker_order_now) (defBody s_Walker_order_now) (defScope s_Walker_order_now) .none kVq18 dcq18 pmq18 anq18 (.ref cda_q18) ctq18 cc_q18) ["self"] [] := .all (fun us hl => match us, hl with | [_], _ => rfl)
  have Fq19 := fun_mk (st := s_Walker_has_come) lq19 cq19 kq19
  have bq19 := Fq19.binds (ps := ["self"]) fun _ _ _ _ _ _ us hl => match us, hl with | [_], _ => rfl
  have Fq20 := fun_mk (st := s_last_ended) lq20 cq20 kq20
  have bq20 := Fq20.binds (ps := ["book", "address", "day"]) fun _ _ _ _ _ _ us hl => match us, hl with | [_, _, _], _ => rfl
  have Fq21 := fun_mk (st := s_prolonged) lq21 cq21 kq21
  have bq21 := Fq21.binds (ps := ["book", "index", "day"]) fun _ _ _ _ _ _ us hl => match us, hl with | [_, _, _], _ => rfl
  have Fq22 := fun_mk (st := s_walked) lq22 cq22 kq22
  have bq22 := Fq22.binds (ps := ["book", "address", "day", "goal"]) fun _ _ _ _ _ _ us hl => match us, hl with | [_, _, _, _], _ => rfl
  have Fq23 := fun_mk (st := s_orders_to_prolong) lq23 cq23 kq23
  have bq23 := Fq23.binds (ps := ["book", "address", "day", "goal"]) fun _ _ _ _ _ _ us hl => match us, hl with | [_, _, _, _], _ => rfl
  have Fq24 := fun_mk (st := s_day_if_prolonged) lq24 cq24 kq24
  have bq24 := Fq24.binds (ps := ["book", "address", "day", "goal"]) fun _ _ _ _ _ _ us hl => match us, hl with | [_, _, _, _], _ => rfl
  have Fq25 := fun_mk (st := s_InvalidOrderX_initX) lq25 cq25 kq25
  have bq25 := Fq25.binds (ps := ["self", "index"]) fun _ _ _ _ _ _ us hl => match us, hl with | [_, _], _ => rfl
  have Fq26 := fun_mk (st := s_UnknownOrderX_initX) lq26 cq26 kq26
  have bq26 := Fq26.binds (ps := ["self", "index"]) fun _ _ _ _ _ _ us hl => match us, hl with | [_, _], _ => rfl
  have Fq27 := fun_mk (st := s__law_taken) lq27 cq27 kq27
  have bq27 := Fq27.binds (ps := ["_law_row", "_law_many"]) fun _ _ _ _ _ _ us hl => match us, hl with | [_, _], _ => rfl
  have Fq28 := fun_mk (st := s__law_alike) lq28 cq28 kq28
  have bq28 := Fq28.binds (ps := ["_law_one", "_law_due"]) fun _ _ _ _ _ _ us hl => match us, hl with | [_, _], _ => rfl
  have Fq29 := fun_mk (st := s__law_raised) lq29 cq29 kq29
  have bq29 := Fq29.binds (ps := ["_law_work"]) fun _ _ _ _ _ _ us hl => match us, hl with | [_], _ => rfl
  have Fq30 := fun_mk (st := s__law_orders) lq30 cq30 kq30
  have bq30 := Fq30.binds (ps := ["_law_row", "_law_most", "_law_long"]) fun _ _ _ _ _ _ us hl => match us, hl with | [_, _, _], _ => rfl
  have Fq31 := fun_mk (st := s__law_book) lq31 cq31 kq31
  have bq31 := Fq31.binds (ps := ["_law_orders_here"]) fun _ _ _ _ _ _ us hl => match us, hl with | [_], _ => rfl
  have Fq32 := fun_mk (st := s__law_index) lq32 cq32 kq32
  have bq32 := Fq32.binds (ps := ["_law_orders_here", "_law_address", "_law_day"]) fun _ _ _ _ _ _ us hl => match us, hl with | [_, _, _], _ => rfl
  have Fq33 := fun_mk (st := s__law_ended) lq33 cq33 kq33
  have bq33 := Fq33.binds (ps := ["_law_orders_here", "_law_address", "_law_day"]) fun _ _ _ _ _ _ us hl => match us, hl with | [_, _, _], _ => rfl
  have Fq34 := fun_mk (st := s__law_walk) lq34 cq34 kq34
  have bq34 := Fq34.binds (ps := ["_law_orders_here", "_law_address", "_law_day", "_law_goal", "_law_allowed"]) fun _ _ _ _ _ _ us hl => match us, hl with | [_, _, _, _, _], _ => rfl
  have Fq35 := fun_mk (st := s__law_are_rejected) lq35 cq35 kq35
  have bq35 := Fq35.binds (ps := ["_law_book_here", "_law_orders_here"]) fun _ _ _ _ _ _ us hl => match us, hl with | [_, _], _ => rfl
  have Fq36 := fun_mk (st := s_law) lq36 cq36 kq36
  have bq36 := Fq36.binds (ps := ["_law_script"]) fun _ _ _ _ _ _ us hl => match us, hl with | [_], _ => rfl
  have DC_q35 : GDefC K mg "_law_are_rejected" s__law_are_rejected ["_law_book_here", "_law_orders_here"] cL_q35 := ⟨_, _, ⟨⟨_, _, _, _, _, _, _, _, rfl, lq35, cq35⟩⟩, PySem.W.mg_of X G aq35, bq35, kq35⟩
  have FC : FunC K "law" "law" s_law _ _ cL_q36 := ⟨⟨_, _, _, _, _, _, _, _, rfl, lq36, cq36⟩⟩
  have T : Top K mg C_Book C_Letter C_Walker C_MailError C_InvalidOrder C_UnknownOrder C_InvalidAddress C_InvalidDay C_InvalidNumber FL := ⟨⟨_, _, Fq0, PySem.W.mg_of X G aq0, bq0⟩,
    ⟨_, _, Fq1, PySem.W.mg_of X G aq1, bq1⟩,
    ⟨_, _, Fq2, PySem.W.mg_of X G aq2, bq2⟩,
    ⟨_, _, Fq3, PySem.W.mg_of X G aq3, bq3⟩,
    ⟨_, _, Fq4, PySem.W.mg_of X G aq4, bq4⟩,
    ⟨_, _, Fq5, ⟨mk_Book, aq5, iq5, kc_Book⟩, PySem.W.mg_of X G aC_Book, bind_star1 (B := fun xs => bindArgs _ ⟨xs, []⟩) (fun _ => rfl) (fun _ _ _ => rfl)⟩,
    ⟨_, _, _, Fq6, ⟨aq6, pgq6, ptq6, ⟨_, prq6⟩⟩, bq6⟩,
    ⟨_, _, Fq7, ⟨aq7, iq7, kq7⟩, bq7⟩,
    ⟨_, _, Fq8, ⟨aq8, iq8, kq8⟩, bq8⟩,
    ⟨_, _, Fq9, ⟨aq9, iq9, kq9⟩, bq9⟩,
    ⟨_, _, Fq10, ⟨aq10, iq10, kq10⟩, bq10⟩,
    ⟨_, _, Fq11, PySem.W.mg_of X G aq11, bq11⟩,
    ⟨_, _, Fq12, ⟨mk_Letter, aq12, iq12, kc_Letter⟩, PySem.W.mg_of X G aC_Letter, bq12⟩,
    ⟨_, _, Fq13, ⟨aq13, iq13, kq13⟩, bq13⟩,
    ⟨_, _, Fq14, ⟨aq14, iq14, kq14⟩, bq14⟩,
    ⟨_, _, Fq15, ⟨aq15, iq15, kq15⟩, bq15⟩,
    ⟨_, _, Fq16, ⟨aq16, iq16, kq16⟩, bq16⟩,
    ⟨_, ⟨_, _, _, _, Fq17, aq17, iq17, bq17, ⟨smq17, stq17, snq17, by decide +kernel⟩⟩, _, Fq12, bq12⟩,
    ⟨_, ⟨_, _, _, _, Fq18, aq18, iq18, bq18, ⟨smq18, stq18, snq18, by decide +kernel⟩⟩, _, Fq13, bq13⟩,
    ⟨_, _, Fq19, ⟨aq19, iq19, kq19⟩, bq19⟩,
    ⟨_, _, Fq20, PySem.W.mg_of X G aq20, bq20⟩,
    ⟨_, _, Fq21, PySem.W.mg_of X G aq21, bq21⟩,
    ⟨_, _, Fq22, PySem.W.mg_of X G aq22, bq22⟩,
    ⟨_, _, Fq23, PySem.W.mg_of X G aq23, bq23⟩,
    ⟨_, _, Fq24, PySem.W.mg_of X G aq24, bq24⟩,
    ⟨⟨_, _, Fq25, aq25, iq25, bq25⟩, oex_of ob_InvalidOrder sa_InvalidOrder xs_InvalidOrder xt_InvalidOrder xk_InvalidOrder, PySem.W.mg_of X G ge_InvalidOrder⟩,
    ⟨⟨_, _, Fq26, aq26, iq26, bq26⟩, oex_of ob_UnknownOrder sa_UnknownOrder xs_UnknownOrder xt_UnknownOrder xk_UnknownOrder, PySem.W.mg_of X G ge_UnknownOrder⟩,
    ⟨_, _, Fq27, PySem.W.mg_of X G aq27, bq27⟩,
    ⟨_, _, Fq28, PySem.W.mg_of X G aq28, bq28⟩,
    ⟨_, _, Fq29, PySem.W.mg_of X G aq29, bq29⟩,
    ⟨_, _, Fq30, PySem.W.mg_of X G aq30, bq30⟩,
    ⟨_, _, Fq31, PySem.W.mg_of X G aq31, bq31⟩,
    ⟨_, _, Fq32, PySem.W.mg_of X G aq32, bq32⟩,
    ⟨_, _, Fq33, PySem.W.mg_of X G aq33, bq33⟩,
    ⟨_, _, Fq34, PySem.W.mg_of X G aq34, bq34⟩,
    ⟨_, _, Fq35, PySem.W.mg_of X G aq35, bq35⟩,
    ⟨_, _, Fq36, PySem.W.mg_of X G aq36, bq36⟩,
    ⟨_, _, Fq14, ⟨in_Walker_step, iq14, kq14⟩, bq14⟩,
    ⟨_, _, Fq15, ⟨in_Walker_skip, iq15, kq15⟩, bq15⟩,
    ⟨_, _, Fq16, ⟨in_Walker_finish, iq16, kq16⟩, bq16⟩,
    ⟨pg_Book, hd_Book, po_Book, sa_Book⟩,
    ⟨pg_Letter, hd_Letter, po_Letter, sa_Letter⟩,
    ⟨pg_Walker, hd_Walker, po_Walker, sa_Walker⟩,
    ⟨mk_Walker, kc_Walker, PySem.W.mg_of X G aC_Walker⟩,
    n_Book_listed,
    n_Letter_book,
    n_Letter_address,
    n_Letter_day,
    n_Letter_count,
    n_Letter_known,
    n_Letter_is_endless,
    n_Letter_change,
    n_Walker_book,
    n_Walker_address,
    n_Walker_day,
    n_Walker_count,
    n_Walker_known,
    n_Walker_is_endless,
    n_Walker_change,
    n_Walker_goal,
    n_Walker_needed,
    ⟨_, PySem.W.mg_of X G c_LETTERS⟩,
    ⟨_, PySem.W.mg_of X G c_MAX_LETTERS⟩,
    ⟨_, PySem.W.mg_of X G c_MAX_ORDERS_books⟩,
    ⟨_, PySem.W.mg_of X G c_MAX_DAY⟩,
    ⟨_, PySem.W.mg_of X G c_MAX_WAY⟩,
    PySem.W.mg_of X G ge_MailError,
    PySem.W.mg_of X G ge_InvalidOrder,
    PySem.W.mg_of X G ge_UnknownOrder,
    PySem.W.mg_of X G ge_InvalidAddress,
    PySem.W.mg_of X G ge_InvalidDay,
    PySem.W.mg_of X G ge_InvalidNumber,
    ⟨⟨_, ⟨raB, rbB⟩, fcB⟩⟩,
    ⟨xb_InvalidAddress, PySem.W.mg_of X G ge_InvalidAddress, xk_InvalidAddress, xs_InvalidAddress, xt_InvalidAddress⟩,
    ⟨xb_InvalidDay, PySem.W.mg_of X G ge_InvalidDay, xk_InvalidDay, xs_InvalidDay, xt_InvalidDay⟩,
    ⟨⟨eg_InvalidAddress, ek_InvalidAddress, es_InvalidAddress, ed_InvalidAddress, ea_InvalidAddress, en_InvalidAddress, et_InvalidAddress, em_InvalidAddress⟩, ex_InvalidAddress, ev_InvalidAddress⟩,
    kt_InvalidAddress_InvalidOrder,
    kt_InvalidAddress_UnknownOrder,
    kt_InvalidAddress_InvalidAddress,
    kt_InvalidAddress_InvalidDay,
    kt_InvalidAddress_InvalidNumber,
    ⟨⟨eg_InvalidDay, ek_InvalidDay, es_InvalidDay, ed_InvalidDay, ea_InvalidDay, en_InvalidDay, et_InvalidDay, em_InvalidDay⟩, ex_InvalidDay, ev_InvalidDay⟩,
    kt_InvalidDay_InvalidOrder,
    kt_InvalidDay_UnknownOrder,
    kt_InvalidDay_InvalidAddress,
    kt_InvalidDay_InvalidDay,
    kt_InvalidDay_InvalidNumber,
    ⟨⟨eg_InvalidOrder, ek_InvalidOrder, es_InvalidOrder, ed_InvalidOrder, ea_InvalidOrder, en_InvalidOrder, et_InvalidOrder, em_InvalidOrder⟩, ex_InvalidOrder, ev_InvalidOrder⟩,
    kt_InvalidOrder_InvalidOrder,
    kt_InvalidOrder_UnknownOrder,
    kt_InvalidOrder_InvalidAddress,
    kt_InvalidOrder_InvalidDay,
    kt_InvalidOrder_InvalidNumber,
    ⟨⟨eg_UnknownOrder, ek_UnknownOrder, es_UnknownOrder, ed_UnknownOrder, ea_UnknownOrder, en_UnknownOrder, et_UnknownOrder, em_UnknownOrder⟩, ex_UnknownOrder, ev_UnknownOrder⟩,
    kt_UnknownOrder_InvalidOrder,
    kt_UnknownOrder_UnknownOrder,
    kt_UnknownOrder_InvalidAddress,
    kt_UnknownOrder_InvalidDay,
    kt_UnknownOrder_InvalidNumber,
    na_InvalidOrder,
    na_UnknownOrder,
    PySem.W.mg_none_of X G b_isinstance,
    PySem.W.mg_none_of X G b_int,
    PySem.W.mg_none_of X G b_bool,
    PySem.W.mg_none_of X G b_str,
    PySem.W.mg_none_of X G b_tuple,
    PySem.W.mg_none_of X G b_list,
    PySem.W.mg_none_of X G b_len,
    PySem.W.mg_none_of X G b_all,
    PySem.W.mg_none_of X G b_enumerate,
    PySem.W.mg_none_of X G b_range,
    PySem.W.mg_none_of X G b_min,
    PySem.W.mg_none_of X G b_max,
    PySem.W.mg_none_of X G b_sorted,
    PySem.W.mg_none_of X G b_super,
    PySem.W.mg_none_of X G b_ValueError⟩
  refine ⟨_, [(cL_q35, PL_q35), (cL_q36, PL_q36)], spLawT K [PL_q35, PL_q36], fun p hp => (by simp only [List.mem_cons, List.not_mem_nil, or_false] at hp; rcases hp with hp | hp; (rw [hp]; exact hTb PL_q35 (by simp)); (rw [hp]; exact hTb PL_q36 (by simp))), fun p hp => (by simp only [List.mem_cons, List.not_mem_nil, or_false] at hp; rcases hp with hp | hp; (rw [hp]; exact hnP_PL_q35); (rw [hp]; exact hnP_PL_q36)), fun p hp => (by simp only [List.mem_cons, List.not_mem_nil, or_false] at hp; rcases hp with hp | hp; (rw [hp]; exact PySem.W.codeHd_of_K X hcH_PL_q35); (rw [hp]; exact PySem.W.codeHd_of_K X hcH_PL_q36)), fun s v => ?_, fun H a ns hl hb hH hS => ⟨a, ns, rfl, hS, hl, fun p hp => (by simp only [List.mem_cons, List.not_mem_nil, or_false] at hp; rcases hp with hp | hp; (rw [hp]; exact hH (cL_q35, PL_q35) (by simp)); (rw [hp]; exact hH (cL_q36, PL_q36) (by simp))), fun _ => rfl⟩, fun base _ _ tb => ok_law T ⟨uf, ut⟩ sf FC (tb (cL_q36, PL_q36) (by simp)) DC_q35 (tb (cL_q35, PL_q35) (by simp)) hne_0_1⟩
  exact .of_eq rfl
end MF
open PySem PySem.W PyProof.Rows
set_option maxRecDepth 100000 in
set_option maxHeartbeats 0 in
theorem PySem.Challenge.cw_mailforwards_k07_prolonged_orders_holds : PySem.Challenge.rw_mailforwards_k07_prolonged_orders.Holds := by
  w_on; o_law; k_head; (case hw => w_witness2)
  k_fill
  refine LamX.walk_ofTs (l := PySem.Challenge.rw_mailforwards_k07_prolonged_orders) (n := 63) (k := 10) (x := "_law_script") (CX := fun _ => C8.CX0) rfl (by decide) rfl ⟨rfl, by decide, by decide⟩ (fun w h Y => PySem.W.km_in_of Y) ?F (fun _ _ _ _ _ z => z)
  case F =>
    intro w mg fa h Y KX G hmg
    refine' MF.all_mk KX G hmg ?opq ?aC_Book ?aC_Letter ?aC_Walker ?ge_MailError ?ge_InvalidOrder ?ge_UnknownOrder ?ge_InvalidAddress ?ge_InvalidDay ?ge_InvalidNumber ?ob_InvalidOrder ?sa_InvalidOrder ?xs_InvalidOrder ?xt_InvalidOrder ?xk_InvalidOrder ?ob_UnknownOrder ?sa_UnknownOrder ?xs_UnknownOrder ?xt_UnknownOrder ?xk_UnknownOrder ?aq0 ?lq0 ?cq0 ?kq0 ?aq1 ?lq1 ?cq1 ?kq1 ?aq2 ?lq2 ?cq2 ?kq2 ?aq3 ?lq3 ?cq3 ?kq3 ?aq4 ?lq4 ?cq4 ?kq4 ?aq5 ?iq5 ?lq5 ?cq5 ?kq5 ?aq6 ?pgq6 ?ptq6 ?prq6 ?lq6 ?cq6 ?kq6 ?aq7 ?iq7 ?lq7 ?cq7 ?kq7 ?aq8 ?iq8 ?lq8 ?cq8 ?kq8 ?aq9 ?iq9 ?lq9 ?cq9 ?kq9 ?aq10 ?iq10 ?lq10 ?cq10 ?kq10 ?aq11 ?lq11 ?cq11 ?kq11 ?aq12 ?iq12 ?lq12 ?cq12 ?kq12 ?aq13 ?iq13 ?lq13 ?cq13 ?kq13 ?aq14 ?iq14 ?lq14 ?cq14 ?kq14 ?aq15 ?iq15 ?lq15 ?cq15 ?kq15 ?aq16 ?iq16 ?lq16 ?cq16 ?kq16 ?aq17 ?iq17 ?lq17 ?cq17 ?kq17 ?lcq17 ?hvq17 ?ceq17 ?icq17 ?suq17 ?smq17 ?stq17 ?snq17 ?aq18 ?iq18 ?lq18 ?cq18 ?kq18 ?lcq18 ?hvq18 ?ceq18 ?icq18 ?suq18 ?smq18 ?stq18 ?snq18 ?aq19 ?iq19 ?lq19 ?cq19 ?kq19 ?aq20 ?lq20 ?cq20 ?kq20 ?aq21 ?lq21 ?cq21 ?kq21 ?aq22 ?lq22 ?cq22 ?kq22 ?aq23 ?lq23 ?cq23 ?kq23 ?aq24 ?lq24 ?cq24 ?kq24 ?aq25 ?iq25 ?lq25 ?cq25 ?kq25 ?aq26 ?iq26 ?lq26 ?cq26 ?kq26 ?aq27 ?lq27 ?cq27 ?kq27 ?aq28 ?lq28 ?cq28 ?kq28 ?aq29 ?lq29 ?cq29 ?kq29 ?aq30 ?lq30 ?cq30 ?kq30 ?aq31 ?lq31 ?cq31 ?kq31 ?aq32 ?lq32 ?cq32 ?kq32 ?aq33 ?lq33 ?cq33 ?kq33 ?aq34 ?lq34 ?cq34 ?kq34 ?aq35 ?lq35 ?cq35 ?kq35 ?aq36 ?lq36 ?cq36 ?kq36 ?in_Walker_step ?in_Walker_skip ?in_Walker_finish ?pg_Book ?hd_Book ?po_Book ?sa_Book ?mk_Book ?kc_Book ?pg_Letter ?hd_Letter ?po_Letter ?sa_Letter ?mk_Letter ?kc_Letter ?pg_Walker ?hd_Walker ?po_Walker ?sa_Walker ?mk_Walker ?kc_Walker ?n_Book_listed ?n_Letter_book ?n_Letter_address ?n_Letter_day ?n_Letter_count ?n_Letter_known ?n_Letter_is_endless ?n_Letter_change ?n_Walker_book ?n_Walker_address ?n_Walker_day ?n_Walker_count ?n_Walker_known ?n_Walker_is_endless ?n_Walker_change ?n_Walker_goal ?n_Walker_needed ?c_LETTERS ?c_MAX_LETTERS ?c_MAX_ORDERS_books ?c_MAX_DAY ?c_MAX_WAY ?taB ?raB ?rbB ?fcB ?xb_InvalidAddress ?xk_InvalidAddress ?xs_InvalidAddress ?xt_InvalidAddress ?xb_InvalidDay ?xk_InvalidDay ?xs_InvalidDay ?xt_InvalidDay ?eg_InvalidAddress ?ek_InvalidAddress ?es_InvalidAddress ?ed_InvalidAddress ?ea_InvalidAddress ?en_InvalidAddress ?et_InvalidAddress ?em_InvalidAddress ?ex_InvalidAddress ?ev_InvalidAddress ?kt_InvalidAddress_InvalidOrder ?kt_InvalidAddress_UnknownOrder ?kt_InvalidAddress_InvalidAddress ?kt_InvalidAddress_InvalidDay ?kt_InvalidAddress_InvalidNumber ?eg_InvalidDay ?ek_InvalidDay ?es_InvalidDay ?ed_InvalidDay ?ea_InvalidDay ?en_InvalidDay ?et_InvalidDay ?em_InvalidDay ?ex_InvalidDay ?ev_InvalidDay ?kt_InvalidDay_InvalidOrder ?kt_InvalidDay_UnknownOrder ?kt_InvalidDay_InvalidAddress ?kt_InvalidDay_InvalidDay ?kt_InvalidDay_InvalidNumber ?eg_InvalidOrder ?ek_InvalidOrder ?es_InvalidOrder ?ed_InvalidOrder ?ea_InvalidOrder ?en_InvalidOrder ?et_InvalidOrder ?em_InvalidOrder ?ex_InvalidOrder ?ev_InvalidOrder ?kt_InvalidOrder_InvalidOrder ?kt_InvalidOrder_UnknownOrder ?kt_InvalidOrder_InvalidAddress ?kt_InvalidOrder_InvalidDay ?kt_InvalidOrder_InvalidNumber ?eg_UnknownOrder ?ek_UnknownOrder ?es_UnknownOrder ?ed_UnknownOrder ?ea_UnknownOrder ?en_UnknownOrder ?et_UnknownOrder ?em_UnknownOrder ?ex_UnknownOrder ?ev_UnknownOrder ?kt_UnknownOrder_InvalidOrder ?kt_UnknownOrder_UnknownOrder ?kt_UnknownOrder_InvalidAddress ?kt_UnknownOrder_InvalidDay ?kt_UnknownOrder_InvalidNumber ?na_InvalidOrder ?na_UnknownOrder ?b_isinstance ?b_int ?b_bool ?b_str ?b_tuple ?b_list ?b_len ?b_all ?b_enumerate ?b_range ?b_min ?b_max ?b_sorted ?b_super ?b_ValueError ?uf ?ut ?sf ?hTb ?hnP_PL_q35 ?hcH_PL_q35 ?hnP_PL_q36 ?hcH_PL_q36 ?hne_0_1
    (case opq => k_is)
    (case aC_Book => k_is)
    (case aC_Letter => k_is)
    (case aC_Walker => k_is)
    (case ge_MailError => k_is)
    (case ge_InvalidOrder => k_is)
    (case ge_UnknownOrder => k_is)
    (case ge_InvalidAddress => k_is)
    (case ge_InvalidDay => k_is)
    (case ge_InvalidNumber => k_is)
    (case ob_InvalidOrder => first | kernel_rfl | kit_is | rfl)
    (case sa_InvalidOrder => k_is)
    (case xs_InvalidOrder => k_is)
    (case xt_InvalidOrder => k_is)
    (case xk_InvalidOrder => k_is)
    (case ob_UnknownOrder => first | kernel_rfl | kit_is | rfl)
    (case sa_UnknownOrder => k_is)
    (case xs_UnknownOrder => k_is)
    (case xt_UnknownOrder => k_is)
    (case xk_UnknownOrder => k_is)
    (case aq0 => k_is)
    (case lq0 => k_is)
    (case cq0 => k_is)
    (case kq0 => k_is)
    (case aq1 => k_is)
    (case lq1 => k_is)
    (case cq1 => k_is)
    (case kq1 => k_is)
    (case aq2 => k_is)
    (case lq2 => k_is)
    (case cq2 => k_is)
    (case kq2 => k_is)
    (case aq3 => k_is)
    (case lq3 => k_is)
    (case cq3 => k_is)
    (case kq3 => k_is)
    (case aq4 => k_is)
    (case lq4 => k_is)
    (case cq4 => k_is)
    (case kq4 => k_is)
    (case aq5 => k_is)
    (case iq5 => k_is)
    (case lq5 => k_is)
    (case cq5 => k_is)
    (case kq5 => k_is)
    (case aq6 => k_is)
    (case pgq6 => k_is)
    (case ptq6 => k_is)
    (case prq6 => k_is)
    (case lq6 => k_is)
    (case cq6 => k_is)
    (case kq6 => k_is)
    (case aq7 => k_is)
    (case iq7 => k_is)
    (case lq7 => k_is)
    (case cq7 => k_is)
    (case kq7 => k_is)
    (case aq8 => k_is)
    (case iq8 => k_is)
    (case lq8 => k_is)
    (case cq8 => k_is)
    (case kq8 => k_is)
    (case aq9 => k_is)
    (case iq9 => k_is)
    (case lq9 => k_is)
    (case cq9 => k_is)
    (case kq9 => k_is)
    (case aq10 => k_is)
    (case iq10 => k_is)
    (case lq10 => k_is)
    (case cq10 => k_is)
    (case kq10 => k_is)
    (case aq11 => k_is)
    (case lq11 => k_is)
    (case cq11 => k_is)
    (case kq11 => k_is)
    (case aq12 => k_is)
    (case iq12 => k_is)
    (case lq12 => k_is)
    (case cq12 => k_is)
    (case kq12 => k_is)
    (case aq13 => k_is)
    (case iq13 => k_is)
    (case lq13 => k_is)
    (case cq13 => k_is)
    (case kq13 => k_is)
    (case aq14 => k_is)
    (case iq14 => k_is)
    (case lq14 => k_is)
    (case cq14 => k_is)
    (case kq14 => k_is)
    (case aq15 => k_is)
    (case iq15 => k_is)
    (case lq15 => k_is)
    (case cq15 => k_is)
    (case kq15 => k_is)
    (case aq16 => k_is)
    (case iq16 => k_is)
    (case lq16 => k_is)
    (case cq16 => k_is)
    (case kq16 => k_is)
    (case aq17 => k_is)
    (case iq17 => k_is)
    (case lq17 => k_is)
    (case cq17 => k_is)
    (case kq17 => k_is)
    (case lcq17 => k_is)
    (case hvq17 => rfl)
    (case ceq17 => k_is)
    (case icq17 => k_is)
    (case suq17 => k_is)
    (case smq17 => first | ks_is | kernel_rfl)
    (case stq17 => k_is)
    (case snq17 => k_is)
    (case aq18 => k_is)
    (case iq18 => k_is)
    (case lq18 => k_is)
    (case cq18 => k_is)
    (case kq18 => k_is)
    (case lcq18 => k_is)
    (case hvq18 => rfl)
    (case ceq18 => k_is)
    (case icq18 => k_is)
    (case suq18 => k_is)
    (case smq18 => first | ks_is | kernel_rfl)
    (case stq18 => k_is)
    (case snq18 => k_is)
    (case aq19 => k_is)
    (case iq19 => k_is)
    (case lq19 => k_is)
    (case cq19 => k_is)
    (case kq19 => k_is)
    (case aq20 => k_is)
    (case lq20 => k_is)
    (case cq20 => k_is)
    (case kq20 => k_is)
    (case aq21 => k_is)
    (case lq21 => k_is)
    (case cq21 => k_is)
    (case kq21 => k_is)
    (case aq22 => k_is)
    (case lq22 => k_is)
    (case cq22 => k_is)
    (case kq22 => k_is)
    (case aq23 => k_is)
    (case lq23 => k_is)
    (case cq23 => k_is)
    (case kq23 => k_is)
    (case aq24 => k_is)
    (case lq24 => k_is)
    (case cq24 => k_is)
    (case kq24 => k_is)
    (case aq25 => k_is)
    (case iq25 => k_is)
    (case lq25 => k_is)
    (case cq25 => k_is)
    (case kq25 => k_is)
    (case aq26 => k_is)
    (case iq26 => k_is)
    (case lq26 => k_is)
    (case cq26 => k_is)
    (case kq26 => k_is)
    (case aq27 => k_is)
    (case lq27 => k_is)
    (case cq27 => k_is)
    (case kq27 => k_is)
    (case aq28 => k_is)
    (case lq28 => k_is)
    (case cq28 => k_is)
    (case kq28 => k_is)
    (case aq29 => k_is)
    (case lq29 => k_is)
    (case cq29 => k_is)
    (case kq29 => k_is)
    (case aq30 => k_is)
    (case lq30 => k_is)
    (case cq30 => k_is)
    (case kq30 => k_is)
    (case aq31 => k_is)
    (case lq31 => k_is)
    (case cq31 => k_is)
    (case kq31 => k_is)
    (case aq32 => k_is)
    (case lq32 => k_is)
    (case cq32 => k_is)
    (case kq32 => k_is)
    (case aq33 => k_is)
    (case lq33 => k_is)
    (case cq33 => k_is)
    (case kq33 => k_is)
    (case aq34 => k_is)
    (case lq34 => k_is)
    (case cq34 => k_is)
    (case kq34 => k_is)
    (case aq35 => k_is)
    (case lq35 => k_is)
    (case cq35 => k_is)
    (case kq35 => k_is)
    (case aq36 => k_is)
    (case lq36 => k_is)
    (case cq36 => k_is)
    (case kq36 => k_is)
    (case in_Walker_step => k_is)
    (case in_Walker_skip => k_is)
    (case in_Walker_finish => k_is)
    (case pg_Book => k_is)
    (case hd_Book => k_is)
    (case po_Book => k_is)
    (case sa_Book => k_is)
    (case mk_Book => k_is)
    (case kc_Book => k_is)
    (case pg_Letter => k_is)
    (case hd_Letter => k_is)
    (case po_Letter => k_is)
    (case sa_Letter => k_is)
    (case mk_Letter => k_is)
    (case kc_Letter => k_is)
    (case pg_Walker => k_is)
    (case hd_Walker => k_is)
    (case po_Walker => k_is)
    (case sa_Walker => k_is)
    (case mk_Walker => k_is)
    (case kc_Walker => k_is)
    (case n_Book_listed => k_is)
    (case n_Letter_book => k_is)
    (case n_Letter_address => k_is)
    (case n_Letter_day => k_is)
    (case n_Letter_count => k_is)
    (case n_Letter_known => k_is)
    (case n_Letter_is_endless => k_is)
    (case n_Letter_change => k_is)
    (case n_Walker_book => k_is)
    (case n_Walker_address => k_is)
    (case n_Walker_day => k_is)
    (case n_Walker_count => k_is)
    (case n_Walker_known => k_is)
    (case n_Walker_is_endless => k_is)
    (case n_Walker_change => k_is)
    (case n_Walker_goal => k_is)
    (case n_Walker_needed => k_is)
    (case c_LETTERS => k_is)
    (case c_MAX_LETTERS => k_is)
    (case c_MAX_ORDERS_books => k_is)
    (case c_MAX_DAY => k_is)
    (case c_MAX_WAY => k_is)
    (case taB => k_is)
    (case raB => k_is)
    (case rbB => k_is)
    (case fcB => k_is)
    (case xb_InvalidAddress => first | kernel_rfl | kit_is | rfl)
    (case xk_InvalidAddress => k_is)
    (case xs_InvalidAddress => k_is)
    (case xt_InvalidAddress => k_is)
    (case xb_InvalidDay => first | kernel_rfl | kit_is | rfl)
    (case xk_InvalidDay => k_is)
    (case xs_InvalidDay => k_is)
    (case xt_InvalidDay => k_is)
    (case eg_InvalidAddress => k_is)
    (case ek_InvalidAddress => k_is)
    (case es_InvalidAddress => k_is)
    (case ed_InvalidAddress => k_is)
    (case ea_InvalidAddress => k_is)
    (case en_InvalidAddress => k_is)
    (case et_InvalidAddress => k_is)
    (case em_InvalidAddress => k_is)
    (case ex_InvalidAddress => first | kernel_rfl | kit_is | rfl)
    (case ev_InvalidAddress => first | kernel_rfl | kit_is | rfl)
    (case kt_InvalidAddress_InvalidOrder => first | kernel_rfl | kit_is | rfl)
    (case kt_InvalidAddress_UnknownOrder => first | kernel_rfl | kit_is | rfl)
    (case kt_InvalidAddress_InvalidAddress => first | kernel_rfl | kit_is | rfl)
    (case kt_InvalidAddress_InvalidDay => first | kernel_rfl | kit_is | rfl)
    (case kt_InvalidAddress_InvalidNumber => first | kernel_rfl | kit_is | rfl)
    (case eg_InvalidDay => k_is)
    (case ek_InvalidDay => k_is)
    (case es_InvalidDay => k_is)
    (case ed_InvalidDay => k_is)
    (case ea_InvalidDay => k_is)
    (case en_InvalidDay => k_is)
    (case et_InvalidDay => k_is)
    (case em_InvalidDay => k_is)
    (case ex_InvalidDay => first | kernel_rfl | kit_is | rfl)
    (case ev_InvalidDay => first | kernel_rfl | kit_is | rfl)
    (case kt_InvalidDay_InvalidOrder => first | kernel_rfl | kit_is | rfl)
    (case kt_InvalidDay_UnknownOrder => first | kernel_rfl | kit_is | rfl)
    (case kt_InvalidDay_InvalidAddress => first | kernel_rfl | kit_is | rfl)
    (case kt_InvalidDay_InvalidDay => first | kernel_rfl | kit_is | rfl)
    (case kt_InvalidDay_InvalidNumber => first | kernel_rfl | kit_is | rfl)
    (case eg_InvalidOrder => k_is)
    (case ek_InvalidOrder => k_is)
    (case es_InvalidOrder => k_is)
    (case ed_InvalidOrder => k_is)
    (case ea_InvalidOrder => k_is)
    (case en_InvalidOrder => k_is)
    (case et_InvalidOrder => k_is)
    (case em_InvalidOrder => k_is)
    (case ex_InvalidOrder => first | kernel_rfl | kit_is | rfl)
    (case ev_InvalidOrder => first | kernel_rfl | kit_is | rfl)
    (case kt_InvalidOrder_InvalidOrder => first | kernel_rfl | kit_is | rfl)
    (case kt_InvalidOrder_UnknownOrder => first | kernel_rfl | kit_is | rfl)
    (case kt_InvalidOrder_InvalidAddress => first | kernel_rfl | kit_is | rfl)
    (case kt_InvalidOrder_InvalidDay => first | kernel_rfl | kit_is | rfl)
    (case kt_InvalidOrder_InvalidNumber => first | kernel_rfl | kit_is | rfl)
    (case eg_UnknownOrder => k_is)
    (case ek_UnknownOrder => k_is)
    (case es_UnknownOrder => k_is)
    (case ed_UnknownOrder => k_is)
    (case ea_UnknownOrder => k_is)
    (case en_UnknownOrder => k_is)
    (case et_UnknownOrder => k_is)
    (case em_UnknownOrder => k_is)
    (case ex_UnknownOrder => first | kernel_rfl | kit_is | rfl)
    (case ev_UnknownOrder => first | kernel_rfl | kit_is | rfl)
    (case kt_UnknownOrder_InvalidOrder => first | kernel_rfl | kit_is | rfl)
    (case kt_UnknownOrder_UnknownOrder => first | kernel_rfl | kit_is | rfl)
    (case kt_UnknownOrder_InvalidAddress => first | kernel_rfl | kit_is | rfl)
    (case kt_UnknownOrder_InvalidDay => first | kernel_rfl | kit_is | rfl)
    (case kt_UnknownOrder_InvalidNumber => first | kernel_rfl | kit_is | rfl)
    (case na_InvalidOrder => k_is)
    (case na_UnknownOrder => k_is)
    (case b_isinstance => k_is)
    (case b_int => k_is)
    (case b_bool => k_is)
    (case b_str => k_is)
    (case b_tuple => k_is)
    (case b_list => k_is)
    (case b_len => k_is)
    (case b_all => k_is)
    (case b_enumerate => k_is)
    (case b_range => k_is)
    (case b_min => k_is)
    (case b_max => k_is)
    (case b_sorted => k_is)
    (case b_super => k_is)
    (case b_ValueError => k_is)
    (case uf => first | rfl | decide +kernel)
    (case ut => first | rfl | decide +kernel)
    (case sf => k_is)
    (case hTb => exact PySem.W.km_tabs_of Y)
    (case hnP_PL_q35 => first | kernel_rfl | rfl)
    (case hcH_PL_q35 => first | kernel_rfl | rfl)
    (case hnP_PL_q36 => first | kernel_rfl | rfl)
    (case hcH_PL_q36 => first | kernel_rfl | rfl)
    (case hne_0_1 => decide)
