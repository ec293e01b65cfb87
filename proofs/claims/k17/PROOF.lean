import PyProof.Rows.All
import Wide.All
import OpenK.AllK
import Wide.FinOn
import HandS.ForMost
import HandS.Star
import HandS.Walk
import KE.GoesMore
import KE.KUnpack
import HandS.More
import HandS.Property
import HandS.ClsMeth
import HandS.IsInst
import HandS.Wide
import HandS.TupAny
import HandS.Codes
import PyProof.FString2
import HandS.FStr
import HandS.Exc
import HandS.ExcOwn
import HandS.ExcInit
import HandS.ExcIs
import HandS.ExcField
import HandS.Small
import HandS.Lambda
import HandS.EndTab
import KE.KDflt
import HandS.SetFor
import PyProof.SeqRoads2
import PyProof.Rows.CountFlat
import HandS.Deep
import KE.KExcInit
import KE.GoesComp
import HandS.Bytes
import HandS.BytesMake
import HandS.Replace
import HandS.SlotsOwn
import HandS.Spec
import HandS.Text
import HandS.Comp
import PySem.Challenge.RW_mailforwards_k17_whole_texts_bytes_and_s
import KE.KEqSeq
import HandS.Style
import HandS.Conv
set_option Elab.async false
set_option linter.all false
set_option maxRecDepth 100000
set_option maxHeartbeats 1000000
namespace MF
open PySem PySem.Spec PyProof.Rows L2

def gFld (K : PySem.W.Frag) (to : TE) (f : Str) : TG := fun v σ H Q => to σ H fun x H1 => ∃ a C dx fs, x = .ref a ∧ H1 a = some (.ins C dx fs) ∧ Cls K C ∧ NoAttr K C f ∧ fs.length < 1000 ∧ Q σ (upd H1 a (.ins C dx (putF f v fs)))
theorem pg_fld {X : Cx} {o : Expr} {f : Str} {pos : Pos} {to : TE} (ho : PE X o to) : PG X (.Attribute o f pos) (gFld X.K to f) := by
  refine ⟨fun pins s σ H v u Q I r h => ?_⟩
  show wpAny _ _ (do
    let ov ← holding [u] (eval o X.env)
    standAt pos.atName
    holding [u, ov] (setAttr ov f u)
    release [u, ov] []) _ _ _
  refine wpAny_bind (wpAny_holding (thn (ho.run pins s σ H _ I h) fun ov s1 ⟨x, H1, I1, r1, a, C, dx, fs, ex, ea, c, n, l, q⟩ => ?_))
  subst ex
  obtain rfl : ov = Value.ref a := r1
  refine wpAny_bind (wpAny_standAt (wpAny_bind (wpAny_holding (setattr_ok I1 ea c n l r fun s2 I2 => ?_))))
  exact wpAny_release ⟨σ, _, I2, q⟩

theorem notNI {Q : Value → Shared → Prop} {v : V} {u : Value} {s' : Shared} (r : RelV v u) (h : Q u s') : PySem.W.CmpBack Q u s' := by
  cases v with
  | non => cases (show u = Value.none from r); exact h
  | bl b => cases (show u = Value.bool b from r); exact h
  | int i => obtain ⟨t, rfl⟩ := (show ∃ t, u = Value.int i t from r); exact h
  | str x => obtain ⟨t, rfl⟩ := (show ∃ t, u = Value.str x t from r); exact h
  | byt b => obtain ⟨t, rfl⟩ := (show ∃ t, u = Value.bytes b t from r); exact h
  | flt b => obtain ⟨t, rfl⟩ := (show ∃ t, u = Value.float b t from r); exact h
  | ref a => cases (show u = Value.ref a from r); exact h
  | ty n => cases (show u = Value.type n from r); exact h
theorem op_own {X : Cx} {op : Operator} {C f : Addr} {fd : FuncData} {ps : List Str} {CX : CXT} {k : Nat} {sp : Sp} {E : XK} (hc : PySem.W.selfFirst X.K C = true) (hs : PySem.W.findIn X.K (.ref C) (PySem.dunder op.info.2) = some (some (.ref f))) (hf : PySem.W.isFn X.K (.ref f) = true)
    (F : FnOk X.prog X.w X.K X.mg X.base CX k f fd ps sp) (hr : Room k X.A) (hb : Binds X.K fd ps []) (hx : Passes CX X E) :
    OpR X (binaryOp op) (fun x y H Q => ∃ a b dx dy fs gs, x = .ref a ∧ y = .ref b ∧ H a = some (.ins C dx fs) ∧ H b = some (.ins C dy gs) ∧ sp [.ref a, .ref b] H Q E) := by
  rintro pins s σ H x y u v Q I rx ry ⟨a, b, dx, dy, fs, gs, rfl, rfl, ea, eb, h⟩
  obtain rfl : u = Value.ref a := rx
  obtain rfl : v = Value.ref b := ry
  obtain ⟨mA, O, _⟩ := ins_get I.hok ea
  obtain ⟨mB, O', _⟩ := ins_get I.hok eb
  obtain ⟨od, ia, _⟩ := O.look
  obtain ⟨od', ib, _⟩ := O'.look
  obtain ⟨m, fr⟩ := I.fr
  refine PySem.W.binop_K fr I.mod.kin ia ib.type hc hs hf ?_
  refine thn (run_fn (us := [.ref a, .ref b]) (vs := [.ref a, .ref b]) F hr hb (dvs := []) .nil hx I (.cons rfl (.cons rfl .nil)) (by simpa using h)) fun r s' hq => ?_
  obtain ⟨z, H', I', rz, q⟩ := hq
  exact notNI rz ⟨z, H', I', rz, q⟩

theorem meets_enum_newT (t : Addr) (items : Array Value) :
    Meets (Builtin.«enumerate.__new__» ⟨[.type "enumerate", .ref t], []⟩) (fun _ R s => s.heap.IsTuple t items ∧
      R (.ok (.ret (.ref (s.heap.push { cls := .type "tuple_iterator", data := .fields #[.ref t, .int 0 0] }).objs.size))) { s with heap := (s.heap.push { cls := .type "tuple_iterator", data := .fields #[.ref t, .int 0 0] }).push { cls := .type "enumerate", data := .fields #[.none, .bool false, .ref s.heap.objs.size, rawInt 0, .none, .none] } }) :=
  .of_wp fun prog w A R s h => by
    obtain ⟨hp, g, d, tk, os⟩ := s; obtain ⟨h1, h⟩ := h
    have hsub := sub_enumerate
    have q1 : ∀ {A' : Around} {E : Value → Shared → Prop} {Q : Value → Shared → Prop}, Q (.ref hp.objs.size) ⟨hp.push { cls := .type "tuple_iterator", data := .fields #[.ref t, .int 0 0] }, g, d, tk, os⟩ → wpAny (model prog w) A' (pyIter (.ref t)) Q E ⟨hp, g, d, tk, os⟩ :=
      fun q => (begins_tuple t items).iter prog w _ _ ⟨hp, g, d, tk, os⟩ _ h1 q
    wp_walk using q1
    refine wpAny_stack_any fun st => wpAny_pure ?_
    split
    · rename_i c _ _ _ _ _
      cases (c == Value.type "enumerate")
      · wp_walk using q1
        exact ⟨_, rfl, h⟩
      · wp_walk using q1
        exact ⟨_, rfl, h⟩
    · wp_walk using q1
      exact ⟨_, rfl, h⟩
theorem call_enum_tuple {prog : Program} {w : World} {A : Around} {E : Value → Shared → Prop} {s : Shared} {t : Addr} {items : Array Value} {Q : Value → Shared → Prop} (ht : s.heap.IsTuple t items)
    (h : ∀ h', IsEnum h' (s.heap.objs.size + 1) s.heap.objs.size 0 .none → h'.IsTupleIter s.heap.objs.size t 0 → h'.objs.size = s.heap.objs.size + 2 →
      (∀ b o, s.heap.get? b = some o → h'.get? b = some o) → Q (.ref (s.heap.objs.size + 1)) { s with heap := h' }) :
    wpAny (model prog w) A (call (.type "enumerate") [.ref t]) Q E s := by
  refine callType_new F.called_enumerate (by decide) (F.typeCall_enumerate_1 _) (F.newCall_enumerate_1 _) (fun obj => F.args_object_init_2 obj _) F.entry_enumerate_new
    (meets_enum_newT t items) ⟨ht, ?_⟩
  have hz : (s.heap.push { cls := .type "tuple_iterator", data := .fields #[.ref t, .int 0 0] }).objs.size = s.heap.objs.size + 1 := Heap.size_push ..
  show _ ∧ _
  rw [hz]
  have he : IsEnum ((s.heap.push { cls := .type "tuple_iterator", data := .fields #[.ref t, .int 0 0] }).push
      { cls := .type "enumerate", data := .fields #[.none, .bool false, .ref s.heap.objs.size, rawInt 0, .none, .none] }) (s.heap.objs.size + 1) s.heap.objs.size 0 .none := by
    have := Heap.get?_push_size (s.heap.push { cls := .type "tuple_iterator", data := .fields #[.ref t, .int 0 0] })
      (o := { cls := .type "enumerate", data := .fields #[.none, .bool false, .ref s.heap.objs.size, rawInt 0, .none, .none] }) rfl
    rw [hz] at this; exact this
  exact ⟨⟨_, he, rfl⟩, h _ he ⟨_, Heap.get?_push_of_some _ (Heap.get?_push_size _ rfl), rfl, rfl⟩ (by rw [Heap.size_push, hz]) fun b o x => Heap.get?_push_of_some _ (Heap.get?_push_of_some _ x)⟩

def ItE (K : PySem.W.Frag) (a : Addr) : It :=
  ⟨fun i H => ∃ (xs : List V) (x : V), SqT K H a xs ∧ xs[i]? = some x, fun i H v H' => ∃ T x, v = .ref T ∧ H T = none ∧ H' = upd H T (.tup [.int (i : Nat), x]) ∧ ∀ xs, SqT K H a xs → xs[i]? = some x, fun i H => ∃ xs : List V, SqT K H a xs ∧ xs.length = i⟩
theorem turn_enumT {P : Program} {w : World} {K : PySem.W.Frag} {elts : List Expr} {kk : Nat} {tpos : Pos} (a e it : Addr) :
    Turn P w K (.Tuple elts kk tpos) (ItE K a) [e, it] e (fun i h => (∃ old, IsEnum h e it ((i : Nat) : Int) old) ∧ h.IsTupleIter it a i ∧ e ≠ it) where
  mem := by simp
  obj := fun i h st b hb => by
    obtain ⟨⟨old, he⟩, ⟨o, ho, hc, hd⟩, _⟩ := st
    have e' : b = e ∨ b = it := by simpa using hb
    rcases e' with z | z
    · rw [z]; exact ⟨_, he, fun v q => nomatch q⟩
    · rw [z]; exact ⟨o, ho, fun v q => by rw [hd] at q; cases q⟩
  keep := fun i h h' st k => let ⟨⟨old, he⟩, hi, hne⟩ := st; ⟨⟨old, k e (by simp) _ he⟩, hi.at fun o q => k it (by simp) o q, hne⟩
  item := by
    intro X hP hw hK hc i pins s σ H E I hf st hg
    subst hP hw hK
    obtain ⟨⟨old, he⟩, hit, hne⟩ := st
    obtain ⟨xs, x, hq, hx⟩ := hg
    obtain ⟨its, rv, p, hz⟩ := I.tuple hq
    obtain ⟨u, hu, ru⟩ := rv.get hx
    have hel : e < s.heap.objs.size := Heap.lt_size he
    have hil : it < s.heap.objs.size := by obtain ⟨_, q, _⟩ := hit; exact Heap.lt_size q
    have pt : s.heap.IsTuple a its.toArray := p
    have hai : a ≠ it := fun z => by
      subst z
      obtain ⟨o1, e1, c1, _⟩ := pt
      obtain ⟨o2, e2, c2, _⟩ := hit
      rw [e1] at e2; cases e2
      rw [c1] at c2
      exact absurd (Value.type.inj c2) (by decide)
    have hae : a ≠ e := fun z => by
      subst z
      obtain ⟨o1, e1, c1, _⟩ := pt
      rw [he] at e1; cases e1
      exact absurd (Value.type.inj c1) (by decide)
    have hlt : i < its.toArray.size := by
      have := (List.getElem?_eq_some_iff.mp hu).1
      simpa using this
    refine wpAny_pyNext_enum_itemD (Draws.tuple (A := X.A.in1) (by simpa using I.ok.hd hc) it a hai its.toArray) he ⟨hit, pt⟩ hlt hne (by simp [hne, Ne.symm hae]) fun x' h' tk hx' ho st' hT hsz hk => ?_
    have eu : x' = u := by
      have q : its.toArray[i]? = some u := by simpa using hu
      rw [q] at hx'; cases hx'; rfl
    subst eu
    refine ⟨_, rfl, wpAny_letOwnedTupleGo_enum (s := { s with heap := h', toks := tk + 1 }) ho fun h'' he' sb => ?_⟩
    have hT2 : h''.get? s.heap.objs.size = some { cls := .type "tuple", data := .seq #[.int i tk, x'] } := (sb.2 _ (Nat.ne_of_gt hel)).trans hT
    have new : ObjOk X.prog X.w (upd H s.heap.objs.size (.tup [.int (i : Nat), x])) h'' s.heap.objs.size (.tup [.int (i : Nat), x]) :=
      ⟨by show 2 ≤ sizeLine; decide, [.int i tk, x'], .cons ⟨_, rfl⟩ (.cons ru .nil), ⟨_, hT2, rfl, _, rfl⟩⟩
    have I1 : Inv X pins σ (upd H s.heap.objs.size (.tup [.int (i : Nat), x])) { s with heap := h'', toks := tk + 1 } :=
      I.turnedNew (ch := [e, it]) (fun b ob hb q => (sb.2 b (fun z => hb (by simp [z]))).trans (hk b ob (fun z => hb (by simp [z])) (fun z => hb (by simp [z])) q)) hf (Nat.le_refl _) new
    refine ⟨.ref s.heap.objs.size, _, I1, rfl, ⟨_, x, rfl, I.hok.fresh (Nat.le_refl _), rfl, fun ys hy => by rw [I.tuple_inj hy hq]; exact hx⟩, ⟨⟨x', ?_⟩, st'.1.at fun o q => (sb.2 it (Ne.symm hne)).trans q, hne⟩, fun b hb => ?_⟩
    · have e1 : ((i + 1 : Nat) : Int) = (i : Int) + 1 := by omega
      rw [e1]; exact he'
    · have hb' : b < s.heap.objs.size := by
        have e' : b = e ∨ b = it := by simpa using hb
        rcases e' with z | z
        · rw [z]; exact hel
        · rw [z]; exact hil
      rw [upd_ne (Nat.ne_of_lt hb')]
      exact (hf b hb).1
  done := by
    intro X hP hw hK hc i pins s σ H E I hf st hg
    subst hP hw hK
    obtain ⟨⟨old, he⟩, hit, hne⟩ := st
    obtain ⟨xs, hq, hx⟩ := hg
    obtain ⟨its, rv, p, hz⟩ := I.tuple hq
    obtain ⟨f0, f1, f2, f3, f4, f5⟩ := hf it (by simp)
    have pt : s.heap.IsTuple a its.toArray := p
    have hai : a ≠ it := fun z => by
      subst z
      obtain ⟨o1, e1, c1, _⟩ := pt
      obtain ⟨o2, e2, c2, _⟩ := hit
      rw [e1] at e2; cases e2
      rw [c1] at c2
      exact absurd (Value.type.inj c2) (by decide)
    have hl := rv.length
    have en : its.toArray.size = i := by simp; omega
    exact wpAny_pyNext_enum_endD (Draws.tuple (A := X.A.in1) (by simpa using I.ok.hd hc) it a hai its.toArray) he (by rw [en]; exact ⟨hit, pt⟩) fun h' eb => ⟨rfl, I.turned (t' := s.toks) (fun b o hb q => eb b o hb q) f0 f1 f3 f4 f5⟩
  self := fun A i s Q E st h => let ⟨⟨_, he⟩, _⟩ := st; wpAny_pyIter_enum he h
def iEnumT (K : PySem.W.Frag) (ta : TA) : TI := fun σ H R => ta σ H fun vs H1 => ∃ a xs, vs = [.ref a] ∧ SqT K H1 a xs ∧ R (ItE K a) H1
theorem pi_enumT {X : Cx} {e : Expr} {ta : TA} {p pos tpos : Pos} {elts : List Expr} {kk : Nat} (hg : Gl X "enumerate") (hm : X.mg "enumerate" = none) (ha : PA X [e] ta) (hs : starEach [e] X.env = [(false, eval e X.env)] := by rfl) :
    PI X (.Tuple elts kk tpos) (.Call (.Name "enumerate" p) [e] [] pos) (iEnumT X.K ta) := by
  refine ⟨fun pins s σ H R I h => ?_⟩
  refine Call_ (ld_blt I hg hm boot_enumerate (PyProof.Rows.callWith_type1 (thn (ha.run pos pins s σ H _ I h) fun us s1 ⟨vs, H1, I1, r1, q1⟩ => ?_) hs rfl))
  obtain ⟨a, xs, ex, hq, q⟩ := q1
  subst ex
  cases r1 with
  | cons r rr =>
    cases rr
    cases r
    obtain ⟨its, rv, p', hz⟩ := I1.tuple hq
    refine call_enum_tuple (show s1.heap.IsTuple a its.toArray from p') fun h' he hit hsz hk => wpAny_pyIter_enum he ?_
    have I2 : Inv X pins σ H1 { s1 with heap := h' } := I1.kept (t' := s1.toks) hk
    refine ⟨s1.heap.objs.size + 1, [s1.heap.objs.size + 1, s1.heap.objs.size], _, _, H1, rfl, I2, turn_enumT a (s1.heap.objs.size + 1) s1.heap.objs.size, ⟨⟨.none, he⟩, hit, Nat.succ_ne_self _⟩, fun b hb => ?_, q⟩
    have e' : b = s1.heap.objs.size + 1 ∨ b = s1.heap.objs.size := by simpa using hb
    have hle : s1.heap.objs.size ≤ b := by
      rcases e' with z | z
      · rw [z]; exact Nat.le_add_right _ _
      · rw [z]; exact Nat.le_refl _
    exact I1.fpOk hle (I1.hok.fresh hle)
theorem walk_enumT {K : PySem.W.Frag} {a : Addr} {xs : List V} : Walk (ItE K a) xs.length (fun H => SqT K H a xs) (YPair (fun i => some (.int (i : Nat))) (fun i => xs[i]?)) :=
  ⟨fun i H hi hg => ⟨xs, xs[i], hg, by simp [hi]⟩, fun H hg => ⟨xs, hg, rfl⟩, fun i H v H' hi hg ⟨T, x, e1, e2, e3, e4⟩ => ⟨T, _, x, e1, e2, e3, rfl, e4 xs hg⟩⟩


def setAll : List Nat → List V → L2.St → L2.St
  | i :: is, v :: vs, σ => setAll is vs (σ.set i (some v))
  | _, _, σ => σ
inductive Caps (X : Cx) : List Pattern → List Nat → Prop
  | nil : Caps X [] []
  | cons {x : Str} {p : Pos} {ps : List Pattern} {i : Nat} {is : List Nat} (hi : X.N[i]? = some x) (hx : Loc X.env.scope x) (hf : X.fn x = true ∨ X.env.scope.names.lookup x = some .local) (r : Caps X ps is) : Caps X (.MatchAs none (some x) p :: ps) (i :: is)
def capNames : List Pattern → List Str
  | .MatchAs none (some x) _ :: ps => x :: capNames ps
  | _ => []
theorem Caps.len {X : Cx} : ∀ {ps : List Pattern} {is : List Nat}, Caps X ps is → ps.length = is.length
  | _, _, .nil => rfl
  | _, _, .cons _ _ _ r => by simp [r.len]
theorem Caps.each {X : Cx} {A : Around} {E : Value → Shared → Prop} {s : Shared} : ∀ {ps : List Pattern} {is : List Nat} {us : List Value} {Q : Option (List (Str × Value)) → Shared → Prop}, Caps X ps is → us.length = ps.length →
    Q (some ((capNames ps).zip us)) s → wpAny (model X.prog X.w) A (matchEach ps X.env us) Q E s
  | _, _, [], Q, .nil, _, h => wpAny_matchEach_nil h
  | _, _, u :: us, Q, .cons hi hx hf r, hl, h => by
    refine wpAny_matchEach_cons (wpAny_matchPattern_Capture ?_)
    show wpAny _ _ (matchEach _ X.env us) _ _ _
    exact Caps.each r (by simpa using hl) h
theorem Caps.store {X : Cx} {pins : List (Addr × Obj)} {H : Hp} (hN : X.N.Nodup) : ∀ {ps : List Pattern} {is : List Nat} {us : List Value} {vs : List V} {σ : L2.St} {s : Shared} {Q : Unit → Shared → Prop}, Caps X ps is → Vals vs us → us.length = ps.length → Inv X pins σ H s →
    (∀ s', Inv X pins (setAll is vs σ) H s' → Q () s') → wpAny (model X.prog X.w) X.A (assignInOrder (((capNames ps).zip us).map fun (n, _) => bindName X.env n) (((capNames ps).zip us).map (·.2))) Q X.xe s
  | _, _, _, _, σ, s, Q, .nil, .nil, _, I, h => assignInOrder_nil (h s I)
  | _, _, _, _, σ, s, Q, .cons hi hx hf r, .cons rv rr, hl, I, h => by
    refine assignInOrder_cons (wpAny_bindName (store_ok I hN hi hx rv (fun s' I' => ?_) hf))
    exact Caps.store hN r rr (by simpa using hl) I' h
theorem fitL {n : Nat} (h : n ≤ sizeLine) : (n : Int) < 2 ^ 63 := by
  have h2 : n < 2 ^ 63 := Nat.lt_of_le_of_lt h line63
  exact Int.ofNat_lt.mpr h2
def notSeq : V → Bool
  | .non => true
  | .bl _ => true
  | .int _ => true
  | .str _ => true
  | _ => false
def tMatch (K : PySem.W.Frag) (is : List Nat) (te : TE) (tg : TT) (tb tc : TS) : TS := fun D σ H => te σ H fun x H1 =>
  (∃ a vs, x = .ref a ∧ (SqT K H1 a vs ∨ SqL K H1 a vs) ∧ ((vs.length = is.length ∧ tg (setAll is vs σ) H1 fun b H2 => if b = true then tb D (setAll is vs σ) H2 else tc D (setAll is vs σ) H2) ∨ (vs.length ≠ is.length ∧ tc D σ H1))) ∨
  (notSeq x = true ∧ tc D σ H1)
theorem ps_match {X : Cx} {subject g : Expr} {ps : List Pattern} {is : List Nat} {body other : List Stmt} {p1 p2 pos : Pos} {te : TE} {tg : TT} {tb tc : TS} (hc : X.calm = true) (hN : X.N.Nodup) (he : PE X subject te) (hp : Caps X ps is) (hg : PT X g tg) (hb : PSs X body tb) (ho : PSs X other tc)
    (hstar : ps.findIdx? (·.isStar) = none := by rfl) (hwild : (ps.all fun p => p.isWildcard || (p.isStar && p.names.isEmpty)) = false := by rfl) :
    PS X (.Match subject [⟨.MatchSequence ps p1, some g, body⟩, ⟨.MatchAs none none p2, none, other⟩] pos) (tMatch X.K is te tg tb tc) := by
  refine ⟨fun pins s σ H D I h => ?_⟩
  refine wpAny_Match (thn (he.run pins s σ H _ I h) fun u s1 ⟨x, H1, I1, r1, q1⟩ => ?_)
  have last : ∀ {s2 : Shared} {σ2 : L2.St} {H2 : Hp}, Inv X pins σ2 H2 s2 → tc D σ2 H2 → wpAny (model X.prog X.w) X.A (matchCases [⟨.MatchAs none none p2, none, other⟩] X.env u false) (SP X pins D) X.xe s2 := fun {s2 σ2 H2} I2 q2 => by
    refine wpAny_matchCases_cons (wpAny_matchPattern_Capture ?_)
    show wpAny _ _ (assignInOrder [] []) _ _ _
    exact assignInOrder_nil (ho.run pins s2 σ2 H2 D I2 q2)
  refine wpAny_matchCases_cons ?_
  rcases q1 with ⟨a, vs, rfl, hq, q⟩ | ⟨hn, q⟩
  · obtain rfl : u = Value.ref a := r1
    rcases hq with hq | hq
    · obtain ⟨its, rv, p, hz⟩ := I1.tuple hq
      have hl := rv.length
      have fit : (its.toArray.size : Int) < 2 ^ 63 := fitL (by rw [List.size_toArray, ← hl]; exact hz)
      have en : its.toArray.size = vs.length := by rw [List.size_toArray, hl]
      rcases q with ⟨el, q⟩ | ⟨el, q⟩
      · have e0 : ps.length = its.toArray.size := by rw [en, el, hp.len]
        refine matchSeq_tuple_hit p fit e0.symm ?_ hstar hwild
        rw [e0]
        refine unpackItems_tuple (s := { s1 with toks := s1.toks + 1 + 1 }) (I.ok.hd hc) p fun h' hx' => ?_
        have I2 := (I1.tok (s1.toks + 1 + 1)).kept (h' := h') (t' := s1.toks + 1 + 1) fun b o e => hx' b o (Nat.ne_of_lt (Heap.lt_size e)) e
        refine Caps.each hp (by rw [Array.length_toList, e0]) ?_
        refine Caps.store (us := its.toArray.toList) (vs := vs) hN hp (by simpa using rv) (by rw [Array.length_toList, e0]) I2 fun s3 I3 => ?_
        refine thn (hg.run pins s3 _ H1 _ I3 q) fun b s4 ⟨H2, I4, q4⟩ => ?_
        cases b with
        | true => exact hb.run pins s4 _ H2 D I4 (by simpa using q4)
        | false => exact last I4 (by simpa using q4)
      · refine matchSeq_tuple_miss p fit (by rw [en, hp.len]; exact el) ?_ hstar hwild
        exact last (I1.tok _) q
    · obtain ⟨its, rv, p, hz⟩ := I1.list hq
      have hl := rv.length
      have fit : (its.toArray.size : Int) < 2 ^ 63 := fitL (by rw [List.size_toArray, ← hl]; exact hz)
      have en : its.toArray.size = vs.length := by rw [List.size_toArray, hl]
      rcases q with ⟨el, q⟩ | ⟨el, q⟩
      · have e0 : ps.length = its.toArray.size := by rw [en, el, hp.len]
        refine matchSeq_list_hit p.isList fit e0.symm ?_ hstar hwild
        rw [e0]
        refine PySem.W.kun_itemsOf (s := { s1 with toks := s1.toks + 1 + 1 }) (I.ok.hd hc) p.isList fun h' hx' => ?_
        have I2 := (I1.tok (s1.toks + 1 + 1)).kept (h' := h') (t' := s1.toks + 1 + 1) fun b o e => hx' b o (Nat.ne_of_lt (Heap.lt_size e)) e
        refine Caps.each hp (by rw [Array.length_toList, e0]) ?_
        refine Caps.store (us := its.toArray.toList) (vs := vs) hN hp (by simpa using rv) (by rw [Array.length_toList, e0]) I2 fun s3 I3 => ?_
        refine thn (hg.run pins s3 _ H1 _ I3 q) fun b s4 ⟨H2, I4, q4⟩ => ?_
        cases b with
        | true => exact hb.run pins s4 _ H2 D I4 (by simpa using q4)
        | false => exact last I4 (by simpa using q4)
      · refine matchSeq_list_miss p.isList fit (by rw [en, hp.len]; exact el) ?_ hstar hwild
        exact last (I1.tok _) q
  · have miss : ∀ {T : String}, s1.TypeIs u T → flagOfType true (.type T) = pure false → wpAny (model X.prog X.w) X.A (matchPattern (.MatchSequence ps p1) X.env u) (fun r s₁ => match r with
          | none => wpAny (model X.prog X.w) X.A (matchCases [⟨.MatchAs none none p2, none, other⟩] X.env u false) (SP X pins D) X.xe s₁
          | some bs => wpAny (model X.prog X.w) X.A (assignInOrder (bs.map fun (n, _) => bindName X.env n) (bs.map (·.2))) (fun _ s₂ => wpAny (model X.prog X.w) X.A (isTrue g X.env (eval g X.env))
                  (fun ok s₃ => if ok then wpAny (model X.prog X.w) X.A (execs body X.env) (SP X pins D) X.xe s₃ else wpAny (model X.prog X.w) X.A (matchCases [⟨.MatchAs none none p2, none, other⟩] X.env u false) (SP X pins D) X.xe s₃) X.xe s₂) X.xe s₁) X.xe s1 := fun {T} hT hfl => by
      refine wpAny_matchPattern_Sequence (wpAny_collectionFlag hT hfl ?_) hstar hwild
      rw [if_neg (by decide)]
      exact last I1 q
    cases x with
    | non => cases (show u = Value.none from r1); exact miss (T := "NoneType") (by trivial) flag_seq_None
    | bl b => cases (show u = Value.bool b from r1); exact miss (T := "bool") (by trivial) flag_seq_bool
    | int i => obtain ⟨t, rfl⟩ := (show ∃ t, u = Value.int i t from r1); exact miss (T := "int") (by trivial) flag_seq_int
    | str z => obtain ⟨t, rfl⟩ := (show ∃ t, u = Value.str z t from r1); exact miss (T := "str") (by trivial) flag_seq_str
    | byt b => cases hn
    | flt b => cases hn
    | ref a => cases hn
    | ty n => cases hn

end MF
set_option Elab.async false
set_option linter.all false
set_option maxRecDepth 100000
set_option maxHeartbeats 1000000
namespace MF
open PySem PySem.Spec PyProof.Rows L2 StX

structure GFn (P : Program) (w : World) (K : PySem.W.Frag) (mg : Str → Option Value) (base : Heap) (CX : CXT) (k : Nat) (x : Str) (sp : Sp) : Prop where
  ex : ∃ f, FnR P w K mg base CX k f sp ∧ mg x = some (.ref f) ∧ PySem.W.keepIn K (.ref f) = true
structure MFn (P : Program) (w : World) (K : PySem.W.Frag) (mg : Str → Option Value) (base : Heap) (CX : CXT) (k : Nat) (C : Addr) (m : Str) (sp : Sp) : Prop where
  ex : ∃ f, FnR P w K mg base CX k f sp ∧ Meth K C m f
structure IFn (P : Program) (w : World) (K : PySem.W.Frag) (mg : Str → Option Value) (base : Heap) (CX : CXT) (k : Nat) (C : Addr) (x : Str) (sp : Sp) : Prop where
  ex : ∃ f, FnR P w K mg base CX k f sp ∧ Mk K C f ∧ mg x = some (.ref C)
section
variable {P : Program} {w : World} {K : PySem.W.Frag} {mg : Str → Option Value} {base : Heap} {CX : CXT} {j k : Nat} {C : Addr} {x m : Str} {sp sp' : Sp}
theorem GFn.mono (G : GFn P w K mg base CX j x sp) (h : j ≤ k) : GFn P w K mg base CX k x sp := let ⟨f, a, b⟩ := G.ex; ⟨f, a.mono h, b⟩
theorem GFn.imp (G : GFn P w K mg base CX k x sp) (h : ∀ vs H Q E, sp' vs H Q E → sp vs H Q E) : GFn P w K mg base CX k x sp' := let ⟨f, a, b⟩ := G.ex; ⟨f, a.imp h, b⟩
theorem MFn.mono (G : MFn P w K mg base CX j C m sp) (h : j ≤ k) : MFn P w K mg base CX k C m sp := let ⟨f, a, b⟩ := G.ex; ⟨f, a.mono h, b⟩
theorem MFn.imp (G : MFn P w K mg base CX k C m sp) (h : ∀ vs H Q E, sp' vs H Q E → sp vs H Q E) : MFn P w K mg base CX k C m sp' := let ⟨f, a, b⟩ := G.ex; ⟨f, a.imp h, b⟩
end
structure GDef (K : PySem.W.Frag) (mg : Str → Option Value) (x : Str) (st : Stmt) (ps : List Str) : Prop where
  ex : ∃ f fd, Fun K x x st f fd ∧ mg x = some (.ref f) ∧ Binds K fd ps []
structure MDef (K : PySem.W.Frag) (C : Addr) (m qual : Str) (st : Stmt) (ps : List Str) : Prop where
  ex : ∃ f fd, Fun K m qual st f fd ∧ Meth K C m f ∧ Binds K fd ps []
structure IDef (K : PySem.W.Frag) (mg : Str → Option Value) (C : Addr) (x qual : Str) (st : Stmt) (ps : List Str) : Prop where
  ex : ∃ f fd, Fun K "__init__" qual st f fd ∧ Mk K C f ∧ mg x = some (.ref C) ∧ Binds K fd ps []
section
variable {P : Program} {w : World} {K : PySem.W.Frag} {mg : Str → Option Value} {base : Heap} {CX : CXT} {k : Nat} {C : Addr} {x m qual : Str} {st : Stmt} {ps : List Str} {sp : Sp}
theorem raw0 {f : Addr} {fd : FuncData} (F : FnOk P w K mg base CX k f fd ps sp) (hb : Binds K fd ps []) : FnR P w K mg base CX k f sp :=
  (F.raw hb (dvs := []) .nil).imp fun vs H Q E h => by rw [List.append_nil]; exact h
theorem GDef.fn (D : GDef K mg x st ps) (h : ∀ f fd, Fun K x x st f fd → FnOk P w K mg base CX k f fd ps sp) : GFn P w K mg base CX k x sp :=
  let ⟨f, fd, a, b, c⟩ := D.ex
  ⟨f, raw0 (h f fd a) c, b, a.kp⟩
theorem MDef.fn (D : MDef K C m qual st ps) (h : ∀ f fd, Fun K m qual st f fd → FnOk P w K mg base CX k f fd ps sp) : MFn P w K mg base CX k C m sp :=
  let ⟨f, fd, a, b, c⟩ := D.ex
  ⟨f, raw0 (h f fd a) c, b⟩
theorem IDef.fn (D : IDef K mg C x qual st ps) (h : ∀ f fd, Fun K "__init__" qual st f fd → FnOk P w K mg base CX k f fd ps sp) : IFn P w K mg base CX k C x sp :=
  let ⟨f, fd, a, b, c, d⟩ := D.ex
  ⟨f, raw0 (h f fd a) d, b, c⟩
end
section
variable {X : Cx} {CX : CXT} {k : Nat} {C : Addr} {x m : Str} {sp : Sp} {E : XK} {e o : Expr} {es : List Expr} {ta te : TE} {t : TA} {p pos apos sp_ : Pos}
def tG (sp : Sp) (E : XK) (t : TA) : TE := fun σ H Q => t σ H fun vs H1 => sp vs H1 Q E
theorem pe_gX (G : GFn X.prog X.w X.K X.mg X.base CX k x sp) (hr : Room k X.A) (hx : Passes CX X E) (ha : PA X (e :: es) t) (hg : Gl X x := by rfl) (hdb : (x == ("__debug__" : Str)) = false := by decide)
    (he : starEach (e :: es) X.env = (false, eval e X.env) :: starEach es X.env := by rfl) (hpl : (backTo pos (starEach es X.env)).any (·.1) = false := by rfl) :
    PE X (.Call (.Name x p) (e :: es) [] pos) (tG sp E t) := by
  obtain ⟨f, F, hm, hk⟩ := G.ex
  refine ⟨fun pins s σ H Q I h => ?_⟩
  refine wpAny_Call_Name_kw (ld_glob I hg hm ?_ hdb)
  refine PySem.W.callWith_K (h₀ := X.base) I.ok.mod.kin hk (thn (ha.run pos pins s σ H _ I h) fun us s1 ⟨vs, H1, I1, r, q⟩ => ⟨I1.kIn, ?_⟩) he hpl
  exact wpAny_call (run_fnR F hr hx I1 r q)
theorem pe_g (G : GFn X.prog X.w X.K X.mg X.base CX0 k x sp) (hr : Room k X.A) (ha : PA X (e :: es) t) (hg : Gl X x := by rfl) (hdb : (x == ("__debug__" : Str)) = false := by decide)
    (he : starEach (e :: es) X.env = (false, eval e X.env) :: starEach es X.env := by rfl) (hpl : (backTo pos (starEach es X.env)).any (·.1) = false := by rfl) :
    PE X (.Call (.Name x p) (e :: es) [] pos) (tG sp E0 t) := pe_gX G hr pass0 ha hg hdb he hpl
theorem pe_g0X (G : GFn X.prog X.w X.K X.mg X.base CX k x sp) (hr : Room k X.A) (hx : Passes CX X E) (hg : Gl X x := by rfl) (hdb : (x == ("__debug__" : Str)) = false := by decide) :
    PE X (.Call (.Name x p) [] [] pos) (tG sp E tNil) := by
  obtain ⟨f, F, hm, hk⟩ := G.ex
  refine ⟨fun pins s σ H Q I h => ?_⟩
  refine wpAny_Call_Name_kw (ld_glob I hg hm ?_ hdb)
  exact PySem.W.callWith_K0 I.kIn hk (wpAny_call (run_fnR (us := []) F hr hx I .nil h))
theorem pe_gS (G : GFn X.prog X.w X.K X.mg X.base CX k x sp) (hr : Room k X.A) (hx : Passes CX X E) (he : PE X e te) (hg : Gl X x := by rfl) (hdb : (x == ("__debug__" : Str)) = false := by decide)
    (hst : starEach [.Starred e sp_] X.env = [(true, eval e X.env)] := by rfl) :
    PE X (.Call (.Name x p) [.Starred e sp_] [] pos) (tG sp E (tStar X.K te tNil)) := by
  obtain ⟨f, F, hm, hk⟩ := G.ex
  refine ⟨fun pins s σ H Q I h => ?_⟩
  refine wpAny_Call_Name_kw (ld_glob I hg hm ?_ hdb)
  refine PySem.W.callWith_S (h₀ := X.base) I.ok.mod.kin hk (thn (he.run pins s σ H _ I h) fun v s1 ⟨y, H1, I1, ry, a, xs, ey, hxs, q⟩ => ?_) hst
  subst ey
  obtain rfl : v = Value.ref a := ry
  refine star_any I1 hxs fun us s2 I2 rv => ⟨I2.kIn, wpAny_call (run_fnR F hr hx I2 rv ?_)⟩
  have q' : sp (xs ++ []) H1 Q E := q
  rw [List.append_nil] at q'
  exact q'
theorem pe_mkX (G : IFn X.prog X.w X.K X.mg X.base CX k C x sp) (hr : Room (k + 1) X.A) (hx : Passes CX X E) (ha : PA X (e :: es) t) (hg : Gl X x := by rfl) (hdb : (x == ("__debug__" : Str)) = false := by decide)
    (he : starEach (e :: es) X.env = (false, eval e X.env) :: starEach es X.env := by rfl) (hpl : (backTo pos (starEach es X.env)).any (·.1) = false := by rfl) : PE X (.Call (.Name x p) (e :: es) [] pos) (tMakeR C sp E t) := by
  obtain ⟨f, F, M, hm⟩ := G.ex
  exact pe_makeR M F hr hg hm hx ha hdb he hpl
theorem pe_mk0X (G : IFn X.prog X.w X.K X.mg X.base CX k C x sp) (hr : Room (k + 1) X.A) (hx : Passes CX X E) (hg : Gl X x := by rfl) (hdb : (x == ("__debug__" : Str)) = false := by decide) : PE X (.Call (.Name x p) [] [] pos) (tMakeR C sp E tNil) := by
  obtain ⟨f, F, M, hm⟩ := G.ex
  refine ⟨fun pins s σ H Q I h => ?_⟩
  refine wpAny_Call_Name_kw (ld_glob I hg hm ?_ hdb)
  exact PySem.W.callWith_K0 I.kIn M.kp (run_makeR (us := []) M F hr hx I .nil h)
theorem pe_mkS (G : IFn X.prog X.w X.K X.mg X.base CX k C x sp) (hr : Room (k + 1) X.A) (hx : Passes CX X E) (he : PE X e te) (hg : Gl X x := by rfl) (hdb : (x == ("__debug__" : Str)) = false := by decide)
    (hst : starEach [.Starred e sp_] X.env = [(true, eval e X.env)] := by rfl) : PE X (.Call (.Name x p) [.Starred e sp_] [] pos) (tMakeR C sp E (tStar X.K te tNil)) := by
  obtain ⟨f, F, M, hm⟩ := G.ex
  refine ⟨fun pins s σ H Q I h => ?_⟩
  refine wpAny_Call_Name_kw (ld_glob I hg hm ?_ hdb)
  refine PySem.W.callWith_S (h₀ := X.base) I.ok.mod.kin M.kp (thn (he.run pins s σ H _ I h) fun v s1 ⟨y, H1, I1, ry, a, xs, ey, hxs, q⟩ => ?_) hst
  subst ey
  obtain rfl : v = Value.ref a := ry
  refine star_any I1 hxs fun us s2 I2 rv => ⟨I2.kIn, run_makeR M F hr hx I2 rv ?_⟩
  have q' : ∀ x dx, H1 x = none → H1 dx = none → dx ≠ x → sp (V.ref x :: (xs ++ [])) (upd (upd H1 dx (.own x)) x (.ins C dx [])) (fun v H2 => v = .non ∧ Q (.ref x) H2) E := q
  rw [List.append_nil] at q'
  exact q'
theorem pe_mkS2 (G : IFn X.prog X.w X.K X.mg X.base CX k C x sp) (hr : Room (k + 1) X.A) (hx : Passes CX X E) (ha : PA X (e :: es) t) (hg : Gl X x := by rfl) (hdb : (x == ("__debug__" : Str)) = false := by decide)
    (he : starEach (e :: es) X.env = (false, eval e X.env) :: starEach es X.env := by rfl) (hst : (backTo pos (starEach es X.env)).any (·.1) = true := by rfl) : PE X (.Call (.Name x p) (e :: es) [] pos) (tMakeR C sp E t) := by
  obtain ⟨f, F, M, hm⟩ := G.ex
  refine ⟨fun pins s σ H Q I h => ?_⟩
  refine wpAny_Call_Name_kw (ld_glob I hg hm ?_ hdb)
  refine PySem.W.callWith_S2 (h₀ := X.base) I.ok.mod.kin M.kp (thn (ha.run pos pins s σ H _ I h) fun us s1 ⟨vs, H1, I1, r, q⟩ => ⟨I1.kIn, ?_⟩) he hst
  exact run_makeR M F hr hx I1 r q
def tM (C : Addr) (m : Str) (sp : Sp) (E : XK) (ta : TE) (t : TA) : TE := fun σ H Q => ta σ H fun x H1 => ∃ a dx fs, x = .ref a ∧ H1 a = some (.ins C dx fs) ∧ fs.lookup m = none ∧ t σ H1 fun vs H2 => sp (x :: vs) H2 Q E
theorem pe_mX {pl : Sem Bool} (G : MFn X.prog X.w X.K X.mg X.base CX k C m sp) (c : Cls X.K C) (hr : Room k X.A) (hx : Passes CX X E) (he : PE X o ta) (ha : PA X (e :: es) t)
    (hst : starEach (e :: es) X.env = (false, eval e X.env) :: starEach es X.env := by rfl) (hpl : (backTo pos (starEach es X.env)).any (·.1) = false := by rfl)
    (ht : eval (.Call (.Attribute o m apos) (e :: es) [] pos) X.env = (do
      let ov ← eval o X.env
      standAt apos.atName
      let (f, first) ← holding [ov] (getMethod ov m pl)
      callWith pos f first (backTo pos (starEach (e :: es) X.env)) (backToKw pos (keywordEach [] X.env))) := by rfl) :
    PE X (.Call (.Attribute o m apos) (e :: es) [] pos) (tM C m sp E ta t) := by
  obtain ⟨f, F, hm⟩ := G.ex
  refine ⟨fun pins s σ H Q I h => ?_⟩
  refine PySem.W.methodCall_KW (pl := pl) (thn (he.run pins s σ H _ I h) fun u s1 ⟨x, H1, I1, rx, a, dx, fs, ex, ea, l, q⟩ => ?_) ht
  subst ex
  obtain rfl : u = Value.ref a := rx
  refine getmeth_ok I1 ea c hm l ?_
  refine PySem.W.callWith_K (first := [.ref a]) (h₀ := X.base) I.ok.mod.kin hm.kp (thn (ha.run pos pins s1 σ H1 _ I1 q) fun us s2 ⟨vs, H2, I2, r, q2⟩ => ⟨I2.kIn, ?_⟩) hst hpl
  exact wpAny_call (run_fnR (us := .ref a :: us) (vs := .ref a :: vs) F hr hx I2 (.cons rfl r) q2)
theorem pe_m {pl : Sem Bool} (G : MFn X.prog X.w X.K X.mg X.base CX0 k C m sp) (c : Cls X.K C) (hr : Room k X.A) (he : PE X o ta) (ha : PA X (e :: es) t)
    (hst : starEach (e :: es) X.env = (false, eval e X.env) :: starEach es X.env := by rfl) (hpl : (backTo pos (starEach es X.env)).any (·.1) = false := by rfl)
    (ht : eval (.Call (.Attribute o m apos) (e :: es) [] pos) X.env = (do
      let ov ← eval o X.env
      standAt apos.atName
      let (f, first) ← holding [ov] (getMethod ov m pl)
      callWith pos f first (backTo pos (starEach (e :: es) X.env)) (backToKw pos (keywordEach [] X.env))) := by rfl) :
    PE X (.Call (.Attribute o m apos) (e :: es) [] pos) (tM C m sp E0 ta t) := pe_mX G c hr pass0 he ha hst hpl ht
theorem pe_mX0 {pl : Sem Bool} (G : MFn X.prog X.w X.K X.mg X.base CX k C m sp) (c : Cls X.K C) (hr : Room k X.A) (hx : Passes CX X E) (he : PE X o ta)
    (ht : eval (.Call (.Attribute o m apos) [] [] pos) X.env = (do
      let ov ← eval o X.env
      standAt apos.atName
      let (f, first) ← holding [ov] (getMethod ov m pl)
      callWith pos f first (backTo pos (starEach [] X.env)) (backToKw pos (keywordEach [] X.env))) := by rfl) :
    PE X (.Call (.Attribute o m apos) [] [] pos) (tM C m sp E ta tNil) := by
  obtain ⟨f, F, hm⟩ := G.ex
  refine ⟨fun pins s σ H Q I h => ?_⟩
  refine PySem.W.methodCall_KW (pl := pl) (thn (he.run pins s σ H _ I h) fun u s1 ⟨x, H1, I1, rx, a, dx, fs, ex, ea, l, q⟩ => ?_) ht
  subst ex
  obtain rfl : u = Value.ref a := rx
  refine getmeth_ok I1 ea c hm l ?_
  exact PySem.W.callWith_K0 (first := [.ref a]) I1.kIn hm.kp (wpAny_call (run_fnR (us := [.ref a]) (vs := [.ref a]) F hr hx I1 (.cons rfl .nil) q))
theorem pe_m0 {pl : Sem Bool} (G : MFn X.prog X.w X.K X.mg X.base CX0 k C m sp) (c : Cls X.K C) (hr : Room k X.A) (he : PE X o ta)
    (ht : eval (.Call (.Attribute o m apos) [] [] pos) X.env = (do
      let ov ← eval o X.env
      standAt apos.atName
      let (f, first) ← holding [ov] (getMethod ov m pl)
      callWith pos f first (backTo pos (starEach [] X.env)) (backToKw pos (keywordEach [] X.env))) := by rfl) :
    PE X (.Call (.Attribute o m apos) [] [] pos) (tM C m sp E0 ta tNil) := pe_mX0 G c hr pass0 he ht
theorem pe_gint {n : Int} (h : ∃ t, X.mg x = some (.int n t)) (hg : Gl X x := by rfl) (hd : (x == ("__debug__" : Str)) = false := by decide) : PE X (.Name x pos) (tC (.int n)) := by
  obtain ⟨t, h⟩ := h
  exact pe_glob hg h ⟨_, rfl⟩ hd
theorem pe_gstr {z : Str} (h : ∃ t, X.mg x = some (.str z t)) (hg : Gl X x := by rfl) (hd : (x == ("__debug__" : Str)) = false := by decide) : PE X (.Name x pos) (tC (.str z)) := by
  obtain ⟨t, h⟩ := h
  exact pe_glob hg h ⟨_, rfl⟩ hd
end
theorem op_ownR {X : Cx} {op : Operator} {C f : Addr} {m : Str} {CX : CXT} {k : Nat} {sp : Sp} {E : XK} (hc : PySem.W.selfFirst X.K C = true) (M : Meth X.K C m f) (F : FnR X.prog X.w X.K X.mg X.base CX k f sp) (hr : Room k X.A) (hx : Passes CX X E) (hm : PySem.dunder op.info.2 = m := by rfl) :
    OpR X (binaryOp op) (fun x y H Q => ∃ a b dx dy fs gs, x = .ref a ∧ y = .ref b ∧ H a = some (.ins C dx fs) ∧ H b = some (.ins C dy gs) ∧ sp [.ref a, .ref b] H Q E) := by
  subst hm
  rintro pins s σ H x y u v Q I rx ry ⟨a, b, dx, dy, fs, gs, rfl, rfl, ea, eb, h⟩
  obtain rfl : u = Value.ref a := rx
  obtain rfl : v = Value.ref b := ry
  obtain ⟨mA, O, _⟩ := ins_get I.hok ea
  obtain ⟨mB, O', _⟩ := ins_get I.hok eb
  obtain ⟨od, ia, _⟩ := O.look
  obtain ⟨od', ib, _⟩ := O'.look
  obtain ⟨mm, fr⟩ := I.fr
  refine PySem.W.binop_K fr I.mod.kin ia ib.type hc M.at_ M.fn ?_
  refine thn (wpAny_call (run_fnR (us := [.ref a, .ref b]) (vs := [.ref a, .ref b]) F hr hx I (.cons rfl (.cons rfl .nil)) h)) fun r s' hq => ?_
  obtain ⟨z, H', I', rz, q⟩ := hq
  exact notNI rz ⟨z, H', I', rz, q⟩
structure SDef (K : PySem.W.Frag) (mg : Str → Option Value) (C : Addr) (x qual : Str) (st : Stmt) (p1 pv : Str) : Prop where
  ex : ∃ f fd, Fun K "__init__" qual st f fd ∧ Mk K C f ∧ mg x = some (.ref C) ∧ ∀ us rest : List Value, us.length = [p1].length → bindArgs fd ⟨us ++ rest, []⟩ = (newTuple rest >>= fun t => pure ([p1].zip us ++ [(pv, t)]))
theorem SDef.fn0 {P : Program} {w : World} {K : PySem.W.Frag} {mg : Str → Option Value} {base : Heap} {k : Nat} {C : Addr} {x qual p1 pv : Str} {st : Stmt} {N : List Str} {sp : Sp} (D : SDef K mg C x qual st p1 pv) (S : FnScope N [p1, pv] (defScope st))
    (hbody : ∀ (f : Addr) (cdv : Value) (A : Around) (outer : List Env) (s : Shared) (H : Hp) (vs : List V) (Q : VK) (E : XK), Room k (A.deeper (envOfC qual (defScope st) s.heap.objs.size f cdv)) → sp vs H Q E →
      ∃ t, PSs (cxOf CX0 P w K mg base N qual (defScope st) f cdv A outer s H E).nox (defBody st) t ∧ t { nx := fun _ H' => Q .non H', rt := Q } (start N vs) H) :
    IFn P w K mg base CX0 (k + 1) C x (fun vs H Q E => ∃ v rest, vs = v :: rest ∧ rest.length ≤ sizeLine ∧ ∀ p, H p = Option.none → sp [v, V.ref p] (upd H p (.tup rest)) Q E) := by
  obtain ⟨f, fd, F, M, hm, hb⟩ := D.ex
  obtain ⟨oc, od, kV, doc, pm, an, cdv, ct, osl, rfl, lk, hcd⟩ := F.ex
  refine ⟨f, (fn_star (ps := [p1]) (pv := pv) (sp := sp) lk hcd S cxUp_none hb fun A outer s H vs Q E hr hsp => ?_).imp fun vs H Q E h => ?_, M, hm⟩
  · obtain ⟨t, h, q⟩ := hbody f cdv A outer s H vs Q E hr hsp
    exact ⟨t, h.nox, q⟩
  · obtain ⟨v, rest, rfl, hl, q⟩ := h
    exact ⟨[v], rest, rfl, rfl, hl, q⟩
end MF
set_option Elab.async false
set_option linter.all false
set_option maxRecDepth 100000
set_option maxHeartbeats 1000000
namespace MF
open PySem PySem.Spec PyProof.Rows L2 StX ClX
structure PDef (K : PySem.W.Frag) (C : Addr) (m qual : Str) (st : Stmt) (ps : List Str) : Prop where
  ex : ∃ p f fd, Fun K m qual st f fd ∧ PropOf K C m p f ∧ Binds K fd ps []
structure PFn (P : Program) (w : World) (K : PySem.W.Frag) (mg : Str → Option Value) (base : Heap) (CX : CXT) (k : Nat) (C : Addr) (m : Str) (sp : Sp) : Prop where
  ex : ∃ p f fd ps, FnOk P w K mg base CX k f fd ps sp ∧ PropOf K C m p f ∧ Binds K fd ps []
theorem PDef.fn {P : Program} {w : World} {K : PySem.W.Frag} {mg : Str → Option Value} {base : Heap} {CX : CXT} {k : Nat} {C : Addr} {m qual : Str} {st : Stmt} {ps : List Str} {sp : Sp} (D : PDef K C m qual st ps) (h : ∀ f fd, Fun K m qual st f fd → FnOk P w K mg base CX k f fd ps sp) : PFn P w K mg base CX k C m sp :=
  let ⟨p, f, fd, a, b, c⟩ := D.ex
  ⟨p, f, fd, ps, h f fd a, b, c⟩
theorem pe_pr {X : Cx} {k : Nat} {C : Addr} {m : Str} {sp : Sp} {e : Expr} {ta : TE} {pos : Pos} (G : PFn X.prog X.w X.K X.mg X.base CX0 k C m sp) (c : Cls X.K C) (hr : Room (k + 1) X.A) (he : PE X e ta) (hab : attributeBase e m X.env (eval e X.env) = eval e X.env := by rfl) : PE X (.Attribute e m pos) (tProp C sp [] E0 ta) := by
  obtain ⟨p, f, fd, ps, F, hp, hb⟩ := G.ex
  exact pe_prop he c hp F hr hb .nil pass0 hab
structure CDef (K : PySem.W.Frag) (C : Addr) (m qual : Str) (st : Stmt) (ps : List Str) (pv : Str) : Prop where
  ex : ∃ mc p f fd, Fun K m qual st f fd ∧ CRead K C mc ∧ CMet K C mc m p f ∧ ∀ us rest : List Value, us.length = ps.length → bindArgs fd ⟨us ++ rest, []⟩ = (newTuple rest >>= fun t => pure (ps.zip us ++ [(pv, t)]))
structure CFn (P : Program) (w : World) (K : PySem.W.Frag) (mg : Str → Option Value) (base : Heap) (CX : CXT) (k : Nat) (C : Addr) (m : Str) (sp : Sp) : Prop where
  ex : ∃ mc p f, FnR P w K mg base CX k f sp ∧ CRead K C mc ∧ CMet K C mc m p f
theorem CDef.fn0 {P : Program} {w : World} {K : PySem.W.Frag} {mg : Str → Option Value} {base : Heap} {k : Nat} {C : Addr} {m qual pv : Str} {ps : List Str} {st : Stmt} {N : List Str} {sp : Sp} (D : CDef K C m qual st ps pv) (S : FnScope N (ps ++ [pv]) (defScope st))
    (hbody : ∀ (f : Addr) (cdv : Value) (A : Around) (outer : List Env) (s : Shared) (H : Hp) (vs : List V) (Q : VK) (E : XK), Room k (A.deeper (envOfC qual (defScope st) s.heap.objs.size f cdv)) → sp vs H Q E →
      ∃ t, PSs (cxOf CX0 P w K mg base N qual (defScope st) f cdv A outer s H E).nox (defBody st) t ∧ t { nx := fun _ H' => Q .non H', rt := Q } (start N vs) H) :
    CFn P w K mg base CX0 (k + 1) C m (fun vs H Q E => ∃ ws rest, vs = ws ++ rest ∧ ws.length = ps.length ∧ rest.length ≤ sizeLine ∧ ∀ p, H p = Option.none → sp (ws ++ [V.ref p]) (upd H p (.tup rest)) Q E) := by
  obtain ⟨mc, p, f, fd, F, R, M, hb⟩ := D.ex
  obtain ⟨oc, od, kV, doc, pm, an, cdv, ct, osl, rfl, lk, hcd⟩ := F.ex
  refine ⟨mc, p, f, fn_star (ps := ps) (pv := pv) (sp := sp) lk hcd S cxUp_none hb fun A outer s H vs Q E hr hsp => ?_, R, M⟩
  obtain ⟨t, h, q⟩ := hbody f cdv A outer s H vs Q E hr hsp
  exact ⟨t, h.nox, q⟩
theorem bind_star4 {B : List Value → Sem (List (Str × Value))} {p1 p2 p3 p4 pv : Str} (h0 : ∀ a b c d, B [a, b, c, d] = (newTuple [] >>= fun t => pure [(p1, a), (p2, b), (p3, c), (p4, d), (pv, t)])) (h1 : ∀ a b c d r rs, B (a :: b :: c :: d :: r :: rs) = (newTuple (r :: rs) >>= fun t => pure [(p1, a), (p2, b), (p3, c), (p4, d), (pv, t)])) :
    ∀ us rest : List Value, us.length = [p1, p2, p3, p4].length → B (us ++ rest) = (newTuple rest >>= fun t => pure ([p1, p2, p3, p4].zip us ++ [(pv, t)])) := by
  intro us rest hl
  match us, hl with
  | [a, b, c, d], _ =>
    cases rest with
    | nil => exact h0 a b c d
    | cons r rs => exact h1 a b c d r rs
theorem pe_cm {X : Cx} {k : Nat} {C : Addr} {m : Str} {sp : Sp} {o e : Expr} {es : List Expr} {ta : TE} {t : TA} {pos apos : Pos} {pl : Sem Bool} (G : CFn X.prog X.w X.K X.mg X.base CX0 k C m sp) (hr : Room k X.A) (he : PE X o ta) (ha : PA X (e :: es) t)
    (hst : starEach (e :: es) X.env = (false, eval e X.env) :: starEach es X.env := by rfl) (hpl : (backTo pos (starEach es X.env)).any (·.1) = false := by rfl)
    (ht : eval (.Call (.Attribute o m apos) (e :: es) [] pos) X.env = (do
      let ov ← eval o X.env
      standAt apos.atName
      let (f, first) ← holding [ov] (getMethod ov m pl)
      callWith pos f first (backTo pos (starEach (e :: es) X.env)) (backToKw pos (keywordEach [] X.env))) := by rfl) :
    PE X (.Call (.Attribute o m apos) (e :: es) [] pos) (tCMeth C sp E0 ta t) := by
  obtain ⟨mc, p, f, F, R, M⟩ := G.ex
  exact pe_cmeth he R M F hr pass0 ha hst hpl ht
def tMkL (i : Nat) (C : Addr) (sp : Sp) (E : XK) (t : TA) : TE := fun σ H Q => σ[i]? = some (some (.ref C)) ∧ tMakeR C sp E t σ H Q
theorem pe_mkSL {X : Cx} {CX : CXT} {k i : Nat} {C : Addr} {x y : Str} {sp : Sp} {E : XK} {e : Expr} {te : TE} {p pos sp_ : Pos} (G : IFn X.prog X.w X.K X.mg X.base CX k C y sp) (hr : Room (k + 1) X.A) (hx : Passes CX X E) (hN : X.N[i]? = some x) (hv : Vis X.env.scope x) (he : PE X e te)
    (hdb : (x == ("__debug__" : Str)) = false := by decide) (hcd : (x == ("__classdict__" : Str)) = false := by decide)
    (hst : starEach [.Starred e sp_] X.env = [(true, eval e X.env)] := by rfl) : PE X (.Call (.Name x p) [.Starred e sp_] [] pos) (tMkL i C sp E (tStar X.K te tNil)) := by
  obtain ⟨f, F, M, hm⟩ := G.ex
  refine ⟨fun pins s σ H Q I h => ?_⟩
  obtain ⟨hs, ht⟩ := h
  refine wpAny_Call_Name_kw (thn ((pe_var (pos := p) hN hv hdb hcd).run pins s σ H (fun v H1 => v = .ref C ∧ H1 = H) I ⟨.ref C, hs, rfl, rfl⟩) fun u s1 ⟨v, H1, I1, r1, q1⟩ => ?_)
  obtain ⟨rfl, rfl⟩ := q1
  cases r1
  refine PySem.W.callWith_S (h₀ := X.base) I.ok.mod.kin M.kp (thn (he.run pins s1 σ _ _ I1 ht) fun v s1 ⟨y, H1, I1, ry, a, xs, ey, hxs, q⟩ => ?_) hst
  subst ey
  obtain rfl : v = Value.ref a := ry
  refine star_any I1 hxs fun us s2 I2 rv => ⟨I2.kIn, run_makeR M F hr hx I2 rv ?_⟩
  have q' : ∀ x dx, H1 x = none → H1 dx = none → dx ≠ x → sp (V.ref x :: (xs ++ [])) (upd (upd H1 dx (.own x)) x (.ins C dx [])) (fun v H2 => v = .non ∧ Q (.ref x) H2) E := q
  rw [List.append_nil] at q'
  exact q'
end MF
set_option Elab.async false
set_option linter.all false
set_option maxRecDepth 100000
set_option maxHeartbeats 1000000
namespace MF
open PySem PySem.Spec PyProof.Rows L2 StX
section
variable {X : Cx} {pins : List (Addr × Obj)} {σ : L2.St} {H : Hp} {s : Shared} {CX : CXT} {k : Nat} {C f : Addr} {sp : Sp} {E : XK}
theorem run_in1 {us : List Value} {vs : List V} {Q : VK} (F : FnR X.prog X.w X.K X.mg X.base CX k f sp) (hr : Room (k + 1) X.A) (hx : Passes CX X E) (I : Inv X pins σ H s) (r : Vals vs us) (h : sp vs H Q E) : wpAny (model X.prog X.w) X.A.in1 (call (.ref f) us) (EP X pins σ Q) X.xe s := by
  have e0 := I.env0
  refine wpAny_call (codeAny_mono (F X.A.in1 X.stack s H us vs Q E hr.in1 ⟨e0.frames, e0.mod, e0.bs, e0.bsz, e0.funs, e0.frf, e0.hok, e0.bare⟩ r h) fun r s' hq => ?_)
  cases r with
  | error e => exact hx pins σ H s e s' I hq
  | ok fl =>
    cases fl with
    | ret u => exact I.after hq
    | next => exact False.elim hq
    | brk => exact False.elim hq
    | cont => exact False.elim hq
def rLenO (C : Addr) (sp : Sp) (E : XK) : List V → Hp → VK → Prop := fun xs H Q => ∃ a dx fs, xs = [.ref a] ∧ H a = some (.ins C dx fs) ∧ sp [.ref a] H (fun v H' => ∃ n : Nat, v = .int (n : Int) ∧ (n : Int) < 2 ^ 63 ∧ Q (.int (n : Int)) H') E
theorem cr_lenO (M : Meth X.K C "__len__" f) (F : FnR X.prog X.w X.K X.mg X.base CX k f sp) (hr : Room (k + 1) X.A) (hx : Passes CX X E) : CallR X (.builtin "len") (rLenO C sp E) := by
  rintro pins s σ H xs us Q I r ⟨a, dx, fs, rfl, ea, h⟩
  rw [Vals.ref1 r]
  obtain ⟨mA, O, _⟩ := ins_get I.hok ea
  obtain ⟨od, ia, _⟩ := O.look
  obtain ⟨mm, fr⟩ := I.fr
  refine PySem.W.len_K fr I.mod.kin ia M.at_ M.fn ?_
  refine thn (run_in1 (us := [.ref a]) (vs := [.ref a]) F hr hx I (.cons rfl .nil) h) fun r s' hq => ?_
  obtain ⟨z, H', I', rz, n, rfl, hn, q⟩ := hq
  obtain ⟨t, rfl⟩ := rz
  exact ⟨⟨by omega, hn⟩, .int n, H', I'.tok _, ⟨_, rfl⟩, q⟩
def rIxO (C : Addr) (sp : Sp) (E : XK) : R2 := fun x y H Q => ∃ a dx fs, x = .ref a ∧ H a = some (.ins C dx fs) ∧ sp [.ref a, y] H Q E
theorem pe_ixO {a b : Expr} {ta tb : TE} {pos : Pos} (M : Meth X.K C "__getitem__" f) (F : FnR X.prog X.w X.K X.mg X.base CX k f sp) (hr : Room (k + 1) X.A) (hx : Passes CX X E) (hfi : PySem.W.fnIn X.K f = true) (ha : PE X a ta) (hb : PE X b tb)
    (hsl : ∀ o i, subscripted b true o i = runValue (.builtin "lifetime.subscript" ⟨[o, i], []⟩)) : PE X (.Subscript a b pos) (tOp (rIxO C sp E) ta tb) := by
  refine ⟨fun pins s σ H Q I h => ?_⟩
  refine Subscript_ (binT ha hb I h fun v u s2 x y H2 I2 rx ry q => ?_)
  obtain ⟨c, dx, fs, rfl, ec, q⟩ := q
  obtain rfl : v = Value.ref c := rx
  obtain ⟨mA, O, _⟩ := ins_get I2.hok ec
  obtain ⟨od, ia, _⟩ := O.look
  obtain ⟨mm, fr⟩ := I2.fr
  refine PySem.W.sub_K fr I2.mod.kin ia M.at_ hfi M.fn ?_ (hsl _ _)
  exact run_in1 (us := [.ref c, u]) (vs := [.ref c, y]) F hr hx I2 (.cons rfl (.cons ry .nil)) q
end
end MF
set_option Elab.async false
set_option linter.all false
set_option maxRecDepth 100000
set_option maxHeartbeats 1000000
namespace MF
open PySem PySem.Spec PyProof.Rows L2 StX

theorem Same.tup {K : PySem.W.Frag} {H H' : Hp} {a : Addr} {xs : List V} (e : Same H H') (h : SqT K H a xs) : SqT K H' a xs := by
  rcases h with (h | ⟨o, h⟩) | h
  · exact .inl (.inl (e _ _ h))
  · exact .inl (.inr ⟨o, e _ _ h⟩)
  · exact .inr h
theorem Same.upd {H H' : Hp} {p : Addr} {o : HO} (e : Same H H') (h : H' p = none) : Same H (L2.upd H' p o) := fun b u q => by
  rw [upd_ne (ne_of_none (e b u q) h)]
  exact e b u q
theorem Same.new {H : Hp} {p : Addr} {o : HO} (h : H p = none) : Same H (L2.upd H p o) := Same.upd (Same.refl H) h
theorem tyT {K : PySem.W.Frag} {H : Hp} {a : Addr} {xs : List V} (h : SqT K H a xs) : TyX K H (.ref a) (.type "tuple") := by
  rcases h with (h | ⟨o, h⟩) | ⟨o, its, n, e, c, _⟩
  · exact .base (.tup h)
  · exact .fTuple h
  · exact .kTuple e c
theorem tyL {K : PySem.W.Frag} {H : Hp} {a : Addr} {xs : List V} (h : SqL K H a xs) : TyX K H (.ref a) (.type "list") := by
  rcases h with (h | ⟨o, h⟩) | ⟨o, its, n, e, c, _⟩
  · exact .base (.lst h)
  · exact .base (.frz h)
  · exact .kList e c
def tyN : V → String
  | .non => "NoneType"
  | .bl _ => "bool"
  | .int _ => "int"
  | .str _ => "str"
  | _ => ""
theorem ty_flat {K : PySem.W.Frag} {H : Hp} : ∀ {v : V}, notSeq v = true → TyX K H v (.type (tyN v))
  | .non, _ => .base .non
  | .bl b, _ => .base (.bl b)
  | .int i, _ => .base (.int i)
  | .str x, _ => .base (.str x)
theorem isi_flat {K : PySem.W.Frag} {v : V} {T : String} (h : notSeq v = true) (b : Bool) (hb : ∀ w, notSeq w = true → tyN w = tyN v → kitB (tyN w) T = some b) : PySem.W.kitOne K (.type (tyN v)) (.type T) = some b := kit_ty (hb v h rfl)

theorem kt_int_int {K : PySem.W.Frag} : PySem.W.kitOne K (.type "int") (.type "int") = some true := kit_ty (by decide +kernel)
theorem kt_int_bool {K : PySem.W.Frag} : PySem.W.kitOne K (.type "int") (.type "bool") = some false := kit_ty (by decide +kernel)
theorem kt_int_str {K : PySem.W.Frag} : PySem.W.kitOne K (.type "int") (.type "str") = some false := kit_ty (by decide +kernel)
theorem kt_int_tuple {K : PySem.W.Frag} : PySem.W.kitOne K (.type "int") (.type "tuple") = some false := kit_ty (by decide +kernel)
theorem kt_int_list {K : PySem.W.Frag} : PySem.W.kitOne K (.type "int") (.type "list") = some false := kit_ty (by decide +kernel)
theorem kt_bool_int {K : PySem.W.Frag} : PySem.W.kitOne K (.type "bool") (.type "int") = some true := kit_ty (by decide +kernel)
theorem kt_bool_bool {K : PySem.W.Frag} : PySem.W.kitOne K (.type "bool") (.type "bool") = some true := kit_ty (by decide +kernel)
theorem kt_bool_str {K : PySem.W.Frag} : PySem.W.kitOne K (.type "bool") (.type "str") = some false := kit_ty (by decide +kernel)
theorem kt_bool_tuple {K : PySem.W.Frag} : PySem.W.kitOne K (.type "bool") (.type "tuple") = some false := kit_ty (by decide +kernel)
theorem kt_bool_list {K : PySem.W.Frag} : PySem.W.kitOne K (.type "bool") (.type "list") = some false := kit_ty (by decide +kernel)
theorem kt_NoneType_int {K : PySem.W.Frag} : PySem.W.kitOne K (.type "NoneType") (.type "int") = some false := kit_ty (by decide +kernel)
theorem kt_NoneType_bool {K : PySem.W.Frag} : PySem.W.kitOne K (.type "NoneType") (.type "bool") = some false := kit_ty (by decide +kernel)
theorem kt_NoneType_str {K : PySem.W.Frag} : PySem.W.kitOne K (.type "NoneType") (.type "str") = some false := kit_ty (by decide +kernel)
theorem kt_NoneType_tuple {K : PySem.W.Frag} : PySem.W.kitOne K (.type "NoneType") (.type "tuple") = some false := kit_ty (by decide +kernel)
theorem kt_NoneType_list {K : PySem.W.Frag} : PySem.W.kitOne K (.type "NoneType") (.type "list") = some false := kit_ty (by decide +kernel)
theorem kt_str_int {K : PySem.W.Frag} : PySem.W.kitOne K (.type "str") (.type "int") = some false := kit_ty (by decide +kernel)
theorem kt_str_bool {K : PySem.W.Frag} : PySem.W.kitOne K (.type "str") (.type "bool") = some false := kit_ty (by decide +kernel)
theorem kt_str_str {K : PySem.W.Frag} : PySem.W.kitOne K (.type "str") (.type "str") = some true := kit_ty (by decide +kernel)
theorem kt_str_tuple {K : PySem.W.Frag} : PySem.W.kitOne K (.type "str") (.type "tuple") = some false := kit_ty (by decide +kernel)
theorem kt_str_list {K : PySem.W.Frag} : PySem.W.kitOne K (.type "str") (.type "list") = some false := kit_ty (by decide +kernel)
theorem kt_tuple_int {K : PySem.W.Frag} : PySem.W.kitOne K (.type "tuple") (.type "int") = some false := kit_ty (by decide +kernel)
theorem kt_tuple_bool {K : PySem.W.Frag} : PySem.W.kitOne K (.type "tuple") (.type "bool") = some false := kit_ty (by decide +kernel)
theorem kt_tuple_str {K : PySem.W.Frag} : PySem.W.kitOne K (.type "tuple") (.type "str") = some false := kit_ty (by decide +kernel)
theorem kt_tuple_tuple {K : PySem.W.Frag} : PySem.W.kitOne K (.type "tuple") (.type "tuple") = some true := kit_ty (by decide +kernel)
theorem kt_tuple_list {K : PySem.W.Frag} : PySem.W.kitOne K (.type "tuple") (.type "list") = some false := kit_ty (by decide +kernel)
theorem kt_list_int {K : PySem.W.Frag} : PySem.W.kitOne K (.type "list") (.type "int") = some false := kit_ty (by decide +kernel)
theorem kt_list_bool {K : PySem.W.Frag} : PySem.W.kitOne K (.type "list") (.type "bool") = some false := kit_ty (by decide +kernel)
theorem kt_list_str {K : PySem.W.Frag} : PySem.W.kitOne K (.type "list") (.type "str") = some false := kit_ty (by decide +kernel)
theorem kt_list_tuple {K : PySem.W.Frag} : PySem.W.kitOne K (.type "list") (.type "tuple") = some false := kit_ty (by decide +kernel)
theorem kt_list_list {K : PySem.W.Frag} : PySem.W.kitOne K (.type "list") (.type "list") = some true := kit_ty (by decide +kernel)
def isIntB : V → Int → Int → Bool
  | .int i, lo, hi => decide (lo ≤ i) && decide (i ≤ hi)
  | _, _, _ => false
def letters : Str := "abcdefghijklmnopqrstuvwxyz"
def isAddrB : V → Bool
  | .str z => decide (1 ≤ z.length) && decide (z.length ≤ 8) && z.cps.toList.all fun c => decide (c ∈ letters.cps.toList)
  | _ => false
structure Ordr where
  src : Str
  tgt : Str
  first : Int
  last : Int
  way : Int
  deriving DecidableEq
def Ordr.vals (o : Ordr) : List V := [.str o.src, .str o.tgt, .int o.first, .int o.last, .int o.way]
def OrdAt (K : PySem.W.Frag) (H : Hp) (a : Addr) (o : Ordr) : Prop := SqT K H a o.vals
theorem OrdAt.mono {K : PySem.W.Frag} {H H' : Hp} {a : Addr} {o : Ordr} (h : OrdAt K H a o) (e : Same H H') : OrdAt K H' a o := MF.Same.tup e h
def overB (o p : Ordr) : Bool := decide (o.src = p.src) && (decide (o.first ≤ p.last) && decide (p.first ≤ o.last))
def isOrdB : List V → Bool
  | [s, t, f, l, w] => (isAddrB s && isAddrB t && !decide (s = t)) && ((isIntB l 0 1000000000000000000 && (match l with | .int i => isIntB f 0 i | _ => false)) && isIntB w 1 30)
  | _ => false
structure Ordr.Ok (o : Ordr) : Prop where
  as : isAddrB (.str o.src) = true
  at_ : isAddrB (.str o.tgt) = true
  ne : o.src ≠ o.tgt
  f0 : 0 ≤ o.first
  fl : o.first ≤ o.last
  lm : o.last ≤ 1000000000000000000
  w1 : 1 ≤ o.way
  w30 : o.way ≤ 30
theorem Ordr.Ok.b {o : Ordr} (h : o.Ok) : isOrdB o.vals = true := by
  obtain ⟨a, b, c, d, e, f, g, k⟩ := h
  have c' : decide (V.str o.src = V.str o.tgt) = false := decide_eq_false fun q => c (V.str.inj q)
  unfold isOrdB Ordr.vals
  simp only [a, b, c', isIntB, Bool.and_true, Bool.true_and, Bool.not_false]
  simp [d, e, f, g, k]
  omega

theorem iteD {c A B : Prop} [Decidable c] (hc : c) (h : A) : if decide c = true then A else B := by
  rw [if_pos (decide_eq_true hc)]
  exact h
theorem iteDN {c A B : Prop} [Decidable c] (hc : ¬ c) (h : B) : if decide c = true then A else B := by
  rw [if_neg (by rw [decide_eq_false hc]; exact Bool.false_ne_true)]
  exact h
theorem iteND {c A B : Prop} [Decidable c] (hc : c) (h : B) : if (!decide c) = true then A else B := by
  rw [decide_eq_true hc]
  exact iteF h
theorem iteNDN {c A B : Prop} [Decidable c] (hc : ¬ c) (h : A) : if (!decide c) = true then A else B := by
  rw [decide_eq_false hc]
  exact iteT h
theorem yesT {σ : L2.St} {H : Hp} {Q : Bool → Hp → Prop} (h : Q true H) : tYes σ H Q := h
theorem Paired.get {α β : Type} {R : α → β → Prop} : ∀ {l : List α} {r : List β} {i : Nat} {a : α}, Paired R l r → l[i]? = some a → ∃ b, r[i]? = some b ∧ R a b
  | _, _, _, _, .nil, e => by simp at e
  | _, _, 0, _, .cons h _, e => by simp at e; subst e; exact ⟨_, rfl, h⟩
  | _, _, i + 1, _, .cons _ t, e => by
    obtain ⟨b, h1, h2⟩ := Paired.get (i := i) t (by simpa using e)
    exact ⟨b, by simpa using h1, h2⟩
theorem Paired.append {α β : Type} {R : α → β → Prop} : ∀ {l l' : List α} {r r' : List β}, Paired R l r → Paired R l' r' → Paired R (l ++ l') (r ++ r')
  | _, _, _, _, .nil, h => h
  | _, _, _, _, .cons a t, h => .cons a (Paired.append t h)
def OrdsAt (K : PySem.W.Frag) (H : Hp) (as : List Addr) (os : List Ordr) : Prop := Paired (OrdAt K H) as os
theorem OrdsAt.mono {K : PySem.W.Frag} {H H' : Hp} {as : List Addr} {os : List Ordr} (h : OrdsAt K H as os) (e : Same H H') : OrdsAt K H' as os := PySem.Paired.mono (fun _ _ q => OrdAt.mono q e) h
structure Good (os : List Ordr) : Prop where
  len : os.length ≤ 30
  ok : ∀ o ∈ os, o.Ok
  apart : os.Pairwise fun o p => overB o p = false
def BookAt (K : PySem.W.Frag) (C : Addr) (H : Hp) (p : Addr) (os : List Ordr) : Prop :=
  ∃ dx t as, H p = some (.ins C dx [("listed", .ref t)]) ∧ SqT K H t (as.map V.ref) ∧ OrdsAt K H as os
theorem BookAt.mono {K : PySem.W.Frag} {C : Addr} {H H' : Hp} {p : Addr} {os : List Ordr} (h : BookAt K C H p os) (e : Same H H') : BookAt K C H' p os := by
  obtain ⟨dx, t, as, h1, h2, h3⟩ := h
  exact ⟨dx, t, as, e _ _ h1, MF.Same.tup e h2, h3.mono e⟩
theorem cut_take (xs : List V) (i : Nat) (h : i ≤ xs.length) : cutV xs none (some (i : Int)) = xs.take i := by
  unfold cutV
  rw [HT.sIx_none, HT.sIx_nat, Nat.min_eq_left h]
  simp
theorem ix_listK {X : Cx} {K : PySem.W.Frag} (h : X.K = K := by rfl) : IxR X (rIxL K) := h ▸ ix_list
theorem ix_seqK {X : Cx} {K : PySem.W.Frag} (h : X.K = K := by rfl) : IxR X (rIx K) := h ▸ ix_seq
theorem ix_tupK {X : Cx} {K : PySem.W.Frag} (h : X.K = K := by rfl) : IxR X (rIxT K) := h ▸ ix_tup
theorem pe_fldK {X : Cx} {K : PySem.W.Frag} {e : Expr} {ta : TE} {f : Str} {pos : Pos} (he : PE X e ta) (hb : attributeBase e f X.env (eval e X.env) = eval e X.env) (h : X.K = K := by rfl) : PE X (.Attribute e f pos) (tFld K ta f) := h ▸ pe_fld he hb
def spIsInteger : Sp := fun vs H Q _ => ∃ v lo hi, vs = [v, .int lo, .int hi] ∧ notSeq v = true ∧ Q (.bl (isIntB v lo hi)) H
def shortV : V → Prop
  | .str z => z.length ≤ sizeLine
  | _ => True
def spIsAddress : Sp := fun vs H Q _ => ∃ v, vs = [v] ∧ notSeq v = true ∧ shortV v ∧ ∀ H', Same H H' → Q (.bl (isAddrB v)) H'
def spOverlap (K : PySem.W.Frag) : Sp := fun vs H Q _ => ∃ a b o p, vs = [.ref a, .ref b] ∧ OrdAt K H a o ∧ OrdAt K H b p ∧ Q (.bl (overB o p)) H
def spIsOrder (K : PySem.W.Frag) : Sp := fun vs H Q _ => ∃ v b, vs = [v] ∧ ((∃ a xs, v = .ref a ∧ SqT K H a xs ∧ (∀ x ∈ xs, notSeq x = true ∧ shortV x) ∧ b = isOrdB xs) ∨ (∃ a xs, v = .ref a ∧ SqL K H a xs ∧ b = false) ∨ (notSeq v = true ∧ b = false)) ∧ ∀ H', Same H H' → Q (.bl b) H'
end MF
set_option Elab.async false
set_option linter.all false
namespace MF
open PySem PySem.Spec PyProof.Rows L2 StX
theorem newS {H H2 : Hp} {q : Addr} {o : HO} (h : H q = none) (e : L2.upd H q o = H2) : Same H H2 ∧ H2 q = some o := by
  subst e
  exact ⟨Same.new h, upd_same⟩
end MF
set_option Elab.async false
set_option linter.all false
set_option maxRecDepth 100000
set_option maxHeartbeats 2000000
namespace MF
open PySem PySem.Spec PyProof.Rows L2 StX ClX
theorem passE {P : Program} {w : World} {K : PySem.W.Frag} {mg : Str → Option Value} {base : Heap} {N : List Str} {q : Str} {sc : Scope} {f : Addr} {cdv : Value} {A : Around} {outer : List Env} {s : Shared} {H : Hp} {E : XK} :
    Passes (L2.CX P w) (cxOf (L2.CX P w) P w K mg base N q sc f cdv A outer s H E) E := passes_call (W := fun cls d _ H => E cls d H) (takes_of rfl rfl rfl rfl) fun _ _ _ _ h => h
theorem takeE {P : Program} {w : World} {K : PySem.W.Frag} {mg : Str → Option Value} {base : Heap} {N : List Str} {q : Str} {sc : Scope} {f : Addr} {cdv : Value} {A : Around} {outer : List Env} {s : Shared} {H : Hp} {E : XK} :
    Takes (cxOf (L2.CX P w) P w K mg base N q sc f cdv A outer s H E) (fun cls d _ H => E cls d H) := takes_of rfl rfl rfl rfl
def txtOf : V → Str
  | .str y => y
  | .int i => toString i
  | .bl b => if b then "True" else "False"
  | _ => "None"
def FmtOk : V → Prop
  | .str y => y.length ≤ 1000
  | .int i => i.natAbs.log2 < 1920
  | .bl _ => True
  | .non => True
  | _ => False
def tFmtV (te : TE) : TE := fun σ H Q => te σ H fun x H1 => FmtOk x ∧ ∀ y : Str, y.length ≤ 100000 → Q (.str y) H1
theorem int_len (i : Int) (h : i.natAbs.log2 < 1920) : (Str.ofString (toString i)).length ≤ 100000 := by
  have e := int_text_length_le (k := 1920) (by decide) h
  rw [PySem.ofString_length]
  omega
section
variable {X : Cx}
theorem pe_fmtV {e : Expr} {te : TE} {pos : Pos} (he : PE X e te) : PE X (.FormattedValue e (-1) none pos) (tFmtV te) := by
  refine ⟨fun pins s σ H Q I h => ?_⟩
  refine wpAny_FormattedValue_plain (thn (he.run pins s σ H _ I h) fun v s1 hv => ?_)
  obtain ⟨x, H1, I1, r1, hx, q⟩ := hv
  cases x with
  | str y =>
    obtain ⟨t, rfl⟩ := r1
    have hz : y.length ≤ 1000 := hx
    have hz2 : y.length ≤ sizeLine := Nat.le_trans hz (by rw [sizeLine_eq]; omega)
    exact wpAny_formatField_str ⟨.str y, H1, I1, ⟨t, rfl⟩, q y (by omega)⟩ ⟨.str y, H1, I1.tok _, ⟨_, rfl⟩, q y (by omega)⟩ hz2
  | int i =>
    obtain ⟨t, rfl⟩ := r1
    exact wpAny_formatField_int hx ⟨.str (toString i), H1, I1.tok _, ⟨_, rfl⟩, q _ (int_len i hx)⟩
  | bl b =>
    obtain rfl : v = Value.bool b := r1
    refine wpAny_formatField_bool ⟨.str (if b then "True" else "False"), H1, I1.tok _, ⟨_, rfl⟩, q _ ?_⟩
    cases b <;> decide +kernel
  | non =>
    obtain rfl : v = Value.none := r1
    exact wpAny_formatField_none ⟨.str "None", H1, I1.tok _, ⟨_, rfl⟩, q _ (by decide +kernel)⟩
  | _ => exact hx.elim
structure BaseC (K : PySem.W.Frag) (B : Addr) : Prop where
  ex : ∃ mc, CRead K B mc ∧ PySem.W.findCls K (.ref B) mc "__init__" = some (.val (.builtin "ValueError.__init__"))
theorem pe_binit {pl : Sem Bool} {B : Addr} {x : Str} {e : Expr} {es : List Expr} {ta : TA} {p1 p2 pos : Pos} (hg : Gl X x) (hm : X.mg x = some (.ref B)) (b : BaseC X.K B) (ha : PA X (e :: es) ta) (hdb : (x == ("__debug__" : Str)) = false := by decide)
    (hc : eval (.Call (.Attribute (.Name x p1) "__init__" p2) (e :: es) [] pos) X.env = (do
      let ov ← eval (.Name x p1) X.env
      standAt p2.atName
      let (f, first) ← holding [ov] (getMethod ov "__init__" pl)
      callWith pos f first (backTo pos (starEach (e :: es) X.env)) (backToKw pos (keywordEach [] X.env))) := by rfl)
    (he : starEach (e :: es) X.env = (false, eval e X.env) :: starEach es X.env := by rfl) (hpl : (backTo pos (starEach es X.env)).any (·.1) = false := by rfl) :
    PE X (.Call (.Attribute (.Name x p1) "__init__" p2) (e :: es) [] pos) (tVeI X.K ta) := by
  refine ⟨fun pins s σ H Q I h => ?_⟩
  obtain ⟨mc, r, f0⟩ := b.ex
  refine PySem.W.methodCall_KW (ld_glob I hg hm ?_ hdb) hc
  refine PySem.W.method_cls I.kIn r.ga (PySem.W.cls_value I.kIn r.rd f0 rfl ?_)
  show wpAny _ _ (callWith pos (Value.builtin "ValueError.__init__") [] (backTo pos (starEach (e :: es) X.env)) []) _ _ _
  refine PyProof.Rows.callWith_method1 (thn (ha.run pos pins _ σ H _ (I.tok _) h) fun us s1 ⟨vs, H1, I1, r1, a, C, ws, ev, hl, T, ea, q⟩ => ?_) he hpl
  subst ev
  cases r1 with
  | @cons _ u0 _ ur ra rw' =>
    obtain rfl : u0 = Value.ref a := ra
    have hlen : ur.length ≤ sizeLine := by
      rw [← Paired.length rw', sizeLine_eq]
      omega
    exact oinit_ok T I1 ea hlen fun s' J => ⟨.non, H1, J, rfl, q⟩
end
structure EDef0 (K : PySem.W.Frag) (mg : Str → Option Value) (C : Addr) (x : Str) : Prop where
  bm : PySem.W.excIn K C [.type "ValueError", .type "Exception", .type "BaseException", .type "object"] "ValueError.__new__" = true
  gC : mg x = some (.ref C)
  kC : PySem.W.keepIn K (.ref C) = true
  exC : PySem.W.subIn K (.ref C) (.type "BaseException") = some true
  tyC : PySem.W.typeIn K (.ref C) = some (.type "type")
theorem pmk_0 {X : Cx} {C : Addr} {x : Str} {e : Expr} {es : List Expr} {t : TA} {p pos : Pos} (D : EDef0 X.K X.mg C x) (ha : PA X (e :: es) t) (hg : Gl X x := by rfl) (hdb : (x == ("__debug__" : Str)) = false := by decide)
    (he : starEach (e :: es) X.env = (false, eval e X.env) :: starEach es X.env := by rfl) (hpl : (backTo pos (starEach es X.env)).any (·.1) = false := by rfl) :
    PMk X (.Call (.Name x p) (e :: es) [] pos) (fun σ H Q => t σ H fun vs H1 => vs.length ≤ sizeLine ∧ Q (.ref C) none H1) :=
  pmk_ownA F.excBase_ValueError D.bm D.gC D.kC (raises_own D.exC D.tyC) hg ha hdb he hpl
structure EDef (K : PySem.W.Frag) (mg : Str → Option Value) (C : Addr) (x qual : Str) (st : Stmt) (ps : List Str) : Prop where
  ex : ∃ f fd, Fun K "__init__" qual st f fd ∧ PySem.W.findIn K (.ref C) "__init__" = some (some (.ref f)) ∧ PySem.W.typeIn K (.ref f) = some (.type "function") ∧ Binds K fd ps []
  ox : OexC K C
  gC : mg x = some (.ref C)
structure EFn (P : Program) (w : World) (K : PySem.W.Frag) (mg : Str → Option Value) (base : Heap) (CX : CXT) (k : Nat) (C : Addr) (x : Str) (ps : List Str) (sp : Sp) : Prop where
  ex : ∃ f fd, FnOk P w K mg base CX k f fd ps sp ∧ PySem.W.findIn K (.ref C) "__init__" = some (some (.ref f)) ∧ PySem.W.typeIn K (.ref f) = some (.type "function") ∧ Binds K fd ps []
  ox : OexC K C
  gC : mg x = some (.ref C)
theorem EDef.fn {P : Program} {w : World} {K : PySem.W.Frag} {mg : Str → Option Value} {base : Heap} {CX : CXT} {k : Nat} {C : Addr} {x qual : Str} {st : Stmt} {ps : List Str} {sp : Sp} (D : EDef K mg C x qual st ps) (h : ∀ f fd, Fun K "__init__" qual st f fd → FnOk P w K mg base CX k f fd ps sp) : EFn P w K mg base CX k C x ps sp :=
  let ⟨f, fd, a, b, c, d⟩ := D.ex
  ⟨⟨f, fd, h f fd a, b, c, d⟩, D.ox, D.gC⟩
def spE1 (K : PySem.W.Frag) (C : Addr) (n : Str) : Sp := fun vs H Q _ => ∃ a v, vs = [.ref a, v] ∧ FmtOk v ∧ H a = some (exo a C none) ∧ ∀ dx, H dx = none → dx ≠ a → Q .non (upd (upd H dx (exd dx [(n, v)])) a (exo a C (some dx)))
theorem pmk_1 {X : Cx} {k : Nat} {C : Addr} {x : Str} {ps : List Str} {sp : Sp} {e : Expr} {es : List Expr} {t : TA} {p pos : Pos} (D : EFn X.prog X.w X.K X.mg X.base CX0 k C x ps sp) (hr : Room (k + 1) X.A) (ha : PA X (e :: es) t) (hg : Gl X x := by rfl) (hdb : (x == ("__debug__" : Str)) = false := by decide)
    (he : starEach (e :: es) X.env = (false, eval e X.env) :: starEach es X.env := by rfl) (hpl : (backTo pos (starEach es X.env)).any (·.1) = false := by rfl) :
    PMk X (.Call (.Name x p) (e :: es) [] pos) (tMkO C sp [] t) := by
  obtain ⟨f, fd, F1, b, c, d⟩ := D.ex
  exact pmk_oex (p := p) (pos := pos) (dvs := []) (ds := []) D.ox b c F1 hr d .nil pass0 hg D.gC ha hdb he hpl
theorem e1_fin {K : PySem.W.Frag} {C : Addr} {n : Str} {v : V} {H1 : Hp} {Q : XK} (hf : FmtOk v) (h : ∀ d H3, Same H1 H3 → H1 d = none → H3 d = some (.xd [(n, v)]) → Q (.ref C) (some d) H3) :
    [v].length ≤ 1000 ∧ ∀ a, H1 a = none → spE1 K C n (.ref a :: ([v] ++ [])) (upd H1 a (exo a C none))
      (fun v H2 => v = .non ∧ ∃ (d : Addr) (fs : List (Str × V)), H2 a = some (exo a C (some d)) ∧ H2 d = some (exd d fs) ∧ H1 d = none ∧ Q (.ref C) (some d) (upd (del H2 a) d (.xd fs))) (fun _ _ _ => False) := by
  refine ⟨by simp, fun a ha => ⟨a, v, rfl, hf, upd_same, fun dx hd ne => ⟨rfl, dx, [(n, v)], upd_same, ?_, ?_, ?_⟩⟩⟩
  · rw [upd_ne ne, upd_same]
  · rw [upd_ne ne] at hd
    exact hd
  · have hd1 : H1 dx = none := by
      rw [upd_ne ne] at hd
      exact hd
    refine h dx _ (fun b u e => ?_) hd1 upd_same
    rw [upd_ne (ne_of_none e hd1), del_ne (ne_of_none e ha), upd_ne (ne_of_none e ha), upd_ne (ne_of_none e hd1), upd_ne (ne_of_none e ha)]
    exact e
end MF
namespace PySem.W
open PySem PySem.Spec PySem.Calls PyProof.Rows
section
variable {prog : Program} {w : World} {A : Around} {E : Value → Shared → Prop} {s : Shared} {K : Frag} {x D : Addr} {ox : Obj} {od : Option Obj}
theorem mf_findObj {C : Addr} {name : Str} {a g : Value} (hc : (clsIn K C).isSome = true) (ha : findIn K (.ref C) name = some (some a)) (hg : specialIn K a "__get__" = some (some g)) (ht : takesIn K a = some true) : findObj K C od name = some (.bind g a) := by
  cases od with
  | none => exact findObj_dataN hc ha hg ht
  | some od => exact findObj_data hc ha hg ht
theorem mf_classE {Q : Option Value → Shared → Prop} (hga : findIn K (.ref D) "__getattribute__" = some (some (.builtin "BaseException.__getattribute__"))) (hgt : findIn K (.ref D) "__getattr__" = some none) (hsub : subIn K (.ref D) (.type "BaseException") = some true)
    (hdct : hasDictIn K D = true) (ha : findIn K (.ref D) "__class__" = some (some (.builtin "object.__class__")))
    (hn : specialIn K (.builtin "object.__class__") "__get__" = some (some (.builtin "getset_descriptor.__get__"))) (htk : takesIn K (.builtin "object.__class__") = some true) (hm : mroIn K D (.type "object") = some true)
    (X : K.In s.heap) (I : InstAt s.heap x ox D od) (h : Q (some (.ref D)) { s with toks := s.toks + 1 }) : wpAny (model prog w) A (getAttr? (.ref x) "__class__") Q E s := by
  have hf : findObj K D od "__class__" = some (.bind (.builtin "getset_descriptor.__get__") (.builtin "object.__class__")) := mf_findObj (by obtain ⟨cd, hc, _⟩ := any_some hdct; rw [hc]; rfl) ha hn htk
  obtain ⟨hp, g, d, t, os⟩ := s
  have L0 := I.type (M := model prog w)
  have L1 := looks_findIn (M := model prog w) X hga
  have L2 := looks_findIn (M := model prog w) X hgt
  have L3 := looks_find (M := model prog w) X I hf
  have sub : Looks (model prog w) hp (isInstance (.ref x) (.type "BaseException")) true := L0.andThen (looks_subIn X hsub)
  have hx0 : (false && onTheHeap (Value.builtin "BaseException.__getattribute__")) = false := rfl
  have hx2 : (Value.builtin "BaseException.__getattribute__" == Value.builtin "object.__getattribute__") = false := by decide +kernel
  have hx1 : (onTheHeap (Value.ref D) && Value.builtin "BaseException.__getattribute__" == Value.builtin "object.__getattribute__") = false := by rw [hx2]; rfl
  unfold getAttr? getAttrBy? getAttrBy
  refine wpAny_bind (wpAny_mkText (wpAny_bind (wpAny_attempt (wpAny_holding (wpAny_bind (L0.at (wpAny_bind (L1.at ?_))))))))
  show wpAny _ _ (if (onTheHeap (Value.ref D) && Value.builtin "BaseException.__getattribute__" == Value.builtin "object.__getattribute__") = true then _ else _) _ _ _
  rw [hx1, if_neg Bool.false_ne_true]
  unfold getAttrByItsOwn hookBefore
  refine wpAny_bind ?_
  rw [if_pos (show onTheHeap (Value.ref D) = true from rfl)]
  refine L2.at ?_
  refine wpAny_bind (wpAny_attempt (wpAny_holding ?_))
  unfold callGetattribute
  rw [hx0, if_neg Bool.false_ne_true]
  unfold boundAndCalled
  rw [PySem.F.excAttr_ValueError.ga.bind (.ref x)]
  refine wpAny_bind (wpAny_pure ?_)
  show wpAny _ _ (call (.builtin "BaseException.__getattribute__") [.ref x, .str "__class__" t]) _ _ _
  refine wpAny_call (codeAny_call_builtin PySem.F.excAttr_ValueError.ga.plain PySem.F.entry_bexc_ga ?_)
  refine @check_slot (model prog w) _ _ ⟨hp, g, d, t + 1, os⟩ "BaseException.__getattribute__" "BaseException" "__getattribute__" (.ref x) [.str "__class__" t] [] _ (by decide +kernel) (by decide +kernel) sub (PySem.F.args_bexc_ga (.ref x) (.str "__class__" t)) ?_
  unfold Builtin.«object.__getattribute__»
  refine wpAny_bind (wpAny_of_eq (a := ((Value.ref x : Value), [Value.str "__class__" t])) (by first | rfl | (simp only [slotArgs]; rfl)) ?_)
  refine wpAny_bind (wpAny_pure (wpAny_bind (L0.at (wpAny_bind (L3.at ?_)))))
  show wpAny _ _ (holding [Value.builtin "object.__class__"] (call (.builtin "getset_descriptor.__get__") [.builtin "object.__class__", .ref x, .ref D]) >>= ret) _ _ _
  refine wpAny_bind (wpAny_holding (wpAny_call (class_get (s := ⟨hp, g, d, t + 1, os⟩) (ox := ox) (od := od) X I hm ?_)))
  refine wpAny_pure ?_
  show wpAny _ _ (handedOut (.ref D)) _ _ _
  rw [handedOut_of (v := .ref D) rfl]
  first
    | exact wpAny_pure (wpAny_pure h)
    | exact wpAny_pure h
    | exact wpAny_pure (wpAny_bind (wpAny_pure (wpAny_pure h)))
theorem mf_kitx (hga : findIn K (.ref D) "__getattribute__" = some (some (.builtin "BaseException.__getattribute__"))) (hgt : findIn K (.ref D) "__getattr__" = some none) (hsub : subIn K (.ref D) (.type "BaseException") = some true) (hdct : hasDictIn K D = true) (ha : findIn K (.ref D) "__class__" = some (some (.builtin "object.__class__")))
    (hn : specialIn K (.builtin "object.__class__") "__get__" = some (some (.builtin "getset_descriptor.__get__"))) (htk : takesIn K (.builtin "object.__class__") = some true) (hm : mroIn K D (.type "object") = some true) :
    KitX K (.ref x) (.ref D) (fun h => InstAt h x ox D od) where
  ty := fun _ _ _ I => I.type
  it := fun _ _ X _ => by
    obtain ⟨cdD, hcD, _⟩ := any_some hdct
    unfold clsIn at hcD
    split at hcD
    · rename_i c' d' cd' sl' ho
      intro A' Q' E' s' k q
      unfold isType loadHead
      exact wpAny_bind (wpAny_loadPart (k _ _ (X _ _ ho)) (wpAny_pure q))
    · cases hcD
  ne := fun h tp dd its n sl X htp => by
    obtain ⟨cdD, hcD, _⟩ := any_some hdct
    refine Bool.eq_false_iff.mpr fun q => ?_
    have e : D = tp := Value.ref.inj (beq_iff_eq.mp q)
    subst e
    unfold clsIn at hcD
    split at hcD
    · rename_i c' d' cd' sl' ho
      have z := (X _ _ ho).symm.trans htp
      cases z
    · cases hcD
  ca := fun X I k => mf_classE hga hgt hsub hdct ha hn htk hm X I k
end
end PySem.W
namespace MF
open PySem PySem.Spec PyProof.Rows L2 StX ClX
def DictSt (H : Hp) (d : Option Addr) : Prop := ∀ dd, d = some dd → ∃ fs : List (Str × V), H dd = some (.xd fs)
def rIsX (K : PySem.W.Frag) (D a : Addr) (d : Option Addr) : List V → Hp → VK → Prop := fun xs H Q => ∃ (c : V) (cv : Value) (b : Bool), xs = [.ref a, c] ∧ (∀ u, RelV c u → u = cv) ∧ PySem.W.kitOne K (.ref D) cv = some b ∧ DictSt H d ∧ Q (.bl b) H
theorem call_isX {X : Cx} {a D : Addr} {d : Option Addr} {oe : Obj} {pn : List (Addr × Obj)} (C : ExcC X.K D) (hz : Zc (.ref D) d oe) (hf : ∃ vs, oe.data = .fields vs) : CallR (X.suite a ((a, oe) :: pn)) (.builtin "isinstance") (rIsX X.K D a d) := by
  intro pins s σ H xs us Q I r h
  obtain ⟨c, cv, b, rfl, hcv, e, hd, q⟩ := h
  cases r with
  | cons rx rr =>
    cases rr with
    | cons rt rr =>
      cases rr
      cases rx
      have ec := hcv _ rt
      subst ec
      obtain ⟨hget, _⟩ := I.pin (a, oe) (List.mem_append.mpr (.inl List.mem_cons_self))
      obtain ⟨vs, hv⟩ := hf
      have J : ∃ od, PySem.W.InstAt s.heap a oe D od := by
        cases d with
        | none =>
          obtain ⟨oc, odd, oda, osl⟩ := oe
          obtain ⟨h1, h2⟩ := hz
          dsimp only at h1 h2 hv
          subst h1 h2 hv
          exact ⟨none, hget, rfl, rfl, trivial⟩
        | some dd =>
          obtain ⟨fs, hx⟩ := hd dd rfl
          have hx' : ObjOk X.prog X.w H s.heap dd (.xd fs) := I.hok dd _ hx
          obtain ⟨mA, hns, hr⟩ := hx'
          obtain ⟨od, ho, hl⟩ := lookIn_ns hns
          exact ⟨some od, hget, hz.1, by unfold PySem.W.notCls; rw [hv] <;> rfl, by rw [hz.2]; exact ho⟩
      obtain ⟨od, J⟩ := J
      exact PySem.W.kia_one (PySem.W.mf_kitx C.hg C.hk C.hs C.hd C.ha C.hn C.ht C.hm) I.kIn J e (fun z => nomatch z) fun tk => ⟨.bl b, H, I.kept (t' := tk) fun _ _ z => z, rfl, q⟩
end MF
set_option Elab.async false
set_option linter.all false
set_option maxRecDepth 100000
set_option maxHeartbeats 2000000
namespace MF
open PySem PySem.Spec PyProof.Rows L2 StX LamX
abbrev lamFd (q : Str) (params : Arguments) (body : Expr) (scope : Scope) (cl : List (Str × Addr)) (dV doc pm cv ctv : Value) : FuncData := PySem.W.kdv_fn "<lambda>" q params (.expr body) scope cl dV doc pm cv ctv
def LamO (f : Addr) (q : Str) (params : Arguments) (body : Expr) (scope : Scope) (cl : List (Str × Addr)) (dV : Value) (c' : Addr) : HO :=
  .ext fun h => ∃ doc pm ctv : Value, h.get? f = some { cls := .type "function", data := .func (lamFd q params body scope cl dV doc pm (.ref c') ctv) }
def DfO (T : Addr) : HO := .ext fun h => ∃ u : Value, h.get? T = some (PySem.W.kdv_tup [u])
section
variable {P : Program} {w : World} {H : Hp} {h : Heap} {f c' T : Addr} {q : Str} {params : Arguments} {body : Expr} {scope : Scope} {cl : List (Str × Addr)} {dV doc pm ctv u : Value}
theorem lamO_ok (e : h.get? f = some { cls := .type "function", data := .func (lamFd q params body scope cl dV doc pm (.ref c') ctv) }) : ObjOk P w H h f (LamO f q params body scope cl dV c') :=
  ⟨⟨doc, pm, ctv, e⟩, ⟨_, e⟩, fun h1 h2 z k => by
    obtain ⟨d, p, t, a⟩ := z
    exact ⟨d, p, t, k _ a⟩⟩
theorem lamO_ne (ps : Array Value) : LamO f q params body scope cl dV c' ≠ .tbl ps := fun z => by
  unfold LamO at z
  cases z
theorem lamO_at (hok : HOk P w H h) (e : H f = some (LamO f q params body scope cl dV c')) : ∃ doc pm ctv : Value, h.get? f = some { cls := .type "function", data := .func (lamFd q params body scope cl dV doc pm (.ref c') ctv) } := by
  have x : ObjOk P w H h f (LamO f q params body scope cl dV c') := hok f _ e
  exact x.1
theorem dfO_ok (e : h.get? T = some (PySem.W.kdv_tup [u])) : ObjOk P w H h T (DfO T) :=
  ⟨⟨u, e⟩, ⟨_, e⟩, fun h1 h2 z k => by
    obtain ⟨v, a⟩ := z
    exact ⟨v, k _ a⟩⟩
theorem dfO_at (hok : HOk P w H h) (e : H T = some (DfO T)) : ∃ u : Value, h.get? T = some (PySem.W.kdv_tup [u]) := by
  have x : ObjOk P w H h T (DfO T) := hok T _ e
  exact x.1
end
def DflAt (dx : Option Str) (dV : Value) (H : Hp) : Prop := match dx with
  | none => dV = .none
  | some _ => ∃ T, dV = .ref T ∧ H T = some (DfO T)
theorem DflAt.keep {dx : Option Str} {dV : Value} {H H' : Hp} (h : DflAt dx dV H) (e : ∀ b φ, H b = some (.ext φ) → H' b = some (.ext φ)) : DflAt dx dV H' := by
  cases dx with
  | none => exact h
  | some x =>
    obtain ⟨T, e1, e2⟩ := h
    exact ⟨T, e1, e _ _ e2⟩
theorem DflAt.extN {dx : Option Str} {dV : Value} {H H' : Hp} (h : DflAt dx dV H) (e : ExtN H H') : DflAt dx dV H' := h.keep fun b φ z => e _ _ z fun ps y => by cases y
section
variable {X : Cx} {pins : List (Addr × Obj)} {σ : L2.St} {H : Hp} {s : Shared}
theorem lam_tailO {dx : Option Str} {dV : Value} {T : List (Addr × Str)} {c P : Addr} {params : Arguments} {body : Expr} {scope : Scope} {pos : Pos} {E : Value → Shared → Prop} {Q : Value → Shared → Prop} (I : Inv X pins σ H s) (TB : TabB X.base X.mg c P) (hcode : X.env.code = .ref c)
    (hm : (P, X.env.qual ++ "<lambda>") ∈ T) (hu : ∀ p ∈ T, p.1 = P → p.2 = X.env.qual ++ "<lambda>") (hT : Tabs T H) (hfree : ∀ y ∈ scope.names, y.2 = .free → ∃ c, X.env.cells.lookup y.1 = some c) (hD : DflAt dx dV H)
    (h : ∀ (f c' : Addr) (H1 : Hp) (s' : Shared), Inv X pins σ H1 s' → ExtN H H1 → Tabs T H1 → H f = none → H1 f = some (LamO f (X.env.qual ++ "<lambda>") params body scope (cloFrom X.env.cells scope.names []) dV c') → DflAt dx dV H1 → H1 c' = some (CodeO c' (X.env.qual ++ "<lambda>")) → Q (.ref f) s') :
    wpAny (model X.prog X.w) X.A (makeTail "<lambda>" (X.env.qual ++ "<lambda>") params (.expr body) scope X.env dV .none none pos pos.line) Q E s := by
  obtain ⟨ps, hP, ht, ha⟩ := hT _ hm
  have bP : s.heap.BuiltinsAt X.mg P := TB.bm.keeps I.bk
  have hP' : s.heap.get? P = some { cls := .none, data := .fields ps } := I.hok P _ hP
  have step : ∀ (h' : Heap) (tk : Nat) (H1 : Hp) (c' : Addr) (doc ctv : Value), Inv X pins σ H1 { s with heap := h', toks := tk } → s.heap.objs.size ≤ h'.objs.size → ExtN H H1 → Tabs T H1 → H1 c' = some (CodeO c' (X.env.qual ++ "<lambda>")) →
      Q (.ref h'.objs.size) { s with heap := h'.push (PySem.W.kdv_obj "<lambda>" (X.env.qual ++ "<lambda>") params (.expr body) scope (cloFrom X.env.cells scope.names []) dV doc ((X.mg "__name__").getD .none) c' ctv), toks := tk } := by
    intro h' tk H1 c' doc ctv I1 hsz eN T1 hc
    have n1 : H1 h'.objs.size = none := I1.hok.fresh (Nat.le_refl _)
    have J := I1.laid (t' := tk) (a := h'.objs.size) (h' := h'.push (PySem.W.kdv_obj "<lambda>" (X.env.qual ++ "<lambda>") params (.expr body) scope (cloFrom X.env.cells scope.names []) dV doc ((X.mg "__name__").getD .none) c' ctv)) (o := LamO h'.objs.size (X.env.qual ++ "<lambda>") params body scope (cloFrom X.env.cells scope.names []) dV c')
      (fun b o e => Heap.get?_push_of_some _ e) (Nat.le_refl _) (lamO_ok (Heap.get?_push_size _ rfl))
    have e2 : ExtN H1 (upd H1 h'.objs.size (LamO h'.objs.size (X.env.qual ++ "<lambda>") params body scope (cloFrom X.env.cells scope.names []) dV c')) := ExtN.of fun b o e => by rw [upd_ne (ne_of_none e n1)]; exact e
    refine h h'.objs.size c' _ _ J (eN.trans e2) (T1.ext fun b o e => by rw [upd_ne (ne_of_none e n1)]; exact e) (I.hok.fresh hsz) upd_same ((hD.extN eN).extN e2) (by rw [upd_ne (ne_of_none hc n1)]; exact hc)
  cases hc : codeAmong pos ps.toList with
  | none =>
    refine PySem.W.kdv_makeTail (mg := X.mg) (c := c) (P := P) (ps := ps) (closure_ok hfree) I.ok.glob (I.mod.glob.keeps I.bk) hcode (TB.code.keeps I.bk) hP' ht hc TB.gP bP fun c' ctv doc h' tk hx hge hlt hrec htb => ?_
    obtain ⟨c2, oc, vs, t, e2, hoc, hd, hv⟩ := hrec
    cases e2
    have nC : H c' = none := I.hok.fresh hge
    have I1 := inv_table (t' := tk) (q := X.env.qual ++ "<lambda>") (more := #[rawInt pos.line, rawInt pos.col, .ref c']) (h' := h') I hP (fun b o hb e => hx b o hb e) htb hge ⟨oc, vs, t, hoc, hd, hv⟩
    have hE : ExtN H (upd (upd H P (.tbl (ps ++ #[rawInt pos.line, rawInt pos.col, .ref c']))) c' (CodeO c' (X.env.qual ++ "<lambda>"))) := fun b o e n => by
      rw [upd_ne (ne_of_none e nC), upd_ne (fun z => n ps (Option.some.inj (e.symm.trans (by rw [z]; exact hP))))]
      exact e
    have eL : (ps ++ #[rawInt pos.line, rawInt pos.col, .ref c']).toList = ps.toList ++ [rawInt pos.line, rawInt pos.col, .ref c'] := by simp
    refine step h' tk _ c' doc ctv I1 (Nat.le_trans hge (Nat.le_of_lt hlt)) hE (fun p hp => ?_) upd_same
    by_cases hb : p.1 = P
    · rw [hu p hp hb, hb]
      refine ⟨_, by rw [upd_ne (ne_of_none hP nC), upd_same], by rw [eL]; exact PySem.TriplesOk_snoc _ _ _ _ ht, fun p' cv hcv => ?_⟩
      rw [eL] at hcv
      rcases among_app _ ht hcv with z | z
      · obtain ⟨c0, e1, e2⟩ := ha p' cv z
        exact ⟨c0, e1, hE _ _ e2 codeO_ne⟩
      · exact ⟨c', z, upd_same⟩
    · obtain ⟨ps', a1, a2, a3⟩ := hT p hp
      refine ⟨ps', by rw [upd_ne (ne_of_none a1 nC), upd_ne hb]; exact a1, a2, fun p' cv hcv => ?_⟩
      obtain ⟨c0, e1, e2⟩ := a3 p' cv hcv
      exact ⟨c0, e1, hE _ _ e2 codeO_ne⟩
  | some cv =>
    obtain ⟨c', e, hco⟩ := ha pos cv hc
    subst e
    refine PySem.W.kdv_makeTailHit (mg := X.mg) (c := c) (P := P) (ps := ps) (closure_ok hfree) I.ok.glob (I.mod.glob.keeps I.bk) hcode (TB.code.keeps I.bk) hP' ht hc bP fun ctv doc h' tk hx hsz => ?_
    exact step h' tk H c' doc ctv (I.kept (t' := tk) hx) hsz (ExtN.refl H) hT hco
theorem lam_makeO {T : List (Addr × Str)} {c P : Addr} {params : Arguments} {body : Expr} {scope : Scope} {pos : Pos} {E : Value → Shared → Prop} {Q : Value → Shared → Prop} (I : Inv X pins σ H s) (TB : TabB X.base X.mg c P) (hcode : X.env.code = .ref c)
    (hm : (P, X.env.qual ++ "<lambda>") ∈ T) (hu : ∀ p ∈ T, p.1 = P → p.2 = X.env.qual ++ "<lambda>") (hT : Tabs T H) (hdef : defaultsOf params X.env = ([], [])) (hfree : ∀ y ∈ scope.names, y.2 = .free → ∃ c, X.env.cells.lookup y.1 = some c)
    (h : ∀ (f c' : Addr) (H1 : Hp) (s' : Shared), Inv X pins σ H1 s' → ExtN H H1 → Tabs T H1 → H f = none → H1 f = some (LamO f (X.env.qual ++ "<lambda>") params body scope (cloFrom X.env.cells scope.names []) .none c') → H1 c' = some (CodeO c' (X.env.qual ++ "<lambda>")) → Q (.ref f) s') :
    wpAny (model X.prog X.w) X.A (eval (.Lambda params body scope pos) X.env) Q E s := by
  refine PySem.W.kla_eval hdef ?_
  rw [makeFunction_eq]
  simp only [List.zip_nil_right, List.filterMap_nil, List.isEmpty_nil, if_true, pure_bind]
  exact lam_tailO (dx := none) I TB hcode hm hu hT hfree rfl fun f c' H1 s' I1 eN T1 fn hf _ hc => h f c' H1 s' I1 eN T1 fn hf hc
theorem lam_makeD {x : Str} {T : List (Addr × Str)} {c P : Addr} {params : Arguments} {body : Expr} {scope : Scope} {pos p0 : Pos} {i0 : Int} {j0 : Nat} {E : Value → Shared → Prop} {Q : Value → Shared → Prop} (I : Inv X pins σ H s) (TB : TabB X.base X.mg c P) (hcode : X.env.code = .ref c)
    (hm : (P, X.env.qual ++ "<lambda>") ∈ T) (hu : ∀ p ∈ T, p.1 = P → p.2 = X.env.qual ++ "<lambda>") (hT : Tabs T H) (hdef : params.defaults = [.Constant (.int i0) j0 p0]) (hkw : params.kw_defaults = []) (hfree : ∀ y ∈ scope.names, y.2 = .free → ∃ c, X.env.cells.lookup y.1 = some c)
    (h : ∀ (f c' : Addr) (dV : Value) (H1 : Hp) (s' : Shared), Inv X pins σ H1 s' → ExtN H H1 → Tabs T H1 → H f = none → H1 f = some (LamO f (X.env.qual ++ "<lambda>") params body scope (cloFrom X.env.cells scope.names []) dV c') → DflAt (some x) dV H1 → H1 c' = some (CodeO c' (X.env.qual ++ "<lambda>")) → Q (.ref f) s') :
    wpAny (model X.prog X.w) X.A (eval (.Lambda params body scope pos) X.env) Q E s := by
  refine PySem.W.kdv_lam (by rw [hdef]; rfl) hkw ?_
  rw [hdef]
  refine PySem.W.kdv_all1 (wpAny_Constant_int (PySem.W.kdv_all0 ?_))
  rw [makeFunction_eq]
  simp only [List.zip_nil_right, List.filterMap_nil, List.isEmpty_nil, if_true, pure_bind, List.isEmpty_cons, Bool.false_eq_true, if_false]
  refine wpAny_bind (wpAny_newTextTuple ?_)
  have I0 := I.tok (s.toks + 1)
  have n1 : H s.heap.objs.size = none := I.hok.fresh (Nat.le_refl _)
  have sm : ∀ b o, H b = some o → upd H s.heap.objs.size (DfO s.heap.objs.size) b = some o := fun b o e => by rw [upd_ne (ne_of_none e n1)]; exact e
  refine lam_tailO (dx := some x) (H := upd H s.heap.objs.size (DfO s.heap.objs.size)) (I.laid (fun b o e => Heap.get?_push_of_some _ e) (Nat.le_refl _) (dfO_ok (Heap.get?_push_size _ rfl))) TB hcode hm hu (hT.ext sm) hfree ⟨_, rfl, upd_same⟩ fun f c' H1 s' I1 eN T1 fn hf hd hc => ?_
  refine h f c' _ H1 s' I1 ((ExtN.of sm).trans eN) T1 ?_ hf hd hc
  cases z : H f with
  | none => rfl
  | some o => rw [sm _ _ z] at fn; cases fn
end
structure LamSN (N : List Str) (sc scope : Scope) : Prop where
  kind : scope.kind = .function
  co : scope.isCoroutine = false
  gen : scope.isGenerator = false
  cell : ∀ y ∈ scope.names, y.2 ≠ .cell
  loc : ∀ y ∈ scope.names, y.2 = .local → y.1 ∉ N
  free : ∀ y ∈ scope.names, y.2 = .free → sc.names.lookup y.1 = some .cell ∨ sc.names.lookup y.1 = some .free
theorem lamSN_of {N : List Str} {sc scope : Scope} (L : LamS sc scope) : LamSN N sc scope := ⟨L.kind, L.co, L.gen, fun y hy => (L.own y hy).2, fun y hy e => absurd e (L.own y hy).1, L.free⟩
def lamSNB (N : List Str) (sc scope : Scope) : Bool :=
  decide (scope.kind = .function) && (!scope.isCoroutine && (!scope.isGenerator && scope.names.all fun y => match y.2 with
    | .cell => false
    | .local => !N.contains y.1
    | .free => decide (sc.names.lookup y.1 = some .cell) || decide (sc.names.lookup y.1 = some .free)
    | _ => true))
theorem lamSN_by {N : List Str} {sc scope : Scope} (h : lamSNB N sc scope = true) : LamSN N sc scope := by
  unfold lamSNB at h
  simp only [Bool.and_eq_true, Bool.not_eq_true', decide_eq_true_eq, List.all_eq_true] at h
  obtain ⟨h1, h2, h3, h4⟩ := h
  refine ⟨h1, h2, h3, fun y hy e => ?_, fun y hy e z => ?_, fun y hy e => ?_⟩ <;> have := h4 y hy <;> rw [e] at this
  · cases this
  · simp [z] at this
  · simpa using this
theorem LamSN.has {X : Cx} {N : List Str} {scope : Scope} (L : LamSN N X.env.scope scope) (ok : X.Ok) : ∀ y ∈ scope.names, y.2 = .free → ∃ c, X.env.cells.lookup y.1 = some c := fun y hy e => ok.has _ (L.free y hy e)
section
variable {X : Cx} {pins : List (Addr × Obj)} {σ : L2.St} {H HZ : Hp} {s s1 : Shared}
theorem lam_startN {A : Around} {outer : List Env} {E : XK} {scope : Scope} {f c' : Addr} {h₁ : Heap} {tk : Nat} {m : Str → Option Value} (I : Inv X pins σ H s) (L : LamSN X.N X.env.scope scope) (e0 : Env0 X.prog X.w X.K X.mg X.base A outer s1 HZ) (hd : A.handled = none)
    (un : Un (frs X.stack) [] H HZ s.heap s1.heap) (hns : h₁.Ns s1.heap.objs.size m) (kp : ∀ b o, s1.heap.get? b = some o → h₁.get? b = some o) :
    Inv (lamCx X A outer s1 HZ E scope f c') [] σ HZ { s1 with heap := h₁, toks := tk } := by
  have toMaker : ∀ {y c}, (cloFrom X.env.cells scope.names []).lookup y = some c → X.env.cells.lookup y = some c := fun {y c} e => by
    rcases cloFrom_mem (PySem.mem_of_lookup e) with z | ⟨h1, h2⟩
    · cases z
    · obtain ⟨c1, hc⟩ := L.has I.ok _ h1 rfl
      have hc : X.env.cells.lookup y = some c1 := hc
      have e2 : c = c1 := by
        rw [h2, hc] <;> rfl
      exact e2 ▸ hc
  have ofFree : ∀ {y}, scope.names.lookup y = some .free → ∃ c, (cloFrom X.env.cells scope.names []).lookup y = some c := fun {y} hl => mem_lookup (cloFrom_has (cells := X.env.cells) (acc := []) (PySem.mem_of_lookup hl))
  have notCell : ∀ {y : Str}, scope.names.lookup y ≠ some .cell := fun {y} z => L.cell _ (PySem.mem_of_lookup z) rfl
  have cellK : ∀ {c : Addr} {v : Option Value}, H c = none → s.heap.IsCell c v → h₁.IsCell c v := fun {c v} n ⟨o, ho, z⟩ => by
    obtain ⟨sl, q⟩ := un.any ho n (by simp)
    exact ⟨_, kp _ _ q, z⟩
  have noX : ∀ b : Addr, b ∉ (lamCx X A outer s1 HZ E scope f c').ex := fun b z => by
    have z : b ∈ ([] : List Addr) := z
    cases z
  have hasC : ∀ y, scope.names.lookup y = some .cell ∨ scope.names.lookup y = some .free → ∃ c, (cloFrom X.env.cells scope.names []).lookup y = some c := fun y hy => hy.elim (fun z => absurd z notCell) ofFree
  have okL : (lamCx X A outer s1 HZ E scope f c').Ok := ⟨e0.mod, L.kind, rfl, rfl, Nat.le_refl _, fun y z c e1 e2 => I.ok.inj y z c (toMaker e1) (toMaker e2), hasC, fun y c z _ => (by
      have z : false = true := z
      cases z), fun _ => hd, Around.frames_deeper e0.frames, .inr ⟨rfl, rfl⟩, fun b z => absurd z (noX b), e0.bs, e0.bsz, fun b _ _ => noX b, fun b z => absurd z (noX b), e0.funs, e0.frf⟩
  have seen : ∀ (i : Nat) (y : Str) (v : V), X.N[i]? = some y → σ[i]? = some (some v) → Vis scope y → ∃ u, RelV v u ∧ Look (lamEnv X scope s1.heap.objs.size f c') h₁ m y u := fun i y v e1 e2 e3 => by
    rcases e3 with k | k | k
    · exact absurd (List.mem_of_getElem? e1) (L.loc _ (PySem.mem_of_lookup k) rfl)
    · exact absurd k notCell
    · obtain ⟨m', _, hl⟩ := I.loc
      have fr := L.free _ (PySem.mem_of_lookup k) rfl
      obtain ⟨u, r, q⟩ := hl i y v e1 e2 (fr.elim (fun z => .inr (.inl z)) fun z => .inr (.inr z))
      obtain ⟨c2, h2⟩ := ofFree k
      refine ⟨u, r, .inr ⟨.inr k, c2, h2, ?_⟩⟩
      rcases q with ⟨k', _⟩ | ⟨_, c3, e', z⟩
      · have k' : X.env.scope.names.lookup y = some .local := k'
        have fr : X.env.scope.names.lookup y = some .cell ∨ X.env.scope.names.lookup y = some .free := fr
        rw [k'] at fr
        rcases fr with z | z <;> cases z
      · have c1 := toMaker h2
        rw [c1] at e'
        cases e'
        exact cellK (I.freeC y _ c1) z
  refine ⟨okL, rfl, e0.bare, Un.kept kp, ⟨m, hns, seen⟩, fun y c e => ?_, e0.hok.fresh (Nat.le_refl _), fun y c e => ?_, fun q hq => ?_, e0.hok.kept kp, I.len⟩
  · obtain ⟨u, z⟩ := I.cell y c (toMaker e)
    exact ⟨u, cellK (I.freeC y c (toMaker e)) z⟩
  · obtain ⟨v, o, ho, _⟩ := I.cell y c (toMaker e)
    exact un.free c o ho (I.freeC y c (toMaker e)) (by simp)
  · have hq : q ∈ ([] : List (Addr × Obj)) ++ [] := hq
    cases hq
end
def BindL (dx : Option Str) (params : Arguments) (body : Expr) (scope : Scope) : Prop := match dx with
  | none => ∀ (q : Str) (cl : List (Str × Addr)) (doc pm cv ctv : Value), bindArgs (lamFd q params body scope cl .none doc pm cv ctv) ⟨[], []⟩ = pure []
  | some x => scope.names.lookup x = some .local ∧ ∀ (q : Str) (cl : List (Str × Addr)) (T : Addr) (doc pm cv ctv : Value), ∃ k, bindArgs (lamFd q params body scope cl (.ref T) doc pm cv ctv) ⟨[], []⟩ = seqItems? (.ref T) >>= k ∧ ∀ u, k (some #[u]) = pure [(x, u)]
structure LamT (X : Cx) (k : Nat) where
  dx : Option Str
  params : Arguments
  body : Expr
  scope : Scope
  t : XK → TE
  L : LamSN X.N X.env.scope scope
  bind : BindL dx params body scope
  run : ∀ (A : Around) (outer : List Env) (s : Shared) (H : Hp) (E : XK) (f c' : Addr), Room k (A.deeper (lamEnv X scope s.heap.objs.size f c')) → PE (lamCx X A outer s H E scope f c') body (t E)
def LamAt (X : Cx) {k : Nat} (l : LamT X k) (H : Hp) (f : Addr) : Prop := ∃ (c' : Addr) (dV : Value), H f = some (LamO f (X.env.qual ++ "<lambda>") l.params l.body l.scope (cloFrom X.env.cells l.scope.names []) dV c') ∧ DflAt l.dx dV H ∧ H c' = some (CodeO c' (X.env.qual ++ "<lambda>"))
theorem LamAt.keep {X : Cx} {k : Nat} {l : LamT X k} {H H' : Hp} {f : Addr} (h : LamAt X l H f) (e : ∀ b φ, H b = some (.ext φ) → H' b = some (.ext φ)) : LamAt X l H' f := by
  obtain ⟨c', dV, h1, h2, h3⟩ := h
  exact ⟨c', dV, e _ _ h1, h2.keep e, e _ _ h3⟩
def tLamE (T : List (Addr × Str)) (X : Cx) {k : Nat} (l : LamT X k) : TE := fun σ H Q => Tabs T H ∧ ∀ f H1, ExtN H H1 → Tabs T H1 → H f = none → LamAt X l H1 f → Q (.ref f) H1
theorem pe_lamE {X : Cx} {k : Nat} (l : LamT X k) (hx : l.dx = none) {T : List (Addr × Str)} {c P : Addr} {lpos : Pos} (TB : TabB X.base X.mg c P) (hcode : X.env.code = .ref c) (hmT : (P, X.env.qual ++ "<lambda>") ∈ T) (hu : ∀ p ∈ T, p.1 = P → p.2 = X.env.qual ++ "<lambda>")
    (hdef : defaultsOf l.params X.env = ([], [])) : PE X (.Lambda l.params l.body l.scope lpos) (tLamE T X l) := by
  refine ⟨fun pins s σ H Q I h => ?_⟩
  obtain ⟨hT, h⟩ := h
  exact lam_makeO I TB hcode hmT hu hT hdef (l.L.has I.ok) fun f c' H1 s' I1 eN T1 fn hf hc => ⟨.ref f, H1, I1, rfl, h f H1 eN T1 fn ⟨c', _, hf, by rw [hx]; rfl, hc⟩⟩
theorem pe_lamD {X : Cx} {k : Nat} (l : LamT X k) {x : Str} (hx : l.dx = some x) {T : List (Addr × Str)} {c P : Addr} {lpos p0 : Pos} {i0 : Int} {j0 : Nat} (TB : TabB X.base X.mg c P) (hcode : X.env.code = .ref c) (hmT : (P, X.env.qual ++ "<lambda>") ∈ T) (hu : ∀ p ∈ T, p.1 = P → p.2 = X.env.qual ++ "<lambda>")
    (hdef : l.params.defaults = [.Constant (.int i0) j0 p0]) (hkw : l.params.kw_defaults = []) : PE X (.Lambda l.params l.body l.scope lpos) (tLamE T X l) := by
  refine ⟨fun pins s σ H Q I h => ?_⟩
  obtain ⟨hT, h⟩ := h
  exact lam_makeD (x := x) I TB hcode hmT hu hT hdef hkw (l.L.has I.ok) fun f c' dV H1 s' I1 eN T1 fn hf hd hc => ⟨.ref f, H1, I1, rfl, h f H1 eN T1 fn ⟨c', dV, hf, by rw [hx]; exact hd, hc⟩⟩
theorem LamT.binds {X : Cx} {k : Nat} (l : LamT X k) {P : Program} {w : World} {H : Hp} {s : Shared} {q : Str} {cl : List (Str × Addr)} {dV doc pm cv ctv : Value} (hok : HOk P w H s.heap) (hD : DflAt l.dx dV H) :
    ∃ bs : List (Str × Value), (∀ y ∈ bs, l.scope.names.lookup y.1 = some .local) ∧ BindsTo s (lamFd q l.params l.body l.scope cl dV doc pm cv ctv) ⟨[], []⟩ bs := by
  have hb := l.bind
  unfold BindL at hb
  cases hx : l.dx with
  | none =>
    rw [hx] at hb hD
    have hD : dV = .none := hD
    refine ⟨[], fun y hy => (by cases hy), ?_⟩
    subst hD
    exact BindsTo.of_eq (hb q cl doc pm cv ctv)
  | some x =>
    rw [hx] at hb hD
    obtain ⟨T, e1, e2⟩ := hD
    obtain ⟨u, hu⟩ := dfO_at hok e2
    subst e1
    obtain ⟨k, b1, b2⟩ := hb.2 q cl T doc pm cv ctv
    refine ⟨[(x, u)], fun y hy => ?_, BindsTo.of_defaults rfl hu rfl b1 (b2 u)⟩
    rw [List.mem_singleton.mp hy]
    exact hb.1
section
variable {X : Cx} {pins : List (Addr × Obj)} {σ : L2.St} {H : Hp} {s : Shared}
theorem pe_actO {CXg : CXT} {Eg : XK} {Ng : List Str} {qg : Str} {sg : Scope} {g f : Addr} {cdg : Value} {k i : Nat} {a : Str} {pn : List (Addr × Obj)} {xe : Value → Shared → Prop} {W : WX} {p1 p2 : Pos} {l : LamT X k}
    (I : Inv X pins σ H s) (tk : Takes ((cxOf CXg X.prog X.w X.K X.mg X.base Ng qg sg g cdg X.A X.stack s H Eg).tr pn xe) W) (hr : Room (k + 1) (X.A.deeper (envOfC qg sg s.heap.objs.size g cdg)))
    (hN : Ng[i]? = some a) (hv : Vis sg a) (hd : (a == ("__debug__" : Str)) = false := by decide) (hcd : (a == ("__classdict__" : Str)) = false := by decide) :
    PE ((cxOf CXg X.prog X.w X.K X.mg X.base Ng qg sg g cdg X.A X.stack s H Eg).tr pn xe) (.Call (.Name a p1) [] [] p2) (fun σZ HZ Q => σZ[i]? = some (some (.ref f)) ∧ LamAt X l HZ f ∧ ∃ E : XK, (∀ cls d H', E cls d H' → W cls d σZ H') ∧ l.t E σ HZ Q) := by
  refine ⟨fun pinsZ sZ σZ HZ Q IZ h => ?_⟩
  obtain ⟨hs, ⟨c', dV, hfO, hDf, hcO⟩, E, hW, ht⟩ := h
  refine wpAny_Call_Name_kw (thn ((pe_var (pos := p1) (i := i) hN hv hd hcd).run pinsZ sZ σZ HZ (fun v H1 => v = .ref f ∧ H1 = HZ) IZ ⟨.ref f, hs, rfl, rfl⟩) fun u s1 ⟨v, H1, I1, r1, q1⟩ => ?_)
  obtain ⟨ev, eH⟩ := q1
  subst ev
  rw [eH] at I1
  obtain rfl : u = Value.ref f := r1
  obtain ⟨doc, pm, ctv, of1⟩ := lamO_at I1.hok hfO
  refine PySem.W.callWith_F0 ⟨_, _, _, _, of1⟩ ?_
  have un : Un (frs X.stack) [] H HZ s.heap s1.heap := I1.base
  obtain ⟨⟨oc, vs, t, hoc, hdc, hvc⟩, _, _⟩ := I1.hok c' _ hcO
  obtain ⟨bs, hloc, hbs⟩ := l.binds (s := s1) (q := X.env.qual ++ "<lambda>") (cl := cloFrom X.env.cells l.scope.names []) (doc := doc) (pm := pm) (cv := .ref c') (ctv := ctv) I1.hok hDf
  have rc : codeAny (model X.prog X.w) (X.A.deeper (envOfC qg sg s.heap.objs.size g cdg)) (.call (.ref f) ⟨[], []⟩) (CR (L2.CX X.prog X.w) (envOfC qg sg s.heap.objs.size g cdg :: X.stack) X.prog X.w HZ s1 Q E) s1 := by
    refine PySem.W.kla_callFunE hr.depth of1 rfl l.L.co l.L.gen rfl ⟨c', oc, vs, t, rfl, hoc, hdc, hvc⟩ (hbs _ _ _ _ ?_)
    refine wpAny_newFunctionEnv l.L.cell hloc (fun h₁ hns hsb => ⟨I1.nolimit.fresh _ hsb, ?_⟩) l.L.kind
    show codeAny _ _ (.expr l.body (lamEnv X l.scope s1.heap.objs.size f c')) _ _
    have kp : ∀ b o, s1.heap.get? b = some o → h₁.get? b = some o := fun b o e => hsb.extBut b o (Nat.ne_of_lt (Heap.lt_size e)) (Heap.get?_push_of_some _ e)
    have J : Inv (lamCx X (X.A.deeper (envOfC qg sg s.heap.objs.size g cdg)) (envOfC qg sg s.heap.objs.size g cdg :: X.stack) s1 HZ E l.scope f c') [] σ HZ { s1 with heap := h₁, toks := s1.toks + bs.length } :=
      lam_startN I l.L I1.env0 hr.hd un hns kp
    refine PySem.W.kla_codeExpr (wpAny_mono ((l.run _ _ s1 HZ E f c' (hr.deeper _)).run [] _ _ HZ Q J ht) (fun v s' hq => ?_) fun e s' hq => hq)
    obtain ⟨w', H', J', rv, q⟩ := hq
    exact ⟨w', H', J'.os, J'.bare, J'.base, J'.hok, rv, q⟩
  refine wpAny_call (codeAny_mono rc fun r s' hq => ?_)
  cases r with
  | error e => exact tk e s' (XE.of_call I1 (fun cls d H' h => hW cls d H' h) hq)
  | ok fl =>
    cases fl with
    | ret u => exact I1.after hq
    | next => exact False.elim hq
    | brk => exact False.elim hq
    | cont => exact False.elim hq
end
def GivesL (X : Cx) (Ng : List Str) (x : Str) (sg : Scope) (g : Addr) (cdg : Value) (bg : List Stmt) (a : Str) (TT : (XK → Hp → VK → Prop) → Hp → VK → Prop) : Prop :=
  ∀ (f : Addr) (s : Shared) (H : Hp) (Q : VK) (ok : Hp → Prop) (tl : XK → Hp → VK → Prop), (∀ (H H' : Hp), (∀ b φ, H b = some (.ext φ) → H' b = some (.ext φ)) → ok H → ok H') →
    (∀ (W : WX) (pn : List (Addr × Obj)) (xe : Value → Shared → Prop) (p1 p2 : Pos), Takes ((cxOf C8.CX0 X.prog X.w X.K X.mg X.base Ng x sg g cdg X.A X.stack s H C8.E0).tr pn xe) W →
      PE ((cxOf C8.CX0 X.prog X.w X.K X.mg X.base Ng x sg g cdg X.A X.stack s H C8.E0).tr pn xe) (.Call (.Name a p1) [] [] p2) (fun σZ HZ Q => σZ[0]? = some (some (.ref f)) ∧ ok HZ ∧ ∃ E : XK, (∀ cls d H', E cls d H' → W cls d σZ H') ∧ tl E HZ Q)) →
    ok H → TT tl H Q → (X.A.deeper (envOfC x sg s.heap.objs.size g cdg)).units + 65 < cLine →
    ∃ t, PSs (cxOf C8.CX0 X.prog X.w X.K X.mg X.base Ng x sg g cdg X.A X.stack s H C8.E0).nox bg t ∧ t { nx := fun _ H' => Q .non H', rt := Q } (L2.start Ng [.ref f]) H
structure LFn (X : Cx) (x a : Str) (TT : (XK → Hp → VK → Prop) → Hp → VK → Prop) : Prop where
  ex : ∃ (g : Addr) (oc : Value) (od : Option Addr) (pg : Arguments) (bg : List Stmt) (sg : Scope) (dV kV doc pm cdv ct : Value) (an : Option Addr) (osl : Array (Option Value)) (Ng : List Str),
    X.mg x = some (.ref g) ∧ PySem.W.keepIn X.K (.ref g) = true ∧ X.K.lookup g = some ⟨oc, od, .func (PySem.W.fnOf x x pg bg sg dV kV doc pm an cdv ct), osl⟩ ∧ PySem.W.codeIn X.K cdv x = true ∧ L2.Binds X.K (PySem.W.fnOf x x pg bg sg dV kV doc pm an cdv ct) [a] [] ∧ FnScope Ng [a] sg ∧ Ng[0]? = some a ∧ Vis sg a ∧
    GivesL X Ng x sg g cdv bg a TT
section
variable {X : Cx} {pins : List (Addr × Obj)} {σ : L2.St} {H : Hp} {s : Shared}
theorem lam_run {k : Nat} {x a : Str} {TT : (XK → Hp → VK → Prop) → Hp → VK → Prop} {l : LamT X k} {f : Addr} {Q : VK} (D : LFn X x a TT) (hr : Room (k + 2) X.A) (I : Inv X pins σ H s) (hl : LamAt X l H f) (h : TT (fun E H' Q' => l.t E σ H' Q') H Q)
    (hd : (a == ("__debug__" : Str)) = false := by decide) (hcd : (a == ("__classdict__" : Str)) = false := by decide) :
    ∃ g : Addr, X.mg x = some (.ref g) ∧ PySem.W.keepIn X.K (.ref g) = true ∧ codeAny (model X.prog X.w) X.A (.call (.ref g) ⟨[.ref f], []⟩) (CR C8.CX0 X.stack X.prog X.w H s Q C8.E0) s := by
  obtain ⟨g, oc, od, pg, bg, sg, dV, kV, doc, pm, cdv, ct, an, osl, Ng, hm, hk, lk, hcg, hb, Sg, hNg, hva, hG⟩ := D.ex
  refine ⟨g, hm, hk, ?_⟩
  refine run_ofS (N := Ng) (ps := [a]) (us := [.ref f]) (vs := [.ref f]) lk hcg Sg hr I.env0 (hb s [.ref f] I.kIn rfl) (.cons rfl .nil) rfl fun hr' => ?_
  obtain ⟨t', ht', hq'⟩ := hG f s H Q (fun H => LamAt X l H f) (fun E H' Q' => l.t E σ H' Q') (fun H H' e z => z.keep e) (fun W pn xe p1 p2 tk => pe_actO (i := 0) (l := l) I tk hr' hNg hva hd hcd) hl h (by have := hr'.un; omega)
  exact ⟨t', ht'.nox, hq'⟩
def tLamC (X : Cx) (k : Nat) (TT : (XK → Hp → VK → Prop) → Hp → VK → Prop) (te : TE) : TE := fun σ H Q => te σ H fun v H1 => ∃ (l : LamT X k) (f : Addr), v = .ref f ∧ LamAt X l H1 f ∧ TT (fun E H' Q' => l.t E σ H' Q') H1 Q
theorem pe_lamC {k : Nat} {x a : Str} {TT : (XK → Hp → VK → Prop) → Hp → VK → Prop} {e : Expr} {te : TE} {p pos : Pos} (D : LFn X x a TT) (hr : Room (k + 2) X.A) (ha : PA X [e] (tCons te tNil)) (hg : Gl X x := by rfl) (hdb : (x == ("__debug__" : Str)) = false := by decide)
    (hst : starEach (e :: []) X.env = (false, eval e X.env) :: starEach [] X.env := by rfl) (hpl : (backTo pos (starEach [] X.env)).any (·.1) = false := by rfl) (hd : (a == ("__debug__" : Str)) = false := by decide) (hcd : (a == ("__classdict__" : Str)) = false := by decide) :
    PE X (.Call (.Name x p) [e] [] pos) (tLamC X k TT te) := by
  obtain ⟨g0, _, _, _, _, _, _, _, _, _, _, _, _, _, _, hm0, hk0, _⟩ := D.ex
  refine ⟨fun pins s σ H Q I h => ?_⟩
  refine wpAny_Call_Name_kw (ld_glob I hg hm0 ?_ hdb)
  let R : V → Hp → Prop := fun v H1 => ∃ (l : LamT X k) (f : Addr), v = .ref f ∧ LamAt X l H1 f ∧ TT (fun E H' Q' => l.t E σ H' Q') H1 Q
  refine PySem.W.callWith_K (h₀ := X.base) I.ok.mod.kin hk0 (thn (ha.run pos pins s σ H (fun vs H1 => match vs with | [v] => R v H1 | _ => False) I h) fun us s1 hh => ?_) hst hpl
  obtain ⟨vs, H1, I1, r1, hR⟩ := hh
  match vs, r1, hR with
  | [v], r1, hR =>
  obtain ⟨l, f, ef, hl, q⟩ := hR
  subst ef
  refine ⟨I1.kIn, ?_⟩
  cases r1 with
  | cons ru rn =>
    cases rn
    cases ru
    obtain ⟨g, hm, hk, rc⟩ := lam_run D hr I1 hl q hd hcd
    rw [hm0] at hm
    cases hm
    refine wpAny_call (codeAny_mono rc fun r s2 hq => ?_)
    cases r with
    | error e => exact (show False from hq).elim
    | ok fl =>
      cases fl with
      | ret u => exact I1.after hq
      | next => exact False.elim hq
      | brk => exact False.elim hq
      | cont => exact False.elim hq
end
end MF
set_option Elab.async false
set_option linter.all false
set_option maxRecDepth 100000
set_option maxHeartbeats 2000000
namespace MF
open PySem PySem.Spec PyProof.Rows L2 StX LamX
structure BI (X : Cx) (pins : List (Addr × Obj)) (σ : L2.St) (H : Hp) (s : Shared) (fp : List Addr) : Prop where
  inv : Inv X pins σ H s
  fp : ∀ b ∈ fp, FpOk X pins H b ∧ b < s.heap.objs.size
theorem BI.now {X : Cx} {pins pins' : List (Addr × Obj)} {σ σ' : L2.St} {H H' : Hp} {s s' : Shared} {fp : List Addr} {scope : Scope} {cenv : Env} (B : BI X pins σ H s fp) (I : Inv (X.blk s H scope cenv fp) pins' σ' H' s') : Inv X pins σ H' s' :=
  B.inv.call' (ch := fp) I.os I.base I.hok I.bare fun b hb => ⟨(B.fp b hb).1.2.2.2.1, (B.fp b hb).1.2.1, (B.fp b hb).1.2.2.2.2.1, (B.fp b hb).1.2.2.2.2.2⟩
section
variable {X : Cx}
theorem lcI_core {pins : List (Addr × Obj)} {s : Shared} {σ : L2.St} {H : Hp} {Q : VK} {elt tg iter : Expr} {ifs : List Expr} {scope : Scope} {own : List (Str × Nat)} {pos pos' : Pos} {wi : TI} {g : TG} {tt : TT} {te : TE} {use : Option (Value → Sem Unit)} {Qf : Value → Shared → Prop}
    (hc : X.calm = true) (hN : X.N.Nodup) (I : Inv X pins σ H s) (hi : PI X tg iter wi) (ok : BlkOk X.N X.env.scope scope own)
    (hg : ∀ (s : Shared) (H : Hp) (C : Addr) (cl : List (Str × Addr)) (fp : List Addr), PG (X.blk s H scope (compEnvC scope cl C X.env) fp) tg g)
    (ht : ∀ (s : Shared) (H : Hp) (C : Addr) (cl : List (Str × Addr)) (fp : List Addr), BI X pins σ H s fp → PTs (X.blk s H scope (compEnvC scope cl C X.env) fp) ifs tt)
    (he : ∀ (s : Shared) (H : Hp) (C : Addr) (cl : List (Str × Addr)) (fp : List Addr), BI X pins σ H s fp → PE (X.blk s H scope (compEnvC scope cl C X.env) fp) elt te) (hs : ∀ x, foldedSetIterable iter X.env x = pure x)
    (h : tLc wi g tt te (own.map (·.2)) σ H Q)
    (hRR : ∀ D C s' m H', Inv X pins σ H' s' → Q (.ref D) H' → s'.heap.Ns C m → FpOk X pins H' C → compPost (model X.prog X.w) X.A X.xe use Qf (.ref D) C (.ok .next) s') :
    wpAny (model X.prog X.w) X.A (comprehension (.ListComp elt [⟨tg, iter, ifs, 0⟩] scope pos) scope X.env pos' (newList []) false (eval iter X.env) use) Qf X.xe s := by
  have hfree : ∀ y ∈ scope.names, y.2 = .free → ∃ c, X.env.cells.lookup y.1 = some c := fun y hy e => by
    rcases ok.free y hy e with k | k
    · exact I.ok.has _ (.inl k)
    · exact I.ok.has _ (.inr k)
  refine wpAny_comprehension_free (use := use) rfl hs (closure_ok hfree) ok.kind (fun y hy e => by rw [ok.uniq y hy, e])
    (thn (hi.run pins s σ H _ I h) fun xv s1 hx => thn hx fun itv s2 h2 => ?_)
  obtain ⟨it, fp, tn, J, H2, e, I2, T, st2, f2, q⟩ := h2
  subst e
  refine wpAny_newObj_type (newEnv_comp ?_) (by show 0 ≤ sizeLine; decide)
  generalize hD : s2.heap.objs.size = D
  have hDn : H2 D = none := I2.hok.fresh (Nat.le_of_eq hD)
  obtain ⟨W, ⟨m0, w0⟩, turn⟩ := q D hDn
  generalize hs3 : ({ s2 with heap := s2.heap.push { cls := .type "list", data := .seq ([] : List Value).toArray } } : Shared) = s3
  have I3 : Inv X pins σ (upd H2 D (.lst [])) s3 := by
    rw [← hs3]
    refine I2.laid (t' := s2.toks) (fun b o e => Heap.get?_push_of_some _ e) (Nat.le_of_eq hD) ⟨Nat.zero_le _, [], 0, .nil, ?_⟩
    rw [← hD]
    exact Heap.get?_push_size _ rfl
  have h3 : s3.heap = s2.heap.push { cls := .type "list", data := .seq ([] : List Value).toArray } := by rw [← hs3]
  have f3 : ∀ b ∈ fp, FpOk X pins (upd H2 D (.lst [])) b ∧ b < s3.heap.objs.size := fun b hb => by
    obtain ⟨o, e, _⟩ := T.obj _ _ st2 b hb
    have hlt := Heap.lt_size e
    refine ⟨⟨?_, (f2 b hb).2⟩, by rw [h3, Heap.size_push]; exact Nat.lt_succ_of_lt hlt⟩
    rw [upd_ne (by rw [← hD]; exact Nat.ne_of_lt hlt)]
    exact (f2 b hb).1
  have BB : BI X pins σ (upd H2 D (.lst [])) s3 fp := ⟨I3, f3⟩
  have st3 : tn 0 s3.heap := T.keep _ _ _ st2 fun b _ o e => by rw [h3]; exact Heap.get?_push_of_some _ e
  have I4 := block_start I3 ok hN f3
  have pg := hg s3 (upd H2 D (.lst [])) s3.heap.objs.size (cellsFrom (s3.heap.objs.size + 1) scope.names (cloFrom X.env.cells scope.names [])) fp
  have pt := ht s3 (upd H2 D (.lst [])) s3.heap.objs.size (cellsFrom (s3.heap.objs.size + 1) scope.names (cloFrom X.env.cells scope.names [])) fp BB
  have pe := he s3 (upd H2 D (.lst [])) s3.heap.objs.size (cellsFrom (s3.heap.objs.size + 1) scope.names (cloFrom X.env.cells scope.names [])) fp BB
  show codeAny _ _ (.compStart (.ListComp elt [⟨tg, iter, ifs, 0⟩] scope pos) 0 (.ref it) (.ref D) (compEnvC scope (cellsFrom (s3.heap.objs.size + 1) scope.names (cloFrom X.env.cells scope.names [])) s3.heap.objs.size X.env)) (compPost (model X.prog X.w) X.A X.xe use Qf (.ref D) s3.heap.objs.size) { s3 with heap := pushCells (s3.heap.push { cls := .type "dict", data := .dict #[] }) scope.names }
  have nfp : ∀ b ∈ fp, (upd H2 D (.lst [])) b = none := fun b hb => (f3 b hb).1.1
  generalize hce : compEnvC scope (cellsFrom (s3.heap.objs.size + 1) scope.names (cloFrom X.env.cells scope.names [])) s3.heap.objs.size X.env = ce at I4 pg pt pe ⊢
  have cL : ce.locals = s3.heap.objs.size := by subst hce; rfl
  generalize hH3 : upd H2 D (.lst []) = H3 at I3 I4 pg pt pe w0 nfp f3 BB
  generalize hs4 : ({ s3 with heap := pushCells (s3.heap.push { cls := .type "dict", data := .dict #[] }) scope.names } : Shared) = s4 at I4 ⊢
  have st4 : tn 0 s4.heap := T.keep _ _ _ st3 fun b _ o e => by rw [← hs4]; exact pushCells_keeps _ _ _ _ (Heap.get?_push_of_some _ e)
  have stat : ∀ {σ' : L2.St} {H' : Hp} {s' : Shared}, Inv (X.blk s3 H3 scope ce fp) [] σ' H' s' → (∀ b ∈ fp, H' b = none) → ∀ b ∈ fp, FpOk (X.blk s3 H3 scope ce fp) [] H' b := fun {σ' H' s'} I' hn b hb =>
    ⟨hn b hb, (I'.ok.exf b hb).1, I'.ok.exfs b hb, .inl hb, fun x c e => (I'.ok.exf b hb).2 x c e, fun p hp => absurd (show p ∈ ([] : List (Addr × Obj)) ++ [] from hp) (by simp)⟩
  have loop : codeAny (model X.prog X.w) X.A (.compLoop (.ListComp elt [⟨tg, iter, ifs, 0⟩] scope pos) 0 (.ref it) (.ref D) ce) (compPost (model X.prog X.w) X.A X.xe use Qf (.ref D) s3.heap.objs.size) s4 := by
    refine compLoop_any (fun n s' => ∃ i H', Inv (X.blk s3 H3 scope ce fp) [] (wipe σ (own.map (·.2))) H' s' ∧ tn i s'.heap ∧ (∀ b ∈ fp, H' b = none) ∧ W i n H') ?_ m0 ⟨0, H3, I4, st4, nfp, w0⟩
    rintro n s5 ⟨i, H5, I5, st5, n5, w5⟩
    rcases turn i n H5 w5 with ⟨stop, qq⟩ | ⟨go, Nx, hNx, step⟩
    · have td := T.done (X.blk s3 H3 scope ce fp) rfl rfl rfl hc i [] s5 _ H5 (fun _ _ => False) I5 (stat I5 n5) st5 stop
      refine thnF td fun r s6 ⟨hr, I6⟩ => ?_
      subst hr
      have I7 : Inv X pins σ H5 s6 := BB.now I6
      have nC : H5 s3.heap.objs.size = none := by
        have z : H5 ce.locals = none := I6.free
        rw [cL] at z
        exact z
      obtain ⟨m, hn, _⟩ := I6.loc
      have hn : s6.heap.Ns ce.locals m := hn
      rw [cL] at hn
      exact hRR D s3.heap.objs.size s6 m H5 I7 qq hn (I3.fpOk (Nat.le_refl _) nC)
    · have ti := T.item (X.blk s3 H3 scope ce fp) rfl rfl rfl hc i [] s5 _ H5 (fun _ _ => False) I5 (stat I5 n5) st5 go
      refine thnF ti fun r s6 ⟨u, hr, h6⟩ => ?_
      subst hr
      refine thnF h6 fun _ s7 ⟨x, H7, I7, r7, y7, st7, n7⟩ => ?_
      have I7' := I7.pinned (stat I7 n7) (T.obj _ _ st7)
      refine thnF (pg.run _ s7 _ H7 x u _ I7' r7 (step x H7 y7)) fun _ s8 ⟨σ8, H8, I8, hw8, q8⟩ => ?_
      refine thnF (pt.run _ s8 σ8 H8 _ I8 q8) fun b s9 ⟨H9, I9, q9⟩ => ?_
      have fin : ∀ {s' : Shared} {H' : Hp}, Inv (X.blk s3 H3 scope ce fp) ([] ++ pinsAt fp s7.heap) σ8 H' s' → Nx H' → ∃ m, m < n ∧ ∃ i H', Inv (X.blk s3 H3 scope ce fp) [] (wipe σ (own.map (·.2))) H' s' ∧ tn i s'.heap ∧ (∀ b ∈ fp, H' b = none) ∧ W i m H' := fun {s' H'} I' nx => by
        obtain ⟨m', hm, w'⟩ := hNx H' nx
        have pin' : ∀ b ∈ fp, ∀ o, s7.heap.get? b = some o → s'.heap.get? b = some o ∧ H' b = none := fun b hb o e =>
          let z := I'.pin (b, o) (List.mem_append_right _ (List.mem_append_right _ (mem_pinsAt hb e)))
          ⟨z.1, z.2.1⟩
        have hl : (wipe σ (own.map (·.2))).length = σ8.length := by rw [← hw8, wipe_length]
        refine ⟨m', hm, i + 1, H', (I'.unpinned (pins := [])).weak hl (fun j v e => ?_), T.keep _ _ _ st7 fun b hb o e => (pin' b hb o e).1, fun b hb => ?_, w'⟩
        · rw [← hw8] at e
          exact (wipe_some e).1
        · obtain ⟨o, e, _⟩ := T.obj _ _ st7 b hb
          exact (pin' b hb o e).2
      cases b with
      | false =>
        simp only [Bool.false_eq_true, if_false] at q9 ⊢
        exact fin I9 q9
      | true =>
        simp only [if_true] at q9 ⊢
        refine thnF (pe.run _ s9 σ8 H9 _ I9 q9) fun z s10 ⟨yv, H10, I10, r10, acc, hD10, hz10, nx⟩ => ?_
        exact app_ok (X := X.blk s3 H3 scope ce fp) I10 hD10 hz10 r10 fun s11 I11 => fin I11 nx
  exact codeAny_compStart_list loop (T.self X.A 0 _ _ _ st4 loop)
def tLcI (wi : TI) (g : TG) (tt : L2.St → TT) (te : L2.St → TE) (vs : List Nat) : TE := fun σ H Q => tLc wi g (tt σ) (te σ) vs σ H Q
theorem pe_lcI {elt tg iter : Expr} {ifs : List Expr} {scope : Scope} {own : List (Str × Nat)} {pos : Pos} {wi : TI} {g : TG} {tt : L2.St → TT} {te : L2.St → TE} (hc : X.calm = true) (hN : X.N.Nodup) (hi : PI X tg iter wi) (ok : BlkOk X.N X.env.scope scope own)
    (hg : ∀ (s : Shared) (H : Hp) (C : Addr) (cl : List (Str × Addr)) (fp : List Addr), PG (X.blk s H scope (compEnvC scope cl C X.env) fp) tg g)
    (ht : ∀ (pins : List (Addr × Obj)) (σ : L2.St) (s : Shared) (H : Hp) (C : Addr) (cl : List (Str × Addr)) (fp : List Addr), BI X pins σ H s fp → PTs (X.blk s H scope (compEnvC scope cl C X.env) fp) ifs (tt σ))
    (he : ∀ (pins : List (Addr × Obj)) (σ : L2.St) (s : Shared) (H : Hp) (C : Addr) (cl : List (Str × Addr)) (fp : List Addr), BI X pins σ H s fp → PE (X.blk s H scope (compEnvC scope cl C X.env) fp) elt (te σ)) (hs : ∀ x, foldedSetIterable iter X.env x = pure x := by intro _; rfl) :
    PE X (.ListComp elt [⟨tg, iter, ifs, 0⟩] scope pos) (tLcI wi g tt te (own.map (·.2))) := by
  refine ⟨fun pins s σ H Q I h => ?_⟩
  rw [eval_ListComp]
  refine lcI_core hc hN I hi ok hg (ht pins σ) (he pins σ) hs h fun D C s' m H' I' q hn f => ⟨m, hn, fun h'' sb => ?_⟩
  obtain ⟨f0, f1, f2, f3, f4, f5⟩ := f
  exact ⟨.ref D, H', I'.turned (t' := s'.toks) (fun b o hb e => (sb.2 b hb).trans e) f0 f1 f3 f4 f5, rfl, q⟩
def tLamB (X : Cx) (k : Nat) (TT : (XK → Hp → VK → Prop) → Hp → VK → Prop) (te : TE) (σ : L2.St) : TE := fun σ' H Q => te σ' H fun v H1 => ∃ (l : LamT X k) (f : Addr), v = .ref f ∧ LamAt X l H1 f ∧ TT (fun E H' Q' => l.t E σ H' Q') H1 Q
theorem pe_lamB {pins : List (Addr × Obj)} {σ : L2.St} {H0 : Hp} {s0 : Shared} {fp : List Addr} {scope : Scope} {cenv : Env} {k : Nat} {x a : Str} {TT : (XK → Hp → VK → Prop) → Hp → VK → Prop} {e : Expr} {te : TE} {p pos : Pos} (B : BI X pins σ H0 s0 fp) (D : LFn X x a TT) (hr : Room (k + 2) X.A)
    (ha : PA (X.blk s0 H0 scope cenv fp) [e] (tCons te tNil)) (hg : Gl (X.blk s0 H0 scope cenv fp) x := by rfl) (hdb : (x == ("__debug__" : Str)) = false := by decide)
    (hst : starEach (e :: []) cenv = (false, eval e cenv) :: starEach [] cenv := by rfl) (hpl : (backTo pos (starEach [] cenv)).any (·.1) = false := by rfl) (hd : (a == ("__debug__" : Str)) = false := by decide) (hcd : (a == ("__classdict__" : Str)) = false := by decide) :
    PE (X.blk s0 H0 scope cenv fp) (.Call (.Name x p) [e] [] pos) (tLamB X k TT te σ) := by
  obtain ⟨g0, _, _, _, _, _, _, _, _, _, _, _, _, _, _, hm0, hk0, _⟩ := D.ex
  refine ⟨fun pins' s σ' H Q I h => ?_⟩
  refine wpAny_Call_Name_kw (ld_glob I hg hm0 ?_ hdb)
  let R : V → Hp → Prop := fun v H1 => ∃ (l : LamT X k) (f : Addr), v = .ref f ∧ LamAt X l H1 f ∧ TT (fun E H' Q' => l.t E σ H' Q') H1 Q
  refine PySem.W.callWith_K (h₀ := X.base) I.ok.mod.kin hk0 (thn (ha.run pos pins' s σ' H (fun vs H1 => match vs with | [v] => R v H1 | _ => False) I h) fun us s1 hh => ?_) hst hpl
  obtain ⟨vs, H1, I1, r1, hR⟩ := hh
  match vs, r1, hR with
  | [v], r1, hR =>
  obtain ⟨l, f, ef, hl, q⟩ := hR
  subst ef
  refine ⟨I1.kIn, ?_⟩
  cases r1 with
  | cons ru rn =>
    cases rn
    cases ru
    obtain ⟨g, hm, hk, rc⟩ := lam_run D hr (B.now I1) hl q hd hcd
    rw [hm0] at hm
    cases hm
    refine wpAny_call (codeAny_mono rc fun r s2 hq => ?_)
    cases r with
    | error e => exact (show False from hq).elim
    | ok fl =>
      cases fl with
      | ret u => exact I1.after hq
      | next => exact False.elim hq
      | brk => exact False.elim hq
      | cont => exact False.elim hq
end
end MF
set_option Elab.async false
set_option linter.all false
set_option maxRecDepth 100000
set_option maxHeartbeats 1000000
namespace MF
open PySem PySem.Spec PyProof.Rows L2
def eqs (z : Str) (v : Value) : Bool := match v with
  | .str n _ => n.cps.toList == z.cps.toList
  | _ => false
theorem strEq (a b : Str) : (a.cps.toList == b.cps.toList) = (a == b) := by
  rw [Bool.eq_iff_iff, beq_iff_eq, beq_iff_eq]
  constructor
  · intro h
    obtain ⟨x⟩ := a
    obtain ⟨y⟩ := b
    have : x = y := Array.toList_inj.mp h
    rw [this]
  · intro h; rw [h]
theorem eqs_gives {z : Str} {t : Tok} : ∀ {ys : List Str} {us : List Value}, Vals (ys.map V.str) us → ∀ y ∈ us, MeetsSeq.EqGives y (.str z t) (eqs z y)
  | [], _, .nil => fun y hy => by cases hy
  | n :: ys, _, .cons r h => fun y hy => by
    obtain ⟨t', rfl⟩ := r
    rcases List.mem_cons.mp hy with e | e
    · rw [e]
      exact PySem.SeqRoads2.EqGives.str n z t' t
    · exact eqs_gives h y e
theorem eqs_count {z : Str} : ∀ {ys : List Str} {us : List Value}, Vals (ys.map V.str) us → us.countP (eqs z) = ys.count z
  | [], _, .nil => rfl
  | n :: ys, _, .cons r h => by
    obtain ⟨t', rfl⟩ := r
    have ih := eqs_count (z := z) h
    rw [List.countP_cons, List.count_cons, ih, show eqs z (.str n t') = (n == z) from strEq n z]
def rCntS (K : PySem.W.Frag) : V → List V → Hp → VK → Prop := fun x xs H Q => ∃ (p : Addr) (ys : List Str) (z : Str), x = .ref p ∧ xs = [.str z] ∧ SqL K H p (ys.map V.str) ∧ Q (.int (ys.count z : Nat)) H
theorem mt_lcountS {X : Cx} {K : PySem.W.Frag} (hK : X.K = K := by rfl) : MtR X "list.count" (rCntS K) := by
  subst hK
  intro pins s σ H x xs v us Q I rx rxs h
  obtain ⟨p, ns, k, rfl, rfl, hs, q⟩ := h
  cases rx
  obtain ⟨u, rfl, ru⟩ := rxs.one
  obtain ⟨t, rfl⟩ := ru
  obtain ⟨its, rv, ⟨⟨cls, dd, data, sl⟩, n, ho, hc, hdn, hd⟩, hlen⟩ := I.list hs
  simp only at hc hd
  subst hc hd
  refine call_meets PySem.F.slot_list_count ⟨_, ho, rfl⟩ PySem.F.entry_list_count (PySem.F.args_list_count_2 _ _)
    (SeqAt.list_countAt p its.toArray n dd sl (.str k t) (eqs k)) ⟨ho, fun y hy => (eqs_gives rv y (by simpa using hy)).at _ _, ?_⟩
  have ec : its.toArray.toList.countP (eqs k) = ns.count k := eqs_count rv
  refine ⟨.int (ns.count k : Nat), H, I.tok _, ⟨s.toks, ?_⟩, q⟩
  show Value.int ((its.toArray.toList.countP (eqs k) : Nat) : Int) s.toks = Value.int ((ns.count k : Nat) : Int) s.toks
  rw [ec]
theorem pe_bmK {X : Cx} {K : PySem.W.Frag} {o e : Expr} {es : List Expr} {to : TE} {t : TA} {name : Str} {apos cpos : Pos} {T id : String} {r : V → List V → Hp → VK → Prop} (pa : PlainAttrs T) (slot : Slot T name id) (hty : typeOf (.builtin id) = pure (.type "method_descriptor")) (hm : MtR X id r) (ho : PE X o to) (ha : PA X (e :: es) t)
    (hK : X.K = K := by rfl) (hbase : attributeBase o name X.env (eval o X.env) = eval o X.env := by rfl)
    (hfew : ((backTo cpos (starEach (e :: es) X.env)).all (fun x => !x.1) && (backToKw cpos (keywordEach [] X.env)).all (fun x => x.1.isSome)
      && decide ((e :: es).length + ([] : List Keyword).length + (if ([] : List Keyword).isEmpty then 0 else 1) < 30)) = true := by rfl)
    (hline : (apos.endLine == cpos.line) = true := by rfl) (hs : starEach (e :: es) X.env = (false, eval e X.env) :: starEach es X.env := by rfl) (hplain : (backTo cpos (starEach es X.env)).any (·.1) = false := by rfl) :
    PE X (.Call (.Attribute o name apos) (e :: es) [] cpos) (tBM K T r to t) := hK ▸ pe_bm pa slot hty hm ho ha hbase hfew hline hs hplain
end MF
set_option Elab.async false
set_option linter.all false
set_option maxRecDepth 100000
set_option maxHeartbeats 2000000
namespace MF
open PySem PySem.Spec PyProof.Rows L2 StX
theorem eqb_at {k : Bool} : ∀ {ys : List Bool} {us : List Value}, Vals (ys.map V.bl) us → ∀ y ∈ us, ∀ (A : Around) (s : Shared), SeqAt.EqAt A s y (.bool k) (isBoolOf k y)
  | [], _, .nil => fun y hy => by cases hy
  | b :: ys, _, .cons r h => fun y hy A s => by
    cases r
    rcases List.mem_cons.mp hy with e | e
    · rw [e]
      exact SeqAt.EqAt.bool_bool b k
    · exact eqb_at h y e A s
theorem eqb_count {k : Bool} : ∀ {ys : List Bool} {us : List Value}, Vals (ys.map V.bl) us → us.countP (isBoolOf k) = ys.count k
  | [], _, .nil => rfl
  | b :: ys, _, .cons r h => by
    cases r
    have ih := eqb_count (k := k) h
    rw [List.countP_cons, List.count_cons, ih]
    rfl
def rCntB (K : PySem.W.Frag) : V → List V → Hp → VK → Prop := fun x xs H Q => ∃ (p : Addr) (ys : List Bool) (k : Bool), x = .ref p ∧ xs = [.bl k] ∧ SqL K H p (ys.map V.bl) ∧ Q (.int (ys.count k : Nat)) H
theorem mt_lcountB {X : Cx} : MtR X "list.count" (rCntB X.K) := by
  intro pins s σ H x xs v us Q I rx rxs h
  obtain ⟨p, ys, k, rfl, rfl, hs, q⟩ := h
  cases rx
  obtain ⟨u, rfl, ru⟩ := rxs.one
  obtain rfl : u = Value.bool k := ru
  obtain ⟨its, rv, ⟨⟨cls, dd, data, sl⟩, n, ho, hc, hdn, hd⟩, hlen⟩ := I.list hs
  simp only at hc hd
  subst hc hd
  refine call_meets PySem.F.slot_list_count ⟨_, ho, rfl⟩ PySem.F.entry_list_count (PySem.F.args_list_count_2 _ _)
    (SeqAt.list_countAt p its.toArray n dd sl (.bool k) (isBoolOf k)) ⟨ho, fun y hy => eqb_at rv y (by simpa using hy) _ _, ?_⟩
  have ec : its.toArray.toList.countP (isBoolOf k) = ys.count k := eqb_count rv
  refine ⟨.int (ys.count k : Nat), H, I.tok _, ⟨s.toks, ?_⟩, q⟩
  show Value.int ((its.toArray.toList.countP (isBoolOf k) : Nat) : Int) s.toks = Value.int ((ys.count k : Nat) : Int) s.toks
  rw [ec]
theorem mt_lcountBK {X : Cx} {K : PySem.W.Frag} (h : X.K = K := by rfl) : MtR X "list.count" (rCntB K) := h ▸ mt_lcountB
theorem mt_indexDK {X : Cx} {K : PySem.W.Frag} (hu : X.A.units + 65 < cLine) (h : X.K = K := by rfl) : MtR X "list.index" (rIndexD K) := h ▸ mt_indexD hu
def rIsY (K : PySem.W.Frag) (cls : Value) (a : Addr) (d : Option Addr) : List V → Hp → VK → Prop := fun xs H Q => ∃ (D : Addr) (c : V) (cv : Value) (b : Bool), xs = [.ref a, c] ∧ cls = .ref D ∧ ExcC K D ∧ (∀ u, RelV c u → u = cv) ∧ PySem.W.kitOne K (.ref D) cv = some b ∧ DictSt H d ∧ Q (.bl b) H
theorem call_isY {X : Cx} {a : Addr} {cls : Value} {d : Option Addr} {oe : Obj} {pn : List (Addr × Obj)} (hz : Zc cls d oe) (hf : ∃ vs, oe.data = .fields vs) : CallR (X.suite a ((a, oe) :: pn)) (.builtin "isinstance") (rIsY X.K cls a d) := by
  intro pins s σ H xs us Q I r h
  obtain ⟨D, c, cv, b, e1, rfl, hC, hcv, e, hd, q⟩ := h
  exact call_isX hC hz hf pins s σ H xs us Q I r ⟨c, cv, b, e1, hcv, e, hd, q⟩
def tXfY (K : PySem.W.Frag) (a : Addr) (cls : Value) (d : Option Addr) (f : Str) (te : TE) : TE := fun σ H Q => te σ H fun x H1 => x = .ref a ∧ ∃ (C dd : Addr) (fs : List (Str × V)) (v : V), cls = .ref C ∧ XfC K C ∧ PySem.W.findIn K (.ref C) f = some none ∧ d = some dd ∧ H1 dd = some (.xd fs) ∧ fs.lookup f = some v ∧ Q v H1
theorem pe_xfY {X : Cx} {a : Addr} {oe : Obj} {cls : Value} {d : Option Addr} {pn : List (Addr × Obj)} {e : Expr} {te : TE} {pos : Pos} {n : Str}
    (hz : Zc cls d oe) (hf : ∃ vs, oe.data = .fields vs) (he : PE (X.suite a ((a, oe) :: pn)) e te) (hb : attributeBase e n X.env (eval e X.env) = eval e X.env := by rfl) :
    PE (X.suite a ((a, oe) :: pn)) (.Attribute e n pos) (tXfY X.K a cls d n te) := by
  refine ⟨fun pins s σ H Q I h => ?_⟩
  refine attr_of hb (thn (he.run pins s σ H _ I h) fun u s1 hh => ?_)
  obtain ⟨x, H1, I1, rx, ex, C, dd, fs, v, ec, T, hno, ed, ea, l, q⟩ := hh
  subst ex
  obtain rfl : u = Value.ref a := rx
  subst ec
  subst ed
  obtain ⟨ha, _⟩ := I1.pin (a, oe) (List.mem_append_left _ List.mem_cons_self)
  obtain ⟨vs, hd⟩ := hf
  have hx : ObjOk X.prog X.w H1 s1.heap dd (.xd fs) := I1.hok dd _ ea
  obtain ⟨mA, hns, hr⟩ := hx
  obtain ⟨od, ho, hl⟩ := lookIn_ns hns
  obtain ⟨u, hu, ru⟩ := RelO.some_of (v := v) (o := mA n) (by rw [← l]; exact hr n)
  have J : PySem.W.InstAt s1.heap a oe C (some od) := ⟨ha, hz.1, by unfold PySem.W.notCls; rw [hd] <;> rfl, by rw [hz.2]; exact ho⟩
  exact HandSPX.exc_get I1.kIn J T.ga T.gg T.exC (PySem.W.findObj_own T.hdC hno rfl (by rw [hl, hu])) (handed_of ru) ⟨v, H1, I1.tok _, ru, q⟩
structure ErrC (K : PySem.W.Frag) (C M : Addr) : Prop where
  exc : ExcC K C
  exm : PySem.W.exmOne K (.ref C) (.ref M) = some true
  ve : PySem.W.kitOne K (.ref C) (.type "ValueError") = some true
theorem ErrC.xf {K : PySem.W.Frag} {C M : Addr} (h : ErrC K C M) : XfC K C := ⟨h.exc.hg, h.exc.hk, h.exc.hs, h.exc.hd⟩
inductive Err where
  | order (i : V)
  | unknown (i : V)
  | address
  | day
  | number
  | letter (i : V)
  | holding (i : V)
  | operation (i : V)
  | contra
  | count
  | decode (i : V)
  | note (r w : V)
structure Cls5 where
  order : Addr
  unknown : Addr
  address : Addr
  day : Addr
  number : Addr
  letter : Addr
  holding : Addr
  operation : Addr
  contra : Addr
  count : Addr
  decode : Addr
  note : Addr
def ErrAt (c : Cls5) (cls : Value) (d : Option Addr) (H : Hp) : Err → Prop
  | .order v => cls = .ref c.order ∧ ∃ dd, d = some dd ∧ H dd = some (.xd [("index", v)])
  | .unknown v => cls = .ref c.unknown ∧ ∃ dd, d = some dd ∧ H dd = some (.xd [("index", v)])
  | .address => cls = .ref c.address ∧ d = none
  | .day => cls = .ref c.day ∧ d = none
  | .number => cls = .ref c.number ∧ d = none
  | .letter v => cls = .ref c.letter ∧ ∃ dd, d = some dd ∧ H dd = some (.xd [("letter", v)])
  | .holding v => cls = .ref c.holding ∧ ∃ dd, d = some dd ∧ H dd = some (.xd [("index", v)])
  | .operation v => cls = .ref c.operation ∧ ∃ dd, d = some dd ∧ H dd = some (.xd [("index", v)])
  | .contra => cls = .ref c.contra ∧ d = none
  | .count => cls = .ref c.count ∧ d = none
  | .decode v => cls = .ref c.decode ∧ ∃ dd, d = some dd ∧ H dd = some (.xd [("offset", v)])
  | .note r w => cls = .ref c.note ∧ ∃ dd, d = some dd ∧ H dd = some (.xd [("word", w), ("row", r)])
def errV : Err → List V
  | .order v => [.str "order", v]
  | .unknown v => [.str "unknown", v]
  | .address => [.str "address"]
  | .day => [.str "day"]
  | .number => [.str "number"]
  | _ => []
def TRaised (rk : Err → Prop) (c : Cls5) : (XK → Hp → VK → Prop) → Hp → VK → Prop := fun tl H Q =>
  tl (fun cls d H' => ∃ r, rk r ∧ ErrAt c cls d H' r ∧ ∀ p H2, Same H' H2 → H' p = none → H2 p = some (.tup (errV r)) → Q (.ref p) H2) H (fun _ H' => Q .non H')
def errT : Err → Str × List V
  | .order v => ("InvalidOrder", [v])
  | .unknown v => ("UnknownOrder", [v])
  | .address => ("InvalidAddress", [])
  | .day => ("InvalidDay", [])
  | .number => ("InvalidNumber", [])
  | .letter v => ("UnknownLetter", [v])
  | .holding v => ("NotHolding", [v])
  | .operation v => ("InvalidOperation", [v])
  | .contra => ("Contradiction", [])
  | .count => ("InvalidCount", [])
  | .decode v => ("DecodeError", [v])
  | .note r w => ("NotationError", [r, w])
def ToldAt (H : Hp) (p : Addr) (r : Err) : Prop := match (errT r).2 with
  | [] => H p = some (.tup [.str "error", .str (errT r).1])
  | vs => ∃ l, H p = some (.tup [.str "error", .str (errT r).1, .ref l]) ∧ H l = some (.lst vs)
def TTold (rk : Err → Prop) (c : Cls5) : (XK → Hp → VK → Prop) → Hp → VK → Prop := fun tl H Q =>
  tl (fun cls d H' => ∃ r, rk r ∧ ErrAt c cls d H' r ∧ ∀ p H2, Same H' H2 → H' p = none → ToldAt H2 p r → Q (.ref p) H2) H Q
def wordAt : Nat → Str
  | 0 => "order"
  | 1 => "unknown"
  | 2 => "address"
  | 3 => "day"
  | _ => "number"
end MF
set_option Elab.async false
set_option linter.all false
set_option maxRecDepth 100000
set_option maxHeartbeats 2000000
namespace MF
open PySem PySem.Spec PyProof.Rows L2 StX LamX
theorem pss_no {X : Cx} {ss : List Stmt} : PSs X ss (fun _ _ _ => False) := ⟨fun _ _ _ _ _ _ h => h.elim⟩
theorem ps_no {X : Cx} {st : Stmt} : PS X st (fun _ _ _ => False) := ⟨fun _ _ _ _ _ _ h => h.elim⟩
theorem pe_no {X : Cx} {e : Expr} : PE X e (fun _ _ _ => False) := ⟨fun _ _ _ _ _ _ h => h.elim⟩
theorem passM {X : Cx} {A : Around} {outer : List Env} {s : Shared} {H : Hp} {E : XK} {scope : Scope} {f c' : Addr} : Passes (L2.CX X.prog X.w) (lamCx X A outer s H E scope f c') E := passes_call (W := fun cls d _ H => E cls d H) (takes_of rfl rfl rfl rfl) fun _ _ _ _ h => h
theorem passN {X : Cx} : Passes (L2.CX X.prog X.w) X E0 := fun _ _ _ _ _ _ _ h => by
  obtain ⟨_, _, _, _, _, _, _, _, _, _, _, _, z⟩ := h
  exact z.elim
theorem pe_lamX {X : Cx} {k : Nat} {params : Arguments} {body : Expr} {scope : Scope} {t : XK → TE} {T : List (Addr × Str)} {q : Str} {c P : Addr} {lpos : Pos} (TB : TabB X.base X.mg c P) (hmT : (P, q) ∈ T) (hu : ∀ p ∈ T, p.1 = P → p.2 = q) (hq : X.env.qual ++ "<lambda>" = q) (hcode : X.env.code = .ref c)
    (hdef : defaultsOf params X.env = ([], [])) (L : LamS X.env.scope scope) (bind : ∀ (q : Str) (cl : List (Str × Addr)) (doc pm cv ctv : Value), bindArgs (lamFd q params body scope cl .none doc pm cv ctv) ⟨[], []⟩ = pure [])
    (run : ∀ (A : Around) (outer : List Env) (s : Shared) (H : Hp) (E : XK) (f c' : Addr), Room k (A.deeper (lamEnv X scope s.heap.objs.size f c')) → PE (lamCx X A outer s H E scope f c') body (t E)) :
    PE X (.Lambda params body scope lpos) (tLamE T X (k := k) ⟨none, params, body, scope, t, lamSN_of L, bind, run⟩) := by
  subst hq
  exact pe_lamE (k := k) ⟨none, params, body, scope, t, lamSN_of L, bind, run⟩ rfl TB hcode hmT hu hdef
theorem pe_lamXD {X : Cx} {k : Nat} {x : Str} {params : Arguments} {body : Expr} {scope : Scope} {t : XK → TE} {T : List (Addr × Str)} {q : Str} {c P : Addr} {lpos p0 : Pos} {i0 : Int} {j0 : Nat} (TB : TabB X.base X.mg c P) (hmT : (P, q) ∈ T) (hu : ∀ p ∈ T, p.1 = P → p.2 = q) (hq : X.env.qual ++ "<lambda>" = q) (hcode : X.env.code = .ref c)
    (hdef : params.defaults = [.Constant (.int i0) j0 p0]) (hkw : params.kw_defaults = []) (L : LamSN X.N X.env.scope scope) (hl : scope.names.lookup x = some .local) (bind : ∀ (q : Str) (cl : List (Str × Addr)) (T : Addr) (doc pm cv ctv : Value), ∃ k, bindArgs (lamFd q params body scope cl (.ref T) doc pm cv ctv) ⟨[], []⟩ = seqItems? (.ref T) >>= k ∧ ∀ u, k (some #[u]) = pure [(x, u)])
    (run : ∀ (A : Around) (outer : List Env) (s : Shared) (H : Hp) (E : XK) (f c' : Addr), Room k (A.deeper (lamEnv X scope s.heap.objs.size f c')) → PE (lamCx X A outer s H E scope f c') body (t E)) :
    PE X (.Lambda params body scope lpos) (tLamE T X (k := k) ⟨some x, params, body, scope, t, L, ⟨hl, bind⟩, run⟩) := by
  subst hq
  exact pe_lamD (k := k) ⟨some x, params, body, scope, t, L, ⟨hl, bind⟩, run⟩ rfl TB hcode hmT hu hdef hkw
structure FunC (K : PySem.W.Frag) (x qual : Str) (st : Stmt) (f : Addr) (fd : FuncData) (c : Addr) : Prop where
  ex : ∃ (oc : Value) (od : Option Addr) (kV doc pm : Value) (an : Option Addr) (ct : Value) (osl : Array (Option Value)), fd = PySem.W.fnOf x qual (defArgs st) (defBody st) (defScope st) .none kV doc pm an (.ref c) ct ∧ K.lookup f = some ⟨oc, od, .func fd, osl⟩ ∧ PySem.W.codeIn K (.ref c) qual = true
theorem FunC.ok {P : Program} {w : World} {K : PySem.W.Frag} {mg : Str → Option Value} {base : Heap} {x qual : Str} {st : Stmt} {f c : Addr} {fd : FuncData} {N ps : List Str} {k : Nat} {sp : Sp} (F : FunC K x qual st f fd c) (S : FnScope N ps (defScope st)) (len : ∀ vs H Q E, sp vs H Q E → vs.length = ps.length)
    (hbody : ∀ (A : Around) (outer : List Env) (s : Shared) (H : Hp) (vs : List V) (Q : VK) (E : XK), Room k (A.deeper (envOfC qual (defScope st) s.heap.objs.size f (.ref c))) → sp vs H Q E →
      ∃ t, PSs (cxOf CX0 P w K mg base N qual (defScope st) f (.ref c) A outer s H E).nox (defBody st) t ∧ t { nx := fun _ H' => Q .non H', rt := Q } (start N vs) H) : FnOk P w K mg base CX0 (k + 1) f fd ps sp := by
  obtain ⟨oc, od, kV, doc, pm, an, ct, osl, rfl, lk, hcd⟩ := F.ex
  refine fn_of lk hcd S len fun A outer s H vs Q E hr hsp => ?_
  obtain ⟨t, h, q⟩ := hbody A outer s H vs Q E hr hsp
  exact ⟨t, h.nox, q⟩
theorem GDef.fnX {P : Program} {w : World} {K : PySem.W.Frag} {mg : Str → Option Value} {base : Heap} {k : Nat} {x : Str} {st : Stmt} {ps N : List Str} {sp : Sp} (D : GDef K mg x st ps) (S : FnScope N ps (defScope st)) (len : ∀ vs H Q E, sp vs H Q E → vs.length = ps.length)
    (hbody : ∀ (f : Addr) (cdv : Value) (A : Around) (outer : List Env) (s : Shared) (H : Hp) (vs : List V) (Q : VK) (E : XK), Room k (A.deeper (envOfC x (defScope st) s.heap.objs.size f cdv)) → sp vs H Q E →
      ∃ t, PSs (cxOf (L2.CX P w) P w K mg base N x (defScope st) f cdv A outer s H E) (defBody st) t ∧ t { nx := fun _ H' => Q .non H', rt := Q } (start N vs) H) : GFn P w K mg base (L2.CX P w) (k + 1) x sp :=
  D.fn fun f fd F => by
    obtain ⟨oc, od, kV, doc, pm, an, cdv, ct, osl, rfl, lk, hcd⟩ := F.ex
    exact fn_of lk hcd S len fun A outer s H vs Q E hr hsp => hbody f cdv A outer s H vs Q E hr hsp
theorem MDef.fnX {P : Program} {w : World} {K : PySem.W.Frag} {mg : Str → Option Value} {base : Heap} {k : Nat} {C : Addr} {m qual : Str} {st : Stmt} {ps N : List Str} {sp : Sp} (D : MDef K C m qual st ps) (S : FnScope N ps (defScope st)) (len : ∀ vs H Q E, sp vs H Q E → vs.length = ps.length)
    (hbody : ∀ (f : Addr) (cdv : Value) (A : Around) (outer : List Env) (s : Shared) (H : Hp) (vs : List V) (Q : VK) (E : XK), Room k (A.deeper (envOfC qual (defScope st) s.heap.objs.size f cdv)) → sp vs H Q E →
      ∃ t, PSs (cxOf (L2.CX P w) P w K mg base N qual (defScope st) f cdv A outer s H E) (defBody st) t ∧ t { nx := fun _ H' => Q .non H', rt := Q } (start N vs) H) : MFn P w K mg base (L2.CX P w) (k + 1) C m sp :=
  D.fn fun f fd F => by
    obtain ⟨oc, od, kV, doc, pm, an, cdv, ct, osl, rfl, lk, hcd⟩ := F.ex
    exact fn_of lk hcd S len fun A outer s H vs Q E hr hsp => hbody f cdv A outer s H vs Q E hr hsp
def spLawT (K : PySem.W.Frag) (Ps : List Addr) : Sp := fun vs H Q _ => ∃ (a : Addr) (ns : List Int), vs = [.ref a] ∧ SqL K H a (ns.map V.int) ∧ ns.length ≤ 63 ∧ (∀ P ∈ Ps, H P = some (.tbl #[])) ∧ ∀ H', Q (.bl true) H'
theorem op_neDK {X : Cx} {K : PySem.W.Frag} (hu : X.A.units + 64 < cLine) (h : X.K = K := by rfl) : OpR X (compareOp .NotEq) (rNeD K) := h ▸ op_neD hu
theorem op_eqDK {X : Cx} {K : PySem.W.Frag} (hu : X.A.units + 64 < cLine) (h : X.K = K := by rfl) : OpR X (compareOp .Eq) (rEqD K) := h ▸ op_eqD hu
theorem ExtN.ext {H H' : Hp} (e : ExtN H H') : ∀ b φ, H b = some (.ext φ) → H' b = some (.ext φ) := fun b φ h => e _ _ h fun ps z => by cases z
end MF
set_option Elab.async false
set_option linter.all false
set_option maxRecDepth 100000
set_option maxHeartbeats 2000000
namespace MF
open PySem PySem.Spec PyProof.Rows L2 StX
def oexB (K : PySem.W.Frag) (C : Addr) : Bool := match K.lookup C with
  | some ⟨.type "type", _, .cls cd, sl⟩ => (match cd.mro, sl.toList with
    | .ref C' :: bm, [_, _, _, _, some (.builtin n), _] => C' == C && n == "ValueError.__new__" && cd.hasDict && !cd.hasDel && PySem.HandSPX.refsVE bm
    | _, _ => false)
  | _ => false
theorem oex_cls {K : PySem.W.Frag} {C : Addr} (q : oexB K C = true) : ∃ nm q N bs bm sn sub ab col dd k0 k1 k2 k3 k5, K.lookup C = some (excClassObj nm q C N bs bm true sn sub ab col dd k0 k1 k2 k3 k5 "ValueError.__new__") ∧ PySem.HandSPX.refsVE bm = true := by
  unfold oexB at q
  split at q
  · rename_i dd cd sl hk
    split at q
    · rename_i C' bm k0 k1 k2 k3 n k5 hm hs
      simp only [Bool.and_eq_true, Bool.not_eq_true'] at q
      obtain ⟨⟨⟨⟨e1, e2⟩, e3⟩, e4⟩, e5⟩ := q
      obtain rfl : C' = C := beq_iff_eq.mp e1
      obtain rfl : n = "ValueError.__new__" := beq_iff_eq.mp e2
      obtain ⟨nm, bs, mro, N, qn, hdct, sn, sub, ab, col, del⟩ := cd
      simp only at hm e3 e4
      subst hm e3 e4
      have : sl = #[k0, k1, k2, k3, some (.builtin "ValueError.__new__"), k5] := Array.ext' hs
      subst this
      exact ⟨nm, qn, N, bs, bm, sn, sub, ab, col, dd, k0, k1, k2, k3, k5, hk, e5⟩
    · cases q
  · cases q
theorem oex_of {K : PySem.W.Frag} {C : Addr} (q : oexB K C = true) (sa : PySem.W.findIn K (.ref C) "__setattr__" = some (some (.builtin "object.__setattr__"))) (exC : PySem.W.subIn K (.ref C) (.type "BaseException") = some true) (tyC : PySem.W.typeIn K (.ref C) = some (.type "type")) (kC : PySem.W.keepIn K (.ref C) = true) : OexC K C := ⟨oex_cls q, sa, exC, tyC, kC⟩
end MF
set_option Elab.async false
set_option linter.all false
set_option maxRecDepth 100000
set_option maxHeartbeats 2000000
namespace MF
open PySem PySem.Spec PyProof.Rows L2 StX
theorem SDef.fnX {P : Program} {w : World} {K : PySem.W.Frag} {mg : Str → Option Value} {base : Heap} {k : Nat} {C : Addr} {x qual p1 pv : Str} {st : Stmt} {N : List Str} {sp : Sp} (D : SDef K mg C x qual st p1 pv) (S : FnScope N [p1, pv] (defScope st))
    (hbody : ∀ (f : Addr) (cdv : Value) (A : Around) (outer : List Env) (s : Shared) (H : Hp) (vs : List V) (Q : VK) (E : XK), Room k (A.deeper (envOfC qual (defScope st) s.heap.objs.size f cdv)) → sp vs H Q E →
      ∃ t, PSs (cxOf (L2.CX P w) P w K mg base N qual (defScope st) f cdv A outer s H E) (defBody st) t ∧ t { nx := fun _ H' => Q .non H', rt := Q } (start N vs) H) :
    IFn P w K mg base (L2.CX P w) (k + 1) C x (fun vs H Q E => ∃ v rest, vs = v :: rest ∧ rest.length ≤ sizeLine ∧ ∀ p, H p = Option.none → sp [v, V.ref p] (upd H p (.tup rest)) Q E) := by
  obtain ⟨f, fd, F, M, hm, hb⟩ := D.ex
  obtain ⟨oc, od, kV, doc, pm, an, cdv, ct, osl, rfl, lk, hcd⟩ := F.ex
  refine ⟨f, (fn_star (ps := [p1]) (pv := pv) (sp := sp) lk hcd S cxUp hb fun A outer s H vs Q E hr hsp => hbody f cdv A outer s H vs Q E hr hsp).imp fun vs H Q E h => ?_, M, hm⟩
  obtain ⟨v, rest, rfl, hl, q⟩ := h
  exact ⟨[v], rest, rfl, rfl, hl, q⟩
theorem owns_cx {P : Program} {w : World} {K : PySem.W.Frag} {mg : Str → Option Value} {base : Heap} {N : List Str} {qual : Str} {scope : Scope} {f : Addr} {cd : Value} {A : Around} {outer : List Env} {s : Shared} {H : Hp} {E : XK} :
    PassesOwn (model P w) (cxOf (L2.CX P w) P w K mg base N qual scope f cd A outer s H E).A (cxOf (L2.CX P w) P w K mg base N qual scope f cd A outer s H E).env (cxOf (L2.CX P w) P w K mg base N qual scope f cd A outer s H E).xe :=
  passes_of (X := cxOf (L2.CX P w) P w K mg base N qual scope f cd A outer s H E) rfl
end MF
set_option Elab.async false
set_option linter.all false
set_option maxRecDepth 100000
set_option maxHeartbeats 2000000
namespace MF
open PySem PySem.Spec PyProof.Rows L2 StX LamX
def xeB (X : Cx) (ce : Env) : Value → Shared → Prop := notedBy (model X.prog X.w) X.A ce fun e s' => CompFails (model X.prog X.w) X.A X.xe ce e s'
theorem noteFrame_as {e : Value} {a b : Env} (h : a.frame = b.frame) : noteFrame e a = noteFrame e b := by
  unfold PySem.noteFrame PySem.frameOf
  rw [h]
theorem passOn_as {α : Type} {t : String} {e : Value} {a b : Env} (h : a.frame = b.frame) : (PySem.passOn t e a : Sem α) = PySem.passOn t e b := by
  unfold PySem.passOn
  rw [h]
theorem funFrames_but {B B' h h' : Heap} {C : Addr} : ∀ {l : List Env}, h.FunFrames B l → (∀ b, B'.get? b = none ∨ B'.get? b = B.get? b) → (∀ b, b ≠ C → h'.get? b = h.get? b) → C ∉ frs l → h'.FunFrames B' l
  | [], _, _, _, _ => trivial
  | env :: l, hh, hB, k, hC => by
    obtain ⟨hk, ⟨L, o, hf, hn, ho, hd⟩, hr⟩ := hh
    have hL : L ∈ frs (env :: l) := List.mem_filterMap.mpr ⟨env, List.mem_cons_self, hf⟩
    refine ⟨hk, ⟨L, o, hf, ?_, by rw [k L (fun z => hC (z ▸ hL))]; exact ho, hd⟩, funFrames_but hr hB k fun z => hC ?_⟩
    · rcases hB L with z | z
      · exact z
      · rw [z]; exact hn
    · obtain ⟨e, he, q⟩ := List.mem_filterMap.mp z
      exact List.mem_filterMap.mpr ⟨e, List.mem_cons_of_mem _ he, q⟩
section
variable {X : Cx}
theorem passes_blk {pins : List (Addr × Obj)} {σ : L2.St} {H : Hp} {s : Shared} {fp : List Addr} {scope : Scope} {cl : List (Str × Addr)} {C : Addr} {E : XK} (hs : X.stack = X.env :: X.outer) (hf : X.env.frame = some X.env.locals)
    (tk : Takes X fun cls d _ H => E cls d H) (B : BI X pins σ H s fp) (hC : s.heap.objs.size ≤ C) :
    Passes (L2.CX X.prog X.w) ((X.blk s H scope (compEnvC scope cl C X.env) fp).wish (xeB X (compEnvC scope cl C X.env))) E := by
  intro pins' σ' H' s' u s'' I c
  have I1 := I.unwish
  have I2 : Inv X pins σ H' s' := B.now I1
  obtain ⟨m, hnm, _⟩ := I1.loc
  have hnm : s'.heap.Ns C m := hnm
  have hCn : H' C = none := I1.free
  have c' : L2.CX X.prog X.w X.stack H' s' E u s'' := c
  obtain ⟨a, B0, HE, cls, d, rfl, fl, hok, ub, na, os, ag, hE⟩ := c'
  have FC : FpOk X pins HE C := by
    obtain ⟨o, _, _, eo, _⟩ := hnm
    exact B.inv.fpOk hC (ub.free C o eo hCn)
  have stk : C ∉ frs X.stack := fun z => by
    rw [hs] at z
    obtain ⟨e, he, q⟩ := List.mem_filterMap.mp z
    rcases List.mem_cons.mp he with w | w
    · rw [w, hf] at q
      exact FC.2.1 (Option.some.inj q).symm
    · exact FC.2.2.1 (List.mem_filterMap.mpr ⟨e, w, q⟩)
  have hnB : s''.heap.Ns C m := by
    obtain ⟨o, es, ep, eo, r⟩ := hnm
    exact ⟨o, es, ep, fl.1 _ _ (ub.keep C o eo hCn stk), r⟩
  have xx : XE X (fun cls d _ H => (E cls d H ∧ H C = none)) (.ref a) s'' := XE.of_call (E := fun cls d H => E cls d H ∧ H C = none) I2 (fun _ _ _ h => h) ⟨a, B0, HE, cls, d, rfl, fl, hok, ub, na, os, ag, hE, FC.1⟩
  clear fl hok ub na os ag hE hnm
  obtain ⟨a', B1, sI, pinsI, σI, HI, cls, d, ea, II, nb, up, sky, na, os, ag, hE, hIC⟩ := xx
  cases ea
  have II0 : Inv X [] σI HI sI := ⟨II.ok, II.os, II.bare, II.base, II.loc, II.cell, II.free, II.freeC, fun p hp => II.pin p (by
    rw [List.append_nil] at hp
    exact List.mem_append_left _ hp), II.hok, II.len⟩
  have hfr : X.A.frames = some (X.env :: X.outer) := by rw [II.ok.frames, hs]
  have cf : (compEnvC scope cl C X.env).frame = X.env.frame := rfl
  show wpAny (model X.prog X.w) X.A (noteFrame (.ref a) (compEnvC scope cl C X.env)) _ _ _
  rw [noteFrame_as cf]
  have fin : ∀ h3, HandSPX.HeldZ B1 (X.env :: X.outer) a (Zc cls d) X.env.locals h3 → s''.heap.UpToSlots h3 → CompFails (model X.prog X.w) X.A X.xe (compEnvC scope cl C X.env) (.ref a) { s'' with heap := h3 } := by
    intro h3 hh up3
    obtain ⟨k1, k2, k3, oe, vs, T, oT, ts, he, hz, hd, h1, hnT, hTe, hT, hdT, ht3⟩ := hh
    have n3 := up3.ns hnB
    refine ⟨m, n3, fun h' m' hn' sb => ?_⟩
    replace sb : Heap.SameBut C h3 h' := sb
    show wpAny (model X.prog X.w) X.A (PySem.passOn "comprehension.variables-let-go" (.ref a) (compEnvC scope cl C X.env)) _ _ _
    rw [passOn_as cf]
    have noC : ∀ {b o vs}, h3.get? b = some o → o.data = .fields vs → b ≠ C := fun {b o vs} e dd z => by
      obtain ⟨o', es, ep, e', d', _⟩ := n3
      rw [z, e'] at e
      cases e
      rw [d'] at dd
      cases dd
    have aC : a ≠ C := noC he hd
    have TC : T ≠ C := noC hT hdT
    have he' : h'.get? a = some oe := by rw [sb.2 a aC]; exact he
    have hT' : h'.get? T = some oT := by rw [sb.2 T TC]; exact hT
    obtain ⟨B2, g1, g2⟩ := restrict B1 fun b => !decide (b = C)
    have B2in : ∀ b o, B2.get? b = some o → B1.get? b = some o ∧ b ≠ C := fun b o e => by
      by_cases c : b = C
      · rw [g2 b (by simp [c])] at e
        cases e
      · rw [g1 b (by simp [c])] at e
        exact ⟨e, c⟩
    obtain ⟨G, q1, q2⟩ := restrict sI.heap fun b => !decide (b = C)
    have Gin : ∀ b o, G.get? b = some o → sI.heap.get? b = some o ∧ b ≠ C := fun b o e => by
      by_cases c : b = C
      · rw [q2 b (by simp [c])] at e
        cases e
      · rw [q1 b (by simp [c])] at e
        exact ⟨e, c⟩
    have st2 : B2.StaysIn h' := fun b o e => by
      obtain ⟨e1, n⟩ := B2in b o e
      rw [sb.2 b n]
      exact k1 b o e1
    have an2 : B2.get? a = none := by rw [g1 a (by simp [aC])]; exact k2
    have ff2 : h'.FunFrames B2 (X.env :: X.outer) := funFrames_but k3 (fun b => by
      by_cases c : b = C
      · exact .inl (g2 b (by simp [c]))
      · exact .inr (g1 b (by simp [c]))) sb.2 (by rw [← hs]; exact stk)
    have Tn2 : B2.get? T = none := by rw [g1 T (by simp [TC])]; exact hnT
    have tr2 : HandSPX.TracedZ h' B2 a (Zc cls d) (rawInt X.env.locals) := ⟨oe, vs, T, oT, ts, he', hz, hd, h1, Tn2, hTe, hT', hdT, ht3⟩
    unfold PySem.passOn
    refine wpAny_bind (wpAny_field he' hd h1 ?_)
    rw [if_neg (show ¬ ((Value.ref T == Value.none) = true) from by simp)]
    have goOn : wpAny (model X.prog X.w) X.A (setFlight (.ref a) X.env.frame) (fun _ s7 => wpAny (model X.prog X.w) X.A (throw (.ref a) : Sem Value) (fun _ _ => False) X.xe s7) X.xe { s'' with heap := h' } := by
      rw [hf]
      refine HandSPX.setFlight_anyZ (s := { s'' with heap := h' }) (fr := some X.env.locals) st2 ff2 tr2 fun h7 z1 z2 z3 z4 => wpAny_throw (tk _ _ ?_)
      refine ⟨a, B2, { sI with heap := G }, [], σI, HI, cls, d, rfl, ?_, fun b o e hb => ?_, fun b o e hn => ?_, ?_, na, os, ag, hE⟩
      · exact II0.turned (t' := sI.toks) (it := C) (fun b o hb e => by rw [q1 b (by simp [hb])]; exact e) hIC FC.2.1 FC.2.2.2.1 FC.2.2.2.2.1 fun p hp => FC.2.2.2.2.2 p (by
          rw [List.append_nil] at hp
          exact List.mem_append_left _ hp)
      · obtain ⟨e1, n⟩ := Gin b o e
        rw [g1 b (by simp [n])]
        exact nb b o e1 hb
      · obtain ⟨e1, n⟩ := Gin b o e
        obtain ⟨sl, e2⟩ := (up.trans up3) b o e1 hn
        exact z4 b { o with slots := sl } (by rw [sb.2 b n]; exact e2) hn
      · exact .inr (.inr ⟨z1, an2, by rw [hs]; exact z2, z3⟩)
    first
      | exact wpAny_bind (wpAny_pure (wpAny_bind goOn))
      | exact wpAny_bind goOn
  have sky' : Sky B1 (X.env :: X.outer) a (Zc cls d) X.env.locals s''.heap := by rw [← hs]; exact sky
  rcases sky' with ⟨hB, hn, hl, oe, vs, he0, hz, hd, hv1⟩ | fl | hh
  · exact HandSPX.look_newZ Zc.steady hfr hl hf he0 hB hn hd hv1 hz fin
  · exact HandSPX.looks_onZ Zc.steady hfr hf fl fin
  · exact HandSPX.againZ hf hh.2.2.2 (fin s''.heap hh (Heap.UpToSlots.refl _))
theorem lcX_core {pins : List (Addr × Obj)} {s : Shared} {σ : L2.St} {H : Hp} {Q : VK} {elt tg iter : Expr} {ifs : List Expr} {scope : Scope} {own : List (Str × Nat)} {pos pos' : Pos} {wi : TI} {g : TG} {tt : TT} {te : TE} {Qf : Value → Shared → Prop} {E : XK}
    (hc : X.calm = true) (hst : X.stack = X.env :: X.outer) (hfx : X.env.frame = some X.env.locals) (tk : Takes X fun cls d _ H => E cls d H) (hN : X.N.Nodup) (I : Inv X pins σ H s) (hi : PI X tg iter wi) (ok : BlkOk X.N X.env.scope scope own)
    (hg : ∀ (s : Shared) (H : Hp) (C : Addr) (cl : List (Str × Addr)) (fp : List Addr), PG (X.blk s H scope (compEnvC scope cl C X.env) fp) tg g)
    (ht : ∀ (s : Shared) (H : Hp) (C : Addr) (cl : List (Str × Addr)) (fp : List Addr), PTs (X.blk s H scope (compEnvC scope cl C X.env) fp) ifs tt)
    (he : ∀ (s : Shared) (H : Hp) (C : Addr) (cl : List (Str × Addr)) (fp : List Addr), Passes (L2.CX X.prog X.w) ((X.blk s H scope (compEnvC scope cl C X.env) fp).wish (xeB X (compEnvC scope cl C X.env))) E → PE ((X.blk s H scope (compEnvC scope cl C X.env) fp).wish (xeB X (compEnvC scope cl C X.env))) elt te) (hs : ∀ x, foldedSetIterable iter X.env x = pure x)
    (h : tLc wi g tt te (own.map (·.2)) σ H Q)
    (hRR : ∀ D C s' m H', Inv X pins σ H' s' → Q (.ref D) H' → s'.heap.Ns C m → FpOk X pins H' C → ∃ m, s'.heap.Ns C m ∧ ∀ h', Heap.SameBut C s'.heap h' → Qf (.ref D) { s' with heap := h' }) :
    wpAny (model X.prog X.w) X.A (comprehension (.ListComp elt [⟨tg, iter, ifs, 0⟩] scope pos) scope X.env pos' (newList []) false (eval iter X.env) none) Qf X.xe s := by
  have hfree : ∀ y ∈ scope.names, y.2 = .free → ∃ c, X.env.cells.lookup y.1 = some c := fun y hy e => by
    rcases ok.free y hy e with k | k
    · exact I.ok.has _ (.inl k)
    · exact I.ok.has _ (.inr k)
  refine comprehension_at (use := none) rfl hs (closure_ok hfree) ok.kind (fun y hy e => by rw [ok.uniq y hy, e])
    (thn (hi.run pins s σ H _ I h) fun xv s1 hx => thn hx fun itv s2 h2 => ?_)
  obtain ⟨it, fp, tn, J, H2, e, I2, T, st2, f2, q⟩ := h2
  subst e
  refine wpAny_newObj_type (newEnv_comp ?_) (by show 0 ≤ sizeLine; decide)
  generalize hD : s2.heap.objs.size = D
  have hDn : H2 D = none := I2.hok.fresh (Nat.le_of_eq hD)
  obtain ⟨W, ⟨m0, w0⟩, turn⟩ := q D hDn
  generalize hs3 : ({ s2 with heap := s2.heap.push { cls := .type "list", data := .seq ([] : List Value).toArray } } : Shared) = s3
  have I3 : Inv X pins σ (upd H2 D (.lst [])) s3 := by
    rw [← hs3]
    refine I2.laid (t' := s2.toks) (fun b o e => Heap.get?_push_of_some _ e) (Nat.le_of_eq hD) ⟨Nat.zero_le _, [], 0, .nil, ?_⟩
    rw [← hD]
    exact Heap.get?_push_size _ rfl
  have h3 : s3.heap = s2.heap.push { cls := .type "list", data := .seq ([] : List Value).toArray } := by rw [← hs3]
  have f3 : ∀ b ∈ fp, FpOk X pins (upd H2 D (.lst [])) b ∧ b < s3.heap.objs.size := fun b hb => by
    obtain ⟨o, e, _⟩ := T.obj _ _ st2 b hb
    have hlt := Heap.lt_size e
    refine ⟨⟨?_, (f2 b hb).2⟩, by rw [h3, Heap.size_push]; exact Nat.lt_succ_of_lt hlt⟩
    rw [upd_ne (by rw [← hD]; exact Nat.ne_of_lt hlt)]
    exact (f2 b hb).1
  have BB : BI X pins σ (upd H2 D (.lst [])) s3 fp := ⟨I3, f3⟩
  have st3 : tn 0 s3.heap := T.keep _ _ _ st2 fun b _ o e => by rw [h3]; exact Heap.get?_push_of_some _ e
  have I4 := block_start I3 ok hN f3
  have pg := hg s3 (upd H2 D (.lst [])) s3.heap.objs.size (cellsFrom (s3.heap.objs.size + 1) scope.names (cloFrom X.env.cells scope.names [])) fp
  have pt := ht s3 (upd H2 D (.lst [])) s3.heap.objs.size (cellsFrom (s3.heap.objs.size + 1) scope.names (cloFrom X.env.cells scope.names [])) fp
  have pe := he s3 (upd H2 D (.lst [])) s3.heap.objs.size (cellsFrom (s3.heap.objs.size + 1) scope.names (cloFrom X.env.cells scope.names [])) fp (passes_blk hst hfx tk BB (Nat.le_refl _))
  show codeAny _ _ (.compStart (.ListComp elt [⟨tg, iter, ifs, 0⟩] scope pos) 0 (.ref it) (.ref D) (compEnvC scope (cellsFrom (s3.heap.objs.size + 1) scope.names (cloFrom X.env.cells scope.names [])) s3.heap.objs.size X.env)) (compEnds (model X.prog X.w) X.A X.xe none Qf (.ref D) (compEnvC scope (cellsFrom (s3.heap.objs.size + 1) scope.names (cloFrom X.env.cells scope.names [])) s3.heap.objs.size X.env)) { s3 with heap := pushCells (s3.heap.push { cls := .type "dict", data := .dict #[] }) scope.names }
  have nfp : ∀ b ∈ fp, (upd H2 D (.lst [])) b = none := fun b hb => (f3 b hb).1.1
  generalize hce : compEnvC scope (cellsFrom (s3.heap.objs.size + 1) scope.names (cloFrom X.env.cells scope.names [])) s3.heap.objs.size X.env = ce at I4 pg pt pe ⊢
  have cL : ce.locals = s3.heap.objs.size := by subst hce; rfl
  generalize hH3 : upd H2 D (.lst []) = H3 at I3 I4 pg pt pe w0 nfp f3 BB
  generalize hs4 : ({ s3 with heap := pushCells (s3.heap.push { cls := .type "dict", data := .dict #[] }) scope.names } : Shared) = s4 at I4 ⊢
  have st4 : tn 0 s4.heap := T.keep _ _ _ st3 fun b _ o e => by rw [← hs4]; exact pushCells_keeps _ _ _ _ (Heap.get?_push_of_some _ e)
  have stat : ∀ {σ' : L2.St} {H' : Hp} {s' : Shared}, Inv (X.blk s3 H3 scope ce fp) [] σ' H' s' → (∀ b ∈ fp, H' b = none) → ∀ b ∈ fp, FpOk (X.blk s3 H3 scope ce fp) [] H' b := fun {σ' H' s'} I' hn b hb =>
    ⟨hn b hb, (I'.ok.exf b hb).1, I'.ok.exfs b hb, .inl hb, fun x c e => (I'.ok.exf b hb).2 x c e, fun p hp => absurd (show p ∈ ([] : List (Addr × Obj)) ++ [] from hp) (by simp)⟩
  have loop : codeAny (model X.prog X.w) X.A (.compLoop (.ListComp elt [⟨tg, iter, ifs, 0⟩] scope pos) 0 (.ref it) (.ref D) ce) (compEnds (model X.prog X.w) X.A X.xe none Qf (.ref D) ce) s4 := by
    refine compLoop_any (fun n s' => ∃ i H', Inv (X.blk s3 H3 scope ce fp) [] (wipe σ (own.map (·.2))) H' s' ∧ tn i s'.heap ∧ (∀ b ∈ fp, H' b = none) ∧ W i n H') ?_ m0 ⟨0, H3, I4, st4, nfp, w0⟩
    rintro n s5 ⟨i, H5, I5, st5, n5, w5⟩
    rcases turn i n H5 w5 with ⟨stop, qq⟩ | ⟨go, Nx, hNx, step⟩
    · have td := T.done (X.blk s3 H3 scope ce fp) rfl rfl rfl hc i [] s5 _ H5 (fun _ _ => False) I5 (stat I5 n5) st5 stop
      refine thnF td fun r s6 ⟨hr, I6⟩ => ?_
      subst hr
      have I7 : Inv X pins σ H5 s6 := BB.now I6
      have nC : H5 s3.heap.objs.size = none := by
        have z : H5 ce.locals = none := I6.free
        rw [cL] at z
        exact z
      obtain ⟨m, hn, _⟩ := I6.loc
      have hn : s6.heap.Ns ce.locals m := hn
      rw [cL] at hn
      show ∃ m, s6.heap.Ns ce.locals m ∧ _
      rw [cL]
      exact hRR D s3.heap.objs.size s6 m H5 I7 qq hn (I3.fpOk (Nat.le_refl _) nC)
    · have ti := T.item (X.blk s3 H3 scope ce fp) rfl rfl rfl hc i [] s5 _ H5 (fun _ _ => False) I5 (stat I5 n5) st5 go
      refine thnF ti fun r s6 ⟨u, hr, h6⟩ => ?_
      subst hr
      refine thnF h6 fun _ s7 ⟨x, H7, I7, r7, y7, st7, n7⟩ => ?_
      have I7' := I7.pinned (stat I7 n7) (T.obj _ _ st7)
      refine thnF (pg.run _ s7 _ H7 x u _ I7' r7 (step x H7 y7)) fun _ s8 ⟨σ8, H8, I8, hw8, q8⟩ => ?_
      refine thnF (pt.run _ s8 σ8 H8 _ I8 q8) fun b s9 ⟨H9, I9, q9⟩ => ?_
      have fin : ∀ {s' : Shared} {H' : Hp}, Inv (X.blk s3 H3 scope ce fp) ([] ++ pinsAt fp s7.heap) σ8 H' s' → Nx H' → ∃ m, m < n ∧ ∃ i H', Inv (X.blk s3 H3 scope ce fp) [] (wipe σ (own.map (·.2))) H' s' ∧ tn i s'.heap ∧ (∀ b ∈ fp, H' b = none) ∧ W i m H' := fun {s' H'} I' nx => by
        obtain ⟨m', hm, w'⟩ := hNx H' nx
        have pin' : ∀ b ∈ fp, ∀ o, s7.heap.get? b = some o → s'.heap.get? b = some o ∧ H' b = none := fun b hb o e =>
          let z := I'.pin (b, o) (List.mem_append_right _ (List.mem_append_right _ (mem_pinsAt hb e)))
          ⟨z.1, z.2.1⟩
        have hl : (wipe σ (own.map (·.2))).length = σ8.length := by rw [← hw8, wipe_length]
        refine ⟨m', hm, i + 1, H', (I'.unpinned (pins := [])).weak hl (fun j v e => ?_), T.keep _ _ _ st7 fun b hb o e => (pin' b hb o e).1, fun b hb => ?_, w'⟩
        · rw [← hw8] at e
          exact (wipe_some e).1
        · obtain ⟨o, e, _⟩ := T.obj _ _ st7 b hb
          exact (pin' b hb o e).2
      cases b with
      | false =>
        simp only [Bool.false_eq_true, if_false] at q9 ⊢
        exact fin I9 q9
      | true =>
        simp only [if_true] at q9 ⊢
        refine thn (pe.run _ s9 σ8 H9 _ (I9.wish _) q9) fun z s10 ⟨yv, H10, I10', r10, acc, hD10, hz10, nx⟩ => ?_
        have I10 := I10'.unwish
        exact app_ok (X := X.blk s3 H3 scope ce fp) I10 hD10 hz10 r10 fun s11 I11 => fin I11 nx
  exact codeAny_compStart_list loop (T.self X.A 0 _ _ _ st4 loop)
theorem pe_lcX {elt tg iter : Expr} {ifs : List Expr} {scope : Scope} {own : List (Str × Nat)} {pos : Pos} {wi : TI} {g : TG} {tt : TT} {te : TE} {E : XK} (hc : X.calm = true) (hst : X.stack = X.env :: X.outer) (hfx : X.env.frame = some X.env.locals) (tk : Takes X fun cls d _ H => E cls d H) (hN : X.N.Nodup) (hi : PI X tg iter wi) (ok : BlkOk X.N X.env.scope scope own)
    (hg : ∀ (s : Shared) (H : Hp) (C : Addr) (cl : List (Str × Addr)) (fp : List Addr), PG (X.blk s H scope (compEnvC scope cl C X.env) fp) tg g)
    (ht : ∀ (s : Shared) (H : Hp) (C : Addr) (cl : List (Str × Addr)) (fp : List Addr), PTs (X.blk s H scope (compEnvC scope cl C X.env) fp) ifs tt)
    (he : ∀ (s : Shared) (H : Hp) (C : Addr) (cl : List (Str × Addr)) (fp : List Addr), Passes (L2.CX X.prog X.w) ((X.blk s H scope (compEnvC scope cl C X.env) fp).wish (xeB X (compEnvC scope cl C X.env))) E → PE ((X.blk s H scope (compEnvC scope cl C X.env) fp).wish (xeB X (compEnvC scope cl C X.env))) elt te) (hs : ∀ x, foldedSetIterable iter X.env x = pure x := by intro _; rfl) :
    PE X (.ListComp elt [⟨tg, iter, ifs, 0⟩] scope pos) (tLc wi g tt te (own.map (·.2))) := by
  refine ⟨fun pins s σ H Q I h => ?_⟩
  rw [eval_ListComp]
  refine lcX_core hc hst hfx tk hN I hi ok hg ht he hs h fun D C s' m H' I' q hn f => ⟨m, hn, fun h'' sb => ?_⟩
  obtain ⟨f0, f1, f2, f3, f4, f5⟩ := f
  exact ⟨.ref D, H', I'.turned (t' := s'.toks) (fun b o hb e => (sb.2 b hb).trans e) f0 f1 f3 f4 f5, rfl, q⟩
end
end MF
set_option Elab.async false
set_option linter.all false
set_option maxRecDepth 100000
set_option maxHeartbeats 1000000
namespace MF
open PySem PySem.Spec PyProof.Rows L2 StX
theorem IDef.fnX {P : Program} {w : World} {K : PySem.W.Frag} {mg : Str → Option Value} {base : Heap} {k : Nat} {C : Addr} {x qual : Str} {st : Stmt} {ps N : List Str} {sp : Sp} (D : IDef K mg C x qual st ps) (S : FnScope N ps (defScope st)) (len : ∀ vs H Q E, sp vs H Q E → vs.length = ps.length)
    (hbody : ∀ (f : Addr) (cdv : Value) (A : Around) (outer : List Env) (s : Shared) (H : Hp) (vs : List V) (Q : VK) (E : XK), Room k (A.deeper (envOfC qual (defScope st) s.heap.objs.size f cdv)) → sp vs H Q E →
      ∃ t, PSs (cxOf (L2.CX P w) P w K mg base N qual (defScope st) f cdv A outer s H E) (defBody st) t ∧ t { nx := fun _ H' => Q .non H', rt := Q } (start N vs) H) : IFn P w K mg base (L2.CX P w) (k + 1) C x sp :=
  D.fn fun f fd F => by
    obtain ⟨oc, od, kV, doc, pm, an, cdv, ct, osl, rfl, lk, hcd⟩ := F.ex
    exact fn_of lk hcd S len fun A outer s H vs Q E hr hsp => hbody f cdv A outer s H vs Q E hr hsp
theorem call_len_seqK {X : Cx} {K : PySem.W.Frag} (h : X.K = K := by rfl) : CallR X (.builtin "len") (fun xs H Q => ∃ p ys, xs = [.ref p] ∧ (SqL K H p ys ∨ SqT K H p ys) ∧ Q (.int ys.length) H) := h ▸ call_len_seq
theorem bind_star3 {B : List Value → Sem (List (Str × Value))} {p1 p2 p3 pv : Str} (h0 : ∀ a b c, B [a, b, c] = (newTuple [] >>= fun t => pure [(p1, a), (p2, b), (p3, c), (pv, t)])) (h1 : ∀ a b c r rs, B (a :: b :: c :: r :: rs) = (newTuple (r :: rs) >>= fun t => pure [(p1, a), (p2, b), (p3, c), (pv, t)])) :
    ∀ us rest : List Value, us.length = [p1, p2, p3].length → B (us ++ rest) = (newTuple rest >>= fun t => pure ([p1, p2, p3].zip us ++ [(pv, t)])) := by
  intro us rest hl
  match us, hl with
  | [a, b, c], _ =>
    cases rest with
    | nil => exact h0 a b c
    | cons r rs => exact h1 a b c r rs
theorem pe_mkSN {X : Cx} {CX : CXT} {k i : Nat} {C : Addr} {x y : Str} {sp : Sp} {E : XK} {e : Expr} {es : List Expr} {t : TA} {p pos : Pos} (G : IFn X.prog X.w X.K X.mg X.base CX k C y sp) (hr : Room (k + 1) X.A) (hx : Passes CX X E) (hN : X.N[i]? = some x) (hv : Vis X.env.scope x) (ha : PA X (e :: es) t)
    (hdb : (x == ("__debug__" : Str)) = false := by decide) (hcd : (x == ("__classdict__" : Str)) = false := by decide)
    (he : starEach (e :: es) X.env = (false, eval e X.env) :: starEach es X.env := by rfl) (hpl : (backTo pos (starEach es X.env)).any (·.1) = false := by rfl) : PE X (.Call (.Name x p) (e :: es) [] pos) (tMkL i C sp E t) := by
  obtain ⟨f, F, M, hm⟩ := G.ex
  refine ⟨fun pins s σ H Q I h => ?_⟩
  obtain ⟨hs, ht⟩ := h
  refine wpAny_Call_Name_kw (thn ((pe_var (pos := p) hN hv hdb hcd).run pins s σ H (fun v H1 => v = .ref C ∧ H1 = H) I ⟨.ref C, hs, rfl, rfl⟩) fun u s1 ⟨v, H1, I1, r1, q1⟩ => ?_)
  obtain ⟨rfl, rfl⟩ := q1
  cases r1
  refine PySem.W.callWith_K (h₀ := X.base) I.ok.mod.kin M.kp (thn (ha.run pos pins s1 σ _ _ I1 ht) fun us s2 ⟨vs, H2, I2, r, q⟩ => ⟨I2.kIn, ?_⟩) he hpl
  exact run_makeR M F hr hx I2 r q
end MF
set_option Elab.async false
set_option linter.all false
set_option maxRecDepth 100000
set_option maxHeartbeats 2000000
namespace MF
open PySem
def codes (z : Str) : List Int := z.cps.toList.map fun (c : Nat) => (c : Int) - 97
def letC (i : Int) : Str := ⟨#[97 + i.toNat]⟩
def numG (n : Nat) : List Int := if h : n < 128 then [(n : Int)] else (128 + (n % 128 : Nat) : Int) :: numG (n / 128)
termination_by n
decreasing_by omega
def addrG (z : Str) : List Int := (z.length : Int) :: codes z
def ordG (o : Ordr) : List Int := addrG o.src ++ addrG o.tgt ++ (numG o.first.toNat ++ numG (o.last - o.first).toNat ++ [o.way])
def chkG (vs : List Int) : Int := vs.foldl (fun r v => (r * 2 + v) % 241) 9
def bodyG (os : List Ordr) : List Int := 77 :: (os.length : Int) :: os.flatMap ordG
def encG (os : List Ordr) : List Int := bodyG os ++ [chkG (bodyG os)]
def byteF (vs : List Int) (k : Nat) (lo hi : Int) : Except Nat (Int × Nat) := match vs[k]? with
  | some v => if lo ≤ v ∧ v ≤ hi then .ok (v, k + 1) else .error k
  | none => .error k
def charsF (vs : List Int) : Nat → Nat → Str → Except Nat (Str × Nat)
  | 0, k, z => .ok (z, k)
  | n + 1, k, z => match byteF vs k 0 25 with
    | .error e => Except.error e
    | .ok (c, k') => charsF vs n k' (z ++ letC c)
def addrF (vs : List Int) (k : Nat) : Except Nat (Str × Nat) := match byteF vs k 1 8 with
  | .error e => Except.error e
  | .ok (n, k') => charsF vs n.toNat k' ""
def numL (vs : List Int) (high : Int) (start : Nat) : Nat → Nat → Int → Int → Except Nat (Int × Nat)
  | 0, k, _, _ => .error k
  | f + 1, k, num, fac => match byteF vs k 0 255 with
    | .error e => Except.error e
    | .ok (v, k') => if v = 0 ∧ 1 < fac then .error k else if 128 ≤ v then numL vs high start f k' (num + v % 128 * fac) (fac * 128) else if high < num + v % 128 * fac then Except.error start else Except.ok (num + v % 128 * fac, k')
def numF (vs : List Int) (k : Nat) (high : Int) : Except Nat (Int × Nat) := numL vs high k (vs.length + 1) k 0 1
def ordF (vs : List Int) (os : List Ordr) (k : Nat) : Except Nat (Ordr × Nat) := match addrF vs k with
  | .error e => Except.error e
  | .ok (s, k1) => match addrF vs k1 with
    | .error e => Except.error e
    | .ok (t, k2) => if s = t then .error k1 else match numF vs k2 1000000000000000000 with
      | .error e => Except.error e
      | .ok (fi, k3) => match numF vs k3 (1000000000000000000 - fi) with
        | .error e => Except.error e
        | .ok (du, k4) => match byteF vs k4 1 30 with
          | .error e => Except.error e
          | .ok (w, k5) => if (os.any fun p => overB p ⟨s, t, fi, fi + du, w⟩) = true then .error k else .ok (⟨s, t, fi, fi + du, w⟩, k5)
def ordsF (vs : List Int) : Nat → List Ordr → Nat → Except Nat (List Ordr × Nat)
  | 0, os, k => .ok (os, k)
  | n + 1, os, k => match ordF vs os k with
    | .error e => Except.error e
    | .ok (o, k') => ordsF vs n (os ++ [o]) k'
def endF (vs : List Int) (os : List Ordr) (k : Nat) : Except Nat (List Ordr) := match byteF vs k (chkG (vs.take k)) (chkG (vs.take k)) with
  | .error e => Except.error e
  | .ok (_, k') => if k' < vs.length then .error k' else .ok os
def decF (vs : List Int) : Except Nat (List Ordr) := match byteF vs 0 77 77 with
  | .error e => Except.error e
  | .ok (_, k) => match byteF vs k 0 30 with
    | .error e => Except.error e
    | .ok (n, k1) => match ordsF vs n.toNat [] k1 with
      | .error e => Except.error e
      | .ok (os, k2) => endF vs os k2
abbrev In8 (vs : List Int) : Prop := ∀ v ∈ vs, 0 ≤ v ∧ v < 256
theorem In8.app {as bs : List Int} (h : In8 as) (h' : In8 bs) : In8 (as ++ bs) := fun v hv => (List.mem_append.mp hv).elim (h v) (h' v)
theorem numG_lt {n : Nat} (h : n < 128) : numG n = [(n : Int)] := by unfold numG; rw [dif_pos h]
theorem numG_ge {n : Nat} (h : ¬ n < 128) : numG n = (128 + (n % 128 : Nat) : Int) :: numG (n / 128) := by rw [numG]; rw [dif_neg h]
theorem numG_in (n : Nat) : In8 (numG n) := by
  induction n using Nat.strongRecOn with
  | ind n ih =>
    by_cases h : n < 128
    · rw [numG_lt h]
      intro v hv
      rw [List.mem_singleton.mp hv]
      omega
    · rw [numG_ge h]
      intro v hv
      rcases List.mem_cons.mp hv with rfl | hv
      · omega
      · exact ih (n / 128) (by omega) v hv
theorem numG_len (k : Nat) : ∀ n, n < 128 ^ (k + 1) → (numG n).length ≤ k + 1 := by
  induction k with
  | zero => intro n h; rw [numG_lt (by omega)]; exact Nat.le_refl _
  | succ k ih =>
    intro n h
    by_cases c : n < 128
    · rw [numG_lt c]; show 1 ≤ _; omega
    · rw [numG_ge c]
      have := ih (n / 128) (by rw [Nat.div_lt_iff_lt_mul (by decide)]; rw [Nat.pow_succ] at h; exact h)
      simp only [List.length_cons]
      omega
theorem addr_facts {z : Str} (h : isAddrB (.str z) = true) : 1 ≤ z.length ∧ z.length ≤ 8 ∧ ∀ c ∈ z.cps.toList, 97 ≤ c ∧ c ≤ 122 := by
  unfold isAddrB at h
  simp only [Bool.and_eq_true, decide_eq_true_eq, List.all_eq_true] at h
  refine ⟨h.1.1, h.1.2, fun c hc => ?_⟩
  have := h.2 c hc
  have e : letters.cps.toList = [97,98,99,100,101,102,103,104,105,106,107,108,109,110,111,112,113,114,115,116,117,118,119,120,121,122] := by decide +kernel
  rw [e] at this
  simp only [List.mem_cons, List.not_mem_nil, or_false] at this
  omega
theorem codes_len (z : Str) : (codes z).length = z.length := by unfold codes Str.length; simp
theorem codes_in {z : Str} (h : isAddrB (.str z) = true) : ∀ v ∈ codes z, 0 ≤ v ∧ v ≤ 25 := by
  intro v hv
  obtain ⟨c, hc, rfl⟩ := List.mem_map.mp hv
  have := (addr_facts h).2.2 c hc
  omega
theorem addrG_in {z : Str} (h : isAddrB (.str z) = true) : In8 (addrG z) := by
  intro v hv
  have := addr_facts h
  rcases List.mem_cons.mp hv with rfl | hv
  · omega
  · have := codes_in h v hv
    omega
theorem ordG_in {o : Ordr} (h : o.Ok) : In8 (ordG o) := by
  unfold ordG
  refine ((addrG_in h.as).app (addrG_in h.at_)).app (((numG_in _).app (numG_in _)).app fun v hv => ?_)
  rw [List.mem_singleton.mp hv]
  have := h.w1
  have := h.w30
  omega
theorem chkF_in : ∀ (vs : List Int) (r : Int), 0 ≤ r ∧ r < 241 → 0 ≤ vs.foldl (fun r v => (r * 2 + v) % 241) r ∧ vs.foldl (fun r v => (r * 2 + v) % 241) r < 241
  | [], r, h => h
  | v :: vs, r, _ => chkF_in vs _ ⟨Int.emod_nonneg _ (by decide), Int.emod_lt_of_pos _ (by decide)⟩
theorem chkG_in (vs : List Int) : 0 ≤ chkG vs ∧ chkG vs < 241 := chkF_in vs 9 ⟨by decide, by decide⟩
theorem bodyG_in {os : List Ordr} (g : Good os) : In8 (bodyG os) := by
  intro v hv
  have := g.len
  rcases List.mem_cons.mp hv with rfl | hv
  · omega
  rcases List.mem_cons.mp hv with rfl | hv
  · omega
  obtain ⟨o, ho, h⟩ := List.mem_flatMap.mp hv
  exact ordG_in (g.ok o ho) v h
theorem encG_in {os : List Ordr} (g : Good os) : In8 (encG os) := (bodyG_in g).app fun v hv => by
  rw [List.mem_singleton.mp hv]
  have := chkG_in (bodyG os)
  omega
theorem ordG_len {o : Ordr} (h : o.Ok) : (ordG o).length ≤ 37 := by
  have a1 := addr_facts h.as
  have a2 := addr_facts h.at_
  have := h.f0
  have := h.fl
  have := h.lm
  have n1 := numG_len 8 o.first.toNat (by have : (128 : Nat) ^ 9 = 9223372036854775808 := by decide
                                          omega)
  have n2 := numG_len 8 (o.last - o.first).toNat (by have : (128 : Nat) ^ 9 = 9223372036854775808 := by decide
                                                     omega)
  unfold ordG addrG
  simp only [List.length_append, List.length_cons, List.length_nil, codes_len]
  omega
theorem ords_len {os : List Ordr} (h : ∀ o ∈ os, o.Ok) : (os.flatMap ordG).length ≤ 37 * os.length := by
  induction os with
  | nil => exact Nat.le_refl _
  | cons o os ih =>
    rw [List.flatMap_cons, List.length_append, List.length_cons]
    have := ih fun p hp => h p (List.mem_cons_of_mem _ hp)
    have := ordG_len (h o List.mem_cons_self)
    omega
theorem encG_len {os : List Ordr} (g : Good os) : (encG os).length ≤ 1200 := by
  have := ords_len g.ok
  have := g.len
  unfold encG bodyG
  simp only [List.length_append, List.length_cons, List.length_nil]
  omega
theorem encG_sum {as bs : List Ordr} : (encG (as ++ bs)).length + 3 = (encG as).length + (encG bs).length := by
  unfold encG bodyG
  simp only [List.length_append, List.length_cons, List.length_nil, List.flatMap_append]
  omega
theorem byte_here {pre post : List Int} {v lo hi : Int} (h0 : lo ≤ v) (h1 : v ≤ hi) : byteF (pre ++ v :: post) pre.length lo hi = .ok (v, (pre ++ [v]).length) := by
  unfold byteF
  rw [List.getElem?_append_right (Nat.le_refl _), Nat.sub_self, List.getElem?_cons_zero]
  show (if lo ≤ v ∧ v ≤ hi then _ else _) = _
  rw [if_pos ⟨h0, h1⟩, List.length_append]
  rfl
theorem str_app (a b : Str) : (a ++ b).cps = a.cps ++ b.cps := rfl
theorem letC_of {c : Nat} (h : 97 ≤ c) : letC ((c : Int) - 97) = ⟨#[c]⟩ := by
  unfold letC
  rw [show 97 + ((c : Int) - 97).toNat = c by omega]
theorem chars_back : ∀ (cs : List Nat) (pre post : List Int) (z : Str), (∀ c ∈ cs, 97 ≤ c ∧ c ≤ 122) →
    charsF (pre ++ (cs.map (fun (c : Nat) => (c : Int) - 97) ++ post)) cs.length pre.length z = .ok (⟨z.cps ++ cs.toArray⟩, (pre ++ cs.map (fun (c : Nat) => (c : Int) - 97)).length)
  | [], pre, post, z, _ => by
    show Except.ok (z, pre.length) = _
    simp
  | c :: cs, pre, post, z, h => by
    have hc := h c List.mem_cons_self
    show (match byteF (pre ++ ((c : Int) - 97) :: (cs.map (fun (c : Nat) => (c : Int) - 97) ++ post)) pre.length 0 25 with
      | .error e => Except.error e
      | .ok (c', k') => charsF (pre ++ ((c : Int) - 97) :: (cs.map (fun (c : Nat) => (c : Int) - 97) ++ post)) cs.length k' (z ++ letC c')) = _
    rw [byte_here (by omega) (by omega)]
    show charsF (pre ++ ((c : Int) - 97) :: (cs.map (fun (c : Nat) => (c : Int) - 97) ++ post)) cs.length (pre ++ [(c : Int) - 97]).length (z ++ letC ((c : Int) - 97)) = _
    have ih := chars_back cs (pre ++ [(c : Int) - 97]) post (z ++ letC ((c : Int) - 97)) fun d hd => h d (List.mem_cons_of_mem _ hd)
    rw [List.append_assoc] at ih
    rw [show pre ++ ((c : Int) - 97) :: (cs.map (fun (c : Nat) => (c : Int) - 97) ++ post) = pre ++ ([(c : Int) - 97] ++ (cs.map (fun (c : Nat) => (c : Int) - 97) ++ post)) from rfl, ih]
    rw [letC_of hc.1, str_app]
    congr 1
    refine Prod.ext ?_ ?_
    · simp
    · simp
theorem addr_back {z : Str} (h : isAddrB (.str z) = true) (pre post : List Int) : addrF (pre ++ (addrG z ++ post)) pre.length = .ok (z, (pre ++ addrG z).length) := by
  have hz := addr_facts h
  unfold addrF
  show (match byteF (pre ++ (z.length : Int) :: (codes z ++ post)) pre.length 1 8 with
    | .error e => Except.error e
    | .ok (n, k') => charsF (pre ++ (z.length : Int) :: (codes z ++ post)) n.toNat k' "") = _
  rw [byte_here (by omega) (by omega)]
  show charsF (pre ++ (z.length : Int) :: (codes z ++ post)) ((z.length : Int)).toNat (pre ++ [(z.length : Int)]).length "" = _
  have := chars_back z.cps.toList (pre ++ [(z.length : Int)]) post "" hz.2.2
  rw [List.append_assoc] at this
  rw [show pre ++ (z.length : Int) :: (codes z ++ post) = pre ++ ([(z.length : Int)] ++ (z.cps.toList.map (fun (c : Nat) => (c : Int) - 97) ++ post)) from rfl, show ((z.length : Int)).toNat = z.cps.toList.length by simp [Str.length], this]
  congr 1
  refine Prod.ext ?_ ?_
  · show (⟨("" : Str).cps ++ z.cps.toList.toArray⟩ : Str) = z
    have e : ("" : Str).cps = #[] := by decide +kernel
    rw [e]
    simp
  · simp [addrG, codes]
theorem num_back (high : Int) (start : Nat) : ∀ (n : Nat) (pre post : List Int) (num fac : Int) (f : Nat), 1 ≤ fac → 0 ≤ num → (fac = 1 ∨ 1 ≤ n) → (numG n).length ≤ f → num + n * fac ≤ high →
    numL (pre ++ (numG n ++ post)) high start f pre.length num fac = .ok (num + n * fac, (pre ++ numG n).length) := by
  intro n
  induction n using Nat.strongRecOn with
  | ind n ih =>
    intro pre post num fac f h1 h2 h3 h4 h5
    by_cases c : n < 128
    · rw [numG_lt c] at h4 ⊢
      cases f with
      | zero => simp at h4
      | succ f =>
        show (match byteF (pre ++ (n : Int) :: post) pre.length 0 255 with
          | .error e => Except.error e
          | .ok (v, k') => if v = 0 ∧ 1 < fac then Except.error pre.length else if 128 ≤ v then numL (pre ++ (n : Int) :: post) high start f k' (num + v % 128 * fac) (fac * 128) else if high < num + v % 128 * fac then Except.error start else Except.ok (num + v % 128 * fac, k')) = _
        rw [byte_here (by omega) (by omega)]
        show (if (n : Int) = 0 ∧ 1 < fac then _ else if 128 ≤ (n : Int) then _ else if high < num + (n : Int) % 128 * fac then _ else _) = _
        have e : (n : Int) % 128 = n := by omega
        rw [if_neg (by rintro ⟨a, b⟩; omega), if_neg (by omega), e, if_neg (by omega)]
    · rw [numG_ge c] at h4 ⊢
      cases f with
      | zero => simp at h4
      | succ f =>
        show (match byteF (pre ++ (128 + (n % 128 : Nat) : Int) :: (numG (n / 128) ++ post)) pre.length 0 255 with
          | .error e => Except.error e
          | .ok (v, k') => if v = 0 ∧ 1 < fac then Except.error pre.length else if 128 ≤ v then numL (pre ++ (128 + (n % 128 : Nat) : Int) :: (numG (n / 128) ++ post)) high start f k' (num + v % 128 * fac) (fac * 128) else if high < num + v % 128 * fac then Except.error start else Except.ok (num + v % 128 * fac, k')) = _
        rw [byte_here (by omega) (by omega)]
        show (if (128 + (n % 128 : Nat) : Int) = 0 ∧ 1 < fac then _ else if 128 ≤ (128 + (n % 128 : Nat) : Int) then numL (pre ++ (128 + (n % 128 : Nat) : Int) :: (numG (n / 128) ++ post)) high start f (pre ++ [(128 + (n % 128 : Nat) : Int)]).length (num + (128 + (n % 128 : Nat) : Int) % 128 * fac) (fac * 128) else _) = _
        rw [if_neg (by rintro ⟨a, b⟩; omega), if_pos (by omega)]
        have e : (128 + (n % 128 : Nat) : Int) % 128 = ((n % 128 : Nat) : Int) := by omega
        have e2 : num + ((n % 128 : Nat) : Int) * fac + ((n / 128 : Nat) : Int) * (fac * 128) = num + (n : Int) * fac := by
          have e3 : (n : Int) = ((n % 128 : Nat) : Int) + ((n / 128 : Nat) : Int) * 128 := by omega
          conv => rhs; rw [e3]
          rw [Int.add_mul, Int.mul_assoc, Int.mul_comm 128 fac, Int.add_assoc]
        have r := ih (n / 128) (by omega) (pre ++ [(128 + (n % 128 : Nat) : Int)]) post (num + ((n % 128 : Nat) : Int) * fac) (fac * 128) f (by omega) (by
            have : 0 ≤ ((n % 128 : Nat) : Int) * fac := Int.mul_nonneg (by omega) (by omega)
            omega) (.inr (by omega)) (by simp only [List.length_cons] at h4; omega) (by rw [e2]; exact h5)
        rw [List.append_assoc] at r
        rw [e, show pre ++ (128 + (n % 128 : Nat) : Int) :: (numG (n / 128) ++ post) = pre ++ ([(128 + (n % 128 : Nat) : Int)] ++ (numG (n / 128) ++ post)) from rfl, r, e2]
        congr 1
        refine Prod.ext rfl ?_
        simp
theorem numF_back {n : Nat} {high : Int} (h : (n : Int) ≤ high) (pre post : List Int) : numF (pre ++ (numG n ++ post)) pre.length high = .ok ((n : Int), (pre ++ numG n).length) := by
  unfold numF
  rw [num_back high pre.length n pre post 0 1 _ (Int.le_refl _) (Int.le_refl _) (.inl rfl) (by simp only [List.length_append]; omega) (by omega)]
  rw [Int.mul_one, Int.zero_add]
theorem ord_back {o : Ordr} (h : o.Ok) {os : List Ordr} (ov : ∀ p ∈ os, overB p o = false) (pre post : List Int) : ordF (pre ++ (ordG o ++ post)) os pre.length = .ok (o, (pre ++ ordG o).length) := by
  have e0 : pre ++ (ordG o ++ post) = pre ++ (addrG o.src ++ (addrG o.tgt ++ (numG o.first.toNat ++ (numG (o.last - o.first).toNat ++ (o.way :: post))))) := by
    unfold ordG
    simp only [List.append_assoc, List.cons_append, List.nil_append]
  have r1 := addr_back h.as pre (addrG o.tgt ++ (numG o.first.toNat ++ (numG (o.last - o.first).toNat ++ (o.way :: post))))
  have r2 := addr_back h.at_ (pre ++ addrG o.src) (numG o.first.toNat ++ (numG (o.last - o.first).toNat ++ (o.way :: post)))
  have f0 := h.f0
  have fl := h.fl
  have lm := h.lm
  have r3 := numF_back (n := o.first.toNat) (high := 1000000000000000000) (by omega) (pre ++ addrG o.src ++ addrG o.tgt) (numG (o.last - o.first).toNat ++ (o.way :: post))
  have r4 := numF_back (n := (o.last - o.first).toNat) (high := 1000000000000000000 - o.first) (by omega) (pre ++ addrG o.src ++ addrG o.tgt ++ numG o.first.toNat) (o.way :: post)
  have r5 := byte_here (pre := pre ++ addrG o.src ++ addrG o.tgt ++ numG o.first.toNat ++ numG (o.last - o.first).toNat) (post := post) h.w1 h.w30
  simp only [List.append_assoc] at r2 r3 r4 r5
  have c1 : ((o.first.toNat : Nat) : Int) = o.first := by omega
  have c2 : (((o.last - o.first).toNat : Nat) : Int) = o.last - o.first := by omega
  rw [c1] at r3
  rw [c2] at r4
  rw [e0]
  unfold ordF
  rw [r1]
  simp only [List.append_assoc]
  rw [r2]
  simp only []
  rw [if_neg h.ne, r3]
  simp only []
  rw [r4]
  simp only []
  rw [r5]
  simp only []
  have eo : (⟨o.src, o.tgt, o.first, o.first + (o.last - o.first), o.way⟩ : Ordr) = o := by
    rw [show o.first + (o.last - o.first) = o.last by omega]
  rw [eo, if_neg]
  · unfold ordG
    simp only [List.append_assoc]
  · intro z
    obtain ⟨p, hp, e⟩ := List.any_eq_true.mp z
    rw [ov p hp] at e
    cases e
theorem ords_back : ∀ (os ps : List Ordr) (pre post : List Int), (∀ o ∈ os, o.Ok) → (ps ++ os).Pairwise (fun o p => overB o p = false) →
    ordsF (pre ++ (os.flatMap ordG ++ post)) os.length ps pre.length = .ok (ps ++ os, (pre ++ os.flatMap ordG).length)
  | [], ps, pre, post, _, _ => by simp [ordsF]
  | o :: os, ps, pre, post, h, pw => by
    have ov : ∀ p ∈ ps, overB p o = false := fun p hp => (List.pairwise_append.mp pw).2.2 p hp o List.mem_cons_self
    have r := ord_back (h o List.mem_cons_self) ov pre (os.flatMap ordG ++ post)
    have ih := ords_back os (ps ++ [o]) (pre ++ ordG o) post (fun p hp => h p (List.mem_cons_of_mem _ hp)) (by simpa using pw)
    rw [List.append_assoc] at ih
    rw [List.flatMap_cons, List.append_assoc, List.length_cons]
    unfold ordsF
    rw [r]
    simp only []
    rw [ih]
    simp
theorem dec_enc {os : List Ordr} (g : Good os) : decF (encG os) = .ok os := by
  have h30 := g.len
  have e : encG os = 77 :: (os.length : Int) :: (os.flatMap ordG ++ [chkG (bodyG os)]) := by
    unfold encG bodyG
    rfl
  have r1 := byte_here (pre := []) (post := (os.length : Int) :: (os.flatMap ordG ++ [chkG (bodyG os)])) (v := 77) (lo := 77) (hi := 77) (by decide) (by decide)
  have r2 := byte_here (pre := [77]) (post := os.flatMap ordG ++ [chkG (bodyG os)]) (v := (os.length : Int)) (lo := 0) (hi := 30) (by omega) (by omega)
  have r3 := ords_back os [] [77, (os.length : Int)] [chkG (bodyG os)] g.ok g.apart
  have r4 := byte_here (pre := bodyG os) (post := []) (v := chkG (bodyG os)) (Int.le_refl _) (Int.le_refl _)
  rw [e]
  unfold decF
  rw [show (77 :: (os.length : Int) :: (os.flatMap ordG ++ [chkG (bodyG os)])) = [] ++ 77 :: ((os.length : Int) :: (os.flatMap ordG ++ [chkG (bodyG os)])) from rfl]
  rw [show (0 : Nat) = ([] : List Int).length from rfl, r1]
  simp only []
  rw [show [] ++ 77 :: ((os.length : Int) :: (os.flatMap ordG ++ [chkG (bodyG os)])) = [77] ++ (os.length : Int) :: (os.flatMap ordG ++ [chkG (bodyG os)]) from rfl, show (([] : List Int) ++ [(77 : Int)]).length = ([77] : List Int).length from rfl, r2]
  simp only []
  rw [show [77] ++ (os.length : Int) :: (os.flatMap ordG ++ [chkG (bodyG os)]) = [77, (os.length : Int)] ++ (os.flatMap ordG ++ [chkG (bodyG os)]) from rfl, show (([77] : List Int) ++ [(os.length : Int)]).length = ([77, (os.length : Int)] : List Int).length from rfl, show ((os.length : Int)).toNat = os.length from rfl, r3]
  simp only [List.nil_append]
  rw [show [77, (os.length : Int)] ++ (os.flatMap ordG ++ [chkG (bodyG os)]) = bodyG os ++ [chkG (bodyG os)] from rfl, show ([77, (os.length : Int)] ++ os.flatMap ordG).length = (bodyG os).length from rfl]
  unfold endF
  rw [List.take_left, r4]
  simp
theorem byteF_ok {vs : List Int} {k : Nat} {lo hi v : Int} {k' : Nat} (h : byteF vs k lo hi = .ok (v, k')) : vs[k]? = some v ∧ lo ≤ v ∧ v ≤ hi ∧ k' = k + 1 := by
  unfold byteF at h
  cases e : vs[k]? with
  | none => rw [e] at h; cases h
  | some u =>
    rw [e] at h
    by_cases c : lo ≤ u ∧ u ≤ hi
    · simp only [if_pos c] at h
      cases h
      exact ⟨rfl, c.1, c.2, rfl⟩
    · simp only [if_neg c] at h
      cases h
def lettersOnly (z : Str) : Prop := ∀ c ∈ z.cps.toList, c ∈ letters.cps.toList
theorem letC_in : ∀ k : Fin 26, (97 + k.val) ∈ letters.cps.toList := by decide +kernel
theorem charsF_ok {vs : List Int} : ∀ (n k : Nat) (z z' : Str) (k' : Nat), charsF vs n k z = .ok (z', k') → lettersOnly z → lettersOnly z' ∧ z'.length = z.length + n
  | 0, k, z, z', k', h, hz => by
    cases h
    exact ⟨hz, rfl⟩
  | n + 1, k, z, z', k', h, hz => by
    have step : charsF vs (n + 1) k z = (match byteF vs k 0 25 with
      | .error e => Except.error e
      | .ok (c, k') => charsF vs n k' (z ++ letC c)) := rfl
    rw [step] at h
    cases eb : byteF vs k 0 25 with
    | error e => rw [eb] at h; cases h
    | ok x =>
      obtain ⟨c, k2⟩ := x
      rw [eb] at h
      obtain ⟨_, c0, c25, _⟩ := byteF_ok eb
      obtain ⟨q, rfl⟩ := Int.eq_ofNat_of_zero_le c0
      have hl := letC_in ⟨q, by omega⟩
      obtain ⟨h1, h2⟩ := charsF_ok n k2 _ z' k' h fun d hd => by
        rw [str_app] at hd
        rw [Array.toList_append] at hd
        rcases List.mem_append.mp hd with w | w
        · exact hz d w
        · have : d = 97 + q := by
            have : d ∈ [97 + ((q : Nat) : Int).toNat] := w
            simpa using this
          rw [this]
          exact hl
      refine ⟨h1, ?_⟩
      rw [h2]
      show (z.cps ++ (letC (q : Nat)).cps).size + n = z.cps.size + (n + 1)
      rw [Array.size_append]
      show z.cps.size + 1 + n = _
      omega
theorem addrF_ok {vs : List Int} {k k' : Nat} {z : Str} (h : addrF vs k = .ok (z, k')) : isAddrB (.str z) = true := by
  unfold addrF at h
  cases eb : byteF vs k 1 8 with
  | error e => rw [eb] at h; cases h
  | ok x =>
    obtain ⟨n, k2⟩ := x
    rw [eb] at h
    obtain ⟨_, n1, n8, _⟩ := byteF_ok eb
    obtain ⟨h1, h2⟩ := charsF_ok _ _ _ _ _ h (fun c hc => by
      have e : ("" : Str).cps.toList = [] := by decide +kernel
      rw [e] at hc
      cases hc)
    have e0 : ("" : Str).length = 0 := by decide +kernel
    rw [e0] at h2
    unfold isAddrB
    simp only [Bool.and_eq_true, decide_eq_true_eq, List.all_eq_true]
    exact ⟨⟨by omega, by omega⟩, h1⟩
theorem numL_ok {vs : List Int} {high : Int} {start : Nat} : ∀ (f k : Nat) (num fac v : Int) (k' : Nat), numL vs high start f k num fac = .ok (v, k') → 0 ≤ num → 1 ≤ fac → 0 ≤ v ∧ v ≤ high
  | 0, k, num, fac, v, k', h, _, _ => by cases h
  | f + 1, k, num, fac, v, k', h, hn, hf => by
    have step : numL vs high start (f + 1) k num fac = (match byteF vs k 0 255 with
      | .error e => Except.error e
      | .ok (v, k') => if v = 0 ∧ 1 < fac then Except.error k else if 128 ≤ v then numL vs high start f k' (num + v % 128 * fac) (fac * 128) else if high < num + v % 128 * fac then Except.error start else Except.ok (num + v % 128 * fac, k')) := rfl
    rw [step] at h
    cases eb : byteF vs k 0 255 with
    | error e => rw [eb] at h; cases h
    | ok x =>
      obtain ⟨c, k2⟩ := x
      rw [eb] at h
      simp only [] at h
      have hp : 0 ≤ c % 128 * fac := Int.mul_nonneg (Int.emod_nonneg _ (by decide)) (by omega)
      by_cases c1 : c = 0 ∧ 1 < fac
      · rw [if_pos c1] at h; cases h
      rw [if_neg c1] at h
      by_cases c2 : 128 ≤ c
      · rw [if_pos c2] at h
        exact numL_ok f k2 _ _ v k' h (by omega) (by omega)
      rw [if_neg c2] at h
      by_cases c3 : high < num + c % 128 * fac
      · rw [if_pos c3] at h; cases h
      rw [if_neg c3] at h
      cases h
      omega
theorem ordF_ok {vs : List Int} {os : List Ordr} {k k' : Nat} {o : Ordr} (h : ordF vs os k = .ok (o, k')) : o.Ok ∧ ∀ p ∈ os, overB p o = false := by
  unfold ordF at h
  cases ea : addrF vs k with
  | error e => rw [ea] at h; cases h
  | ok x =>
  obtain ⟨s, k1⟩ := x
  rw [ea] at h
  simp only [] at h
  cases eb : addrF vs k1 with
  | error e => rw [eb] at h; cases h
  | ok x =>
  obtain ⟨t, k2⟩ := x
  rw [eb] at h
  simp only [] at h
  by_cases c : s = t
  · rw [if_pos c] at h; cases h
  rw [if_neg c] at h
  cases ec : numF vs k2 1000000000000000000 with
  | error e => rw [ec] at h; cases h
  | ok x =>
  obtain ⟨fi, k3⟩ := x
  rw [ec] at h
  simp only [] at h
  cases ed : numF vs k3 (1000000000000000000 - fi) with
  | error e => rw [ed] at h; cases h
  | ok x =>
  obtain ⟨du, k4⟩ := x
  rw [ed] at h
  simp only [] at h
  cases ee : byteF vs k4 1 30 with
  | error e => rw [ee] at h; cases h
  | ok x =>
  obtain ⟨wy, k5⟩ := x
  rw [ee] at h
  simp only [] at h
  obtain ⟨_, w1, w30, _⟩ := byteF_ok ee
  obtain ⟨f0, f1⟩ := numL_ok _ _ _ _ _ _ ec (Int.le_refl _) (Int.le_refl _)
  obtain ⟨d0, d1⟩ := numL_ok _ _ _ _ _ _ ed (Int.le_refl _) (Int.le_refl _)
  by_cases cv : (os.any fun p => overB p ⟨s, t, fi, fi + du, wy⟩) = true
  · rw [if_pos cv] at h; cases h
  rw [if_neg cv] at h
  cases h
  refine ⟨⟨addrF_ok ea, addrF_ok eb, c, f0, by show fi ≤ fi + du; omega, by show fi + du ≤ _; omega, w1, w30⟩, fun p hp => ?_⟩
  cases z : overB p ⟨s, t, fi, fi + du, wy⟩ with
  | false => rfl
  | true => exact absurd (List.any_eq_true.mpr ⟨p, hp, z⟩) cv
structure OkO (os : List Ordr) : Prop where
  ok : ∀ o ∈ os, o.Ok
  apart : os.Pairwise fun o p => overB o p = false
theorem OkO.nil : OkO [] := ⟨(fun _ h => by cases h), .nil⟩
theorem OkO.snoc {os : List Ordr} {o : Ordr} (h : OkO os) (ok : o.Ok) (ov : ∀ p ∈ os, overB p o = false) : OkO (os ++ [o]) := by
  refine ⟨fun p hp => ?_, List.pairwise_append.mpr ⟨h.apart, by simp, fun p hp q hq => ?_⟩⟩
  · rcases List.mem_append.mp hp with z | z
    · exact h.ok p z
    · rw [List.mem_singleton.mp z]; exact ok
  · rw [List.mem_singleton.mp hq]
    exact ov p hp
theorem OkO.good {os : List Ordr} (h : OkO os) (hl : os.length ≤ 30) : Good os := ⟨hl, h.ok, h.apart⟩
end MF
set_option Elab.async false
set_option linter.all false
set_option maxRecDepth 100000
set_option maxHeartbeats 2000000
namespace MF
open PySem PySem.Spec PyProof.Rows L2
section
variable {X : Cx}
theorem ip_mult : PIp X .Mult (fun x y H Q => ∃ i j, x = .int i ∧ y = .int j ∧ CMul i j ∧ Q (.int (i * j)) H) := by
  intro pins s σ H x y v u Q I r1 r2 h
  obtain ⟨i, j, e1, e2, c, q⟩ := h
  subst e1; subst e2
  obtain ⟨t, rfl⟩ := r1
  obtain ⟨t', rfl⟩ := r2
  exact imul_int ⟨.int _, H, I.tok _, ⟨_, rfl⟩, q⟩ c.ok
theorem ip_floordiv : PIp X .FloorDiv (fun x y H Q => ∃ i j, x = .int i ∧ y = .int j ∧ CDiv i j ∧ Q (.int (i / j)) H) := by
  intro pins s σ H x y v u Q I r1 r2 h
  obtain ⟨i, j, e1, e2, c, q⟩ := h
  subst e1; subst e2
  obtain ⟨t, rfl⟩ := r1
  obtain ⟨t', rfl⟩ := r2
  have h1 : (0 : Int) < j := c.1
  have h2 : j < 1073741824 := c.2
  exact ifloordiv_int (by omega) (by rw [Int.fdiv_eq_ediv_of_nonneg i (by omega)]; exact ⟨.int _, H, I.tok _, ⟨_, rfl⟩, q⟩) (.inl (PyProof.noPylong_small (by omega)))
theorem mt_sindexC (X : Cx) : MtR X "str.index" (fun x xs H Q => ∃ (c : Nat), x = .str letters ∧ xs = [.str ⟨#[c]⟩] ∧ 97 ≤ c ∧ c ≤ 122 ∧ Q (.int ((c : Int) - 97)) H) := by
  intro pins s σ H x xs v us Q I rx rs h
  obtain ⟨c, e1, e2, h1, h2, q⟩ := h
  have key : ∀ k : Fin 26, (Builtin.Str.occurrences letters ⟨#[97 + k.val]⟩ 0 letters.length 1).head? = some k.val := by decide +kernel
  have hk := key ⟨c - 97, by omega⟩
  have e3 : 97 + (c - 97) = c := by omega
  simp only [e3] at hk
  obtain ⟨rest, hr⟩ : ∃ rest, Builtin.Str.occurrences letters ⟨#[c]⟩ 0 letters.length 1 = (c - 97) :: rest := by
    cases q : Builtin.Str.occurrences letters ⟨#[c]⟩ 0 letters.length 1 with
    | nil => rw [q] at hk; cases hk
    | cons a r => rw [q] at hk; cases hk; exact ⟨r, rfl⟩
  refine mt_sindex pins s σ H x xs v us Q I rx rs ⟨letters, ⟨#[c]⟩, c - 97, rest, e1, e2, hr, ?_⟩
  rw [show ((c - 97 : Nat) : Int) = (c : Int) - 97 by omega]
  exact q
end
theorem bi_arr {ns : List Int} (h : In8 ns) : bi (byteArr ns) = ns := by
  unfold bi PySem.W.KBw.bInts byteArr
  rw [List.map_map]
  refine (List.map_congr_left fun n hn => ?_).trans (List.map_id ns)
  have := h n hn
  exact PySem.W.byte_back this.1 this.2
end MF
set_option Elab.async false
set_option linter.all false
set_option maxRecDepth 100000
set_option maxHeartbeats 1000000
namespace MF
open PySem PySem.Spec PyProof.Rows L2 StX PySem.W
theorem fills_int_rshift : fillsNumberSlot (.type "int") "rshift" = pure true := by
  unfold fillsNumberSlot
  simp only
  rw [typeLookup_type, typeLookup_type, builtinLookup_eq_fast]
  kernel_rfl
theorem look_int_rrshift : ∃ u, typeLookup (.type "int") (dunderR "rshift") = pure u := by
  rw [typeLookup_type, builtinLookup_eq_fast]
  cases e : fastLookup "int" (dunderR "rshift") with
  | some r => exact ⟨r, rfl⟩
  | none =>
    have : (fastLookup "int" (dunderR "rshift")).isSome = true := by kernel_rfl
    rw [e] at this
    cases this
theorem sub_int_ref (C : Addr) : isSubtype (.type "int") (.ref C) = pure false := by
  rw [isSubtype_type]
  have : fastBuiltinMro "int" = some [.type "int", .type "object"] := by kernel_rfl
  rw [this]
  rfl
theorem binop_KI {prog : Program} {w : World} {A : Around} {E : Value → Shared → Prop} {s : Shared} {K : Frag} {x C L f : Addr} {h₀ : Heap} {m : Str → Option Value} {ox : Obj} {od : Option Obj} {n : Int} {t : Tok} {Q : Value → Shared → Prop} (F : Fr h₀ L s.heap m) (X₀ : K.In h₀) (I : InstAt s.heap x ox C od) (hc : selfFirst K C = true)
    (hs : findIn K (.ref C) (PySem.dunder "rshift") = some (some (.ref f))) (hr : findIn K (.ref C) (PySem.dunderR "rshift") = some none) (hf : isFn K (.ref f) = true)
    (h : wpAny (model prog w) A (call (.ref f) [.ref x, .int n t]) (PySem.W.CmpBack Q) E s) : wpAny (model prog w) A (binaryOp .RShift (.ref x) (.int n t)) Q E s := by
  have X := X₀.keeps F.keep
  obtain ⟨cd, hcd, hm⟩ := any_some hc
  obtain ⟨rest, hm⟩ : ∃ rest, cd.mro = .ref C :: rest := by
    cases q : cd.mro with
    | nil => rw [q] at hm; cases hm
    | cons a r => rw [q] at hm; exact ⟨r, by rw [List.head?_cons] at hm; cases (beq_iff_eq.mp hm); rfl⟩
  obtain ⟨u, hu⟩ := look_int_rrshift
  unfold binaryOp
  refine wpAny_holding (wpAny_bind ?_)
  show wpAny (model prog w) A (binaryOp1 "rshift" (.ref x) (.int n t)) _ _ s
  unfold binaryOp1
  refine wpAny_bind (I.type.here (wpAny_bind (wpAny_of_eq (show typeOf (.int n t) = pure (.type "int") from rfl) (wpAny_bind ((fills_K X hcd hm hs).here ?_)))))
  have ne : ((Value.ref C) == (Value.type "int")) = false := rfl
  simp only [ne, Bool.false_eq_true, if_false]
  refine wpAny_bind (wpAny_of_eq fills_int_rshift ?_)
  simp only [Bool.and_self, if_true]
  refine wpAny_bind (m := isSubtype (.type "int") (.ref C)) (wpAny_of_eq (sub_int_ref C) ?_)
  simp only [Bool.false_eq_true, if_false, Bool.not_false, Bool.and_true, if_true]
  refine wpAny_bind (m := numberSlotInPython (.ref C) "rshift") ?_
  unfold numberSlotInPython
  simp only
  refine wpAny_bind (looks_findIn X hs A _ E s (fun _ _ e => e) ?_)
  refine wpAny_bind (wpAny_of_eq (show calledByName (.ref C) (dunder "rshift") (some (.ref f)) = pure true from rfl) ?_)
  refine wpAny_bind (looks_findIn X hr A _ E s (fun _ _ e => e) ?_)
  refine wpAny_bind (wpAny_of_eq (show calledByName (.ref C) (dunderR "rshift") none = pure false from rfl) ?_)
  simp only [Bool.true_or, if_true]
  refine wpAny_pure ?_
  simp only [if_true]
  refine wpAny_bind (m := pure false) (wpAny_pure ?_)
  simp only [if_true, Bool.not_false]
  refine wpAny_bind (m := typeLookup (.type "int") (dunderR "rshift")) (wpAny_of_eq hu ?_)
  refine wpAny_bind (m := tryMethod (.ref x) _ (.int n t)) ?_
  unfold tryMethod
  refine wpAny_bind (special_fn X I hs (beq_iff_eq.mp hf) (wpAny_mono h (fun v s' hv => ?_) fun _ _ e => e))
  cases v <;> first | exact hv.elim | exact wpAny_pure (wpAny_pure (wpAny_pure hv))
theorem op_ownI {X : Cx} {C f : Addr} {CX : CXT} {k : Nat} {sp : Sp} {E : XK} (hc : PySem.W.selfFirst X.K C = true) (M : Meth X.K C "__rshift__" f) (hn : PySem.W.findIn X.K (.ref C) "__rrshift__" = some none) (F : FnR X.prog X.w X.K X.mg X.base CX k f sp) (hr : Room k X.A) (hx : Passes CX X E) :
    OpR X (binaryOp .RShift) (fun x y H Q => ∃ a n dx fs, x = .ref a ∧ y = .int n ∧ H a = some (.ins C dx fs) ∧ sp [.ref a, .int n] H Q E) := by
  rintro pins s σ H x y u v Q I rx ry ⟨a, n, dx, fs, rfl, rfl, ea, h⟩
  obtain rfl : u = Value.ref a := rx
  obtain ⟨t, rfl⟩ := ry
  obtain ⟨mA, O, _⟩ := ins_get I.hok ea
  obtain ⟨od, ia, _⟩ := O.look
  obtain ⟨mm, fr⟩ := I.fr
  refine binop_KI fr I.mod.kin ia hc M.at_ hn M.fn ?_
  refine thn (wpAny_call (run_fnR (us := [.ref a, .int n t]) (vs := [.ref a, .int n]) F hr hx I (.cons rfl (.cons ⟨t, rfl⟩ .nil)) h)) fun r s' hq => ?_
  obtain ⟨z, H', I', rz, q⟩ := hq
  exact notNI rz ⟨z, H', I', rz, q⟩
end MF
set_option Elab.async false
set_option linter.all false
set_option maxRecDepth 100000
set_option maxHeartbeats 1000000
namespace MF
open PySem PySem.Spec PyProof.Rows L2 StX
section
variable {prog : Program} {w : World} {A : Around} {E : Value → Shared → Prop} {s : Shared} {K : PySem.W.Frag} {x C f : Addr} {b tb : Value} {ox : Obj} {od : Option Obj}
theorem bound_objNe {M : Model} {args : List Value} {Q : Option Value → Shared → Prop} (X : K.In s.heap) (I : PySem.W.InstAt s.heap x ox C od) (hs : PySem.W.findIn K (.ref C) "__ne__" = some (some (.builtin "object.__ne__")))
    (h : wpAny M A (call (.builtin "object.__ne__") (.ref x :: args)) (fun v s' => Q (some v) s') E s) : wpAny M A (callSpecialIfBound? (.ref x) "__ne__" args) Q E s := by
  unfold callSpecialIfBound? bindSpecialIfBound?
  have last : wpAny M A (call (.builtin "object.__ne__") ([.ref x] ++ args) >>= fun v => pure (some v)) Q E s := wpAny_bind (wpAny_mono h (fun v s' z => wpAny_pure z) fun _ _ z => z)
  refine wpAny_holding (wpAny_bind ?_)
  refine wpAny_bind (wpAny_bind (I.type.here ?_))
  refine (PySem.W.looks_findIn X hs).here (wpAny_bind ?_)
  refine wpAny_askSetting (wpAny_ite ?_)
  split
  · exact wpAny_bind (wpAny_of_eq (F.cmp_object.ne.bind _) (wpAny_pure (by exact last)))
  · exact wpAny_tryCatch (wpAny_bind (wpAny_of_eq (F.cmp_object.ne.bind _) (wpAny_pure (by exact last))))
theorem entry_objNe {Q : Fin → Shared → Prop} (hu : A.units < cLine) (X : K.In s.heap) (I : PySem.W.InstAt s.heap x ox C od) (hs : PySem.W.findIn K (.ref C) "__eq__" = some (some (.ref f))) (hf : PySem.W.isFn K (.ref f) = true)
    (h : wpAny (model prog w) A (call (.ref f) [.ref x, b]) (fun v s' => ∃ c, v = .bool c ∧ Q (.done (.ret (.bool (!c)))) s') E s) : wpAny (model prog w) A (Builtin.«object.__ne__» ⟨[.ref x, b], []⟩) Q E s := by
  unfold Builtin.«object.__ne__»
  repeat (first
    | with_reducible refine wpAny_cRoomFor hu ?_
    | (refine wpAny_bind (m := callSpecialIfBound? (.ref x) (Str.ofString "__eq__") [b]) (PySem.W.ifBound_K X I hs hf (wpAny_mono h (fun v s' z => ?_) fun _ _ z => z)))
    | wp_step)
  obtain ⟨c, rfl, hq⟩ := z
  repeat (first
    | exact hq
    | exact wpAny_pure hq
    | exact wpAny_truthy_bool hq
    | (refine wpAny_bind (m := truthy (.bool _)) (wpAny_truthy_bool ?_))
    | wp_step)
theorem rc_by {op : CmpOp} {Q : Value → Shared → Prop} (hu : A.units < cLine) (X : K.In s.heap) (I : PySem.W.InstAt s.heap x ox C od) (hb : PySem.W.Looks (model prog w) s.heap (typeOf b) tb) (hn : PySem.W.notFirst K C tb = true)
    (one : wpAny (model prog w) A (tryCompare (.ref x) (cmpInfo op).2.1 b) (fun r s' => ∃ v, r = some v ∧ Q v s') E s) : wpAny (model prog w) A (richCompare op (.ref x) b) Q E s := by
  unfold richCompare
  simp only [oneThing_ref]
  refine wpAny_holding (wpAny_bind ?_)
  refine wpAny_cRoomFor hu (wpAny_bind ?_)
  refine I.type.here (wpAny_bind (hb.here ?_))
  split
  · rename_i q
    have e : PySem.W.subIn K tb (.ref C) = some false := (Bool.or_eq_true_iff.mp hn).elim (fun e => by rw [beq_iff_eq.mp e] at q; simp at q) beq_iff_eq.mp
    refine wpAny_bind ((PySem.W.looks_subIn X e).here ?_)
    simp only [Bool.false_eq_true, if_false]
    exact wpAny_bind (wpAny_mono one (fun r s' z => (by obtain ⟨v, rfl, hq⟩ := z; exact wpAny_pure hq)) fun _ _ z => z)
  · refine wpAny_bind (wpAny_pure ?_)
    simp only [Bool.false_eq_true, if_false]
    exact wpAny_bind (wpAny_mono one (fun r s' z => (by obtain ⟨v, rfl, hq⟩ := z; exact wpAny_pure hq)) fun _ _ z => z)
theorem rc_eqO {Q : Bool → Shared → Prop} (hu : A.units < cLine) (X : K.In s.heap) (I : PySem.W.InstAt s.heap x ox C od) (hb : PySem.W.Looks (model prog w) s.heap (typeOf b) tb) (hn : PySem.W.notFirst K C tb = true)
    (hs : PySem.W.findIn K (.ref C) "__eq__" = some (some (.ref f))) (hf : PySem.W.isFn K (.ref f) = true) (h : wpAny (model prog w) A (call (.ref f) [.ref x, b]) (fun v s' => ∃ c, v = .bool c ∧ Q c s') E s) :
    wpAny (model prog w) A (compareOp .Eq (.ref x) b) (fun v s' => ∃ c, v = .bool c ∧ Q c s') E s := by
  show wpAny (model prog w) A (richCompare .Eq (.ref x) b) _ E s
  refine rc_by hu X I hb hn ?_
  unfold tryCompare
  refine wpAny_bind (PySem.W.ifBound_K X I hs hf (wpAny_mono h (fun v s' z => ?_) fun _ _ e => e))
  obtain ⟨c, rfl, q⟩ := z
  exact wpAny_pure ⟨_, rfl, c, rfl, q⟩
theorem rc_neO {Q : Bool → Shared → Prop} (hu : A.in1.units < cLine) (hu0 : A.units < cLine) (X : K.In s.heap) (I : PySem.W.InstAt s.heap x ox C od) (hb : PySem.W.Looks (model prog w) s.heap (typeOf b) tb) (hn : PySem.W.notFirst K C tb = true)
    (hm : PySem.W.mroIn K C (.type "object") = some true) (hne : PySem.W.findIn K (.ref C) "__ne__" = some (some (.builtin "object.__ne__"))) (hs : PySem.W.findIn K (.ref C) "__eq__" = some (some (.ref f))) (hf : PySem.W.isFn K (.ref f) = true)
    (h : wpAny (model prog w) A.in1 (call (.ref f) [.ref x, b]) (fun v s' => ∃ c, v = .bool c ∧ Q (!c) s') E s) :
    wpAny (model prog w) A (compareOp .NotEq (.ref x) b) (fun v s' => ∃ c, v = .bool c ∧ Q c s') E s := by
  show wpAny (model prog w) A (richCompare .NotEq (.ref x) b) _ E s
  refine rc_by hu0 X I hb hn ?_
  unfold tryCompare
  refine wpAny_bind (bound_objNe X I hne (wpAny_call (codeAny_call_builtin F.cmp_object.ne.plain F.cmpEntry_ne (PySem.W.check_slot F.cmpKind_ne F.cmpSplit_ne (I.type.andThen (PySem.W.looks_mroIn X hm)) (F.cmpArgs_ne _ _) (entry_objNe hu X I hs hf (wpAny_mono h (fun v s' z => ?_) fun _ _ e => e))))))
  obtain ⟨c, rfl, q⟩ := z
  refine ⟨c, rfl, ?_⟩
  first
    | exact wpAny_pure ⟨_, rfl, _, rfl, q⟩
    | exact wpAny_pure (wpAny_pure ⟨_, rfl, _, rfl, q⟩)
end
structure OwnC (K : PySem.W.Frag) (C : Addr) : Prop where
  ca : PySem.W.findIn K (.ref C) "__class__" = some (some (.builtin "object.__class__"))
  cn : PySem.W.specialIn K (.builtin "object.__class__") "__get__" = some (some (.builtin "getset_descriptor.__get__"))
  ct : PySem.W.takesIn K (.builtin "object.__class__") = some true
  mo : PySem.W.mroIn K C (.type "object") = some true
  ne : PySem.W.findIn K (.ref C) "__ne__" = some (some (.builtin "object.__ne__"))
  is : PySem.W.kitOne K (.ref C) (.ref C) = some true
  no : PySem.W.kitOne K (.type "tuple") (.ref C) = some false
theorem sub_tup {K : PySem.W.Frag} {C : Addr} : PySem.W.subIn K (.type "tuple") (.ref C) = some false := by
  have e : fastBuiltinMro "tuple" = some [.type "tuple", .type "object"] := by decide +kernel
  show (fastBuiltinMro "tuple").map (·.contains (.ref C)) = some false
  rw [e]
  first
    | rfl
    | simp
section
variable {X : Cx} {CX : CXT} {k : Nat} {C f : Addr} {sp : Sp} {E : XK}
def rEqO (K : PySem.W.Frag) (C : Addr) (sp : Sp) (E : XK) (neg : Bool) : R2 := fun x y H Q => ∃ a dx fs, x = .ref a ∧ H a = some (.ins C dx fs) ∧ ((∃ b dy gs, y = .ref b ∧ H b = some (.ins C dy gs)) ∨ ∃ b xs, y = .ref b ∧ SqT K H b xs) ∧
  sp [x, y] H (fun v H' => ∃ b : Bool, v = .bl b ∧ Q (.bl (if neg = true then !b else b)) H') E
theorem eqO_side {pins : List (Addr × Obj)} {σ : L2.St} {H : Hp} {s : Shared} {y : V} {u : Value} (I : Inv X pins σ H s) (ry : RelV y u) (h : (∃ b dy gs, y = .ref b ∧ H b = some (.ins C dy gs)) ∨ ∃ b xs, y = .ref b ∧ SqT X.K H b xs) :
    ∃ tb, PySem.W.Looks (model X.prog X.w) s.heap (typeOf u) tb ∧ PySem.W.notFirst X.K C tb = true := by
  rcases h with ⟨b, dy, gs, rfl, eb⟩ | ⟨b, xs, rfl, hb⟩
  · obtain rfl : u = Value.ref b := ry
    obtain ⟨mA, O, _⟩ := ins_get I.hok eb
    obtain ⟨od, ia, _⟩ := O.look
    exact ⟨_, ia.type, by unfold PySem.W.notFirst; simp⟩
  · obtain rfl : u = Value.ref b := ry
    refine ⟨.type "tuple", ?_, by unfold PySem.W.notFirst; rw [sub_tup]; simp⟩
    obtain ⟨its, o, n, _, ho, hc, _⟩ := sqT_at I.hok I.kIn hb
    intro A Q E s k q
    refine wpAny_typeOf_ref (k _ _ ho) ?_
    rw [hc]
    exact q
theorem op_eqO (M : Meth X.K C "__eq__" f) (F : FnR X.prog X.w X.K X.mg X.base CX k f sp) (hr : Room k X.A) (hx : Passes CX X E) : OpR X (compareOp .Eq) (rEqO X.K C sp E false) := by
  rintro pins s σ H x y u v Q I rx ry ⟨a, dx, fs, rfl, ea, hy, h⟩
  obtain ⟨tb, hb, hn⟩ := eqO_side I ry hy
  obtain rfl : u = Value.ref a := rx
  obtain ⟨mA, O, _⟩ := ins_get I.hok ea
  obtain ⟨od, ia, _⟩ := O.look
  refine thn (rc_eqO (Q := fun c s' => ∃ H', Inv X pins σ H' s' ∧ Q (.bl c) H') hr.units0 I.kIn ia hb hn M.at_ M.fn (thn (wpAny_call (run_fnR (us := [.ref a, v]) (vs := [.ref a, y]) F hr hx I (.cons rfl (.cons ry .nil)) h)) fun r s' hq => ?_)) fun r s' hq => ?_
  · obtain ⟨z, H', I', rz, b, rfl, q⟩ := hq
    exact ⟨b, rz, H', I', q⟩
  · obtain ⟨c, rfl, H', I', q⟩ := hq
    exact ⟨.bl c, H', I', rfl, q⟩
theorem op_neO (N : OwnC X.K C) (M : Meth X.K C "__eq__" f) (F : FnR X.prog X.w X.K X.mg X.base CX k f sp) (hr : Room (k + 1) X.A) (hx : Passes CX X E) : OpR X (compareOp .NotEq) (rEqO X.K C sp E true) := by
  rintro pins s σ H x y u v Q I rx ry ⟨a, dx, fs, rfl, ea, hy, h⟩
  obtain ⟨tb, hb, hn⟩ := eqO_side I ry hy
  obtain rfl : u = Value.ref a := rx
  obtain ⟨mA, O, _⟩ := ins_get I.hok ea
  obtain ⟨od, ia, _⟩ := O.look
  refine thn (rc_neO (Q := fun c s' => ∃ H', Inv X pins σ H' s' ∧ Q (.bl c) H') hr.in1.units0 hr.units0 I.kIn ia hb hn N.mo N.ne M.at_ M.fn (thn (run_in1 (us := [.ref a, v]) (vs := [.ref a, y]) F hr hx I (.cons rfl (.cons ry .nil)) h) fun r s' hq => ?_)) fun r s' hq => ?_
  · obtain ⟨z, H', I', rz, b, rfl, q⟩ := hq
    exact ⟨b, rz, H', I', q⟩
  · obtain ⟨c, rfl, H', I', q⟩ := hq
    exact ⟨.bl c, H', I', rfl, q⟩
end
end MF
set_option Elab.async false
set_option linter.all false
set_option maxRecDepth 100000
set_option maxHeartbeats 1000000
namespace MF
open PySem PySem.Spec PyProof.Rows L2 StX
structure SMDef (K : PySem.W.Frag) (C : Addr) (m qual : Str) (st : Stmt) (p1 pv : Str) : Prop where
  ex : ∃ f fd, Fun K m qual st f fd ∧ Meth K C m f ∧ ∀ us rest : List Value, us.length = [p1].length → bindArgs fd ⟨us ++ rest, []⟩ = (newTuple rest >>= fun t => pure ([p1].zip us ++ [(pv, t)]))
theorem SMDef.fn0 {P : Program} {w : World} {K : PySem.W.Frag} {mg : Str → Option Value} {base : Heap} {k : Nat} {C : Addr} {m qual p1 pv : Str} {st : Stmt} {N : List Str} {sp : Sp} (D : SMDef K C m qual st p1 pv) (S : FnScope N [p1, pv] (defScope st))
    (hbody : ∀ (f : Addr) (cdv : Value) (A : Around) (outer : List Env) (s : Shared) (H : Hp) (vs : List V) (Q : VK) (E : XK), Room k (A.deeper (envOfC qual (defScope st) s.heap.objs.size f cdv)) → sp vs H Q E →
      ∃ t, PSs (cxOf CX0 P w K mg base N qual (defScope st) f cdv A outer s H E).nox (defBody st) t ∧ t { nx := fun _ H' => Q .non H', rt := Q } (start N vs) H) :
    MFn P w K mg base CX0 (k + 1) C m (fun vs H Q E => ∃ v rest, vs = v :: rest ∧ rest.length ≤ sizeLine ∧ ∀ p, H p = Option.none → sp [v, V.ref p] (upd H p (.tup rest)) Q E) := by
  obtain ⟨f, fd, F, M, hb⟩ := D.ex
  obtain ⟨oc, od, kV, doc, pm, an, cdv, ct, osl, rfl, lk, hcd⟩ := F.ex
  refine ⟨f, (fn_star (ps := [p1]) (pv := pv) (sp := sp) lk hcd S cxUp_none hb fun A outer s H vs Q E hr hsp => ?_).imp fun vs H Q E h => ?_, M⟩
  · obtain ⟨t, h, q⟩ := hbody f cdv A outer s H vs Q E hr hsp
    exact ⟨t, h.nox, q⟩
  · obtain ⟨v, rest, rfl, hl, q⟩ := h
    exact ⟨[v], rest, rfl, rfl, hl, q⟩
theorem op_notIn_seqK {X : Cx} {K : PySem.W.Frag} (h : X.K = K := by rfl) : OpR X (compareOp .NotIn) (rIn K true) := h ▸ op_notIn_seq
theorem op_in_seqK {X : Cx} {K : PySem.W.Frag} (h : X.K = K := by rfl) : OpR X (compareOp .In) (rIn K false) := h ▸ op_in_seq
end MF
set_option Elab.async false
set_option linter.all false
set_option maxRecDepth 100000
set_option maxHeartbeats 1000000
namespace MF
open PySem PySem.Spec PyProof.Rows L2 StX
section
variable {P : Program} {w : World} {K : PySem.W.Frag} {mg : Str → Option Value} {base : Heap} {k : Nat} {C : Addr} {x m : Str} {f : Addr} {sp sp' : Sp}
theorem FnR.up (F : FnR P w K mg base CX0 k f sp) : FnR P w K mg base (L2.CX P w) k f sp := fun A outer s H us vs Q E hr e0 r hs => codeAny_mono (F A outer s H us vs Q E hr e0 r hs) fun r s' h => by
  unfold CR at h ⊢
  match r, h with
  | .ok (.ret u), h => exact h
  | .ok .next, h => exact h
  | .ok .brk, h => exact h
  | .ok .cont, h => exact h
  | .error e, h => exact False.elim h
theorem FnR.or {CX : CXT} (F : FnR P w K mg base CX k f sp) (F' : FnR P w K mg base CX k f sp') : FnR P w K mg base CX k f (fun vs H Q E => sp vs H Q E ∨ sp' vs H Q E) := fun A outer s H us vs Q E hr e0 r hs => by
  rcases hs with h | h
  · exact F A outer s H us vs Q E hr e0 r h
  · exact F' A outer s H us vs Q E hr e0 r h
theorem GFn.up (G : GFn P w K mg base CX0 k x sp) : GFn P w K mg base (L2.CX P w) k x sp := let ⟨f, a, b⟩ := G.ex; ⟨f, FnR.up a, b⟩
theorem MFn.up (G : MFn P w K mg base CX0 k C m sp) : MFn P w K mg base (L2.CX P w) k C m sp := let ⟨f, a, b⟩ := G.ex; ⟨f, FnR.up a, b⟩
theorem GFn.or {CX : CXT} (G : GFn P w K mg base CX k x sp) (G' : GFn P w K mg base CX k x sp') : GFn P w K mg base CX k x (fun vs H Q E => sp vs H Q E ∨ sp' vs H Q E) := by
  obtain ⟨f, a, b, c⟩ := G.ex
  obtain ⟨f', a', b', c'⟩ := G'.ex
  rw [b] at b'
  cases b'
  exact ⟨f, FnR.or a a', b, c⟩
theorem FnR.le {CX : CXT} {j : Nat} (F : FnR P w K mg base CX j f sp) (h : j ≤ k) : FnR P w K mg base CX k f sp := fun A outer s H us vs Q E hr e0 r hs => F A outer s H us vs Q E (hr.mono h) e0 r hs
theorem GFn.le {CX : CXT} {j : Nat} (G : GFn P w K mg base CX j x sp) (h : j ≤ k) : GFn P w K mg base CX k x sp := let ⟨f, a, b⟩ := G.ex; ⟨f, FnR.le a h, b⟩
theorem MFn.le {CX : CXT} {j : Nat} (G : MFn P w K mg base CX j C m sp) (h : j ≤ k) : MFn P w K mg base CX k C m sp := let ⟨f, a, b⟩ := G.ex; ⟨f, FnR.le a h, b⟩
theorem MFn.or {CX : CXT} (G : MFn P w K mg base CX k C m sp) (G' : MFn P w K mg base CX k C m sp') : MFn P w K mg base CX k C m (fun vs H Q E => sp vs H Q E ∨ sp' vs H Q E) := by
  obtain ⟨f, a, M⟩ := G.ex
  obtain ⟨f', a', M'⟩ := G'.ex
  have e := M.at_
  rw [M'.at_] at e
  cases e
  exact ⟨_, FnR.or a a', M⟩
end
end MF
set_option Elab.async false
set_option linter.all false
set_option maxHeartbeats 1000000
namespace MF
open PySem PySem.Spec PyProof.Rows L2
def figs : Str := "0123456789"
def numB (w : Str) : Bool := (decide (1 ≤ w.length) && decide (w.length ≤ 19)) && (w.cps.toList.all fun c => decide (c ∈ figs.cps.toList)) && (decide (w = "0") || decide (w.cps.toList.head? ≠ some 48))
def goodW (j : Nat) (w : Str) : Bool := if j = 0 then decide (w = "order") else if j < 3 then isAddrB (.str w) else numB w
def badP (ws : List Str) (j : Nat) : Bool := match ws[j]? with
  | some w => !goodW j w
  | none => true
def badAt (ws : List Str) : Option Nat := match (List.range 6).find? (badP ws) with
  | some j => some j
  | none => if 6 < ws.length then some 6 else none
def noteAt : Nat → List (List Str) → Option (Nat × Nat)
  | _, [] => none
  | k, ws :: L => match badAt ws with
    | some j => some (k, j)
    | none => noteAt (k + 1) L
def valW (w : Str) : Int := ((NumText.digitsVal w.cps.toList : Nat) : Int)
def ordW (ws : List Str) : Ordr := ⟨ws.getD 1 "", ws.getD 2 "", valW (ws.getD 3 ""), valW (ws.getD 4 ""), valW (ws.getD 5 "")⟩
def okOrd (o : Ordr) : Bool := decide (o.src ≠ o.tgt) && (decide (o.first ≤ o.last) && decide (o.last ≤ 1000000000000000000)) && (decide (1 ≤ o.way) && decide (o.way ≤ 30))
def badOrd : List Ordr → List Ordr → Option Nat
  | _, [] => none
  | found, o :: os => if found.length = 30 ∨ okOrd o = false ∨ (found.any fun p => overB p o) = true then some found.length else badOrd (found ++ [o]) os
def nLine (ws : List Str) : Str := Txt.join " " ws
def nText (L : List (List Str)) : Str := Txt.join "\n" (L.map nLine)
def rowW (o : Ordr) : List Str := ["order", o.src, o.tgt, toString o.first, toString o.last, toString o.way]
structure WordOk (w : Str) : Prop where
  len : w.length ≤ 20
  sp : 32 ∉ w.cps.toList
  nl : 10 ∉ w.cps.toList
  asc : ∀ c ∈ w.cps.toList, c < 128
structure RowsOk (L : List (List Str)) : Prop where
  len : L.length ≤ 40
  ne : ∀ ws ∈ L, ws ≠ []
  wl : ∀ ws ∈ L, ws.length ≤ 8
  ok : ∀ ws ∈ L, ∀ w ∈ ws, WordOk w
theorem badAt_none {ws : List Str} (h : badAt ws = none) : ws.length = 6 ∧ ∀ j w, ws[j]? = some w → goodW j w = true := by
  unfold badAt at h
  split at h
  · cases h
  next hn =>
  rw [List.find?_eq_none] at hn
  split at h
  · cases h
  next h6 =>
  have l6 : ws.length = 6 := by
    refine Nat.le_antisymm (by omega) (Classical.byContradiction fun c => ?_)
    have := hn ws.length (List.mem_range.mpr (by omega))
    unfold badP at this
    rw [List.getElem?_eq_none (Nat.le_refl _)] at this
    exact this rfl
  refine ⟨l6, fun j w e => ?_⟩
  have hj : j < 6 := by rw [← l6]; exact (List.getElem?_eq_some_iff.mp e).1
  have := hn j (List.mem_range.mpr hj)
  unfold badP at this
  rw [e] at this
  simpa using this
theorem noteAt_none {k : Nat} {L : List (List Str)} (h : noteAt k L = none) : ∀ ws ∈ L, badAt ws = none := by
  induction L generalizing k with
  | nil => intro ws hw; cases hw
  | cons ws L ih =>
    unfold noteAt at h
    split at h
    · cases h
    next hb =>
    intro z hz
    rcases List.mem_cons.mp hz with rfl | hz
    · exact hb
    · exact ih h z hz
theorem noteAt_get {k0 k j : Nat} {L : List (List Str)} (h : noteAt k0 L = some (k, j)) : ∃ i ws, k = k0 + i ∧ L[i]? = some ws ∧ badAt ws = some j ∧ ∀ m z, m < i → L[m]? = some z → badAt z = none := by
  induction L generalizing k0 with
  | nil => cases h
  | cons ws L ih =>
    unfold noteAt at h
    split at h
    · next hb =>
      cases h
      exact ⟨0, ws, rfl, rfl, hb, fun m z hm => absurd hm (Nat.not_lt_zero _)⟩
    · next hb =>
      obtain ⟨i, z, e1, e2, e3, e4⟩ := ih h
      refine ⟨i + 1, z, by omega, by simpa using e2, e3, fun m y hm ey => ?_⟩
      cases m with
      | zero => cases ey; exact hb
      | succ m => exact e4 m y (by omega) (by simpa using ey)
theorem noteAt_first {ws : List Str} {j : Nat} (hb : badAt ws = some j) : ∀ {L : List (List Str)} {i k : Nat}, (∀ m z, m < i → L[m]? = some z → badAt z = none) → L[i]? = some ws → noteAt k L = some (k + i, j)
  | [], _, _, _, e => by simp at e
  | y :: L, 0, k, _, e => by
    cases e
    unfold noteAt
    rw [hb]
    rfl
  | y :: L, i + 1, k, h, e => by
    unfold noteAt
    rw [h 0 y (by omega) rfl]
    have := noteAt_first hb (L := L) (i := i) (k := k + 1) (fun m z hm ez => h (m + 1) z (by omega) (by simpa using ez)) (by simpa using e)
    show noteAt (k + 1) L = _
    rw [this]
    congr 2
    omega
theorem noteAt_all : ∀ {L : List (List Str)} {k : Nat}, (∀ z ∈ L, badAt z = none) → noteAt k L = none
  | [], _, _ => rfl
  | y :: L, k, h => by
    unfold noteAt
    rw [h y (by simp)]
    exact noteAt_all fun z hz => h z (by simp [hz])
theorem ordW_addr {ws : List Str} (h : badAt ws = none) : isAddrB (.str (ordW ws).src) = true ∧ isAddrB (.str (ordW ws).tgt) = true ∧ 0 ≤ (ordW ws).first := by
  obtain ⟨l6, hg⟩ := badAt_none h
  have e1 : ws[1]? = some (ws[1]'(by omega)) := List.getElem?_eq_getElem _
  have e2 : ws[2]? = some (ws[2]'(by omega)) := List.getElem?_eq_getElem _
  have g1 := hg 1 _ e1
  have g2 := hg 2 _ e2
  refine ⟨?_, ?_, ?_⟩
  · show isAddrB (.str (ws.getD 1 "")) = true
    rw [List.getD_eq_getElem?_getD, e1]
    simpa [goodW] using g1
  · show isAddrB (.str (ws.getD 2 "")) = true
    rw [List.getD_eq_getElem?_getD, e2]
    simpa [goodW] using g2
  · show 0 ≤ valW _
    unfold valW
    omega
theorem okOrd_ok {o : Ordr} (h : okOrd o = true) (ha : isAddrB (.str o.src) = true) (hb : isAddrB (.str o.tgt) = true) (h0 : 0 ≤ o.first) : o.Ok := by
  unfold okOrd at h
  simp only [Bool.and_eq_true, decide_eq_true_eq] at h
  obtain ⟨⟨h1, h2, h3⟩, h4, h5⟩ := h
  exact ⟨ha, hb, h1, h0, h2, h3, h4, h5⟩
theorem ok_okOrd {o : Ordr} (h : o.Ok) : okOrd o = true := by
  unfold okOrd
  simp [h.ne, h.fl, h.lm, h.w1, h.w30]
structure RawOk (o : Ordr) : Prop where
  as : isAddrB (.str o.src) = true
  at_ : isAddrB (.str o.tgt) = true
  f0 : 0 ≤ o.first
theorem ordW_raw {ws : List Str} (h : badAt ws = none) : RawOk (ordW ws) := let ⟨a, b, c⟩ := ordW_addr h; ⟨a, b, c⟩
theorem Good.snoc46 {os : List Ordr} {o : Ordr} (g : Good os) (hl : os.length < 30) (ho : o.Ok) (hn : (os.any fun p => overB p o) = false) : Good (os ++ [o]) := by
  refine ⟨by rw [List.length_append]; show os.length + 1 ≤ 30; omega, fun p hp => ?_, List.pairwise_append.mpr ⟨g.apart, by simp, fun p hp q hq => ?_⟩⟩
  · rcases List.mem_append.mp hp with z | z
    · exact g.ok p z
    · rw [List.mem_singleton.mp z]; exact ho
  · rw [List.mem_singleton.mp hq]
    rw [List.any_eq_false] at hn
    simpa using hn p hp
theorem badOrd_none : ∀ {os found : List Ordr}, Good found → (∀ o ∈ os, RawOk o) → badOrd found os = none → Good (found ++ os)
  | [], found, g, _, _ => by rw [List.append_nil]; exact g
  | o :: os, found, g, hr, h => by
    unfold badOrd at h
    split at h
    · cases h
    next hn =>
    rw [not_or, not_or] at hn
    obtain ⟨h1, h2, h3⟩ := hn
    have r := hr o (by simp)
    have g2 : Good (found ++ [o]) := g.snoc46 (by have := g.len; omega) (okOrd_ok (by simpa using h2) r.as r.at_ r.f0) (by simpa using h3)
    have := badOrd_none g2 (fun p hp => hr p (by simp [hp])) h
    simpa using this
theorem badOrd_some : ∀ {os found : List Ordr} {n : Nat}, Good found → (∀ o ∈ os, RawOk o) → badOrd found os = some n → ∃ pre o rest, os = pre ++ o :: rest ∧ Good (found ++ pre) ∧ (found ++ pre).length = n ∧ (n = 30 ∨ okOrd o = false ∨ (okOrd o = true ∧ ((found ++ pre).any fun p => overB p o) = true))
  | [], found, n, _, _, h => by cases h
  | o :: os, found, n, g, hr, h => by
    unfold badOrd at h
    have r := hr o (by simp)
    split at h
    · next hn =>
      cases h
      refine ⟨[], o, os, rfl, by rw [List.append_nil]; exact g, by rw [List.append_nil], ?_⟩
      rw [List.append_nil]
      rcases hn with z | z | z
      · exact .inl z
      · exact .inr (.inl z)
      · cases c : okOrd o with
        | false => exact .inr (.inl rfl)
        | true => exact .inr (.inr ⟨rfl, z⟩)
    next hn =>
    rw [not_or, not_or] at hn
    obtain ⟨h1, h2, h3⟩ := hn
    have g2 : Good (found ++ [o]) := g.snoc46 (by have := g.len; omega) (okOrd_ok (by simpa using h2) r.as r.at_ r.f0) (by simpa using h3)
    obtain ⟨pre, p, rest, e1, e2, e3, e4⟩ := badOrd_some g2 (fun q hq => hr q (by simp [hq])) h
    rw [List.append_assoc] at e2 e3 e4
    exact ⟨o :: pre, p, rest, by rw [e1]; rfl, e2, e3, e4⟩
theorem badOrd_good : ∀ {os found : List Ordr}, Good (found ++ os) → badOrd found os = none
  | [], found, _ => rfl
  | o :: os, found, g => by
    unfold badOrd
    have hl := g.len
    rw [List.length_append, List.length_cons] at hl
    have ho := g.ok o (by simp)
    have ap := (List.pairwise_append.mp g.apart).2.2
    rw [if_neg (by
      rintro (z | z | z)
      · omega
      · rw [ok_okOrd ho] at z; cases z
      · obtain ⟨p, hp, e⟩ := List.any_eq_true.mp z
        rw [ap p hp o (by simp)] at e
        cases e)]
    exact badOrd_good (by simpa using g)
theorem badAt_first {ws : List Str} {i : Nat} (h : ∀ m, m < i → badP ws m = false) (hi : i < 6) (hb : badP ws i = true) : badAt ws = some i := by
  unfold badAt
  rw [List.find?_range_eq_some.mpr ⟨hb, List.mem_range.mpr hi, fun m hm => by rw [h m hm]; rfl⟩]
theorem badAt_rest {ws : List Str} (h : ∀ m, m < 6 → badP ws m = false) : badAt ws = if 6 < ws.length then some 6 else none := by
  unfold badAt
  rw [List.find?_eq_none.mpr fun m hm => by rw [h m (List.mem_range.mp hm)]; simp]
theorem figs_mem {c : Nat} : c ∈ figs.cps.toList ↔ 48 ≤ c ∧ c ≤ 57 := by
  have : figs.cps.toList = [48, 49, 50, 51, 52, 53, 54, 55, 56, 57] := by decide +kernel
  rw [this]
  simp
  omega
theorem numB_int {w : Str} (h : numB w = true) : intText? w = some (valW w) ∧ w.length ≤ 19 := by
  unfold numB at h
  simp only [Bool.and_eq_true, decide_eq_true_eq, List.all_eq_true] at h
  obtain ⟨⟨⟨h1, h2⟩, h3⟩, _⟩ := h
  refine ⟨?_, h2⟩
  have hd : ∀ c ∈ w.cps.toList, 48 ≤ c ∧ c ≤ 57 := fun c hc => figs_mem.mp (h3 c hc)
  have hne : w.cps.toList ≠ [] := fun e => by
    have : w.cps.toList.length = 0 := by rw [e]; rfl
    rw [Array.length_toList] at this
    have : w.length = 0 := this
    omega
  exact intText_digits (x := w) hd hne (by omega)
theorem six {ws : List Str} (h : ws.length = 6) : ∃ a b c d e f, ws = [a, b, c, d, e, f] := by
  match ws, h with
  | [a, b, c, d, e, f], _ => exact ⟨a, b, c, d, e, f, rfl⟩
theorem line_split {ws : List Str} (h : ws ≠ []) (hp : ∀ w ∈ ws, 32 ∉ w.cps.toList) : Txt.split (nLine ws) " " = ws := TL.split_join (s := 32) (S := []) (by decide +kernel) (by decide +kernel) h hp
theorem str_join_len (sep : Str) : ∀ (l : List Str) (k : Nat), (∀ x ∈ l, x.length ≤ k) → (Txt.join sep l).length ≤ l.length * (k + sep.length)
  | [], k, _ => by show (Str.empty).length ≤ _; exact Nat.zero_le _
  | [x], k, h => by
    have := h x (by simp)
    show x.length ≤ 1 * (k + sep.length)
    omega
  | x :: y :: l, k, h => by
    have h1 := str_join_len sep (y :: l) k fun z hz => h z (by simp [hz])
    have h2 := h x (by simp)
    have e : Txt.join sep (x :: y :: l) = x ++ sep ++ Txt.join sep (y :: l) := by
      rw [TL.join_eq, TL.join_eq]
      rfl
    rw [e, Str.length_append, Str.length_append]
    show _ ≤ (l.length + 1 + 1) * (k + sep.length)
    rw [show (l.length + 1 + 1) * (k + sep.length) = (l.length + 1) * (k + sep.length) + (k + sep.length) from by rw [Nat.add_mul]; omega]
    have h1' : (Txt.join sep (y :: l)).length ≤ (l.length + 1) * (k + sep.length) := h1
    omega
theorem tl_join_mem {s : Nat} {y : Str} (hy : s ∉ y.cps.toList) : ∀ {l : List Str}, (∀ x ∈ l, s ∉ x.cps.toList) → s ∉ (Txt.join y l).cps.toList
  | [], _ => by show s ∉ (Str.empty).cps.toList; intro h; cases h
  | [x], h => h x (by simp)
  | x :: z :: l, h => by
    have h1 := tl_join_mem hy (l := z :: l) fun w hw => h w (by simp [hw])
    have e : Txt.join y (x :: z :: l) = x ++ y ++ Txt.join y (z :: l) := by
      rw [TL.join_eq, TL.join_eq]
      rfl
    have et : (Txt.join y (x :: z :: l)).cps.toList = x.cps.toList ++ y.cps.toList ++ (Txt.join y (z :: l)).cps.toList := by
      rw [e]
      show TL.tl _ = TL.tl _ ++ TL.tl _ ++ TL.tl _
      rw [TL.tl_append, TL.tl_append]
    rw [et]
    intro hm
    rcases List.mem_append.mp hm with hm | hm
    · rcases List.mem_append.mp hm with hm | hm
      · exact h x (by simp) hm
      · exact hy hm
    · exact h1 hm
theorem tl_str46 {z : Str} : z.cps.toList = TL.tl z := rfl
theorem row_line (o : Ordr) : nLine (rowW o) = Str.empty ++ ("order" : Str) ++ (" " : Str) ++ o.src ++ (" " : Str) ++ o.tgt ++ (" " : Str) ++ Str.ofString (toString o.first) ++ (" " : Str) ++ Str.ofString (toString o.last) ++ (" " : Str) ++ Str.ofString (toString o.way) := by
  refine TL.ext_tl ?_
  show TL.tl (Txt.join " " [("order" : Str), o.src, o.tgt, Str.ofString (toString o.first), Str.ofString (toString o.last), Str.ofString (toString o.way)]) = _
  rw [TL.join_eq, TL.tl_join]
  simp only [TL.tl_append, List.map_cons, List.map_nil, TL.joinL, List.append_assoc]
  rfl
theorem text_split {L : List (List Str)} (h : L ≠ []) (R : RowsOk L) : Txt.split (nText L) "\n" = L.map nLine := by
  refine TL.split_join (s := 10) (S := []) (by decide +kernel) (by decide +kernel) (fun e => h (List.map_eq_nil_iff.mp e)) fun p hp => ?_
  obtain ⟨ws, hws, rfl⟩ := List.mem_map.mp hp
  exact tl_join_mem (by decide +kernel) fun w hw => (R.ok ws hws w hw).nl
theorem line_len {L : List (List Str)} (R : RowsOk L) {ws : List Str} (h : ws ∈ L) : (nLine ws).length ≤ 168 := by
  have h1 := str_join_len " " ws 20 fun w hw => (R.ok ws h w hw).len
  have h2 := R.wl ws h
  have e : (" " : Str).length = 1 := by decide +kernel
  rw [e] at h1
  show (Txt.join " " ws).length ≤ 168
  refine Nat.le_trans h1 ?_
  omega
theorem text_len {L : List (List Str)} (R : RowsOk L) : (nText L).length ≤ 6760 := by
  have h1 := str_join_len "\n" (L.map nLine) 168 fun x hx => by
    obtain ⟨ws, hws, rfl⟩ := List.mem_map.mp hx
    exact line_len R hws
  have e : ("\n" : Str).length = 1 := by decide +kernel
  rw [e, List.length_map] at h1
  have := R.len
  show (Txt.join "\n" (L.map nLine)).length ≤ 6760
  refine Nat.le_trans h1 ?_
  omega
theorem numL_head : ∀ {n : Nat}, n ≠ 0 → (TL.numL n).head? = some 48 → False := by
  intro n
  induction n using Nat.strongRecOn with
  | _ n ih =>
    intro hn hh
    by_cases c : n < 10
    · rw [TL.numL_lt c] at hh
      have : 48 + n = 48 := by simpa using hh
      omega
    · rw [TL.numL_step (by omega)] at hh
      refine ih (n / 10) (by omega) (by omega) ?_
      have ne := TL.numL_ne (n / 10)
      cases h : TL.numL (n / 10) with
      | nil => exact absurd h ne
      | cons a l => rw [h] at hh; exact hh
theorem sum_le46 {l : List Str} {k : Nat} (h : ∀ x ∈ l, x.length ≤ k) : (l.map (·.length)).sum ≤ l.length * k := by
  induction l with
  | nil => exact Nat.zero_le _
  | cons x l ih =>
    have h1 := ih fun y hy => h y (by simp [hy])
    have h2 := h x (by simp)
    rw [List.map_cons, List.sum_cons, List.length_cons, Nat.add_mul]
    omega
theorem addr_word {z : Str} (h : isAddrB (.str z) = true) : WordOk z := by
  unfold isAddrB at h
  simp only [Bool.and_eq_true, decide_eq_true_eq, List.all_eq_true] at h
  obtain ⟨⟨_, h2⟩, h3⟩ := h
  have e1 : 32 ∉ letters.cps.toList := by decide +kernel
  have e2 : 10 ∉ letters.cps.toList := by decide +kernel
  have e3 : ∀ c ∈ letters.cps.toList, c < 128 := by decide +kernel
  exact ⟨by omega, fun z => e1 (h3 _ z), fun z => e2 (h3 _ z), fun c z => e3 c (h3 _ z)⟩
theorem num_word {x : Int} (h0 : 0 ≤ x) (h1 : x ≤ 1000000000000000000) : WordOk (Str.ofString (toString x)) := by
  obtain ⟨n, rfl⟩ := Int.eq_ofNat_of_zero_le h0
  have e : (Str.ofString (toString ((n : Nat) : Int))).cps.toList = TL.numL n := TL.tl_num n
  refine ⟨?_, ?_, ?_, fun c hc => ?_⟩
  · have : (TL.numL n).length ≤ 19 := TL.numL_len (by decide) (by omega)
    rw [TL.len_tl, TL.tl_num]
    omega
  · rw [e]; exact TL.numL_free (.inl (by decide))
  · rw [e]; exact TL.numL_free (.inl (by decide))
  · rw [e] at hc
    have := TL.numL_digits n c hc
    omega
theorem order_word : WordOk "order" := ⟨by decide +kernel, by decide +kernel, by decide +kernel, by decide +kernel⟩
theorem row_words {o : Ordr} (ok : o.Ok) : ∀ w ∈ rowW o, WordOk w := fun w hw => by
  have f0 := ok.f0
  have fl := ok.fl
  have lm := ok.lm
  have w1 := ok.w1
  have w30 := ok.w30
  replace hw : w ∈ [("order" : Str), o.src, o.tgt, Str.ofString (toString o.first), Str.ofString (toString o.last), Str.ofString (toString o.way)] := hw
  simp only [List.mem_cons, List.not_mem_nil, or_false] at hw
  rcases hw with rfl | rfl | rfl | rfl | rfl | rfl
  · exact order_word
  · exact addr_word ok.as
  · exact addr_word ok.at_
  · exact num_word f0 (by omega)
  · exact num_word (by omega) lm
  · exact num_word (by omega) (by omega)
theorem rows_ok {os : List Ordr} (g : Good os) : RowsOk (os.map rowW) := by
  refine ⟨by rw [List.length_map]; have := g.len; omega, fun ws hw => ?_, fun ws hw => ?_, fun ws hw => ?_⟩
  · obtain ⟨o, _, rfl⟩ := List.mem_map.mp hw
    intro h; cases h
  · obtain ⟨o, _, rfl⟩ := List.mem_map.mp hw
    show 6 ≤ 8; decide
  · obtain ⟨o, ho, rfl⟩ := List.mem_map.mp hw
    exact row_words (g.ok o ho)
theorem numB_num {x : Int} (h0 : 0 ≤ x) (h1 : x ≤ 1000000000000000000) : numB (Str.ofString (toString x)) = true ∧ valW (Str.ofString (toString x)) = x := by
  obtain ⟨n, rfl⟩ := Int.eq_ofNat_of_zero_le h0
  have e : (Str.ofString (toString ((n : Nat) : Int))).cps.toList = TL.numL n := TL.tl_num n
  have hl : (Str.ofString (toString ((n : Nat) : Int))).length = (TL.numL n).length := by rw [TL.len_tl, TL.tl_num]
  have l19 : (TL.numL n).length ≤ 19 := TL.numL_len (by decide) (by omega)
  have l1 : 1 ≤ (TL.numL n).length := List.length_pos_iff.mpr (TL.numL_ne n)
  refine ⟨?_, ?_⟩
  · unfold numB
    simp only [Bool.and_eq_true, decide_eq_true_eq, List.all_eq_true, Bool.or_eq_true]
    refine ⟨⟨⟨by omega, by omega⟩, fun c hc => ?_⟩, ?_⟩
    · rw [e] at hc
      have := TL.numL_digits n c hc
      exact figs_mem.mpr (by omega)
    · rw [e]
      by_cases c : n = 0
      · subst c
        exact .inl (by decide +kernel)
      · refine .inr fun hh => ?_
        exact numL_head c hh
  · unfold valW
    rw [e, TL.numL_val]
theorem row_good {o : Ordr} (ok : o.Ok) : badAt (rowW o) = none := by
  have f0 := ok.f0
  have fl := ok.fl
  have lm := ok.lm
  have w1 := ok.w1
  have w30 := ok.w30
  have n1 := (numB_num (x := o.first) f0 (by omega)).1
  have n2 := (numB_num (x := o.last) (by omega) lm).1
  have n3 := (numB_num (x := o.way) (by omega) (by omega)).1
  rw [badAt_rest fun m hm => ?_]
  · rfl
  · have : m = 0 ∨ m = 1 ∨ m = 2 ∨ m = 3 ∨ m = 4 ∨ m = 5 := by omega
    rcases this with rfl | rfl | rfl | rfl | rfl | rfl
    · show (!decide (("order" : Str) = "order")) = false
      rw [decide_eq_true rfl]; rfl
    · show (!isAddrB (.str o.src)) = false
      rw [ok.as]; rfl
    · show (!isAddrB (.str o.tgt)) = false
      rw [ok.at_]; rfl
    · show (!numB (Str.ofString (toString o.first))) = false
      rw [n1]; rfl
    · show (!numB (Str.ofString (toString o.last))) = false
      rw [n2]; rfl
    · show (!numB (Str.ofString (toString o.way))) = false
      rw [n3]; rfl
theorem row_ord {o : Ordr} (ok : o.Ok) : ordW (rowW o) = o := by
  have f0 := ok.f0
  have fl := ok.fl
  have lm := ok.lm
  have w1 := ok.w1
  have w30 := ok.w30
  show (⟨o.src, o.tgt, valW (Str.ofString (toString o.first)), valW (Str.ofString (toString o.last)), valW (Str.ofString (toString o.way))⟩ : Ordr) = o
  rw [(numB_num (x := o.first) f0 (by omega)).2, (numB_num (x := o.last) (by omega) lm).2, (numB_num (x := o.way) (by omega) (by omega)).2]
theorem rows_back {os : List Ordr} (g : Good os) : noteAt 0 (os.map rowW) = none ∧ (os.map rowW).map ordW = os ∧ badOrd [] os = none := by
  refine ⟨noteAt_all fun z hz => ?_, ?_, badOrd_good g⟩
  · obtain ⟨o, ho, rfl⟩ := List.mem_map.mp hz
    exact row_good (g.ok o ho)
  · rw [List.map_map]
    refine (List.map_congr_left fun o ho => ?_).trans (List.map_id _)
    exact row_ord (g.ok o ho)
theorem join_head {y x : Str} : ∀ {l : List Str}, x.length ≤ (Txt.join y (x :: l)).length
  | [] => Nat.le_refl _
  | z :: l => by
    have e : Txt.join y (x :: z :: l) = x ++ y ++ Txt.join y (z :: l) := by
      rw [TL.join_eq, TL.join_eq]
      rfl
    rw [e, Str.length_append, Str.length_append]
    omega
theorem text_ne {os : List Ordr} (h : os ≠ []) : nText (os.map rowW) ≠ "" := by
  cases os with
  | nil => exact absurd rfl h
  | cons o os =>
    intro e
    have h1 : (nLine (rowW o)).length ≤ (nText ((o :: os).map rowW)).length := join_head
    have h2 : ("order" : Str).length ≤ (nLine (rowW o)).length := join_head
    rw [e] at h1
    have e0 : ("" : Str).length = 0 := by decide +kernel
    have e5 : ("order" : Str).length = 5 := by decide +kernel
    omega
def wordB (w : Str) : Bool := decide (w.length ≤ 20) && w.cps.toList.all fun c => decide (c ≠ 32) && decide (c ≠ 10) && decide (c < 128)
theorem wordB_ok {w : Str} (h : wordB w = true) : WordOk w := by
  unfold wordB at h
  simp only [Bool.and_eq_true, decide_eq_true_eq, List.all_eq_true] at h
  exact ⟨h.1, fun z => (h.2 _ z).1.1 rfl, fun z => (h.2 _ z).1.2 rfl, fun c z => (h.2 c z).2⟩
def oddL : List Str := ["", "0", "31", "01", "order", "-1", "1000000000000000001", "11111111111111111111", "a", "A", "ninesigns"]
theorem oddL_ok : ∀ w ∈ oddL, WordOk w := fun w hw => wordB_ok (by
  have : oddL.all wordB = true := by decide +kernel
  exact List.all_eq_true.mp this w hw)
theorem badOrd_over : ∀ {os found : List Ordr} {o : Ordr} {rest : List Ordr}, Good (found ++ os) → (found ++ os).length = 30 → badOrd found (os ++ o :: rest) = some 30
  | [], found, o, rest, g, h => by
    rw [List.append_nil] at h
    show badOrd found (o :: rest) = _
    unfold badOrd
    rw [if_pos (.inl h), h]
  | p :: os, found, o, rest, g, h => by
    show badOrd found (p :: (os ++ o :: rest)) = _
    unfold badOrd
    have hl := g.len
    rw [List.length_append, List.length_cons] at hl
    have ho := g.ok p (by simp)
    have ap := (List.pairwise_append.mp g.apart).2.2
    rw [if_neg (by
      rintro (z | z | z)
      · omega
      · rw [ok_okOrd ho] at z; cases z
      · obtain ⟨q, hq, e⟩ := List.any_eq_true.mp z
        rw [ap q hq p (by simp)] at e
        cases e)]
    exact badOrd_over (by simpa using g) (by simpa using h)
def oK (k : Nat) : Ordr := ⟨"a", "b", (k : Nat), (k : Nat), 1⟩
def osN (n : Nat) : List Ordr := (List.range n).map oK
theorem oK_ok {k : Nat} (h : k < 100) : (oK k).Ok := ⟨by show isAddrB (.str "a") = true; decide +kernel, by show isAddrB (.str "b") = true; decide +kernel, by show ("a" : Str) ≠ "b"; decide, by show (0 : Int) ≤ (k : Nat); omega, by show ((k : Nat) : Int) ≤ (k : Nat); omega, by show ((k : Nat) : Int) ≤ 1000000000000000000; omega, by show (1 : Int) ≤ 1; decide, by show (1 : Int) ≤ 30; decide⟩
theorem osN_good {n : Nat} (h : n ≤ 30) : Good (osN n) := by
  refine ⟨by unfold osN; rw [List.length_map, List.length_range]; exact h, fun o ho => ?_, ?_⟩
  · obtain ⟨k, hk, rfl⟩ := List.mem_map.mp ho
    exact oK_ok (by have := List.mem_range.mp hk; omega)
  · refine List.pairwise_map.mpr (List.pairwise_lt_range.imp fun {a b} hab => ?_)
    unfold overB oK
    simp
    omega
theorem osN_row (k : Nat) : nLine (rowW (oK k)) = ("order a b " : Str) ++ Str.ofString (toString ((k : Nat) : Int)) ++ (" " : Str) ++ Str.ofString (toString ((k : Nat) : Int)) ++ (" 1" : Str) := by
  rw [row_line]
  have e1 : Str.empty ++ ("order" : Str) ++ (" " : Str) ++ (oK k).src ++ (" " : Str) ++ (oK k).tgt ++ (" " : Str) = ("order a b " : Str) := by
    show Str.empty ++ ("order" : Str) ++ (" " : Str) ++ ("a" : Str) ++ (" " : Str) ++ ("b" : Str) ++ (" " : Str) = _
    decide +kernel
  have e2 : (" " : Str) ++ Str.ofString (toString (oK k).way) = (" 1" : Str) := by
    show (" " : Str) ++ Str.ofString (toString (1 : Int)) = _
    decide +kernel
  rw [e1]
  refine TL.ext_tl ?_
  have e3 := congrArg TL.tl e2
  rw [TL.tl_append] at e3
  simp only [TL.tl_append, List.append_assoc]
  rw [e3]
  rfl
theorem osN_rows {n : Nat} (h : n ≤ 31) : RowsOk ((osN n).map rowW) ∧ noteAt 0 ((osN n).map rowW) = none ∧ ((osN n).map rowW).map ordW = osN n := by
  have ok : ∀ o ∈ osN n, o.Ok := fun o ho => by
    obtain ⟨k, hk, rfl⟩ := List.mem_map.mp ho
    exact oK_ok (by have := List.mem_range.mp hk; omega)
  refine ⟨⟨?_, fun ws hw => ?_, fun ws hw => ?_, fun ws hw => ?_⟩, noteAt_all fun z hz => ?_, ?_⟩
  · unfold osN
    rw [List.length_map, List.length_map, List.length_range]
    omega
  · obtain ⟨o, _, rfl⟩ := List.mem_map.mp hw
    intro h; cases h
  · obtain ⟨o, _, rfl⟩ := List.mem_map.mp hw
    show 6 ≤ 8; decide
  · obtain ⟨o, ho, rfl⟩ := List.mem_map.mp hw
    exact row_words (ok o ho)
  · obtain ⟨o, ho, rfl⟩ := List.mem_map.mp hz
    exact row_good (ok o ho)
  · rw [List.map_map]
    refine (List.map_congr_left fun o ho => ?_).trans (List.map_id _)
    exact row_ord (ok o ho)
theorem osN_30 : badOrd [] (osN 30) = none := badOrd_good (osN_good (Nat.le_refl _))
theorem osN_31 : badOrd [] (osN 31) = some 30 := by
  have : osN 31 = osN 30 ++ oK 30 :: [] := by
    unfold osN
    rw [List.range_succ, List.map_append]
    rfl
  rw [this]
  exact badOrd_over (osN_good (Nat.le_refl _)) (by show (osN 30).length = 30; unfold osN; rw [List.length_map, List.length_range])
theorem osN_ne {n : Nat} (h : 0 < n) : osN n ≠ [] := fun e => by
  have := congrArg List.length e
  unfold osN at this
  rw [List.length_map, List.length_range] at this
  simp at this
  omega
end MF
set_option Elab.async false
set_option linter.all false
set_option maxHeartbeats 1000000
namespace MF
open PySem

def holds (o : Ordr) (x : Str) (d : Int) : Bool := decide (o.src = x) && (decide (o.first ≤ d) && decide (d ≤ o.last))
def ordFor : List Ordr → Str → Int → Option Nat
  | [], _, _ => none
  | o :: os, x, d => if holds o x d = true then some 0 else (ordFor os x d).map (· + 1)
theorem ordFor_some {x : Str} {d : Int} : ∀ {os : List Ordr} {i : Nat}, ordFor os x d = some i → ∃ o, os[i]? = some o ∧ holds o x d = true
  | [], i, h => by cases h
  | o :: os, i, h => by
    unfold ordFor at h
    by_cases q : holds o x d = true
    · rw [if_pos q] at h
      cases h
      exact ⟨o, rfl, q⟩
    · rw [if_neg q] at h
      cases e : ordFor os x d with
      | none => rw [e] at h; cases h
      | some j =>
        rw [e] at h
        cases h
        obtain ⟨p, h1, h2⟩ := ordFor_some e
        exact ⟨p, by simpa using h1, h2⟩
theorem ordFor_is {x : Str} {d : Int} {o : Ordr} : ∀ {os : List Ordr} {i : Nat}, (∀ (j : Nat) p, j < i → os[j]? = some p → holds p x d = false) → os[i]? = some o → holds o x d = true → ordFor os x d = some i
  | [], i, _, h, _ => by simp at h
  | p :: os, 0, _, h, q => by
    simp at h
    subst h
    unfold ordFor
    rw [if_pos q]
  | p :: os, i + 1, hn, h, q => by
    have h0 : holds p x d = false := hn 0 p (Nat.succ_pos _) rfl
    unfold ordFor
    rw [h0, if_neg Bool.false_ne_true, ordFor_is (i := i) (fun j r hj e => hn (j + 1) r (Nat.succ_lt_succ hj) (by simpa using e)) (by simpa using h) q]
    rfl
theorem ordFor_none {x : Str} {d : Int} : ∀ {os : List Ordr}, (∀ p ∈ os, holds p x d = false) → ordFor os x d = none
  | [], _ => rfl
  | p :: os, h => by
    unfold ordFor
    rw [h p (by simp), if_neg Bool.false_ne_true, ordFor_none fun q hq => h q (by simp [hq])]
    rfl
theorem ordFor_none_iff {x : Str} {d : Int} {os : List Ordr} : ordFor os x d = none ↔ ∀ p ∈ os, holds p x d = false := by
  refine ⟨fun h => ?_, ordFor_none⟩
  induction os with
  | nil => intro p hp; cases hp
  | cons o os ih =>
    unfold ordFor at h
    by_cases q : holds o x d = true
    · rw [if_pos q] at h; cases h
    · rw [if_neg q] at h
      have h' : ordFor os x d = none := by
        cases e : ordFor os x d with
        | none => rfl
        | some j => rw [e] at h; cases h
      intro p hp
      rcases List.mem_cons.mp hp with rfl | hp
      · simpa using q
      · exact ih h' p hp
theorem ordFor_congr {x : Str} {d e : Int} : ∀ {os : List Ordr}, (∀ p ∈ os, holds p x d = holds p x e) → ordFor os x d = ordFor os x e
  | [], _ => rfl
  | p :: os, h => by
    unfold ordFor
    rw [h p (by simp), ordFor_congr fun q hq => h q (by simp [hq])]
def changes : List Ordr → Int → List Int
  | [], _ => []
  | o :: os, d => ([o.first, o.last + 1].filter fun c => decide (d < c)) ++ changes os d
theorem mem_changes {d c : Int} : ∀ {os : List Ordr}, c ∈ changes os d ↔ d < c ∧ ∃ o ∈ os, c = o.first ∨ c = o.last + 1
  | [] => by simp [changes]
  | o :: os => by
    unfold changes
    rw [List.mem_append, mem_changes (os := os), List.mem_filter]
    simp only [List.mem_cons, List.not_mem_nil, or_false, decide_eq_true_eq, exists_eq_or_imp]
    constructor
    · rintro (⟨h1, h2⟩ | ⟨h1, o', h2, h3⟩)
      · exact ⟨h2, .inl h1⟩
      · exact ⟨h1, .inr ⟨o', h2, h3⟩⟩
    · rintro ⟨h1, h2 | ⟨o', h2, h3⟩⟩
      · exact .inl ⟨h2, h1⟩
      · exact .inr ⟨h1, o', h2, h3⟩
def leastOf : List Int → Option Int
  | [] => none
  | a :: as => match leastOf as with
    | none => some a
    | some b => some (if a ≤ b then a else b)
theorem leastOf_none {l : List Int} : leastOf l = none ↔ l = [] := by
  cases l with
  | nil => simp [leastOf]
  | cons a as =>
    unfold leastOf
    cases leastOf as <;> simp
theorem leastOf_some : ∀ {l : List Int} {m : Int}, leastOf l = some m ↔ m ∈ l ∧ ∀ c ∈ l, m ≤ c
  | [], m => by simp [leastOf]
  | a :: as, m => by
    unfold leastOf
    cases e : leastOf as with
    | none =>
      have := leastOf_none.mp e
      subst this
      simp only [Option.some.injEq, List.mem_singleton]
      constructor
      · rintro rfl; exact ⟨rfl, fun c hc => by rw [hc]; exact Int.le_refl _⟩
      · rintro ⟨h, _⟩; exact h.symm
    | some b =>
      obtain ⟨hb, hm⟩ := (leastOf_some (l := as) (m := b)).mp e
      simp only [Option.some.injEq, List.mem_cons]
      constructor
      · intro h
        by_cases q : a ≤ b
        · rw [if_pos q] at h
          subst h
          exact ⟨.inl rfl, fun c hc => by
            rcases hc with rfl | hc
            · exact Int.le_refl _
            · have := hm c hc; omega⟩
        · rw [if_neg q] at h
          subst h
          exact ⟨.inr hb, fun c hc => by
            rcases hc with rfl | hc
            · omega
            · exact hm c hc⟩
      · rintro ⟨h1, h2⟩
        have ha := h2 a (.inl rfl)
        have hb' := h2 b (.inr hb)
        rcases h1 with rfl | h1
        · rw [if_pos hb']
        · have := hm m h1
          by_cases q : a ≤ b
          · rw [if_pos q]; omega
          · rw [if_neg q]; omega
def nextCh (os : List Ordr) (d : Int) : Option Int := leastOf (changes os d)
theorem nextCh_gt {os : List Ordr} {d c : Int} (h : nextCh os d = some c) : d < c := (mem_changes.mp (leastOf_some.mp h).1).1
theorem nextCh_const {os : List Ordr} {d e : Int} (hd : d ≤ e) (hc : ∀ c, nextCh os d = some c → e < c) : nextCh os e = nextCh os d := by
  have sub : ∀ c, c ∈ changes os e ↔ c ∈ changes os d := fun c => by
    rw [mem_changes, mem_changes]
    constructor
    · rintro ⟨h1, h2⟩; exact ⟨by omega, h2⟩
    · rintro ⟨h1, h2⟩
      refine ⟨?_, h2⟩
      cases q : nextCh os d with
      | none =>
        have := leastOf_none.mp q
        have hm : c ∈ changes os d := mem_changes.mpr ⟨h1, h2⟩
        rw [this] at hm; cases hm
      | some m =>
        have := (leastOf_some.mp q).2 c (mem_changes.mpr ⟨h1, h2⟩)
        have := hc m q
        omega
  unfold nextCh
  cases q : leastOf (changes os d) with
  | none =>
    have h0 := leastOf_none.mp q
    refine leastOf_none.mpr ?_
    cases r : changes os e with
    | nil => rfl
    | cons a as =>
      have : a ∈ changes os d := (sub a).mp (by rw [r]; simp)
      rw [h0] at this; cases this
  | some m =>
    obtain ⟨h1, h2⟩ := leastOf_some.mp q
    exact leastOf_some.mpr ⟨(sub m).mpr h1, fun c hc' => h2 c ((sub c).mp hc')⟩
theorem ordFor_const {os : List Ordr} {x : Str} {d e : Int} (hd : d ≤ e) (hc : ∀ c ∈ changes os d, e < c) : ordFor os x e = ordFor os x d := by
  refine ordFor_congr fun o ho => ?_
  have h1 : d < o.first → e < o.first := fun h => hc _ (mem_changes.mpr ⟨h, o, ho, .inl rfl⟩)
  have h2 : d < o.last + 1 → e < o.last + 1 := fun h => hc _ (mem_changes.mpr ⟨h, o, ho, .inr rfl⟩)
  have e1 : decide (o.first ≤ e) = decide (o.first ≤ d) := by
    by_cases q : o.first ≤ d
    · rw [decide_eq_true q, decide_eq_true (by omega)]
    · rw [decide_eq_false q, decide_eq_false (by omega)]
  have e2 : decide (e ≤ o.last) = decide (d ≤ o.last) := by
    by_cases q : d ≤ o.last
    · rw [decide_eq_true q, decide_eq_true (by omega)]
    · rw [decide_eq_false q, decide_eq_false (by omega)]
  unfold holds
  rw [e1, e2]

abbrev Pt := Str × Int
def nxt (os : List Ordr) (s : Pt) : Option Pt := (ordFor os s.1 s.2).bind fun i => os[i]?.map fun o => (o.tgt, s.2 + o.way)
inductive Go (os : List Ordr) : Pt → Nat → Pt → Prop
  | refl (s : Pt) : Go os s 0 s
  | step {s s' t : Pt} {n : Nat} (h : nxt os s = some s') (r : Go os s' n t) : Go os s (n + 1) t
def Ends (os : List Ordr) (s : Pt) (n : Nat) (t : Pt) : Prop := Go os s n t ∧ nxt os t = none
theorem nxt_of {os : List Ordr} {x : Str} {d : Int} {i : Nat} {o : Ordr} (h : ordFor os x d = some i) (e : os[i]? = some o) : nxt os (x, d) = some (o.tgt, d + o.way) := by
  unfold nxt
  simp only [h, Option.bind_some, e, Option.map_some]
theorem nxt_none {os : List Ordr} {x : Str} {d : Int} : nxt os (x, d) = none ↔ ordFor os x d = none := by
  unfold nxt
  cases h : ordFor os x d with
  | none => simp
  | some i =>
    obtain ⟨o, e, _⟩ := ordFor_some h
    simp [e]
theorem nxt_some {os : List Ordr} {s s' : Pt} (h : nxt os s = some s') : ∃ i o, ordFor os s.1 s.2 = some i ∧ os[i]? = some o ∧ holds o s.1 s.2 = true ∧ s' = (o.tgt, s.2 + o.way) := by
  obtain ⟨x, d⟩ := s
  unfold nxt at h
  cases q : ordFor os x d with
  | none => simp [q] at h
  | some i =>
    obtain ⟨o, e, ho⟩ := ordFor_some q
    simp [q, e] at h
    exact ⟨i, o, rfl, e, ho, h.symm⟩
theorem Go.trans {os : List Ordr} {s t u : Pt} {n m : Nat} (a : Go os s n t) (b : Go os t m u) : Go os s (n + m) u := by
  induction a with
  | refl s => rw [Nat.zero_add]; exact b
  | step h r ih => rw [Nat.succ_add]; exact .step h (ih b)
theorem Go.one {os : List Ordr} {s t : Pt} (h : nxt os s = some t) : Go os s 1 t := .step h (.refl t)
theorem Go.det {os : List Ordr} {s t u : Pt} {n : Nat} (a : Go os s n t) (b : Go os s n u) : t = u := by
  induction a with
  | refl s => cases b; rfl
  | step h r ih =>
    cases b with
    | step h' r' => rw [h] at h'; cases h'; exact ih r'
theorem Ends.after {os : List Ordr} {s t u : Pt} {n m : Nat} (e : Ends os s n t) (g : Go os s m u) : m ≤ n ∧ Ends os u (n - m) t := by
  induction g generalizing n with
  | refl s => exact ⟨Nat.zero_le _, e⟩
  | step h r ih =>
    obtain ⟨a, b⟩ := e
    cases a with
    | refl => rw [b] at h; cases h
    | step h' r' =>
      rw [h] at h'
      cases h'
      obtain ⟨h1, h2⟩ := ih ⟨r', b⟩
      exact ⟨Nat.succ_le_succ h1, by rw [Nat.succ_sub_succ]; exact h2⟩
theorem Ends.before {os : List Ordr} {s t u : Pt} {n m : Nat} (g : Go os s m u) (e : Ends os u n t) : Ends os s (m + n) t := ⟨g.trans e.1, e.2⟩
theorem Ends.uniq {os : List Ordr} {s t u : Pt} {n m : Nat} (a : Ends os s n t) (b : Ends os s m u) : n = m ∧ t = u := by
  obtain ⟨h1, h2⟩ := a.after b.1
  obtain ⟨h3, h4⟩ := b.after a.1
  have e : n = m := Nat.le_antisymm h3 h1
  subst e
  exact ⟨rfl, a.1.det b.1⟩
structure Fine (os : List Ordr) (M : Int) : Prop where
  way : ∀ o ∈ os, 1 ≤ o.way
  last : ∀ o ∈ os, o.last ≤ M
theorem Good.fine {os : List Ordr} (g : Good os) : Fine os 1000000000000000000 := ⟨fun o h => (g.ok o h).w1, fun o h => (g.ok o h).lm⟩
theorem nxt_day {os : List Ordr} {M : Int} (f : Fine os M) {s s' : Pt} (h : nxt os s = some s') : s.2 < s'.2 ∧ s.2 ≤ M := by
  obtain ⟨i, o, h1, h2, h3, rfl⟩ := nxt_some h
  have ho : o ∈ os := List.mem_of_getElem? h2
  have := f.way o ho
  have := f.last o ho
  simp only [holds, Bool.and_eq_true, decide_eq_true_eq] at h3
  refine ⟨?_, by omega⟩
  show s.2 < s.2 + o.way
  omega
theorem Go.day {os : List Ordr} {M : Int} (f : Fine os M) {s t : Pt} {n : Nat} (g : Go os s n t) : s.2 + (n : Int) ≤ t.2 := by
  induction g with
  | refl s => simp
  | step h r ih =>
    have := (nxt_day f h).1
    push_cast
    omega
theorem ends_ex {os : List Ordr} {M : Int} (f : Fine os M) : ∀ s : Pt, ∃ n t, Ends os s n t := by
  have all : ∀ (k : Nat) (s : Pt), (M + 1 - s.2).toNat ≤ k → ∃ n t, Ends os s n t := by
    intro k
    induction k with
    | zero =>
      intro s hs
      refine ⟨0, s, .refl s, ?_⟩
      cases q : nxt os s with
      | none => rfl
      | some s' => have := nxt_day f q; omega
    | succ k ih =>
      intro s hs
      cases q : nxt os s with
      | none => exact ⟨0, s, .refl s, q⟩
      | some s' =>
        have := nxt_day f q
        obtain ⟨n, t, h1, h2⟩ := ih s' (by omega)
        exact ⟨n + 1, t, .step q h1, h2⟩
  exact fun s => all _ s (Nat.le_refl _)
theorem Go.shift {os : List Ordr} {M : Int} (f : Fine os M) {hi δ : Int} (h0 : 0 ≤ δ) {s t : Pt} {n : Nat} (g : Go os s n t) (hc : ∀ c ∈ changes os s.2, hi < c) (ht : t.2 + δ ≤ hi) : Go os (s.1, s.2 + δ) n (t.1, t.2 + δ) := by
  induction g with
  | refl s => exact .refl _
  | @step s s' t n h r ih =>
    have hd := (nxt_day f h).1
    have hl := r.day f
    have hle : s.2 + δ ≤ hi := by omega
    obtain ⟨i, o, h1, h2, h3, e⟩ := nxt_some h
    have e1 : ordFor os s.1 (s.2 + δ) = some i := by
      rw [← h1]
      exact ordFor_const (by omega) fun c hc' => by have := hc c hc'; omega
    have e2 : nxt os (s.1, s.2 + δ) = some (s'.1, s'.2 + δ) := by
      rw [nxt_of e1 h2, e]
      simp only [Option.some.injEq, Prod.mk.injEq, true_and]
      omega
    refine .step e2 (ih (fun c hc' => hc c ?_) ht)
    obtain ⟨q1, q2⟩ := mem_changes.mp hc'
    exact mem_changes.mpr ⟨by omega, q2⟩
theorem Go.rounds {os : List Ordr} {M : Int} (f : Fine os M) {x : Str} {d d1 hi : Int} {k : Nat} (g : Go os (x, d1) k (x, d)) (hd : d1 ≤ d) (hc : ∀ c ∈ changes os d1, hi < c) : ∀ j : Nat, d + (j : Int) * (d - d1) ≤ hi → Go os (x, d) (j * k) (x, d + (j : Int) * (d - d1))
  | 0, _ => by simp; exact .refl _
  | j + 1, h => by
    have hp : 0 ≤ (j : Int) * (d - d1) := Int.mul_nonneg (Int.natCast_nonneg _) (by omega)
    have e : ((j + 1 : Nat) : Int) * (d - d1) = (j : Int) * (d - d1) + (d - d1) := by
      push_cast
      rw [Int.add_mul, Int.one_mul]
    rw [e] at h ⊢
    have a := Go.rounds f g hd hc j (by omega)
    have b := Go.shift f (δ := (j : Int) * (d - d1) + (d - d1)) (by omega) g hc (by show d + _ ≤ hi; omega)
    have e3 : (x, d1 + ((j : Int) * (d - d1) + (d - d1))) = (x, d + (j : Int) * (d - d1)) := by
      congr 1
      omega
    have b' : Go os (x, d + (j : Int) * (d - d1)) k (x, d + ((j : Int) * (d - d1) + (d - d1))) := by
      rw [← e3]
      exact b
    rw [Nat.succ_mul]
    exact a.trans b'
end MF
set_option Elab.async false
set_option linter.all false
set_option maxHeartbeats 1000000
namespace MF
open PySem

abbrev Pr := Pt × Pt
def norm (A B : Pt) : Pr := if B.2 < A.2 then (B, A) else (A, B)
def nstep (os : List Ordr) (p : Pr) : Option Pr := (nxt os p.1).map fun e => norm e p.2
inductive MGo (os : List Ordr) : Pr → Nat → Pr → Prop
  | refl (p : Pr) : MGo os p 0 p
  | step {p p' r : Pr} {n : Nat} (ne : p.1 ≠ p.2) (h : nstep os p = some p') (g : MGo os p' n r) : MGo os p (n + 1) r
def Meets (os : List Ordr) (p : Pr) (r : Option Pt) : Prop := (∃ n A, MGo os p n (A, A) ∧ r = some A) ∨ ∃ n q, MGo os p n q ∧ q.1 ≠ q.2 ∧ nxt os q.1 = none ∧ r = none
theorem MGo.trans {os : List Ordr} {p q r : Pr} {n m : Nat} (a : MGo os p n q) (b : MGo os q m r) : MGo os p (n + m) r := by
  induction a with
  | refl p => rw [Nat.zero_add]; exact b
  | step ne h g ih => rw [Nat.succ_add]; exact .step ne h (ih b)
theorem Meets.after {os : List Ordr} {p q : Pr} {r : Option Pt} {n : Nat} (g : MGo os p n q) (m : Meets os p r) : Meets os q r := by
  induction g with
  | refl p => exact m
  | step ne h g ih =>
    refine ih ?_
    rcases m with ⟨k, A, a, e⟩ | ⟨k, R, a, b, c, e⟩
    · cases a with
      | refl => exact absurd rfl ne
      | step ne' h' g' => rw [h] at h'; cases h'; exact .inl ⟨_, A, g', e⟩
    · cases a with
      | refl =>
        unfold nstep at h
        rw [c] at h
        cases h
      | step ne' h' g' => rw [h] at h'; cases h'; exact .inr ⟨_, R, g', b, c, e⟩
theorem Meets.before {os : List Ordr} {p q : Pr} {r : Option Pt} {n : Nat} (g : MGo os p n q) (m : Meets os q r) : Meets os p r := by
  rcases m with ⟨k, A, a, e⟩ | ⟨k, R, a, b, c, e⟩
  · exact .inl ⟨_, A, g.trans a, e⟩
  · exact .inr ⟨_, R, g.trans a, b, c, e⟩
theorem Meets.same {os : List Ordr} {A : Pt} {r : Option Pt} (m : Meets os (A, A) r) : r = some A := by
  rcases m with ⟨k, B, a, e⟩ | ⟨k, R, a, b, c, e⟩
  · cases a with
    | refl => exact e
    | step ne _ _ => exact absurd rfl ne
  · cases a with
    | refl => exact absurd rfl b
    | step ne _ _ => exact absurd rfl ne
theorem Meets.none {os : List Ordr} {p : Pr} {r : Option Pt} (m : Meets os p r) (ne : p.1 ≠ p.2) (h : nxt os p.1 = none) : r = none := by
  rcases m with ⟨k, B, a, e⟩ | ⟨k, R, a, b, c, e⟩
  · cases a with
    | refl => exact absurd rfl ne
    | step _ h' _ =>
      unfold nstep at h'
      rw [h] at h'
      cases h'
  · exact e
theorem norm_le (A B : Pt) : (norm A B).1.2 ≤ (norm A B).2.2 := by
  unfold norm
  split
  · show B.2 ≤ A.2; omega
  · show A.2 ≤ B.2; omega
theorem norm_sum (A B : Pt) : (norm A B).1.2 + (norm A B).2.2 = A.2 + B.2 := by
  unfold norm
  split
  · show B.2 + A.2 = _; omega
  · rfl
theorem MGo.days {os : List Ordr} {M : Int} (f : Fine os M) {p q : Pr} {n : Nat} (g : MGo os p n q) (hp : p.1.2 ≤ p.2.2) : p.1.2 + p.2.2 + (n : Int) ≤ q.1.2 + q.2.2 ∧ p.1.2 ≤ q.1.2 ∧ q.1.2 ≤ q.2.2 := by
  induction g with
  | refl p => exact ⟨by simp, Int.le_refl _, hp⟩
  | @step p p' r n ne h g ih =>
    unfold nstep at h
    cases q : nxt os p.1 with
    | none => rw [q] at h; cases h
    | some e =>
      rw [q] at h
      have hpe : norm e p.2 = p' := Option.some.inj h
      subst hpe
      have h1 := (nxt_day f q).1
      have h2 := norm_sum e p.2
      have h3 := norm_le e p.2
      obtain ⟨i1, i2, i3⟩ := ih h3
      have h4 : p.1.2 ≤ (norm e p.2).1.2 := by
        unfold norm
        split
        · exact hp
        · show p.1.2 ≤ e.2; omega
      refine ⟨?_, by omega, i3⟩
      push_cast
      omega
def shiftP (p : Pr) (δ : Int) : Pr := ((p.1.1, p.1.2 + δ), (p.2.1, p.2.2 + δ))
theorem shift_inj {p : Pr} {δ : Int} (z : (shiftP p δ).1 = (shiftP p δ).2) : p.1 = p.2 := by
  obtain ⟨⟨a, b⟩, ⟨c, d⟩⟩ := p
  simp only [shiftP, Prod.mk.injEq] at z ⊢
  exact ⟨z.1, by omega⟩
theorem norm_shift (A B : Pt) (δ : Int) : norm (A.1, A.2 + δ) (B.1, B.2 + δ) = shiftP (norm A B) δ := by
  unfold norm shiftP
  by_cases h : B.2 < A.2
  · rw [if_pos h, if_pos (show B.2 + δ < A.2 + δ by omega)]
  · rw [if_neg h, if_neg (show ¬ B.2 + δ < A.2 + δ by omega)]
theorem MGo.shift {os : List Ordr} {M : Int} (f : Fine os M) {hi δ : Int} (h0 : 0 ≤ δ) {p q : Pr} {n : Nat} (g : MGo os p n q) (hp : p.1.2 ≤ p.2.2) (hc : ∀ c ∈ changes os p.1.2, hi < c) (hq : q.1.2 + δ ≤ hi) : MGo os (shiftP p δ) n (shiftP q δ) := by
  induction g with
  | refl p => exact .refl _
  | @step p p' r n ne h g ih =>
    have hh := h
    unfold nstep at h
    cases q : nxt os p.1 with
    | none => rw [q] at h; cases h
    | some e =>
      rw [q] at h
      have hpe : norm e p.2 = p' := Option.some.inj h
      subst hpe
      have h1 := (nxt_day f q).1
      have h3 := norm_le e p.2
      have d2 := g.days f h3
      have h4 : p.1.2 ≤ (norm e p.2).1.2 := by
        unfold norm
        split
        · exact hp
        · show p.1.2 ≤ e.2; omega
      obtain ⟨i, o, g1, g2, g3, eE⟩ := nxt_some q
      have e1 : ordFor os p.1.1 (p.1.2 + δ) = some i := by
        rw [← g1]
        exact ordFor_const (by omega) fun c hc' => by have := hc c hc'; omega
      have e2 : nxt os (shiftP p δ).1 = some (e.1, e.2 + δ) := by
        show nxt os (p.1.1, p.1.2 + δ) = _
        rw [nxt_of e1 g2, eE]
        simp only [Option.some.injEq, Prod.mk.injEq, true_and]
        omega
      have e3 : nstep os (shiftP p δ) = some (shiftP (norm e p.2) δ) := by
        unfold nstep
        rw [e2]
        show some (norm (e.1, e.2 + δ) (p.2.1, p.2.2 + δ)) = _
        rw [norm_shift]
      refine .step (fun z => ne (shift_inj z)) e3 (ih h3 (fun c hc' => hc c ?_) hq)
      obtain ⟨q1, q2⟩ := mem_changes.mp hc'
      exact mem_changes.mpr ⟨by omega, q2⟩
theorem MGo.rounds {os : List Ordr} {M : Int} (f : Fine os M) {p : Pr} {δ hi : Int} {k : Nat} (g : MGo os p k (shiftP p δ)) (hp : p.1.2 ≤ p.2.2) (hd : 0 ≤ δ) (hc : ∀ c ∈ changes os p.1.2, hi < c) : ∀ j : Nat, p.1.2 + δ + (j : Int) * δ ≤ hi → MGo os (shiftP p δ) (j * k) (shiftP p (δ + (j : Int) * δ))
  | 0, _ => by simp; exact .refl _
  | j + 1, h => by
    have hj : 0 ≤ (j : Int) * δ := Int.mul_nonneg (Int.natCast_nonneg _) hd
    have e : ((j + 1 : Nat) : Int) * δ = (j : Int) * δ + δ := by
      push_cast
      rw [Int.add_mul, Int.one_mul]
    rw [e] at h ⊢
    have a := MGo.rounds f g hp hd hc j (by omega)
    have b := MGo.shift f (δ := δ + (j : Int) * δ) (by omega) g hp hc (by show p.1.2 + δ + _ ≤ hi; omega)
    have e3 : shiftP (shiftP p δ) (δ + (j : Int) * δ) = shiftP p (δ + ((j : Int) * δ + δ)) := by
      unfold shiftP
      simp only [Prod.mk.injEq, true_and]
      constructor <;> omega
    rw [e3] at b
    rw [Nat.succ_mul]
    exact a.trans b
theorem meets_of_go {os : List Ordr} {M : Int} (f : Fine os M) {E L : Pt} {j : Nat} (g : Go os E j L) : Meets os (E, L) (some L) := by
  have : ∃ n, MGo os (E, L) n (L, L) := by
    induction g with
    | refl s => exact ⟨0, .refl _⟩
    | @step s s' t n h r ih =>
      obtain ⟨m, im⟩ := ih
      have h1 := (nxt_day f h).1
      have h2 := r.day f
      have e : nstep os (s, t) = some (s', t) := by
        unfold nstep
        rw [h]
        show some (norm s' t) = _
        unfold norm
        rw [if_neg (by omega)]
      exact ⟨m + 1, .step (fun z => by have : s.2 = t.2 := congrArg Prod.snd z; omega) e im⟩
  obtain ⟨n, h⟩ := this
  exact .inl ⟨n, L, h, rfl⟩
theorem meets_ex {os : List Ordr} {M : Int} (f : Fine os M) (p : Pr) (hp : p.1.2 ≤ p.2.2) : ∃ r, Meets os p r := by
  have all : ∀ (k : Nat) (p : Pr), p.1.2 ≤ p.2.2 → ((M + 1 - p.1.2).toNat + (M + 1 - p.2.2).toNat) ≤ k → ∃ r, Meets os p r := by
    intro k
    induction k with
    | zero =>
      intro p hp hk
      by_cases ne : p.1 = p.2
      · exact ⟨some p.1, .inl ⟨0, p.1, by have : p = (p.1, p.1) := Prod.ext rfl ne.symm; rw [← this]; exact .refl _, rfl⟩⟩
      · cases q : nxt os p.1 with
        | none => exact ⟨none, .inr ⟨0, p, .refl _, ne, q, rfl⟩⟩
        | some s' => have := nxt_day f q; omega
    | succ k ih =>
      intro p hp hk
      by_cases ne : p.1 = p.2
      · exact ⟨some p.1, .inl ⟨0, p.1, by have : p = (p.1, p.1) := Prod.ext rfl ne.symm; rw [← this]; exact .refl _, rfl⟩⟩
      · cases q : nxt os p.1 with
        | none => exact ⟨none, .inr ⟨0, p, .refl _, ne, q, rfl⟩⟩
        | some e =>
          have h1 := nxt_day f q
          obtain ⟨r, hr⟩ := ih (norm e p.2) (norm_le _ _) (by
            unfold norm
            split
            · show (M + 1 - p.2.2).toNat + (M + 1 - e.2).toNat ≤ k
              omega
            · show (M + 1 - e.2).toNat + (M + 1 - p.2.2).toNat ≤ k
              omega)
          exact ⟨r, .before (.step ne (by unfold nstep; rw [q]; rfl) (.refl _)) hr⟩
  exact all _ p hp (Nat.le_refl _)
end MF
set_option Elab.async false
set_option linter.all false
set_option maxHeartbeats 1000000
namespace MF
open PySem
def On (os : List Ordr) (s t : Pt) : Prop := ∃ n, Go os s n t
theorem On.refl (os : List Ordr) (s : Pt) : On os s s := ⟨0, .refl s⟩
theorem On.trans {os : List Ordr} {s t u : Pt} (a : On os s t) (b : On os t u) : On os s u := let ⟨n, g⟩ := a; let ⟨m, h⟩ := b; ⟨n + m, g.trans h⟩
theorem On.tail {os : List Ordr} {s t : Pt} (h : On os s t) (ne : s ≠ t) : ∃ u, nxt os s = some u ∧ On os u t := by
  obtain ⟨n, g⟩ := h
  cases g with
  | refl => exact absurd rfl ne
  | step h g => exact ⟨_, h, _, g⟩
theorem On.day {os : List Ordr} {M : Int} (f : Fine os M) {s t : Pt} (h : On os s t) : s.2 ≤ t.2 ∧ (t.2 ≤ s.2 → s = t) := by
  obtain ⟨n, g⟩ := h
  have h1 := g.day f
  refine ⟨by omega, fun h2 => ?_⟩
  have : n = 0 := by omega
  subst this
  cases g
  rfl
theorem On.line {os : List Ordr} {s t u : Pt} (a : On os s t) (b : On os s u) : On os t u ∨ On os u t := by
  obtain ⟨n, g⟩ := a
  obtain ⟨m, h⟩ := b
  induction g generalizing m with
  | refl => exact .inl ⟨m, h⟩
  | step e g ih =>
    cases h with
    | refl => exact .inr ⟨_, .step e g⟩
    | step e' h => rw [e] at e'; cases e'; exact ih _ h
theorem go_same {os : List Ordr} {M : Int} (f : Fine os M) {s t : Pt} {n m : Nat} (a : Go os s n t) (b : Go os s m t) : n = m := by
  induction a generalizing m with
  | refl s =>
    have := b.day f
    omega
  | step e g ih =>
    cases b with
    | refl =>
      have := (Go.step e g).day f
      omega
    | step e' h => rw [e] at e'; cases e'; rw [ih h]
def FirstIn (os : List Ordr) (A B : Pt) : Option Pt → Prop
  | some C => On os A C ∧ On os B C ∧ ∀ D, On os A D → On os B D → On os C D
  | none => ∀ D, On os A D → ¬ On os B D
theorem FirstIn.symm {os : List Ordr} {A B : Pt} : ∀ {r : Option Pt}, FirstIn os A B r → FirstIn os B A r
  | some _, ⟨a, b, c⟩ => ⟨b, a, fun D x y => c D y x⟩
  | none, h => fun D a b => h D b a
theorem FirstIn.uniq {os : List Ordr} {M : Int} (f : Fine os M) {A B : Pt} : ∀ {r r' : Option Pt}, FirstIn os A B r → FirstIn os A B r' → r = r'
  | none, none, _, _ => rfl
  | none, some C, h, ⟨a, b, _⟩ => absurd b (h C a)
  | some C, none, ⟨a, b, _⟩, h => absurd b (h C a)
  | some C, some D, ⟨a, b, c⟩, ⟨a', b', c'⟩ => by
    have h1 := (c D a' b').day f
    have h2 := (c' C a b).day f
    rw [h1.2 h2.1]
theorem FirstIn.norm {os : List Ordr} {A B : Pt} {r : Option Pt} (h : FirstIn os (norm A B).1 (norm A B).2 r) : FirstIn os A B r := by
  unfold MF.norm at h
  split at h
  · exact h.symm
  · exact h
theorem FirstIn.back {os : List Ordr} {M : Int} (f : Fine os M) {A B e : Pt} (hp : A.2 ≤ B.2) (ne : A ≠ B) (hn : nxt os A = some e) : ∀ {r : Option Pt}, FirstIn os e B r → FirstIn os A B r := by
  have key : ∀ D, On os A D → On os B D → On os e D := fun D h1 h2 => by
    have nD : A ≠ D := fun z => by
      subst z
      have := (h2.day f).2 hp
      exact ne this.symm
    obtain ⟨u, h3, h4⟩ := h1.tail nD
    rw [hn] at h3
    cases h3
    exact h4
  intro r h
  cases r with
  | some C => exact ⟨On.trans ⟨1, Go.one hn⟩ h.1, h.2.1, fun D h1 h2 => h.2.2 D (key D h1 h2) h2⟩
  | none => exact fun D h1 h2 => h D (key D h1 h2) h2
theorem MGo.first {os : List Ordr} {M : Int} (f : Fine os M) {p q : Pr} {n : Nat} (g : MGo os p n q) (hp : p.1.2 ≤ p.2.2) {r : Option Pt} (h : FirstIn os q.1 q.2 r) : FirstIn os p.1 p.2 r := by
  induction g with
  | refl => exact h
  | @step p p' q n ne hs g ih =>
    unfold nstep at hs
    cases e : nxt os p.1 with
    | none => rw [e] at hs; cases hs
    | some u =>
      rw [e] at hs
      have hs' := Option.some.inj hs
      subst hs'
      exact (ih (norm_le _ _) h).norm.back f hp ne e
theorem Meets.first {os : List Ordr} {M : Int} (f : Fine os M) {A B : Pt} {r : Option Pt} (m : Meets os (MF.norm A B) r) : FirstIn os A B r := by
  refine FirstIn.norm ?_
  have hp := norm_le A B
  rcases m with ⟨n, C, g, rfl⟩ | ⟨n, q, g, ne, hn, rfl⟩
  · exact g.first f hp ⟨On.refl _ _, On.refl _ _, fun D h _ => h⟩
  · refine g.first f hp fun D h1 h2 => ?_
    have d := (g.days f hp).2.2
    by_cases c : q.1 = D
    · rw [← c] at h2
      exact ne ((h2.day f).2 d).symm
    · obtain ⟨u, h3, _⟩ := h1.tail c
      rw [hn] at h3
      cases h3
theorem Meets.comm {os : List Ordr} {M : Int} (f : Fine os M) {A B : Pt} {r r' : Option Pt} (m : Meets os (MF.norm A B) r) (m' : Meets os (MF.norm B A) r') : r' = r := FirstIn.uniq f (m'.first f).symm (m.first f)
theorem On.ends {os : List Ordr} {s t u : Pt} {n : Nat} (h : On os s t) (e : Ends os s n u) : ∃ m, Ends os t m u := by
  obtain ⟨k, g⟩ := h
  exact ⟨_, (e.after g).2⟩
theorem Ends.on {os : List Ordr} {s u : Pt} {n : Nat} (e : Ends os s n u) : On os s u := ⟨n, e.1⟩
end MF
set_option Elab.async false
set_option linter.all false
namespace MF
open PySem L2
theorem wipe_get {σ : L2.St} {j : Nat} : ∀ {vs : List Nat}, (wipe σ vs)[j]? = if j ∈ vs then (if j < σ.length then some none else none) else σ[j]?
  | [] => by simp [wipe]
  | v :: vs => by
    show ((wipe σ vs).set v none)[j]? = _
    rw [List.getElem?_set, wipe_length, wipe_get (vs := vs)]
    by_cases c : v = j
    · subst c
      simp
    · rw [if_neg c]
      have : j ∈ v :: vs ↔ j ∈ vs := by
        rw [List.mem_cons]
        exact ⟨fun h => h.resolve_left fun z => c z.symm, .inr⟩
      simp only [this]
theorem wipe_set {σ : L2.St} {i : Nat} {x : Option V} {vs : List Nat} (h : i ∈ vs) : wipe (σ.set i x) vs = wipe σ vs := by
  refine List.ext_getElem? fun j => ?_
  rw [wipe_get, wipe_get, List.length_set, List.getElem?_set]
  by_cases c : j ∈ vs
  · rw [if_pos c, if_pos c]
  · rw [if_neg c, if_neg c, if_neg (show ¬ i = j from fun z => c (z ▸ h))]
theorem wipe_wipe {σ : L2.St} {vs : List Nat} : wipe (wipe σ vs) vs = wipe σ vs := by
  refine List.ext_getElem? fun j => ?_
  rw [wipe_get, wipe_get, wipe_length]
  by_cases c : j ∈ vs
  · rw [if_pos c, if_pos c]
  · rw [if_neg c, if_neg c]
theorem wipe5 {σ : L2.St} {a b c d e : Nat} {v1 v2 v3 v4 v5 : Option V} : wipe ((((((wipe σ [a, b, c, d, e]).set a v1).set b v2).set c v3).set d v4).set e v5) [a, b, c, d, e] = wipe σ [a, b, c, d, e] := by
  rw [wipe_set (by simp), wipe_set (by simp), wipe_set (by simp), wipe_set (by simp), wipe_set (by simp), wipe_wipe]
end MF
set_option Elab.async false
set_option linter.all false
set_option maxRecDepth 100000
set_option maxHeartbeats 2000000
set_option pp.maxSteps 600
namespace MF
open PySem PySem.Spec PyProof.Rows L2 StX
def top (i : Nat) : Stmt := PySem.Challenge.pw_mailforwards_k17_whole_texts_bytes_and_s.main.body.getD i (.Pass ⟨0, 0, 0, 0⟩)
abbrev s_is_integer : Stmt := top 17
abbrev s_is_address : Stmt := top 18
abbrev s_check_letter : Stmt := top 19
abbrev s_is_order : Stmt := top 20
abbrev s_do_overlap : Stmt := top 21
abbrev s_BookX_initX : Stmt := inClass (top 22) 1
abbrev s_Book_orders : Stmt := inClass (top 22) 3
abbrev s_BookX_lenX : Stmt := inClass (top 22) 5
abbrev s_BookX_eqX : Stmt := inClass (top 22) 9
abbrev s_BookX_addX : Stmt := inClass (top 22) 10
abbrev s_BookX_rshiftX : Stmt := inClass (top 22) 11
abbrev s_Book_check_order : Stmt := inClass (top 22) 12
abbrev s_Book_without : Stmt := inClass (top 22) 13
abbrev s_Book_order_for : Stmt := inClass (top 22) 14
abbrev s_Book_order_at : Stmt := inClass (top 22) 15
abbrev s_Book_next_change : Stmt := inClass (top 22) 16
abbrev s_book_of : Stmt := top 23
abbrev s_moved : Stmt := top 24
abbrev s_InvalidOrderX_initX : Stmt := inClass (top 3) 0
abbrev s_NotationErrorX_initX : Stmt := inClass (top 8) 0
abbrev s_DecodeErrorX_initX : Stmt := inClass (top 10) 0
abbrev s_LetterX_initX : Stmt := inClass (top 26) 0
abbrev s_Letter_order_now : Stmt := inClass (top 26) 1
abbrev s_Letter_step : Stmt := inClass (top 26) 2
abbrev s_Letter_skip : Stmt := inClass (top 26) 3
abbrev s_Letter_finish : Stmt := inClass (top 26) 4
abbrev s_end_of : Stmt := top 27
abbrev s_end : Stmt := top 28
abbrev s_times_sent : Stmt := top 29
abbrev s_is_number : Stmt := top 35
abbrev s_format_book : Stmt := top 36
abbrev s_is_good : Stmt := top 37
abbrev s_order_of : Stmt := top 38
abbrev s_parse_book : Stmt := top 39
abbrev s_pack_bytes : Stmt := top 45
abbrev s_unpack_bytes : Stmt := top 46
abbrev s_checksum_of : Stmt := top 47
abbrev s_number_values : Stmt := top 48
abbrev s_address_values : Stmt := top 49
abbrev s_encode_book : Stmt := top 50
abbrev s_DecoderX_initX : Stmt := inClass (top 51) 0
abbrev s_Decoder_take_byte : Stmt := inClass (top 51) 1
abbrev s_Decoder_take_address : Stmt := inClass (top 51) 2
abbrev s_Decoder_take_number : Stmt := inClass (top 51) 3
abbrev s_Decoder_take_order : Stmt := inClass (top 51) 4
abbrev s_Decoder_finish : Stmt := inClass (top 51) 5
abbrev s_decode_book : Stmt := top 52
abbrev s__law_taken : Stmt := top 54
abbrev s__law_great : Stmt := top 55
abbrev s__law_orders : Stmt := top 56
abbrev s__law_book : Stmt := top 57
abbrev s__law_far : Stmt := top 58
abbrev s__law_letter : Stmt := top 59
abbrev s__law_are_letters : Stmt := top 60
abbrev s_law : Stmt := top 61
theorem sc_is_integer : FnScope ["value", "low", "high"] ["value", "low", "high"] (defScope s_is_integer) := ⟨rfl, rfl, rfl, by decide +kernel, rfl, by decide +kernel, by decide +kernel⟩
theorem sc_is_address : FnScope ["value", "letter"] ["value"] (defScope s_is_address) := ⟨rfl, rfl, rfl, by decide +kernel, rfl, by decide +kernel, by decide +kernel⟩
theorem sc_check_letter : FnScope ["address", "day"] ["address", "day"] (defScope s_check_letter) := ⟨rfl, rfl, rfl, by decide +kernel, rfl, by decide +kernel, by decide +kernel⟩
theorem sc_is_order : FnScope ["value", "source", "target", "first", "last", "way"] ["value"] (defScope s_is_order) := ⟨rfl, rfl, rfl, by decide +kernel, rfl, by decide +kernel, by decide +kernel⟩
theorem sc_do_overlap : FnScope ["one", "other"] ["one", "other"] (defScope s_do_overlap) := ⟨rfl, rfl, rfl, by decide +kernel, rfl, by decide +kernel, by decide +kernel⟩
theorem sc_BookX_initX : FnScope ["self", "orders", "index", "order", "earlier"] ["self", "orders"] (defScope s_BookX_initX) := ⟨rfl, rfl, rfl, by decide +kernel, rfl, by decide +kernel, by decide +kernel⟩
theorem sc_Book_orders : FnScope ["self"] ["self"] (defScope s_Book_orders) := ⟨rfl, rfl, rfl, by decide +kernel, rfl, by decide +kernel, by decide +kernel⟩
theorem sc_BookX_lenX : FnScope ["self"] ["self"] (defScope s_BookX_lenX) := ⟨rfl, rfl, rfl, by decide +kernel, rfl, by decide +kernel, by decide +kernel⟩
theorem sc_BookX_eqX : FnScope ["self", "other"] ["self", "other"] (defScope s_BookX_eqX) := ⟨rfl, rfl, rfl, by decide +kernel, rfl, by decide +kernel, by decide +kernel⟩
theorem sc_BookX_addX : FnScope ["self", "other"] ["self", "other"] (defScope s_BookX_addX) := ⟨rfl, rfl, rfl, by decide +kernel, rfl, by decide +kernel, by decide +kernel⟩
theorem sc_BookX_rshiftX : FnScope ["self", "days"] ["self", "days"] (defScope s_BookX_rshiftX) := ⟨rfl, rfl, rfl, by decide +kernel, rfl, by decide +kernel, by decide +kernel⟩
theorem sc_Book_check_order : FnScope ["self", "index"] ["self", "index"] (defScope s_Book_check_order) := ⟨rfl, rfl, rfl, by decide +kernel, rfl, by decide +kernel, by decide +kernel⟩
theorem sc_Book_without : FnScope ["self", "indexes", "index", "order"] ["self", "indexes"] (defScope s_Book_without) := ⟨rfl, rfl, rfl, by decide +kernel, rfl, by decide +kernel, by decide +kernel⟩
theorem sc_Book_order_for : FnScope ["self", "address", "day", "index", "source", "target", "first", "last", "way"] ["self", "address", "day"] (defScope s_Book_order_for) := ⟨rfl, rfl, rfl, by decide +kernel, rfl, by decide +kernel, by decide +kernel⟩
theorem sc_Book_order_at : FnScope ["self", "address", "day"] ["self", "address", "day"] (defScope s_Book_order_at) := ⟨rfl, rfl, rfl, by decide +kernel, rfl, by decide +kernel, by decide +kernel⟩
theorem sc_Book_next_change : FnScope ["self", "day", "found", "source", "target", "first", "last", "way", "change"] ["self", "day"] (defScope s_Book_next_change) := ⟨rfl, rfl, rfl, by decide +kernel, rfl, by decide +kernel, by decide +kernel⟩
theorem sc_book_of : FnScope ["orders"] ["orders"] (defScope s_book_of) := ⟨rfl, rfl, rfl, by decide +kernel, rfl, by decide +kernel, by decide +kernel⟩
theorem sc_moved : FnScope ["orders", "days", "source", "target", "first", "last", "way"] ["orders", "days"] (defScope s_moved) := ⟨rfl, rfl, rfl, by decide +kernel, rfl, by decide +kernel, by decide +kernel⟩
theorem sc_InvalidOrderX_initX : FnScope ["self", "index"] ["self", "index"] (defScope s_InvalidOrderX_initX) := ⟨rfl, rfl, rfl, by decide +kernel, rfl, by decide +kernel, by decide +kernel⟩
theorem sc_NotationErrorX_initX : FnScope ["self", "row", "word"] ["self", "row", "word"] (defScope s_NotationErrorX_initX) := ⟨rfl, rfl, rfl, by decide +kernel, rfl, by decide +kernel, by decide +kernel⟩
theorem sc_DecodeErrorX_initX : FnScope ["self", "offset"] ["self", "offset"] (defScope s_DecodeErrorX_initX) := ⟨rfl, rfl, rfl, by decide +kernel, rfl, by decide +kernel, by decide +kernel⟩
theorem sc_LetterX_initX : FnScope ["self", "book", "address", "day"] ["self", "book", "address", "day"] (defScope s_LetterX_initX) := ⟨rfl, rfl, rfl, by decide +kernel, rfl, by decide +kernel, by decide +kernel⟩
theorem sc_Letter_order_now : FnScope ["self"] ["self"] (defScope s_Letter_order_now) := ⟨rfl, rfl, rfl, by decide +kernel, rfl, by decide +kernel, by decide +kernel⟩
theorem sc_Letter_step : FnScope ["self", "index", "source", "target", "first", "last", "way"] ["self"] (defScope s_Letter_step) := ⟨rfl, rfl, rfl, by decide +kernel, rfl, by decide +kernel, by decide +kernel⟩
theorem sc_Letter_skip : FnScope ["self", "day", "count", "turns"] ["self"] (defScope s_Letter_skip) := ⟨rfl, rfl, rfl, by decide +kernel, rfl, by decide +kernel, by decide +kernel⟩
theorem sc_Letter_finish : FnScope ["self"] ["self"] (defScope s_Letter_finish) := ⟨rfl, rfl, rfl, by decide +kernel, rfl, by decide +kernel, by decide +kernel⟩
theorem sc_end_of : FnScope ["book", "address", "day", "letter"] ["book", "address", "day"] (defScope s_end_of) := ⟨rfl, rfl, rfl, by decide +kernel, rfl, by decide +kernel, by decide +kernel⟩
theorem sc_end : FnScope ["book", "address", "day"] ["book", "address", "day"] (defScope s_end) := ⟨rfl, rfl, rfl, by decide +kernel, rfl, by decide +kernel, by decide +kernel⟩
theorem sc_times_sent : FnScope ["book", "address", "day"] ["book", "address", "day"] (defScope s_times_sent) := ⟨rfl, rfl, rfl, by decide +kernel, rfl, by decide +kernel, by decide +kernel⟩
theorem sc_is_number : FnScope ["word", "digit"] ["word"] (defScope s_is_number) := ⟨rfl, rfl, rfl, by decide +kernel, rfl, by decide +kernel, by decide +kernel⟩
theorem sc_format_book : FnScope ["book", "lines", "source", "target", "first", "last", "way"] ["book"] (defScope s_format_book) := ⟨rfl, rfl, rfl, by decide +kernel, rfl, by decide +kernel, by decide +kernel⟩
theorem sc_is_good : FnScope ["place", "word"] ["place", "word"] (defScope s_is_good) := ⟨rfl, rfl, rfl, by decide +kernel, rfl, by decide +kernel, by decide +kernel⟩
theorem sc_order_of : FnScope ["row", "line", "words", "place"] ["row", "line"] (defScope s_order_of) := ⟨rfl, rfl, rfl, by decide +kernel, rfl, by decide +kernel, by decide +kernel⟩
theorem sc_parse_book : FnScope ["text", "lines", "row", "line"] ["text"] (defScope s_parse_book) := ⟨rfl, rfl, rfl, by decide +kernel, rfl, by decide +kernel, by decide +kernel⟩
theorem sc_pack_bytes : FnScope ["values", "value"] ["values"] (defScope s_pack_bytes) := ⟨rfl, rfl, rfl, by decide +kernel, rfl, by decide +kernel, by decide +kernel⟩
theorem sc_unpack_bytes : FnScope ["data"] ["data"] (defScope s_unpack_bytes) := ⟨rfl, rfl, rfl, by decide +kernel, rfl, by decide +kernel, by decide +kernel⟩
theorem sc_checksum_of : FnScope ["values", "result", "value"] ["values"] (defScope s_checksum_of) := ⟨rfl, rfl, rfl, by decide +kernel, rfl, by decide +kernel, by decide +kernel⟩
theorem sc_number_values : FnScope ["number", "values"] ["number"] (defScope s_number_values) := ⟨rfl, rfl, rfl, by decide +kernel, rfl, by decide +kernel, by decide +kernel⟩
theorem sc_address_values : FnScope ["address", "letter"] ["address"] (defScope s_address_values) := ⟨rfl, rfl, rfl, by decide +kernel, rfl, by decide +kernel, by decide +kernel⟩
theorem sc_encode_book : FnScope ["book", "values", "source", "target", "first", "last", "way"] ["book"] (defScope s_encode_book) := ⟨rfl, rfl, rfl, by decide +kernel, rfl, by decide +kernel, by decide +kernel⟩
theorem sc_DecoderX_initX : FnScope ["self", "data"] ["self", "data"] (defScope s_DecoderX_initX) := ⟨rfl, rfl, rfl, by decide +kernel, rfl, by decide +kernel, by decide +kernel⟩
theorem sc_Decoder_take_byte : FnScope ["self", "low", "high"] ["self", "low", "high"] (defScope s_Decoder_take_byte) := ⟨rfl, rfl, rfl, by decide +kernel, rfl, by decide +kernel, by decide +kernel⟩
theorem sc_Decoder_take_address : FnScope ["self", "found", "turn"] ["self"] (defScope s_Decoder_take_address) := ⟨rfl, rfl, rfl, by decide +kernel, rfl, by decide +kernel, by decide +kernel⟩
theorem sc_Decoder_take_number : FnScope ["self", "high", "start", "number", "factor", "byte"] ["self", "high"] (defScope s_Decoder_take_number) := ⟨rfl, rfl, rfl, by decide +kernel, rfl, by decide +kernel, by decide +kernel⟩
theorem sc_Decoder_take_order : FnScope ["self", "orders", "start", "source", "place", "target", "first", "order", "earlier"] ["self", "orders"] (defScope s_Decoder_take_order) := ⟨rfl, rfl, rfl, by decide +kernel, rfl, by decide +kernel, by decide +kernel⟩
theorem sc_Decoder_finish : FnScope ["self", "checksum"] ["self"] (defScope s_Decoder_finish) := ⟨rfl, rfl, rfl, by decide +kernel, rfl, by decide +kernel, by decide +kernel⟩
theorem sc_decode_book : FnScope ["data", "decoder", "found", "turn"] ["data"] (defScope s_decode_book) := ⟨rfl, rfl, rfl, by decide +kernel, rfl, by decide +kernel, by decide +kernel⟩
theorem sc__law_taken : FnScope ["_law_row", "_law_many", "_law_found", "_law_cell"] ["_law_row", "_law_many"] (defScope s__law_taken) := ⟨rfl, rfl, rfl, by decide +kernel, rfl, by decide +kernel, by decide +kernel⟩
theorem sc__law_great : FnScope ["_law_row", "_law_many"] ["_law_row", "_law_many"] (defScope s__law_great) := ⟨rfl, rfl, rfl, by decide +kernel, rfl, by decide +kernel, by decide +kernel⟩
theorem sc__law_orders : FnScope ["_law_row", "_law_most", "_law_long", "_law_found", "_law_free", "_law_names", "_law_k", "_law_source", "_law_target", "_law_first", "_law_last", "_law_turn"] ["_law_row", "_law_most", "_law_long"] (defScope s__law_orders) := ⟨rfl, rfl, rfl, by decide +kernel, rfl, by decide +kernel, by decide +kernel⟩
theorem sc__law_book : FnScope ["_law_orders_here", "_law_book_here", "_law_order"] ["_law_orders_here"] (defScope s__law_book) := ⟨rfl, rfl, rfl, by decide +kernel, rfl, by decide +kernel, by decide +kernel⟩
theorem sc__law_far : FnScope ["_law_row", "_law_orders_here", "_law_found", "_law_free", "_law_source", "_law_target", "_law_first", "_law_last", "_law_way", "_law_begin", "_law_end_day"] ["_law_row", "_law_orders_here"] (defScope s__law_far) := ⟨rfl, rfl, rfl, by decide +kernel, rfl, by decide +kernel, by decide +kernel⟩
theorem sc__law_letter : FnScope ["_law_row", "_law_most"] ["_law_row", "_law_most"] (defScope s__law_letter) := ⟨rfl, rfl, rfl, by decide +kernel, rfl, by decide +kernel, by decide +kernel⟩
theorem sc__law_are_letters : FnScope ["_law_row", "_law_one", "_law_two", "_law_both", "_law_turn", "_law_name", "_law_day", "_law_index"] ["_law_row", "_law_one", "_law_two", "_law_both"] (defScope s__law_are_letters) := ⟨rfl, rfl, rfl, by decide +kernel, rfl, by decide +kernel, by decide +kernel⟩
theorem sc_law : FnScope ["_law_script", "_law_row", "_law_turn", "_law_first", "_law_later", "_law_source", "_law_target", "_law_begin", "_law_last", "_law_way", "_law_one", "_law_two", "_law_both", "_law_back", "_law_k", "_law_rows", "_law_values", "_law_sizes", "_law_book_here"] ["_law_script"] (defScope s_law) := ⟨rfl, rfl, rfl, by decide +kernel, rfl, by decide +kernel, by decide +kernel⟩
structure Top (K : PySem.W.Frag) (mg : Str → Option Value) (C_Book : Addr) (C_Letter : Addr) (C_Decoder : Addr) (C_MailError : Addr) (C_InvalidOrder : Addr) (C_UnknownOrder : Addr) (C_InvalidAddress : Addr) (C_InvalidDay : Addr) (C_InvalidNumber : Addr) (C_NotationError : Addr) (C_InvalidCount : Addr) (C_DecodeError : Addr) : Prop where
  d_is_integer : GDef K mg "is_integer" s_is_integer ["value", "low", "high"]
  d_is_address : GDef K mg "is_address" s_is_address ["value"]
  d_check_letter : GDef K mg "check_letter" s_check_letter ["address", "day"]
  d_is_order : GDef K mg "is_order" s_is_order ["value"]
  d_do_overlap : GDef K mg "do_overlap" s_do_overlap ["one", "other"]
  d_BookX_initX : SDef K mg C_Book "Book" "Book.__init__" s_BookX_initX "self" "orders"
  d_Book_orders : PDef K C_Book "orders" "Book.orders" s_Book_orders ["self"]
  d_BookX_lenX : MDef K C_Book "__len__" "Book.__len__" s_BookX_lenX ["self"]
  d_BookX_eqX : MDef K C_Book "__eq__" "Book.__eq__" s_BookX_eqX ["self", "other"]
  d_BookX_addX : MDef K C_Book "__add__" "Book.__add__" s_BookX_addX ["self", "other"]
  d_BookX_rshiftX : MDef K C_Book "__rshift__" "Book.__rshift__" s_BookX_rshiftX ["self", "days"]
  d_Book_check_order : MDef K C_Book "check_order" "Book.check_order" s_Book_check_order ["self", "index"]
  d_Book_without : SMDef K C_Book "without" "Book.without" s_Book_without "self" "indexes"
  d_Book_order_for : MDef K C_Book "order_for" "Book.order_for" s_Book_order_for ["self", "address", "day"]
  d_Book_order_at : MDef K C_Book "order_at" "Book.order_at" s_Book_order_at ["self", "address", "day"]
  d_Book_next_change : MDef K C_Book "next_change" "Book.next_change" s_Book_next_change ["self", "day"]
  d_book_of : GDef K mg "book_of" s_book_of ["orders"]
  d_moved : GDef K mg "moved" s_moved ["orders", "days"]
  d_InvalidOrderX_initX : EDef K mg C_InvalidOrder "InvalidOrder" "InvalidOrder.__init__" s_InvalidOrderX_initX ["self", "index"]
  d_NotationErrorX_initX : EDef K mg C_NotationError "NotationError" "NotationError.__init__" s_NotationErrorX_initX ["self", "row", "word"]
  d_DecodeErrorX_initX : EDef K mg C_DecodeError "DecodeError" "DecodeError.__init__" s_DecodeErrorX_initX ["self", "offset"]
  d_LetterX_initX : IDef K mg C_Letter "Letter" "Letter.__init__" s_LetterX_initX ["self", "book", "address", "day"]
  d_Letter_order_now : MDef K C_Letter "order_now" "Letter.order_now" s_Letter_order_now ["self"]
  d_Letter_step : MDef K C_Letter "step" "Letter.step" s_Letter_step ["self"]
  d_Letter_skip : MDef K C_Letter "skip" "Letter.skip" s_Letter_skip ["self"]
  d_Letter_finish : MDef K C_Letter "finish" "Letter.finish" s_Letter_finish ["self"]
  d_end_of : GDef K mg "end_of" s_end_of ["book", "address", "day"]
  d_end : GDef K mg "end" s_end ["book", "address", "day"]
  d_times_sent : GDef K mg "times_sent" s_times_sent ["book", "address", "day"]
  d_is_number : GDef K mg "is_number" s_is_number ["word"]
  d_format_book : GDef K mg "format_book" s_format_book ["book"]
  d_is_good : GDef K mg "is_good" s_is_good ["place", "word"]
  d_order_of : GDef K mg "order_of" s_order_of ["row", "line"]
  d_parse_book : GDef K mg "parse_book" s_parse_book ["text"]
  d_pack_bytes : GDef K mg "pack_bytes" s_pack_bytes ["values"]
  d_unpack_bytes : GDef K mg "unpack_bytes" s_unpack_bytes ["data"]
  d_checksum_of : GDef K mg "checksum_of" s_checksum_of ["values"]
  d_number_values : GDef K mg "number_values" s_number_values ["number"]
  d_address_values : GDef K mg "address_values" s_address_values ["address"]
  d_encode_book : GDef K mg "encode_book" s_encode_book ["book"]
  d_DecoderX_initX : IDef K mg C_Decoder "Decoder" "Decoder.__init__" s_DecoderX_initX ["self", "data"]
  d_Decoder_take_byte : MDef K C_Decoder "take_byte" "Decoder.take_byte" s_Decoder_take_byte ["self", "low", "high"]
  d_Decoder_take_address : MDef K C_Decoder "take_address" "Decoder.take_address" s_Decoder_take_address ["self"]
  d_Decoder_take_number : MDef K C_Decoder "take_number" "Decoder.take_number" s_Decoder_take_number ["self", "high"]
  d_Decoder_take_order : MDef K C_Decoder "take_order" "Decoder.take_order" s_Decoder_take_order ["self", "orders"]
  d_Decoder_finish : MDef K C_Decoder "finish" "Decoder.finish" s_Decoder_finish ["self"]
  d_decode_book : GDef K mg "decode_book" s_decode_book ["data"]
  d__law_taken : GDef K mg "_law_taken" s__law_taken ["_law_row", "_law_many"]
  d__law_great : GDef K mg "_law_great" s__law_great ["_law_row", "_law_many"]
  d__law_orders : GDef K mg "_law_orders" s__law_orders ["_law_row", "_law_most", "_law_long"]
  d__law_book : GDef K mg "_law_book" s__law_book ["_law_orders_here"]
  d__law_far : GDef K mg "_law_far" s__law_far ["_law_row", "_law_orders_here"]
  d__law_letter : GDef K mg "_law_letter" s__law_letter ["_law_row", "_law_most"]
  d__law_are_letters : GDef K mg "_law_are_letters" s__law_are_letters ["_law_row", "_law_one", "_law_two", "_law_both"]
  d_law : GDef K mg "law" s_law ["_law_script"]
  cl_Book : Cls K C_Book
  cl_Letter : Cls K C_Letter
  cl_Decoder : Cls K C_Decoder
  n_Book_listed : NoAttr K C_Book "listed"
  n_Book___rrshift__ : NoAttr K C_Book "__rrshift__"
  n_Letter_book : NoAttr K C_Letter "book"
  n_Letter_address : NoAttr K C_Letter "address"
  n_Letter_day : NoAttr K C_Letter "day"
  n_Letter_count : NoAttr K C_Letter "count"
  n_Letter_known : NoAttr K C_Letter "known"
  n_Letter_is_endless : NoAttr K C_Letter "is_endless"
  n_Letter_change : NoAttr K C_Letter "change"
  n_Decoder_data : NoAttr K C_Decoder "data"
  n_Decoder_offset : NoAttr K C_Decoder "offset"
  c_LETTERS : ∃ t, mg "LETTERS" = some (.str "abcdefghijklmnopqrstuvwxyz" t)
  c_MAX_LETTERS : ∃ t, mg "MAX_LETTERS" = some (.int 8 t)
  c_MAX_ORDERS_books : ∃ t, mg "MAX_ORDERS_books" = some (.int 30 t)
  c_MAX_DAY : ∃ t, mg "MAX_DAY" = some (.int 1000000000000000000 t)
  c_MAX_WAY : ∃ t, mg "MAX_WAY" = some (.int 30 t)
  c_WORD : ∃ t, mg "WORD" = some (.str "order" t)
  c_DIGITS : ∃ t, mg "DIGITS" = some (.str "0123456789" t)
  c_MAX_DIGITS : ∃ t, mg "MAX_DIGITS" = some (.int 19 t)
  c_WORDS : ∃ t, mg "WORDS" = some (.int 6 t)
  c_FIRST_BYTE : ∃ t, mg "FIRST_BYTE" = some (.int 77 t)
  c_BYTE : ∃ t, mg "BYTE" = some (.int 256 t)
  c_GROUP : ∃ t, mg "GROUP" = some (.int 128 t)
  c_CHECKSUM_MODULUS : ∃ t, mg "CHECKSUM_MODULUS" = some (.int 241 t)
  g_MailError : mg "MailError" = some (.ref C_MailError)
  g_InvalidOrder : mg "InvalidOrder" = some (.ref C_InvalidOrder)
  g_UnknownOrder : mg "UnknownOrder" = some (.ref C_UnknownOrder)
  g_InvalidAddress : mg "InvalidAddress" = some (.ref C_InvalidAddress)
  g_InvalidDay : mg "InvalidDay" = some (.ref C_InvalidDay)
  g_InvalidNumber : mg "InvalidNumber" = some (.ref C_InvalidNumber)
  g_NotationError : mg "NotationError" = some (.ref C_NotationError)
  g_InvalidCount : mg "InvalidCount" = some (.ref C_InvalidCount)
  g_DecodeError : mg "DecodeError" = some (.ref C_DecodeError)
  base_MailError : BaseC K C_MailError
  e_InvalidOrder : ErrC K C_InvalidOrder C_MailError
  k_InvalidOrder_InvalidOrder : PySem.W.kitOne K (.ref C_InvalidOrder) (.ref C_InvalidOrder) = some true
  k_InvalidOrder_UnknownOrder : PySem.W.kitOne K (.ref C_InvalidOrder) (.ref C_UnknownOrder) = some false
  k_InvalidOrder_InvalidAddress : PySem.W.kitOne K (.ref C_InvalidOrder) (.ref C_InvalidAddress) = some false
  k_InvalidOrder_InvalidDay : PySem.W.kitOne K (.ref C_InvalidOrder) (.ref C_InvalidDay) = some false
  k_InvalidOrder_InvalidNumber : PySem.W.kitOne K (.ref C_InvalidOrder) (.ref C_InvalidNumber) = some false
  k_InvalidOrder_NotationError : PySem.W.kitOne K (.ref C_InvalidOrder) (.ref C_NotationError) = some false
  k_InvalidOrder_InvalidCount : PySem.W.kitOne K (.ref C_InvalidOrder) (.ref C_InvalidCount) = some false
  k_InvalidOrder_DecodeError : PySem.W.kitOne K (.ref C_InvalidOrder) (.ref C_DecodeError) = some false
  e_NotationError : ErrC K C_NotationError C_MailError
  k_NotationError_InvalidOrder : PySem.W.kitOne K (.ref C_NotationError) (.ref C_InvalidOrder) = some false
  k_NotationError_UnknownOrder : PySem.W.kitOne K (.ref C_NotationError) (.ref C_UnknownOrder) = some false
  k_NotationError_InvalidAddress : PySem.W.kitOne K (.ref C_NotationError) (.ref C_InvalidAddress) = some false
  k_NotationError_InvalidDay : PySem.W.kitOne K (.ref C_NotationError) (.ref C_InvalidDay) = some false
  k_NotationError_InvalidNumber : PySem.W.kitOne K (.ref C_NotationError) (.ref C_InvalidNumber) = some false
  k_NotationError_NotationError : PySem.W.kitOne K (.ref C_NotationError) (.ref C_NotationError) = some true
  k_NotationError_InvalidCount : PySem.W.kitOne K (.ref C_NotationError) (.ref C_InvalidCount) = some false
  k_NotationError_DecodeError : PySem.W.kitOne K (.ref C_NotationError) (.ref C_DecodeError) = some false
  e_DecodeError : ErrC K C_DecodeError C_MailError
  k_DecodeError_InvalidOrder : PySem.W.kitOne K (.ref C_DecodeError) (.ref C_InvalidOrder) = some false
  k_DecodeError_UnknownOrder : PySem.W.kitOne K (.ref C_DecodeError) (.ref C_UnknownOrder) = some false
  k_DecodeError_InvalidAddress : PySem.W.kitOne K (.ref C_DecodeError) (.ref C_InvalidAddress) = some false
  k_DecodeError_InvalidDay : PySem.W.kitOne K (.ref C_DecodeError) (.ref C_InvalidDay) = some false
  k_DecodeError_InvalidNumber : PySem.W.kitOne K (.ref C_DecodeError) (.ref C_InvalidNumber) = some false
  k_DecodeError_NotationError : PySem.W.kitOne K (.ref C_DecodeError) (.ref C_NotationError) = some false
  k_DecodeError_InvalidCount : PySem.W.kitOne K (.ref C_DecodeError) (.ref C_InvalidCount) = some false
  k_DecodeError_DecodeError : PySem.W.kitOne K (.ref C_DecodeError) (.ref C_DecodeError) = some true
  na_InvalidOrder : PySem.W.findIn K (.ref C_InvalidOrder) "index" = some none
  na_NotationError_row : PySem.W.findIn K (.ref C_NotationError) "row" = some none
  na_NotationError_word : PySem.W.findIn K (.ref C_NotationError) "word" = some none
  na_DecodeError_offset : PySem.W.findIn K (.ref C_DecodeError) "offset" = some none
  ow_Book : OwnC K C_Book
  g_Book : mg "Book" = some (.ref C_Book)
  b_isinstance : mg "isinstance" = none
  b_int : mg "int" = none
  b_bool : mg "bool" = none
  b_str : mg "str" = none
  b_tuple : mg "tuple" = none
  b_list : mg "list" = none
  b_len : mg "len" = none
  b_all : mg "all" = none
  b_any : mg "any" = none
  b_enumerate : mg "enumerate" = none
  b_range : mg "range" = none
  b_min : mg "min" = none
  b_max : mg "max" = none
  b_bytes : mg "bytes" = none
  b_ValueError : mg "ValueError" = none

end MF
set_option Elab.async false
set_option linter.all false
set_option maxRecDepth 100000
set_option maxHeartbeats 2000000
set_option pp.maxSteps 600
namespace MF
open PySem PySem.Spec PyProof.Rows L2 StX
section
variable {P : Program} {w : World} {K : PySem.W.Frag} {mg : Str → Option Value} {base : Heap} {C_Book C_Letter C_Decoder C_MailError C_InvalidOrder C_UnknownOrder C_InvalidAddress C_InvalidDay C_InvalidNumber C_NotationError C_InvalidCount C_DecodeError : Addr}
theorem ok_is_integer (T : Top K mg C_Book C_Letter C_Decoder C_MailError C_InvalidOrder C_UnknownOrder C_InvalidAddress C_InvalidDay C_InvalidNumber C_NotationError C_InvalidCount C_DecodeError) : GFn P w K mg base CX0 1 "is_integer" spIsInteger := by
  refine T.d_is_integer.fn fun f fd F => F.ok sc_is_integer (fun vs H Q E h => ?_) (fun cdv A outer s H vs Q E hr h => ?_)
  · obtain ⟨v, lo, hi, rfl, _⟩ := h
    rfl
  · obtain ⟨v, lo, hi, rfl, hn, k⟩ := h
    refine ⟨_, (pss_one (ps_ret (pe_and (pe_callB call_isi (by rfl) T.b_isinstance (by decide +kernel) (pa_cons (pv 0) (pa_cons (pe_bltn (v := .ty "int") (by rfl) T.b_int (by decide +kernel) rfl) pa_nil))) (pe_and (pe_not (pe_callB call_isi (by rfl) T.b_isinstance (by decide +kernel) (pa_cons (pv 0) (pa_cons (pe_bltn (v := .ty "bool") (by rfl) T.b_bool (by decide +kernel) rfl) pa_nil)))) (pe_one (pe_chain op_le op_le (pv 1) (pv 0) (pv 2))))))), ?_⟩
    cases v with
    | int i =>
      refine ⟨_, rfl, _, _, _, _, true, rfl, .ty "int", ty_flat hn, kt_int_int, true, rfl, iteT ?_⟩
      refine ⟨_, rfl, _, _, _, _, false, rfl, .ty "bool", ty_flat hn, kt_int_bool, false, rfl, true, rfl, iteT ?_⟩
      refine ⟨_, rfl, _, rfl, _, _, rfl, rfl, _, rfl, ?_⟩
      refine ite2 (fun h1 => ?_) (fun h1 => ?_)
      · have h1' : lo ≤ i := of_decide_eq_true h1
        refine ⟨_, rfl, _, _, rfl, rfl, ?_⟩
        simpa [isIntB, h1'] using k
      · have h1' : decide (lo ≤ i) = false := by simpa using h1
        simpa [isIntB, h1'] using k
    | bl b =>
      refine ⟨_, rfl, _, _, _, _, true, rfl, .ty "int", ty_flat hn, kt_bool_int, true, rfl, iteT ?_⟩
      refine ⟨_, rfl, _, _, _, _, true, rfl, .ty "bool", ty_flat hn, kt_bool_bool, true, rfl, false, rfl, iteF ?_⟩
      exact k
    | non =>
      refine ⟨_, rfl, _, _, _, _, false, rfl, .ty "int", ty_flat hn, kt_NoneType_int, false, rfl, iteF ?_⟩
      exact k
    | str x =>
      refine ⟨_, rfl, _, _, _, _, false, rfl, .ty "int", ty_flat hn, kt_str_int, false, rfl, iteF ?_⟩
      exact k
    | byt b => cases hn
    | flt b => cases hn
    | ref a => cases hn
    | ty n => cases hn
theorem ok_do_overlap (T : Top K mg C_Book C_Letter C_Decoder C_MailError C_InvalidOrder C_UnknownOrder C_InvalidAddress C_InvalidDay C_InvalidNumber C_NotationError C_InvalidCount C_DecodeError) : GFn P w K mg base CX0 1 "do_overlap" (spOverlap K) := by
  refine T.d_do_overlap.fn fun f fd F => F.ok sc_do_overlap (fun vs H Q E h => ?_) (fun cdv A outer s H vs Q E hr h => ?_)
  · obtain ⟨a, b, o, p, rfl, _⟩ := h
    rfl
  · obtain ⟨a, b, o, p, rfl, ha, hb, k⟩ := h
    refine ⟨_, (pss_one (ps_ret (pe_and (pe_cmpR op_eq (pe_ix ix_tup (pv 0) pe_int (fun _ _ => rfl)) (pe_ix ix_tup (pv 1) pe_int (fun _ _ => rfl)) (nomark _)) (pe_and (pe_cmpR op_le (pe_ix ix_tup (pv 0) pe_int (fun _ _ => rfl)) (pe_ix ix_tup (pv 1) pe_int (fun _ _ => rfl)) (nomark _)) (pe_one (pe_cmpR op_le (pe_ix ix_tup (pv 1) pe_int (fun _ _ => rfl)) (pe_ix ix_tup (pv 0) pe_int (fun _ _ => rfl)) (nomark _))))))), ?_⟩
    refine ⟨_, rfl, a, _, _, _, rfl, rfl, ha, rfl, _, rfl, b, _, _, _, rfl, rfl, hb, rfl, rfl, _, rfl, ?_⟩
    refine ite2 (fun h1 => ?_) (fun h1 => ?_)
    · have h1' : o.src = p.src := V.str.inj (of_decide_eq_true h1)
      refine ⟨_, rfl, a, _, _, _, rfl, rfl, ha, rfl, _, rfl, b, _, _, _, rfl, rfl, hb, rfl, _, _, rfl, rfl, _, rfl, ?_⟩
      refine ite2 (fun h2 => ?_) (fun h2 => ?_)
      · have h2' : o.first ≤ p.last := of_decide_eq_true h2
        refine ⟨_, rfl, b, _, _, _, rfl, rfl, hb, rfl, _, rfl, a, _, _, _, rfl, rfl, ha, rfl, _, _, rfl, rfl, ?_⟩
        simpa [overB, h1', h2'] using k
      · have h2' : ¬ o.first ≤ p.last := by simpa using h2
        simpa [overB, h1', h2'] using k
    · have h1' : ¬ o.src = p.src := fun q => h1 (decide_eq_true (congrArg V.str q))
      simpa [overB, h1'] using k
end

end MF
set_option Elab.async false
set_option linter.all false
set_option maxRecDepth 100000
set_option maxHeartbeats 2000000
set_option pp.maxSteps 600
namespace MF
open PySem PySem.Spec PyProof.Rows L2 StX
section
variable {P : Program} {w : World} {K : PySem.W.Frag} {mg : Str → Option Value} {base : Heap} {C_Book C_Letter C_Decoder C_MailError C_InvalidOrder C_UnknownOrder C_InvalidAddress C_InvalidDay C_InvalidNumber C_NotationError C_InvalidCount C_DecodeError : Addr}
theorem ok_is_address (T : Top K mg C_Book C_Letter C_Decoder C_MailError C_InvalidOrder C_UnknownOrder C_InvalidAddress C_InvalidDay C_InvalidNumber C_NotationError C_InvalidCount C_DecodeError) : GFn P w K mg base CX0 1 "is_address" spIsAddress := by
  refine T.d_is_address.fn fun f fd F => F.ok sc_is_address (fun vs H Q E h => ?_) (fun cdv A outer s H vs Q E hr h => ?_)
  · obtain ⟨v, rfl, _⟩ := h
    rfl
  · obtain ⟨v, rfl, hn, hs, k⟩ := h
    refine ⟨_, (pss_cons (ps_if (PW.pt (pw_or (pt_not (pt_val (pe_callB call_isi (by rfl) T.b_isinstance (by decide +kernel) (pa_cons (pv 0) (pa_cons (pe_bltn (v := .ty "str") (by rfl) T.b_str (by decide +kernel) rfl) pa_nil))))) (pw_or1 (pt_not (pt_chain op_le op_le pe_int (pe_callB call_len_str (by rfl) T.b_len (by decide +kernel) (pa_cons (pv 0) pa_nil)) (pe_gint T.c_MAX_LETTERS))))))
  (pss_one (ps_ret pe_bl))
  pss_nil)
  (pss_one (ps_ret (pe_callB (cr_all rfl) (by rfl) T.b_all (by decide +kernel) (pa_cons (pe_lc (own := [("letter", 1)]) (g := (gName 1)) (by rfl) sc_is_address.nd (pi_str (pv 0)) (blkOk_by (own := [("letter", 1)]) (N := ["value", "letter"]) (sc := defScope s_is_address) (by decide +kernel)) (fun _ _ _ _ _ => (pg_name (i := 1) sc_is_address.nd rfl (Or.inl rfl))) (fun _ _ _ _ _ => pts_nil) (fun _ _ _ _ _ => (pe_cmpR op_in_sign (pv 1) (pe_gstr T.c_LETTERS) rfl))) pa_nil))))), ?_⟩
    cases v with
    | str z =>
      refine ⟨_, rfl, _, _, _, _, true, rfl, .ty "str", ty_flat hn, kt_str_str, true, rfl, iteF ?_⟩
      refine ⟨_, rfl, z, rfl, hs, _, _, rfl, rfl, _, rfl, ?_⟩
      have h8 : ∀ b, isAddrB (.str z) = b → Q (.bl b) H := fun b e => by rw [← e]; exact k H (Same.refl H)
      refine ite2 (fun h1 => ?_) (fun h1 => ?_)
      · have h1' : 1 ≤ z.length := by have := of_decide_eq_true h1; omega
        refine ⟨_, _, rfl, rfl, _, rfl, ?_⟩
        by_cases h2 : z.length ≤ 8
        · have h2' : decide (((z.length : Nat) : Int) ≤ 8) = true := decide_eq_true (by omega)
          rw [h2']
          refine iteF ?_
          refine ⟨_, rfl, z, rfl, fun D hD => lc_it walk_str (fun i H' => Same H H' ∧ H' D = some (.lst ((z.cps.toList.take i).map fun c => V.bl (decide (c ∈ letters.cps.toList))))) ⟨Same.new hD, upd_same⟩ (fun _ _ _ _ => trivial) ?_ ?_⟩
          · rintro i x H1 H2 hi ⟨s1, l1⟩ ⟨rfl, c, hc, rfl⟩
            have hlt : i < z.cps.size := hi
            have hlen : z.cps.size = z.length := rfl
            refine ⟨rfl, yesT ?_⟩
            refine iteT ?_
            refine ⟨_, rfl, c, _, rfl, rfl, _, l1, ?_, ?_, ?_⟩
            · rw [List.length_map]
              exact Nat.lt_of_le_of_lt (List.length_take_le _ _) (Nat.lt_of_lt_of_le (Nat.lt_of_lt_of_le hlt (hlen ▸ h2)) (by decide))
            · intro b o e
              have nb : b ≠ D := ne_of_none e hD
              rw [upd_ne nb]
              exact s1 b o e
            · rw [upd_same]
              have e1 : z.cps.toList[i]? = some c := by simpa using hc
              rw [List.take_add_one, e1]
              simp [letters]
          · rintro H1 ⟨s1, l1⟩
            have e1 : z.cps.toList.take z.cps.size = z.cps.toList := List.take_of_length_le (by simp)
            rw [e1] at l1
            have e2 : (z.cps.toList.map fun c => V.bl (decide (c ∈ letters.cps.toList))) = (z.cps.toList.map fun c => decide (c ∈ letters.cps.toList)).map V.bl := by rw [List.map_map]; rfl
            rw [e2] at l1
            refine ⟨D, _, rfl, SqL.of l1, ?_⟩
            have e3 : ((z.cps.toList.map fun c => decide (c ∈ letters.cps.toList)).all id) = isAddrB (.str z) := by
              show _ = (decide (1 ≤ z.length) && decide (z.length ≤ 8) && z.cps.toList.all fun c => decide (c ∈ letters.cps.toList))
              rw [decide_eq_true h1', decide_eq_true h2, List.all_map]
              rfl
            rw [e3]
            exact k H1 s1
        · have h2' : decide (((z.length : Nat) : Int) ≤ 8) = false := decide_eq_false (by omega)
          rw [h2']
          exact iteT (h8 _ (by simp [isAddrB, h2]))
      · have h1' : ¬ 1 ≤ z.length := fun q => h1 (decide_eq_true (by omega))
        exact ⟨false, rfl, iteT (h8 _ (by simp [isAddrB, h1']))⟩
    | int i =>
      refine ⟨_, rfl, _, _, _, _, false, rfl, .ty "str", ty_flat hn, kt_int_str, false, rfl, iteT ?_⟩
      exact iteT (k H (Same.refl H))
    | bl b =>
      refine ⟨_, rfl, _, _, _, _, false, rfl, .ty "str", ty_flat hn, kt_bool_str, false, rfl, iteT ?_⟩
      exact iteT (k H (Same.refl H))
    | non =>
      refine ⟨_, rfl, _, _, _, _, false, rfl, .ty "str", ty_flat hn, kt_NoneType_str, false, rfl, iteT ?_⟩
      exact iteT (k H (Same.refl H))
    | byt b => cases hn
    | flt b => cases hn
    | ref a => cases hn
    | ty n => cases hn
end

end MF
set_option Elab.async false
set_option linter.all false
set_option maxRecDepth 100000
set_option maxHeartbeats 2000000
set_option pp.maxSteps 600
namespace MF
open PySem PySem.Spec PyProof.Rows L2 StX
section
variable {P : Program} {w : World} {K : PySem.W.Frag} {mg : Str → Option Value} {base : Heap} {C_Book C_Letter C_Decoder C_MailError C_InvalidOrder C_UnknownOrder C_InvalidAddress C_InvalidDay C_InvalidNumber C_NotationError C_InvalidCount C_DecodeError : Addr}
theorem ok_is_order (T : Top K mg C_Book C_Letter C_Decoder C_MailError C_InvalidOrder C_UnknownOrder C_InvalidAddress C_InvalidDay C_InvalidNumber C_NotationError C_InvalidCount C_DecodeError) : GFn P w K mg base CX0 2 "is_order" (spIsOrder K) := by
  have G_is_address : GFn P w K mg base CX0 1 "is_address" spIsAddress := ok_is_address T
  have G_is_integer : GFn P w K mg base CX0 1 "is_integer" spIsInteger := ok_is_integer T
  refine T.d_is_order.fn fun f fd F => F.ok sc_is_order (fun vs H Q E h => ?_) (fun cdv A outer s H vs Q E hr h => ?_)
  · obtain ⟨v, b, rfl, _⟩ := h
    rfl
  · obtain ⟨v, b, rfl, hv, k⟩ := h
    refine ⟨_, (pss_one (ps_match rfl sc_is_order.nd (pv 0) (Caps.cons (i := 1) rfl (Or.inl rfl) (Or.inl rfl) (Caps.cons (i := 2) rfl (Or.inl rfl) (Or.inl rfl) (Caps.cons (i := 3) rfl (Or.inl rfl) (Or.inl rfl) (Caps.cons (i := 4) rfl (Or.inl rfl) (Or.inl rfl) (Caps.cons (i := 5) rfl (Or.inl rfl) (Or.inl rfl) Caps.nil))))) (pt_val (pe_callB call_isi (by rfl) T.b_isinstance (by decide +kernel) (pa_cons (pv 0) (pa_cons (pe_bltn (v := .ty "tuple") (by rfl) T.b_tuple (by decide +kernel) rfl) pa_nil))))
  (pss_cons (ps_if (PW.pt (pw_or (pt_not (pt_val (pe_g G_is_address (hr.mono (by decide)) (pa_cons (pv 1) pa_nil)))) (pw_or (pt_not (pt_val (pe_g G_is_address (hr.mono (by decide)) (pa_cons (pv 2) pa_nil)))) (pw_or1 (pt_cmpR op_eq (pv 1) (pv 2) (nomark _))))))
  (pss_one (ps_ret pe_bl))
  pss_nil)
  (pss_cons (ps_if (PW.pt (pw_or (pt_not (pt_val (pe_g G_is_integer (hr.mono (by decide)) (pa_cons (pv 4) (pa_cons pe_int (pa_cons (pe_gint T.c_MAX_DAY) pa_nil)))))) (pw_or1 (pt_not (pt_val (pe_g G_is_integer (hr.mono (by decide)) (pa_cons (pv 3) (pa_cons pe_int (pa_cons (pv 4) pa_nil)))))))))
  (pss_one (ps_ret pe_bl))
  pss_nil)
  (pss_one (ps_ret (pe_g G_is_integer (hr.mono (by decide)) (pa_cons (pv 5) (pa_cons pe_int (pa_cons (pe_gint T.c_MAX_WAY) pa_nil))))))))
  (pss_one (ps_ret pe_bl)))), ?_⟩
    rcases hv with ⟨a, xs, rfl, hq, hf, rfl⟩ | ⟨a, xs, rfl, hq, rfl⟩ | ⟨hn, rfl⟩
    · by_cases hl : xs.length = 5
      · obtain ⟨s, t, f, l, y, rfl⟩ : ∃ s t f l y, xs = [s, t, f, l, y] := by
          match xs, hl with
          | [s, t, f, l, y], _ => exact ⟨s, t, f, l, y, rfl⟩
        refine ⟨_, rfl, .inl ⟨a, _, rfl, .inl hq, .inl ⟨rfl, ?_⟩⟩⟩
        refine ⟨_, rfl, _, _, _, _, true, rfl, .ty "tuple", tyT hq, kt_tuple_tuple, true, rfl, iteT ?_⟩
        have hs := hf s (by simp)
        have ht := hf t (by simp)
        have hf1 := hf f (by simp)
        have hl1 := hf l (by simp)
        have hy := hf y (by simp)
        have no : isOrdB [s, t, f, l, y] = false → ∀ H', Same H H' → Q (.bl false) H' := fun e H' q => by
          have := k H' q
          rw [e] at this
          exact this
        have yes : isOrdB [s, t, f, l, y] = true → ∀ H', Same H H' → Q (.bl true) H' := fun e H' q => by
          have := k H' q
          rw [e] at this
          exact this
        refine ⟨_, rfl, s, rfl, hs.1, hs.2, fun H1 e1 => ⟨_, rfl, ?_⟩⟩
        cases h1 : isAddrB s with
        | false => exact iteT (iteT (no (by simp [isOrdB, h1]) H1 e1))
        | true =>
          refine iteF ?_
          refine ⟨_, rfl, t, rfl, ht.1, ht.2, fun H2 e2 => ⟨_, rfl, ?_⟩⟩
          have e12 := e1.trans e2
          cases h2 : isAddrB t with
          | false => exact iteT (iteT (no (by simp [isOrdB, h1, h2]) H2 e12))
          | true =>
            refine iteF ?_
            obtain ⟨zs, rfl⟩ : ∃ z, s = V.str z := by
              cases s with
              | str z => exact ⟨z, rfl⟩
              | _ => cases h1
            obtain ⟨zt, rfl⟩ : ∃ z, t = V.str z := by
              cases t with
              | str z => exact ⟨z, rfl⟩
              | _ => cases h2
            refine ⟨_, rfl, _, rfl, rfl, _, rfl, ?_⟩
            refine ite2 (fun h3 => no ?_ H2 e12) (fun h3 => ?_)
            · simp [isOrdB, of_decide_eq_true h3]
            have h3' : decide (V.str zs = V.str zt) = false := by simpa using h3
            refine ⟨_, rfl, l, _, _, rfl, hl1.1, _, rfl, ?_⟩
            cases h4 : isIntB l 0 1000000000000000000 with
            | false => exact iteT (iteT (no (by simp [isOrdB, h4]) H2 e12))
            | true =>
              refine iteF ?_
              obtain ⟨il, rfl⟩ : ∃ i, l = V.int i := by
                cases l with
                | int i => exact ⟨i, rfl⟩
                | _ => cases h4
              refine ⟨_, rfl, _, rfl, f, _, _, rfl, hf1.1, _, rfl, ?_⟩
              cases h5 : isIntB f 0 il with
              | false => exact iteT (no (by simp [isOrdB, h5]) H2 e12)
              | true =>
                refine iteF ?_
                refine ⟨_, rfl, y, _, _, rfl, hy.1, ?_⟩
                have e6 : isOrdB [V.str zs, V.str zt, f, V.int il, y] = isIntB y 1 30 := by
                  simp only [isOrdB, h1, h2, h3', h4, h5, Bool.not_false, Bool.true_and]
                rw [← e6]
                exact k H2 e12
      · have e : isOrdB xs = false := by
          unfold isOrdB
          split
          · exact absurd rfl hl
          · rfl
        refine ⟨_, rfl, .inl ⟨a, _, rfl, .inl hq, .inr ⟨hl, ?_⟩⟩⟩
        have := k H (Same.refl H)
        rw [e] at this
        exact this
    · by_cases hl : xs.length = 5
      · refine ⟨_, rfl, .inl ⟨a, _, rfl, .inr hq, .inl ⟨hl, ?_⟩⟩⟩
        match xs, hl with
        | [s, t, f, l, y], _ =>
          exact ⟨_, rfl, _, _, _, _, false, rfl, .ty "tuple", tyL hq, kt_list_tuple, false, rfl, iteF (k H (Same.refl H))⟩
      · exact ⟨_, rfl, .inl ⟨a, _, rfl, .inr hq, .inr ⟨hl, k H (Same.refl H)⟩⟩⟩
    · exact ⟨_, rfl, .inr ⟨hn, k H (Same.refl H)⟩⟩
def spCheckOk : Sp := fun vs H Q _ => ∃ z d, vs = [.str z, .int d] ∧ isAddrB (.str z) = true ∧ 0 ≤ d ∧ d ≤ 1000000000000000000 ∧ ∀ H', Same H H' → Q .non H'
theorem isAddr_short {z : Str} (h : isAddrB (.str z) = true) : z.length ≤ 8 := by
  simp only [isAddrB, Bool.and_eq_true, decide_eq_true_eq] at h
  exact h.1.2
theorem ok_check_letter (T : Top K mg C_Book C_Letter C_Decoder C_MailError C_InvalidOrder C_UnknownOrder C_InvalidAddress C_InvalidDay C_InvalidNumber C_NotationError C_InvalidCount C_DecodeError) : GFn P w K mg base CX0 2 "check_letter" spCheckOk := by
  have G_is_address : GFn P w K mg base CX0 1 "is_address" spIsAddress := ok_is_address T
  have G_is_integer : GFn P w K mg base CX0 1 "is_integer" spIsInteger := ok_is_integer T
  refine T.d_check_letter.fn fun f fd F => F.ok sc_check_letter (fun vs H Q E h => ?_) (fun cdv A outer s H vs Q E hr h => ?_)
  · obtain ⟨z, d, rfl, _⟩ := h
    rfl
  · obtain ⟨z, d, rfl, ha, h0, h1, k⟩ := h
    refine ⟨_, (pss_cons (ps_if (pt_not (pt_val (pe_g G_is_address (hr.mono (by decide)) (pa_cons (pv 0) pa_nil))))
  (pss_one ps_never)
  pss_nil)
  (pss_one (ps_if (pt_not (pt_val (pe_g G_is_integer (hr.mono (by decide)) (pa_cons (pv 1) (pa_cons pe_int (pa_cons (pe_gint T.c_MAX_DAY) pa_nil))))))
  (pss_one ps_never)
  pss_nil))), ?_⟩
    refine ⟨_, rfl, _, rfl, rfl, Nat.le_trans (isAddr_short ha) (by decide), fun H1 e1 => ⟨_, rfl, ?_⟩⟩
    rw [ha]
    refine iteF ?_
    have e : isIntB (.int d) 0 1000000000000000000 = true := by simp [isIntB, h0, h1]
    refine ⟨_, rfl, _, _, _, rfl, rfl, _, rfl, ?_⟩
    rw [e]
    exact iteF (k H1 e1)
end

end MF
set_option Elab.async false
set_option linter.all false
set_option maxRecDepth 100000
set_option maxHeartbeats 2000000
set_option pp.maxSteps 600
namespace MF
open PySem PySem.Spec PyProof.Rows L2 StX
section
variable {P : Program} {w : World} {K : PySem.W.Frag} {mg : Str → Option Value} {base : Heap} {C_Book C_Letter C_Decoder C_MailError C_InvalidOrder C_UnknownOrder C_InvalidAddress C_InvalidDay C_InvalidNumber C_NotationError C_InvalidCount C_DecodeError : Addr}
def spInitIn (K : PySem.W.Frag) (C : Addr) : Sp := fun vs H Q _ => ∃ x dx t as os, vs = [.ref x, .ref t] ∧ H x = some (.ins C dx []) ∧ SqT K H t (as.map V.ref) ∧ OrdsAt K H as os ∧ Good os ∧
  ∀ H', H' x = some (.ins C dx [("listed", .ref t)]) → (∀ b o, H b = some o → b ≠ x → H' b = some o) → Q .non H'
def spBookInit (K : PySem.W.Frag) (C : Addr) : Sp := fun vs H Q E => ∃ v rest, vs = v :: rest ∧ rest.length ≤ sizeLine ∧ ∀ p, H p = Option.none → spInitIn K C [v, V.ref p] (upd H p (.tup rest)) Q E
theorem isOrd_flat {o : Ordr} (h : o.Ok) : ∀ x ∈ o.vals, notSeq x = true ∧ shortV x := by
  intro x hx
  have ls : o.src.length ≤ sizeLine := Nat.le_trans (by have := h.as; simp only [isAddrB, Bool.and_eq_true, decide_eq_true_eq] at this; exact this.1.2) (by decide)
  have lt : o.tgt.length ≤ sizeLine := Nat.le_trans (by have := h.at_; simp only [isAddrB, Bool.and_eq_true, decide_eq_true_eq] at this; exact this.1.2) (by decide)
  simp only [Ordr.vals, List.mem_cons, List.not_mem_nil, or_false] at hx
  rcases hx with rfl | rfl | rfl | rfl | rfl
  · exact ⟨rfl, ls⟩
  · exact ⟨rfl, lt⟩
  · exact ⟨rfl, trivial⟩
  · exact ⟨rfl, trivial⟩
  · exact ⟨rfl, trivial⟩
theorem ok_Book (T : Top K mg C_Book C_Letter C_Decoder C_MailError C_InvalidOrder C_UnknownOrder C_InvalidAddress C_InvalidDay C_InvalidNumber C_NotationError C_InvalidCount C_DecodeError) : IFn P w K mg base CX0 3 C_Book "Book" (spBookInit K C_Book) := by
  have G_is_order : GFn P w K mg base CX0 2 "is_order" (spIsOrder K) := ok_is_order T
  have G_do_overlap : GFn P w K mg base CX0 1 "do_overlap" (spOverlap K) := ok_do_overlap T
  refine T.d_BookX_initX.fn0 (sp := spInitIn K C_Book) sc_BookX_initX fun f cdv A outer s H vs Q E hr h => ?_
  obtain ⟨x, dx, t, as, os, rfl, hx, ht, ho, g, k⟩ := h
  refine ⟨_, (pss_cons (ps_for PassesOwn.never rfl (pi_enumT (by rfl) T.b_enumerate (pa_cons (pv 1) pa_nil)) (pg_tup rfl (pgs_cons (pg_name (i := 2) sc_BookX_initX.nd rfl (Or.inl rfl)) (pgs_cons (pg_name (i := 3) sc_BookX_initX.nd rfl (Or.inl rfl)) pgs_nil)))
  (pss_cons (ps_if (PW.pt (pw_or (pt_cmpR op_eq (pv 2) (pe_gint T.c_MAX_ORDERS_books) (nomark _)) (pw_or1 (pt_not (pt_val (pe_g G_is_order (hr.mono (by decide)) (pa_cons (pv 3) pa_nil)))))))
  (pss_one ps_never)
  pss_nil)
  (pss_one (ps_for PassesOwn.never rfl (pi_tup (pe_slice sl_tup (pv 1) po_none (po_some (pv 2)))) (pg_name (i := 4) sc_BookX_initX.nd rfl (Or.inl rfl))
  (pss_one (ps_if (pt_val (pe_g G_do_overlap (hr.mono (by decide)) (pa_cons (pv 4) (pa_cons (pv 3) pa_nil))))
  (pss_one ps_never)
  pss_nil))))))
  (pss_one (ps_fld (pv 0) (pv 1) rfl))), ?_⟩
  have hl : as.length = os.length := PySem.Paired.length ho
  refine ⟨_, rfl, t, _, rfl, ht, for_it walk_enumT (fun i σ H' => Same H H' ∧ ∃ v2 v3 v4, σ = [some (.ref x), some (.ref t), v2, v3, v4]) ⟨Same.refl H, _, _, _, rfl⟩ (fun i σ H' _ ⟨s1, _⟩ => MF.Same.tup s1 ht) ?_ ?_⟩
  · rintro i y σ H1 H2 hi ⟨s1, v2, v3, v4, rfl⟩ ⟨p, z1, z2, rfl, hp, rfl, e1, e2⟩
    cases e1
    rw [List.length_map] at hi
    obtain ⟨a, ea⟩ : ∃ a, as[i]? = some a := ⟨as[i], by simp [hi]⟩
    replace e2 : (as.map V.ref)[i]? = some z2 := e2
    rw [List.getElem?_map, ea] at e2
    cases e2
    obtain ⟨o, eo, oa⟩ := Paired.get ho ea
    have s2 : Same H (upd H1 p (.tup [.int (i : Nat), .ref a])) := MF.Same.upd s1 hp
    have om : o ∈ os := List.mem_of_getElem? eo
    refine ⟨p, _, rfl, .inl (.inl upd_same), rfl, _, _, rfl, _, _, rfl, rfl, ?_⟩
    refine ⟨_, rfl, rfl, _, rfl, ?_⟩
    have hi30 : i < 30 := Nat.lt_of_lt_of_le (hl ▸ hi) g.len
    have ne30 : decide (V.int ((i : Nat) : Int) = V.int 30) = false := decide_eq_false fun q => by
      have := V.int.inj q
      omega
    rw [ne30]
    refine iteF ?_
    refine ⟨_, rfl, _, true, rfl, .inl ⟨a, _, rfl, oa.mono s2, isOrd_flat (g.ok o om), (g.ok o om).b.symm⟩, fun H3 s3 => ⟨_, rfl, iteF ?_⟩⟩
    have s13 := s2.trans s3
    have tt : SqT K H3 t (as.map V.ref) := MF.Same.tup s13 ht
    refine ⟨_, rfl, _, rfl, _, rfl, t, _, rfl, tt, ?_, fun p2 hp2 => ?_⟩
    · rw [HT.sIx_nat, List.length_map]
      omega
    rw [cut_take _ _ (by rw [List.length_map]; omega)]
    refine ⟨p2, rfl, ⟨_, .inl (.inl upd_same)⟩, for_it (walk_tup (xs := (as.map V.ref).take i)) (fun j σ H' => Same H H' ∧ SqT K H' p2 ((as.map V.ref).take i) ∧ ∃ v4, σ = [some (.ref x), some (.ref t), some (.int (i : Nat)), some (.ref a), v4]) ⟨MF.Same.upd s13 hp2, .inl (.inl upd_same), _, rfl⟩ (fun j σ H' _ ⟨_, q, _⟩ => q) ?_ ?_⟩
    · rintro j y σ H4 H5 hj ⟨s4, q4, v4', rfl⟩ ⟨rfl, ey⟩
      rw [List.length_take, List.length_map] at hj
      have hji : j < i := by omega
      obtain ⟨b, eb⟩ : ∃ b, as[j]? = some b := ⟨as[j]'(by omega), by simp [show j < as.length by omega]⟩
      rw [List.getElem?_take, if_pos hji, List.getElem?_map, eb] at ey
      cases ey
      obtain ⟨o', eo', ob⟩ := Paired.get ho eb
      refine ⟨_, rfl, _, rfl, b, a, o', o, rfl, ob.mono s4, oa.mono s4, ⟨_, rfl, ?_⟩⟩
      have hov : overB o' o = false := by
        have hj' : j < os.length := by omega
        have hi' : i < os.length := by omega
        have := List.pairwise_iff_getElem.mp g.apart j i hj' hi' hji
        rw [List.getElem?_eq_getElem hj'] at eo'
        rw [List.getElem?_eq_getElem hi'] at eo
        cases eo'
        cases eo
        exact this
      rw [hov]
      exact iteF ⟨s4, q4, _, rfl⟩
    · rintro σ H4 ⟨s4, _, v4', rfl⟩
      exact ⟨s4, _, _, _, rfl⟩
  · rintro σ H1 ⟨s1, v2, v3, v4, rfl⟩
    refine ⟨_, rfl, _, rfl, x, C_Book, dx, [], rfl, s1 _ _ hx, T.cl_Book, T.n_Book_listed, (by show 0 < 1000; decide), ?_⟩
    refine k _ upd_same fun b o e hb => ?_
    rw [upd_ne hb]
    exact s1 b o e
theorem book_made' {C : Addr} {H : Hp} {as : List Addr} {os : List Ordr} {R : VK} {E : XK} (h : OrdsAt K H as os) (g : Good os) {x dx : Addr} (hx : H x = none) (hdx : H dx = none) (ne : dx ≠ x) (k : ∀ H', Same H H' → BookAt K C H' x os → R .non H') :
    spBookInit K C (.ref x :: as.map V.ref) (upd (upd H dx (.own x)) x (.ins C dx [])) R E := by
  have hl : as.length = os.length := PySem.Paired.length h
  have s0 : Same H (upd (upd H dx (.own x)) x (.ins C dx [])) := fun b o e => by
    rw [upd_ne (ne_of_none e hx), upd_ne (ne_of_none e hdx)]
    exact e
  refine ⟨_, _, rfl, ?_, fun p hp => ?_⟩
  · rw [List.length_map, hl]
    exact Nat.le_trans g.len (by decide)
  have s1 := s0.trans (Same.new (o := .tup (as.map V.ref)) hp)
  have nxp : x ≠ p := fun q => by
    subst q
    rw [upd_same] at hp
    cases hp
  refine ⟨x, dx, p, as, os, rfl, by rw [upd_ne nxp, upd_same], .inl (.inl upd_same), h.mono s1, g, fun H' hx' kp => ?_⟩
  have s2 : Same H H' := fun b o e => kp b o (s1 b o e) (ne_of_none e hx)
  refine k H' s2 ⟨dx, p, as, hx', .inl (.inl (kp p _ upd_same nxp.symm)), h.mono s2⟩
theorem book_made {C : Addr} {H : Hp} {as : List Addr} {os : List Ordr} {Q : VK} {E : XK} (h : OrdsAt K H as os) (g : Good os) (k : ∀ H' p, Same H H' → H p = none → BookAt K C H' p os → Q (.ref p) H') :
    ∀ x dx, H x = none → H dx = none → dx ≠ x → spBookInit K C (.ref x :: as.map V.ref) (upd (upd H dx (.own x)) x (.ins C dx [])) (fun v H2 => v = .non ∧ Q (.ref x) H2) E := by
  intro x dx hx hdx ne
  exact book_made' h g hx hdx ne fun H' s b => ⟨rfl, k H' x s hx b⟩
def spBookOf (K : PySem.W.Frag) (C : Addr) : Sp := fun vs H Q _ => ∃ t as os, vs = [.ref t] ∧ (SqT K H t (as.map V.ref) ∨ SqL K H t (as.map V.ref)) ∧ OrdsAt K H as os ∧ Good os ∧ ∀ H' p, Same H H' → H p = none → BookAt K C H' p os → Q (.ref p) H'
theorem ok_book_of (T : Top K mg C_Book C_Letter C_Decoder C_MailError C_InvalidOrder C_UnknownOrder C_InvalidAddress C_InvalidDay C_InvalidNumber C_NotationError C_InvalidCount C_DecodeError) : GFn P w K mg base CX0 5 "book_of" (spBookOf K C_Book) := by
  have G_Book : IFn P w K mg base CX0 3 C_Book "Book" (spBookInit K C_Book) := ok_Book T
  refine T.d_book_of.fn fun f fd F => F.ok sc_book_of (fun vs H Q E h => ?_) (fun cdv A outer s H vs Q E hr h => ?_)
  · obtain ⟨t, as, os, rfl, _⟩ := h
    rfl
  · obtain ⟨t, as, os, rfl, ht, ho, g, k⟩ := h
    refine ⟨_, (pss_one (ps_ret (pe_mkS G_Book (hr.mono (by decide)) pass0 (pv 0)))), ?_⟩
    refine ⟨_, rfl, t, _, rfl, ht, ?_⟩
    show ∀ x dx, H x = none → H dx = none → dx ≠ x → spBookInit K C_Book (.ref x :: (as.map V.ref ++ [])) _ _ _
    rw [List.append_nil]
    exact book_made ho g k
def spBookAdd (K : PySem.W.Frag) (C : Addr) : Sp := fun vs H Q _ => ∃ a b os ps, vs = [.ref a, .ref b] ∧ BookAt K C H a os ∧ BookAt K C H b ps ∧ Good (os ++ ps) ∧ ∀ H' p, Same H H' → H p = none → BookAt K C H' p (os ++ ps) → Q (.ref p) H'
theorem ok_Book_add (T : Top K mg C_Book C_Letter C_Decoder C_MailError C_InvalidOrder C_UnknownOrder C_InvalidAddress C_InvalidDay C_InvalidNumber C_NotationError C_InvalidCount C_DecodeError) : MFn P w K mg base CX0 6 C_Book "__add__" (spBookAdd K C_Book) := by
  have G_book_of : GFn P w K mg base CX0 5 "book_of" (spBookOf K C_Book) := ok_book_of T
  refine T.d_BookX_addX.fn fun f fd F => F.ok sc_BookX_addX (fun vs H Q E h => ?_) (fun cdv A outer s H vs Q E hr h => ?_)
  · obtain ⟨a, b, os, ps, rfl, _⟩ := h
    rfl
  · obtain ⟨a, b, os, ps, rfl, ⟨dx, t, as, h1, h2, h3⟩, ⟨dy, u, bs, h4, h5, h6⟩, g, k⟩ := h
    refine ⟨_, (pss_one (ps_ret (pe_g G_book_of (hr.mono (by decide)) (pa_cons (pe_op op_catA (pe_fld (pv 0) rfl) (pe_fld (pv 1) rfl)) pa_nil)))), ?_⟩
    have la : as.length = os.length := PySem.Paired.length h3
    have lb : bs.length = ps.length := PySem.Paired.length h6
    refine ⟨_, rfl, a, C_Book, dx, _, _, rfl, h1, T.cl_Book, T.n_Book_listed, rfl, _, rfl, b, C_Book, dy, _, _, rfl, h4, T.cl_Book, T.n_Book_listed, rfl, t, u, _, _, rfl, rfl, h2, h5, ?_, fun e => ?_, fun _ e => ?_, fun _ _ p hp => ?_⟩
    · rw [List.length_map, List.length_map, la, lb, ← List.length_append]
      exact Nat.le_trans g.len (by decide)
    · have : os = [] := List.eq_nil_of_length_eq_zero (by rw [← la]; simpa using e)
      subst this
      exact ⟨u, bs, ps, rfl, .inl h5, h6, g, k⟩
    · have : ps = [] := List.eq_nil_of_length_eq_zero (by rw [← lb]; simpa using e)
      subst this
      rw [List.append_nil] at g k
      exact ⟨t, as, os, rfl, .inl h2, h3, g, k⟩
    · have s1 := Same.new (o := .tup (as.map V.ref ++ bs.map V.ref)) hp
      refine ⟨p, as ++ bs, os ++ ps, rfl, .inl ?_, Paired.append (OrdsAt.mono h3 s1) (OrdsAt.mono h6 s1), g, fun H' q e1 e2 e3 => k H' q (s1.trans e1) (s1.free e2) e3⟩
      rw [List.map_append]
      exact .inl (.inl upd_same)
end

end MF
set_option Elab.async false
set_option linter.all false
set_option maxRecDepth 100000
set_option maxHeartbeats 2000000
set_option pp.maxSteps 600
namespace MF
open PySem PySem.Spec PyProof.Rows L2 StX
section
variable {P : Program} {w : World} {K : PySem.W.Frag} {mg : Str → Option Value} {base : Heap} {C_Book C_Letter C_Decoder C_MailError C_InvalidOrder C_UnknownOrder C_InvalidAddress C_InvalidDay C_InvalidNumber C_NotationError C_InvalidCount C_DecodeError : Addr}
def optI : Option Nat → V
  | none => .non
  | some i => .int (i : Nat)
def optZ : Option Int → V
  | none => .non
  | some i => .int i
def spOrderFor (K : PySem.W.Frag) (C : Addr) : Sp := fun vs H Q _ => ∃ p os z d, vs = [.ref p, .str z, .int d] ∧ BookAt K C H p os ∧ ∀ H', Same H H' → Q (optI (ordFor os z d)) H'
theorem ok_order_for (T : Top K mg C_Book C_Letter C_Decoder C_MailError C_InvalidOrder C_UnknownOrder C_InvalidAddress C_InvalidDay C_InvalidNumber C_NotationError C_InvalidCount C_DecodeError) : MFn P w K mg base CX0 1 C_Book "order_for" (spOrderFor K C_Book) := by
  refine T.d_Book_order_for.fn fun f fd F => F.ok sc_Book_order_for (fun vs H Q E h => ?_) (fun cdv A outer s H vs Q E hr h => ?_)
  · obtain ⟨p, os, z, d, rfl, _⟩ := h
    rfl
  · obtain ⟨p, os, z, d, rfl, ⟨dx, t, as, h1, h2, h3⟩, k⟩ := h
    refine ⟨_, (pss_cons (ps_for PassesOwn.never rfl (pi_enumT (by rfl) T.b_enumerate (pa_cons (pe_fld (pv 0) rfl) pa_nil)) (pg_tup rfl (pgs_cons (pg_name (i := 3) sc_Book_order_for.nd rfl (Or.inl rfl)) (pgs_cons (pg_tup rfl (pgs_cons (pg_name (i := 4) sc_Book_order_for.nd rfl (Or.inl rfl)) (pgs_cons (pg_name (i := 5) sc_Book_order_for.nd rfl (Or.inl rfl)) (pgs_cons (pg_name (i := 6) sc_Book_order_for.nd rfl (Or.inl rfl)) (pgs_cons (pg_name (i := 7) sc_Book_order_for.nd rfl (Or.inl rfl)) (pgs_cons (pg_name (i := 8) sc_Book_order_for.nd rfl (Or.inl rfl)) pgs_nil)))))) pgs_nil)))
  (pss_one (ps_if (PW.pt (pw_and (pt_cmpR op_eq (pv 4) (pv 1) (nomark _)) (pw_and1 (pt_chain op_le op_le (pv 6) (pv 2) (pv 7)))))
  (pss_one (ps_ret (pv 3)))
  pss_nil)))
  (pss_one (ps_ret pe_non))), ?_⟩
    have hl : as.length = os.length := PySem.Paired.length h3
    refine ⟨_, rfl, p, C_Book, dx, _, _, rfl, h1, T.cl_Book, T.n_Book_listed, rfl, t, _, rfl, h2, for_it walk_enumT (fun i σ H' => Same H H' ∧ (∃ v3 v4 v5 v6 v7 v8, σ = [some (.ref p), some (.str z), some (.int d), v3, v4, v5, v6, v7, v8]) ∧ ∀ (j : Nat) q, j < i → os[j]? = some q → holds q z d = false)
      ⟨Same.refl H, ⟨_, _, _, _, _, _, rfl⟩, fun j q hj => absurd hj (Nat.not_lt_zero _)⟩ (fun i σ H' _ ⟨s1, _⟩ => MF.Same.tup s1 h2) ?_ ?_⟩
    · rintro i y σ H1 H2 hi ⟨s1, ⟨v3, v4, v5, v6, v7, v8, rfl⟩, hn⟩ ⟨q, z1, z2, rfl, hq, rfl, e1, e2⟩
      cases e1
      rw [List.length_map] at hi
      obtain ⟨a, ea⟩ : ∃ a, as[i]? = some a := ⟨as[i], by simp [hi]⟩
      replace e2 : (as.map V.ref)[i]? = some z2 := e2
      rw [List.getElem?_map, ea] at e2
      cases e2
      obtain ⟨o, eo, oa⟩ := Paired.get h3 ea
      have s2 : Same H (upd H1 q (.tup [.int (i : Nat), .ref a])) := MF.Same.upd s1 hq
      refine ⟨q, _, rfl, .inl (.inl upd_same), rfl, _, _, rfl, _, _, rfl, a, o.vals, rfl, oa.mono s2, rfl, _, _, rfl, _, _, rfl, _, _, rfl, _, _, rfl, _, _, rfl, rfl, rfl, ?_⟩
      refine ⟨_, rfl, _, rfl, rfl, _, rfl, ?_⟩
      have fin : holds o z d = false → (Same H (upd H1 q (.tup [.int (i : Nat), .ref a])) ∧ (∃ v3 v4 v5 v6 v7 v8, ([some (.ref p), some (.str z), some (.int d), some (.int (i : Nat)), some (.str o.src), some (.str o.tgt), some (.int o.first), some (.int o.last), some (.int o.way)] : L2.St) = [some (.ref p), some (.str z), some (.int d), v3, v4, v5, v6, v7, v8]) ∧ ∀ (j : Nat) q, j < i + 1 → os[j]? = some q → holds q z d = false) := fun hh =>
        ⟨s2, ⟨_, _, _, _, _, _, rfl⟩, fun j q hj ej => by
          by_cases hji : j < i
          · exact hn j q hji ej
          · have : j = i := by omega
            subst this
            rw [eo] at ej
            cases ej
            exact hh⟩
      refine ite2 (fun c1 => ?_) (fun c1 => ?_)
      · have c1' : o.src = z := V.str.inj (of_decide_eq_true c1)
        refine ⟨_, rfl, _, rfl, _, _, rfl, rfl, _, rfl, ?_⟩
        refine ite2 (fun c2 => ?_) (fun c2 => ?_)
        · have c2' : o.first ≤ d := of_decide_eq_true c2
          refine ⟨_, rfl, _, _, rfl, rfl, _, rfl, ?_⟩
          refine ite2 (fun c3 => ?_) (fun c3 => ?_)
          · have c3' : d ≤ o.last := of_decide_eq_true c3
            refine ⟨_, rfl, ?_⟩
            have e : ordFor os z d = some i := ordFor_is hn eo (by simp [holds, c1', c2', c3'])
            have := k _ s2
            rw [e] at this
            exact this
          · have c3' : ¬ d ≤ o.last := fun q => c3 (decide_eq_true q)
            exact fin (by simp [holds, c3'])
        · have c2' : ¬ o.first ≤ d := fun q => c2 (decide_eq_true q)
          refine ⟨_, rfl, ?_⟩
          exact iteF (fin (by simp [holds, c2']))
      · have c1' : ¬ o.src = z := fun q => c1 (decide_eq_true (congrArg V.str q))
        exact iteF (fin (by simp [holds, c1']))
    · rintro σ H1 ⟨s1, ⟨v3, v4, v5, v6, v7, v8, rfl⟩, hn⟩
      have e : ordFor os z d = none := ordFor_none fun q hq => by
        obtain ⟨j, hj, ej⟩ := List.getElem_of_mem hq
        exact hn j q (by rw [List.length_map, hl]; exact hj) (by rw [List.getElem?_eq_getElem hj, ej])
      have := k _ s1
      rw [e] at this
      exact this
end

end MF
set_option Elab.async false
set_option linter.all false
set_option maxRecDepth 100000
set_option maxHeartbeats 2000000
set_option pp.maxSteps 600
namespace MF
open PySem PySem.Spec PyProof.Rows L2 StX
section
variable {P : Program} {w : World} {K : PySem.W.Frag} {mg : Str → Option Value} {base : Heap} {C_Book C_Letter C_Decoder C_MailError C_InvalidOrder C_UnknownOrder C_InvalidAddress C_InvalidDay C_InvalidNumber C_NotationError C_InvalidCount C_DecodeError : Addr}
theorem changes_append (d : Int) : ∀ a b : List Ordr, changes (a ++ b) d = changes a d ++ changes b d
  | [], b => rfl
  | o :: a, b => by
    show ([o.first, o.last + 1].filter fun c => decide (d < c)) ++ changes (a ++ b) d = (([o.first, o.last + 1].filter fun c => decide (d < c)) ++ changes a d) ++ changes b d
    rw [changes_append d a b, List.append_assoc]
theorem changes_len (d : Int) : ∀ a : List Ordr, (changes a d).length ≤ 2 * a.length
  | [] => Nat.zero_le _
  | o :: a => by
    unfold changes
    have h1 := List.length_filter_le (fun c => decide (d < c)) [o.first, o.last + 1]
    have h2 := changes_len d a
    rw [List.length_append, List.length_cons]
    simp only [List.length_cons, List.length_nil] at h1
    omega
theorem DpAll.ints {H : Hp} : ∀ ns : List Int, DpAll K H (ns.map V.int) (ns.map PyData.int)
  | [] => .nil
  | n :: ns => .cons (.int n) (DpAll.ints ns)
def spNextChange (K : PySem.W.Frag) (C : Addr) : Sp := fun vs H Q _ => ∃ p os d, vs = [.ref p, .int d] ∧ BookAt K C H p os ∧ os.length ≤ 30 ∧ ∀ H', Same H H' → Q (optZ (nextCh os d)) H'
theorem ok_next_change (T : Top K mg C_Book C_Letter C_Decoder C_MailError C_InvalidOrder C_UnknownOrder C_InvalidAddress C_InvalidDay C_InvalidNumber C_NotationError C_InvalidCount C_DecodeError) : MFn P w K mg base CX0 1 C_Book "next_change" (spNextChange K C_Book) := by
  refine T.d_Book_next_change.fn fun f fd F => F.ok sc_Book_next_change (fun vs H Q E h => ?_) (fun cdv A outer s H vs Q E hr h => ?_)
  · obtain ⟨p, os, d, rfl, _⟩ := h
    rfl
  · obtain ⟨p, os, d, rfl, ⟨dx, t, as, h1, h2, h3⟩, h30, k⟩ := h
    refine ⟨_, (pss_cons (ps_set (i := 2) sc_Book_next_change.nd rfl (Or.inl rfl) (pe_lst pa_nil))
  (pss_cons (ps_for PassesOwn.never rfl (pi_tup (pe_fld (pv 0) rfl)) (pg_tup rfl (pgs_cons (pg_name (i := 3) sc_Book_next_change.nd rfl (Or.inl rfl)) (pgs_cons (pg_name (i := 4) sc_Book_next_change.nd rfl (Or.inl rfl)) (pgs_cons (pg_name (i := 5) sc_Book_next_change.nd rfl (Or.inl rfl)) (pgs_cons (pg_name (i := 6) sc_Book_next_change.nd rfl (Or.inl rfl)) (pgs_cons (pg_name (i := 7) sc_Book_next_change.nd rfl (Or.inl rfl)) pgs_nil))))))
  (pss_one (ps_expr (pe_bm PySem.F.plainAttrs_list PySem.F.slot_list_extend PySem.F.type_list_extend mt_extend (pv 2) (pa_cons (pe_lc (own := [("change", 8)]) (g := (gName 8)) (by rfl) sc_Book_next_change.nd (pi_tup (pe_tup (pa_cons (pv 5) (pa_cons (pe_op op_add (pv 6) pe_int) pa_nil)))) (blkOk_by (own := [("change", 8)]) (N := ["self", "day", "found", "source", "target", "first", "last", "way", "change"]) (sc := defScope s_Book_next_change) (by decide +kernel)) (fun _ _ _ _ _ => (pg_name (i := 8) sc_Book_next_change.nd rfl (Or.inl rfl))) (fun _ _ _ _ _ => (pts_one (pt_cmpR op_gt (pv 8) (pv 1) (nomark _)))) (fun _ _ _ _ _ => (pv 8))) pa_nil)))))
  (pss_one (ps_ret (pe_ifExp (pt_cmpR (op_neD hr.units) (pv 2) (pe_lst pa_nil) (nomark _)) (pe_callB (cr_min rfl) (by rfl) T.b_min (by decide +kernel) (pa_cons (pv 2) pa_nil)) pe_non))))), ?_⟩
    have hl : as.length = os.length := PySem.Paired.length h3
    refine ⟨Nat.zero_le _, fun l hl0 => ?_⟩
    have s0 : Same H (upd H l (.lst [])) := Same.new hl0
    refine ⟨_, rfl, p, C_Book, dx, _, _, rfl, s0 _ _ h1, T.cl_Book, T.n_Book_listed, rfl, t, rfl, ⟨_, MF.Same.tup s0 h2⟩, for_it (walk_tup (xs := as.map V.ref)) (fun i σ H' => Same H H' ∧ H' l = some (.lst ((changes (os.take i) d).map V.int)) ∧ ∃ v3 v4 v5 v6 v7 v8, σ = [some (.ref p), some (.int d), some (.ref l), v3, v4, v5, v6, v7, v8])
      ⟨s0, upd_same, _, _, _, _, _, _, rfl⟩ (fun i σ H' _ ⟨s1, _⟩ => MF.Same.tup s1 h2) ?_ ?_⟩
    · rintro i y σ H1 H2 hi ⟨s1, el, v3, v4, v5, v6, v7, v8, rfl⟩ ⟨rfl, ey⟩
      rw [List.length_map] at hi
      obtain ⟨a, ea⟩ : ∃ a, as[i]? = some a := ⟨as[i], by simp [hi]⟩
      rw [List.getElem?_map, ea] at ey
      cases ey
      obtain ⟨o, eo, oa⟩ := Paired.get h3 ea
      have hio : i < os.length := hl ▸ hi
      refine ⟨a, o.vals, rfl, oa.mono s1, rfl, _, _, rfl, _, _, rfl, _, _, rfl, _, _, rfl, _, _, rfl, rfl, ?_⟩
      refine ⟨_, rfl, .inl ⟨rfl, _, SqL.of el⟩, ?_⟩
      refine ⟨_, rfl, _, rfl, _, _, rfl, rfl, (by show 2 ≤ sizeLine; decide), fun q hq => ?_⟩
      have s2 : Same H (upd H2 q (.tup [.int o.first, .int (o.last + 1)])) := MF.Same.upd s1 hq
      have nlq : l ≠ q := ne_of_none el hq
      have el2 : upd H2 q (.tup [.int o.first, .int (o.last + 1)]) l = some (.lst ((changes (os.take i) d).map V.int)) := by rw [upd_ne nlq]; exact el
      refine ⟨q, rfl, ⟨_, .inl (.inl upd_same)⟩, fun D hD => ?_⟩
      have nlD : l ≠ D := ne_of_none el2 hD
      have nqD : q ≠ D := ne_of_none (o := .tup [.int o.first, .int (o.last + 1)]) upd_same hD
      refine lc_it (walk_tup (xs := [V.int o.first, V.int (o.last + 1)])) (fun j H' => Same H H' ∧ H' l = some (.lst ((changes (os.take i) d).map V.int)) ∧ H' q = some (.tup [.int o.first, .int (o.last + 1)]) ∧ H' D = some (.lst ((([o.first, o.last + 1].take j).filter fun c => decide (d < c)).map V.int)))
        ⟨MF.Same.upd s2 hD, by rw [upd_ne nlD]; exact el2, by rw [upd_ne nqD, upd_same], by rw [upd_same]; rfl⟩ (fun j H' _ ⟨_, _, e, _⟩ => .inl (.inl e)) ?_ ?_
      · rintro j y H3 H4 hj ⟨s3, l3, q3, d3⟩ ⟨rfl, ey⟩
        have hj2 : j < 2 := hj
        obtain ⟨c, rfl, ec⟩ : ∃ c, y = V.int c ∧ [o.first, o.last + 1][j]? = some c := by
          have : j = 0 ∨ j = 1 := by omega
          rcases this with rfl | rfl
          · cases ey; exact ⟨_, rfl, rfl⟩
          · cases ey; exact ⟨_, rfl, rfl⟩
        have et : [o.first, o.last + 1].take (j + 1) = [o.first, o.last + 1].take j ++ [c] := by
          rw [List.take_add_one, ec]
          rfl
        refine ⟨rfl, ?_⟩
        refine ⟨_, rfl, _, rfl, _, _, rfl, rfl, _, rfl, ?_⟩
        refine ite2 (fun c1 => ?_) (fun c1 => ?_)
        · have c1' : d < c := of_decide_eq_true c1
          refine ⟨_, rfl, _, d3, ?_, ?_, ?_, ?_, ?_⟩
          · rw [List.length_map]
            exact Nat.lt_of_le_of_lt (List.length_filter_le _ _) (Nat.lt_of_le_of_lt (List.length_take_le _ _) (Nat.lt_of_lt_of_le hj2 (by decide)))
          · intro b u e
            have nb : b ≠ D := ne_of_none (s2 b u e) hD
            rw [upd_ne nb]
            exact s3 b u e
          · rw [upd_ne nlD]; exact l3
          · rw [upd_ne nqD]; exact q3
          · rw [upd_same, et, List.filter_append, List.map_append]
            simp [c1']
        · have c1' : ¬ d < c := fun z => c1 (decide_eq_true z)
          refine ⟨s3, l3, q3, ?_⟩
          rw [d3, et, List.filter_append, List.map_append]
          simp [c1']
      · rintro H3 ⟨s3, l3, q3, d3⟩
        have e2 : [o.first, o.last + 1].take 2 = [o.first, o.last + 1] := rfl
        have et : os.take (i + 1) = os.take i ++ [o] := by
          rw [List.take_add_one, eo]
          rfl
        have ec : changes (os.take (i + 1)) d = changes (os.take i) d ++ ([o.first, o.last + 1].filter fun c => decide (d < c)) := by
          rw [et, changes_append]
          show _ ++ changes [o] d = _
          unfold changes
          simp [changes]
        refine ⟨l, D, _, _, rfl, rfl, l3, d3, ?_, ?_, ?_, _, _, _, _, _, _, rfl⟩
        · have := changes_len d (os.take i)
          have h4 : (([o.first, o.last + 1].take [V.int o.first, V.int (o.last + 1)].length).filter fun c => decide (d < c)).length ≤ 2 := List.length_filter_le _ _
          rw [List.length_map, List.length_map]
          rw [List.length_take] at this
          have h5 : 62 ≤ sizeLine := by decide
          omega
        · intro b u e
          have nb : b ≠ l := ne_of_none e hl0
          rw [upd_ne nb]
          exact s3 b u e
        · rw [upd_same, ec, List.map_append]
          rfl
    · rintro σ H1 ⟨s1, el, v3, v4, v5, v6, v7, v8, rfl⟩
      rw [List.length_map, hl, List.take_length] at el
      refine ⟨_, rfl, Nat.zero_le _, fun r hr0 => ?_⟩
      have s2 := MF.Same.upd (o := .lst []) s1 hr0
      have nlr : l ≠ r := ne_of_none el hr0
      have el2 : upd H1 r (.lst []) l = some (.lst ((changes os d).map V.int)) := by rw [upd_ne nlr]; exact el
      refine ⟨.list ((changes os d).map PyData.int), .list [], .lst (SqL.of el2) (DpAll.ints _), .lst (SqL.of upd_same) .nil, PySem.W.ke_shaped_ints _, rfl, _, rfl, ?_⟩
      cases ec : changes os d with
      | nil =>
        refine iteF ?_
        have e : nextCh os d = none := by unfold nextCh; rw [ec]; rfl
        have := k _ s2
        rw [e] at this
        exact this
      | cons c cs =>
        refine iteT ?_
        rw [ec] at el2
        refine ⟨_, rfl, l, _, rfl, SqL.of el2, Nat.succ_pos _, fun m hm hle => ?_⟩
        have e : nextCh os d = some m := by
          unfold nextCh
          rw [ec]
          exact leastOf_some.mpr ⟨hm, hle⟩
        have := k _ s2
        rw [e] at this
        exact this
def tupl : HO → Bool
  | .tup _ => true
  | .frz _ (.tup _) => true
  | _ => false
theorem BookAt.kept {C : Addr} {H H' : Hp} {p : Addr} {os : List Ordr} (h : BookAt K C H p os) (hp : ∀ u, H p = some u → H' p = some u) (ht : ∀ b u, H b = some u → tupl u = true → H' b = some u) : BookAt K C H' p os := by
  obtain ⟨dx, t, as, h1, h2, h3⟩ := h
  have tp : ∀ a xs, SqT K H a xs → SqT K H' a xs := fun a xs z => by
    rcases z with (z | ⟨u, z⟩) | z
    · exact .inl (.inl (ht _ _ z rfl))
    · exact .inl (.inr ⟨u, ht _ _ z rfl⟩)
    · exact .inr z
  exact ⟨dx, t, as, hp _ h1, tp _ _ h2, PySem.Paired.mono (fun a o z => tp a _ z) h3⟩
end

end MF
set_option Elab.async false
set_option linter.all false
set_option maxRecDepth 100000
set_option maxHeartbeats 2000000
set_option pp.maxSteps 600
namespace MF
open PySem PySem.Spec PyProof.Rows L2 StX
section
variable {P : Program} {w : World} {K : PySem.W.Frag} {mg : Str → Option Value} {base : Heap} {C_Book C_Letter C_Decoder C_MailError C_InvalidOrder C_UnknownOrder C_InvalidAddress C_InvalidDay C_InvalidNumber C_NotationError C_InvalidCount C_DecodeError : Addr}
def lf (bk : Addr) (x : Str) (d n : Int) (kn : Addr) (e : Bool) (c : V) : List (Str × V) := [("book", .ref bk), ("address", .str x), ("day", .int d), ("count", .int n), ("known", .ref kn), ("is_endless", .bl e), ("change", c)]
def LetterAt (C : Addr) (H : Hp) (p kn : Addr) (kvs : List (Key × V)) (bk : Addr) (x : Str) (d n : Int) (e : Bool) (c : Option Int) : Prop := (∃ dx, H p = some (.ins C dx (lf bk x d n kn e (optZ c)))) ∧ H kn = some (.dK kvs)
theorem LetterAt.ne {C : Addr} {H : Hp} {p kn : Addr} {kvs : List (Key × V)} {bk : Addr} {x : Str} {d n : Int} {e : Bool} {c : Option Int} (h : LetterAt C H p kn kvs bk x d n e c) : p ≠ kn := by
  obtain ⟨⟨dx, h1⟩, h2⟩ := h
  exact ne_of h1 h2 (by intro z; cases z)
theorem LetterAt.keep {C : Addr} {H H' : Hp} {p kn : Addr} {kvs : List (Key × V)} {bk : Addr} {x : Str} {d n : Int} {e : Bool} {c : Option Int} (h : LetterAt C H p kn kvs bk x d n e c) (k1 : ∀ o, H p = some o → H' p = some o) (k2 : ∀ o, H kn = some o → H' kn = some o) : LetterAt C H' p kn kvs bk x d n e c := by
  obtain ⟨⟨dx, h1⟩, h2⟩ := h
  exact ⟨⟨dx, k1 _ h1⟩, k2 _ h2⟩
theorem BookAt.keep {C : Addr} {H H' : Hp} {p q : Addr} {os : List Ordr} (h : BookAt K C H p os) (hq : ∃ o, H q = some o ∧ (∀ xs, o ≠ .tup xs) ∧ (∀ u xs, o ≠ .frz u (.tup xs))) (ne : p ≠ q) (k : ∀ b u, H b = some u → b ≠ q → H' b = some u) : BookAt K C H' p os := by
  obtain ⟨dx, t, as, h1, h2, h3⟩ := h
  obtain ⟨oq, eq, n1, n2⟩ := hq
  have tp : ∀ a xs, SqT K H a xs → SqT K H' a xs := fun a xs z => by
    rcases z with (z | ⟨u, z⟩) | z
    · refine .inl (.inl (k _ _ z fun w => ?_))
      rw [w, eq] at z
      exact n1 _ (Option.some.inj z)
    · refine .inl (.inr ⟨u, k _ _ z fun w => ?_⟩)
      rw [w, eq] at z
      exact n2 _ _ (Option.some.inj z)
    · exact .inr z
  exact ⟨dx, t, as, k _ _ h1 ne, tp _ _ h2, PySem.Paired.mono (fun a o z => tp a _ z) h3⟩
def spLetterInit (K : PySem.W.Frag) (CB CL : Addr) : Sp := fun vs H Q _ => ∃ p dx bk os x d, vs = [.ref p, .ref bk, .str x, .int d] ∧ H p = some (.ins CL dx []) ∧ BookAt K CB H bk os ∧ os.length ≤ 30 ∧ bk ≠ p ∧
  ∀ H' kn, H kn = none → LetterAt CL H' p kn [] bk x d 0 false (nextCh os d) → (∀ b u, H b = some u → b ≠ p → H' b = some u) → Q .non H'
def spLetterInitX (K : PySem.W.Frag) (CB CL : Addr) : Sp := fun vs H Q _ => ∃ p dx bk os x d, vs = [.ref p, .ref bk, .str x, .int d] ∧ H p = some (.ins CL dx []) ∧ BookAt K CB H bk os ∧ os.length ≤ 30 ∧ bk ≠ p ∧
  ∀ H' kn, H kn = none → LetterAt CL H' p kn [] bk x d 0 false (nextCh os d) → (∀ b u, H b = some u → b ≠ p → H' b = some u) → (∃ fs, H' p = some (.ins CL dx fs)) → Q .non H'
structure LCls (K : PySem.W.Frag) (C : Addr) : Prop where
  cl : Cls K C
  book : NoAttr K C "book"
  address : NoAttr K C "address"
  day : NoAttr K C "day"
  count : NoAttr K C "count"
  known : NoAttr K C "known"
  is_endless : NoAttr K C "is_endless"
  change : NoAttr K C "change"
theorem lcls (T : Top K mg C_Book C_Letter C_Decoder C_MailError C_InvalidOrder C_UnknownOrder C_InvalidAddress C_InvalidDay C_InvalidNumber C_NotationError C_InvalidCount C_DecodeError) : LCls K C_Letter := ⟨T.cl_Letter, T.n_Letter_book, T.n_Letter_address, T.n_Letter_day, T.n_Letter_count, T.n_Letter_known, T.n_Letter_is_endless, T.n_Letter_change⟩
theorem letter_initX (T : Top K mg C_Book C_Letter C_Decoder C_MailError C_InvalidOrder C_UnknownOrder C_InvalidAddress C_InvalidDay C_InvalidNumber C_NotationError C_InvalidCount C_DecodeError) {C : Addr} (L : LCls K C) {f : Addr} {fd : FuncData} (F : Fun K "__init__" "Letter.__init__" s_LetterX_initX f fd) : FnOk P w K mg base CX0 2 f fd ["self", "book", "address", "day"] (spLetterInitX K C_Book C) := by
  have M_Book_next_change : MFn P w K mg base CX0 1 C_Book "next_change" (spNextChange K C_Book) := ok_next_change T
  refine F.ok sc_LetterX_initX (fun vs H Q E h => ?_) (fun cdv A outer s H vs Q E hr h => ?_)
  · obtain ⟨p, dx, bk, os, x, d, rfl, _⟩ := h
    rfl
  · obtain ⟨p, dx, bk, os, x, d, rfl, hp, hb, h30, nbp, k⟩ := h
    refine ⟨_, (pss_cons (ps_fld (pv 0) (pv 1) rfl)
  (pss_cons (ps_fld (pv 0) (pv 2) rfl)
  (pss_cons (ps_fld (pv 0) (pv 3) rfl)
  (pss_cons (ps_fld (pv 0) pe_int rfl)
  (pss_cons (ps_fld (pv 0) pe_dnewK rfl)
  (pss_cons (ps_fld (pv 0) pe_bl rfl)
  (pss_one (ps_fld (pv 0) (pe_m M_Book_next_change T.cl_Book (hr.mono (by decide)) (pv 1) (pa_cons (pv 3) pa_nil)) rfl)))))))), ?_⟩
    have hpi : ∃ o, H p = some o ∧ (∀ xs, o ≠ HO.tup xs) ∧ (∀ u xs, o ≠ HO.frz u (.tup xs)) := ⟨_, hp, (fun _ z => by cases z), (fun _ _ z => by cases z)⟩
    refine ⟨_, rfl, _, rfl, p, C, dx, _, rfl, hp, L.cl, L.book, (by show 0 < 1000; decide), ?_⟩
    refine ⟨_, rfl, _, rfl, p, C, dx, _, rfl, upd_same, L.cl, L.address, (by show 1 < 1000; decide), ?_⟩
    rw [upd_upd]
    refine ⟨_, rfl, _, rfl, p, C, dx, _, rfl, upd_same, L.cl, L.day, (by show 2 < 1000; decide), ?_⟩
    rw [upd_upd]
    refine ⟨_, rfl, p, C, dx, _, rfl, upd_same, L.cl, L.count, (by show 3 < 1000; decide), ?_⟩
    rw [upd_upd]
    intro kn hkn
    have npk : p ≠ kn := fun z => by
      subst z
      rw [upd_same] at hkn
      cases hkn
    have hkn0 : H kn = none := by rw [upd_ne npk.symm] at hkn; exact hkn
    refine ⟨_, rfl, p, C, dx, _, rfl, (by rw [upd_ne npk, upd_same]), L.cl, L.known, (by show 4 < 1000; decide), ?_⟩
    refine ⟨_, rfl, p, C, dx, _, rfl, upd_same, L.cl, L.is_endless, (by show 5 < 1000; decide), ?_⟩
    rw [upd_upd]
    generalize eH : upd (upd (upd H p _) kn _) p _ = H1
    have kH : ∀ b u, H b = some u → b ≠ p → H1 b = some u := fun b u e nb => by
      rw [← eH, upd_ne nb, upd_ne (ne_of_none e hkn0), upd_ne nb]
      exact e
    have hb1 : BookAt K C_Book H1 bk os := hb.keep hpi nbp kH
    have hp1 : H1 p = some (.ins C dx [("book", .ref bk), ("address", .str x), ("day", .int d), ("count", .int 0), ("known", .ref kn), ("is_endless", .bl false)]) := by
      rw [← eH, upd_same]
      rfl
    have hk1 : H1 kn = some (.dK []) := by rw [← eH, upd_ne npk.symm, upd_same]
    obtain ⟨dy, t, as, b1, b2, b3⟩ := id hb1
    refine ⟨_, rfl, bk, dy, _, rfl, b1, rfl, _, rfl, bk, os, d, rfl, hb1, h30, fun H2 s2 => ?_⟩
    refine ⟨_, rfl, p, C, dx, _, rfl, s2 _ _ hp1, L.cl, L.change, (by show 6 < 1000; decide), ?_⟩
    refine k _ kn hkn0 ⟨⟨dx, upd_same⟩, by rw [upd_ne npk.symm]; exact s2 _ _ hk1⟩ (fun b u e nb => ?_) ⟨_, upd_same⟩
    rw [upd_ne nb]
    exact s2 _ _ (kH b u e nb)
theorem letter_init (T : Top K mg C_Book C_Letter C_Decoder C_MailError C_InvalidOrder C_UnknownOrder C_InvalidAddress C_InvalidDay C_InvalidNumber C_NotationError C_InvalidCount C_DecodeError) {C : Addr} (L : LCls K C) {f : Addr} {fd : FuncData} (F : Fun K "__init__" "Letter.__init__" s_LetterX_initX f fd) : FnOk P w K mg base CX0 2 f fd ["self", "book", "address", "day"] (spLetterInit K C_Book C) :=
  (letter_initX T L F).imp fun vs H Q E ⟨p, dx, bk, os, x, d, h1, h2, h3, h4, h5, k⟩ => ⟨p, dx, bk, os, x, d, h1, h2, h3, h4, h5, fun H' kn a b c _ => k H' kn a b c⟩
theorem ok_LetterX (T : Top K mg C_Book C_Letter C_Decoder C_MailError C_InvalidOrder C_UnknownOrder C_InvalidAddress C_InvalidDay C_InvalidNumber C_NotationError C_InvalidCount C_DecodeError) : IFn P w K mg base CX0 2 C_Letter "Letter" (spLetterInitX K C_Book C_Letter) := T.d_LetterX_initX.fn fun f fd F => letter_initX T (lcls T) F
theorem ok_Letter (T : Top K mg C_Book C_Letter C_Decoder C_MailError C_InvalidOrder C_UnknownOrder C_InvalidAddress C_InvalidDay C_InvalidNumber C_NotationError C_InvalidCount C_DecodeError) : IFn P w K mg base CX0 2 C_Letter "Letter" (spLetterInit K C_Book C_Letter) := T.d_LetterX_initX.fn fun f fd F => letter_init T (lcls T) F
def spOrderNowX (K : PySem.W.Frag) (CB CL : Addr) : Sp := fun vs H Q _ => ∃ p dx bk os x d n kn e c ext, vs = [.ref p] ∧ H p = some (.ins CL dx (lf bk x d n kn e c ++ ext)) ∧ BookAt K CB H bk os ∧ ∀ H', Same H H' → Q (optI (ordFor os x d)) H'
def spOrderNow (K : PySem.W.Frag) (CB CL : Addr) : Sp := fun vs H Q _ => ∃ p kn kvs bk os x d n e c, vs = [.ref p] ∧ LetterAt CL H p kn kvs bk x d n e c ∧ BookAt K CB H bk os ∧ ∀ H', Same H H' → Q (optI (ordFor os x d)) H'
theorem letter_order_now (T : Top K mg C_Book C_Letter C_Decoder C_MailError C_InvalidOrder C_UnknownOrder C_InvalidAddress C_InvalidDay C_InvalidNumber C_NotationError C_InvalidCount C_DecodeError) {C : Addr} (L : LCls K C) {f : Addr} {fd : FuncData} (F : Fun K "order_now" "Letter.order_now" s_Letter_order_now f fd) : FnOk P w K mg base CX0 2 f fd ["self"] (spOrderNowX K C_Book C) := by
  have M_Book_order_for : MFn P w K mg base CX0 1 C_Book "order_for" (spOrderFor K C_Book) := ok_order_for T
  refine F.ok sc_Letter_order_now (fun vs H Q E h => ?_) (fun cdv A outer s H vs Q E hr h => ?_)
  · obtain ⟨p, dx, bk, os, x, d, n, kn, e, c, ext, rfl, _⟩ := h
    rfl
  · obtain ⟨p, dx, bk, os, x, d, n, kn, e, c, ext, rfl, h1, hb, k⟩ := h
    refine ⟨_, (pss_one (ps_ret (pe_m M_Book_order_for T.cl_Book (hr.mono (by decide)) (pe_fld (pv 0) rfl) (pa_cons (pe_fld (pv 0) rfl) (pa_cons (pe_fld (pv 0) rfl) pa_nil))))), ?_⟩
    obtain ⟨dy, t, as, b1, b2, b3⟩ := id hb
    refine ⟨_, rfl, p, C, dx, _, _, rfl, h1, L.cl, L.book, rfl, bk, dy, _, rfl, b1, rfl, ?_⟩
    refine ⟨_, rfl, p, C, dx, _, _, rfl, h1, L.cl, L.address, rfl, _, rfl, p, C, dx, _, _, rfl, h1, L.cl, L.day, rfl, ?_⟩
    exact ⟨bk, os, x, d, rfl, hb, k⟩
theorem ok_order_now (T : Top K mg C_Book C_Letter C_Decoder C_MailError C_InvalidOrder C_UnknownOrder C_InvalidAddress C_InvalidDay C_InvalidNumber C_NotationError C_InvalidCount C_DecodeError) : MFn P w K mg base CX0 2 C_Letter "order_now" (spOrderNow K C_Book C_Letter) := T.d_Letter_order_now.fn fun f fd F =>
  (letter_order_now T (lcls T) F).imp fun vs H Q E ⟨p, kn, kvs, bk, os, x, d, n, e, c, h1, ⟨⟨dx, h2⟩, _⟩, hb, k⟩ => ⟨p, dx, bk, os, x, d, n, kn, e, optZ c, [], h1, h2, hb, k⟩
end

end MF
set_option Elab.async false
set_option linter.all false
set_option maxRecDepth 100000
set_option maxHeartbeats 2000000
set_option pp.maxSteps 600
namespace MF
open PySem PySem.Spec PyProof.Rows L2 StX
section
variable {P : Program} {w : World} {K : PySem.W.Frag} {mg : Str → Option Value} {base : Heap} {C_Book C_Letter C_Decoder C_MailError C_InvalidOrder C_UnknownOrder C_InvalidAddress C_InvalidDay C_InvalidNumber C_NotationError C_InvalidCount C_DecodeError : Addr}
def stepCh (os : List Ordr) (c : Option Int) (d : Int) : Option Int := match c with
  | none => none
  | some m => if m ≤ d then nextCh os d else some m
def resets (c : Option Int) (d : Int) : Bool := match c with
  | none => false
  | some m => decide (m ≤ d)
def spStep (K : PySem.W.Frag) (CB CL : Addr) : Sp := fun vs H Q _ => ∃ p kn kvs bk os x d n e c, vs = [.ref p] ∧ LetterAt CL H p kn kvs bk x d n e c ∧ BookAt K CB H bk os ∧ os.length ≤ 30 ∧ bk ≠ p ∧
  (ordFor os x d = none → ∀ H', Same H H' → Q (.bl false) H') ∧
  (∀ i o, ordFor os x d = some i → os[i]? = some o → ∀ H' kn', (resets c (d + o.way) = false → kn' = kn) → (resets c (d + o.way) = true → H kn' = none) →
    LetterAt CL H' p kn' (if resets c (d + o.way) = true then [] else kvs) bk o.tgt (d + o.way) (n + 1) e (stepCh os c (d + o.way)) → (∀ b u, H b = some u → b ≠ p → H' b = some u) → Q (.bl true) H')
def spStepX (K : PySem.W.Frag) (CB CL : Addr) : Sp := fun vs H Q _ => ∃ p kn kvs bk os x d n e c, vs = [.ref p] ∧ LetterAt CL H p kn kvs bk x d n e c ∧ BookAt K CB H bk os ∧ os.length ≤ 30 ∧ bk ≠ p ∧
  (ordFor os x d = none → ∀ H', Same H H' → Q (.bl false) H') ∧
  (∀ i o, ordFor os x d = some i → os[i]? = some o → ∀ H' kn', (resets c (d + o.way) = false → kn' = kn) → (resets c (d + o.way) = true → H kn' = none) →
    LetterAt CL H' p kn' (if resets c (d + o.way) = true then [] else kvs) bk o.tgt (d + o.way) (n + 1) e (stepCh os c (d + o.way)) → (∀ b u, H b = some u → b ≠ p → H' b = some u) → (∀ dx fs, H p = some (.ins CL dx fs) → ∃ fs', H' p = some (.ins CL dx fs')) → Q (.bl true) H')
theorem ok_stepX (T : Top K mg C_Book C_Letter C_Decoder C_MailError C_InvalidOrder C_UnknownOrder C_InvalidAddress C_InvalidDay C_InvalidNumber C_NotationError C_InvalidCount C_DecodeError) : MFn P w K mg base CX0 3 C_Letter "step" (spStepX K C_Book C_Letter) := by
  have M_Book_next_change : MFn P w K mg base CX0 1 C_Book "next_change" (spNextChange K C_Book) := ok_next_change T
  have M_Letter_order_now : MFn P w K mg base CX0 2 C_Letter "order_now" (spOrderNow K C_Book C_Letter) := ok_order_now T
  refine T.d_Letter_step.fn fun f fd F => F.ok sc_Letter_step (fun vs H Q E h => ?_) (fun cdv A outer s H vs Q E hr h => ?_)
  · obtain ⟨p, kn, kvs, bk, os, x, d, n, e, c, rfl, _⟩ := h
    rfl
  · obtain ⟨p, kn, kvs, bk, os, x, d, n, e, c, rfl, L, hb, h30, nbp, k0, k1⟩ := h
    refine ⟨_, (pss_cons (ps_set (i := 1) sc_Letter_step.nd rfl (Or.inl rfl) (pe_m0 M_Letter_order_now T.cl_Letter (hr.mono (by decide)) (pv 0)))
  (pss_cons (ps_if (pt_cmpR op_isN (pv 1) pe_non (nomark _))
  (pss_one (ps_ret pe_bl))
  pss_nil)
  (pss_cons (ps_asg (pe_ix ix_tup (pe_fld (pe_fld (pv 0) rfl) rfl) (pv 1) (fun _ _ => rfl)) (pg_tup rfl (pgs_cons (pg_name (i := 2) sc_Letter_step.nd rfl (Or.inl rfl)) (pgs_cons (pg_name (i := 3) sc_Letter_step.nd rfl (Or.inl rfl)) (pgs_cons (pg_name (i := 4) sc_Letter_step.nd rfl (Or.inl rfl)) (pgs_cons (pg_name (i := 5) sc_Letter_step.nd rfl (Or.inl rfl)) (pgs_cons (pg_name (i := 6) sc_Letter_step.nd rfl (Or.inl rfl)) pgs_nil)))))))
  (pss_cons (ps_fld (pv 0) (pv 3) rfl)
  (pss_cons (ps_fldaug (pv 0) (pv 6) in_add)
  (pss_cons (ps_fldaug (pv 0) pe_int in_add)
  (pss_cons (ps_if (PW.pt (pw_and (pt_cmpR op_notN (pe_fld (pv 0) rfl) pe_non (nomark _)) (pw_and1 (pt_cmpR op_ge (pe_fld (pv 0) rfl) (pe_fld (pv 0) rfl) (nomark _)))))
  (pss_cons (ps_fld (pv 0) pe_dnewK rfl)
  (pss_one (ps_fld (pv 0) (pe_m M_Book_next_change T.cl_Book (hr.mono (by decide)) (pe_fld (pv 0) rfl) (pa_cons (pe_fld (pv 0) rfl) pa_nil)) rfl)))
  pss_nil)
  (pss_one (ps_ret pe_bl))))))))), ?_⟩
    obtain ⟨⟨dx, h1⟩, h2⟩ := id L
    have npk := L.ne
    refine ⟨_, rfl, p, dx, _, rfl, h1, rfl, p, kn, kvs, bk, os, x, d, n, e, c, rfl, L, hb, fun H1 s1 => ?_⟩
    cases eo : ordFor os x d with
    | none =>
      refine ⟨_, rfl, rfl, _, rfl, ?_⟩
      exact iteD rfl (k0 eo H1 s1)
    | some i =>
      obtain ⟨o, ei, _⟩ := ordFor_some eo
      refine ⟨_, rfl, rfl, _, rfl, ?_⟩
      refine iteDN (by intro z; cases z) ?_
      have hb1 := hb.mono s1
      obtain ⟨dy, t, as, b1, b2, b3⟩ := id hb1
      have la : as.length = os.length := PySem.Paired.length b3
      have hi : i < as.length := by rw [la]; exact (List.getElem?_eq_some_iff.mp ei).1
      obtain ⟨a, ea⟩ : ∃ a, as[i]? = some a := ⟨as[i], by simp [hi]⟩
      obtain ⟨o', eo', oa⟩ := Paired.get b3 ea
      rw [ei] at eo'
      cases eo'
      have hp1 := s1 _ _ h1
      refine ⟨_, rfl, p, C_Letter, dx, _, _, rfl, hp1, T.cl_Letter, T.n_Letter_book, rfl, bk, C_Book, dy, _, _, rfl, b1, T.cl_Book, T.n_Book_listed, rfl, _, rfl, t, _, _, _, rfl, rfl, b2, atI_nat (by rw [List.getElem?_map, ea]; rfl), ?_⟩
      refine ⟨a, o.vals, rfl, oa, rfl, _, _, rfl, _, _, rfl, _, _, rfl, _, _, rfl, _, _, rfl, rfl, ?_⟩
      refine ⟨_, rfl, _, rfl, p, C_Letter, dx, _, rfl, hp1, T.cl_Letter, T.n_Letter_address, (by show 7 < 1000; decide), ?_⟩
      refine ⟨_, rfl, p, C_Letter, dx, _, _, rfl, upd_same, T.cl_Letter, T.n_Letter_day, rfl, _, rfl, _, _, rfl, rfl, dx, _, upd_same, (by show 7 < 1000; decide), ?_⟩
      rw [upd_upd]
      refine ⟨_, rfl, p, C_Letter, dx, _, _, rfl, upd_same, T.cl_Letter, T.n_Letter_count, rfl, _, _, rfl, rfl, dx, _, upd_same, (by show 7 < 1000; decide), ?_⟩
      rw [upd_upd]
      generalize eH : upd H1 p _ = H2
      have hp2 : H2 p = some (.ins C_Letter dx (lf bk o.tgt (d + o.way) (n + 1) kn e (optZ c))) := by rw [← eH, upd_same]; rfl
      have k2 : ∀ b u, H b = some u → b ≠ p → H2 b = some u := fun b u e nb => by rw [← eH, upd_ne nb]; exact s1 _ _ e
      have hk2 : H2 kn = some (.dK kvs) := k2 _ _ h2 npk.symm
      have hpi : ∃ o, H p = some o ∧ (∀ xs, o ≠ HO.tup xs) ∧ (∀ u xs, o ≠ HO.frz u (.tup xs)) := ⟨_, h1, (fun _ z => by cases z), (fun _ _ z => by cases z)⟩
      have hb2 : BookAt K C_Book H2 bk os := hb.keep hpi nbp k2
      refine ⟨_, rfl, p, C_Letter, dx, _, _, rfl, hp2, T.cl_Letter, T.n_Letter_change, rfl, rfl, _, rfl, ?_⟩
      cases c with
      | none =>
        refine iteF ?_
        exact k1 i o eo ei H2 kn (fun _ => rfl) (fun z => by cases z) ⟨⟨dx, hp2⟩, hk2⟩ k2 fun dx' fs' z => by rw [h1] at z; cases z; exact ⟨_, hp2⟩
      | some m =>
        refine iteT ?_
        refine ⟨_, rfl, p, C_Letter, dx, _, _, rfl, hp2, T.cl_Letter, T.n_Letter_day, rfl, _, rfl, p, C_Letter, dx, _, _, rfl, hp2, T.cl_Letter, T.n_Letter_change, rfl, _, _, rfl, rfl, _, rfl, ?_⟩
        refine ite2 (fun c1 => ?_) (fun c1 => ?_)
        · have c1' : m ≤ d + o.way := of_decide_eq_true c1
          have er : resets (some m) (d + o.way) = true := c1
          intro kn' hkn'
          have npk' : p ≠ kn' := ne_of_none hp2 hkn'
          have hkn0 : H kn' = none := by
            cases q : H kn' with
            | none => rfl
            | some u => rw [k2 _ _ q npk'.symm] at hkn'; cases hkn'
          refine ⟨_, rfl, p, C_Letter, dx, _, rfl, (by rw [upd_ne npk']; exact hp2), T.cl_Letter, T.n_Letter_known, (by show 7 < 1000; decide), ?_⟩
          generalize eH3 : upd (upd H2 kn' _) p _ = H3
          have hp3 : H3 p = some (.ins C_Letter dx (lf bk o.tgt (d + o.way) (n + 1) kn' e (optZ (some m)))) := by rw [← eH3, upd_same]; rfl
          have k3 : ∀ b u, H b = some u → b ≠ p → H3 b = some u := fun b u e nb => by rw [← eH3, upd_ne nb, upd_ne (ne_of_none e hkn0)]; exact k2 _ _ e nb
          have hk3 : H3 kn' = some (.dK []) := by rw [← eH3, upd_ne npk'.symm, upd_same]
          have hb3 : BookAt K C_Book H3 bk os := hb.keep hpi nbp k3
          obtain ⟨dz, t3, as3, b13, b23, b33⟩ := id hb3
          refine ⟨_, rfl, p, C_Letter, dx, _, _, rfl, hp3, T.cl_Letter, T.n_Letter_book, rfl, bk, dz, _, rfl, b13, rfl, _, rfl, p, C_Letter, dx, _, _, rfl, hp3, T.cl_Letter, T.n_Letter_day, rfl, bk, os, d + o.way, rfl, hb3, h30, fun H4 s4 => ?_⟩
          refine ⟨_, rfl, p, C_Letter, dx, _, rfl, s4 _ _ hp3, T.cl_Letter, T.n_Letter_change, (by show 7 < 1000; decide), ?_⟩
          have ec : stepCh os (some m) (d + o.way) = nextCh os (d + o.way) := by simp [stepCh, c1']
          refine k1 i o eo ei _ kn' (fun z => by rw [er] at z; cases z) (fun _ => hkn0) ⟨⟨dx, ?_⟩, ?_⟩ (fun b u e nb => ?_) (fun dx' fs' z => by rw [h1] at z; cases z; exact ⟨_, upd_same⟩)
          · rw [upd_same, ec]
            rfl
          · rw [upd_ne npk'.symm, if_pos er]
            exact s4 _ _ hk3
          · rw [upd_ne nb]
            exact s4 _ _ (k3 b u e nb)
        · have c1' : ¬ m ≤ d + o.way := fun z => c1 (decide_eq_true z)
          have er : resets (some m) (d + o.way) = false := decide_eq_false c1'
          have ec : stepCh os (some m) (d + o.way) = some m := by simp [stepCh, c1']
          refine k1 i o eo ei H2 kn (fun _ => rfl) (fun z => by rw [er] at z; cases z) ⟨⟨dx, ?_⟩, ?_⟩ k2 (fun dx' fs' z => by rw [h1] at z; cases z; exact ⟨_, hp2⟩)
          · rw [ec]
            exact hp2
          · rw [if_neg (by rw [er]; exact Bool.false_ne_true)]
            exact hk2
theorem ok_step (T : Top K mg C_Book C_Letter C_Decoder C_MailError C_InvalidOrder C_UnknownOrder C_InvalidAddress C_InvalidDay C_InvalidNumber C_NotationError C_InvalidCount C_DecodeError) : MFn P w K mg base CX0 3 C_Letter "step" (spStep K C_Book C_Letter) := (ok_stepX T).imp fun vs H Q E ⟨p, kn, kvs, bk, os, x, d, n, e, c, h1, h2, h3, h4, h5, k0, k1⟩ =>
  ⟨p, kn, kvs, bk, os, x, d, n, e, c, h1, h2, h3, h4, h5, k0, fun i o a b H' kn' r1 r2 L k _ => k1 i o a b H' kn' r1 r2 L k⟩
end

end MF
set_option Elab.async false
set_option linter.all false
set_option maxRecDepth 100000
set_option maxHeartbeats 2000000
set_option pp.maxSteps 600
namespace MF
open PySem PySem.Spec PyProof.Rows L2 StX
section
variable {P : Program} {w : World} {K : PySem.W.Frag} {mg : Str → Option Value} {base : Heap} {C_Book C_Letter C_Decoder C_MailError C_InvalidOrder C_UnknownOrder C_InvalidAddress C_InvalidDay C_InvalidNumber C_NotationError C_InvalidCount C_DecodeError : Addr}
def spSkip (CL : Addr) : Sp := fun vs H Q _ => ∃ p kn kvs bk x d n e c, vs = [.ref p] ∧ LetterAt CL H p kn kvs bk x d n e c ∧ kvs.length < 1000 ∧
  (valV kvs (.inr x : Key) = none → ∀ H' t, H t = none → LetterAt CL H' p kn (putK kvs (.inr x) (.ref t)) bk x d n e c → H' t = some (.tup [.int d, .int n]) → (∀ b u, H b = some u → b ≠ kn → H' b = some u) → Q .non H') ∧
  (∀ v, valV kvs (.inr x : Key) = some v → ∃ t1 d1 c1, v = .ref t1 ∧ H t1 = some (.tup [.int d1, .int c1]) ∧
    (c = none → ∀ H' kn' t, H kn' = none → H t = none → LetterAt CL H' p kn' [(.inr x, .ref t)] bk x d n true none → H' t = some (.tup [.int d, .int n]) → (∀ b u, H b = some u → b ≠ p → H' b = some u) → Q .non H') ∧
    (∀ m, c = some m → d1 < d ∧ d - d1 < 2 ^ 62 ∧ d < m ∧ m - d < 2 ^ 62 ∧ ∀ H' kn' t, H kn' = none → H t = none →
      LetterAt CL H' p kn' [(.inr x, .ref t)] bk x (d + (m - 1 - d) / (d - d1) * (d - d1)) (n + (m - 1 - d) / (d - d1) * (n - c1)) e c →
      H' t = some (.tup [.int (d + (m - 1 - d) / (d - d1) * (d - d1)), .int (n + (m - 1 - d) / (d - d1) * (n - c1))]) → (∀ b u, H b = some u → b ≠ p → H' b = some u) → Q .non H'))
theorem ok_skip (T : Top K mg C_Book C_Letter C_Decoder C_MailError C_InvalidOrder C_UnknownOrder C_InvalidAddress C_InvalidDay C_InvalidNumber C_NotationError C_InvalidCount C_DecodeError) : MFn P w K mg base CX0 1 C_Letter "skip" (spSkip C_Letter) := by
  refine T.d_Letter_skip.fn fun f fd F => F.ok sc_Letter_skip (fun vs H Q E h => ?_) (fun cdv A outer s H vs Q E hr h => ?_)
  · obtain ⟨p, kn, kvs, bk, x, d, n, e, c, rfl, _⟩ := h
    rfl
  · obtain ⟨p, kn, kvs, bk, x, d, n, e, c, rfl, L, hl, k0, k1⟩ := h
    have hu := hu_of hr
    refine ⟨_, (C8.pss_cut (ps_if (pt_cmp (pc_din hu (pe_fld (pv 0) rfl) (pe_fld (pv 0) rfl)))
  (pss_cons (ps_if (pt_cmpR op_isN (pe_fld (pv 0) rfl) pe_non (nomark _))
  (pss_one (ps_fld (pv 0) pe_bl rfl))
  (pss_cons (ps_asg (pe_dget hu (pe_fld (pv 0) rfl) (pe_fld (pv 0) rfl) (fun _ _ => rfl)) (pg_tup rfl (pgs_cons (pg_name (i := 1) sc_Letter_skip.nd rfl (Or.inl rfl)) (pgs_cons (pg_name (i := 2) sc_Letter_skip.nd rfl (Or.inl rfl)) pgs_nil))))
  (pss_cons (ps_set (i := 3) sc_Letter_skip.nd rfl (Or.inl rfl) (pe_op op_fdivW (pe_op op_sub (pe_op op_sub (pe_fld (pv 0) rfl) pe_int) (pe_fld (pv 0) rfl)) (pe_op op_sub (pe_fld (pv 0) rfl) (pv 1))))
  (pss_cons (ps_fldaug (pv 0) (pe_op op_mul (pv 3) (pe_op op_sub (pe_fld (pv 0) rfl) (pv 2))) in_add)
  (pss_one (ps_fldaug (pv 0) (pe_op op_mul (pv 3) (pe_op op_sub (pe_fld (pv 0) rfl) (pv 1))) in_add))))))
  (pss_one (ps_fld (pv 0) pe_dnewK rfl)))
  pss_nil)
  (pss_one (ps_dput hu (pe_fld (pv 0) rfl) (pe_fld (pv 0) rfl) (pe_tup (pa_cons (pe_fld (pv 0) rfl) (pa_cons (pe_fld (pv 0) rfl) pa_nil))) rfl))), ?_⟩
    obtain ⟨⟨dx, h1⟩, h2⟩ := id L
    have npk := L.ne
    refine ⟨fun σ' H' => ∃ kn1 kvs1 d1 n1 e1 v1 v2 v3, σ' = [some (.ref p), v1, v2, v3] ∧ LetterAt C_Letter H' p kn1 kvs1 bk x d1 n1 e1 c ∧ kvs1.length < 1000 ∧
      (∀ H2 t, H' t = none → LetterAt C_Letter H2 p kn1 (putK kvs1 (.inr x) (.ref t)) bk x d1 n1 e1 c → H2 t = some (.tup [.int d1, .int n1]) → (∀ b u, H' b = some u → b ≠ kn1 → H2 b = some u) → Q .non H2), ?_, ?_⟩
    · refine ⟨_, rfl, p, C_Letter, dx, _, _, rfl, h1, T.cl_Letter, T.n_Letter_address, rfl, _, rfl, p, C_Letter, dx, _, _, rfl, h1, T.cl_Letter, T.n_Letter_known, rfl, kn, _, rfl, DGet.k (k := Sum.inr x) h2, _, rfl, ?_⟩
      cases ev : valV kvs (Sum.inr x : Key) with
      | none =>
        refine iteF ?_
        exact ⟨kn, kvs, d, n, e, _, _, _, rfl, L, hl, k0 ev⟩
      | some v =>
        refine iteT ?_
        obtain ⟨t1, d1, c1, rfl, ht1, ka, kb⟩ := k1 v ev
        refine ⟨_, rfl, p, C_Letter, dx, _, _, rfl, h1, T.cl_Letter, T.n_Letter_change, rfl, rfl, _, rfl, ?_⟩
        cases c with
        | none =>
          refine iteD rfl ?_
          refine ⟨_, rfl, p, C_Letter, dx, _, rfl, h1, T.cl_Letter, T.n_Letter_is_endless, (by show 7 < 1000; decide), ?_⟩
          intro kn' hkn'
          have npk' : p ≠ kn' := ne_of_none (o := _) upd_same hkn'
          rw [upd_ne npk'.symm] at hkn'
          refine ⟨_, rfl, p, C_Letter, dx, _, rfl, (by rw [upd_ne npk', upd_same]), T.cl_Letter, T.n_Letter_known, (by show 7 < 1000; decide), ?_⟩
          generalize eH : upd (upd (upd H p _) kn' _) p _ = H1
          have hp1 : H1 p = some (.ins C_Letter dx (lf bk x d n kn' true (optZ none))) := by rw [← eH, upd_same]; rfl
          have hk1 : H1 kn' = some (.dK []) := by rw [← eH, upd_ne npk'.symm, upd_same]
          have kH : ∀ b u, H b = some u → b ≠ p → H1 b = some u := fun b u q nb => by rw [← eH, upd_ne nb, upd_ne (ne_of_none q hkn'), upd_ne nb]; exact q
          refine ⟨kn', [], d, n, true, _, _, _, rfl, ⟨⟨dx, hp1⟩, hk1⟩, (by show 0 < 1000; decide), fun H2 t ht L2 et kk => ?_⟩
          have ht0 : H t = none := by
            cases q : H t with
            | none => rfl
            | some u =>
              by_cases z : t = p
              · rw [z, hp1] at ht; cases ht
              · rw [kH _ _ q z] at ht; cases ht
          exact ka rfl H2 kn' t hkn' ht0 L2 et fun b u q nb => kk b u (kH b u q nb) (ne_of_none q hkn')
        | some m =>
          obtain ⟨g1, g2, g3, g4, kc⟩ := kb m rfl
          refine iteDN (by intro z; cases z) ?_
          refine ⟨_, rfl, p, C_Letter, dx, _, _, rfl, h1, T.cl_Letter, T.n_Letter_known, rfl, _, rfl, p, C_Letter, dx, _, _, rfl, h1, T.cl_Letter, T.n_Letter_address, rfl, kn, _, rfl, (by have := DGet.k (k := Sum.inr x) h2; rw [ev] at this; exact this), ?_⟩
          refine ⟨t1, _, rfl, .inl (.inl ht1), rfl, _, _, rfl, _, _, rfl, rfl, ?_⟩
          refine ⟨_, rfl, p, C_Letter, dx, _, _, rfl, h1, T.cl_Letter, T.n_Letter_change, rfl, _, _, rfl, rfl, _, rfl, p, C_Letter, dx, _, _, rfl, h1, T.cl_Letter, T.n_Letter_day, rfl, _, _, rfl, rfl, _, rfl, p, C_Letter, dx, _, _, rfl, h1, T.cl_Letter, T.n_Letter_day, rfl, _, rfl, _, _, rfl, rfl, _, _, rfl, rfl, ?_, ?_⟩
          · exact wide_div (b := 62) (by omega) (by omega) (by decide) (by decide)
          generalize eq : (m - 1 - d) / (d - d1) = q at kc ⊢
          have q0 : 0 ≤ q := by rw [← eq]; exact Int.ediv_nonneg (by omega) (by omega)
          have q1 : q ≤ m - 1 - d := by rw [← eq]; exact Int.ediv_le_self _ (by omega)
          refine ⟨_, rfl, p, C_Letter, dx, _, _, rfl, h1, T.cl_Letter, T.n_Letter_count, rfl, _, rfl, _, rfl, p, C_Letter, dx, _, _, rfl, h1, T.cl_Letter, T.n_Letter_count, rfl, _, rfl, _, _, rfl, rfl, _, _, rfl, rfl, .inl ⟨by omega, by omega⟩, _, _, rfl, rfl, dx, _, h1, (by show 7 < 1000; decide), ?_⟩
          refine ⟨_, rfl, p, C_Letter, dx, _, _, rfl, upd_same, T.cl_Letter, T.n_Letter_day, rfl, _, rfl, _, rfl, p, C_Letter, dx, _, _, rfl, upd_same, T.cl_Letter, T.n_Letter_day, rfl, _, rfl, _, _, rfl, rfl, _, _, rfl, rfl, .inl ⟨by omega, by omega⟩, _, _, rfl, rfl, dx, _, upd_same, (by show 7 < 1000; decide), ?_⟩
          rw [upd_upd]
          intro kn' hkn'
          have npk' : p ≠ kn' := ne_of_none (o := _) upd_same hkn'
          rw [upd_ne npk'.symm] at hkn'
          refine ⟨_, rfl, p, C_Letter, dx, _, rfl, (by rw [upd_ne npk', upd_same]), T.cl_Letter, T.n_Letter_known, (by show 7 < 1000; decide), ?_⟩
          generalize eH : upd (upd (upd H p _) kn' _) p _ = H1
          have hp1 : H1 p = some (.ins C_Letter dx (lf bk x (d + q * (d - d1)) (n + q * (n - c1)) kn' e (optZ (some m)))) := by rw [← eH, upd_same, ← eq]; rfl
          have hk1 : H1 kn' = some (.dK []) := by rw [← eH, upd_ne npk'.symm, upd_same]
          have kH : ∀ b u, H b = some u → b ≠ p → H1 b = some u := fun b u q nb => by rw [← eH, upd_ne nb, upd_ne (ne_of_none q hkn'), upd_ne nb]; exact q
          refine ⟨kn', [], _, _, e, _, _, _, rfl, ⟨⟨dx, hp1⟩, hk1⟩, (by show 0 < 1000; decide), fun H2 t ht L2 et kk => ?_⟩
          have ht0 : H t = none := by
            cases q : H t with
            | none => rfl
            | some u =>
              by_cases z : t = p
              · rw [z, hp1] at ht; cases ht
              · rw [kH _ _ q z] at ht; cases ht
          exact kc H2 kn' t hkn' ht0 L2 et fun b u q nb => kk b u (kH b u q nb) (ne_of_none q hkn')
    · rintro σ' H1 ⟨kn1, kvs1, d1, n1, e1, v1, v2, v3, rfl, ⟨⟨dy, g1⟩, g2⟩, gl, kk⟩
      refine ⟨_, rfl, p, C_Letter, dy, _, _, rfl, g1, T.cl_Letter, T.n_Letter_day, rfl, _, rfl, p, C_Letter, dy, _, _, rfl, g1, T.cl_Letter, T.n_Letter_count, rfl, (by show 2 ≤ sizeLine; decide), fun t ht => ?_⟩
      have npt : p ≠ t := ne_of_none g1 ht
      have nkt : kn1 ≠ t := ne_of_none g2 ht
      have npk1 : p ≠ kn1 := ne_of g1 g2 (by intro z; cases z)
      refine ⟨_, rfl, p, C_Letter, dy, _, _, rfl, (by rw [upd_ne npt]; exact g1), T.cl_Letter, T.n_Letter_known, rfl, _, rfl, p, C_Letter, dy, _, _, rfl, (by rw [upd_ne npt]; exact g1), T.cl_Letter, T.n_Letter_address, rfl, kn1, _, rfl, DPut.k (k := Sum.inr x) (by rw [upd_ne nkt]; exact g2) (small1000 (by omega)), ?_⟩
      refine kk _ t ht ⟨⟨dy, by rw [upd_ne npk1, upd_ne npt]; exact g1⟩, upd_same⟩ (by rw [upd_ne nkt.symm, upd_same]) fun b u q nb => ?_
      rw [upd_ne nb, upd_ne (ne_of_none q ht)]
      exact q
end

end MF
set_option Elab.async false
set_option linter.all false
set_option maxRecDepth 100000
set_option maxHeartbeats 2000000
set_option pp.maxSteps 600
namespace MF
open PySem PySem.Spec PyProof.Rows L2 StX
section
variable {P : Program} {w : World} {K : PySem.W.Frag} {mg : Str → Option Value} {base : Heap} {C_Book C_Letter C_Decoder C_MailError C_InvalidOrder C_UnknownOrder C_InvalidAddress C_InvalidDay C_InvalidNumber C_NotationError C_InvalidCount C_DecodeError : Addr}
theorem nodup_len {α : Type} [DecidableEq α] : ∀ {l m : List α}, l.Nodup → (∀ a ∈ l, a ∈ m) → l.length ≤ m.length
  | [], _, _, _ => Nat.zero_le _
  | a :: l, m, hn, hs => by
    have ha : a ∈ m := hs a (by simp)
    have hn' := List.nodup_cons.mp hn
    have := nodup_len (l := l) (m := m.erase a) hn'.2 fun b hb => by
      have hne : b ≠ a := fun z => hn'.1 (z ▸ hb)
      exact (List.mem_erase_of_ne hne).mpr (hs b (by simp [hb]))
    rw [List.length_erase_of_mem ha] at this
    have : 0 < m.length := List.length_pos_of_mem ha
    simp only [List.length_cons]
    omega
theorem none_none {os : List Ordr} {x : Str} {d : Int} (h : nextCh os d = none) : ordFor os x d = none := by
  have h0 := leastOf_none.mp h
  refine ordFor_none fun o ho => ?_
  have : ¬ d ≤ o.last := fun q => by
    have hm : o.last + 1 ∈ changes os d := mem_changes.mpr ⟨by omega, o, ho, .inr rfl⟩
    rw [h0] at hm
    cases hm
  simp [holds, this]
theorem nextCh_le {os : List Ordr} (g : Good os) {d c : Int} (h : nextCh os d = some c) : c ≤ 1000000000000000001 := by
  obtain ⟨_, o, ho, hc⟩ := mem_changes.mp (leastOf_some.mp h).1
  have := (g.ok o ho).lm
  have := (g.ok o ho).fl
  omega
structure LInv (K : PySem.W.Frag) (CB CL : Addr) (os : List Ordr) (nm : List Str) (N : Int) (t : Pt) (q : Bool) (m : Nat) (H : Hp) (p kn : Addr) (kvs : List (Key × V)) (bk : Addr) (x : Str) (d n : Int) (c : Option Int) : Prop where
  la : LetterAt CL H p kn kvs bk x d n false c
  ba : BookAt K CB H bk os
  ch : c = nextCh os d
  d0 : 0 ≤ d
  dm : d ≤ 1000000000000000030
  en : Ends os (x, d) m t
  tot : n + m = N
  mem : x ∈ nm
  nd : (kvs.map (·.1)).Nodup
  sub : ∀ kv ∈ kvs, ∃ a ∈ nm, kv.1 = .inr a
  val : ∀ a v, valV kvs (.inr a : Key) = some v → ∃ t1 d1 c1, ∃ k : Nat, v = .ref t1 ∧ H t1 = some (.tup [.int d1, .int c1]) ∧ nextCh os d1 = c ∧ Go os (a, d1) k (x, d) ∧ n = c1 + k ∧ 0 ≤ d1 ∧ (q = true → 1 ≤ k)
section
variable {os : List Ordr} {nm : List Str} {N : Int} {t : Pt} {m : Nat} {H : Hp} {p kn bk : Addr} {kvs : List (Key × V)} {x : Str} {d n : Int} {c : Option Int} {q : Bool}
theorem LInv.small (I : LInv K C_Book C_Letter os nm N t q m H p kn kvs bk x d n c) (h : nm.length ≤ 31) : kvs.length < 1000 := by
  have := nodup_len (m := nm.map Sum.inr) I.nd fun k hk => by
    obtain ⟨kv, h1, rfl⟩ := List.mem_map.mp hk
    obtain ⟨a, h2, h3⟩ := I.sub kv h1
    rw [h3]
    exact List.mem_map.mpr ⟨a, h2, rfl⟩
  rw [List.length_map, List.length_map] at this
  omega
def SkipI (os : List Ordr) (H H' : Hp) (kvs kvs' : List (Key × V)) (x : Str) (d d' : Int) : Prop :=
  (d' = d ∧ valV kvs (.inr x : Key) = none ∧ ∃ t1 c1, kvs' = putK kvs (.inr x) (.ref t1) ∧ H t1 = none ∧ H' t1 = some (.tup [.int d, c1])) ∨
  ∃ t1 d1 c1 k1 t2 c2 hi, valV kvs (.inr x : Key) = some (.ref t1) ∧ H t1 = some (.tup [.int d1, c1]) ∧ 1 ≤ k1 ∧ Go os (x, d1) k1 (x, d) ∧ (∀ c' ∈ changes os d1, hi < c') ∧ d ≤ d' ∧ d' ≤ hi ∧ hi - d' < d - d1 ∧ nextCh os d = some (hi + 1) ∧ (∃ m, Go os (x, d) m (x, d')) ∧ kvs' = [(.inr x, .ref t2)] ∧ H' t2 = some (.tup [.int d', c2])
theorem LInv.skip (g : Good os) (hnm : nm.length ≤ 31) (nbp : bk ≠ p) (I : LInv K C_Book C_Letter os nm N t true m H p kn kvs bk x d n c) {Q : VK} {E : XK}
    (k : ∀ H' kn' kvs' d' n' m', m' ≤ m → (kn' = kn ∨ H kn' = none) → LInv K C_Book C_Letter os nm N t false m' H' p kn' kvs' bk x d' n' c → (∀ b u, H b = some u → b ≠ p → b ≠ kn → H' b = some u) → SkipI os H H' kvs kvs' x d d' → Q .non H') : spSkip C_Letter [.ref p] H Q E := by
  obtain ⟨⟨dx, h1⟩, h2⟩ := id I.la
  obtain ⟨dy, tb, as, b1, b2, b3⟩ := id I.ba
  have nbk : bk ≠ kn := ne_of b1 h2 (by intro z; cases z)
  have npk := I.la.ne
  refine ⟨p, kn, kvs, bk, x, d, n, false, c, rfl, I.la, I.small hnm, fun ev H' t1 ht1 L et kp => ?_, fun v ev => ?_⟩
  · have nt : ∀ b u, H b = some u → tupl u = true → H' b = some u := fun b u e z => kp b u e fun w => by
      rw [w, h2] at e; cases e; cases z
    refine k H' kn _ d n m (Nat.le_refl _) (.inl rfl) ⟨L, I.ba.kept (fun u e => kp _ _ e nbk) nt, I.ch, I.d0, I.dm, I.en, I.tot, I.mem, ?_, ?_, ?_⟩ (fun b u e _ nb => kp b u e nb) (.inl ⟨rfl, ev, t1, _, rfl, ht1, et⟩)
    · exact nd_putK _ I.nd ev
    · rw [putK_new _ ev]
      intro kv hkv
      rcases List.mem_append.mp hkv with z | z
      · exact I.sub kv z
      · rw [List.mem_singleton.mp z]
        exact ⟨x, I.mem, rfl⟩
    · intro a v hv
      rw [valV_put] at hv
      by_cases ea : (Sum.inr a : Key) = Sum.inr x
      · rw [if_pos ea] at hv
        cases hv
        cases Sum.inr.inj ea
        exact ⟨t1, d, n, 0, rfl, et, I.ch.symm, .refl _, by simp, I.d0, fun z => by cases z⟩
      · rw [if_neg ea] at hv
        obtain ⟨t2, d2, c2, k2, e1, e2, e3, e4, e5, e6, e7⟩ := I.val a v hv
        exact ⟨t2, d2, c2, k2, e1, nt _ _ e2 rfl, e3, e4, e5, e6, fun z => by cases z⟩
  · obtain ⟨t1, d1, c1, k1, e1, e2, e3, e4, e5, e6, e7⟩ := I.val x v ev
    have k1p : 1 ≤ k1 := e7 rfl
    have hday := e4.day g.fine
    simp only at hday
    refine ⟨t1, d1, c1, e1, e2, fun hc => ?_, fun mm hc => ?_⟩
    · exfalso
      rw [hc] at e3
      have h0 : nxt os (x, d1) = none := nxt_none.mpr (none_none e3)
      cases e4 with
      | refl => omega
      | step h _ => rw [h0] at h; cases h
    · subst hc
      have hm1 : nextCh os d = some mm := I.ch.symm
      have gt := nextCh_gt hm1
      have le := nextCh_le g hm1
      have dm := I.dm
      refine ⟨by omega, by omega, gt, by omega, fun H' kn' t2 hk' ht2 L et kp => ?_⟩
      have dpos : 0 < d - d1 := by omega
      generalize eq : (mm - 1 - d) / (d - d1) = qq at L et
      have q0 : 0 ≤ qq := by rw [← eq]; exact Int.ediv_nonneg (by omega) (by omega)
      have qm : qq * (d - d1) ≤ mm - 1 - d := by rw [← eq]; exact Int.ediv_mul_le _ (by omega)
      have qp : 0 ≤ qq * (d - d1) := Int.mul_nonneg q0 (by omega)
      obtain ⟨j, ej⟩ : ∃ j : Nat, qq = (j : Int) := ⟨qq.toNat, by omega⟩
      have cc : ∀ c' ∈ changes os d1, mm - 1 < c' := fun c' hc' => by
        have := (leastOf_some.mp e3).2 c' hc'
        omega
      have go : Go os (x, d) (j * k1) (x, d + qq * (d - d1)) := by
        rw [ej]
        exact Go.rounds g.fine e4 (by omega) cc j (by rw [← ej]; omega)
      obtain ⟨hle, hend⟩ := I.en.after go
      have en1 : n - c1 = (k1 : Int) := by omega
      have etot : qq * (n - c1) = ((j * k1 : Nat) : Int) := by rw [en1, ej]; push_cast; rfl
      have nt : ∀ b u, H b = some u → tupl u = true → H' b = some u := fun b u e z => kp b u e fun w => by
        rw [w, h1] at e; cases e; cases z
      have ech : some mm = nextCh os (d + qq * (d - d1)) := by
        rw [← hm1]
        exact (nextCh_const (by omega) fun c' hc' => by rw [hm1] at hc'; cases hc'; omega).symm
      refine k H' kn' _ _ _ (m - j * k1) (Nat.sub_le _ _) (.inr hk') ⟨L, I.ba.kept (fun u e => kp _ _ e nbp) nt, ech, by have := I.d0; omega, by omega, hend, ?_, I.mem, ?_, ?_, ?_⟩ (fun b u e nb _ => kp b u e nb) (.inr ⟨t1, d1, _, k1, t2, _, mm - 1, by rw [ev, e1], e2, k1p, e4, cc, by omega, by omega, ?_, by rw [hm1]; congr 1; omega, ⟨_, go⟩, rfl, et⟩)
      · rw [etot]
        have := I.tot
        omega
      · simp
      · intro kv hkv
        rw [List.mem_singleton.mp hkv]
        exact ⟨x, I.mem, rfl⟩
      · intro a v' hv
        by_cases ea : (Sum.inr x : Key) = Sum.inr a
        · rw [valV_pos ea] at hv
          cases hv
          cases Sum.inr.inj ea
          exact ⟨t2, _, _, 0, rfl, et, ech.symm, .refl _, by simp, by have := I.d0; omega, fun z => by cases z⟩
        · rw [valV_neg ea] at hv
          cases hv
      · have h3 := Int.emod_lt_of_pos (mm - 1 - d) dpos
        have h4 := Int.mul_ediv_add_emod (mm - 1 - d) (d - d1)
        rw [eq, Int.mul_comm] at h4
        omega
theorem LInv.step (g : Good os) (hnm : ∀ o ∈ os, o.tgt ∈ nm) (nbp : bk ≠ p) (I : LInv K C_Book C_Letter os nm N t false m H p kn kvs bk x d n c) {Q : VK} {E : XK}
    (k0 : m = 0 → t = (x, d) → N = n → ∀ H', Same H H' → Q (.bl false) H')
    (k : ∀ H' kn' kvs' x' d' n' c' m', m = m' + 1 → (kn' = kn ∨ H kn' = none) → LInv K C_Book C_Letter os nm N t true m' H' p kn' kvs' bk x' d' n' c' → (∀ b u, H b = some u → b ≠ p → H' b = some u) → (∃ i o, ordFor os x d = some i ∧ os[i]? = some o ∧ x' = o.tgt ∧ d' = d + o.way ∧ ((kvs' = [] ∧ ∃ mm, nextCh os d = some mm ∧ mm ≤ d') ∨ kvs' = kvs)) → Q (.bl true) H') : spStep K C_Book C_Letter [.ref p] H Q E := by
  obtain ⟨⟨dx, h1⟩, h2⟩ := id I.la
  refine ⟨p, kn, kvs, bk, os, x, d, n, false, c, rfl, I.la, I.ba, g.len, nbp, fun eo H' s => ?_, fun i o eo ei H' kn' z1 z2 L kp => ?_⟩
  · have hn : nxt os (x, d) = none := nxt_none.mpr eo
    have e := I.en
    obtain ⟨a, b⟩ := e
    cases a with
    | refl => exact k0 rfl rfl (by have := I.tot; omega) H' s
    | step h _ => rw [hn] at h; cases h
  · have hn := nxt_of eo ei
    have ho : o ∈ os := List.mem_of_getElem? ei
    obtain ⟨o', ei', hh⟩ := ordFor_some eo
    rw [ei] at ei'
    cases ei'
    simp only [holds, Bool.and_eq_true, decide_eq_true_eq] at hh
    have w1 := (g.ok o ho).w1
    have w30 := (g.ok o ho).w30
    have lm := (g.ok o ho).lm
    obtain ⟨hle, hend⟩ := I.en.after (Go.one hn)
    have d0 := I.d0
    have nt : ∀ b u, H b = some u → tupl u = true → H' b = some u := fun b u e z => kp b u e fun w => by
      rw [w, h1] at e; cases e; cases z
    have ech : stepCh os c (d + o.way) = nextCh os (d + o.way) := by
      rw [I.ch]
      cases hc : nextCh os d with
      | none =>
        have := none_none (x := x) hc
        rw [this] at eo
        cases eo
      | some mm =>
        by_cases hm : mm ≤ d + o.way
        · simp [stepCh, hm]
        · have e1 : nextCh os (d + o.way) = nextCh os d := nextCh_const (by omega) fun c' hc' => by rw [hc] at hc'; cases hc'; omega
          rw [e1, hc]
          simp [stepCh, hm]
    have rs : ((if resets c (d + o.way) = true then [] else kvs) = [] ∧ ∃ mm, nextCh os d = some mm ∧ mm ≤ d + o.way) ∨ (if resets c (d + o.way) = true then [] else kvs) = kvs := by
      cases hr : resets c (d + o.way) with
      | false => exact .inr rfl
      | true =>
        refine .inl ⟨rfl, ?_⟩
        rw [← I.ch]
        cases c with
        | none => cases hr
        | some mm => exact ⟨mm, rfl, of_decide_eq_true hr⟩
    refine k H' kn' _ o.tgt (d + o.way) (n + 1) _ (m - 1) (by omega) ?_ ⟨L, I.ba.kept (fun u e => kp _ _ e nbp) nt, ech, by omega, by omega, hend, by have := I.tot; omega, hnm o ho, ?_, ?_, ?_⟩ kp ⟨i, o, eo, ei, rfl, rfl, rs⟩
    · cases hr : resets c (d + o.way) with
      | false => exact .inl (z1 hr)
      | true => exact .inr (z2 hr)
    · by_cases hr : resets c (d + o.way) = true
      · rw [if_pos hr]; simp
      · rw [if_neg hr]; exact I.nd
    · by_cases hr : resets c (d + o.way) = true
      · rw [if_pos hr]; intro kv hkv; cases hkv
      · rw [if_neg hr]; exact I.sub
    · by_cases hr : resets c (d + o.way) = true
      · rw [if_pos hr]; intro a v hv; cases hv
      · rw [if_neg hr]
        intro a v hv
        obtain ⟨t2, d2, c2, k2, e1, e2, e3, e4, e5, e6, e7⟩ := I.val a v hv
        refine ⟨t2, d2, c2, k2 + 1, e1, nt _ _ e2 rfl, ?_, e4.trans (Go.one hn), by push_cast; omega, e6, fun _ => Nat.succ_pos _⟩
        rw [e3]
        cases c with
        | none => rfl
        | some mm =>
          have hm : ¬ mm ≤ d + o.way := fun z => hr (decide_eq_true z)
          simp [stepCh, hm]
end
end

end MF
set_option Elab.async false
set_option linter.all false
set_option maxRecDepth 100000
set_option maxHeartbeats 2000000
set_option pp.maxSteps 600
namespace MF
open PySem PySem.Spec PyProof.Rows L2 StX
section
variable {P : Program} {w : World} {K : PySem.W.Frag} {mg : Str → Option Value} {base : Heap} {C_Book C_Letter C_Decoder C_MailError C_InvalidOrder C_UnknownOrder C_InvalidAddress C_InvalidDay C_InvalidNumber C_NotationError C_InvalidCount C_DecodeError : Addr}
theorem nilT {σ : L2.St} {H : Hp} {Q : List V → Hp → Prop} (h : Q [] H) : tNil σ H Q := h
def spFinish (K : PySem.W.Frag) (CB CL : Addr) : Sp := fun vs H Q _ => ∃ p kn bk os x d t, ∃ N : Nat, vs = [.ref p] ∧ LetterAt CL H p kn [] bk x d 0 false (nextCh os d) ∧ BookAt K CB H bk os ∧ Good os ∧ 0 ≤ d ∧ d ≤ 1000000000000000000 ∧ bk ≠ p ∧ Ends os (x, d) N t ∧
  ∀ H' kn' kvs' c', LetterAt CL H' p kn' kvs' bk t.1 t.2 N false c' → (∀ b u, H b = some u → b ≠ p → b ≠ kn → H' b = some u) → Q .non H'
theorem ok_finish (T : Top K mg C_Book C_Letter C_Decoder C_MailError C_InvalidOrder C_UnknownOrder C_InvalidAddress C_InvalidDay C_InvalidNumber C_NotationError C_InvalidCount C_DecodeError) : MFn P w K mg base CX0 4 C_Letter "finish" (spFinish K C_Book C_Letter) := by
  have M_Letter_step : MFn P w K mg base CX0 3 C_Letter "step" (spStep K C_Book C_Letter) := ok_step T
  have M_Letter_skip : MFn P w K mg base CX0 1 C_Letter "skip" (spSkip C_Letter) := ok_skip T
  refine T.d_Letter_finish.fn fun f fd F => F.ok sc_Letter_finish (fun vs H Q E h => ?_) (fun cdv A outer s H vs Q E hr h => ?_)
  · obtain ⟨p, kn, bk, os, x, d, t, N, rfl, _⟩ := h
    rfl
  · obtain ⟨p, kn, bk, os, x, d, t, N, rfl, L, hb, g, h0, h1, nbp, en, k⟩ := h
    refine ⟨_, (pss_cons (ps_expr (pe_m0 M_Letter_skip T.cl_Letter (hr.mono (by decide)) (pv 0)))
  (pss_one (ps_while PassesOwn.never (PW.pt (pw_and (pt_not (pt_val (pe_fld (pv 0) rfl))) (pw_and1 (pt_val (pe_m0 M_Letter_step T.cl_Letter (hr.mono (by decide)) (pv 0))))))
  (pss_one (ps_expr (pe_m0 M_Letter_skip T.cl_Letter (hr.mono (by decide)) (pv 0))))))), ?_⟩
    obtain ⟨⟨dx, l1⟩, l2⟩ := id L
    have hnm : (x :: os.map Ordr.tgt).length ≤ 31 := by have := g.len; simp; omega
    have htg : ∀ o ∈ os, o.tgt ∈ x :: os.map Ordr.tgt := fun o ho => List.mem_cons_of_mem _ (List.mem_map.mpr ⟨o, ho, rfl⟩)
    have I0 : LInv K C_Book C_Letter os (x :: os.map Ordr.tgt) N t true N H p kn [] bk x d 0 (nextCh os d) := ⟨L, hb, rfl, h0, by omega, en, by omega, by simp, List.nodup_nil, (fun _ z => by cases z), (fun _ _ z => by cases z)⟩
    refine ⟨_, rfl, p, dx, _, rfl, l1, rfl, ?_⟩
    refine nilT ?_
    refine I0.skip g hnm nbp fun H1 kn1 kvs1 d1 n1 m1 _ hk1 I1 f1 _ => ?_
    refine ⟨fun m σ H' => σ = [some (.ref p)] ∧ ∃ kn' kvs' x' d' n' c', (kn' = kn ∨ H kn' = none) ∧ LInv K C_Book C_Letter os (x :: os.map Ordr.tgt) N t false m H' p kn' kvs' bk x' d' n' c' ∧ (∀ b u, H b = some u → b ≠ p → b ≠ kn → H' b = some u),
      ⟨m1, rfl, kn1, kvs1, _, _, _, _, hk1, I1, f1⟩, ?_⟩
    rintro m σ H2 ⟨rfl, kn2, kvs2, x2, d2, n2, c2, hk2, I2, f2⟩
    obtain ⟨⟨dy, g1⟩, g2⟩ := id I2.la
    refine ⟨_, rfl, p, C_Letter, dy, _, _, rfl, g1, T.cl_Letter, T.n_Letter_is_endless, rfl, _, rfl, iteT ?_⟩
    refine ⟨_, rfl, p, dy, _, rfl, g1, rfl, ?_⟩
    refine nilT ?_
    refine I2.step g htg nbp (fun em et eN H3 s3 => ⟨_, rfl, iteF ?_⟩) (fun H3 kn3 kvs3 x3 d3 n3 c3 m3 em hk3 I3 f3 _ => ⟨_, rfl, iteT ?_⟩)
    · refine k H3 kn2 kvs2 c2 ?_ fun b u e n1 n2 => s3 _ _ (f2 b u e n1 n2)
      have : LetterAt C_Letter H3 p kn2 kvs2 bk x2 d2 n2 false c2 := I2.la.keep (fun o z => s3 _ _ z) (fun o z => s3 _ _ z)
      rw [et, eN]
      exact this
    · obtain ⟨⟨dz, r1⟩, r2⟩ := id I3.la
      have free : ∀ b, H2 b = none → (∃ u, H b = some u) → b = kn := fun b hb ⟨u, e⟩ => by
        by_cases z1 : b = p
        · rw [z1, g1] at hb; cases hb
        · by_cases z2 : b = kn
          · exact z2
          · rw [f2 b u e z1 z2] at hb; cases hb
      have hk3' : kn3 = kn ∨ H kn3 = none := by
        rcases hk3 with z | z
        · rw [z]; exact hk2
        · cases q : H kn3 with
          | none => exact .inr rfl
          | some u => exact .inl (free kn3 z ⟨u, q⟩)
      have f13 : ∀ b u, H b = some u → b ≠ p → b ≠ kn → H3 b = some u := fun b u e n1 n2 => f3 b u (f2 b u e n1 n2) n1
      refine ⟨fun σ' H' => σ' = [some (.ref p)] ∧ ∃ m', m' < m ∧ ∃ kn' kvs' x' d' n' c', (kn' = kn ∨ H kn' = none) ∧ LInv K C_Book C_Letter os (x :: os.map Ordr.tgt) N t false m' H' p kn' kvs' bk x' d' n' c' ∧ (∀ b u, H b = some u → b ≠ p → b ≠ kn → H' b = some u), fun σ' H' ⟨e, m', hm, r⟩ => ⟨m', hm, e, r⟩, ?_⟩
      refine ⟨_, rfl, p, dz, _, rfl, r1, rfl, ?_⟩
      refine nilT ?_
      refine I3.skip g hnm nbp fun H4 kn4 kvs4 d4 n4 m4 hm4 hk4 I4 f4 _ => ?_
      have free3 : ∀ b, H3 b = none → (∃ u, H b = some u) → b = kn := fun b hb ⟨u, e⟩ => by
        by_cases z1 : b = p
        · rw [z1, r1] at hb; cases hb
        · by_cases z2 : b = kn
          · exact z2
          · rw [f13 b u e z1 z2] at hb; cases hb
      refine ⟨rfl, m4, by omega, kn4, kvs4, _, _, _, _, ?_, I4, fun b u e n1 n2 => f4 b u (f13 b u e n1 n2) n1 ?_⟩
      · rcases hk4 with z | z
        · rw [z]; exact hk3'
        · cases q : H kn4 with
          | none => exact .inr rfl
          | some u => exact .inl (free3 kn4 z ⟨u, q⟩)
      · intro z
        rcases hk3' with w | w
        · exact n2 (z.trans w)
        · rw [z, w] at e; cases e
def spEndOf (K : PySem.W.Frag) (CB : Addr) : Sp := fun vs H Q _ => ∃ bk os x d t, ∃ N : Nat, vs = [.ref bk, .str x, .int d] ∧ BookAt K CB H bk os ∧ Good os ∧ 0 ≤ d ∧ d ≤ 1000000000000000000 ∧ Ends os (x, d) N t ∧
  ∀ H' r, Same H H' → H r = none → H' r = some (.tup [.str t.1, .int t.2, .int N]) → Q (.ref r) H'
theorem ok_end_of (T : Top K mg C_Book C_Letter C_Decoder C_MailError C_InvalidOrder C_UnknownOrder C_InvalidAddress C_InvalidDay C_InvalidNumber C_NotationError C_InvalidCount C_DecodeError) : GFn P w K mg base CX0 5 "end_of" (spEndOf K C_Book) := by
  have G_Letter : IFn P w K mg base CX0 2 C_Letter "Letter" (spLetterInit K C_Book C_Letter) := ok_Letter T
  have M_Letter_finish : MFn P w K mg base CX0 4 C_Letter "finish" (spFinish K C_Book C_Letter) := ok_finish T
  refine T.d_end_of.fn fun f fd F => F.ok sc_end_of (fun vs H Q E h => ?_) (fun cdv A outer s H vs Q E hr h => ?_)
  · obtain ⟨bk, os, x, d, t, N, rfl, _⟩ := h
    rfl
  · obtain ⟨bk, os, x, d, t, N, rfl, hb, g, h0, h1, en, k⟩ := h
    refine ⟨_, (pss_cons (ps_set (i := 3) sc_end_of.nd rfl (Or.inl rfl) (pe_mkX G_Letter (hr.mono (by decide)) pass0 (pa_cons (pv 0) (pa_cons (pv 1) (pa_cons (pv 2) pa_nil)))))
  (pss_cons (ps_expr (pe_m0 M_Letter_finish T.cl_Letter (hr.mono (by decide)) (pv 3)))
  (pss_one (ps_ret (pe_tup (pa_cons (pe_fld (pv 3) rfl) (pa_cons (pe_fld (pv 3) rfl) (pa_cons (pe_fld (pv 3) rfl) pa_nil)))))))), ?_⟩
    refine ⟨_, rfl, _, rfl, _, rfl, fun p dx hp hdx ne => ?_⟩
    have s0 : Same H (upd (upd H dx (.own p)) p (.ins C_Letter dx [])) := fun b o e => by
      rw [upd_ne (ne_of_none e hp), upd_ne (ne_of_none e hdx)]
      exact e
    have nbp : bk ≠ p := by
      obtain ⟨dy, tb, as, b1, _⟩ := hb
      exact ne_of_none b1 hp
    refine ⟨p, dx, bk, os, x, d, rfl, upd_same, hb.mono s0, g.len, nbp, fun H1 kn hkn L kp => ⟨rfl, ?_⟩⟩
    have s1 : Same H H1 := fun b u e => kp b u (s0 b u e) (ne_of_none e hp)
    have hkn0 : H kn = none := s0.free hkn
    obtain ⟨⟨dz, l1⟩, l2⟩ := id L
    refine ⟨_, rfl, p, dz, _, rfl, l1, rfl, p, kn, bk, os, x, d, t, N, rfl, L, hb.mono s1, g, h0, h1, nbp, en, fun H2 kn' kvs' c' L2 kp2 => ?_⟩
    have s2 : Same H H2 := fun b u e => kp2 b u (s1 b u e) (ne_of_none e hp) (ne_of_none e hkn0)
    obtain ⟨⟨dw, m1⟩, m2⟩ := id L2
    refine ⟨_, rfl, p, C_Letter, dw, _, _, rfl, m1, T.cl_Letter, T.n_Letter_address, rfl, _, rfl, p, C_Letter, dw, _, _, rfl, m1, T.cl_Letter, T.n_Letter_day, rfl, _, rfl, p, C_Letter, dw, _, _, rfl, m1, T.cl_Letter, T.n_Letter_count, rfl, (by show 3 ≤ sizeLine; decide), fun r hr0 => ?_⟩
    exact k _ r (MF.Same.upd s2 hr0) (s2.free hr0) upd_same
def spEnd (K : PySem.W.Frag) (CB : Addr) : Sp := fun vs H Q _ => ∃ bk os x d t, ∃ N : Nat, vs = [.ref bk, .str x, .int d] ∧ BookAt K CB H bk os ∧ Good os ∧ isAddrB (.str x) = true ∧ 0 ≤ d ∧ d ≤ 1000000000000000000 ∧ Ends os (x, d) N t ∧
  ∀ H' r, Same H H' → H r = none → H' r = some (.tup [.str t.1, .int t.2]) → Q (.ref r) H'
theorem ok_end (T : Top K mg C_Book C_Letter C_Decoder C_MailError C_InvalidOrder C_UnknownOrder C_InvalidAddress C_InvalidDay C_InvalidNumber C_NotationError C_InvalidCount C_DecodeError) : GFn P w K mg base CX0 6 "end" (spEnd K C_Book) := by
  have G_check_letter : GFn P w K mg base CX0 2 "check_letter" spCheckOk := ok_check_letter T
  have G_end_of : GFn P w K mg base CX0 5 "end_of" (spEndOf K C_Book) := ok_end_of T
  refine T.d_end.fn fun f fd F => F.ok sc_end (fun vs H Q E h => ?_) (fun cdv A outer s H vs Q E hr h => ?_)
  · obtain ⟨bk, os, x, d, t, N, rfl, _⟩ := h
    rfl
  · obtain ⟨bk, os, x, d, t, N, rfl, hb, g, ha, h0, h1, en, k⟩ := h
    refine ⟨_, (pss_cons (ps_expr (pe_g G_check_letter (hr.mono (by decide)) (pa_cons (pv 1) (pa_cons (pv 2) pa_nil))))
  (pss_one (ps_ret (pe_slice sl_tup (pe_g G_end_of (hr.mono (by decide)) (pa_cons (pv 0) (pa_cons (pv 1) (pa_cons (pv 2) pa_nil)))) po_none (po_some pe_int))))), ?_⟩
    refine ⟨_, rfl, _, rfl, x, d, rfl, ha, h0, h1, fun H1 s1 => ?_⟩
    refine ⟨_, rfl, _, rfl, _, rfl, bk, os, x, d, t, N, rfl, hb.mono s1, g, h0, h1, en, fun H2 r s2 hr0 er => ?_⟩
    refine ⟨_, rfl, r, _, rfl, .inl (.inl er), (fun z => absurd (show (2 : Nat) = 3 from z.2) (by decide)), fun r2 hr2 => ?_⟩
    have s12 := s1.trans s2
    exact k _ r2 (MF.Same.upd s12 hr2) (s12.free hr2) upd_same
def spTimes (K : PySem.W.Frag) (CB : Addr) : Sp := fun vs H Q _ => ∃ bk os x d t, ∃ N : Nat, vs = [.ref bk, .str x, .int d] ∧ BookAt K CB H bk os ∧ Good os ∧ isAddrB (.str x) = true ∧ 0 ≤ d ∧ d ≤ 1000000000000000000 ∧ Ends os (x, d) N t ∧
  ∀ H', Same H H' → Q (.int N) H'
theorem ok_times_sent (T : Top K mg C_Book C_Letter C_Decoder C_MailError C_InvalidOrder C_UnknownOrder C_InvalidAddress C_InvalidDay C_InvalidNumber C_NotationError C_InvalidCount C_DecodeError) : GFn P w K mg base CX0 6 "times_sent" (spTimes K C_Book) := by
  have G_check_letter : GFn P w K mg base CX0 2 "check_letter" spCheckOk := ok_check_letter T
  have G_end_of : GFn P w K mg base CX0 5 "end_of" (spEndOf K C_Book) := ok_end_of T
  refine T.d_times_sent.fn fun f fd F => F.ok sc_times_sent (fun vs H Q E h => ?_) (fun cdv A outer s H vs Q E hr h => ?_)
  · obtain ⟨bk, os, x, d, t, N, rfl, _⟩ := h
    rfl
  · obtain ⟨bk, os, x, d, t, N, rfl, hb, g, ha, h0, h1, en, k⟩ := h
    refine ⟨_, (pss_cons (ps_expr (pe_g G_check_letter (hr.mono (by decide)) (pa_cons (pv 1) (pa_cons (pv 2) pa_nil))))
  (pss_one (ps_ret (pe_ix ix_tup (pe_g G_end_of (hr.mono (by decide)) (pa_cons (pv 0) (pa_cons (pv 1) (pa_cons (pv 2) pa_nil)))) pe_int (fun _ _ => rfl))))), ?_⟩
    refine ⟨_, rfl, _, rfl, x, d, rfl, ha, h0, h1, fun H1 s1 => ?_⟩
    refine ⟨_, rfl, _, rfl, _, rfl, bk, os, x, d, t, N, rfl, hb.mono s1, g, h0, h1, en, fun H2 r s2 hr0 er => ?_⟩
    exact ⟨r, _, _, _, rfl, rfl, .inl (.inl er), rfl, k _ (s1.trans s2)⟩
end

end MF
set_option Elab.async false
set_option linter.all false
set_option maxRecDepth 100000
set_option maxHeartbeats 2000000
set_option pp.maxSteps 600
namespace MF
open PySem PySem.Spec PyProof.Rows L2 StX
section
variable {P : Program} {w : World} {K : PySem.W.Frag} {mg : Str → Option Value} {base : Heap} {C_Book C_Letter C_Decoder C_MailError C_InvalidOrder C_UnknownOrder C_InvalidAddress C_InvalidDay C_InvalidNumber C_NotationError C_InvalidCount C_DecodeError : Addr}
def ScAt (K : PySem.W.Frag) (H : Hp) (rw sc : Addr) (xs : List V) : Prop := (Rd H sc (.lst xs) ∧ sc ≠ rw) ∨
    ∃ (o : Obj) (its : Array Value) (n : Nat), K.lookup sc = some o ∧ o.cls = .type "list" ∧ o.dict = none ∧ o.data = .seq its n ∧ its.size ≤ sizeLine ∧ Vals xs its.toList
theorem ScAt.sq {H : Hp} {rw sc : Addr} {xs : List V} (h : ScAt K H rw sc xs) : SqL K H sc xs := by
  rcases h with ⟨h, _⟩ | h
  · exact .inl h
  · exact .inr h
theorem ScAt.keep {H H' : Hp} {rw sc : Addr} {xs : List V} (h : ScAt K H rw sc xs) (k : ∀ b u, H b = some u → b ≠ rw → H' b = some u) : ScAt K H' rw sc xs := by
  rcases h with ⟨h | ⟨o, h⟩, n⟩ | h
  · exact .inl ⟨.inl (k _ _ h n), n⟩
  · exact .inl ⟨.inr ⟨o, k _ _ h n⟩, n⟩
  · exact .inr h
def RowAt (K : PySem.W.Frag) (H : Hp) (rw sc : Addr) (ns : List Int) : Prop := ∃ j : Nat, ∃ m r, H rw = some (.lst [.ref sc, .int (j : Nat), .int m, .int r]) ∧ ScAt K H rw sc (ns.map V.int) ∧ 0 ≤ m ∧ m < 2147483647
theorem RowAt.keep {H H' : Hp} {rw sc : Addr} {ns : List Int} (h : RowAt K H rw sc ns) (s : Same H H') : RowAt K H' rw sc ns := by
  obtain ⟨j, m, r, h1, h2, h3⟩ := h
  exact ⟨j, m, r, s _ _ h1, h2.keep fun b u e _ => s _ _ e, h3⟩
theorem ScAt.of0 {H H' : Hp} {rw sc : Addr} {xs : List V} (h : SqL K H sc xs) (s : Same H H') (n : H rw = none) : ScAt K H' rw sc xs := by
  rcases h with (z | ⟨o, z⟩) | z
  · exact .inl ⟨.inl (s _ _ z), ne_of_none z n⟩
  · exact .inl ⟨.inr ⟨o, s _ _ z⟩, ne_of_none z n⟩
  · exact .inr z
theorem RowAt.other {H0 H H' : Hp} {rw sc : Addr} {ns : List Int} (h : RowAt K H rw sc ns) (h0 : SqL K H0 sc (ns.map V.int)) (n : H0 rw = none) (s : Same H0 H') (e : ∀ u, H rw = some u → H' rw = some u) : RowAt K H' rw sc ns := by
  obtain ⟨j, m, r, h1, h2, h3⟩ := h
  exact ⟨j, m, r, e _ h1, .of0 h0 s n, h3⟩
def spTaken (K : PySem.W.Frag) : Sp := fun vs H Q _ => ∃ rw sc ns many, vs = [.ref rw, .int many] ∧ RowAt K H rw sc ns ∧ 0 < many ∧ many ≤ 1000000000000000000 ∧
  ∀ v H', 0 ≤ v → v < many → RowAt K H' rw sc ns → (∀ b u, H b = some u → b ≠ rw → H' b = some u) → Q (.int v) H'
theorem pow18 : (10 : Int) ^ (18 : Int).toNat = 1000000000000000000 := by decide
theorem ok_taken (T : Top K mg C_Book C_Letter C_Decoder C_MailError C_InvalidOrder C_UnknownOrder C_InvalidAddress C_InvalidDay C_InvalidNumber C_NotationError C_InvalidCount C_DecodeError) : GFn P w K mg base CX0 1 "_law_taken" (spTaken K) := by
  refine T.d__law_taken.fn fun f fd F => F.ok sc__law_taken (fun vs H Q E h => ?_) (fun cdv A outer s H vs Q E hr h => ?_)
  · obtain ⟨rw, sc, ns, many, rfl, _⟩ := h
    rfl
  · obtain ⟨rw', sc, ns, many, rfl, ⟨j, m, r, h1, h2, m0, m1⟩, p0, p1, k⟩ := h
    refine ⟨_, (pss_cons (ps_if (pt_cmpR op_gt (pe_ix ix_list (pv 0) pe_int (fun _ _ => rfl)) pe_int (nomark _))
  (pss_cons (ps_set (i := 2) sc__law_taken.nd rfl (Or.inl rfl) (pe_op op_mod (pe_callTy call_int1 (by rfl) T.b_int (by decide +kernel) (pa_cons (pe_ix ix_list (pv 0) pe_int (fun _ _ => rfl)) pa_nil)) (pv 1)))
  (pss_cons (ps_asg (pe_op op_fdivW (pe_ix ix_list (pv 0) pe_int (fun _ _ => rfl)) (pv 1)) (pg_sub (pv 0) pe_int set_list))
  (pss_one (ps_ret (pv 2)))))
  pss_nil)
  (pss_cons (ps_asg (pe_op op_add (pe_ix ix_list (pv 0) pe_int (fun _ _ => rfl)) pe_int) (pg_sub (pv 0) pe_int set_list))
  (pss_cons (ps_if (pt_cmpR op_gt (pe_ix ix_list (pv 0) pe_int (fun _ _ => rfl)) (pe_callB call_len_seq (by rfl) T.b_len (by decide +kernel) (pa_cons (pe_ix ix_list (pv 0) pe_int (fun _ _ => rfl)) pa_nil)) (nomark _))
  (pss_cons (ps_asg (pe_op op_mod (pe_callTy call_int1 (by rfl) T.b_int (by decide +kernel) (pa_cons (pe_op op_add (pe_op op_mul (pe_ix ix_list (pv 0) pe_int (fun _ _ => rfl)) pe_int) pe_int) pa_nil)) pe_int) (pg_sub (pv 0) pe_int set_list))
  (pss_one (ps_ret (pe_op op_mod (pe_callTy call_int1 (by rfl) T.b_int (by decide +kernel) (pa_cons (pe_op op_fdivW (pe_ix ix_list (pv 0) pe_int (fun _ _ => rfl)) pe_int) pa_nil)) (pv 1)))))
  pss_nil)
  (pss_cons (ps_set (i := 3) sc__law_taken.nd rfl (Or.inl rfl) (pe_ix ix_list (pe_ix ix_list (pv 0) pe_int (fun _ _ => rfl)) (pe_op op_sub (pe_ix ix_list (pv 0) pe_int (fun _ _ => rfl)) pe_int) (fun _ _ => rfl)))
  (pss_cons (ps_asg (pe_op op_mod (pe_callTy call_int1 (by rfl) T.b_int (by decide +kernel) (pa_cons (pe_op op_add (pe_op op_add (pe_op op_mul (pe_ix ix_list (pv 0) pe_int (fun _ _ => rfl)) pe_int) (pv 3)) pe_int) pa_nil)) pe_int) (pg_sub (pv 0) pe_int set_list))
  (pss_cons (ps_if (pt_cmpR op_ge (pv 3) (pe_op op_pow pe_int pe_int) (nomark _))
  (pss_one (ps_asg (pe_op op_fdivW (pv 3) (pv 1)) (pg_sub (pv 0) pe_int set_list)))
  pss_nil)
  (pss_one (ps_ret (pe_op op_mod (pe_callTy call_int1 (by rfl) T.b_int (by decide +kernel) (pa_cons (pv 3) pa_nil)) (pv 1)))))))))), ?_⟩
    have S1 := SqL.of (K := K) h1
    have dv : CDivW 0 many := ⟨p0, by
      have : many.natAbs < 2 ^ 60 := by omega
      have := (Nat.log2_lt (n := many.natAbs) (k := 60) (by omega)).mpr this
      omega⟩
    have mod0 : ∀ x : Int, 0 ≤ x % many ∧ x % many < many := fun x => ⟨Int.emod_nonneg _ (by omega), Int.emod_lt_of_pos _ p0⟩
    have fr : ∀ (o : HO) b u, H b = some u → b ≠ rw' → upd H rw' o b = some u := fun o b u e nb => by rw [upd_ne nb]; exact e
    refine ⟨_, rfl, rw', _, _, _, rfl, rfl, S1, rfl, _, _, rfl, rfl, _, rfl, ?_⟩
    refine ite2 (fun c1 => ?_) (fun c1 => ?_)
    · refine ⟨_, rfl, rw', _, _, _, rfl, rfl, S1, rfl, .inl ⟨_, rfl, _, rfl, _, _, rfl, rfl, p0, ?_⟩⟩
      refine ⟨_, rfl, rw', _, _, _, rfl, rfl, S1, rfl, _, rfl, _, _, rfl, rfl, dv, _, rfl, rw', _, _, 3, rfl, rfl, h1, rfl, ?_⟩
      refine ⟨_, rfl, k _ _ (mod0 r).1 (mod0 r).2 ?_ (fr _)⟩
      exact ⟨j, m, r / many, upd_same, h2.keep (fr _), m0, m1⟩
    · -- _law_row[1] = _law_row[1] + 1
      refine ⟨_, rfl, rw', _, _, _, rfl, rfl, S1, rfl, _, _, rfl, rfl, _, rfl, rw', _, _, 1, rfl, rfl, h1, rfl, ?_⟩
      have h1' : upd H rw' (.lst ([.ref sc, .int (j : Nat), .int m, .int r].set 1 (.int ((j : Nat) + 1)))) rw' = some (.lst [.ref sc, .int ((j : Nat) + 1), .int m, .int r]) := upd_same
      have h2' := h2.keep (H' := upd H rw' (.lst ([.ref sc, .int (j : Nat), .int m, .int r].set 1 (.int ((j : Nat) + 1))))) (fr _)
      have fr1 := fr (.lst ([.ref sc, .int (j : Nat), .int m, .int r].set 1 (.int ((j : Nat) + 1))))
      generalize upd H rw' _ = H1 at h1' h2' fr1
      have S2 := SqL.of (K := K) h1'
      have fr2 : ∀ (o : HO) b u, H b = some u → b ≠ rw' → upd H1 rw' o b = some u := fun o b u e nb => by rw [upd_ne nb]; exact fr1 b u e nb
      have fr3 : ∀ (o : HO) b u, H1 b = some u → b ≠ rw' → upd H1 rw' o b = some u := fun o b u e nb => by rw [upd_ne nb]; exact e
      have modm : ∀ x : Int, 0 ≤ x % 2147483647 ∧ x % 2147483647 < 2147483647 := fun x => ⟨Int.emod_nonneg _ (by omega), Int.emod_lt_of_pos _ (by omega)⟩
      refine ⟨_, rfl, rw', _, _, _, rfl, rfl, S2, rfl, _, rfl, rw', _, _, _, rfl, rfl, S2, rfl, sc, _, rfl, .inl h2'.sq, _, _, rfl, rfl, _, rfl, ?_⟩
      refine ite2 (fun c2 => ?_) (fun c2 => ?_)
      · -- behind the script's end
        refine ⟨_, rfl, rw', _, _, _, rfl, rfl, S2, rfl, _, _, rfl, rfl, .inl ⟨by omega, by omega⟩, _, _, rfl, rfl, .inl ⟨_, rfl, _, _, rfl, rfl, (by show (0 : Int) < 2147483647; decide), _, rfl, rw', _, _, 2, rfl, rfl, h1', rfl, ?_⟩⟩
        refine ⟨_, rfl, rw', _, _, _, rfl, rfl, SqL.of upd_same, rfl, _, _, rfl, rfl, ⟨by decide, by decide⟩, .inl ⟨_, rfl, _, rfl, _, _, rfl, rfl, p0, ?_⟩⟩
        exact k _ _ (mod0 _).1 (mod0 _).2 ⟨j + 1, _, r, upd_same, h2'.keep (fr3 _), (modm _).1, (modm _).2⟩ (fr2 _)
      · have c2' : ¬ ((ns.map V.int).length : Int) < (j : Int) + 1 := fun z => c2 (decide_eq_true z)
        rw [List.length_map] at c2'
        have hj : j < ns.length := by omega
        have at1 : atI (ns.map V.int) ((j : Int) + 1 - 1) = some (V.int ns[j]) := by
          have : (j : Int) + 1 - 1 = (j : Int) := by omega
          rw [this]
          exact atI_nat (by simp [hj])
        refine ⟨_, rfl, rw', _, _, _, rfl, rfl, S2, rfl, _, rfl, rw', _, _, _, rfl, rfl, S2, rfl, _, _, rfl, rfl, sc, _, _, _, rfl, rfl, h2'.sq, at1, ?_⟩
        generalize ns[j] = cell
        refine ⟨_, rfl, rw', _, _, _, rfl, rfl, S2, rfl, _, _, rfl, rfl, .inl ⟨by omega, by omega⟩, _, rfl, _, _, rfl, rfl, _, _, rfl, rfl, .inl ⟨_, rfl, _, _, rfl, rfl, (by show (0 : Int) < 2147483647; decide), _, rfl, rw', _, _, 2, rfl, rfl, h1', rfl, ?_⟩⟩
        refine ⟨_, rfl, _, _, rfl, rfl, ⟨by decide, by decide, by decide⟩, _, _, rfl, rfl, _, rfl, ?_⟩
        refine ite2 (fun c3 => ?_) (fun c3 => ?_)
        · refine ⟨_, rfl, _, rfl, _, _, rfl, rfl, dv, _, rfl, rw', _, _, 3, rfl, rfl, upd_same, rfl, ?_⟩
          rw [upd_upd]
          refine ⟨_, rfl, .inl ⟨_, rfl, _, rfl, _, _, rfl, rfl, p0, ?_⟩⟩
          exact k _ _ (mod0 _).1 (mod0 _).2 ⟨j + 1, _, _, upd_same, h2'.keep (fr3 _), (modm _).1, (modm _).2⟩ (fr2 _)
        · refine ⟨_, rfl, .inl ⟨_, rfl, _, rfl, _, _, rfl, rfl, p0, ?_⟩⟩
          exact k _ _ (mod0 _).1 (mod0 _).2 ⟨j + 1, _, r, upd_same, h2'.keep (fr3 _), (modm _).1, (modm _).2⟩ (fr2 _)
end

end MF
set_option Elab.async false
set_option linter.all false
set_option maxRecDepth 100000
set_option maxHeartbeats 2000000
set_option pp.maxSteps 600
namespace MF
open PySem PySem.Spec PyProof.Rows L2 StX
section
variable {P : Program} {w : World} {K : PySem.W.Frag} {mg : Str → Option Value} {base : Heap} {C_Book C_Letter C_Decoder C_MailError C_InvalidOrder C_UnknownOrder C_InvalidAddress C_InvalidDay C_InvalidNumber C_NotationError C_InvalidCount C_DecodeError : Addr}
def spGreat (K : PySem.W.Frag) : Sp := fun vs H Q _ => ∃ rw sc ns many, vs = [.ref rw, .int many] ∧ RowAt K H rw sc ns ∧ 0 < many ∧
  ∀ v H', 0 ≤ v → v < many → RowAt K H' rw sc ns → (∀ b u, H b = some u → b ≠ rw → H' b = some u) → Q (.int v) H'
theorem pow9 : (10 : Int) ^ (9 : Int).toNat = 1000000000 := by decide
theorem ok_great (T : Top K mg C_Book C_Letter C_Decoder C_MailError C_InvalidOrder C_UnknownOrder C_InvalidAddress C_InvalidDay C_InvalidNumber C_NotationError C_InvalidCount C_DecodeError) : GFn P w K mg base CX0 2 "_law_great" (spGreat K) := by
  have G__law_taken : GFn P w K mg base CX0 1 "_law_taken" (spTaken K) := ok_taken T
  refine T.d__law_great.fn fun f fd F => F.ok sc__law_great (fun vs H Q E h => ?_) (fun cdv A outer s H vs Q E hr h => ?_)
  · obtain ⟨rw, sc, ns, many, rfl, _⟩ := h
    rfl
  · obtain ⟨rw', sc, ns, many, rfl, R, p0, k⟩ := h
    refine ⟨_, (pss_one (ps_ret (pe_op op_mod (pe_callTy call_int1 (by rfl) T.b_int (by decide +kernel) (pa_cons (pe_op op_add (pe_op op_mul (pe_g G__law_taken (hr.mono (by decide)) (pa_cons (pv 0) (pa_cons (pe_op op_pow pe_int pe_int) pa_nil))) (pe_op op_pow pe_int pe_int)) (pe_g G__law_taken (hr.mono (by decide)) (pa_cons (pv 0) (pa_cons (pe_op op_pow pe_int pe_int) pa_nil)))) pa_nil)) (pv 1)))), ?_⟩
    refine ⟨_, rfl, _, _, rfl, rfl, ⟨by decide, by decide, by decide⟩, rw', sc, ns, _, rfl, R, (by decide), (by decide), fun v1 H1 a0 a1 R1 k1 => ?_⟩
    rw [pow9] at a1
    refine ⟨_, _, rfl, rfl, ⟨by decide, by decide, by decide⟩, _, _, rfl, rfl, .inl ⟨by omega, by omega⟩, ?_⟩
    refine ⟨_, rfl, _, _, rfl, rfl, ⟨by decide, by decide, by decide⟩, rw', sc, ns, _, rfl, R1, (by decide), (by decide), fun v2 H2 b0 b1 R2 k2 => ?_⟩
    refine ⟨_, _, rfl, rfl, .inl ⟨_, rfl, _, rfl, _, _, rfl, rfl, p0, ?_⟩⟩
    exact k _ _ (Int.emod_nonneg _ (by omega)) (Int.emod_lt_of_pos _ p0) R2 fun b u e nb => k2 b u (k1 b u e nb) nb
theorem Good.take {os : List Ordr} (g : Good os) (i : Nat) : Good (os.take i) :=
  ⟨by have := g.len; rw [List.length_take]; omega, fun o ho => g.ok o (List.mem_of_mem_take ho), g.apart.sublist (List.take_sublist _ _)⟩
theorem Good.one {o : Ordr} (h : o.Ok) : Good [o] := ⟨by show 1 ≤ 30; decide, fun p hp => by rw [List.mem_singleton.mp hp]; exact h, by simp⟩
theorem Good.nil : Good [] := ⟨Nat.zero_le _, (fun p hp => by cases hp), List.Pairwise.nil⟩
def spLawBook (K : PySem.W.Frag) (C : Addr) : Sp := fun vs H Q _ => ∃ l as os, vs = [.ref l] ∧ SqL K H l (as.map V.ref) ∧ OrdsAt K H as os ∧ Good os ∧ ∀ H' p, Same H H' → H p = none → BookAt K C H' p os → Q (.ref p) H'
theorem ok_law_book (T : Top K mg C_Book C_Letter C_Decoder C_MailError C_InvalidOrder C_UnknownOrder C_InvalidAddress C_InvalidDay C_InvalidNumber C_NotationError C_InvalidCount C_DecodeError) (sf : PySem.W.selfFirst K C_Book = true) : GFn P w K mg base CX0 7 "_law_book" (spLawBook K C_Book) := by
  have G_Book : IFn P w K mg base CX0 3 C_Book "Book" (spBookInit K C_Book) := ok_Book T
  obtain ⟨fa, Fa, Ma⟩ := (ok_Book_add (P := P) (w := w) (base := base) T).ex
  refine T.d__law_book.fn fun f fd F => F.ok sc__law_book (fun vs H Q E h => ?_) (fun cdv A outer s H vs Q E hr h => ?_)
  · obtain ⟨l, as, os, rfl, _⟩ := h
    rfl
  · obtain ⟨l, as, os, rfl, hl, ho, g, k⟩ := h
    refine ⟨_, (pss_cons (ps_set (i := 1) sc__law_book.nd rfl (Or.inl rfl) (pe_mk0X G_Book (hr.mono (by decide)) pass0))
  (pss_cons (ps_for PassesOwn.never rfl (pi_list (pv 0)) (pg_name (i := 2) sc__law_book.nd rfl (Or.inl rfl))
  (pss_one (ps_set (i := 1) sc__law_book.nd rfl (Or.inl rfl) (pe_op (op_ownR sf Ma Fa (hr.mono (by decide)) pass0) (pv 1) (pe_mkX G_Book (hr.mono (by decide)) pass0 (pa_cons (pv 2) pa_nil))))))
  (pss_one (ps_ret (pv 1))))), ?_⟩
    have la : as.length = os.length := PySem.Paired.length ho
    intro x0 dx0 hx0 hdx0 ne0
    refine book_made' (as := []) (os := []) .nil Good.nil hx0 hdx0 ne0 (fun H1 s1 B1 => ⟨rfl, ?_⟩)
    refine ⟨_, rfl, l, rfl, ⟨_, s1.seq hl⟩, for_it (walk_list (xs := as.map V.ref)) (fun i σ H' => Same H H' ∧ ∃ p v2, σ = [some (.ref l), some (.ref p), v2] ∧ H p = none ∧ BookAt K C_Book H' p (os.take i)) ⟨s1, x0, _, rfl, hx0, B1⟩ (fun i σ H' _ ⟨s2, _⟩ => s2.seq hl) ?_ ?_⟩
    · rintro i y σ H2 H3 hi ⟨s2, p, v2, rfl, fp, B2⟩ ⟨rfl, ey⟩
      rw [List.length_map] at hi
      obtain ⟨a, ea⟩ : ∃ a, as[i]? = some a := ⟨as[i], by simp [hi]⟩
      rw [List.getElem?_map, ea] at ey
      cases ey
      obtain ⟨o, eo, oa⟩ := Paired.get ho ea
      have om : o ∈ os := List.mem_of_getElem? eo
      have et : os.take (i + 1) = os.take i ++ [o] := by rw [List.take_add_one, eo]; rfl
      refine ⟨_, rfl, _, rfl, ?_⟩
      have oa3 : OrdsAt K H3 [a] [o] := .cons (oa.mono s2) .nil
      intro p4 dx4 hp4 hdx4 ne4
      refine book_made' (as := [a]) (os := [o]) oa3 (Good.one (g.ok o om)) hp4 hdx4 ne4 (fun H4 s4 B4 => ⟨rfl, ?_⟩)
      obtain ⟨dx, t, bs, b1, b2, b3⟩ := id (B2.mono s4)
      obtain ⟨dy, u, cs, c1, c2, c3⟩ := id B4
      refine ⟨p, p4, dx, dy, _, _, rfl, rfl, b1, c1, p, p4, os.take i, [o], rfl, B2.mono s4, B4, by rw [← et]; exact g.take _, fun H5 p5 s5 f5 B5 => ?_⟩
      have s25 := (s2.trans s4).trans s5
      exact ⟨s25, p5, _, rfl, (s2.trans s4).free f5, by rw [et]; exact B5⟩
    · rintro σ H2 ⟨s2, p, v2, rfl, fp, B2⟩
      rw [List.length_map, la, List.take_length] at B2
      exact ⟨_, rfl, k H2 p s2 fp B2⟩
end

end MF
set_option Elab.async false
set_option linter.all false
set_option maxRecDepth 100000
set_option maxHeartbeats 2000000
set_option pp.maxSteps 600
namespace MF
open PySem PySem.Spec PyProof.Rows L2 StX
section
variable {P : Program} {w : World} {K : PySem.W.Frag} {mg : Str → Option Value} {base : Heap} {C_Book C_Letter C_Decoder C_MailError C_InvalidOrder C_UnknownOrder C_InvalidAddress C_InvalidDay C_InvalidNumber C_NotationError C_InvalidCount C_DecodeError : Addr}
def nmS (k : Nat) : Str := ⟨#[97 + k]⟩
theorem nmS_inj {i j : Nat} (h : nmS i = nmS j) : i = j := by
  have h1 : (#[97 + i] : Array Nat) = #[97 + j] := congrArg Str.cps h
  have h2 : 97 + i = 97 + j := by simpa using h1
  omega
theorem nmS_addr {k : Nat} (h : k < 6) : isAddrB (.str (nmS k)) = true := by
  have : k = 0 ∨ k = 1 ∨ k = 2 ∨ k = 3 ∨ k = 4 ∨ k = 5 := by omega
  rcases this with rfl | rfl | rfl | rfl | rfl | rfl <;> decide +kernel
def nameT (n : Nat) : Str := cutS "abcdef" none (some ((n : Nat) : Int))
theorem names_at {n : Nat} (h2 : 2 ≤ n) (h6 : n ≤ 6) : (nameT n).length ≤ sizeLine ∧ ∀ k : Nat, k < n → (nameT n).cps.toList[k]? = some (97 + k) := by
  have : n = 2 ∨ n = 3 ∨ n = 4 ∨ n = 5 ∨ n = 6 := by omega
  rcases this with rfl | rfl | rfl | rfl | rfl <;> (refine ⟨by decide +kernel, ?_⟩; decide +kernel)
theorem names_ix {n : Nat} (h2 : 2 ≤ n) (h6 : n ≤ 6) {i : Int} (h0 : 0 ≤ i) (h1 : i < n) : atI (nameT n).cps.toList i = some (97 + i.toNat) := by
  have e : i = ((i.toNat : Nat) : Int) := by omega
  rw [e]
  exact atI_nat ((names_at h2 h6).2 _ (by omega))
theorem ints_ix {l : List Int} {i : Nat} (h : i < l.length) : atI (l.map V.int) (0 + (i : Int)) = some (V.int (l.getD i 0)) := by
  rw [Int.zero_add]
  refine atI_nat ?_
  rw [List.getElem?_map, List.getElem?_eq_getElem h, List.getD_eq_getElem?_getD, List.getElem?_eq_getElem h]
  rfl
def KeepR (rw : Addr) (H H' : Hp) : Prop := ∀ b u, H b = some u → b ≠ rw → H' b = some u
theorem KeepR.trans {rw : Addr} {H H1 H2 : Hp} (a : KeepR rw H H1) (b : KeepR rw H1 H2) : KeepR rw H H2 := fun c u e n => b c u (a c u e n) n
theorem KeepR.of {rw : Addr} {H H' : Hp} (s : Same H H') : KeepR rw H H' := fun b u e _ => s b u e
theorem RowAt.ex {H : Hp} {rw sc : Addr} {ns : List Int} (h : RowAt K H rw sc ns) : ∃ xs, H rw = some (.lst xs) := by
  obtain ⟨j, m, r, h1, _⟩ := h
  exact ⟨_, h1⟩
theorem KeepR.tup {rw sc : Addr} {ns : List Int} {H H' : Hp} (k : KeepR rw H H') (r : RowAt K H rw sc ns) : ∀ b u, H b = some u → tupl u = true → H' b = some u := fun b u e y => k b u e fun z => by
  obtain ⟨xs, h⟩ := r.ex
  rw [z, h] at e
  cases e
  cases y
theorem OrdsAt.keepR {H H' : Hp} {as : List Addr} {os : List Ordr} (h : OrdsAt K H as os) (k : ∀ b u, H b = some u → tupl u = true → H' b = some u) : OrdsAt K H' as os := PySem.Paired.mono (fun a o z => by
    rcases z with (z | ⟨u, z⟩) | z
    · exact .inl (.inl (k _ _ z rfl))
    · exact .inl (.inr ⟨u, k _ _ z rfl⟩)
    · exact .inr z) h
def spLaw (K : PySem.W.Frag) : Sp := fun vs H Q _ => ∃ (a : Addr) (ns : List Int), vs = [.ref a] ∧ SqL K H a (ns.map V.int) ∧ ns.length ≤ 63 ∧ ∀ H', Q (.bl true) H'
theorem row_new {H : Hp} {a rw : Addr} {ns : List Int} (hS : SqL K H a (ns.map V.int)) (h : H rw = none) : RowAt K (upd H rw (.lst [.ref a, .int 0, .int 0, .int 0])) rw a ns :=
  ⟨0, 0, 0, upd_same, .of0 hS (Same.new h) h, by decide, by decide⟩
theorem RowAt.via {H H1 H2 : Hp} {rw sc : Addr} {ns : List Int} (h : RowAt K H rw sc ns) (k : KeepR rw H H2) (h1 : RowAt K H1 rw sc ns) (e : ∀ u, H1 rw = some u → H2 rw = some u) : RowAt K H2 rw sc ns := by
  obtain ⟨j, m, r, a1, a2, a3⟩ := h1
  obtain ⟨j', m', r', b1, b2, b3⟩ := h
  exact ⟨j, m, r, e _ a1, b2.keep k, a3⟩
end

end MF
set_option Elab.async false
set_option linter.all false
set_option maxRecDepth 100000
set_option maxHeartbeats 2000000
set_option pp.maxSteps 600
namespace MF
open PySem PySem.Spec PyProof.Rows L2 StX
section
variable {P : Program} {w : World} {K : PySem.W.Frag} {mg : Str → Option Value} {base : Heap} {C_Book C_Letter C_Decoder C_MailError C_InvalidOrder C_UnknownOrder C_InvalidAddress C_InvalidDay C_InvalidNumber C_NotationError C_InvalidCount C_DecodeError : Addr}
structure DrawnOs (most long : Nat) (os : List Ordr) : Prop where
  good : Good os
  len : os.length ≤ most
  names : ∀ o ∈ os, ∃ i j, i < 6 ∧ j < 6 ∧ o.src = nmS i ∧ o.tgt = nmS j
  tight : ∀ o ∈ os, o.last < (most : Int) * (14 + max 12 (long : Int))
  lasts : ∀ o ∈ os, o.last < (most : Int) * (27 + long)
  ways : ∀ o ∈ os, o.way ≤ 14
  spans : ∀ o ∈ os, o.last - o.first < max 12 (long : Int)
structure DrawnSo (B : Int) (i : Nat) (os : List Ordr) (kvs : List (Key × V)) : Prop where
  len : os.length ≤ i
  klen : kvs.length ≤ i
  ok : ∀ o ∈ os, o.Ok
  apart : os.Pairwise fun o p => overB o p = false
  names : ∀ o ∈ os, ∃ i j, i < 6 ∧ j < 6 ∧ o.src = nmS i ∧ o.tgt = nmS j
  ways : ∀ o ∈ os, o.way ≤ 14
  vals : ∀ s v, valV kvs (.inr s : Key) = some v → ∃ z : Int, v = .int z ∧ 0 ≤ z ∧ z ≤ i * B
  free : ∀ o ∈ os, ∃ z : Int, valV kvs (.inr o.src : Key) = some (.int z) ∧ o.last < z
  spans : ∀ o ∈ os, o.last - o.first < B - 14
theorem DrawnSo.nil (B : Int) : DrawnSo B 0 [] [] := ⟨Nat.le_refl _, Nat.le_refl _, (fun _ z => by cases z), .nil, (fun _ z => by cases z), (fun _ z => by cases z), (fun _ _ z => by cases z), (fun _ z => by cases z), (fun _ z => by cases z)⟩
theorem DrawnSo.skip {B : Int} {i : Nat} {os : List Ordr} {kvs : List (Key × V)} (b0 : 0 ≤ B) (D : DrawnSo B i os kvs) : DrawnSo B (i + 1) os kvs :=
  ⟨by have := D.len; omega, by have := D.klen; omega, D.ok, D.apart, D.names, D.ways, fun s v h => by
    obtain ⟨z, a, b, c⟩ := D.vals s v h
    refine ⟨z, a, b, ?_⟩
    push_cast
    rw [Int.add_mul, Int.one_mul]
    omega, D.free, D.spans⟩
theorem DrawnSo.snoc {B : Int} {i : Nat} {os : List Ordr} {kvs : List (Key × V)} (b0 : 0 ≤ B) (hB : (i : Int) * B ≤ 1000000) (hb : B ≤ 1000000) (D : DrawnSo B i os kvs) {a b : Nat} (ha : a < 6) (hb' : b < 6) (hne : nmS a ≠ nmS b) {f l w z : Int} (hz : (valV kvs (.inr (nmS a) : Key)).getD (.int 0) = .int z)
    (f0 : z ≤ f) (fl : f ≤ l) (lB : l + 1 ≤ z + B) (lf : l - f < B - 14) (w1 : 1 ≤ w) (w14 : w ≤ 14) : DrawnSo B (i + 1) (os ++ [⟨nmS a, nmS b, f, l, w⟩]) (putK kvs (.inr (nmS a)) (.int (l + 1))) := by
  have z0 : 0 ≤ z ∧ z ≤ i * B := by
    cases q : valV kvs (.inr (nmS a) : Key) with
    | none =>
      rw [q] at hz
      cases hz
      exact ⟨Int.le_refl _, Int.mul_nonneg (Int.natCast_nonneg _) b0⟩
    | some v =>
      obtain ⟨z', e1, e2, e3⟩ := D.vals _ _ q
      rw [q, e1] at hz
      cases hz
      exact ⟨e2, e3⟩
  have mem : ∀ {o}, o ∈ os ++ [(⟨nmS a, nmS b, f, l, w⟩ : Ordr)] → o ∈ os ∨ o = ⟨nmS a, nmS b, f, l, w⟩ := fun {o} h => by
    rcases List.mem_append.mp h with h | h
    · exact .inl h
    · exact .inr (List.mem_singleton.mp h)
  have eB : ((i + 1 : Nat) : Int) * B = i * B + B := by
    push_cast
    rw [Int.add_mul, Int.one_mul]
  refine ⟨?_, ?_, ?_, ?_, ?_, ?_, ?_, ?_, ?_⟩
  · rw [List.length_append]
    have := D.len
    show os.length + 1 ≤ i + 1
    omega
  · have := length_putK kvs (.inr (nmS a)) (.int (l + 1))
    have := D.klen
    omega
  · intro o h
    rcases mem h with h | rfl
    · exact D.ok o h
    · exact ⟨nmS_addr ha, nmS_addr hb', hne, by show 0 ≤ f; omega, fl, by show l ≤ _; omega, w1, by show w ≤ 30; omega⟩
  · refine List.pairwise_append.mpr ⟨D.apart, by simp, fun o ho p hp => ?_⟩
    rw [List.mem_singleton.mp hp]
    by_cases q : o.src = nmS a
    · obtain ⟨z', e1, e2⟩ := D.free o ho
      rw [q] at e1
      rw [e1] at hz
      cases hz
      have : ¬ f ≤ o.last := by omega
      show (_ && (_ && decide (f ≤ o.last))) = false
      rw [decide_eq_false this, Bool.and_false, Bool.and_false]
    · show (decide (o.src = nmS a) && _) = false
      rw [decide_eq_false q, Bool.false_and]
  · intro o h
    rcases mem h with h | rfl
    · exact D.names o h
    · exact ⟨a, b, ha, hb', rfl, rfl⟩
  · intro o h
    rcases mem h with h | rfl
    · exact D.ways o h
    · exact w14
  · intro s v h
    rw [valV_put] at h
    rw [eB]
    by_cases ea : (Sum.inr s : Key) = Sum.inr (nmS a)
    · rw [if_pos ea] at h
      cases h
      exact ⟨l + 1, rfl, by omega, by omega⟩
    · rw [if_neg ea] at h
      obtain ⟨z', e1, e2, e3⟩ := D.vals s v h
      exact ⟨z', e1, e2, by omega⟩
  · intro o h
    rw [valV_put]
    rcases mem h with h | rfl
    · by_cases ea : (Sum.inr o.src : Key) = Sum.inr (nmS a)
      · rw [if_pos ea]
        refine ⟨l + 1, rfl, ?_⟩
        obtain ⟨z', e1, e2⟩ := D.free o h
        rw [ea] at e1
        rw [e1] at hz
        cases hz
        omega
      · rw [if_neg ea]
        exact D.free o h
    · rw [if_pos rfl]
      exact ⟨l + 1, rfl, by show l < l + 1; omega⟩
  · intro o h
    rcases mem h with h | rfl
    · exact D.spans o h
    · exact lf
theorem overB_comm (o p : Ordr) : overB o p = overB p o := by
  unfold overB
  by_cases e : o.src = p.src
  · rw [decide_eq_true e, decide_eq_true e.symm, Bool.true_and, Bool.true_and, Bool.and_comm]
  · rw [decide_eq_false e, decide_eq_false (show ¬ p.src = o.src from fun z => e z.symm), Bool.false_and, Bool.false_and]
theorem DrawnSo.done {most long i t : Nat} {os : List Ordr} {kvs : List (Key × V)} (D : DrawnSo (14 + max 12 (long : Int)) i os kvs) (hi : i ≤ most) (hm : most ≤ 30) : DrawnOs most long (os.drop t ++ os.take t) := by
  have mem : ∀ {o}, o ∈ os.drop t ++ os.take t → o ∈ os := fun {o} h => by
    rcases List.mem_append.mp h with h | h
    · exact List.mem_of_mem_drop h
    · exact List.mem_of_mem_take h
  have el : (os.drop t ++ os.take t).length = os.length := by
    rw [List.length_append, List.length_drop, List.length_take]
    omega
  have hl := D.len
  have ap : (os.take t ++ os.drop t).Pairwise fun o p => overB o p = false := by
    rw [List.take_append_drop]
    exact D.apart
  obtain ⟨a1, a2, a3⟩ := List.pairwise_append.mp ap
  have tg : ∀ o ∈ os.drop t ++ os.take t, o.last < (most : Int) * (14 + max 12 (long : Int)) := fun o h => by
    obtain ⟨z, e1, e2⟩ := D.free o (mem h)
    obtain ⟨z', e3, e4, e5⟩ := D.vals _ _ e1
    cases e3
    have : (i : Int) * (14 + max 12 (long : Int)) ≤ (most : Int) * (14 + max 12 (long : Int)) := Int.mul_le_mul_of_nonneg_right (by omega) (by omega)
    omega
  refine ⟨⟨by omega, fun o h => D.ok o (mem h), ?_⟩, by omega, fun o h => D.names o (mem h), tg, fun o h => ?_, fun o h => D.ways o (mem h), fun o h => by have := D.spans o (mem h); omega⟩
  · exact List.pairwise_append.mpr ⟨a2, a1, fun o ho p hp => by rw [overB_comm]; exact a3 p hp o ho⟩
  · have h1 := tg o h
    have h2 : (most : Int) * (14 + max 12 (long : Int)) ≤ (most : Int) * (27 + long) := Int.mul_le_mul_of_nonneg_left (by omega) (by omega)
    omega
theorem cut_drop (xs : List V) (i : Nat) (h : i ≤ xs.length) : cutV xs (some (i : Int)) none = xs.drop i := by
  unfold cutV
  rw [HT.sIx_none, HT.sIx_nat, Nat.min_eq_left h, List.take_of_length_le (by rw [List.length_drop]; omega)]
theorem pairedDrop {α β : Type} {r : α → β → Prop} : ∀ {as : List α} {bs : List β} (n : Nat), PySem.Paired r as bs → PySem.Paired r (as.drop n) (bs.drop n)
  | _, _, 0, h => h
  | _, _, n + 1, .nil => .nil
  | _, _, n + 1, .cons _ h => pairedDrop n h
theorem pairedTake {α β : Type} {r : α → β → Prop} : ∀ {as : List α} {bs : List β} (n : Nat), PySem.Paired r as bs → PySem.Paired r (as.take n) (bs.take n)
  | _, _, 0, h => .nil
  | _, _, n + 1, .nil => .nil
  | _, _, n + 1, .cons h1 h => .cons h1 (pairedTake n h)
structure OSt (K : PySem.W.Frag) (H0 H : Hp) (rw sc : Addr) (ns : List Int) (lf df : Addr) (as : List Addr) (os : List Ordr) (kvs : List (Key × V)) (B : Int) (i : Nat) : Prop where
  kr : KeepR rw H0 H
  row : RowAt K H rw sc ns
  hl : H lf = some (.lst (as.map V.ref))
  hd : H df = some (.dK kvs)
  ords : OrdsAt K H as os
  D : DrawnSo B i os kvs
  nl : H0 lf = none
  nd : H0 df = none
  lr : lf ≠ rw
  dr : df ≠ rw
section
variable {H0 H H' : Hp} {rw sc lf df : Addr} {ns : List Int} {as : List Addr} {os : List Ordr} {kvs : List (Key × V)} {B : Int} {i : Nat}
theorem OSt.taken (S : OSt K H0 H rw sc ns lf df as os kvs B i) (R : RowAt K H' rw sc ns) (k : KeepR rw H H') : OSt K H0 H' rw sc ns lf df as os kvs B i :=
  ⟨S.kr.trans k, R, k _ _ S.hl S.lr, k _ _ S.hd S.dr, S.ords.keepR (k.tup S.row), S.D, S.nl, S.nd, S.lr, S.dr⟩
theorem OSt.same (S : OSt K H0 H rw sc ns lf df as os kvs B i) (s : Same H H') : OSt K H0 H' rw sc ns lf df as os kvs B i := S.taken (S.row.keep s) (KeepR.of s)
end
theorem pick3 {a b c v : Int} (h0 : 0 ≤ v) (h3 : v < 3) : ∃ z, atI [V.int a, .int b, .int c] v = some (.int z) ∧ (z = a ∨ z = b ∨ z = c) := by
  have : v = 0 ∨ v = 1 ∨ v = 2 := by omega
  rcases this with rfl | rfl | rfl
  · exact ⟨a, rfl, .inl rfl⟩
  · exact ⟨b, rfl, .inr (.inl rfl)⟩
  · exact ⟨c, rfl, .inr (.inr rfl)⟩
def spOrders (K : PySem.W.Frag) : Sp := fun vs H Q _ => ∃ rw sc ns, ∃ most long : Nat, vs = [.ref rw, .int (most : Nat), .int (long : Nat)] ∧ RowAt K H rw sc ns ∧ most ≤ 20 ∧ 1 ≤ long ∧ long ≤ 200 ∧
  ∀ H' l as os, KeepR rw H H' → H l = none → RowAt K H' rw sc ns → H' l = some (.lst (as.map V.ref)) → OrdsAt K H' as os → DrawnOs most long os → Q (.ref l) H'
theorem ok_orders (T : Top K mg C_Book C_Letter C_Decoder C_MailError C_InvalidOrder C_UnknownOrder C_InvalidAddress C_InvalidDay C_InvalidNumber C_NotationError C_InvalidCount C_DecodeError) : GFn P w K mg base CX0 2 "_law_orders" (spOrders K) := by
  have G__law_taken : GFn P w K mg base CX0 1 "_law_taken" (spTaken K) := ok_taken T
  refine T.d__law_orders.fn fun f fd F => F.ok sc__law_orders (fun vs H Q E h => ?_) (fun cdv A outer s H vs Q E hr h => ?_)
  · obtain ⟨rw, sc, ns, most, long, rfl, _⟩ := h
    rfl
  · obtain ⟨rw', sc, ns, most, long, rfl, R, hm, l1, l2, k⟩ := h
    have hu := hu_of hr
    refine ⟨_, (C8.pss_cut (ps_par3 (i := 3) (j := 4) (l := 5) (by rfl) sc__law_orders.nd rfl rfl rfl (by decide) (by decide) (by decide) rfl rfl rfl (pa_cons (pe_lst pa_nil) (pa_cons pe_dnewK (pa_cons (pe_slice sl_str pe_str po_none (po_some (pe_op op_add pe_int (pe_g G__law_taken (hr.mono (by decide)) (pa_cons (pv 0) (pa_cons pe_int pa_nil)))))) pa_nil))) (by rfl))
  (C8.pss_cut (ps_for PassesOwn.never rfl (pi_range1 (by rfl) T.b_range (pa_cons (pe_g G__law_taken (hr.mono (by decide)) (pa_cons (pv 0) (pa_cons (pe_op op_add (pv 1) pe_int) pa_nil))) pa_nil)) (pg_name (i := 6) sc__law_orders.nd rfl (Or.inl rfl))
  (C8.pss_cut (ps_par (i := 7) (j := 8) (by rfl) sc__law_orders.nd rfl rfl (by decide) rfl rfl (pa_cons (pe_ix ix_str (pv 5) (pe_g G__law_taken (hr.mono (by decide)) (pa_cons (pv 0) (pa_cons (pe_callB call_len_str (by rfl) T.b_len (by decide +kernel) (pa_cons (pv 5) pa_nil)) pa_nil))) (fun _ _ => rfl)) (pa_cons (pe_ix ix_str (pv 5) (pe_g G__law_taken (hr.mono (by decide)) (pa_cons (pv 0) (pa_cons (pe_callB call_len_str (by rfl) T.b_len (by decide +kernel) (pa_cons (pv 5) pa_nil)) pa_nil))) (fun _ _ => rfl)) pa_nil)) (by rfl))
  (pss_one (ps_if (pt_cmpR op_ne (pv 7) (pv 8) (nomark _))
  (C8.pss_cut (ps_set (i := 9) sc__law_orders.nd rfl (Or.inl rfl) (pe_op op_add (pe_dget2 hu (pv 4) (pv 7) pe_int ⟨rfl, rfl, rfl, rfl⟩) (pe_g G__law_taken (hr.mono (by decide)) (pa_cons (pv 0) (pa_cons (pe_ix ix_list (pe_lst (pa_cons pe_int (pa_cons pe_int (pa_cons pe_int pa_nil)))) (pe_g G__law_taken (hr.mono (by decide)) (pa_cons (pv 0) (pa_cons pe_int pa_nil))) (fun _ _ => rfl)) pa_nil)))))
  (C8.pss_cut (ps_set (i := 10) sc__law_orders.nd rfl (Or.inl rfl) (pe_op op_add (pv 9) (pe_g G__law_taken (hr.mono (by decide)) (pa_cons (pv 0) (pa_cons (pe_ix ix_list (pe_lst (pa_cons pe_int (pa_cons pe_int (pa_cons (pv 2) pa_nil)))) (pe_g G__law_taken (hr.mono (by decide)) (pa_cons (pv 0) (pa_cons pe_int pa_nil))) (fun _ _ => rfl)) pa_nil)))))
  (pss_cons (ps_expr (pe_bm PySem.F.plainAttrs_list PySem.F.slot_list_append PySem.F.type_list_append mt_append (pv 3) (pa_cons (pe_tup (pa_cons (pv 7) (pa_cons (pv 8) (pa_cons (pv 9) (pa_cons (pv 10) (pa_cons (pe_op op_add pe_int (pe_g G__law_taken (hr.mono (by decide)) (pa_cons (pv 0) (pa_cons (pe_ix ix_list (pe_lst (pa_cons pe_int (pa_cons pe_int (pa_cons pe_int pa_nil)))) (pe_g G__law_taken (hr.mono (by decide)) (pa_cons (pv 0) (pa_cons pe_int pa_nil))) (fun _ _ => rfl)) pa_nil)))) pa_nil)))))) pa_nil)))
  (pss_one (ps_dput hu (pv 4) (pv 7) (pe_op op_add (pv 10) pe_int) rfl)))))
  pss_nil))))
  (pss_cons (ps_set (i := 11) sc__law_orders.nd rfl (Or.inl rfl) (pe_g G__law_taken (hr.mono (by decide)) (pa_cons (pv 0) (pa_cons (pe_op op_add (pe_callB call_len_seq (by rfl) T.b_len (by decide +kernel) (pa_cons (pv 3) pa_nil)) pe_int) pa_nil))))
  (pss_one (ps_ret (pe_op op_cat (pe_slice sl_list (pv 3) (po_some (pv 11)) po_none) (pe_slice sl_list (pv 3) po_none (po_some (pv 11))))))))), ?_⟩
    refine ⟨fun σ' H' => ∃ n lf df, ∃ v6 v7 v8 v9 v10 v11, 2 ≤ n ∧ n ≤ 6 ∧ σ' = [some (.ref rw'), some (.int (most : Nat)), some (.int (long : Nat)), some (.ref lf), some (.ref df), some (.str (nameT n)), v6, v7, v8, v9, v10, v11] ∧ OSt K H H' rw' sc ns lf df [] [] [] (14 + max 12 (long : Int)) 0, ?_, ?_⟩
    · refine ⟨(by show 0 ≤ sizeLine; decide), fun lf hlf => ?_⟩
      intro df hdf
      have hdf0 : H df = none := (Same.new hlf).free hdf
      have ne : lf ≠ df := ne_of_none (o := .lst []) upd_same hdf
      obtain ⟨xs, hrw⟩ := R.ex
      have lr : lf ≠ rw' := (ne_of_none hrw hlf).symm
      have dr : df ≠ rw' := (ne_of_none hrw hdf0).symm
      have s2 : Same H (upd (upd H lf (.lst [])) df (.dK [])) := MF.Same.upd (Same.new hlf) hdf
      have S0 : OSt K H (upd (upd H lf (.lst [])) df (.dK [])) rw' sc ns lf df [] [] [] (14 + max 12 (long : Int)) 0 := ⟨KeepR.of s2, R.keep s2, by rw [upd_ne ne, upd_same]; rfl, upd_same, .nil, .nil _, hlf, hdf0, lr, dr⟩
      refine ⟨_, rfl, rw', sc, ns, 5, rfl, S0.row, (by decide), (by decide), fun v H1 v0 v1 R1 k1 => ?_⟩
      have S1 := S0.taken R1 k1
      refine ⟨_, _, rfl, rfl, _, rfl, _, rfl, (by decide +kernel), _, _, _, rfl, ?_⟩
      have e : (((2 + v).toNat : Nat) : Int) = 2 + v := by omega
      refine ⟨(2 + v).toNat, lf, df, none, none, none, none, none, none, by omega, by omega, ?_, S1⟩
      unfold nameT
      rw [e]
      rfl
    rintro σ H1 ⟨n, lf, df, v6, v7, v8, v9, v10, v11, n2, n6, rfl, S1⟩
    have nz := (names_at n2 n6).1
    have nl : (nameT n).length = n := by
      have : n = 2 ∨ n = 3 ∨ n = 4 ∨ n = 5 ∨ n = 6 := by omega
      rcases this with rfl | rfl | rfl | rfl | rfl <;> decide +kernel
    refine ⟨fun σ' H' => ∃ as os kvs, ∃ i : Nat, ∃ v6 v7 v8 v9 v10 v11, i ≤ most ∧ σ' = [some (.ref rw'), some (.int (most : Nat)), some (.int (long : Nat)), some (.ref lf), some (.ref df), some (.str (nameT n)), v6, v7, v8, v9, v10, v11] ∧ OSt K H H' rw' sc ns lf df as os kvs (14 + max 12 (long : Int)) i, ?_, ?_⟩
    · refine ⟨_, rfl, _, rfl, _, _, rfl, rfl, rw', sc, ns, _, rfl, S1.row, (by omega), (by omega), fun r H2 r0 r1 R2 k2 => ⟨r, rfl, (by omega), (by omega), for_it walk_range (fun i σ' H' => ∃ as os kvs, ∃ v6 v7 v8 v9 v10 v11, σ' = [some (.ref rw'), some (.int (most : Nat)), some (.int (long : Nat)), some (.ref lf), some (.ref df), some (.str (nameT n)), v6, v7, v8, v9, v10, v11] ∧ OSt K H H' rw' sc ns lf df as os kvs (14 + max 12 (long : Int)) i) ⟨[], [], [], v6, v7, v8, v9, v10, v11, rfl, S1.taken R2 k2⟩ (fun _ _ _ _ _ => trivial) ?_ ?_⟩⟩
      · rintro i y σ' H3 H4 hi ⟨as, os, kvs, w6, w7, w8, w9, w10, w11, rfl, S3⟩ ⟨rfl, rfl⟩
        refine ⟨fun σ' H' => ∃ a b, a < 6 ∧ b < 6 ∧ σ' = [some (.ref rw'), some (.int (most : Nat)), some (.int (long : Nat)), some (.ref lf), some (.ref df), some (.str (nameT n)), some (.int (0 + (i : Int))), some (.str (nmS a)), some (.str (nmS b)), w9, w10, w11] ∧ OSt K H H' rw' sc ns lf df as os kvs (14 + max 12 (long : Int)) i, ?_, ?_⟩
        · refine ⟨_, rfl, _, rfl, _, rfl, _, rfl, nz, rw', sc, ns, _, rfl, S3.row, (by omega), (by omega), fun a H5 a0 a1 R5 k5 => ?_⟩
          rw [nl] at a1
          have S5 := S3.taken R5 k5
          refine ⟨_, _, _, rfl, rfl, nz, names_ix n2 n6 a0 (by omega), ?_⟩
          refine ⟨_, rfl, _, rfl, _, rfl, _, rfl, nz, rw', sc, ns, _, rfl, S5.row, (by omega), (by omega), fun b H6 b0 b1 R6 k6 => ?_⟩
          rw [nl] at b1
          refine ⟨_, _, _, rfl, rfl, nz, names_ix n2 n6 b0 (by omega), _, _, rfl, ?_⟩
          exact ⟨a.toNat, b.toNat, by omega, by omega, rfl, S5.taken R6 k6⟩
        rintro σ' H5 ⟨a, b, ha, hb, rfl, S5⟩
        refine ⟨_, rfl, _, rfl, rfl, _, rfl, ?_⟩
        by_cases hne : V.str (nmS a) = V.str (nmS b)
        · refine iteND hne ?_
          exact ⟨as, os, kvs, _, _, _, _, _, _, rfl, { S5 with D := S5.D.skip (by omega) }⟩
        refine iteNDN hne ?_
        have hiB : (i : Int) * (14 + max 12 (long : Int)) ≤ 20 * (14 + max 12 (long : Int)) := Int.mul_le_mul_of_nonneg_right (by omega) (by omega)
        obtain ⟨z, hz, z0⟩ : ∃ z : Int, (valV kvs (.inr (nmS a) : Key)).getD (.int 0) = .int z ∧ 0 ≤ z := by
          cases q : valV kvs (.inr (nmS a) : Key) with
          | none => exact ⟨0, rfl, Int.le_refl _⟩
          | some v =>
            obtain ⟨z', e1, e2, e3⟩ := S5.D.vals _ _ q
            exact ⟨z', by rw [e1]; rfl, e2⟩
        refine ⟨fun σ' H' => ∃ f, z ≤ f ∧ f ≤ z + 14 ∧ σ' = [some (.ref rw'), some (.int (most : Nat)), some (.int (long : Nat)), some (.ref lf), some (.ref df), some (.str (nameT n)), some (.int (0 + (i : Int))), some (.str (nmS a)), some (.str (nmS b)), some (.int f), w10, w11] ∧ OSt K H H' rw' sc ns lf df as os kvs (14 + max 12 (long : Int)) i, ?_, ?_⟩
        · refine ⟨_, rfl, df, rfl, .inl ⟨kvs, .inl S5.hd⟩, _, rfl, _, DGet.k (k := Sum.inr (nmS a)) S5.hd, _, rfl, (by show 3 ≤ sizeLine; decide), fun p hp => ?_⟩
          have S6 := S5.same (Same.new (o := .lst [.int 1, .int 4, .int 15]) hp)
          have pr : p ≠ rw' := by
            obtain ⟨xs, q⟩ := S5.row.ex
            exact (ne_of_none q hp).symm
          refine ⟨_, rfl, rw', sc, ns, 3, rfl, S6.row, (by decide), (by decide), fun c H7 c0 c1 R7 k7 => ?_⟩
          have S7 := S6.taken R7 k7
          obtain ⟨y, ey, hy⟩ := pick3 (a := 1) (b := 4) (c := 15) c0 c1
          refine ⟨p, _, _, _, rfl, rfl, SqL.of (k7 _ _ upd_same pr), ey, rw', sc, ns, y, rfl, S7.row, (by omega), (by omega), fun d H8 d0 d1 R8 k8 => ⟨z, d, hz, rfl, ?_⟩⟩
          exact ⟨z + d, by omega, by omega, rfl, S7.taken R8 k8⟩
        clear S5
        rintro σ' H5 ⟨f, f0, f1, rfl, S5⟩
        refine ⟨fun σ' H' => ∃ l, f ≤ l ∧ l + 1 ≤ f + max 12 (long : Int) ∧ σ' = [some (.ref rw'), some (.int (most : Nat)), some (.int (long : Nat)), some (.ref lf), some (.ref df), some (.str (nameT n)), some (.int (0 + (i : Int))), some (.str (nmS a)), some (.str (nmS b)), some (.int f), some (.int l), w11] ∧ OSt K H H' rw' sc ns lf df as os kvs (14 + max 12 (long : Int)) i, ?_, ?_⟩
        · refine ⟨_, rfl, _, rfl, _, rfl, (by show 3 ≤ sizeLine; decide), fun p hp => ?_⟩
          have S6 := S5.same (Same.new (o := .lst [.int 3, .int 12, .int (long : Nat)]) hp)
          have pr : p ≠ rw' := by
            obtain ⟨xs, q⟩ := S5.row.ex
            exact (ne_of_none q hp).symm
          refine ⟨_, rfl, rw', sc, ns, 3, rfl, S6.row, (by decide), (by decide), fun c H7 c0 c1 R7 k7 => ?_⟩
          have S7 := S6.taken R7 k7
          obtain ⟨y, ey, hy⟩ := pick3 (a := 3) (b := 12) (c := (long : Nat)) c0 c1
          refine ⟨p, _, _, _, rfl, rfl, SqL.of (k7 _ _ upd_same pr), ey, rw', sc, ns, y, rfl, S7.row, (by omega), (by omega), fun d H8 d0 d1 R8 k8 => ⟨_, _, rfl, rfl, ?_⟩⟩
          exact ⟨f + d, by omega, by omega, rfl, S7.taken R8 k8⟩
        clear S5
        rintro σ' H5 ⟨l, g0, g1, rfl, S5⟩
        refine ⟨_, rfl, .inl ⟨rfl, _, SqL.of S5.hl⟩, _, rfl, _, rfl, _, rfl, _, rfl, _, rfl, (by show 3 ≤ sizeLine; decide), fun p hp => ?_⟩
        have S6 := S5.same (Same.new (o := .lst [.int 1, .int 3, .int 14]) hp)
        have pr : p ≠ rw' := by
          obtain ⟨xs, q⟩ := S5.row.ex
          exact (ne_of_none q hp).symm
        refine ⟨_, rfl, rw', sc, ns, 3, rfl, S6.row, (by decide), (by decide), fun c H7 c0 c1 R7 k7 => ?_⟩
        have S7 := S6.taken R7 k7
        obtain ⟨y, ey, hy⟩ := pick3 (a := 1) (b := 3) (c := 14) c0 c1
        refine ⟨p, _, _, _, rfl, rfl, SqL.of (k7 _ _ upd_same pr), ey, rw', sc, ns, y, rfl, S7.row, (by omega), (by omega), fun d H8 d0 d1 R8 k8 => ⟨_, _, rfl, rfl, (by show 5 ≤ sizeLine; decide), fun q hq => ?_⟩⟩
        have S8 := S7.taken R8 k8
        have nlq : lf ≠ q := ne_of_none S8.hl hq
        have ndq : df ≠ q := ne_of_none S8.hd hq
        have nld : lf ≠ df := ne_of S8.hl S8.hd (by intro z; cases z)
        have hal : as.length ≤ 20 := by
          have := PySem.Paired.length S8.ords
          have := S8.D.len
          omega
        refine ⟨lf, _, _, rfl, rfl, (by rw [upd_ne nlq]; exact S8.hl), (by rw [List.length_map, sizeLine_eq]; omega), ?_⟩
        refine ⟨_, rfl, _, _, rfl, rfl, _, rfl, _, rfl, df, _, rfl, DPut.k (k := Sum.inr (nmS a)) (by rw [upd_ne nld.symm, upd_ne ndq]; exact S8.hd) (small1000 (by have := S8.D.klen; omega)), ?_⟩
        have hqr : rw' ≠ q := by
          obtain ⟨xs, z⟩ := S8.row.ex
          exact ne_of_none z hq
        have kr9 : KeepR rw' H (upd (upd (upd H8 q (.tup [.str (nmS a), .str (nmS b), .int f, .int l, .int (1 + d)])) lf (.lst (as.map V.ref ++ [.ref q]))) df (.dK (putK kvs (.inr (nmS a)) (.int (l + 1))))) := fun c u e nc => by
          rw [upd_ne (ne_of_none e S8.nd), upd_ne (ne_of_none e S8.nl), upd_ne (ne_of_none (S8.kr c u e nc) hq)]
          exact S8.kr c u e nc
        refine ⟨as ++ [q], os ++ [⟨nmS a, nmS b, f, l, 1 + d⟩], putK kvs (.inr (nmS a)) (.int (l + 1)), _, _, _, _, _, _, rfl, kr9, ?_, ?_, upd_same, ?_, ?_, S8.nl, S8.nd, S8.lr, S8.dr⟩
        · exact R.via kr9 S8.row fun u e => by
            rw [upd_ne S8.dr.symm, upd_ne S8.lr.symm, upd_ne hqr]
            exact e
        · rw [upd_ne nld, upd_same, List.map_append]
          rfl
        · refine Paired.append (S8.ords.keepR fun c u e z => ?_) (.cons (.inl (.inl ?_)) .nil)
          · rw [upd_ne (fun x => by rw [x, S8.hd] at e; cases e; cases z), upd_ne (fun x => by rw [x, S8.hl] at e; cases e; cases z), upd_ne (ne_of_none e hq)]
            exact e
          · rw [upd_ne ndq.symm, upd_ne nlq.symm, upd_same]
            rfl
        · exact S8.D.snoc (by omega) (by omega) (by omega) ha hb (fun z => hne (by rw [z])) hz f0 g0 (by omega) (by omega) (by omega) (by omega)
      · rintro σ' H3 ⟨as, os, kvs, w6, w7, w8, w9, w10, w11, rfl, S3⟩
        exact ⟨as, os, kvs, r.toNat, w6, w7, w8, w9, w10, w11, by omega, rfl, S3⟩
    rintro σ H2 ⟨as, os, kvs, i, v6, v7, v8, v9, v10, v11, hi, rfl, S2⟩
    have hal := PySem.Paired.length S2.ords
    have hol := S2.D.len
    refine ⟨_, rfl, _, rfl, lf, _, rfl, .inl (SqL.of S2.hl), _, _, rfl, rfl, rw', sc, ns, _, rfl, S2.row, (by omega), (by rw [List.length_map]; omega), fun t H3 t0 t1 R3 k3 => ?_⟩
    rw [List.length_map] at t1
    obtain ⟨tn, rfl⟩ : ∃ tn : Nat, t = (tn : Int) := ⟨t.toNat, by omega⟩
    have S3 := S2.taken R3 k3
    refine ⟨_, rfl, _, rfl, _, rfl, lf, _, rfl, SqL.of S3.hl, fun p1 hp1 => ?_⟩
    have n1 : lf ≠ p1 := ne_of_none S3.hl hp1
    refine ⟨_, rfl, _, rfl, _, rfl, lf, _, rfl, SqL.of (by rw [upd_ne n1]; exact S3.hl), fun p2 hp2 => ?_⟩
    have n12 : p1 ≠ p2 := ne_of_none (o := _) upd_same hp2
    refine ⟨p1, p2, _, _, rfl, rfl, (by rw [upd_ne n12]; exact upd_same), upd_same, ?_, fun p3 hp3 => ?_⟩
    · have a1 := cutV_length (as.map V.ref) (some (tn : Int)) none
      have a2 := cutV_length (as.map V.ref) none (some (tn : Int))
      rw [List.length_map] at a1 a2
      rw [sizeLine_eq]
      omega
    have s1 : Same H3 (upd H3 p1 (.lst (cutV (as.map V.ref) (some (tn : Int)) none))) := Same.new hp1
    have s2 := MF.Same.upd (o := .lst (cutV (as.map V.ref) none (some (tn : Int)))) s1 hp2
    have s3 := MF.Same.upd (o := .lst (cutV (as.map V.ref) (some (tn : Int)) none ++ cutV (as.map V.ref) none (some (tn : Int)))) s2 hp3
    have hp30 : H3 p3 = none := s2.free hp3
    have hp00 : H p3 = none := by
      cases q : H p3 with
      | none => rfl
      | some u =>
        by_cases z : p3 = rw'
        · obtain ⟨xs, e⟩ := S3.row.ex
          rw [z, e] at hp30
          cases hp30
        · rw [S3.kr _ _ q z] at hp30
          cases hp30
    refine k _ p3 (as.drop tn ++ as.take tn) (os.drop tn ++ os.take tn) (S3.kr.trans (KeepR.of s3)) hp00 (S3.row.keep s3) ?_ ?_ (S3.D.done hi (by omega))
    · rw [upd_same, cut_drop _ _ (by rw [List.length_map]; omega), cut_take _ _ (by rw [List.length_map]; omega), List.map_append, List.map_drop, List.map_take]
    · exact OrdsAt.mono (Paired.append (pairedDrop tn S3.ords) (pairedTake tn S3.ords)) s3
end

end MF
set_option Elab.async false
set_option linter.all false
set_option maxRecDepth 100000
set_option maxHeartbeats 2000000
set_option pp.maxSteps 600
namespace MF
open PySem PySem.Spec PyProof.Rows L2 StX
section
variable {P : Program} {w : World} {K : PySem.W.Frag} {mg : Str → Option Value} {base : Heap} {C_Book C_Letter C_Decoder C_MailError C_InvalidOrder C_UnknownOrder C_InvalidAddress C_InvalidDay C_InvalidNumber C_NotationError C_InvalidCount C_DecodeError : Addr}
theorem abc_len : Str.length "abcdef" ≤ sizeLine := by decide +kernel
theorem abc_ix {i : Int} (h0 : 0 ≤ i) (h1 : i < 6) : atI (Str.cps "abcdef").toList i = some (97 + i.toNat) := by
  have : i = 0 ∨ i = 1 ∨ i = 2 ∨ i = 3 ∨ i = 4 ∨ i = 5 := by omega
  rcases this with rfl | rfl | rfl | rfl | rfl | rfl <;> decide +kernel
theorem KeepR.free {rw sc t : Addr} {ns : List Int} {H H' : Hp} (k : KeepR rw H H') (r : RowAt K H' rw sc ns) (h : H' t = none) : H t = none := by
  cases q : H t with
  | none => rfl
  | some u =>
    by_cases z : t = rw
    · obtain ⟨xs, e⟩ := r.ex
      rw [z, e] at h
      cases h
    · rw [k t u q z] at h
      cases h
end

end MF
set_option Elab.async false
set_option linter.all false
set_option maxRecDepth 100000
set_option maxHeartbeats 2000000
set_option pp.maxSteps 600
namespace MF
open PySem PySem.Spec PyProof.Rows L2 StX
section
variable {P : Program} {w : World} {K : PySem.W.Frag} {mg : Str → Option Value} {base : Heap} {C_Book C_Letter C_Decoder C_MailError C_InvalidOrder C_UnknownOrder C_InvalidAddress C_InvalidDay C_InvalidNumber C_NotationError C_InvalidCount C_DecodeError : Addr}
structure PS (K : PySem.W.Frag) (H0 H : Hp) (rw sc : Addr) (ns : List Int) (l : Addr) (as : List Addr) (os : List Ordr) : Prop where
  s0 : Same H0 H
  row : RowAt K H rw sc ns
  el : H l = some (.lst (as.map V.ref))
  ords : OrdsAt K H as os
  nl : l ≠ rw
theorem PS.same {H0 H H' : Hp} {rw sc : Addr} {ns : List Int} {l : Addr} {as : List Addr} {os : List Ordr} (S : PS K H0 H rw sc ns l as os) (s : Same H H') : PS K H0 H' rw sc ns l as os := ⟨S.s0.trans s, S.row.keep s, s _ _ S.el, S.ords.mono s, S.nl⟩
theorem PS.keepR {H0 H H' : Hp} {rw sc : Addr} {ns : List Int} {l : Addr} {as : List Addr} {os : List Ordr} (S : PS K H0 H rw sc ns l as os) (h0 : H0 rw = none) (r : RowAt K H' rw sc ns) (k : KeepR rw H H') : PS K H0 H' rw sc ns l as os :=
  ⟨fun b u e => k b u (S.s0 b u e) (ne_of_none e h0), r, k _ _ S.el S.nl, S.ords.keepR (k.tup S.row), S.nl⟩
theorem BookAt.keepR {C rw sc : Addr} {ns : List Int} {H H' : Hp} {bk : Addr} {os : List Ordr} (B : BookAt K C H bk os) (nb : bk ≠ rw) (R : RowAt K H rw sc ns) (k : KeepR rw H H') : BookAt K C H' bk os := B.kept (fun u e => k _ _ e nb) (k.tup R)
theorem RowAt.fresh {H : Hp} {rw sc p : Addr} {ns : List Int} (R : RowAt K H rw sc ns) (h : H p = none) : p ≠ rw := by
  obtain ⟨xs, q⟩ := R.ex
  exact (ne_of_none q h).symm
def farO (f l w : Int) : Ordr := ⟨"a", "g", f, l, w⟩
theorem far_good {most long : Nat} {os : List Ordr} {f l w : Int} (D : DrawnOs most long os) (hm : most ≤ 29) (hf : (most : Int) * (14 + max 12 (long : Int)) ≤ f) (h0 : 0 ≤ f) (hl : f ≤ l) (hl' : l ≤ 1000000000000000000) (hw : 1 ≤ w) (hw' : w ≤ 30) : Good (os ++ [farO f l w]) := by
  refine ⟨?_, fun o ho => ?_, ?_⟩
  · have := D.len
    rw [List.length_append]
    simp only [List.length_cons, List.length_nil]
    omega
  · rcases List.mem_append.mp ho with z | z
    · exact D.good.ok o z
    · rw [List.mem_singleton.mp z]
      exact ⟨by show isAddrB (.str "a") = true; decide, by show isAddrB (.str "g") = true; decide, by show ("a" : Str) ≠ "g"; decide, h0, hl, hl', hw, hw'⟩
  · refine List.pairwise_append.mpr ⟨D.good.apart, by simp, fun o ho p hp => ?_⟩
    rw [List.mem_singleton.mp hp]
    unfold overB
    have := D.tight o ho
    have : ¬ (farO f l w).first ≤ o.last := by
      show ¬ f ≤ o.last
      omega
    rw [decide_eq_false this, Bool.and_false, Bool.and_false]
end

end MF
set_option Elab.async false
set_option linter.all false
set_option maxRecDepth 100000
set_option maxHeartbeats 2000000
set_option pp.maxSteps 600
namespace MF
open PySem PySem.Spec PyProof.Rows L2 StX
section
variable {P : Program} {w : World} {K : PySem.W.Frag} {mg : Str → Option Value} {base : Heap} {C_Book C_Letter C_Decoder C_MailError C_InvalidOrder C_UnknownOrder C_InvalidAddress C_InvalidDay C_InvalidNumber C_NotationError C_InvalidCount C_DecodeError : Addr}
def spOrdersP (K : PySem.W.Frag) (C : Addr) : Sp := fun vs H Q _ => ∃ p os, vs = [.ref p] ∧ BookAt K C H p os ∧ ∀ t as, SqT K H t (as.map V.ref) → OrdsAt K H as os → Q (.ref t) H
theorem ok_ordersP (T : Top K mg C_Book C_Letter C_Decoder C_MailError C_InvalidOrder C_UnknownOrder C_InvalidAddress C_InvalidDay C_InvalidNumber C_NotationError C_InvalidCount C_DecodeError) : PFn P w K mg base CX0 1 C_Book "orders" (spOrdersP K C_Book) := by
  refine T.d_Book_orders.fn fun f fd F => F.ok sc_Book_orders (fun vs H Q E h => ?_) (fun cdv A outer s H vs Q E hr h => ?_)
  · obtain ⟨p, os, rfl, _⟩ := h
    rfl
  · obtain ⟨p, os, rfl, ⟨dx, t, as, h1, h2, h3⟩, kk⟩ := h
    refine ⟨_, (pss_one (ps_ret (pe_fld (pv 0) rfl))), ?_⟩
    exact ⟨_, rfl, p, C_Book, dx, _, _, rfl, h1, T.cl_Book, T.n_Book_listed, rfl, kk t as h2 h3⟩
end

end MF
set_option Elab.async false
set_option linter.all false
set_option maxRecDepth 100000
set_option maxHeartbeats 2000000
set_option pp.maxSteps 600
namespace MF
open PySem PySem.Spec PyProof.Rows L2 StX
section
variable {P : Program} {w : World} {K : PySem.W.Frag} {mg : Str → Option Value} {base : Heap} {C_Book C_Letter C_Decoder C_MailError C_InvalidOrder C_UnknownOrder C_InvalidAddress C_InvalidDay C_InvalidNumber C_NotationError C_InvalidCount C_DecodeError : Addr}
def spBookLen (K : PySem.W.Frag) (C : Addr) : Sp := fun vs H Q _ => ∃ p os, vs = [.ref p] ∧ BookAt K C H p os ∧ Q (.int (os.length : Nat)) H
theorem ok_book_len (T : Top K mg C_Book C_Letter C_Decoder C_MailError C_InvalidOrder C_UnknownOrder C_InvalidAddress C_InvalidDay C_InvalidNumber C_NotationError C_InvalidCount C_DecodeError) : MFn P w K mg base CX0 1 C_Book "__len__" (spBookLen K C_Book) := by
  refine T.d_BookX_lenX.fn fun f fd F => F.ok sc_BookX_lenX (fun vs H Q E h => ?_) (fun cdv A outer s H vs Q E hr h => ?_)
  · obtain ⟨p, os, rfl, _⟩ := h
    rfl
  · obtain ⟨p, os, rfl, ⟨dx, t, as, h1, h2, h3⟩, k⟩ := h
    refine ⟨_, (pss_one (ps_ret (pe_callB call_len_seq (by rfl) T.b_len (by decide +kernel) (pa_cons (pe_fld (pv 0) rfl) pa_nil)))), ?_⟩
    have hl : as.length = os.length := PySem.Paired.length h3
    refine ⟨_, rfl, p, C_Book, dx, _, _, rfl, h1, T.cl_Book, T.n_Book_listed, rfl, t, _, rfl, .inr h2, ?_⟩
    rw [List.length_map, hl]
    exact k
def spBookAt (K : PySem.W.Frag) (C : Addr) : Sp := fun vs H Q _ => ∃ p os o, ∃ i : Nat, vs = [.ref p, .int (i : Nat)] ∧ BookAt K C H p os ∧ os[i]? = some o ∧ ∀ a, OrdAt K H a o → Q (.ref a) H
def spCheckOrd (K : PySem.W.Frag) (C : Addr) : Sp := fun vs H Q _ => ∃ p os, ∃ i : Nat, vs = [.ref p, .int (i : Nat)] ∧ BookAt K C H p os ∧ i < os.length ∧ Q .non H
theorem ok_check_order (T : Top K mg C_Book C_Letter C_Decoder C_MailError C_InvalidOrder C_UnknownOrder C_InvalidAddress C_InvalidDay C_InvalidNumber C_NotationError C_InvalidCount C_DecodeError) : MFn P w K mg base CX0 2 C_Book "check_order" (spCheckOrd K C_Book) := by
  have G_is_integer : GFn P w K mg base CX0 1 "is_integer" spIsInteger := ok_is_integer T
  refine T.d_Book_check_order.fn fun f fd F => F.ok sc_Book_check_order (fun vs H Q E h => ?_) (fun cdv A outer s H vs Q E hr h => ?_)
  · obtain ⟨p, os, i, rfl, _⟩ := h
    rfl
  · obtain ⟨p, os, i, rfl, ⟨dx, t, as, h1, h2, h3⟩, hi, k⟩ := h
    refine ⟨_, (pss_one (ps_if (pt_not (pt_val (pe_g G_is_integer (hr.mono (by decide)) (pa_cons (pv 1) (pa_cons pe_int (pa_cons (pe_op op_sub (pe_callB call_len_seq (by rfl) T.b_len (by decide +kernel) (pa_cons (pe_fld (pv 0) rfl) pa_nil)) pe_int) pa_nil))))))
  (pss_one ps_never)
  pss_nil)), ?_⟩
    have hl : as.length = os.length := PySem.Paired.length h3
    refine ⟨_, rfl, _, rfl, p, C_Book, dx, _, _, rfl, h1, T.cl_Book, T.n_Book_listed, rfl, t, _, rfl, .inr h2, _, _, rfl, rfl, _, _, _, rfl, rfl, _, rfl, ?_⟩
    have e : isIntB (.int (i : Nat)) 0 (((as.map V.ref).length : Nat) - 1) = true := by
      rw [List.length_map, hl]
      have h1 : (0 : Int) ≤ (i : Nat) := by omega
      have h2 : ((i : Nat) : Int) ≤ (os.length : Nat) - 1 := by omega
      simp [isIntB, h1, h2]
    rw [e]
    exact iteF k
end

end MF
set_option Elab.async false
set_option linter.all false
set_option maxRecDepth 100000
set_option maxHeartbeats 2000000
set_option pp.maxSteps 600
namespace MF
open PySem PySem.Spec PyProof.Rows L2 StX
section
variable {P : Program} {w : World} {K : PySem.W.Frag} {mg : Str → Option Value} {base : Heap} {C_Book C_Letter C_Decoder C_MailError C_InvalidOrder C_UnknownOrder C_InvalidAddress C_InvalidDay C_InvalidNumber C_NotationError C_InvalidCount C_DecodeError : Addr}
theorem kA_tuple : PySem.W.kitAny K (.type "tuple") [.type "tuple", .type "list"] = some true := kitAny_cons kt_tuple_tuple (fun z => by cases z) (fun _ => rfl)
theorem kA_list : PySem.W.kitAny K (.type "list") [.type "tuple", .type "list"] = some true := kitAny_cons kt_list_tuple (fun _ => kitAny_cons kt_list_list (fun z => by cases z) (fun _ => rfl)) (fun z => by cases z)
theorem kA_int : PySem.W.kitAny K (.type "int") [.type "tuple", .type "list"] = some false := kitAny_cons kt_int_tuple (fun _ => kitAny_cons kt_int_list (fun _ => kitAny_nil) (fun z => by cases z)) (fun z => by cases z)
theorem kA_bool : PySem.W.kitAny K (.type "bool") [.type "tuple", .type "list"] = some false := kitAny_cons kt_bool_tuple (fun _ => kitAny_cons kt_bool_list (fun _ => kitAny_nil) (fun z => by cases z)) (fun z => by cases z)
theorem kA_str : PySem.W.kitAny K (.type "str") [.type "tuple", .type "list"] = some false := kitAny_cons kt_str_tuple (fun _ => kitAny_cons kt_str_list (fun _ => kitAny_nil) (fun z => by cases z)) (fun z => by cases z)
theorem kA_none : PySem.W.kitAny K (.type "NoneType") [.type "tuple", .type "list"] = some false := kitAny_cons kt_NoneType_tuple (fun _ => kitAny_cons kt_NoneType_list (fun _ => kitAny_nil) (fun z => by cases z)) (fun z => by cases z)
theorem canLay_mem {d : PyData} : ∀ {ds : List PyData}, PyData.canLayAll0 ds = true → d ∈ ds → d.canLay0 = true
  | [], _, h => by cases h
  | e :: ds, c, h => by
    simp only [PyData.canLayAll0, Bool.and_eq_true] at c
    rcases List.mem_cons.mp h with rfl | h
    · exact c.1
    · exact canLay_mem c.2 h
theorem depth_mem {d : PyData} : ∀ {ds : List PyData}, d ∈ ds → d.depth ≤ PyData.depthAll ds
  | [], h => by cases h
  | e :: ds, h => by
    rw [PyData.depthAll]
    rcases List.mem_cons.mp h with rfl | h
    · exact Nat.le_max_left _ _
    · exact Nat.le_trans (depth_mem h) (Nat.le_max_right _ _)
theorem DpAll.get {H : Hp} : ∀ {xs : List V} {ds : List PyData} {i : Nat} {x : V}, DpAll K H xs ds → xs[i]? = some x → ∃ d, ds[i]? = some d ∧ Dp K H x d
  | _, _, _, _, .nil, e => by simp at e
  | _, _, 0, _, .cons h _, e => by simp at e; subst e; exact ⟨_, rfl, h⟩
  | _, _, i + 1, _, .cons _ t, e => by
    obtain ⟨d, h1, h2⟩ := DpAll.get (i := i) t (by simpa using e)
    exact ⟨d, by simpa using h1, h2⟩
theorem DpAll.len {H : Hp} : ∀ {xs : List V} {ds : List PyData}, DpAll K H xs ds → xs.length = ds.length
  | _, _, .nil => rfl
  | _, _, .cons _ t => by simp [DpAll.len t]
mutual
theorem Dp.mono {H H' : Hp} (s : Same H H') : ∀ {x : V} {d : PyData}, Dp K H x d → Dp K H' x d
  | _, _, .non => .non
  | _, _, .bl b => .bl b
  | _, _, .int i => .int i
  | _, _, .str x => .str x
  | _, _, .lst h a => .lst (s.seq h) (DpAll.mono s a)
  | _, _, .tup h a => .tup (MF.Same.tup s h) (DpAll.mono s a)
theorem DpAll.mono {H H' : Hp} (s : Same H H') : ∀ {xs : List V} {ds : List PyData}, DpAll K H xs ds → DpAll K H' xs ds
  | _, _, .nil => .nil
  | _, _, .cons h t => .cons (Dp.mono s h) (DpAll.mono s t)
end
mutual
def smallD : PyData → Bool
  | .list ds | .tuple ds => decide (ds.length ≤ 1000000) && smallAll ds
  | .none | .bool _ | .int _ | .str _ => true
  | .dict _ => false
def smallAll : List PyData → Bool
  | [] => true
  | d :: ds => smallD d && smallAll ds
end
theorem small_mem {d : PyData} : ∀ {ds : List PyData}, smallAll ds = true → d ∈ ds → smallD d = true
  | [], _, h => by cases h
  | e :: ds, c, h => by
    simp only [smallAll, Bool.and_eq_true] at c
    rcases List.mem_cons.mp h with rfl | h
    · exact c.1
    · exact small_mem c.2 h
def spAlike (K : PySem.W.Frag) (n : Nat) : Sp := fun vs H Q _ => ∃ x y d, vs = [x, y] ∧ Dp K H x d ∧ Dp K H y d ∧ d.canLay0 = true ∧ d.depth ≤ n ∧ smallD d = true ∧ ∀ H', Same H H' → Q (.bl true) H'
def SeqAt' (K : PySem.W.Frag) (H : Hp) (a : Addr) (tp : Bool) (xs : List V) : Prop := if tp = true then SqT K H a xs else SqL K H a xs
theorem SeqAt'.mono {H H' : Hp} {a : Addr} {tp : Bool} {xs : List V} (s : Same H H') (h : SeqAt' K H a tp xs) : SeqAt' K H' a tp xs := by
  cases tp
  · exact s.seq h
  · exact MF.Same.tup s h
theorem SeqAt'.ty {H : Hp} {a : Addr} {tp : Bool} {xs : List V} (h : SeqAt' K H a tp xs) : TyX K H (.ref a) (.type (if tp = true then "tuple" else "list")) := by
  cases tp
  · exact tyL h
  · exact tyT h
theorem SeqAt'.ix {H : Hp} {a : Addr} {tp : Bool} {xs : List V} {i : Nat} {v : V} {Q : VK} (h : SeqAt' K H a tp xs) (e : xs[i]? = some v) (q : Q v H) : rIx K (.ref a) (.int (0 + (i : Int))) H Q := by
  rw [Int.zero_add]
  cases tp
  · exact .inl ⟨a, xs, _, v, rfl, rfl, h, atI_nat e, q⟩
  · exact .inr (.inl ⟨a, xs, _, v, rfl, rfl, h, atI_nat e, q⟩)
theorem SeqAt'.len {H : Hp} {a : Addr} {tp : Bool} {xs : List V} (h : SeqAt' K H a tp xs) : SqL K H a xs ∨ SqT K H a xs := by
  cases tp
  · exact .inl h
  · exact .inr h
theorem kA_seq (tp : Bool) : PySem.W.kitAny K (.type (if tp = true then "tuple" else "list")) [.type "tuple", .type "list"] = some true := by
  cases tp
  · exact kA_list
  · exact kA_tuple
theorem kt_seq (tp : Bool) : PySem.W.kitOne K (.type (if tp = true then "tuple" else "list")) (.type "tuple") = some tp := by
  cases tp
  · exact kt_list_tuple
  · exact kt_tuple_tuple
def spAl (K : PySem.W.Frag) : Nat → Sp
  | 0 => fun _ _ _ _ => False
  | m + 1 => spAlike K m
theorem alike_cases {H : Hp} {x y : V} {d : PyData} {n : Nat} (hx : Dp K H x d) (hy : Dp K H y d) (cl : d.canLay0 = true) (dp : d.depth ≤ n) (sm : smallD d = true) :
    (∃ T1 b, y = x ∧ (∀ H', TyX K H' x (.type T1)) ∧ PySem.W.kitAny K (.type T1) [.type "tuple", .type "list"] = some false ∧ scal x x = true ∧ PySem.W.kitOne K (.type T1) (.type "bool") = some b) ∨
    (∃ a a' tp xs ys ds, x = .ref a ∧ y = .ref a' ∧ SeqAt' K H a tp xs ∧ SeqAt' K H a' tp ys ∧ DpAll K H xs ds ∧ DpAll K H ys ds ∧ PyData.canLayAll0 ds = true ∧ PyData.depthAll ds + 1 ≤ n ∧ ds.length ≤ 1000000 ∧ smallAll ds = true) := by
  cases hx with
  | non => cases hy; exact .inl ⟨"NoneType", _, rfl, fun _ => .base .non, kA_none, rfl, kt_NoneType_bool⟩
  | bl b => cases hy; exact .inl ⟨"bool", _, rfl, fun _ => .base (.bl b), kA_bool, rfl, kt_bool_bool⟩
  | int i => cases hy; exact .inl ⟨"int", _, rfl, fun _ => .base (.int i), kA_int, rfl, kt_int_bool⟩
  | str z => cases hy; exact .inl ⟨"str", _, rfl, fun _ => .base (.str z), kA_str, rfl, kt_str_bool⟩
  | lst h1 a1 =>
    cases hy with
    | lst h2 a2 =>
      simp only [smallD, Bool.and_eq_true, decide_eq_true_eq] at sm
      exact .inr ⟨_, _, false, _, _, _, rfl, rfl, h1, h2, a1, a2, cl, dp, sm.1, sm.2⟩
  | tup h1 a1 =>
    cases hy with
    | tup h2 a2 =>
      simp only [smallD, Bool.and_eq_true, decide_eq_true_eq] at sm
      exact .inr ⟨_, _, true, _, _, _, rfl, rfl, h1, h2, a1, a2, cl, dp, sm.1, sm.2⟩
end

end MF
set_option Elab.async false
set_option linter.all false
set_option maxRecDepth 100000
set_option maxHeartbeats 2000000
set_option pp.maxSteps 600
namespace MF
open PySem PySem.Spec PyProof.Rows L2 StX
section
variable {P : Program} {w : World} {K : PySem.W.Frag} {mg : Str → Option Value} {base : Heap} {C_Book C_Letter C_Decoder C_MailError C_InvalidOrder C_UnknownOrder C_InvalidAddress C_InvalidDay C_InvalidNumber C_NotationError C_InvalidCount C_DecodeError : Addr}
def RK : Err → Prop
  | .order _ => True
  | _ => False
end

end MF
set_option Elab.async false
set_option linter.all false
set_option maxRecDepth 100000
set_option maxHeartbeats 2000000
set_option pp.maxSteps 600
namespace MF
open PySem PySem.Spec PyProof.Rows L2 StX
section
variable {P : Program} {w : World} {K : PySem.W.Frag} {mg : Str → Option Value} {base : Heap} {C_Book C_Letter C_Decoder C_MailError C_InvalidOrder C_UnknownOrder C_InvalidAddress C_InvalidDay C_InvalidNumber C_NotationError C_InvalidCount C_DecodeError : Addr}
theorem tabs_keepR {T : List (Addr × Str)} {H H' : Hp} {rw sc : Addr} {ns : List Int} (R : RowAt K H rw sc ns) (t : LamX.Tabs T H) (k : KeepR rw H H') : LamX.Tabs T H' := fun p hp => by
  obtain ⟨xs, hr⟩ := R.ex
  obtain ⟨ps, h1, h2, h3⟩ := t p hp
  have ne : ∀ {b : Addr} {o : HO}, H b = some o → (∀ l, o ≠ .lst l) → H' b = some o := fun {b o} e n => k _ _ e fun z => by
    rw [z, hr] at e
    cases e
    exact n _ rfl
  refine ⟨ps, ne h1 (fun l z => by cases z), h2, fun pos cv hc => ?_⟩
  obtain ⟨c, e1, e2⟩ := h3 pos cv hc
  exact ⟨c, e1, ne e2 (fun l z => by cases z)⟩
theorem row_nil {H : Hp} {rw sc r : Addr} {ns : List Int} (R : RowAt K H rw sc ns) (z : H r = none) : r ≠ rw := fun e => by
  obtain ⟨xs, q⟩ := R.ex
  rw [← e, z] at q
  cases q
theorem row_extN {H H' : Hp} {rw sc : Addr} {ns : List Int} (R : RowAt K H rw sc ns) (e : LamX.ExtN H H') : RowAt K H' rw sc ns := by
  obtain ⟨j, m, r, h1, h2, h3⟩ := R
  refine ⟨j, m, r, e _ _ h1 (fun ps z => by cases z), ?_, h3⟩
  rcases h2 with ⟨h | ⟨o, h⟩, n⟩ | h
  · exact .inl ⟨.inl (e _ _ h (fun ps z => by cases z)), n⟩
  · exact .inl ⟨.inr ⟨o, e _ _ h (fun ps z => by cases z)⟩, n⟩
  · exact .inr h
theorem book_extN {C : Addr} {H H' : Hp} {p : Addr} {os : List Ordr} (h : BookAt K C H p os) (e : LamX.ExtN H H') : BookAt K C H' p os := by
  have h0 := h
  obtain ⟨dx, t, as, h1, _, _⟩ := h0
  refine h.kept (fun u hu => e _ _ hu (fun ps z => ?_)) (fun b u hu y => e _ _ hu (fun ps z => by rw [z] at y; cases y))
  rw [h1, Option.some.injEq] at hu
  rw [← hu] at z
  cases z
theorem tabs_but {T : List (Addr × Str)} {H H' : Hp} {lw : Addr} {xs : List V} (hr : H lw = some (.lst xs)) (t : LamX.Tabs T H) (k : ∀ b u, H b = some u → b ≠ lw → H' b = some u) : LamX.Tabs T H' := fun p hp => by
  obtain ⟨ps, h1, h2, h3⟩ := t p hp
  have ne : ∀ {b : Addr} {o : HO}, H b = some o → (∀ l, o ≠ .lst l) → H' b = some o := fun {b o} e n => k _ _ e fun z => by
    rw [z, hr] at e
    cases e
    exact n _ rfl
  refine ⟨ps, ne h1 (fun l z => by cases z), h2, fun pos cv hc => ?_⟩
  obtain ⟨c, e1, e2⟩ := h3 pos cv hc
  exact ⟨c, e1, ne e2 (fun l z => by cases z)⟩
theorem updS {H H2 : Hp} {q : Addr} {o : HO} (e : L2.upd H q o = H2) : (∀ b u, H b = some u → b ≠ q → H2 b = some u) ∧ H2 q = some o := by
  subst e
  exact ⟨fun b u h n => by rw [upd_ne n]; exact h, upd_same⟩
theorem upT {H H2 : Hp} {q : Addr} {xs : List V} (hq : H q = some (.lst xs)) (up : ∀ b u, H b = some u → b ≠ q → H2 b = some u) : ∀ b u, H b = some u → tupl u = true → H2 b = some u := fun b u e y => up _ _ e fun z => by
  rw [z, hq] at e
  cases e
  cases y
theorem keepR_ord {H H' : Hp} {rw sc : Addr} {ns : List Int} (R : RowAt K H rw sc ns) (k : ∀ b u, H b = some u → b ≠ rw → H' b = some u) {q : Addr} {o : Ordr} (h : OrdAt K H q o) : OrdAt K H' q o := by
  have : OrdsAt K H [q] [o] := .cons h .nil
  cases this.keepR (KeepR.tup k R) with
  | cons a _ => exact a
theorem ord_but {H H' : Hp} {q : Addr} {o : Ordr} (h : OrdAt K H q o) (k : ∀ b u, H b = some u → tupl u = true → H' b = some u) : OrdAt K H' q o := by
  have : OrdsAt K H [q] [o] := .cons h .nil
  cases this.keepR k with
  | cons a _ => exact a
theorem sq_extN {H H' : Hp} {l : Addr} {xs : List V} (h : SqL K H l xs) (e : LamX.ExtN H H') : SqL K H' l xs := by
  rcases h with (h | ⟨o, h⟩) | h
  · exact .inl (.inl (e _ _ h fun ps z => by cases z))
  · exact .inl (.inr ⟨o, e _ _ h fun ps z => by cases z⟩)
  · exact .inr h
theorem ords_extN {H H' : Hp} {as : List Addr} {os : List Ordr} (h : OrdsAt K H as os) (e : LamX.ExtN H H') : OrdsAt K H' as os := h.keepR fun b u hu y => e _ _ hu fun ps z => by rw [z] at y; cases y
def lawQ : Str := "law.<locals>.<lambda>"
end

end MF
set_option Elab.async false
set_option linter.all false
set_option maxRecDepth 100000
set_option maxHeartbeats 2000000
set_option pp.maxSteps 600
namespace MF
open PySem PySem.Spec PyProof.Rows L2 StX
section
variable {P : Program} {w : World} {K : PySem.W.Frag} {mg : Str → Option Value} {base : Heap} {C_Book C_Letter C_Decoder C_MailError C_InvalidOrder C_UnknownOrder C_InvalidAddress C_InvalidDay C_InvalidNumber C_NotationError C_InvalidCount C_DecodeError : Addr}
def NewI (H H' : Hp) (l : Addr) (ns : List Int) : Prop := Same H H' ∧ H l = none ∧ H' l = some (.lst (ns.map V.int))
def spNumVals (K : PySem.W.Frag) : Sp := fun vs H Q _ => ∃ n : Nat, vs = [.int (n : Nat)] ∧ n < 128 ^ 9 ∧ ∀ H' l, NewI H H' l (numG n) → Q (.ref l) H'
theorem ok_number_values (T : Top K mg C_Book C_Letter C_Decoder C_MailError C_InvalidOrder C_UnknownOrder C_InvalidAddress C_InvalidDay C_InvalidNumber C_NotationError C_InvalidCount C_DecodeError) : GFn P w K mg base CX0 1 "number_values" (spNumVals K) := by
  refine T.d_number_values.fn fun f fd F => F.ok sc_number_values (fun vs H Q E h => ?_) (fun cdv A outer s H vs Q E hr h => ?_)
  · obtain ⟨n, rfl, _⟩ := h
    rfl
  · obtain ⟨n, rfl, hn, kk⟩ := h
    refine ⟨_, (pss_cons (ps_set (i := 1) sc_number_values.nd rfl (Or.inl rfl) (pe_lst pa_nil))
  (pss_cons (ps_while PassesOwn.never (pt_cmpR op_ge (pv 0) (pe_gint T.c_GROUP) (nomark _))
  (pss_cons (ps_expr (pe_bm PySem.F.plainAttrs_list PySem.F.slot_list_append PySem.F.type_list_append mt_append (pv 1) (pa_cons (pe_op op_add (pe_gint T.c_GROUP) (pe_op op_mod (pe_callTy call_int1 (by rfl) T.b_int (by decide +kernel) (pa_cons (pv 0) pa_nil)) (pe_gint T.c_GROUP))) pa_nil)))
  (pss_one (ps_aug (i := 0) sc_number_values.nd rfl (Or.inl rfl) (pe_gint T.c_GROUP) ip_floordiv))))
  (pss_one (ps_ret (pe_lst (pa_star (pv 1) (pa_cons (pv 0) pa_nil))))))), ?_⟩
    refine ⟨Nat.zero_le _, ?_⟩
    intro l hl
    generalize gH1 : L2.upd _ l _ = H1
    obtain ⟨s1, e1⟩ := newS hl gH1
    clear gH1
    let W : Nat → L2.St → Hp → Prop := fun m σ H' => ∃ (pre : List Int), (∀ b u, H b = some u → H' b = some u) ∧ H' l = some (.lst (pre.map V.int)) ∧ pre ++ numG m = numG n ∧ σ = [some (.int (m : Nat)), some (.ref l)]
    refine ⟨W, ⟨n, [], s1, e1, rfl, rfl⟩, ?_⟩
    rintro m σ H2 ⟨pre, k2, e2, ep, rfl⟩
    have lp : pre.length ≤ 9 := by
      have := numG_len 8 n hn
      rw [← ep, List.length_append] at this
      omega
    refine ⟨_, rfl, _, _, rfl, rfl, _, rfl, ?_⟩
    by_cases c : m < 128
    · refine iteDN (by omega) ?_
      refine ⟨_, rfl, l, _, rfl, .inr (SqL.of e2), _, rfl, by rw [List.length_append, List.length_map, sizeLine_eq]; simp only [List.length_cons, List.length_nil]; omega, ?_⟩
      intro q hq
      generalize gH3 : L2.upd _ q _ = H3
      obtain ⟨s3, e3⟩ := newS hq gH3
      clear gH3
      refine kk H3 q ⟨fun b u e => s3 _ _ (k2 _ _ e), ?_, ?_⟩
      · cases z : H q with
        | none => rfl
        | some u => rw [k2 _ _ z] at hq; cases hq
      · rw [e3, ← ep, numG_lt c, List.map_append]
        rfl
    · refine iteD (by omega) ⟨W (m / 128), fun σ' H' w => ⟨m / 128, by omega, w⟩, ?_⟩
      refine ⟨_, rfl, .inl ⟨rfl, _, SqL.of e2⟩, _, rfl, .inl ⟨_, rfl, _, _, rfl, rfl, (by show (0 : Int) < 128; decide), _, _, rfl, rfl, l, _, _, rfl, rfl, e2, by rw [List.length_map, sizeLine_eq]; omega, ?_⟩⟩
      generalize gH3 : L2.upd _ l _ = H3
      obtain ⟨up3, e3⟩ := updS gH3
      clear gH3
      refine ⟨_, rfl, _, _, rfl, rfl, ⟨by decide, by decide⟩, pre ++ [(128 + (m % 128 : Nat) : Int)], fun b u e => up3 _ _ (k2 _ _ e) (ne_of_none e hl), ?_, ?_, ?_⟩
      · rw [e3, List.map_append, show ((m : Int) % 128) = ((m % 128 : Nat) : Int) by omega]
        rfl
      · rw [← ep, numG_ge c, List.append_assoc]
        rfl
      · show [some (V.int ((m : Int) / 128)), some (V.ref l)] = _
        rw [show ((m : Int) / 128) = ((m / 128 : Nat) : Int) by omega]
def spAddrVals (K : PySem.W.Frag) : Sp := fun vs H Q _ => ∃ z, vs = [.str z] ∧ isAddrB (.str z) = true ∧ ∀ H' l, NewI H H' l (addrG z) → Q (.ref l) H'
theorem ok_address_values (T : Top K mg C_Book C_Letter C_Decoder C_MailError C_InvalidOrder C_UnknownOrder C_InvalidAddress C_InvalidDay C_InvalidNumber C_NotationError C_InvalidCount C_DecodeError) : GFn P w K mg base CX0 1 "address_values" (spAddrVals K) := by
  refine T.d_address_values.fn fun f fd F => F.ok sc_address_values (fun vs H Q E h => ?_) (fun cdv A outer s H vs Q E hr h => ?_)
  · obtain ⟨z, rfl, _⟩ := h
    rfl
  · obtain ⟨z, rfl, az, kk⟩ := h
    have zf := addr_facts az
    refine ⟨_, (pss_one (ps_ret (pe_lst (pa_cons (pe_callB call_len_str (by rfl) T.b_len (by decide +kernel) (pa_cons (pv 0) pa_nil)) (pa_star (pe_lc (own := [("letter", 1)]) (g := (gName 1)) (by rfl) sc_address_values.nd (pi_str (pv 0)) (blkOk_by (own := [("letter", 1)]) (N := ["address", "letter"]) (sc := defScope s_address_values) (by decide +kernel)) (fun _ _ _ _ _ => (pg_name (i := 1) sc_address_values.nd rfl (Or.inl rfl))) (fun _ _ _ _ _ => pts_nil) (fun _ _ _ _ _ => (pe_bmK (K := K) PySem.F.plainAttrs_str PySem.F.slot_str_index PySem.F.type_str_index (mt_sindexC _) (pe_gstr T.c_LETTERS) (pa_cons (pv 1) pa_nil)))) pa_nil))))), ?_⟩
    refine ⟨_, rfl, z, rfl, by rw [sizeLine_eq]; omega, ?_⟩
    refine ⟨_, rfl, z, rfl, fun D hD => ?_⟩
    refine lc_it walk_str (fun i H' => Same H H' ∧ H' D = some (.lst (((codes z).take i).map V.int))) ⟨Same.new hD, upd_same⟩ (fun _ _ _ _ => trivial) ?_ ?_
    · rintro i x H1 H2 hi ⟨s1, l1⟩ ⟨rfl, c, hc, rfl⟩
      have hlt : i < z.cps.size := hi
      have e1 : z.cps.toList[i]? = some c := by simpa using hc
      have hz := zf.2.2 c (List.mem_of_getElem? e1)
      refine ⟨rfl, yesT (iteT ?_)⟩
      refine ⟨rfl, _, rfl, c, rfl, rfl, hz.1, hz.2, _, l1, ?_, fun b u e => ?_, ?_⟩
      · rw [List.length_map, List.length_take, codes_len, sizeLine_eq]
        omega
      · rw [upd_ne (ne_of_none e hD)]
        exact s1 _ _ e
      · rw [upd_same, List.take_add_one]
        unfold codes
        rw [List.getElem?_map, e1, List.map_append]
        rfl
    · rintro H1 ⟨s1, l1⟩
      rw [List.take_of_length_le (by rw [codes_len]; exact Nat.le_refl _)] at l1
      refine ⟨D, _, rfl, .inr (SqL.of l1), by simp only [List.length_append, List.length_cons, List.length_nil, List.length_map, codes_len]; rw [sizeLine_eq]; omega, ?_⟩
      intro q hq
      generalize gH3 : L2.upd _ q _ = H3
      obtain ⟨s3, e3⟩ := newS hq gH3
      clear gH3
      refine kk H3 q ⟨s1.trans s3, s1.free hq, ?_⟩
      rw [e3, List.append_nil]
      rfl
def spChk (K : PySem.W.Frag) : Sp := fun vs H Q _ => ∃ l ns, vs = [.ref l] ∧ SqL K H l ((ns : List Int).map V.int) ∧ ns.length ≤ 10000 ∧ Q (.int (chkG ns)) H
theorem ok_chk (T : Top K mg C_Book C_Letter C_Decoder C_MailError C_InvalidOrder C_UnknownOrder C_InvalidAddress C_InvalidDay C_InvalidNumber C_NotationError C_InvalidCount C_DecodeError) : GFn P w K mg base CX0 1 "checksum_of" (spChk K) := by
  refine T.d_checksum_of.fn fun f fd F => F.ok sc_checksum_of (fun vs H Q E h => ?_) (fun cdv A outer s H vs Q E hr h => ?_)
  · obtain ⟨l, ns, rfl, _⟩ := h
    rfl
  · obtain ⟨l, ns, rfl, hl, l0, kk⟩ := h
    refine ⟨_, (pss_cons (ps_set (i := 1) sc_checksum_of.nd rfl (Or.inl rfl) pe_int)
  (pss_cons (ps_for PassesOwn.never rfl (pi_list (pv 0)) (pg_name (i := 2) sc_checksum_of.nd rfl (Or.inl rfl))
  (pss_one (ps_set (i := 1) sc_checksum_of.nd rfl (Or.inl rfl) (pe_op op_mod (pe_callTy call_int1 (by rfl) T.b_int (by decide +kernel) (pa_cons (pe_op op_add (pe_op op_mul (pv 1) pe_int) (pv 2)) pa_nil)) (pe_gint T.c_CHECKSUM_MODULUS)))))
  (pss_one (ps_ret (pv 1))))), ?_⟩
    refine ⟨_, rfl, l, rfl, ⟨_, hl⟩, for_it (walk_list (xs := ns.map V.int)) (fun i σ H' => H' = H ∧ ∃ v2, σ = [some (.ref l), some (.int (chkG (ns.take i))), v2]) ⟨rfl, _, rfl⟩ (fun i σ H' _ p => by rw [p.1]; exact hl) ?_ ?_⟩
    · rintro i y σ H2 H3 hi ⟨rfl, v2, rfl⟩ ⟨rfl, ey⟩
      rw [List.length_map] at hi
      obtain ⟨n, en⟩ : ∃ n, ns[i]? = some n := ⟨_, List.getElem?_eq_getElem hi⟩
      rw [List.getElem?_map, en] at ey
      cases ey
      refine ⟨_, rfl, _, _, rfl, rfl, .inr ⟨by decide, by decide⟩, _, rfl, _, _, rfl, rfl, .inl ⟨_, rfl, _, _, rfl, rfl, (by show (0 : Int) < 241; decide), ?_⟩⟩
      have e : chkG (ns.take (i + 1)) = (chkG (ns.take i) * 2 + n) % 241 := by
        unfold chkG
        rw [List.take_add_one, en, List.foldl_append]
        rfl
      rw [e]
      exact ⟨rfl, _, rfl⟩
    · rintro σ H2 ⟨rfl, v2, rfl⟩
      rw [List.length_map, List.take_length]
      exact ⟨_, rfl, kk⟩
def spEncode (K : PySem.W.Frag) (CB : Addr) : Sp := fun vs H Q _ => ∃ bk os, vs = [.ref bk] ∧ BookAt K CB H bk os ∧ Good os ∧ ∀ H', Same H H' → Q (.byt (byteArr (encG os))) H'
theorem ok_encode (T : Top K mg C_Book C_Letter C_Decoder C_MailError C_InvalidOrder C_UnknownOrder C_InvalidAddress C_InvalidDay C_InvalidNumber C_NotationError C_InvalidCount C_DecodeError) : GFn P w K mg base CX0 3 "encode_book" (spEncode K C_Book) := by
  have PR_Book_orders : PFn P w K mg base CX0 1 C_Book "orders" (spOrdersP K C_Book) := ok_ordersP T
  have G_number_values : GFn P w K mg base CX0 1 "number_values" (spNumVals K) := ok_number_values T
  have G_address_values : GFn P w K mg base CX0 1 "address_values" (spAddrVals K) := ok_address_values T
  have G_checksum_of : GFn P w K mg base CX0 1 "checksum_of" (spChk K) := ok_chk T
  obtain ⟨fl, LF_Book, LM_Book⟩ := (ok_book_len (P := P) (w := w) (base := base) T).ex
  refine T.d_encode_book.fn fun f fd F => F.ok sc_encode_book (fun vs H Q E h => ?_) (fun cdv A outer s H vs Q E hr h => ?_)
  · obtain ⟨bk, os, rfl, _⟩ := h
    rfl
  · obtain ⟨bk, os, rfl, B, g, kk⟩ := h
    refine ⟨_, (pss_cons (ps_set (i := 1) sc_encode_book.nd rfl (Or.inl rfl) (pe_lst (pa_cons (pe_gint T.c_FIRST_BYTE) (pa_cons (pe_callB (cr_lenO LM_Book LF_Book (hr.mono (by decide)) pass0) (by rfl) T.b_len (by decide +kernel) (pa_cons (pv 0) pa_nil)) pa_nil))))
  (pss_cons (ps_for PassesOwn.never rfl (pi_tup (pe_pr PR_Book_orders T.cl_Book (hr.mono (by decide)) (pv 0))) (pg_tup rfl (pgs_cons (pg_name (i := 2) sc_encode_book.nd rfl (Or.inl rfl)) (pgs_cons (pg_name (i := 3) sc_encode_book.nd rfl (Or.inl rfl)) (pgs_cons (pg_name (i := 4) sc_encode_book.nd rfl (Or.inl rfl)) (pgs_cons (pg_name (i := 5) sc_encode_book.nd rfl (Or.inl rfl)) (pgs_cons (pg_name (i := 6) sc_encode_book.nd rfl (Or.inl rfl)) pgs_nil))))))
  (pss_cons (ps_expr (pe_bm PySem.F.plainAttrs_list PySem.F.slot_list_extend PySem.F.type_list_extend mt_extend (pv 1) (pa_cons (pe_lst (pa_star (pe_g G_address_values (hr.mono (by decide)) (pa_cons (pv 2) pa_nil)) (pa_star (pe_g G_address_values (hr.mono (by decide)) (pa_cons (pv 3) pa_nil)) pa_nil))) pa_nil)))
  (pss_one (ps_expr (pe_bm PySem.F.plainAttrs_list PySem.F.slot_list_extend PySem.F.type_list_extend mt_extend (pv 1) (pa_cons (pe_lst (pa_star (pe_g G_number_values (hr.mono (by decide)) (pa_cons (pv 4) pa_nil)) (pa_star (pe_g G_number_values (hr.mono (by decide)) (pa_cons (pe_op op_sub (pv 5) (pv 4)) pa_nil)) (pa_cons (pv 6) pa_nil)))) pa_nil))))))
  (pss_one (ps_ret (pe_callTy (call_bytes_list rfl) (by rfl) T.b_bytes (by decide +kernel) (pa_cons (pe_lst (pa_star (pv 1) (pa_cons (pe_g G_checksum_of (hr.mono (by decide)) (pa_cons (pv 1) pa_nil)) pa_nil))) pa_nil)))))), ?_⟩
    have h30 := g.len
    obtain ⟨dx, t0, as0, hb1, _⟩ := id B
    refine ⟨_, rfl, bk, dx, _, rfl, hb1, bk, os, rfl, B, _, rfl, by omega, ?_⟩
    refine ⟨(by show 2 ≤ sizeLine; decide), ?_⟩
    intro l hl
    generalize gH1 : L2.upd _ l _ = H1
    obtain ⟨s1, e1⟩ := newS hl gH1
    clear gH1
    refine ⟨_, rfl, bk, dx, _, rfl, s1 _ _ hb1, bk, os, rfl, B.mono s1, fun t as ht ho => ?_⟩
    have la := PySem.Paired.length ho
    let acc (i : Nat) : List Int := 77 :: (os.length : Int) :: (os.take i).flatMap ordG
    have lacc : ∀ i, (acc i).length ≤ 2 + 37 * 30 := fun i => by
      have := ords_len (os := os.take i) fun o ho => g.ok o (List.mem_of_mem_take ho)
      have h2 : (os.take i).length ≤ 30 := by rw [List.length_take]; omega
      show ((os.take i).flatMap ordG).length + 1 + 1 ≤ _
      omega
    refine ⟨t, rfl, ⟨_, ht⟩, for_it (walk_tup (xs := as.map V.ref)) (fun i σ H' => (∀ b u, H1 b = some u → b ≠ l → H' b = some u) ∧ H' l = some (.lst ((acc i).map V.int)) ∧ ∃ v2 v3 v4 v5 v6, σ = [some (.ref bk), some (.ref l), v2, v3, v4, v5, v6]) ⟨fun b u e _ => e, e1, _, _, _, _, _, rfl⟩ (fun i σ H' _ p => ?_) ?_ ?_⟩
    · rcases ht with (h | ⟨u, h⟩) | h
      · exact .inl (.inl (p.1 _ _ h (fun w => by rw [w, e1] at h; cases h)))
      · exact .inl (.inr ⟨u, p.1 _ _ h (fun w => by rw [w, e1] at h; cases h)⟩)
      · exact .inr h
    · rintro i y σ H2 H2' hi ⟨k2, e2, v2, v3, v4, v5, v6, rfl⟩ ⟨rfl, ey⟩
      rw [List.length_map] at hi
      obtain ⟨a, ea⟩ : ∃ a, as[i]? = some a := ⟨as[i], List.getElem?_eq_getElem hi⟩
      rw [List.getElem?_map, ea] at ey
      cases ey
      obtain ⟨o, eo, oa⟩ := Paired.get ho ea
      have oa2 : OrdsAt K H2' [a] [o] := OrdsAt.keepR (as := [a]) (os := [o]) (.cons oa .nil) fun b u e y => k2 _ _ e fun w => by
        rw [w, e1] at e
        cases e
        cases y
      have ok := g.ok o (List.mem_of_getElem? eo)
      have f0 := ok.f0
      have fl' := ok.fl
      have lm := ok.lm
      have p9 : (128 : Nat) ^ 9 = 9223372036854775808 := by decide
      obtain ⟨n1, hn1⟩ := Int.eq_ofNat_of_zero_le f0
      obtain ⟨n2, hn2⟩ := Int.eq_ofNat_of_zero_le (show 0 ≤ o.last - o.first by omega)
      cases oa2 with
      | cons oa2 _ =>
      refine ⟨a, _, rfl, oa2, rfl, _, _, rfl, _, _, rfl, _, _, rfl, _, _, rfl, _, _, rfl, rfl, ?_⟩
      have la0 := lacc i
      have la3 := lacc (i + 1)
      have eacc : acc (i + 1) = acc i ++ ordG o := by
        show 77 :: (os.length : Int) :: (os.take (i + 1)).flatMap ordG = 77 :: (os.length : Int) :: ((os.take i).flatMap ordG ++ ordG o)
        rw [List.take_add_one, eo, List.flatMap_append]
        simp
      have lo := ordG_len ok
      have lo1 : (addrG o.src).length ≤ 37 := by unfold ordG at lo; rw [List.length_append, List.length_append] at lo; omega
      have lo2 : (addrG o.tgt).length ≤ 37 := by unfold ordG at lo; rw [List.length_append, List.length_append] at lo; omega
      have lo3 : (numG n1).length ≤ 37 := by unfold ordG at lo; rw [hn1] at lo; simp only [List.length_append] at lo; simp only [Int.toNat_natCast] at lo; omega
      have lo4 : (numG n2).length ≤ 37 := by unfold ordG at lo; rw [hn2] at lo; simp only [List.length_append] at lo; simp only [Int.toNat_natCast] at lo; omega
      have sl := sizeLine_eq
      refine ⟨_, rfl, .inl ⟨rfl, _, SqL.of e2⟩, _, rfl, o.src, rfl, ok.as, fun H3 p3 ⟨s3, f3, e3⟩ => ⟨p3, _, rfl, .inr (SqL.of e3), _, rfl, o.tgt, rfl, ok.at_, fun H4 p4 ⟨s4, f4, e4⟩ => ⟨p4, _, rfl, .inr (SqL.of e4), ?_, ?_⟩⟩⟩
      · simp only [List.length_append, List.length_map, List.length_nil]
        omega
      intro p5 hp5
      generalize gH5 : L2.upd _ p5 _ = H5
      obtain ⟨s5, e5⟩ := newS hp5 gH5
      clear gH5
      have s25 := (s3.trans s4).trans s5
      have e25 := s25 _ _ e2
      refine ⟨l, p5, _, _, rfl, rfl, e25, e5, by simp only [List.length_append, List.length_map, List.length_nil]; omega, ?_⟩
      generalize gH6 : L2.upd _ l _ = H6
      obtain ⟨up6, e6⟩ := updS gH6
      clear gH6
      have k26 : ∀ b u, H2' b = some u → b ≠ l → H6 b = some u := fun b u e n => up6 _ _ (s25 _ _ e) n
      refine ⟨_, rfl, .inl ⟨rfl, _, SqL.of e6⟩, _, rfl, n1, by rw [hn1], by omega, fun H7 p7 ⟨s7, f7, e7⟩ => ⟨p7, _, rfl, .inr (SqL.of e7), _, rfl, _, rfl, _, _, rfl, rfl, n2, by show [V.int (o.last - o.first)] = _; rw [hn2], by omega, fun H8 p8 ⟨s8, f8, e8⟩ => ⟨p8, _, rfl, .inr (SqL.of e8), _, rfl, ?_, ?_⟩⟩⟩
      · simp only [List.length_append, List.length_map, List.length_cons, List.length_nil]
        omega
      intro p9' hp9
      generalize gH9 : L2.upd _ p9' _ = H9
      obtain ⟨s9, e9⟩ := newS hp9 gH9
      clear gH9
      have s69 := (s7.trans s8).trans s9
      refine ⟨l, p9', _, _, rfl, rfl, s69 _ _ e6, e9, by simp only [List.length_append, List.length_map, List.length_cons, List.length_nil]; omega, ?_⟩
      generalize gH10 : L2.upd _ l _ = H10
      obtain ⟨up10, e10⟩ := updS gH10
      clear gH10
      refine ⟨fun b u e n => up10 _ _ (s69 _ _ (k26 _ _ (k2 _ _ e n) n)) n, ?_, _, _, _, _, _, rfl⟩
      rw [e10, eacc]
      unfold ordG
      rw [hn2, hn1]
      simp only [List.map_append, List.append_assoc, List.append_nil, List.map_cons, List.map_nil, List.cons_append, List.nil_append, Int.toNat_natCast]
    · rintro σ H2 ⟨k2, e2, v2, v3, v4, v5, v6, rfl⟩
      rw [List.length_map, la] at e2
      have ea : acc os.length = bodyG os := by
        show 77 :: (os.length : Int) :: (os.take os.length).flatMap ordG = _
        rw [List.take_length]
        rfl
      rw [ea] at e2
      have lb : (bodyG os).length ≤ 1200 := by
        have := encG_len g
        unfold encG at this
        rw [List.length_append] at this
        omega
      refine ⟨_, rfl, l, _, rfl, .inr (SqL.of e2), _, rfl, l, bodyG os, rfl, SqL.of e2, by omega, by simp only [List.length_append, List.length_map, List.length_cons, List.length_nil]; rw [sizeLine_eq]; omega, ?_⟩
      intro q hq
      generalize gH3 : L2.upd _ q _ = H3
      obtain ⟨s3, e3⟩ := newS hq gH3
      clear gH3
      refine ⟨q, encG os, rfl, SqL.of ?_, encG_in g, kk H3 fun b u e => s3 _ _ (k2 _ _ (s1 _ _ e) (ne_of_none e hl))⟩
      rw [e3]
      unfold encG
      rw [List.map_append]
      rfl
def spPack (K : PySem.W.Frag) : Sp := fun vs H Q _ => ∃ l ns, vs = [.ref l] ∧ H l = some (.lst ((ns : List Int).map V.int)) ∧ In8 ns ∧ ns.length ≤ 10000 ∧ ∀ H', Same H H' → Q (.byt (byteArr ns)) H'
theorem ok_pack (T : Top K mg C_Book C_Letter C_Decoder C_MailError C_InvalidOrder C_UnknownOrder C_InvalidAddress C_InvalidDay C_InvalidNumber C_NotationError C_InvalidCount C_DecodeError) : GFn P w K mg base CX0 2 "pack_bytes" (spPack K) := by
  have G_is_integer : GFn P w K mg base CX0 1 "is_integer" spIsInteger := ok_is_integer T
  refine T.d_pack_bytes.fn fun f fd F => F.ok sc_pack_bytes (fun vs H Q E h => ?_) (fun cdv A outer s H vs Q E hr h => ?_)
  · obtain ⟨l, ns, rfl, _⟩ := h
    rfl
  · obtain ⟨l, ns, rfl, hl, h8, l0, kk⟩ := h
    refine ⟨_, (pss_cons (ps_if (PW.pt (pw_or (pt_not (pt_val (pe_callB call_isi (by rfl) T.b_isinstance (by decide +kernel) (pa_cons (pv 0) (pa_cons (pe_bltn (v := .ty "list") (by rfl) T.b_list (by decide +kernel) rfl) pa_nil))))) (pw_or1 (pt_not (pt_val (pe_callB (cr_all rfl) (by rfl) T.b_all (by decide +kernel) (pa_cons (pe_lc (own := [("value", 1)]) (g := (gName 1)) (by rfl) sc_pack_bytes.nd (pi_list (pv 0)) (blkOk_by (own := [("value", 1)]) (N := ["values", "value"]) (sc := defScope s_pack_bytes) (by decide +kernel)) (fun _ _ _ _ _ => (pg_name (i := 1) sc_pack_bytes.nd rfl (Or.inl rfl))) (fun _ _ _ _ _ => pts_nil) (fun _ _ _ _ _ => (pe_g G_is_integer (hr.mono (by decide)) (pa_cons (pv 1) (pa_cons pe_int (pa_cons (pe_op op_sub (pe_gint T.c_BYTE) pe_int) pa_nil)))))) pa_nil)))))))
  (pss_one ps_never)
  pss_nil)
  (pss_one (ps_ret (pe_callTy (call_bytes_list rfl) (by rfl) T.b_bytes (by decide +kernel) (pa_cons (pv 0) pa_nil))))), ?_⟩
    refine ⟨_, rfl, _, _, _, _, true, rfl, .ty "list", .base (.lst hl), kt_list_list, _, rfl, ?_⟩
    refine iteF ?_
    refine ⟨_, rfl, l, rfl, ⟨_, SqL.of hl⟩, fun D hD => ?_⟩
    refine lc_it (walk_list (xs := ns.map V.int)) (fun i H' => Same H H' ∧ H' D = some (.lst (List.replicate i (V.bl true)))) ⟨Same.new hD, upd_same⟩ (fun i H' _ p => SqL.of (p.1 _ _ hl)) ?_ ?_
    · rintro i y H2 H3 hi ⟨s2, c2⟩ ⟨rfl, ey⟩
      rw [List.length_map] at hi
      obtain ⟨n, en⟩ : ∃ n, ns[i]? = some n := ⟨_, List.getElem?_eq_getElem hi⟩
      rw [List.getElem?_map, en] at ey
      cases ey
      have hn := h8 n (List.mem_of_getElem? en)
      refine ⟨rfl, yesT (iteT ?_)⟩
      refine ⟨_, rfl, _, _, rfl, rfl, _, _, _, rfl, rfl, ?_⟩
      have e : isIntB (.int n) 0 (256 - 1) = true := by
        show (decide (0 ≤ n) && decide (n ≤ 256 - 1)) = true
        rw [decide_eq_true hn.1, decide_eq_true (by omega)]
        rfl
      rw [e]
      refine ⟨_, c2, by rw [List.length_replicate, sizeLine_eq]; omega, fun b u e => ?_, ?_⟩
      · rw [upd_ne (ne_of_none e hD)]
        exact s2 _ _ e
      · rw [upd_same, ← List.replicate_succ']
    · rintro H2 ⟨s2, c2⟩
      rw [List.length_map] at c2
      refine ⟨D, List.replicate ns.length true, rfl, SqL.of (by rw [c2, List.map_replicate]), ?_⟩
      have ea : (List.replicate ns.length true).all id = true := by
        rw [List.all_eq_true]
        intro b hb
        rw [(List.mem_replicate.mp hb).2]
        rfl
      rw [ea]
      exact ⟨_, rfl, iteF ⟨_, rfl, l, ns, rfl, SqL.of (s2 _ _ hl), h8, kk _ s2⟩⟩
def spUnpack : Sp := fun vs H Q _ => ∃ ns, vs = [.byt (byteArr ns)] ∧ In8 ns ∧ ns.length ≤ 10000 ∧ ∀ H' l, NewI H H' l ns → Q (.ref l) H'
theorem ok_unpack (T : Top K mg C_Book C_Letter C_Decoder C_MailError C_InvalidOrder C_UnknownOrder C_InvalidAddress C_InvalidDay C_InvalidNumber C_NotationError C_InvalidCount C_DecodeError) : GFn P w K mg base CX0 1 "unpack_bytes" spUnpack := by
  refine T.d_unpack_bytes.fn fun f fd F => F.ok sc_unpack_bytes (fun vs H Q E h => ?_) (fun cdv A outer s H vs Q E hr h => ?_)
  · obtain ⟨ns, rfl, _⟩ := h
    rfl
  · obtain ⟨ns, rfl, h8, l0, kk⟩ := h
    refine ⟨_, (pss_one (ps_ret (pe_listOfB rfl (by rfl) T.b_list (pv 0)))), ?_⟩
    refine ⟨_, rfl, _, rfl, by rw [byteArr_size, sizeLine_eq]; omega, ?_⟩
    intro q hq
    generalize gH1 : L2.upd _ q _ = H1
    obtain ⟨s1, e1⟩ := newS hq gH1
    clear gH1
    refine kk H1 q ⟨s1, hq, ?_⟩
    rw [e1, bi_arr h8]
end

end MF
set_option Elab.async false
set_option linter.all false
set_option maxRecDepth 100000
set_option maxHeartbeats 2000000
set_option pp.maxSteps 600
namespace MF
open PySem PySem.Spec PyProof.Rows L2 StX
section
variable {P : Program} {w : World} {K : PySem.W.Frag} {mg : Str → Option Value} {base : Heap} {C_Book C_Letter C_Decoder C_MailError C_InvalidOrder C_UnknownOrder C_InvalidAddress C_InvalidDay C_InvalidNumber C_NotationError C_InvalidCount C_DecodeError : Addr}
theorem fmtD (k : Nat) (h : k ≤ 100000) : FmtOk (.int (k : Nat)) := by
  show ((k : Int)).natAbs.log2 < 1920
  rw [Int.natAbs_natCast]
  by_cases c : k = 0
  · subst c; decide
  · have := (Nat.log2_lt (n := k) (k := 20) c).mpr (by omega)
    omega
theorem ok_DecodeError (T : Top K mg C_Book C_Letter C_Decoder C_MailError C_InvalidOrder C_UnknownOrder C_InvalidAddress C_InvalidDay C_InvalidNumber C_NotationError C_InvalidCount C_DecodeError) : EFn P w K mg base CX0 1 C_DecodeError "DecodeError" ["self", "offset"] (spE1 K C_DecodeError "offset") := by
  refine T.d_DecodeErrorX_initX.fn fun f fd F => F.ok sc_DecodeErrorX_initX (fun vs H Q E h => ?_) (fun cdv A outer s H vs Q E hr h => ?_)
  · obtain ⟨a, v, rfl, _⟩ := h
    rfl
  · obtain ⟨a, v, rfl, hf, ha, k⟩ := h
    refine ⟨_, (pss_cons (ps_expr (pe_binit rfl T.g_MailError T.base_MailError (pa_cons (pv 0) (pa_cons (pe_joined (PJ.cons pe_str (PJ.cons (pe_fmtV (pv 1)) PJ.nil))) pa_nil))))
  (pss_one (ps_ost (pv 0) (pv 1)))), ?_⟩
    have ox := T.d_DecodeErrorX_initX.ox
    refine ⟨_, rfl, _, rfl, ?_, _, rfl, hf, fun y hy => ⟨_, rfl, ?_, ?_⟩⟩
    · decide +kernel
    · rw [Str.length_append]
      have : (Str.empty ++ ("invalid byte at offset " : Str)).length = 23 := by decide +kernel
      rw [this, sizeLine_eq]
      omega
    refine ⟨a, C_DecodeError, [.str _], rfl, by simp, ox, ha, ?_⟩
    exact ⟨_, rfl, _, rfl, a, C_DecodeError, rfl, ox, T.na_DecodeError_offset, .inl ⟨ha, fun dx hd ne => k dx hd ne⟩⟩
def dcf (ns : List Int) (k : Nat) : List (Str × V) := [("data", .byt (byteArr ns)), ("offset", .int (k : Nat))]
structure DecAt (CD p : Addr) (ns : List Int) (k : Nat) (H : Hp) : Prop where
  ins : ∃ dx, H p = some (.ins CD dx (dcf ns k))
  le : k ≤ ns.length
def RdX {α : Type} (c : Cls5) (CD p : Addr) (ns : List Int) (H : Hp) (Q : VK) (E : XK) (val : α → V → Hp → Prop) : Except Nat (α × Nat) → Prop
  | .error e => ∀ H' cls d, (∀ b u, H b = some u → b ≠ p → H' b = some u) → ErrAt c cls d H' (.decode (.int (e : Nat))) → E cls d H'
  | .ok (a, k) => ∀ H' v, DecAt CD p ns k H' → (∀ b u, H b = some u → b ≠ p → H' b = some u) → val a v H' → Q v H'
theorem RdX.from {α : Type} {c : Cls5} {CD p : Addr} {ns : List Int} {H H' : Hp} {Q : VK} {E : XK} {val : α → V → Hp → Prop} {r : Except Nat (α × Nat)} (h : RdX c CD p ns H Q E val r) (k : ∀ b u, H b = some u → b ≠ p → H' b = some u) : RdX c CD p ns H' Q E val r := by
  cases r with
  | error e => exact fun H2 cls d k2 er => h H2 cls d (fun b u e n => k2 _ _ (k _ _ e n) n) er
  | ok x => exact fun H2 v dk k2 hv => h H2 v dk (fun b u e n => k2 _ _ (k _ _ e n) n) hv
def spDecInit (CD : Addr) : Sp := fun vs H Q _ => ∃ p dx ns, vs = [.ref p, .byt (byteArr ns)] ∧ H p = some (.ins CD dx []) ∧ ∀ H', DecAt CD p ns 0 H' → (∀ b u, H b = some u → b ≠ p → H' b = some u) → Q .non H'
theorem ok_Decoder (T : Top K mg C_Book C_Letter C_Decoder C_MailError C_InvalidOrder C_UnknownOrder C_InvalidAddress C_InvalidDay C_InvalidNumber C_NotationError C_InvalidCount C_DecodeError) : IFn P w K mg base CX0 1 C_Decoder "Decoder" (spDecInit C_Decoder) := by
  refine T.d_DecoderX_initX.fn fun f fd F => F.ok sc_DecoderX_initX (fun vs H Q E h => ?_) (fun cdv A outer s H vs Q E hr h => ?_)
  · obtain ⟨p, dx, ns, rfl, _⟩ := h
    rfl
  · obtain ⟨p, dx, ns, rfl, hp, kk⟩ := h
    refine ⟨_, (pss_cons (ps_fld (pv 0) (pv 1) rfl)
  (pss_one (ps_fld (pv 0) pe_int rfl))), ?_⟩
    refine ⟨_, rfl, _, rfl, p, C_Decoder, dx, _, rfl, hp, T.cl_Decoder, T.n_Decoder_data, (by show 0 < 1000; decide), ?_⟩
    refine ⟨_, rfl, p, C_Decoder, dx, _, rfl, upd_same, T.cl_Decoder, T.n_Decoder_offset, (by show 1 < 1000; decide), ?_⟩
    rw [upd_upd]
    refine kk _ ⟨⟨dx, upd_same⟩, Nat.zero_le _⟩ fun b u e n => by rw [upd_ne n]; exact e
def intV1 : Int → V → Hp → Prop := fun i v _ => v = .int i
def spTakeB (CD : Addr) (c : Cls5) : Sp := fun vs H Q E => ∃ p ns k lo hi, vs = [.ref p, .int lo, .int hi] ∧ DecAt CD p ns k H ∧ In8 ns ∧ ns.length ≤ 10000 ∧ RdX c CD p ns H Q E intV1 (byteF ns k lo hi)
theorem okX_take_byte (T : Top K mg C_Book C_Letter C_Decoder C_MailError C_InvalidOrder C_UnknownOrder C_InvalidAddress C_InvalidDay C_InvalidNumber C_NotationError C_InvalidCount C_DecodeError) : MFn P w K mg base (L2.CX P w) 3 C_Decoder "take_byte" (spTakeB C_Decoder ⟨C_InvalidOrder, C_UnknownOrder, C_InvalidAddress, C_InvalidDay, C_InvalidNumber, C_MailError, C_MailError, C_MailError, C_MailError, C_InvalidCount, C_DecodeError, C_NotationError⟩) := by
  have E_DecodeError : EFn P w K mg base CX0 1 C_DecodeError "DecodeError" ["self", "offset"] (spE1 K C_DecodeError "offset") := ok_DecodeError T
  refine T.d_Decoder_take_byte.fnX sc_Decoder_take_byte (fun vs H Q E h => ?_) (fun f cdv A outer s H vs Q E hr h => ?_)
  · obtain ⟨p, ns, k, lo, hi, rfl, _⟩ := h
    rfl
  · obtain ⟨p, ns, k, lo, hi, rfl, ⟨⟨dx, hp⟩, hk⟩, h8, l0, R⟩ := h
    refine ⟨_, (pss_cons (ps_if (PW.pt (pw_or (pt_cmpR op_eq (pe_fld (pv 0) rfl) (pe_callB call_len (by rfl) T.b_len (by decide +kernel) (pa_cons (pe_fld (pv 0) rfl) pa_nil)) (nomark _)) (pw_or1 (pt_not (pt_chain op_le op_le (pv 1) (pe_item_byt (pe_fld (pv 0) rfl) (pe_fld (pv 0) rfl) (fun _ _ => rfl)) (pv 2))))))
  (pss_one (ps_raise rfl takeE (pmk_1 E_DecodeError (hr.mono (by decide)) (pa_cons (pe_fld (pv 0) rfl) pa_nil))))
  pss_nil)
  (pss_cons (ps_fldaug (pv 0) pe_int in_add)
  (pss_one (ps_ret (pe_item_byt (pe_fld (pv 0) rfl) (pe_op op_sub (pe_fld (pv 0) rfl) pe_int) (fun _ _ => rfl)))))), ?_⟩
    have sz : (byteArr ns).size = ns.length := byteArr_size ns
    have bad : ∀ H' cls d, Same H H' → ErrAt ⟨C_InvalidOrder, C_UnknownOrder, C_InvalidAddress, C_InvalidDay, C_InvalidNumber, C_MailError, C_MailError, C_MailError, C_MailError, C_InvalidCount, C_DecodeError, C_NotationError⟩ cls d H' (.decode (.int (k : Nat))) → byteF ns k lo hi = .error k → E cls d H' := fun H' cls d s er eb => by
      rw [eb] at R
      exact R H' cls d (fun b u e _ => s _ _ e) er
    refine ⟨_, rfl, p, C_Decoder, dx, _, _, rfl, hp, T.cl_Decoder, T.n_Decoder_offset, rfl, _, rfl, p, C_Decoder, dx, _, _, rfl, hp, T.cl_Decoder, T.n_Decoder_data, rfl, ?_⟩
    refine ⟨_, _, rfl, ⟨by rw [sz, sizeLine_eq]; omega, rfl⟩, rfl, _, rfl, ?_⟩
    by_cases c : k = ns.length
    · refine iteD (by rw [sz, c]) ?_
      refine iteT ?_
      refine ⟨_, rfl, p, C_Decoder, dx, _, _, rfl, hp, T.cl_Decoder, T.n_Decoder_offset, rfl, e1_fin (fmtD k (by omega)) fun d H3 s3 fd ed => bad _ _ _ s3 ⟨rfl, d, rfl, ed⟩ ?_⟩
      unfold byteF
      rw [List.getElem?_eq_none (by omega)]
    · refine iteDN (fun z => c (by have := V.int.inj z; rw [sz] at this; omega)) ?_
      obtain ⟨n, en⟩ : ∃ n, ns[k]? = some n := ⟨_, List.getElem?_eq_getElem (by omega)⟩
      let zl : List UInt8 := ns.map fun n : Int => n.toNat.toUInt8
      have lz : zl.length = ns.length := by show (ns.map _).length = _; rw [List.length_map]
      have gd : ∀ (j : Nat) (m : Int), ns[j]? = some m → (((zl.getD j 0).toNat : Nat) : Int) = m := fun j m h => byte_at h8 h
      refine ⟨_, rfl, _, rfl, p, C_Decoder, dx, _, _, rfl, hp, T.cl_Decoder, T.n_Decoder_data, rfl, _, rfl, p, C_Decoder, dx, _, _, rfl, hp, T.cl_Decoder, T.n_Decoder_offset, rfl, zl, (k : Nat), rfl, rfl, by rw [lz, sizeLine_eq]; omega, by omega, by rw [lz]; omega, ?_⟩
      rw [show ((k : Int)).toNat = k from rfl, gd k n en]
      refine ⟨_, _, rfl, rfl, _, rfl, ?_⟩
      have fin : lo ≤ n → n ≤ hi → ∀ Q' : Hp → Prop, True := fun _ _ _ => trivial
      by_cases c1 : lo ≤ n
      · refine iteD c1 ?_
        refine ⟨_, rfl, _, _, rfl, rfl, _, rfl, ?_⟩
        by_cases c2 : n ≤ hi
        · rw [decide_eq_true c2]
          refine iteF ?_
          have eb : byteF ns k lo hi = .ok (n, k + 1) := by
            unfold byteF
            rw [en]
            exact if_pos ⟨c1, c2⟩
          rw [eb] at R
          refine ⟨_, rfl, p, C_Decoder, dx, _, _, rfl, hp, T.cl_Decoder, T.n_Decoder_offset, rfl, _, _, rfl, rfl, dx, _, hp, (by show 2 < 1000; decide), ?_⟩
          generalize eH : upd H p _ = H1
          have p1 : H1 p = some (.ins C_Decoder dx (dcf ns (k + 1))) := by rw [← eH, upd_same]; rfl
          have k1 : ∀ b u, H b = some u → b ≠ p → H1 b = some u := fun b u e nb => by rw [← eH, upd_ne nb]; exact e
          clear eH
          refine ⟨_, rfl, p, C_Decoder, dx, _, _, rfl, p1, T.cl_Decoder, T.n_Decoder_data, rfl, _, rfl, p, C_Decoder, dx, _, _, rfl, p1, T.cl_Decoder, T.n_Decoder_offset, rfl, _, _, rfl, rfl, zl, (k : Nat), rfl, ?_, by rw [lz, sizeLine_eq]; omega, by omega, by rw [lz]; omega, ?_⟩
          · show V.int ((((k + 1 : Nat) : Int)) - 1) = _
            rw [show (((k + 1 : Nat) : Int)) - 1 = (k : Nat) by omega]
          rw [show ((k : Int)).toNat = k from rfl, gd k n en]
          exact R H1 _ ⟨⟨dx, p1⟩, by omega⟩ k1 rfl
        · rw [decide_eq_false c2]
          refine iteT ?_
          refine ⟨_, rfl, p, C_Decoder, dx, _, _, rfl, hp, T.cl_Decoder, T.n_Decoder_offset, rfl, e1_fin (fmtD k (by omega)) fun d H3 s3 fd ed => bad _ _ _ s3 ⟨rfl, d, rfl, ed⟩ ?_⟩
          unfold byteF
          rw [en]
          exact if_neg fun z => c2 z.2
      · rw [decide_eq_false c1]
        refine iteF ⟨_, rfl, ?_⟩
        refine iteT ?_
        refine ⟨_, rfl, p, C_Decoder, dx, _, _, rfl, hp, T.cl_Decoder, T.n_Decoder_offset, rfl, e1_fin (fmtD k (by omega)) fun d H3 s3 fd ed => bad _ _ _ s3 ⟨rfl, d, rfl, ed⟩ ?_⟩
        unfold byteF
        rw [en]
        exact if_neg fun z => c1 z.1
def strV1 : Str → V → Hp → Prop := fun z v _ => v = .str z
def spTakeA (CD : Addr) (c : Cls5) : Sp := fun vs H Q E => ∃ p ns k, vs = [.ref p] ∧ DecAt CD p ns k H ∧ In8 ns ∧ ns.length ≤ 10000 ∧ RdX c CD p ns H Q E strV1 (addrF ns k)
theorem letC_at : ∀ k : Fin 26, (letters.cps.toList.getD k.val 0) = 97 + k.val := by decide +kernel
theorem okX_take_address (T : Top K mg C_Book C_Letter C_Decoder C_MailError C_InvalidOrder C_UnknownOrder C_InvalidAddress C_InvalidDay C_InvalidNumber C_NotationError C_InvalidCount C_DecodeError) : MFn P w K mg base (L2.CX P w) 4 C_Decoder "take_address" (spTakeA C_Decoder ⟨C_InvalidOrder, C_UnknownOrder, C_InvalidAddress, C_InvalidDay, C_InvalidNumber, C_MailError, C_MailError, C_MailError, C_MailError, C_InvalidCount, C_DecodeError, C_NotationError⟩) := by
  have X_Decoder_take_byte : MFn P w K mg base (L2.CX P w) 3 C_Decoder "take_byte" (spTakeB C_Decoder ⟨C_InvalidOrder, C_UnknownOrder, C_InvalidAddress, C_InvalidDay, C_InvalidNumber, C_MailError, C_MailError, C_MailError, C_MailError, C_InvalidCount, C_DecodeError, C_NotationError⟩) := okX_take_byte T
  refine T.d_Decoder_take_address.fnX sc_Decoder_take_address (fun vs H Q E h => ?_) (fun f cdv A outer s H vs Q E hr h => ?_)
  · obtain ⟨p, ns, k, rfl, _⟩ := h
    rfl
  · obtain ⟨p, ns, k, rfl, D0, h8, l0, R⟩ := h
    refine ⟨_, (pss_cons (ps_set (i := 1) sc_Decoder_take_address.nd rfl (Or.inl rfl) pe_str)
  (pss_cons (ps_for owns_cx rfl (pi_range1 (by rfl) T.b_range (pa_cons (pe_mX X_Decoder_take_byte T.cl_Decoder (hr.mono (by decide)) passE (pv 0) (pa_cons pe_int (pa_cons (pe_gint T.c_MAX_LETTERS) pa_nil))) pa_nil)) (pg_name (i := 2) sc_Decoder_take_address.nd rfl (Or.inl rfl))
  (pss_one (ps_set (i := 1) sc_Decoder_take_address.nd rfl (Or.inl rfl) (pe_op op_add_str (pv 1) (pe_ix ix_str (pe_gstr T.c_LETTERS) (pe_mX X_Decoder_take_byte T.cl_Decoder (hr.mono (by decide)) passE (pv 0) (pa_cons pe_int (pa_cons (pe_op op_sub (pe_callB call_len_str (by rfl) T.b_len (by decide +kernel) (pa_cons (pe_gstr T.c_LETTERS) pa_nil)) pe_int) pa_nil))) (fun _ _ => rfl))))))
  (pss_one (ps_ret (pv 1))))), ?_⟩
    obtain ⟨⟨dx, hp⟩, hk⟩ := id D0
    refine ⟨_, rfl, p, dx, _, rfl, hp, rfl, p, ns, k, 1, 8, rfl, D0, h8, l0, ?_⟩
    unfold addrF at R
    cases eb : byteF ns k 1 8 with
    | error e =>
      rw [eb] at R
      exact fun H' cls d kp er => R H' cls d kp er
    | ok x =>
      obtain ⟨n, k1⟩ := x
      rw [eb] at R
      obtain ⟨_, n1, n8, _⟩ := byteF_ok eb
      rintro H1 v D1 kp1 rfl
      obtain ⟨m, rfl⟩ := Int.eq_ofNat_of_zero_le (show 0 ≤ n by omega)
      have e26 : ((letters.length : Nat) : Int) - 1 = 25 := by decide +kernel
      have l26 : letters.length ≤ sizeLine := by decide +kernel
      have R' : RdX ⟨C_InvalidOrder, C_UnknownOrder, C_InvalidAddress, C_InvalidDay, C_InvalidNumber, C_MailError, C_MailError, C_MailError, C_MailError, C_InvalidCount, C_DecodeError, C_NotationError⟩ C_Decoder p ns H Q E strV1 (charsF ns m k1 "") := R
      clear R
      have step : ∀ j, charsF ns (j + 1) = fun k z => match byteF ns k 0 25 with
        | .error e => Except.error e
        | .ok (c, k') => charsF ns j k' (z ++ letC c) := fun j => rfl
      refine ⟨_, rfl, by omega, by omega, for_it walk_range (fun i σ H' => ∃ k2 z, DecAt C_Decoder p ns k2 H' ∧ (∀ b u, H b = some u → b ≠ p → H' b = some u) ∧ charsF ns (m - i) k2 z = charsF ns m k1 "" ∧ z.length ≤ i ∧ ∃ v2, σ = [some (.ref p), some (.str z), v2]) ⟨k1, "", D1, kp1, rfl, by decide +kernel, _, rfl⟩ (fun _ _ _ _ _ => trivial) ?_ ?_⟩
      · rintro i y σ H2 H3 hi ⟨k2, z, D2, kp2, ec, lz, v2, rfl⟩ ⟨rfl, rfl⟩
        have hi' : i < m := by simpa using hi
        obtain ⟨⟨dx2, hp2⟩, hk2⟩ := id D2
        refine ⟨_, rfl, _, rfl, p, dx2, _, rfl, hp2, rfl, letters, rfl, l26, _, _, rfl, rfl, p, ns, k2, 0, _, rfl, D2, h8, l0, ?_⟩
        rw [e26]
        rw [show m - i = (m - i - 1) + 1 by omega, step] at ec
        simp only [] at ec
        cases eb2 : byteF ns k2 0 25 with
        | error e =>
          rw [eb2] at ec
          simp only [] at ec
          rw [← ec] at R'
          exact fun H' cls d kp er => R' H' cls d (fun b u e n => kp _ _ (kp2 _ _ e n) n) er
        | ok x =>
          obtain ⟨c, k3⟩ := x
          rw [eb2] at ec
          simp only [] at ec
          obtain ⟨_, c0, c25, _⟩ := byteF_ok eb2
          obtain ⟨q, rfl⟩ := Int.eq_ofNat_of_zero_le c0
          rintro H4 v D4 kp4 rfl
          have hq := letC_at ⟨q, by omega⟩
          have at1 : atI letters.cps.toList ((q : Nat) : Int) = some (97 + q) := atI_nat (by
            have lq : q < letters.cps.toList.length := by
              have : letters.cps.toList.length = 26 := by decide +kernel
              omega
            rw [List.getElem?_eq_getElem lq]
            rw [List.getD_eq_getElem?_getD, List.getElem?_eq_getElem lq] at hq
            exact congrArg some hq)
          refine ⟨letters, _, _, rfl, rfl, l26, at1, _, _, rfl, rfl, ?_, ?_⟩
          · show z.length + 1 ≤ _
            rw [sizeLine_eq]
            omega
          · refine ⟨k3, z ++ letC (q : Nat), D4, fun b u e n => kp4 _ _ (kp2 _ _ e n) n, by rw [show m - (i + 1) = m - i - 1 by omega]; exact ec, ?_, _, rfl⟩
            rw [Str.length_append]
            show z.length + 1 ≤ i + 1
            omega
      · rintro σ H2 ⟨k2, z, D2, kp2, ec, lz, v2, rfl⟩
        rw [show m - (((m : Nat) : Int)).toNat = 0 by omega] at ec
        rw [← ec] at R'
        exact ⟨_, rfl, R' H2 _ D2 kp2 rfl⟩
def spTakeN (CD : Addr) (c : Cls5) : Sp := fun vs H Q E => ∃ p ns k high, vs = [.ref p, .int high] ∧ DecAt CD p ns k H ∧ In8 ns ∧ ns.length ≤ 10000 ∧ RdX c CD p ns H Q E intV1 (numF ns k high)
theorem okX_take_number (T : Top K mg C_Book C_Letter C_Decoder C_MailError C_InvalidOrder C_UnknownOrder C_InvalidAddress C_InvalidDay C_InvalidNumber C_NotationError C_InvalidCount C_DecodeError) : MFn P w K mg base (L2.CX P w) 4 C_Decoder "take_number" (spTakeN C_Decoder ⟨C_InvalidOrder, C_UnknownOrder, C_InvalidAddress, C_InvalidDay, C_InvalidNumber, C_MailError, C_MailError, C_MailError, C_MailError, C_InvalidCount, C_DecodeError, C_NotationError⟩) := by
  have X_Decoder_take_byte : MFn P w K mg base (L2.CX P w) 3 C_Decoder "take_byte" (spTakeB C_Decoder ⟨C_InvalidOrder, C_UnknownOrder, C_InvalidAddress, C_InvalidDay, C_InvalidNumber, C_MailError, C_MailError, C_MailError, C_MailError, C_InvalidCount, C_DecodeError, C_NotationError⟩) := okX_take_byte T
  have E_DecodeError : EFn P w K mg base CX0 1 C_DecodeError "DecodeError" ["self", "offset"] (spE1 K C_DecodeError "offset") := ok_DecodeError T
  refine T.d_Decoder_take_number.fnX sc_Decoder_take_number (fun vs H Q E h => ?_) (fun f cdv A outer s H vs Q E hr h => ?_)
  · obtain ⟨p, ns, k, high, rfl, _⟩ := h
    rfl
  · obtain ⟨p, ns, k, high, rfl, D0, h8, l0, R⟩ := h
    refine ⟨_, (pss_cons (ps_asg (pe_tup (pa_cons (pe_fld (pv 0) rfl) (pa_cons pe_int (pa_cons pe_int (pa_cons (pe_gint T.c_GROUP) pa_nil))))) (pg_tup rfl (pgs_cons (pg_name (i := 2) sc_Decoder_take_number.nd rfl (Or.inl rfl)) (pgs_cons (pg_name (i := 3) sc_Decoder_take_number.nd rfl (Or.inl rfl)) (pgs_cons (pg_name (i := 4) sc_Decoder_take_number.nd rfl (Or.inl rfl)) (pgs_cons (pg_name (i := 5) sc_Decoder_take_number.nd rfl (Or.inl rfl)) pgs_nil))))))
  (pss_cons (ps_while owns_cx (pt_cmpR op_ge (pv 5) (pe_gint T.c_GROUP) (nomark _))
  (pss_cons (ps_set (i := 5) sc_Decoder_take_number.nd rfl (Or.inl rfl) (pe_mX X_Decoder_take_byte T.cl_Decoder (hr.mono (by decide)) passE (pv 0) (pa_cons pe_int (pa_cons (pe_op op_sub (pe_gint T.c_BYTE) pe_int) pa_nil))))
  (C8.pss_cut (ps_if (PW.pt (pw_and (pt_cmpR op_eq (pv 5) pe_int (nomark _)) (pw_and1 (pt_cmpR op_gt (pv 4) pe_int (nomark _)))))
  (pss_one (ps_raise rfl takeE (pmk_1 E_DecodeError (hr.mono (by decide)) (pa_cons (pe_op op_sub (pe_fld (pv 0) rfl) pe_int) pa_nil))))
  pss_nil)
  (pss_cons (ps_aug (i := 3) sc_Decoder_take_number.nd rfl (Or.inl rfl) (pe_op op_mul (pe_op op_mod (pe_callTy call_int1 (by rfl) T.b_int (by decide +kernel) (pa_cons (pv 5) pa_nil)) (pe_gint T.c_GROUP)) (pv 4)) ip_add)
  (pss_one (ps_aug (i := 4) sc_Decoder_take_number.nd rfl (Or.inl rfl) (pe_gint T.c_GROUP) ip_mult))))))
  (pss_cons (ps_if (pt_cmpR op_gt (pv 3) (pv 1) (nomark _))
  (pss_one (ps_raise rfl takeE (pmk_1 E_DecodeError (hr.mono (by decide)) (pa_cons (pv 2) pa_nil))))
  pss_nil)
  (pss_one (ps_ret (pv 3)))))), ?_⟩
    obtain ⟨⟨dx, hp⟩, hk⟩ := id D0
    refine ⟨_, rfl, p, C_Decoder, dx, _, _, rfl, hp, T.cl_Decoder, T.n_Decoder_offset, rfl, (by show 4 ≤ sizeLine; decide), ?_⟩
    intro t0 ht0
    generalize gH1 : L2.upd _ t0 _ = H1
    obtain ⟨s1, e1⟩ := newS ht0 gH1
    clear gH1
    refine ⟨t0, _, rfl, .inl (.inl e1), rfl, _, _, rfl, _, _, rfl, _, _, rfl, _, _, rfl, rfl, ?_⟩
    unfold numF at R
    have npt : t0 ≠ p := fun z => by rw [z, hp] at ht0; cases ht0
    let res (k2 : Nat) (num : Int) : Except Nat (Int × Nat) := if high < num then .error k else .ok (num, k2)
    let W : Nat → L2.St → Hp → Prop := fun m σ H' => ∃ (k2 : Nat) (num fac byte : Int), DecAt C_Decoder p ns k2 H' ∧ (∀ b u, H b = some u → b ≠ p → H' b = some u) ∧ 1 ≤ fac ∧ ((128 ≤ byte ∧ ns.length + 1 ≤ m + k2 ∧ numL ns high k m k2 num fac = numL ns high k (ns.length + 1) k 0 1) ∨ (byte < 128 ∧ res k2 num = numL ns high k (ns.length + 1) k 0 1)) ∧ σ = [some (.ref p), some (.int high), some (.int (k : Nat)), some (.int num), some (.int fac), some (.int byte)]
    refine ⟨W, ⟨ns.length + 1, k, 0, 1, 128, ⟨⟨dx, s1 _ _ hp⟩, hk⟩, fun b u e _ => s1 _ _ e, by decide, .inl ⟨by decide, by omega, rfl⟩, rfl⟩, ?_⟩
    rintro m σ H2 ⟨k2, num, fac, byte, D2, kp2, hf, hc, rfl⟩
    refine ⟨_, rfl, _, _, rfl, rfl, _, rfl, ?_⟩
    rcases hc with ⟨hb, hm, en⟩ | ⟨hb, en⟩
    · obtain ⟨⟨dx2, hp2⟩, hk2⟩ := id D2
      obtain ⟨m', rfl⟩ : ∃ m', m = m' + 1 := ⟨m - 1, by omega⟩
      refine iteD hb ⟨W m', fun σ' H' w => ⟨m', by omega, w⟩, ?_⟩
      have step : numL ns high k (m' + 1) k2 num fac = (match byteF ns k2 0 255 with
        | .error e => Except.error e
        | .ok (v, k') => if v = 0 ∧ 1 < fac then Except.error k2 else if 128 ≤ v then numL ns high k m' k' (num + v % 128 * fac) (fac * 128) else if high < num + v % 128 * fac then Except.error k else Except.ok (num + v % 128 * fac, k')) := rfl
      rw [step] at en
      rw [← en] at R
      refine ⟨_, rfl, p, dx2, _, rfl, hp2, rfl, _, _, rfl, rfl, p, ns, k2, 0, 255, rfl, D2, h8, l0, ?_⟩
      cases eb : byteF ns k2 0 255 with
      | error e =>
        rw [eb] at R
        exact fun H' cls d kp er => R H' cls d (fun b u e n => kp _ _ (kp2 _ _ e n) n) er
      | ok x =>
        obtain ⟨v, k3⟩ := x
        obtain ⟨ev, v0, v255, ek3⟩ := byteF_ok eb
        subst ek3
        rw [eb] at R en
        simp only [] at R en
        rintro H3 v' D3 kp3 rfl
        obtain ⟨⟨dx3, hp3⟩, hk3⟩ := id D3
        have kp03 : ∀ b u, H b = some u → b ≠ p → H3 b = some u := fun b u e n => kp3 _ _ (kp2 _ _ e n) n
        have go : ¬ (v = 0 ∧ 1 < fac) → W m' [some (.ref p), some (.int high), some (.int (k : Nat)), some (.int (num + v % 128 * fac)), some (.int (fac * 128)), some (.int v)] H3 := fun hz => by
          rw [if_neg hz] at en
          refine ⟨k2 + 1, _, _, v, D3, kp03, by omega, ?_, rfl⟩
          by_cases c : 128 ≤ v
          · rw [if_pos c] at en
            exact .inl ⟨c, by omega, en⟩
          · rw [if_neg c] at en
            exact .inr ⟨by omega, en⟩
        refine ⟨fun σ' H' => ¬ (v = 0 ∧ 1 < fac) ∧ H' = H3 ∧ σ' = [some (.ref p), some (.int high), some (.int (k : Nat)), some (.int num), some (.int fac), some (.int v)], ?_, ?_⟩
        · refine ⟨_, rfl, rfl, _, rfl, ?_⟩
          by_cases c : v = 0
          · refine iteD (congrArg V.int c) ?_
            refine ⟨_, rfl, _, _, rfl, rfl, _, rfl, ?_⟩
            by_cases c2 : 1 < fac
            · refine iteD c2 ?_
              refine ⟨_, rfl, p, C_Decoder, dx3, _, _, rfl, hp3, T.cl_Decoder, T.n_Decoder_offset, rfl, _, _, rfl, rfl, ?_⟩
              have e : (fun (i j : Int) => V.int (i - j)) ((k2 + 1 : Nat) : Int) 1 = V.int (k2 : Nat) := by
                show V.int _ = _
                rw [show ((k2 + 1 : Nat) : Int) - 1 = (k2 : Nat) by omega]
              rw [e]
              rw [if_pos ⟨c, c2⟩] at R
              exact e1_fin (fmtD k2 (by omega)) fun d H4 s4 fd ed => R _ _ _ (fun b u e n => s4 _ _ (kp03 _ _ e n)) ⟨rfl, d, rfl, ed⟩
            · exact iteDN c2 ⟨fun z => c2 z.2, rfl, rfl⟩
          · exact iteDN (fun z => c (V.int.inj z)) ⟨fun z => c z.1, rfl, rfl⟩
        rintro σ' H' ⟨hz, rfl, rfl⟩
        refine ⟨_, rfl, _, rfl, .inl ⟨_, rfl, _, _, rfl, rfl, (by show (0 : Int) < 128; decide), _, rfl, _, _, rfl, rfl, ?_, _, _, rfl, rfl, ?_⟩⟩
        · refine .inl ⟨?_, ?_⟩
          · have := Int.emod_nonneg v (show (128 : Int) ≠ 0 by decide); omega
          · have := Int.emod_lt_of_pos v (show (0 : Int) < 128 by decide); omega
        exact ⟨_, rfl, _, _, rfl, rfl, .inr ⟨by decide, by decide⟩, go hz⟩
    · refine iteDN (by omega) ?_
      rw [← en] at R
      refine ⟨_, rfl, _, rfl, _, _, rfl, rfl, _, rfl, ?_⟩
      by_cases c : high < num
      · refine iteD c ?_
        have er : res k2 num = .error k := if_pos c
        rw [er] at R
        refine ⟨_, rfl, e1_fin (fmtD k (by omega)) fun d H3 s3 fd ed => R _ _ _ (fun b u e n => s3 _ _ (kp2 _ _ e n)) ⟨rfl, d, rfl, ed⟩⟩
      · refine iteDN c ?_
        have er : res k2 num = .ok (num, k2) := if_neg c
        rw [er] at R
        exact ⟨_, rfl, R _ _ D2 kp2 rfl⟩
end

end MF
set_option Elab.async false
set_option linter.all false
set_option maxRecDepth 100000
set_option maxHeartbeats 2000000
set_option pp.maxSteps 600
namespace MF
open PySem PySem.Spec PyProof.Rows L2 StX
section
variable {P : Program} {w : World} {K : PySem.W.Frag} {mg : Str → Option Value} {base : Heap} {C_Book C_Letter C_Decoder C_MailError C_InvalidOrder C_UnknownOrder C_InvalidAddress C_InvalidDay C_InvalidNumber C_NotationError C_InvalidCount C_DecodeError : Addr}
theorem dec_not {CD dx dx' C p : Addr} {ns : List Int} {k : Nat} {v : V} (h : (some (HO.ins CD dx (dcf ns k)) : Option HO) = some (.ins C dx' [("listed", v)])) : False := by
  injection h with e
  injection e with e1 e2 e3
  injection e3 with e4 e5
  have e6 : ("data" : Str) = "listed" := congrArg Prod.fst e4
  exact absurd e6 (by decide)
theorem decKt {CD p : Addr} {ns : List Int} {k : Nat} {H H' : Hp} (D : DecAt CD p ns k H) (kp : ∀ b u, H b = some u → b ≠ p → H' b = some u) : ∀ b u, H b = some u → tupl u = true → H' b = some u := fun b u e y => kp _ _ e fun w => by
  obtain ⟨⟨dx, hp⟩, _⟩ := D
  rw [w, hp] at e
  cases e
  cases y
def ordV1 (K : PySem.W.Frag) : Ordr → V → Hp → Prop := fun o v H => ∃ q, v = .ref q ∧ OrdAt K H q o
def spTakeO (K : PySem.W.Frag) (CD : Addr) (c : Cls5) : Sp := fun vs H Q E => ∃ p l as os ns k, vs = [.ref p, .ref l] ∧ DecAt CD p ns k H ∧ In8 ns ∧ ns.length ≤ 10000 ∧ H l = some (.lst ((as : List Addr).map V.ref)) ∧ OrdsAt K H as os ∧ os.length ≤ 30 ∧ RdX c CD p ns H Q E (ordV1 K) (ordF ns os k)
theorem okX_take_order (T : Top K mg C_Book C_Letter C_Decoder C_MailError C_InvalidOrder C_UnknownOrder C_InvalidAddress C_InvalidDay C_InvalidNumber C_NotationError C_InvalidCount C_DecodeError) : MFn P w K mg base (L2.CX P w) 5 C_Decoder "take_order" (spTakeO K C_Decoder ⟨C_InvalidOrder, C_UnknownOrder, C_InvalidAddress, C_InvalidDay, C_InvalidNumber, C_MailError, C_MailError, C_MailError, C_MailError, C_InvalidCount, C_DecodeError, C_NotationError⟩) := by
  have X_Decoder_take_byte : MFn P w K mg base (L2.CX P w) 3 C_Decoder "take_byte" (spTakeB C_Decoder ⟨C_InvalidOrder, C_UnknownOrder, C_InvalidAddress, C_InvalidDay, C_InvalidNumber, C_MailError, C_MailError, C_MailError, C_MailError, C_InvalidCount, C_DecodeError, C_NotationError⟩) := okX_take_byte T
  have X_Decoder_take_address : MFn P w K mg base (L2.CX P w) 4 C_Decoder "take_address" (spTakeA C_Decoder ⟨C_InvalidOrder, C_UnknownOrder, C_InvalidAddress, C_InvalidDay, C_InvalidNumber, C_MailError, C_MailError, C_MailError, C_MailError, C_InvalidCount, C_DecodeError, C_NotationError⟩) := okX_take_address T
  have X_Decoder_take_number : MFn P w K mg base (L2.CX P w) 4 C_Decoder "take_number" (spTakeN C_Decoder ⟨C_InvalidOrder, C_UnknownOrder, C_InvalidAddress, C_InvalidDay, C_InvalidNumber, C_MailError, C_MailError, C_MailError, C_MailError, C_InvalidCount, C_DecodeError, C_NotationError⟩) := okX_take_number T
  have G_do_overlap : GFn P w K mg base CX0 1 "do_overlap" (spOverlap K) := ok_do_overlap T
  have E_DecodeError : EFn P w K mg base CX0 1 C_DecodeError "DecodeError" ["self", "offset"] (spE1 K C_DecodeError "offset") := ok_DecodeError T
  refine T.d_Decoder_take_order.fnX sc_Decoder_take_order (fun vs H Q E h => ?_) (fun f cdv A outer s H vs Q E hr h => ?_)
  · obtain ⟨p, l, as, os, ns, k, rfl, _⟩ := h
    rfl
  · obtain ⟨p, l, as, os, ns, k, rfl, D0, h8, l0, el, O0, os30, R⟩ := h
    refine ⟨_, (pss_cons (ps_par (i := 2) (j := 3) (by rfl) sc_Decoder_take_order.nd rfl rfl (by decide) rfl rfl (pa_cons (pe_fld (pv 0) rfl) (pa_cons (pe_mX0 X_Decoder_take_address T.cl_Decoder (hr.mono (by decide)) passE (pv 0)) pa_nil)) (by rfl))
  (pss_cons (ps_par (i := 4) (j := 5) (by rfl) sc_Decoder_take_order.nd rfl rfl (by decide) rfl rfl (pa_cons (pe_fld (pv 0) rfl) (pa_cons (pe_mX0 X_Decoder_take_address T.cl_Decoder (hr.mono (by decide)) passE (pv 0)) pa_nil)) (by rfl))
  (pss_cons (ps_if (pt_cmpR op_eq (pv 3) (pv 5) (nomark _))
  (pss_one (ps_raise rfl takeE (pmk_1 E_DecodeError (hr.mono (by decide)) (pa_cons (pv 4) pa_nil))))
  pss_nil)
  (pss_cons (ps_set (i := 6) sc_Decoder_take_order.nd rfl (Or.inl rfl) (pe_mX X_Decoder_take_number T.cl_Decoder (hr.mono (by decide)) passE (pv 0) (pa_cons (pe_gint T.c_MAX_DAY) pa_nil)))
  (pss_cons (ps_set (i := 7) sc_Decoder_take_order.nd rfl (Or.inr rfl) (pe_tup (pa_cons (pv 3) (pa_cons (pv 5) (pa_cons (pv 6) (pa_cons (pe_op op_add (pv 6) (pe_mX X_Decoder_take_number T.cl_Decoder (hr.mono (by decide)) passE (pv 0) (pa_cons (pe_op op_sub (pe_gint T.c_MAX_DAY) (pv 6)) pa_nil))) (pa_cons (pe_mX X_Decoder_take_byte T.cl_Decoder (hr.mono (by decide)) passE (pv 0) (pa_cons pe_int (pa_cons (pe_gint T.c_MAX_WAY) pa_nil))) pa_nil)))))))
  (pss_cons (ps_if (pt_val (pe_callB (cr_any rfl) (by rfl) T.b_any (by decide +kernel) (pa_cons (pe_lc (own := [("earlier", 8)]) (g := (gName 8)) (by rfl) sc_Decoder_take_order.nd (pi_list (pv 1)) (blkOk_by (own := [("earlier", 8)]) (N := ["self", "orders", "start", "source", "place", "target", "first", "order", "earlier"]) (sc := defScope s_Decoder_take_order) (by decide +kernel)) (fun _ _ _ _ _ => (pg_name (i := 8) sc_Decoder_take_order.nd rfl (Or.inl rfl))) (fun _ _ _ _ _ => pts_nil) (fun _ _ _ _ _ => (pe_g G_do_overlap (hr.mono (by decide)) (pa_cons (pv 8) (pa_cons (pv 7) pa_nil))))) pa_nil)))
  (pss_one (ps_raise rfl takeE (pmk_1 E_DecodeError (hr.mono (by decide)) (pa_cons (pv 2) pa_nil))))
  pss_nil)
  (pss_one (ps_ret (pv 7))))))))), ?_⟩
    obtain ⟨⟨dx, hp⟩, hk⟩ := id D0
    have nlp : l ≠ p := fun w => by rw [w, hp] at el; cases el
    unfold ordF at R
    refine ⟨_, rfl, p, C_Decoder, dx, _, _, rfl, hp, T.cl_Decoder, T.n_Decoder_offset, rfl, _, rfl, p, dx, _, rfl, hp, rfl, p, ns, k, rfl, D0, h8, l0, ?_⟩
    cases ea : addrF ns k with
    | error e =>
      rw [ea] at R
      exact fun H' cls d kp er => R H' cls d kp er
    | ok x =>
    obtain ⟨sa, k1⟩ := x
    rw [ea] at R
    simp only [] at R
    rintro H1 v1 D1 kp1 rfl
    refine ⟨_, _, rfl, ?_⟩
    obtain ⟨⟨dx1, hp1⟩, hk1⟩ := id D1
    refine ⟨_, rfl, p, C_Decoder, dx1, _, _, rfl, hp1, T.cl_Decoder, T.n_Decoder_offset, rfl, _, rfl, p, dx1, _, rfl, hp1, rfl, p, ns, k1, rfl, D1, h8, l0, ?_⟩
    cases eb : addrF ns k1 with
    | error e =>
      rw [eb] at R
      exact fun H' cls d kp er => R H' cls d (fun b u e n => kp _ _ (kp1 _ _ e n) n) er
    | ok x =>
    obtain ⟨ta, k2⟩ := x
    rw [eb] at R
    simp only [] at R
    rintro H2 v2 D2 kp2 rfl
    refine ⟨_, _, rfl, ?_⟩
    obtain ⟨⟨dx2, hp2⟩, hk2⟩ := id D2
    have kp02 : ∀ b u, H b = some u → b ≠ p → H2 b = some u := fun b u e n => kp2 _ _ (kp1 _ _ e n) n
    refine ⟨_, rfl, _, rfl, rfl, _, rfl, ?_⟩
    by_cases c : sa = ta
    · refine iteD (congrArg V.str c) ?_
      rw [if_pos c] at R
      refine ⟨_, rfl, e1_fin (fmtD k1 (by omega)) fun d H4 s4 fd ed => R _ _ _ (fun b u e n => s4 _ _ (kp02 _ _ e n)) ⟨rfl, d, rfl, ed⟩⟩
    refine iteDN (fun z => c (V.str.inj z)) ?_
    rw [if_neg c] at R
    refine ⟨_, rfl, p, dx2, _, rfl, hp2, rfl, p, ns, k2, _, rfl, D2, h8, l0, ?_⟩
    cases ec : numF ns k2 1000000000000000000 with
    | error e =>
      rw [ec] at R
      exact fun H' cls d kp er => R H' cls d (fun b u e n => kp _ _ (kp02 _ _ e n) n) er
    | ok x =>
    obtain ⟨fi, k3⟩ := x
    rw [ec] at R
    simp only [] at R
    rintro H3 v3 D3 kp3 rfl
    obtain ⟨⟨dx3, hp3⟩, hk3⟩ := id D3
    have kp03 : ∀ b u, H b = some u → b ≠ p → H3 b = some u := fun b u e n => kp3 _ _ (kp02 _ _ e n) n
    refine ⟨_, rfl, _, rfl, _, rfl, _, rfl, _, rfl, p, dx3, _, rfl, hp3, rfl, _, rfl, _, _, rfl, rfl, p, ns, k3, _, rfl, D3, h8, l0, ?_⟩
    cases ed : numF ns k3 (1000000000000000000 - fi) with
    | error e =>
      rw [ed] at R
      exact fun H' cls d kp er => R H' cls d (fun b u e n => kp _ _ (kp03 _ _ e n) n) er
    | ok x =>
    obtain ⟨du, k4⟩ := x
    rw [ed] at R
    simp only [] at R
    rintro H4 v4 D4 kp4 rfl
    obtain ⟨⟨dx4, hp4⟩, hk4⟩ := id D4
    have kp04 : ∀ b u, H b = some u → b ≠ p → H4 b = some u := fun b u e n => kp4 _ _ (kp03 _ _ e n) n
    refine ⟨_, _, rfl, rfl, _, rfl, p, dx4, _, rfl, hp4, rfl, p, ns, k4, _, _, rfl, D4, h8, l0, ?_⟩
    cases ee : byteF ns k4 1 30 with
    | error e =>
      rw [ee] at R
      exact fun H' cls d kp er => R H' cls d (fun b u e n => kp _ _ (kp04 _ _ e n) n) er
    | ok x =>
    obtain ⟨wy, k5⟩ := x
    rw [ee] at R
    simp only [] at R
    rintro H5 v5 D5 kp5 rfl
    obtain ⟨⟨dx5, hp5⟩, hk5⟩ := id D5
    have kp05 : ∀ b u, H b = some u → b ≠ p → H5 b = some u := fun b u e n => kp5 _ _ (kp04 _ _ e n) n
    refine ⟨(by show 5 ≤ sizeLine; decide), ?_⟩
    intro q hq
    generalize gH6 : L2.upd _ q _ = H6
    obtain ⟨s6, e6⟩ := newS hq gH6
    clear gH6
    have kp06 : ∀ b u, H b = some u → b ≠ p → H6 b = some u := fun b u e n => s6 _ _ (kp05 _ _ e n)
    let o : Ordr := ⟨sa, ta, fi, fi + du, wy⟩
    have oq : OrdAt K H6 q o := .inl (.inl e6)
    have el6 := kp06 _ _ el nlp
    have O6 : OrdsAt K H6 as os := O0.keepR (decKt D0 kp06)
    have las := PySem.Paired.length O0
    refine ⟨_, rfl, l, rfl, ⟨_, SqL.of el6⟩, fun B hB => ?_⟩
    refine lc_it (walk_list (xs := as.map V.ref)) (fun i H' => Same H6 H' ∧ H' B = some (.lst (((os.take i).map fun e => overB e o).map V.bl))) ⟨Same.new hB, upd_same⟩ (fun i H' _ z => SqL.of (z.1 _ _ el6)) ?_ ?_
    · rintro i y Hx H7 hi ⟨s7, c7⟩ ⟨rfl, ey⟩
      rw [List.length_map] at hi
      obtain ⟨a, ea'⟩ : ∃ a, as[i]? = some a := ⟨_, List.getElem?_eq_getElem hi⟩
      rw [List.getElem?_map, ea'] at ey
      cases ey
      obtain ⟨o1, eo1, oa1⟩ := Paired.get O6 ea'
      refine ⟨rfl, yesT (iteT ?_)⟩
      refine ⟨_, rfl, _, rfl, a, q, o1, o, rfl, oa1.mono s7, oq.mono s7, ?_⟩
      refine ⟨_, c7, ?_, fun b u e => ?_, ?_⟩
      · rw [List.length_map, List.length_map, List.length_take, sizeLine_eq]
        omega
      · rw [upd_ne (ne_of_none e hB)]
        exact s7 _ _ e
      · rw [upd_same, List.take_add_one, eo1, List.map_append, List.map_append]
        rfl
    · rintro H7 ⟨s7, c7⟩
      rw [List.length_map, las, List.take_length] at c7
      refine ⟨B, _, rfl, SqL.of c7, _, rfl, ?_⟩
      have eany : (os.map fun e => overB e o).any id = os.any fun e => overB e o := by rw [List.any_map]; rfl
      rw [eany]
      have kp07 : ∀ b u, H b = some u → b ≠ p → H7 b = some u := fun b u e n => s7 _ _ (kp06 _ _ e n)
      cases cv : os.any fun e => overB e o with
      | true =>
        rw [if_pos cv] at R
        refine iteT ?_
        refine ⟨_, rfl, e1_fin (fmtD k (by omega)) fun d H8 s8 fd ed => R _ _ _ (fun b u e n => s8 _ _ (kp07 _ _ e n)) ⟨rfl, d, rfl, ed⟩⟩
      | false =>
        rw [if_neg (by rw [cv]; exact Bool.false_ne_true)] at R
        refine iteF ?_
        have s57 := s6.trans s7
        exact ⟨_, rfl, R H7 _ ⟨⟨dx5, s57 _ _ hp5⟩, hk5⟩ kp07 ⟨q, rfl, oq.mono s7⟩⟩
def spFinD (K : PySem.W.Frag) (CD : Addr) (c : Cls5) : Sp := fun vs H Q E => ∃ p ns k os, vs = [.ref p] ∧ DecAt CD p ns k H ∧ In8 ns ∧ ns.length ≤ 10000 ∧ (match endF ns os k with
  | .error e => ∀ H' cls d, (∀ b u, H b = some u → b ≠ p → H' b = some u) → ErrAt c cls d H' (.decode (.int (e : Nat))) → E cls d H'
  | .ok _ => ∀ H', (∀ b u, H b = some u → b ≠ p → H' b = some u) → Q .non H')
theorem okX_finish (T : Top K mg C_Book C_Letter C_Decoder C_MailError C_InvalidOrder C_UnknownOrder C_InvalidAddress C_InvalidDay C_InvalidNumber C_NotationError C_InvalidCount C_DecodeError) : MFn P w K mg base (L2.CX P w) 4 C_Decoder "finish" (spFinD K C_Decoder ⟨C_InvalidOrder, C_UnknownOrder, C_InvalidAddress, C_InvalidDay, C_InvalidNumber, C_MailError, C_MailError, C_MailError, C_MailError, C_InvalidCount, C_DecodeError, C_NotationError⟩) := by
  have X_Decoder_take_byte : MFn P w K mg base (L2.CX P w) 3 C_Decoder "take_byte" (spTakeB C_Decoder ⟨C_InvalidOrder, C_UnknownOrder, C_InvalidAddress, C_InvalidDay, C_InvalidNumber, C_MailError, C_MailError, C_MailError, C_MailError, C_InvalidCount, C_DecodeError, C_NotationError⟩) := okX_take_byte T
  have G_checksum_of : GFn P w K mg base CX0 1 "checksum_of" (spChk K) := ok_chk T
  have E_DecodeError : EFn P w K mg base CX0 1 C_DecodeError "DecodeError" ["self", "offset"] (spE1 K C_DecodeError "offset") := ok_DecodeError T
  refine T.d_Decoder_finish.fnX sc_Decoder_finish (fun vs H Q E h => ?_) (fun f cdv A outer s H vs Q E hr h => ?_)
  · obtain ⟨p, ns, k, os, rfl, _⟩ := h
    rfl
  · obtain ⟨p, ns, k, os, rfl, D0, h8, l0, R⟩ := h
    refine ⟨_, (pss_cons (ps_set (i := 1) sc_Decoder_finish.nd rfl (Or.inl rfl) (pe_g G_checksum_of (hr.mono (by decide)) (pa_cons (pe_listOfB rfl (by rfl) T.b_list (pe_slice sl_byt (pe_fld (pv 0) rfl) po_none (po_some (pe_fld (pv 0) rfl)))) pa_nil)))
  (pss_cons (ps_expr (pe_mX X_Decoder_take_byte T.cl_Decoder (hr.mono (by decide)) passE (pv 0) (pa_cons (pv 1) (pa_cons (pv 1) pa_nil))))
  (pss_one (ps_if (pt_cmpR op_lt (pe_fld (pv 0) rfl) (pe_callB call_len (by rfl) T.b_len (by decide +kernel) (pa_cons (pe_fld (pv 0) rfl) pa_nil)) (nomark _))
  (pss_one (ps_raise rfl takeE (pmk_1 E_DecodeError (hr.mono (by decide)) (pa_cons (pe_fld (pv 0) rfl) pa_nil))))
  pss_nil)))), ?_⟩
    obtain ⟨⟨dx, hp⟩, hk⟩ := id D0
    have sz : (byteArr ns).size = ns.length := byteArr_size ns
    have ep : PySem.W.KBy.picked (byteArr ns) none (some ((k : Nat) : Int)) = byteArr (ns.take k) := by
      unfold byteArr
      rw [pk_to (by rw [List.length_map]; exact hk), List.map_take]
    have h8t : In8 (ns.take k) := fun v hv => h8 v (List.mem_of_mem_take hv)
    refine ⟨_, rfl, p, C_Decoder, dx, _, _, rfl, hp, T.cl_Decoder, T.n_Decoder_data, rfl, _, rfl, p, C_Decoder, dx, _, _, rfl, hp, T.cl_Decoder, T.n_Decoder_offset, rfl, _, rfl, _, rfl, by rw [sz]; omega, ?_⟩
    rw [ep]
    refine ⟨_, rfl, by rw [byteArr_size, List.length_take, sizeLine_eq]; omega, ?_⟩
    intro q hq
    generalize gH1 : L2.upd _ q _ = H1
    obtain ⟨s1, e1⟩ := newS hq gH1
    clear gH1
    rw [bi_arr h8t] at e1
    refine ⟨q, ns.take k, rfl, SqL.of e1, by rw [List.length_take]; omega, ?_⟩
    have D1 : DecAt C_Decoder p ns k H1 := ⟨⟨dx, s1 _ _ hp⟩, hk⟩
    refine ⟨_, rfl, p, dx, _, rfl, s1 _ _ hp, rfl, _, rfl, _, rfl, p, ns, k, _, _, rfl, D1, h8, l0, ?_⟩
    unfold endF at R
    cases eb : byteF ns k (chkG (ns.take k)) (chkG (ns.take k)) with
    | error e =>
      rw [eb] at R
      exact fun H' cls d kp er => R H' cls d (fun b u e n => kp _ _ (s1 _ _ e) n) er
    | ok x =>
      obtain ⟨cv, k2⟩ := x
      rw [eb] at R
      simp only [] at R
      rintro H2 v2 D2 kp2 rfl
      obtain ⟨⟨dx2, hp2⟩, hk2⟩ := id D2
      have kp02 : ∀ b u, H b = some u → b ≠ p → H2 b = some u := fun b u e n => kp2 _ _ (s1 _ _ e) n
      refine ⟨_, rfl, p, C_Decoder, dx2, _, _, rfl, hp2, T.cl_Decoder, T.n_Decoder_offset, rfl, _, rfl, p, C_Decoder, dx2, _, _, rfl, hp2, T.cl_Decoder, T.n_Decoder_data, rfl, ?_⟩
      refine ⟨_, _, rfl, ⟨by rw [sz, sizeLine_eq]; omega, rfl⟩, _, _, rfl, rfl, _, rfl, ?_⟩
      by_cases c : k2 < ns.length
      · rw [if_pos c] at R
        refine iteD (by rw [sz]; omega) ?_
        refine ⟨_, rfl, p, C_Decoder, dx2, _, _, rfl, hp2, T.cl_Decoder, T.n_Decoder_offset, rfl, e1_fin (fmtD k2 (by omega)) fun d H3 s3 fd ed => R _ _ _ (fun b u e n => s3 _ _ (kp02 _ _ e n)) ⟨rfl, d, rfl, ed⟩⟩
      · rw [if_neg c] at R
        refine iteDN (by rw [sz]; omega) ?_
        exact R _ kp02
def spDecode (K : PySem.W.Frag) (CB : Addr) (c : Cls5) : Sp := fun vs H Q E => ∃ ns, vs = [.byt (byteArr ns)] ∧ In8 ns ∧ ns.length ≤ 10000 ∧ (match decF ns with
  | .error e => ∀ H' cls d, Same H H' → ErrAt c cls d H' (.decode (.int (e : Nat))) → E cls d H'
  | .ok os => ∀ H' b, Same H H' → H b = none → Good os → BookAt K CB H' b os → Q (.ref b) H')
theorem okX_decode (T : Top K mg C_Book C_Letter C_Decoder C_MailError C_InvalidOrder C_UnknownOrder C_InvalidAddress C_InvalidDay C_InvalidNumber C_NotationError C_InvalidCount C_DecodeError) : GFn P w K mg base (L2.CX P w) 6 "decode_book" (spDecode K C_Book ⟨C_InvalidOrder, C_UnknownOrder, C_InvalidAddress, C_InvalidDay, C_InvalidNumber, C_MailError, C_MailError, C_MailError, C_MailError, C_InvalidCount, C_DecodeError, C_NotationError⟩) := by
  have G_Decoder : IFn P w K mg base CX0 1 C_Decoder "Decoder" (spDecInit C_Decoder) := ok_Decoder T
  have X_Decoder_take_byte : MFn P w K mg base (L2.CX P w) 3 C_Decoder "take_byte" (spTakeB C_Decoder ⟨C_InvalidOrder, C_UnknownOrder, C_InvalidAddress, C_InvalidDay, C_InvalidNumber, C_MailError, C_MailError, C_MailError, C_MailError, C_InvalidCount, C_DecodeError, C_NotationError⟩) := okX_take_byte T
  have X_Decoder_take_order : MFn P w K mg base (L2.CX P w) 5 C_Decoder "take_order" (spTakeO K C_Decoder ⟨C_InvalidOrder, C_UnknownOrder, C_InvalidAddress, C_InvalidDay, C_InvalidNumber, C_MailError, C_MailError, C_MailError, C_MailError, C_InvalidCount, C_DecodeError, C_NotationError⟩) := okX_take_order T
  have X_Decoder_finish : MFn P w K mg base (L2.CX P w) 4 C_Decoder "finish" (spFinD K C_Decoder ⟨C_InvalidOrder, C_UnknownOrder, C_InvalidAddress, C_InvalidDay, C_InvalidNumber, C_MailError, C_MailError, C_MailError, C_MailError, C_InvalidCount, C_DecodeError, C_NotationError⟩) := okX_finish T
  have G_book_of : GFn P w K mg base CX0 5 "book_of" (spBookOf K C_Book) := ok_book_of T
  refine T.d_decode_book.fnX sc_decode_book (fun vs H Q E h => ?_) (fun f cdv A outer s H vs Q E hr h => ?_)
  · obtain ⟨ns, rfl, _⟩ := h
    rfl
  · obtain ⟨ns, rfl, h8, l0, R⟩ := h
    refine ⟨_, (pss_cons (ps_par (i := 1) (j := 2) (by rfl) sc_decode_book.nd rfl rfl (by decide) rfl rfl (pa_cons (pe_mkX G_Decoder (hr.mono (by decide)) pass0 (pa_cons (pv 0) pa_nil)) (pa_cons (pe_lst pa_nil) pa_nil)) (by rfl))
  (pss_cons (ps_expr (pe_mX X_Decoder_take_byte T.cl_Decoder (hr.mono (by decide)) passE (pv 1) (pa_cons (pe_gint T.c_FIRST_BYTE) (pa_cons (pe_gint T.c_FIRST_BYTE) pa_nil))))
  (pss_cons (ps_for owns_cx rfl (pi_range1 (by rfl) T.b_range (pa_cons (pe_mX X_Decoder_take_byte T.cl_Decoder (hr.mono (by decide)) passE (pv 1) (pa_cons pe_int (pa_cons (pe_gint T.c_MAX_ORDERS_books) pa_nil))) pa_nil)) (pg_name (i := 3) sc_decode_book.nd rfl (Or.inl rfl))
  (pss_one (ps_expr (pe_bm PySem.F.plainAttrs_list PySem.F.slot_list_append PySem.F.type_list_append mt_append (pv 2) (pa_cons (pe_mX X_Decoder_take_order T.cl_Decoder (hr.mono (by decide)) passE (pv 1) (pa_cons (pv 2) pa_nil)) pa_nil)))))
  (pss_cons (ps_expr (pe_mX0 X_Decoder_finish T.cl_Decoder (hr.mono (by decide)) passE (pv 1)))
  (pss_one (ps_ret (pe_g G_book_of (hr.mono (by decide)) (pa_cons (pv 2) pa_nil)))))))), ?_⟩
    refine ⟨_, rfl, ?_⟩
    intro p dx hp hdx ne
    have s1 : Same H (upd (upd H dx (.own p)) p (.ins C_Decoder dx [])) := fun b u e => by
      rw [upd_ne (ne_of_none e hp), upd_ne (ne_of_none e hdx)]
      exact e
    refine ⟨p, dx, ns, rfl, upd_same, fun H1 D1 k1 => ⟨rfl, ?_⟩⟩
    have s01 : Same H H1 := fun b u e => k1 _ _ (s1 _ _ e) (ne_of_none e hp)
    refine ⟨Nat.zero_le _, ?_⟩
    intro l hl
    generalize gH2 : L2.upd _ l _ = H2
    obtain ⟨s2, e2⟩ := newS hl gH2
    clear gH2
    refine ⟨_, _, rfl, ?_⟩
    obtain ⟨⟨dx1, hp1⟩, _⟩ := id D1
    have hp2 := s2 _ _ hp1
    have s02 := s01.trans s2
    have D2 : DecAt C_Decoder p ns 0 H2 := ⟨⟨dx1, hp2⟩, Nat.zero_le _⟩
    have nlp : l ≠ p := fun w => by rw [w, hp1] at hl; cases hl
    have of2 : ∀ {H' : Hp}, (∀ b u, H2 b = some u → b ≠ p → H' b = some u) → Same H H' := fun kp b u e => kp _ _ (s02 _ _ e) (ne_of_none e hp)
    unfold decF at R
    refine ⟨_, rfl, p, dx1, _, rfl, hp2, rfl, p, ns, 0, 77, 77, rfl, D2, h8, l0, ?_⟩
    cases ea : byteF ns 0 77 77 with
    | error e =>
      rw [ea] at R
      exact fun H' cls d kp er => R H' cls d (of2 kp) er
    | ok x =>
    obtain ⟨_, k1'⟩ := x
    rw [ea] at R
    simp only [] at R
    rintro H3 v3 D3 kp3 _
    obtain ⟨⟨dx3, hp3⟩, hk3⟩ := id D3
    refine ⟨_, rfl, p, dx3, _, rfl, hp3, rfl, p, ns, k1', 0, 30, rfl, D3, h8, l0, ?_⟩
    cases eb : byteF ns k1' 0 30 with
    | error e =>
      rw [eb] at R
      exact fun H' cls d kp er => R H' cls d (of2 fun b u e n => kp _ _ (kp3 _ _ e n) n) er
    | ok x =>
    obtain ⟨n, k2⟩ := x
    rw [eb] at R
    simp only [] at R
    obtain ⟨_, n0, n30, _⟩ := byteF_ok eb
    rintro H4 v4 D4 kp4 rfl
    obtain ⟨m, rfl⟩ := Int.eq_ofNat_of_zero_le n0
    have kp24 : ∀ b u, H2 b = some u → b ≠ p → H4 b = some u := fun b u e n => kp4 _ _ (kp3 _ _ e n) n
    have step : ∀ j os k, ordsF ns (j + 1) os k = (match ordF ns os k with
      | .error e => Except.error e
      | .ok (o, k') => ordsF ns j (os ++ [o]) k') := fun _ _ _ => rfl
    refine ⟨_, rfl, by omega, by omega, for_it walk_range (fun i σ H' => ∃ k os as, DecAt C_Decoder p ns k H' ∧ (∀ b u, H b = some u → H' b = some u) ∧ H' l = some (.lst ((as : List Addr).map V.ref)) ∧ OrdsAt K H' as os ∧ OkO os ∧ os.length = i ∧ ordsF ns (m - i) os k = ordsF ns m [] k2 ∧ ∃ v3, σ = [some (.byt (byteArr ns)), some (.ref p), some (.ref l), v3]) ⟨k2, [], [], D4, of2 kp24, kp24 _ _ e2 nlp, .nil, OkO.nil, rfl, rfl, _, rfl⟩ (fun _ _ _ _ _ => trivial) ?_ ?_⟩
    · rintro i y σ H5 H6 hi ⟨k, os, as, D5, s5, el5, O5, ok5, lo, en, v3, rfl⟩ ⟨rfl, rfl⟩
      have hi' : i < m := by simpa using hi
      obtain ⟨⟨dx5, hp5⟩, hk5⟩ := id D5
      refine ⟨_, rfl, .inl ⟨rfl, _, SqL.of el5⟩, _, rfl, p, dx5, _, rfl, hp5, rfl, _, rfl, p, l, as, os, ns, k, rfl, D5, h8, l0, el5, O5, by omega, ?_⟩
      rw [show m - i = (m - i - 1) + 1 by omega, step] at en
      cases ec : ordF ns os k with
      | error e =>
        rw [ec] at en
        simp only [] at en
        rw [show ((m : Nat) : Int).toNat = m from rfl, ← en] at R
        exact fun H' cls d kp er => R H' cls d (fun b u e => kp _ _ (s5 _ _ e) (ne_of_none e hp)) er
      | ok x =>
        obtain ⟨o, k'⟩ := x
        rw [ec] at en
        simp only [] at en
        rintro H7 v7 D7 kp7 ⟨q, rfl, oq⟩
        have el7 := kp7 _ _ el5 nlp
        have las := PySem.Paired.length O5
        refine ⟨l, _, _, rfl, rfl, el7, by rw [List.length_map, sizeLine_eq]; omega, ?_⟩
        generalize gH8 : L2.upd _ l _ = H8
        obtain ⟨up8, e8⟩ := updS gH8
        clear gH8
        obtain ⟨⟨dx7, hp7⟩, hk7⟩ := id D7
        obtain ⟨ook, oov⟩ := ordF_ok ec
        have kt7 := decKt D5 kp7
        have kt8 : ∀ b u, H7 b = some u → tupl u = true → H8 b = some u := fun b u e y => up8 _ _ e (ne_of e el7 (by intro z; rw [z] at y; cases y))
        refine ⟨k', os ++ [o], as ++ [q], ⟨⟨dx7, up8 _ _ hp7 (Ne.symm nlp)⟩, hk7⟩, fun b u e => up8 _ _ (kp7 _ _ (s5 _ _ e) (ne_of_none e hp)) (ne_of_none (s01 _ _ e) hl), by rw [e8, List.map_append]; rfl, ?_, ok5.snoc ook oov, by rw [List.length_append, lo]; rfl, by rw [show m - (i + 1) = m - i - 1 by omega]; exact en, _, rfl⟩
        exact Paired.append ((O5.keepR kt7).keepR kt8) (OrdsAt.keepR (.cons oq .nil) kt8)
    · rintro σ H5 ⟨k, os, as, D5, s5, el5, O5, ok5, lo, en, v3, rfl⟩
      rw [show m - (((m : Nat) : Int)).toNat = 0 by omega] at en
      rw [show ((m : Nat) : Int).toNat = m from rfl, ← en] at R
      have R : (match endF ns os k with
        | .error e => ∀ H' cls d, Same H H' → ErrAt ⟨C_InvalidOrder, C_UnknownOrder, C_InvalidAddress, C_InvalidDay, C_InvalidNumber, C_MailError, C_MailError, C_MailError, C_MailError, C_InvalidCount, C_DecodeError, C_NotationError⟩ cls d H' (.decode (.int (e : Nat))) → E cls d H'
        | .ok os => ∀ H' b, Same H H' → H b = none → Good os → BookAt K C_Book H' b os → Q (.ref b) H') := R
      obtain ⟨⟨dx5, hp5⟩, hk5⟩ := id D5
      refine ⟨_, rfl, p, dx5, _, rfl, hp5, rfl, p, ns, k, os, rfl, D5, h8, l0, ?_⟩
      cases ee : endF ns os k with
      | error e =>
        rw [ee] at R
        exact fun H' cls d kp er => R H' cls d (fun b u e => kp _ _ (s5 _ _ e) (ne_of_none e hp)) er
      | ok os' =>
        have eo : os' = os := by
          unfold endF at ee
          cases ef : byteF ns k (chkG (ns.take k)) (chkG (ns.take k)) with
          | error e => rw [ef] at ee; cases ee
          | ok x =>
            rw [ef] at ee
            simp only [] at ee
            split at ee
            · cases ee
            · cases ee; rfl
        subst eo
        rw [ee] at R
        intro H6 kp6
        have gd : Good os' := ok5.good (by rw [lo]; omega)
        refine ⟨_, rfl, l, as, os', rfl, .inr (SqL.of (kp6 _ _ el5 nlp)), O5.keepR (decKt D5 kp6), gd, fun H7 b s7 fb B7 => ?_⟩
        have s07 : Same H H7 := fun b u e => s7 _ _ (kp6 _ _ (s5 _ _ e) (ne_of_none e hp))
        refine R H7 b s07 ?_ gd B7
        cases z : H b with
        | none => rfl
        | some u => rw [kp6 _ _ (s5 _ _ z) (ne_of_none z hp)] at fb; cases fb
end

end MF
set_option Elab.async false
set_option linter.all false
set_option maxRecDepth 100000
set_option maxHeartbeats 2000000
set_option pp.maxSteps 600
namespace MF
open PySem PySem.Spec PyProof.Rows L2 StX
section
variable {P : Program} {w : World} {K : PySem.W.Frag} {mg : Str → Option Value} {base : Heap} {C_Book C_Letter C_Decoder C_MailError C_InvalidOrder C_UnknownOrder C_InvalidAddress C_InvalidDay C_InvalidNumber C_NotationError C_InvalidCount C_DecodeError : Addr}
def letErr (x d : V) : Option Err := if isAddrB x = true then (if isIntB d 0 1000000000000000000 = true then none else some .day) else some .address
end

end MF
set_option Elab.async false
set_option linter.all false
set_option maxRecDepth 100000
set_option maxHeartbeats 2000000
set_option pp.maxSteps 600
namespace MF
open PySem PySem.Spec PyProof.Rows L2 StX
section
variable {P : Program} {w : World} {K : PySem.W.Frag} {mg : Str → Option Value} {base : Heap} {C_Book C_Letter C_Decoder C_MailError C_InvalidOrder C_UnknownOrder C_InvalidAddress C_InvalidDay C_InvalidNumber C_NotationError C_InvalidCount C_DecodeError : Addr}
theorem ok_InvalidOrder (T : Top K mg C_Book C_Letter C_Decoder C_MailError C_InvalidOrder C_UnknownOrder C_InvalidAddress C_InvalidDay C_InvalidNumber C_NotationError C_InvalidCount C_DecodeError) : EFn P w K mg base CX0 1 C_InvalidOrder "InvalidOrder" ["self", "index"] (spE1 K C_InvalidOrder "index") := by
  refine T.d_InvalidOrderX_initX.fn fun f fd F => F.ok sc_InvalidOrderX_initX (fun vs H Q E h => ?_) (fun cdv A outer s H vs Q E hr h => ?_)
  · obtain ⟨a, v, rfl, _⟩ := h
    rfl
  · obtain ⟨a, v, rfl, hf, ha, k⟩ := h
    refine ⟨_, (pss_cons (ps_expr (pe_binit rfl T.g_MailError T.base_MailError (pa_cons (pv 0) (pa_cons (pe_joined (PJ.cons pe_str (PJ.cons (pe_fmtV (pv 1)) PJ.nil))) pa_nil))))
  (pss_one (ps_ost (pv 0) (pv 1)))), ?_⟩
    have ox := T.d_InvalidOrderX_initX.ox
    refine ⟨_, rfl, _, rfl, ?_, _, rfl, hf, fun y hy => ⟨_, rfl, ?_, ?_⟩⟩
    · decide +kernel
    · rw [Str.length_append]
      have : (Str.empty ++ ("invalid order at index " : Str)).length = 23 := by decide +kernel
      rw [this, sizeLine_eq]
      omega
    refine ⟨a, C_InvalidOrder, [.str _], rfl, by simp, ox, ha, ?_⟩
    exact ⟨_, rfl, _, rfl, a, C_InvalidOrder, rfl, ox, T.na_InvalidOrder, .inl ⟨ha, fun dx hd ne => k dx hd ne⟩⟩
def BadV (K : PySem.W.Frag) (H : Hp) (v : V) : Prop := (∃ a xs, v = .ref a ∧ SqT K H a xs ∧ (∀ x ∈ xs, notSeq x = true ∧ shortV x) ∧ isOrdB xs = false) ∨ (∃ a xs, v = .ref a ∧ SqL K H a xs) ∨ notSeq v = true
theorem BadV.mono {H H' : Hp} {v : V} (h : BadV K H v) (s : Same H H') : BadV K H' v := by
  rcases h with ⟨a, xs, h1, h2, h3⟩ | ⟨a, xs, h1, h2⟩ | h
  · exact .inl ⟨a, xs, h1, MF.Same.tup s h2, h3⟩
  · exact .inr (.inl ⟨a, xs, h1, s.seq h2⟩)
  · exact .inr (.inr h)
structure FirstBad (K : PySem.W.Frag) (H : Hp) (xs : List V) (n : Nat) : Prop where
  ex : ∃ as os v rest, xs = as.map V.ref ++ v :: rest ∧ OrdsAt K H as os ∧ (∀ o ∈ os, o.Ok) ∧ (os.Pairwise fun o p => overB o p = false) ∧ as.length = n ∧ n ≤ 30 ∧ (n = 30 ∨ BadV K H v ∨ ∃ a o p, v = .ref a ∧ OrdAt K H a o ∧ o.Ok ∧ p ∈ os ∧ overB p o = true)
theorem FirstBad.mono {H H' : Hp} {xs : List V} {n : Nat} (h : FirstBad K H xs n) (s : Same H H') : FirstBad K H' xs n := by
  obtain ⟨as, os, v, rest, h1, h2, h3, h4, h5, h6, h7⟩ := h.ex
  refine ⟨as, os, v, rest, h1, h2.mono s, h3, h4, h5, h6, ?_⟩
  rcases h7 with h | h | ⟨a, o, p, a1, a2, a3⟩
  · exact .inl h
  · exact .inr (.inl (h.mono s))
  · exact .inr (.inr ⟨a, o, p, a1, a2.mono s, a3⟩)
def spInitX (K : PySem.W.Frag) (c : Cls5) : Sp := fun vs H _ E => ∃ x t xs, ∃ n : Nat, vs = [.ref x, .ref t] ∧ SqT K H t xs ∧ FirstBad K H xs n ∧ ∀ H' cls d, Same H H' → ErrAt c cls d H' (.order (.int (n : Nat))) → E cls d H'
theorem okX_Book (T : Top K mg C_Book C_Letter C_Decoder C_MailError C_InvalidOrder C_UnknownOrder C_InvalidAddress C_InvalidDay C_InvalidNumber C_NotationError C_InvalidCount C_DecodeError) : IFn P w K mg base (L2.CX P w) 3 C_Book "Book" (fun vs H Q E => ∃ v rest, vs = v :: rest ∧ rest.length ≤ sizeLine ∧ ∀ p, H p = Option.none → spInitX K ⟨C_InvalidOrder, C_UnknownOrder, C_InvalidAddress, C_InvalidDay, C_InvalidNumber, C_MailError, C_MailError, C_MailError, C_MailError, C_InvalidCount, C_DecodeError, C_NotationError⟩ [v, V.ref p] (upd H p (.tup rest)) Q E) := by
  have G_is_order : GFn P w K mg base CX0 2 "is_order" (spIsOrder K) := ok_is_order T
  have G_do_overlap : GFn P w K mg base CX0 1 "do_overlap" (spOverlap K) := ok_do_overlap T
  have E_InvalidOrder : EFn P w K mg base CX0 1 C_InvalidOrder "InvalidOrder" ["self", "index"] (spE1 K C_InvalidOrder "index") := ok_InvalidOrder T
  refine T.d_BookX_initX.fnX (sp := spInitX K ⟨C_InvalidOrder, C_UnknownOrder, C_InvalidAddress, C_InvalidDay, C_InvalidNumber, C_MailError, C_MailError, C_MailError, C_MailError, C_InvalidCount, C_DecodeError, C_NotationError⟩) sc_BookX_initX fun f cdv A outer s H vs Q E hr h => ?_
  obtain ⟨x, t, xs, n, rfl, ht, fb, kk⟩ := h
  obtain ⟨as, os, v, rest, rfl, ho, ok, apart, hn, h30, hbad⟩ := fb.ex
  have fmtn : ∀ i : Nat, i ≤ 30 → FmtOk (.int (i : Nat)) := fun i hi => by
    show (i : Int).natAbs.log2 < 1920
    rw [Int.natAbs_natCast]
    have : i.log2 ≤ i := Nat.log2_le_self i
    omega
  refine ⟨_, (pss_cons (ps_for owns_cx rfl (pi_enumT (by rfl) T.b_enumerate (pa_cons (pv 1) pa_nil)) (pg_tup rfl (pgs_cons (pg_name (i := 2) sc_BookX_initX.nd rfl (Or.inl rfl)) (pgs_cons (pg_name (i := 3) sc_BookX_initX.nd rfl (Or.inl rfl)) pgs_nil)))
  (pss_cons (ps_if (PW.pt (pw_or (pt_cmpR op_eq (pv 2) (pe_gint T.c_MAX_ORDERS_books) (nomark _)) (pw_or1 (pt_not (pt_val (pe_g G_is_order (hr.mono (by decide)) (pa_cons (pv 3) pa_nil)))))))
  (pss_one (ps_raise rfl takeE (pmk_1 E_InvalidOrder (hr.mono (by decide)) (pa_cons (pv 2) pa_nil))))
  pss_nil)
  (pss_one (ps_for owns_cx rfl (pi_tup (pe_slice sl_tup (pv 1) po_none (po_some (pv 2)))) (pg_name (i := 4) sc_BookX_initX.nd rfl (Or.inl rfl))
  (pss_one (ps_if (pt_val (pe_g G_do_overlap (hr.mono (by decide)) (pa_cons (pv 4) (pa_cons (pv 3) pa_nil))))
  (pss_one (ps_raise rfl takeE (pmk_1 E_InvalidOrder (hr.mono (by decide)) (pa_cons (pv 2) pa_nil))))
  pss_nil))))))
  (pss_one (ps_fld (pv 0) (pv 1) rfl))), ?_⟩
  have hl : as.length = os.length := PySem.Paired.length ho
  have lx : (as.map V.ref ++ v :: rest).length = n + 1 + rest.length := by rw [List.length_append, List.length_map, hn, List.length_cons]; omega
  refine ⟨_, rfl, t, _, rfl, ht, for_it walk_enumT (fun i σ H' => i ≤ n ∧ Same H H' ∧ ∃ v2 v3 v4, σ = [some (.ref x), some (.ref t), v2, v3, v4]) ⟨Nat.zero_le _, Same.refl H, _, _, _, rfl⟩ (fun i σ H' _ ⟨_, s1, _⟩ => MF.Same.tup s1 ht) ?_ ?_⟩
  · rintro i y σ H1 H2 hi ⟨hin, s1, v2, v3, v4, rfl⟩ ⟨p, z1, z2, rfl, hp, rfl, e1, e2⟩
    cases e1
    replace e2 : (as.map V.ref ++ v :: rest)[i]? = some z2 := e2
    have s2 : Same H (upd H1 p (.tup [.int (i : Nat), z2])) := MF.Same.upd s1 hp
    refine ⟨p, _, rfl, .inl (.inl upd_same), rfl, _, _, rfl, _, _, rfl, rfl, ?_⟩
    generalize upd H1 p (.tup [.int (i : Nat), z2]) = H3 at s2
    refine ⟨_, rfl, rfl, _, rfl, ?_⟩
    by_cases c : i < n
    · have ne30 : decide (V.int ((i : Nat) : Int) = V.int 30) = false := decide_eq_false fun q => by
        have := V.int.inj q
        omega
      rw [ne30]
      refine iteF ?_
      obtain ⟨a, ea⟩ : ∃ a, as[i]? = some a := ⟨as[i], by simp [hn, c]⟩
      rw [List.getElem?_append_left (by rw [List.length_map, hn]; exact c), List.getElem?_map, ea] at e2
      cases e2
      obtain ⟨o, eo, oa⟩ := Paired.get ho ea
      have om : o ∈ os := List.mem_of_getElem? eo
      refine ⟨_, rfl, _, true, rfl, .inl ⟨a, _, rfl, oa.mono s2, isOrd_flat (ok o om), (ok o om).b.symm⟩, fun H4 s4 => ⟨_, rfl, iteF ?_⟩⟩
      have s14 := s2.trans s4
      have tt := MF.Same.tup s14 ht
      refine ⟨_, rfl, _, rfl, _, rfl, t, _, rfl, tt, ?_, fun p2 hp2 => ?_⟩
      · rw [HT.sIx_nat, lx]
        omega
      rw [cut_take _ _ (by rw [lx]; omega), List.take_append_of_le_length (by rw [List.length_map, hn]; omega)]
      refine ⟨p2, rfl, ⟨_, .inl (.inl upd_same)⟩, for_it (walk_tup (xs := (as.map V.ref).take i)) (fun j σ H' => Same H H' ∧ SqT K H' p2 ((as.map V.ref).take i) ∧ ∃ v4, σ = [some (.ref x), some (.ref t), some (.int (i : Nat)), some (.ref a), v4]) ⟨MF.Same.upd s14 hp2, .inl (.inl upd_same), _, rfl⟩ (fun j σ H' _ ⟨_, q, _⟩ => q) ?_ ?_⟩
      · rintro j y σ H4 H5 hj ⟨s4, q4, v4', rfl⟩ ⟨rfl, ey⟩
        rw [List.length_take, List.length_map] at hj
        have hji : j < i := by omega
        obtain ⟨b, eb⟩ : ∃ b, as[j]? = some b := ⟨as[j]'(by omega), by simp [show j < as.length by omega]⟩
        rw [List.getElem?_take, if_pos hji, List.getElem?_map, eb] at ey
        cases ey
        obtain ⟨o', eo', ob⟩ := Paired.get ho eb
        refine ⟨_, rfl, _, rfl, b, a, o', o, rfl, ob.mono s4, oa.mono s4, ⟨_, rfl, ?_⟩⟩
        have hov : overB o' o = false := by
          have hj' : j < os.length := by omega
          have hi' : i < os.length := by omega
          have := List.pairwise_iff_getElem.mp apart j i hj' hi' hji
          rw [List.getElem?_eq_getElem hj'] at eo'
          rw [List.getElem?_eq_getElem hi'] at eo
          cases eo'
          cases eo
          exact this
        rw [hov]
        exact iteF ⟨s4, q4, _, rfl⟩
      · rintro σ H4 ⟨s4, _, v4', rfl⟩
        exact ⟨c, s4, _, _, _, rfl⟩
    · have ein : i = n := by omega
      subst ein
      rw [List.getElem?_append_right (by rw [List.length_map, hn]; exact Nat.le_refl _), List.length_map, hn, Nat.sub_self] at e2
      cases e2
      by_cases c30 : i = 30
      · rw [show decide (V.int ((i : Nat) : Int) = V.int 30) = true from decide_eq_true (by rw [c30]; rfl)]
        refine iteT ?_
        exact ⟨_, rfl, e1_fin (fmtn i h30) fun d H5 s5 fd ed => kk _ _ _ (s2.trans s5) ⟨rfl, d, rfl, ed⟩⟩
      · have ne30 : decide (V.int ((i : Nat) : Int) = V.int 30) = false := decide_eq_false fun q => by
          have := V.int.inj q
          omega
        rw [ne30]
        refine iteF ?_
        rcases hbad with hb | hb | ⟨a, o, q, rfl, oa, oo, qm, qo⟩
        · exact absurd hb c30
        · have hb3 := hb.mono s2
          refine ⟨_, rfl, _, false, rfl, ?_, fun H4 s4 => ⟨_, rfl, iteT ⟨_, rfl, e1_fin (fmtn i h30) fun d H5 s5 fd ed => kk _ _ _ ((s2.trans s4).trans s5) ⟨rfl, d, rfl, ed⟩⟩⟩⟩
          rcases hb3 with ⟨a, xs, h1, h2, h3, h4⟩ | ⟨a, xs, h1, h2⟩ | h
          · exact .inl ⟨a, xs, h1, h2, h3, h4.symm⟩
          · exact .inr (.inl ⟨a, xs, h1, h2, rfl⟩)
          · exact .inr (.inr ⟨h, rfl⟩)
        · refine ⟨_, rfl, _, true, rfl, .inl ⟨a, _, rfl, oa.mono s2, isOrd_flat oo, oo.b.symm⟩, fun H4 s4 => ⟨_, rfl, iteF ?_⟩⟩
          have s14 := s2.trans s4
          have tt := MF.Same.tup s14 ht
          refine ⟨_, rfl, _, rfl, _, rfl, t, _, rfl, tt, ?_, fun p2 hp2 => ?_⟩
          · rw [HT.sIx_nat, lx]
            omega
          rw [cut_take _ _ (by rw [lx]; omega), List.take_append_of_le_length (by rw [List.length_map, hn]; omega)]
          refine ⟨p2, rfl, ⟨_, .inl (.inl upd_same)⟩, for_it (walk_tup (xs := (as.map V.ref).take i)) (fun j σ H' => Same H H' ∧ SqT K H' p2 ((as.map V.ref).take i) ∧ (∀ (m : Nat) q, m < j → os[m]? = some q → overB q o = false) ∧ ∃ v4, σ = [some (.ref x), some (.ref t), some (.int (i : Nat)), some (.ref a), v4]) ⟨MF.Same.upd s14 hp2, .inl (.inl upd_same), (fun m q hm => absurd hm (Nat.not_lt_zero _)), _, rfl⟩ (fun j σ H' _ ⟨_, q, _⟩ => q) ?_ ?_⟩
          · rintro j y σ H4 H5 hj ⟨s4, q4, nov, v4', rfl⟩ ⟨rfl, ey⟩
            rw [List.length_take, List.length_map] at hj
            have hji : j < i := by omega
            obtain ⟨b, eb⟩ : ∃ b, as[j]? = some b := ⟨as[j]'(by omega), by simp [show j < as.length by omega]⟩
            rw [List.getElem?_take, if_pos hji, List.getElem?_map, eb] at ey
            cases ey
            obtain ⟨o', eo', ob⟩ := Paired.get ho eb
            refine ⟨_, rfl, _, rfl, b, a, o', o, rfl, ob.mono s4, oa.mono s4, ⟨_, rfl, ?_⟩⟩
            cases hov : overB o' o with
            | true => exact iteT ⟨_, rfl, e1_fin (fmtn i h30) fun d H5 s5 fd ed => kk _ _ _ (s4.trans s5) ⟨rfl, d, rfl, ed⟩⟩
            | false =>
              refine iteF ⟨s4, q4, fun m q hm em => ?_, _, rfl⟩
              by_cases e : m = j
              · subst e
                rw [eo'] at em
                cases em
                exact hov
              · exact nov m q (by omega) em
          · rintro σ H4 ⟨s4, _, nov, v4', rfl⟩
            exfalso
            obtain ⟨m, hm, em⟩ := List.mem_iff_getElem.mp qm
            have := nov m q (by rw [List.length_take, List.length_map, hn]; omega) (by rw [← em]; simp [hm])
            rw [qo] at this
            cases this
  · rintro σ H1 ⟨hin, s1, v2, v3, v4, rfl⟩
    rw [lx] at hin
    omega
end

end MF
set_option Elab.async false
set_option linter.all false
set_option maxRecDepth 100000
set_option maxHeartbeats 2000000
set_option pp.maxSteps 600
namespace MF
open PySem PySem.Spec PyProof.Rows L2 StX
section
variable {P : Program} {w : World} {K : PySem.W.Frag} {mg : Str → Option Value} {base : Heap} {C_Book C_Letter C_Decoder C_MailError C_InvalidOrder C_UnknownOrder C_InvalidAddress C_InvalidDay C_InvalidNumber C_NotationError C_InvalidCount C_DecodeError : Addr}
def spIsNumber : Sp := fun vs H Q _ => ∃ z, vs = [.str z] ∧ z.length ≤ 1000 ∧ ∀ H', Same H H' → Q (.bl (numB z)) H'
theorem ok_is_number (T : Top K mg C_Book C_Letter C_Decoder C_MailError C_InvalidOrder C_UnknownOrder C_InvalidAddress C_InvalidDay C_InvalidNumber C_NotationError C_InvalidCount C_DecodeError) : GFn P w K mg base CX0 1 "is_number" spIsNumber := by
  refine T.d_is_number.fn fun f fd F => F.ok sc_is_number (fun vs H Q E h => ?_) (fun cdv A outer s H vs Q E hr h => ?_)
  · obtain ⟨z, rfl, _⟩ := h
    rfl
  · obtain ⟨z, rfl, hz, k⟩ := h
    refine ⟨_, (pss_cons (ps_if (PW.pt (pw_or (pt_not (pt_chain op_le op_le pe_int (pe_callB call_len_str (by rfl) T.b_len (by decide +kernel) (pa_cons (pv 0) pa_nil)) (pe_gint T.c_MAX_DIGITS))) (pw_or1 (pt_not (pt_val (pe_callB (cr_all rfl) (by rfl) T.b_all (by decide +kernel) (pa_cons (pe_lc (own := [("digit", 1)]) (g := (gName 1)) (by rfl) sc_is_number.nd (pi_str (pv 0)) (blkOk_by (own := [("digit", 1)]) (N := ["word", "digit"]) (sc := defScope s_is_number) (by decide +kernel)) (fun _ _ _ _ _ => (pg_name (i := 1) sc_is_number.nd rfl (Or.inl rfl))) (fun _ _ _ _ _ => pts_nil) (fun _ _ _ _ _ => (pe_cmpR op_in_sign (pv 1) (pe_gstr T.c_DIGITS) rfl))) pa_nil)))))))
  (pss_one (ps_ret pe_bl))
  pss_nil)
  (pss_one (ps_ret (pe_or (pe_cmpR op_eq (pv 0) pe_str (nomark _)) (pe_one (pe_cmpR op_ne (pe_ix ix_str (pv 0) pe_int (fun _ _ => rfl)) pe_str (nomark _))))))), ?_⟩
    refine ⟨_, rfl, z, rfl, by rw [sizeLine_eq]; omega, _, _, rfl, rfl, _, rfl, ?_⟩
    have hf : numB z = false → Q (.bl false) H := fun e => by rw [← e]; exact k H (Same.refl H)
    refine ite2 (fun h1 => ?_) (fun h1 => ?_)
    · have h1' : 1 ≤ z.length := by have := of_decide_eq_true h1; omega
      refine ⟨_, _, rfl, rfl, _, rfl, ?_⟩
      by_cases h2 : z.length ≤ 19
      · have h2' : decide (((z.length : Nat) : Int) ≤ 19) = true := decide_eq_true (by omega)
        rw [h2']
        refine iteF ?_
        refine ⟨_, rfl, z, rfl, fun D hD => lc_it walk_str (fun i H' => Same H H' ∧ H' D = some (.lst ((z.cps.toList.take i).map fun c => V.bl (decide (c ∈ figs.cps.toList))))) ⟨Same.new hD, upd_same⟩ (fun _ _ _ _ => trivial) ?_ ?_⟩
        · rintro i x H1 H2 hi ⟨s1, l1⟩ ⟨rfl, c, hc, rfl⟩
          have hlt : i < z.cps.size := hi
          have hlen : z.cps.size = z.length := rfl
          refine ⟨rfl, yesT ?_⟩
          refine iteT ?_
          refine ⟨_, rfl, c, _, rfl, rfl, _, l1, ?_, ?_, ?_⟩
          · rw [List.length_map]
            exact Nat.lt_of_le_of_lt (List.length_take_le _ _) (Nat.lt_of_lt_of_le (Nat.lt_of_lt_of_le hlt (hlen ▸ h2)) (by decide))
          · intro b o e
            have nb : b ≠ D := ne_of_none e hD
            rw [upd_ne nb]
            exact s1 b o e
          · rw [upd_same]
            have e1 : z.cps.toList[i]? = some c := by simpa using hc
            rw [List.take_add_one, e1]
            simp [figs]
        · rintro H1 ⟨s1, l1⟩
          have e1 : z.cps.toList.take z.cps.size = z.cps.toList := List.take_of_length_le (by simp)
          rw [e1] at l1
          have e2 : (z.cps.toList.map fun c => V.bl (decide (c ∈ figs.cps.toList))) = (z.cps.toList.map fun c => decide (c ∈ figs.cps.toList)).map V.bl := by rw [List.map_map]; rfl
          rw [e2] at l1
          refine ⟨D, _, rfl, SqL.of l1, ?_⟩
          have e3 : ((z.cps.toList.map fun c => decide (c ∈ figs.cps.toList)).all id) = (z.cps.toList.all fun c => decide (c ∈ figs.cps.toList)) := by
            rw [List.all_map]
            rfl
          rw [e3]
          have nb : numB z = ((z.cps.toList.all fun c => decide (c ∈ figs.cps.toList)) && (decide (z = "0") || decide (z.cps.toList.head? ≠ some 48))) := by
            unfold numB
            rw [decide_eq_true h1', decide_eq_true h2]
            rfl
          cases ca : z.cps.toList.all fun c => decide (c ∈ figs.cps.toList) with
          | false =>
            refine ⟨_, rfl, iteT ?_⟩
            have : numB z = false := by rw [nb, ca]; rfl
            rw [← this]
            exact k H1 s1
          | true =>
            refine ⟨_, rfl, iteF ?_⟩
            rw [ca, Bool.true_and] at nb
            refine ⟨_, rfl, rfl, _, rfl, ?_⟩
            by_cases c0 : z = "0"
            · refine iteD (by rw [c0]) ?_
              have : numB z = true := by rw [nb, decide_eq_true c0]; rfl
              rw [← this]
              exact k H1 s1
            · refine iteDN (fun q => c0 (V.str.inj q)) ?_
              obtain ⟨c, ec⟩ : ∃ c, z.cps.toList[0]? = some c := ⟨_, List.getElem?_eq_getElem (by rw [Array.length_toList]; exact h1')⟩
              refine ⟨_, rfl, z, 0, c, rfl, rfl, by rw [sizeLine_eq]; omega, atI_nat (j := 0) ec, rfl, ?_⟩
              have : numB z = !decide (V.str ⟨#[c]⟩ = V.str "0") := by
                rw [nb, decide_eq_false c0, Bool.false_or, List.head?_eq_getElem?, ec]
                by_cases cc : c = 48
                · subst cc
                  decide +kernel
                · have : ¬ V.str ⟨#[c]⟩ = V.str "0" := fun q => by
                    have h3 := V.str.inj q
                    have h4 : (⟨#[c]⟩ : Str).cps.toList = ("0" : Str).cps.toList := by rw [h3]
                    have h5 : ("0" : Str).cps.toList = [48] := by decide +kernel
                    rw [h5] at h4
                    exact cc (by simpa using h4)
                  rw [decide_eq_false this]
                  simp [cc]
              rw [← this]
              exact k H1 s1
      · have h2' : decide (((z.length : Nat) : Int) ≤ 19) = false := decide_eq_false (by omega)
        rw [h2']
        exact iteT (hf (by simp [numB, h2]))
    · have h1' : ¬ 1 ≤ z.length := fun q => h1 (decide_eq_true (by omega))
      exact ⟨false, rfl, iteT (hf (by simp [numB, h1']))⟩
def spIsGood : Sp := fun vs H Q _ => ∃ (j : Nat) (z : Str), vs = [.int (j : Nat), .str z] ∧ z.length ≤ 1000 ∧ ∀ H', Same H H' → Q (.bl (goodW j z)) H'
theorem ok_is_good (T : Top K mg C_Book C_Letter C_Decoder C_MailError C_InvalidOrder C_UnknownOrder C_InvalidAddress C_InvalidDay C_InvalidNumber C_NotationError C_InvalidCount C_DecodeError) : GFn P w K mg base CX0 2 "is_good" spIsGood := by
  have G_is_address : GFn P w K mg base CX0 1 "is_address" spIsAddress := ok_is_address T
  have G_is_number : GFn P w K mg base CX0 1 "is_number" spIsNumber := ok_is_number T
  refine T.d_is_good.fn fun f fd F => F.ok sc_is_good (fun vs H Q E h => ?_) (fun cdv A outer s H vs Q E hr h => ?_)
  · obtain ⟨j, z, rfl, _⟩ := h
    rfl
  · obtain ⟨j, z, rfl, hz, k⟩ := h
    refine ⟨_, (pss_cons (ps_if (pt_cmpR op_eq (pv 0) pe_int (nomark _))
  (pss_one (ps_ret (pe_cmpR op_eq (pv 1) (pe_gstr T.c_WORD) (nomark _))))
  pss_nil)
  (pss_one (ps_ret (pe_ifExp (pt_cmpR op_lt (pv 0) pe_int (nomark _)) (pe_g G_is_address (hr.mono (by decide)) (pa_cons (pv 1) pa_nil)) (pe_g G_is_number (hr.mono (by decide)) (pa_cons (pv 1) pa_nil)))))), ?_⟩
    refine ⟨_, rfl, rfl, _, rfl, ?_⟩
    by_cases c0 : j = 0
    · subst c0
      refine iteD rfl ?_
      refine ⟨_, rfl, rfl, ?_⟩
      have : decide (V.str z = V.str "order") = goodW 0 z := by
        show _ = decide (z = "order")
        rw [Bool.eq_iff_iff, decide_eq_true_eq, decide_eq_true_eq]
        exact ⟨V.str.inj, fun h => by rw [h]⟩
      rw [this]
      exact k H (Same.refl H)
    · refine iteDN (fun q => c0 (by have := V.int.inj q; omega)) ?_
      refine ⟨_, rfl, _, _, rfl, rfl, _, rfl, ?_⟩
      by_cases c3 : j < 3
      · refine iteD (by show ((j : Nat) : Int) < 3; omega) ?_
        refine ⟨_, rfl, _, rfl, rfl, (by show z.length ≤ sizeLine; rw [sizeLine_eq]; omega), fun H' s' => ?_⟩
        have : isAddrB (.str z) = goodW j z := by unfold goodW; rw [if_neg c0, if_pos c3]
        rw [this]
        exact k H' s'
      · refine iteDN (fun h => c3 (by have : ((j : Nat) : Int) < 3 := h; omega)) ?_
        refine ⟨_, rfl, z, rfl, hz, fun H' s' => ?_⟩
        have : numB z = goodW j z := by unfold goodW; rw [if_neg c0, if_neg c3]
        rw [this]
        exact k H' s'
end

end MF
set_option Elab.async false
set_option linter.all false
set_option maxRecDepth 100000
set_option maxHeartbeats 2000000
set_option pp.maxSteps 600
namespace MF
open PySem PySem.Spec PyProof.Rows L2 StX
section
variable {P : Program} {w : World} {K : PySem.W.Frag} {mg : Str → Option Value} {base : Heap} {C_Book C_Letter C_Decoder C_MailError C_InvalidOrder C_UnknownOrder C_InvalidAddress C_InvalidDay C_InvalidNumber C_NotationError C_InvalidCount C_DecodeError : Addr}
def spE2 (K : PySem.W.Frag) (C : Addr) (n1 n2 : Str) : Sp := fun vs H Q _ => ∃ a v u, vs = [.ref a, v, u] ∧ FmtOk v ∧ FmtOk u ∧ H a = some (exo a C none) ∧ ∀ dx, H dx = none → dx ≠ a → Q .non (upd (upd (upd H dx (exd dx [(n1, v)])) a (exo a C (some dx))) dx (exd dx [(n2, u), (n1, v)]))
theorem e2_fin {C : Addr} {n1 n2 : Str} {v u : V} {H1 : Hp} {Q : XK} (hf : FmtOk v) (hg : FmtOk u) (h : ∀ d H3, Same H1 H3 → H1 d = none → H3 d = some (.xd [(n2, u), (n1, v)]) → Q (.ref C) (some d) H3) :
    [v, u].length ≤ 1000 ∧ ∀ a, H1 a = none → spE2 K C n1 n2 (.ref a :: ([v, u] ++ [])) (upd H1 a (exo a C none))
      (fun v H2 => v = .non ∧ ∃ (d : Addr) (fs : List (Str × V)), H2 a = some (exo a C (some d)) ∧ H2 d = some (exd d fs) ∧ H1 d = none ∧ Q (.ref C) (some d) (upd (del H2 a) d (.xd fs))) (fun _ _ _ => False) := by
  refine ⟨by simp, fun a ha => ⟨a, v, u, rfl, hf, hg, upd_same, fun dx hd ne => ⟨rfl, dx, [(n2, u), (n1, v)], ?_, upd_same, ?_, ?_⟩⟩⟩
  · rw [upd_ne ne.symm, upd_same]
  · rw [upd_ne ne] at hd
    exact hd
  · have hd1 : H1 dx = none := by
      rw [upd_ne ne] at hd
      exact hd
    refine h dx _ (fun b u e => ?_) hd1 upd_same
    rw [upd_ne (ne_of_none e hd1), del_ne (ne_of_none e ha), upd_ne (ne_of_none e hd1), upd_ne (ne_of_none e ha), upd_ne (ne_of_none e hd1), upd_ne (ne_of_none e ha)]
    exact e
theorem ok_NotationError (T : Top K mg C_Book C_Letter C_Decoder C_MailError C_InvalidOrder C_UnknownOrder C_InvalidAddress C_InvalidDay C_InvalidNumber C_NotationError C_InvalidCount C_DecodeError) : EFn P w K mg base CX0 1 C_NotationError "NotationError" ["self", "row", "word"] (spE2 K C_NotationError "row" "word") := by
  refine T.d_NotationErrorX_initX.fn fun f fd F => F.ok sc_NotationErrorX_initX (fun vs H Q E h => ?_) (fun cdv A outer s H vs Q E hr h => ?_)
  · obtain ⟨a, v, u, rfl, _⟩ := h
    rfl
  · obtain ⟨a, v, u, rfl, hf, hg, ha, k⟩ := h
    refine ⟨_, (pss_cons (ps_expr (pe_binit rfl T.g_MailError T.base_MailError (pa_cons (pv 0) (pa_cons (pe_joined (PJ.cons pe_str (PJ.cons (pe_fmtV (pv 2)) (PJ.cons pe_str (PJ.cons (pe_fmtV (pv 1)) PJ.nil))))) pa_nil))))
  (pss_cons (ps_ost (pv 0) (pv 1))
  (pss_one (ps_ost (pv 0) (pv 2))))), ?_⟩
    have ox := T.d_NotationErrorX_initX.ox
    refine ⟨_, rfl, _, rfl, ?_, _, rfl, hg, fun y hy => ⟨_, rfl, ?_, _, rfl, ?_, _, rfl, hf, fun y2 hy2 => ⟨_, rfl, ?_, ?_⟩⟩⟩
    · decide +kernel
    · rw [Str.length_append]
      have : (Str.empty ++ ("invalid word " : Str)).length = 13 := by decide +kernel
      rw [this, sizeLine_eq]
      omega
    · rw [Str.length_append, Str.length_append]
      have : (Str.empty ++ ("invalid word " : Str)).length = 13 := by decide +kernel
      have h2 : (" in row " : Str).length = 8 := by decide +kernel
      rw [this, h2, sizeLine_eq]
      omega
    · rw [Str.length_append, Str.length_append, Str.length_append]
      have : (Str.empty ++ ("invalid word " : Str)).length = 13 := by decide +kernel
      have h2 : (" in row " : Str).length = 8 := by decide +kernel
      rw [this, h2, sizeLine_eq]
      omega
    refine ⟨a, C_NotationError, [.str _], rfl, by simp, ox, ha, ?_⟩
    refine ⟨_, rfl, _, rfl, a, C_NotationError, rfl, ox, T.na_NotationError_row, .inl ⟨ha, fun dx hd ne => ?_⟩⟩
    refine ⟨_, rfl, _, rfl, a, C_NotationError, rfl, ox, T.na_NotationError_word, .inr ⟨dx, [("row", v)], upd_same, by rw [upd_ne ne, upd_same], by simp, k dx hd ne⟩⟩
def LineOk (ws : List Str) : Prop := ws ≠ [] ∧ ws.length ≤ 8 ∧ ∀ w ∈ ws, WordOk w
def spOrderOf (K : PySem.W.Frag) (c : Cls5) : Sp := fun vs H Q E => ∃ (r : Nat) (ws : List Str), vs = [.int (r : Nat), .str (nLine ws)] ∧ r ≤ 100 ∧ LineOk ws ∧
  (badAt ws = none → ∀ H' q, Same H H' → H q = none → OrdAt K H' q (ordW ws) → Q (.ref q) H') ∧
  (∀ j, badAt ws = some j → ∀ H' cls d, Same H H' → ErrAt c cls d H' (.note (.int (r : Nat)) (.int (j : Nat))) → E cls d H')
theorem okX_order_of (T : Top K mg C_Book C_Letter C_Decoder C_MailError C_InvalidOrder C_UnknownOrder C_InvalidAddress C_InvalidDay C_InvalidNumber C_NotationError C_InvalidCount C_DecodeError) : GFn P w K mg base (L2.CX P w) 3 "order_of" (spOrderOf K ⟨C_InvalidOrder, C_UnknownOrder, C_InvalidAddress, C_InvalidDay, C_InvalidNumber, C_MailError, C_MailError, C_MailError, C_MailError, C_InvalidCount, C_DecodeError, C_NotationError⟩) := by
  have G_is_good : GFn P w K mg base CX0 2 "is_good" spIsGood := ok_is_good T
  have E_NotationError : EFn P w K mg base CX0 1 C_NotationError "NotationError" ["self", "row", "word"] (spE2 K C_NotationError "row" "word") := ok_NotationError T
  refine T.d_order_of.fnX sc_order_of (fun vs H Q E h => ?_) (fun f cdv A outer s H vs Q E hr h => ?_)
  · obtain ⟨r, ws, rfl, _⟩ := h
    rfl
  · obtain ⟨r, ws, rfl, r100, ⟨wne, w8, wok⟩, kq, ke⟩ := h
    have fmtn : ∀ i : Nat, i ≤ 100 → FmtOk (.int (i : Nat)) := fun i hi => by
      show (i : Int).natAbs.log2 < 1920
      rw [Int.natAbs_natCast]
      have : i.log2 ≤ i := Nat.log2_le_self i
      omega
    refine ⟨_, (pss_cons (ps_set (i := 2) sc_order_of.nd rfl (Or.inl rfl) (pe_split (pv 1) pe_str))
  (pss_cons (ps_for owns_cx rfl (pi_range1 (by rfl) T.b_range (pa_cons (pe_gint T.c_WORDS) pa_nil)) (pg_name (i := 3) sc_order_of.nd rfl (Or.inl rfl))
  (pss_one (ps_if (PW.pt (pw_or (pt_cmpR op_ge (pv 3) (pe_callB call_len_seq (by rfl) T.b_len (by decide +kernel) (pa_cons (pv 2) pa_nil)) (nomark _)) (pw_or1 (pt_not (pt_val (pe_g G_is_good (hr.mono (by decide)) (pa_cons (pv 3) (pa_cons (pe_ix ix_list (pv 2) (pv 3) (fun _ _ => rfl)) pa_nil))))))))
  (pss_one (ps_raise rfl takeE (pmk_1 E_NotationError (hr.mono (by decide)) (pa_cons (pv 0) (pa_cons (pv 3) pa_nil)))))
  pss_nil)))
  (pss_cons (ps_if (pt_cmpR op_gt (pe_callB call_len_seq (by rfl) T.b_len (by decide +kernel) (pa_cons (pv 2) pa_nil)) (pe_gint T.c_WORDS) (nomark _))
  (pss_one (ps_raise rfl takeE (pmk_1 E_NotationError (hr.mono (by decide)) (pa_cons (pv 0) (pa_cons (pe_gint T.c_WORDS) pa_nil)))))
  pss_nil)
  (pss_one (ps_ret (pe_tup (pa_cons (pe_ix ix_list (pv 2) pe_int (fun _ _ => rfl)) (pa_cons (pe_ix ix_list (pv 2) pe_int (fun _ _ => rfl)) (pa_cons (pe_callTy call_int_str (by rfl) T.b_int (by decide +kernel) (pa_cons (pe_ix ix_list (pv 2) pe_int (fun _ _ => rfl)) pa_nil)) (pa_cons (pe_callTy call_int_str (by rfl) T.b_int (by decide +kernel) (pa_cons (pe_ix ix_list (pv 2) pe_int (fun _ _ => rfl)) pa_nil)) (pa_cons (pe_callTy call_int_str (by rfl) T.b_int (by decide +kernel) (pa_cons (pe_ix ix_list (pv 2) pe_int (fun _ _ => rfl)) pa_nil)) pa_nil))))))))))), ?_⟩
    have ll : (nLine ws).length ≤ 168 := line_len (L := [ws]) ⟨by simp, fun z hz => by rw [List.mem_singleton.mp hz]; exact wne, fun z hz => by rw [List.mem_singleton.mp hz]; exact w8, fun z hz => by rw [List.mem_singleton.mp hz]; exact wok⟩ (by simp)
    have sp := line_split wne fun x hx => (wok x hx).sp
    refine ⟨_, rfl, ⟨_, rfl⟩, _, _, rfl, rfl, (by decide +kernel), by rw [sizeLine_eq]; omega, ?_⟩
    rw [sp]
    intro l hl
    generalize gH1 : L2.upd _ l _ = H1
    obtain ⟨s1, e1⟩ := newS hl gH1
    clear gH1
    refine ⟨6, rfl, (by decide), (by decide), for_it walk_range (fun i σ H' => Same H1 H' ∧ (∀ m, m < i → badP ws m = false) ∧ ∃ v, σ = [some (.int (r : Nat)), some (.str (nLine ws)), some (.ref l), v]) ⟨Same.refl _, (fun m hm => absurd hm (Nat.not_lt_zero _)), _, rfl⟩ (fun _ _ _ _ _ => trivial) ?_ ?_⟩
    · rintro i y σ H2 H2' hi ⟨s2, hm, v, rfl⟩ ⟨rfl, ey⟩
      replace ey : y = .int (i : Nat) := by
        rw [ey]
        show V.int (0 + (i : Nat)) = _
        rw [Int.zero_add]
      subst ey
      have hi6 : i < 6 := hi
      have el := s2 _ _ e1
      refine ⟨_, rfl, _, rfl, l, _, rfl, .inl (SqL.of el), _, _, rfl, rfl, _, rfl, ?_⟩
      rw [List.length_map]
      have bad : badP ws i = true → ∀ H', Same H H' → tMkO C_NotationError (spE2 K C_NotationError "row" "word") [] (tCons (tVar 0) (tCons (tVar 3) tNil)) [some (.int (r : Nat)), some (.str (nLine ws)), some (.ref l), some (.int (i : Nat))] H' fun cls d H' => E cls d H' := fun hb H' s' =>
        ⟨_, rfl, _, rfl, e2_fin (fmtn r r100) (fmtn i (by omega)) fun d H5 s5 fd ed => ke i (badAt_first hm hi6 hb) _ _ _ (s'.trans s5) ⟨rfl, d, rfl, ed⟩⟩
      by_cases c : ws.length ≤ i
      · refine iteD (by show ((ws.length : Nat) : Int) ≤ (i : Nat); omega) ?_
        refine iteT (bad ?_ _ (s1.trans s2))
        unfold badP
        rw [List.getElem?_eq_none c]
      · refine iteDN (fun h => c (by have : ((ws.length : Nat) : Int) ≤ (i : Nat) := h; omega)) ?_
        obtain ⟨x, ex⟩ : ∃ x, ws[i]? = some x := ⟨ws[i], List.getElem?_eq_getElem (by omega)⟩
        refine ⟨_, rfl, _, rfl, _, rfl, l, _, _, _, rfl, rfl, SqL.of el, atI_nat (by rw [List.getElem?_map, ex]; rfl), i, x, rfl, Nat.le_trans (wok x (List.mem_of_getElem? ex)).len (by decide), fun H3 s3 => ⟨_, rfl, ?_⟩⟩
        have hb : badP ws i = !goodW i x := by unfold badP; rw [ex]
        cases cg : goodW i x with
        | true =>
          refine iteF ⟨s2.trans s3, fun m hmi => ?_, _, rfl⟩
          by_cases e : m = i
          · rw [e, hb, cg]; rfl
          · exact hm m (by omega)
        | false => exact iteT (bad (by rw [hb, cg]; rfl) _ ((s1.trans s2).trans s3))
    · rintro σ H2 ⟨s2, hm, v, rfl⟩
      have el := s2 _ _ e1
      have hb := badAt_rest hm
      refine ⟨_, rfl, l, _, rfl, .inl (SqL.of el), _, _, rfl, rfl, _, rfl, ?_⟩
      rw [List.length_map]
      by_cases c : 6 < ws.length
      · refine iteD (by show (6 : Int) < (ws.length : Nat); omega) ?_
        rw [if_pos c] at hb
        exact ⟨_, rfl, e2_fin (fmtn r r100) (fmtn 6 (by decide)) fun d H5 s5 fd ed => ke 6 hb _ _ _ ((s1.trans s2).trans s5) ⟨rfl, d, rfl, ed⟩⟩
      · refine iteDN (fun h => c (by have : (6 : Int) < (ws.length : Nat) := h; omega)) ?_
        rw [if_neg c] at hb
        obtain ⟨l6, hg⟩ := badAt_none hb
        obtain ⟨w0, w1, w2, w3, w4, w5, rfl⟩ := six l6
        have n3 := numB_int (w := w3) (hg 3 _ rfl)
        have n4 := numB_int (w := w4) (hg 4 _ rfl)
        have n5 := numB_int (w := w5) (hg 5 _ rfl)
        have S := SqL.of (K := K) el
        refine ⟨_, rfl, l, _, 1, .str w1, rfl, rfl, S, rfl, _, rfl, l, _, 2, .str w2, rfl, rfl, S, rfl, _, rfl, l, _, 3, .str w3, rfl, rfl, S, rfl, w3, _, rfl, n3.1, by omega, ?_⟩
        refine ⟨_, rfl, l, _, 4, .str w4, rfl, rfl, S, rfl, w4, _, rfl, n4.1, by omega, _, rfl, l, _, 5, .str w5, rfl, rfl, S, rfl, w5, _, rfl, n5.1, by omega, ?_⟩
        refine ⟨(by show 5 ≤ sizeLine; decide), ?_⟩
        intro q hq
        generalize gH3 : L2.upd _ q _ = H3
        obtain ⟨s3, e3⟩ := newS hq gH3
        clear gH3
        exact kq hb H3 q ((s1.trans s2).trans s3) ((s1.trans s2).free hq) (.inl (.inl e3))
end

end MF
set_option Elab.async false
set_option linter.all false
set_option maxRecDepth 100000
set_option maxHeartbeats 2000000
set_option pp.maxSteps 600
namespace MF
open PySem PySem.Spec PyProof.Rows L2 StX
section
variable {P : Program} {w : World} {K : PySem.W.Frag} {mg : Str → Option Value} {base : Heap} {C_Book C_Letter C_Decoder C_MailError C_InvalidOrder C_UnknownOrder C_InvalidAddress C_InvalidDay C_InvalidNumber C_NotationError C_InvalidCount C_DecodeError : Addr}
def spBookOfX (K : PySem.W.Frag) (c : Cls5) : Sp := fun vs H _ E => ∃ t xs, ∃ n : Nat, vs = [.ref t] ∧ (SqT K H t xs ∨ SqL K H t xs) ∧ xs.length ≤ sizeLine ∧ FirstBad K H xs n ∧ ∀ H' cls d, Same H H' → ErrAt c cls d H' (.order (.int (n : Nat))) → E cls d H'
theorem okX_book_of (T : Top K mg C_Book C_Letter C_Decoder C_MailError C_InvalidOrder C_UnknownOrder C_InvalidAddress C_InvalidDay C_InvalidNumber C_NotationError C_InvalidCount C_DecodeError) : GFn P w K mg base (L2.CX P w) 5 "book_of" (spBookOfX K ⟨C_InvalidOrder, C_UnknownOrder, C_InvalidAddress, C_InvalidDay, C_InvalidNumber, C_MailError, C_MailError, C_MailError, C_MailError, C_InvalidCount, C_DecodeError, C_NotationError⟩) := by
  have X_Book := okX_Book (P := P) (w := w) (base := base) T
  refine T.d_book_of.fnX sc_book_of (fun vs H Q E h => ?_) (fun f cdv A outer s H vs Q E hr h => ?_)
  · obtain ⟨t, xs, n, rfl, _⟩ := h
    rfl
  · obtain ⟨t, xs, n, rfl, ht, hl, fb, k⟩ := h
    refine ⟨_, pss_one (ps_ret (pe_mkS X_Book (hr.mono (by decide)) passE (pv 0))), ?_⟩
    refine ⟨_, rfl, t, _, rfl, ht, ?_⟩
    intro x dx hx hdx ne
    have fb' : FirstBad K H (xs ++ []) n := by rw [List.append_nil]; exact fb
    refine ⟨_, _, rfl, by rw [List.append_nil]; exact hl, fun p hp => ?_⟩
    have s0 : Same H (upd (upd H dx (.own x)) x (.ins C_Book dx [])) := fun b o e => by
      rw [upd_ne (ne_of_none e hx), upd_ne (ne_of_none e hdx)]
      exact e
    have s1 := s0.trans (Same.new (o := .tup (xs ++ [])) hp)
    exact ⟨x, p, xs ++ [], n, rfl, .inl (.inl upd_same), fb'.mono s1, fun H' cls d s h => k _ _ _ (s1.trans s) h⟩
theorem addr_len46 {z : Str} (h : isAddrB (.str z) = true) : z.length ≤ 8 := by
  unfold isAddrB at h
  simp only [Bool.and_eq_true, decide_eq_true_eq] at h
  exact h.1.2
theorem take46 {α β : Type} {R : α → β → Prop} : ∀ {as : List α} {pre rest : List β}, PySem.Paired R as (pre ++ rest) → PySem.Paired R (as.take pre.length) pre
  | _, [], _, _ => by rw [List.length_nil, List.take_zero]; exact .nil
  | _, _ :: pre, rest, .cons a t => .cons a (take46 (pre := pre) (rest := rest) t)
theorem not_ord46 {o : Ordr} (r : RawOk o) (h : okOrd o = false) : isOrdB o.vals = false := by
  cases c : isOrdB o.vals with
  | false => rfl
  | true =>
    unfold isOrdB Ordr.vals at c
    simp only [isIntB, Bool.and_eq_true, decide_eq_true_eq, Bool.not_eq_true', decide_eq_false_iff_not] at c
    obtain ⟨⟨_, h1⟩, ⟨⟨_, h2⟩, ⟨_, h3⟩⟩, h4, h5⟩ := c
    have : okOrd o = true := by
      unfold okOrd
      simp [h2, h3, h4, h5]
      exact fun z => h1 (by rw [z])
    rw [this] at h
    cases h
theorem FirstBad.rows {H : Hp} {as : List Addr} {os : List Ordr} {n : Nat} (ho : OrdsAt K H as os) (hr : ∀ o ∈ os, RawOk o) (h : badOrd [] os = some n) (hs : ∀ o ∈ os, o.src.length ≤ 1000 ∧ o.tgt.length ≤ 1000) : FirstBad K H (as.map V.ref) n := by
  obtain ⟨pre, o, rest, rfl, g, hl, hb⟩ := badOrd_some ⟨by simp, by simp, .nil⟩ hr h
  rw [List.nil_append] at g hl hb
  have la := PySem.Paired.length ho
  rw [List.length_append, List.length_cons] at la
  obtain ⟨a, ea⟩ : ∃ a, as[pre.length]? = some a := ⟨as[pre.length]'(by omega), List.getElem?_eq_getElem _⟩
  obtain ⟨o', eo, oa⟩ := Paired.get ho ea
  rw [List.getElem?_append_right (Nat.le_refl _), Nat.sub_self] at eo
  cases eo
  have ha : as = as.take pre.length ++ a :: as.drop (pre.length + 1) := by
    have := List.take_append_drop pre.length as
    have hd : as.drop pre.length = a :: as.drop (pre.length + 1) := by
      rw [List.drop_eq_getElem_cons (by omega)]
      congr 1
      rw [List.getElem?_eq_getElem (by omega)] at ea
      exact Option.some.inj ea
    rw [hd] at this
    exact this.symm
  have hp : OrdsAt K H (as.take pre.length) pre := by
    exact take46 ho
  refine ⟨as.take pre.length, pre, .ref a, (as.drop (pre.length + 1)).map V.ref, ?_, hp, g.ok, g.apart, by rw [List.length_take]; omega, by have := g.len; omega, ?_⟩
  · conv => lhs; rw [ha]
    rw [List.map_append]
    rfl
  · rcases hb with z | z | ⟨z1, z2⟩
    · exact .inl z
    · refine .inr (.inl (.inl ⟨a, _, rfl, oa, fun x hx => ?_, ?_⟩))
      · have hs' := hs o (by simp)
        replace hx : x ∈ [V.str o.src, .str o.tgt, .int o.first, .int o.last, .int o.way] := hx
        simp only [List.mem_cons, List.not_mem_nil, or_false] at hx
        rcases hx with rfl | rfl | rfl | rfl | rfl
        · exact ⟨rfl, by show o.src.length ≤ _; rw [sizeLine_eq]; omega⟩
        · exact ⟨rfl, by show o.tgt.length ≤ _; rw [sizeLine_eq]; omega⟩
        · exact ⟨rfl, trivial⟩
        · exact ⟨rfl, trivial⟩
        · exact ⟨rfl, trivial⟩
      · exact not_ord46 (hr o (by simp)) z
    · have r := hr o (by simp)
      obtain ⟨p, hp, e⟩ := List.any_eq_true.mp z2
      exact .inr (.inr ⟨a, o, p, rfl, oa, okOrd_ok z1 r.as r.at_ r.f0, hp, e⟩)
def spBookB (K : PySem.W.Frag) (C : Addr) (c : Cls5) : Sp := fun vs H Q E => spBookOf K C vs H Q E ∨ spBookOfX K c vs H Q E
theorem ok_book_both (T : Top K mg C_Book C_Letter C_Decoder C_MailError C_InvalidOrder C_UnknownOrder C_InvalidAddress C_InvalidDay C_InvalidNumber C_NotationError C_InvalidCount C_DecodeError) : GFn P w K mg base (L2.CX P w) 5 "book_of" (spBookB K C_Book ⟨C_InvalidOrder, C_UnknownOrder, C_InvalidAddress, C_InvalidDay, C_InvalidNumber, C_MailError, C_MailError, C_MailError, C_MailError, C_InvalidCount, C_DecodeError, C_NotationError⟩) := GFn.or (GFn.up (ok_book_of T)) (okX_book_of T)
def spParse (K : PySem.W.Frag) (CB : Addr) (c : Cls5) : Sp := fun vs H Q E => ∃ z : Str, vs = [.str z] ∧
  ((z = "" ∧ ∀ H' p, Same H H' → H p = none → BookAt K CB H' p [] → Q (.ref p) H') ∨
   ∃ L, RowsOk L ∧ L ≠ [] ∧ z = nText L ∧ z ≠ "" ∧
    (∀ k j, noteAt 0 L = some (k, j) → ∀ H' cls d, Same H H' → ErrAt c cls d H' (.note (.int (k : Nat)) (.int (j : Nat))) → E cls d H') ∧
    (noteAt 0 L = none → ∀ n, badOrd [] (L.map ordW) = some n → ∀ H' cls d, Same H H' → ErrAt c cls d H' (.order (.int (n : Nat))) → E cls d H') ∧
    (noteAt 0 L = none → badOrd [] (L.map ordW) = none → ∀ H' p, Same H H' → H p = none → BookAt K CB H' p (L.map ordW) → Q (.ref p) H'))
theorem okX_parse (T : Top K mg C_Book C_Letter C_Decoder C_MailError C_InvalidOrder C_UnknownOrder C_InvalidAddress C_InvalidDay C_InvalidNumber C_NotationError C_InvalidCount C_DecodeError) : GFn P w K mg base (L2.CX P w) 6 "parse_book" (spParse K C_Book ⟨C_InvalidOrder, C_UnknownOrder, C_InvalidAddress, C_InvalidDay, C_InvalidNumber, C_MailError, C_MailError, C_MailError, C_MailError, C_InvalidCount, C_DecodeError, C_NotationError⟩) := by
  have X_order_of : GFn P w K mg base (L2.CX P w) 3 "order_of" (spOrderOf K ⟨C_InvalidOrder, C_UnknownOrder, C_InvalidAddress, C_InvalidDay, C_InvalidNumber, C_MailError, C_MailError, C_MailError, C_MailError, C_InvalidCount, C_DecodeError, C_NotationError⟩) := okX_order_of T
  have X_book_of : GFn P w K mg base (L2.CX P w) 5 "book_of" (spBookB K C_Book ⟨C_InvalidOrder, C_UnknownOrder, C_InvalidAddress, C_InvalidDay, C_InvalidNumber, C_MailError, C_MailError, C_MailError, C_MailError, C_InvalidCount, C_DecodeError, C_NotationError⟩) := ok_book_both T
  refine T.d_parse_book.fnX sc_parse_book (fun vs H Q E h => ?_) (fun f cdv A outer s H vs Q E hr h => ?_)
  · obtain ⟨z, rfl, _⟩ := h
    rfl
  · obtain ⟨z, rfl, h⟩ := h
    refine ⟨_, (pss_cons (ps_set (i := 1) sc_parse_book.nd rfl (Or.inl rfl) (pe_ifExp (pt_cmpR op_ne (pv 0) pe_str (nomark _)) (pe_split (pv 0) pe_str) (pe_lst pa_nil)))
  (pss_one (ps_ret (pe_gX X_book_of (hr.mono (by decide)) passE (pa_cons (pe_lcX (own := [("row", 2), ("line", 3)]) (g := (gTup K 2 (gCons (gName 2) (gCons (gName 3) gNil)))) rfl rfl rfl takeE sc_parse_book.nd (pi_enum (by rfl) T.b_enumerate (pa_cons (pv 1) pa_nil)) (blkOk_by (own := [("row", 2), ("line", 3)]) (N := ["text", "lines", "row", "line"]) (sc := defScope s_parse_book) (by decide +kernel)) (fun _ _ _ _ _ => (pg_tup rfl (pgs_cons (pg_name (i := 2) sc_parse_book.nd rfl (Or.inl rfl)) (pgs_cons (pg_name (i := 3) sc_parse_book.nd rfl (Or.inl rfl)) pgs_nil)))) (fun _ _ _ _ _ => pts_nil) (fun _ _ _ _ _ hp => (pe_gX X_order_of (hr.mono (by decide)) hp (pa_cons (pv 2) (pa_cons (pv 3) pa_nil))))) pa_nil))))), ?_⟩
    refine ⟨_, rfl, rfl, _, rfl, ?_⟩
    rcases h with ⟨rfl, k⟩ | ⟨L, R, Ln, rfl, zn, kn, ko, kq⟩
    · refine iteND rfl ?_
      refine ⟨Nat.zero_le _, ?_⟩
      intro l hl
      generalize gH1 : L2.upd _ l _ = H1
      obtain ⟨s1, e1⟩ := newS hl gH1
      clear gH1
      refine ⟨_, rfl, l, _, rfl, SqL.of e1, fun D hD => ?_⟩
      refine lc_it (walk_enum (xs := [])) (fun j H' => Same H1 H' ∧ H' D = some (.lst [])) ⟨Same.new hD, upd_same⟩ (fun j H' _ p => SqL.of (p.1 _ _ e1)) (fun j y H2 H3 hj => absurd hj (Nat.not_lt_zero _)) ?_
      rintro H2 ⟨s2, e2⟩
      refine .inl ⟨D, [], [], rfl, .inr (SqL.of e2), .nil, ⟨by simp, by simp, .nil⟩, fun H' p s' hp b => k H' p ((s1.trans s2).trans s') ((s1.trans s2).free hp) b⟩
    · refine iteNDN (fun e => zn (V.str.inj e)) ?_
      refine ⟨_, rfl, ⟨_, rfl⟩, _, _, rfl, rfl, (by decide +kernel), by have := text_len R; rw [sizeLine_eq]; omega, ?_⟩
      rw [text_split Ln R]
      intro l hl
      generalize gH1 : L2.upd _ l _ = H1
      obtain ⟨s1, e1⟩ := newS hl gH1
      clear gH1
      refine ⟨_, rfl, l, _, rfl, SqL.of e1, fun D hD => ?_⟩
      refine lc_it (walk_enum (xs := (L.map nLine).map V.str)) (fun i H' => Same H1 H' ∧ (∀ m z, m < i → L[m]? = some z → badAt z = none) ∧ ∃ as : List Addr, H' D = some (.lst (as.map V.ref)) ∧ OrdsAt K H' as ((L.take i).map ordW)) ⟨Same.new hD, (fun m z hm => absurd hm (Nat.not_lt_zero _)), [], upd_same, .nil⟩ (fun i H' _ p => SqL.of (p.1 _ _ e1)) ?_ ?_
      · rintro i y H2 H3 hi ⟨s2, hm, as, e2, O2⟩ ⟨q, z1, z2, rfl, hq, rfl, ez1, ez2⟩
        cases ez1
        rw [List.length_map, List.length_map] at hi
        obtain ⟨ws, ew⟩ : ∃ ws, L[i]? = some ws := ⟨L[i], List.getElem?_eq_getElem hi⟩
        replace ez2 : ((L.map nLine).map V.str)[i]? = some z2 := ez2
        rw [List.getElem?_map, List.getElem?_map, ew] at ez2
        cases ez2
        have wm : ws ∈ L := List.mem_of_getElem? ew
        refine ⟨q, _, rfl, .inl (.inl upd_same), rfl, _, _, rfl, _, _, rfl, rfl, rfl, yesT (iteT ?_)⟩
        generalize gH3 : L2.upd _ q _ = H3
        obtain ⟨s3, e3⟩ := newS hq gH3
        clear gH3
        have s13 := s2.trans s3
        have e23 := s3 _ _ e2
        have O3 := O2.mono s3
        have R' := R.len
        refine ⟨_, rfl, _, rfl, i, ws, rfl, by omega, ⟨R.ne ws wm, R.wl ws wm, R.ok ws wm⟩, fun hb H4 t s4 ht o4 => ?_, fun j hb H4 cls d s4 er => ?_⟩
        · have la := PySem.Paired.length O3
          rw [List.length_map, List.length_take] at la
          have up : ∀ b u, H4 b = some u → b ≠ D → (upd H4 D (.lst (as.map V.ref ++ [.ref t]))) b = some u := fun b u e nb => by rw [upd_ne nb]; exact e
          have e4 := s4 _ _ e23
          have kt : ∀ b u, H4 b = some u → tupl u = true → (upd H4 D (.lst (as.map V.ref ++ [.ref t]))) b = some u := fun b u e y => up b u e fun w => by
            rw [w, e4] at e
            cases e
            cases y
          refine ⟨_, e4, by rw [List.length_map, sizeLine_eq]; omega, fun b u e => up b u ((s13.trans s4) b u e) (ne_of_none e hD), fun m z hmi ez => ?_, as ++ [t], by rw [upd_same, List.map_append]; rfl, ?_⟩
          · by_cases c : m = i
            · rw [c, ew] at ez
              cases ez
              exact hb
            · exact hm m z (by omega) ez
          · rw [List.take_add_one, ew, List.map_append]
            exact Paired.append (OrdsAt.keepR (O3.mono s4) kt) (OrdsAt.keepR (as := [t]) (os := [ordW ws]) (.cons o4 .nil) kt)
        · have := noteAt_first hb (k := 0) hm ew
          rw [Nat.zero_add] at this
          exact kn i j this _ _ _ ((s1.trans s13).trans s4) er
      · rintro H2 ⟨s2, hm, as, e2, O2⟩
        rw [List.length_map, List.length_map] at hm O2
        rw [List.take_length] at O2
        have hall : ∀ z ∈ L, badAt z = none := fun z hz => by
          obtain ⟨m, em⟩ := List.mem_iff_getElem?.mp hz
          exact hm m z (List.getElem?_eq_some_iff.mp em).1 em
        have nn : noteAt 0 L = none := noteAt_all hall
        have raw : ∀ o ∈ L.map ordW, RawOk o := fun o ho => by
          obtain ⟨ws, hw, rfl⟩ := List.mem_map.mp ho
          exact ordW_raw (hall ws hw)
        have la := PySem.Paired.length O2
        rw [List.length_map] at la
        cases hb : badOrd [] (L.map ordW) with
        | none =>
          have g := badOrd_none (found := []) ⟨by simp, by simp, .nil⟩ raw hb
          exact .inl ⟨D, as, _, rfl, .inr (SqL.of e2), O2, g, fun H' p s' hp b => kq nn hb H' p ((s1.trans s2).trans s') ((s1.trans s2).free hp) b⟩
        | some n =>
          refine .inr ⟨D, as.map V.ref, n, rfl, .inr (SqL.of e2), by rw [List.length_map, sizeLine_eq]; have := R.len; omega, FirstBad.rows O2 raw hb fun o ho => ?_, fun H' cls d s' er => ko nn n hb _ _ _ ((s1.trans s2).trans s') er⟩
          have r := raw o ho
          have l1 := addr_len46 r.as
          have l2 := addr_len46 r.at_
          omega
end

end MF
set_option Elab.async false
set_option linter.all false
set_option maxRecDepth 100000
set_option maxHeartbeats 2000000
set_option pp.maxSteps 600
namespace MF
open PySem PySem.Spec PyProof.Rows L2 StX
section
variable {P : Program} {w : World} {K : PySem.W.Frag} {mg : Str → Option Value} {base : Heap} {C_Book C_Letter C_Decoder C_MailError C_InvalidOrder C_UnknownOrder C_InvalidAddress C_InvalidDay C_InvalidNumber C_NotationError C_InvalidCount C_DecodeError : Addr}
def spFormat (K : PySem.W.Frag) (CB : Addr) : Sp := fun vs H Q _ => ∃ bk os, vs = [.ref bk] ∧ BookAt K CB H bk os ∧ Good os ∧ ∀ H', Same H H' → Q (.str (nText (os.map rowW))) H'
theorem ok_format (T : Top K mg C_Book C_Letter C_Decoder C_MailError C_InvalidOrder C_UnknownOrder C_InvalidAddress C_InvalidDay C_InvalidNumber C_NotationError C_InvalidCount C_DecodeError) : GFn P w K mg base CX0 4 "format_book" (spFormat K C_Book) := by
  have PR_Book_orders : PFn P w K mg base CX0 1 C_Book "orders" (spOrdersP K C_Book) := ok_ordersP T
  refine T.d_format_book.fn fun f fd F => F.ok sc_format_book (fun vs H Q E h => ?_) (fun cdv A outer s H vs Q E hr h => ?_)
  · obtain ⟨bk, os, rfl, _⟩ := h
    rfl
  · obtain ⟨bk, os, rfl, B, g, k⟩ := h
    refine ⟨_, (pss_cons (ps_set (i := 1) sc_format_book.nd rfl (Or.inl rfl) (pe_lst pa_nil))
  (pss_cons (ps_for PassesOwn.never rfl (pi_tup (pe_pr PR_Book_orders T.cl_Book (hr.mono (by decide)) (pv 0))) (pg_tup rfl (pgs_cons (pg_name (i := 2) sc_format_book.nd rfl (Or.inl rfl)) (pgs_cons (pg_name (i := 3) sc_format_book.nd rfl (Or.inl rfl)) (pgs_cons (pg_name (i := 4) sc_format_book.nd rfl (Or.inl rfl)) (pgs_cons (pg_name (i := 5) sc_format_book.nd rfl (Or.inl rfl)) (pgs_cons (pg_name (i := 6) sc_format_book.nd rfl (Or.inl rfl)) pgs_nil))))))
  (pss_one (ps_expr (pe_bm PySem.F.plainAttrs_list PySem.F.slot_list_append PySem.F.type_list_append mt_append (pv 1) (pa_cons (pe_joined (PJ.cons (pe_fmt (pe_gstr T.c_WORD)) (PJ.cons pe_str (PJ.cons (pe_fmt (pv 2)) (PJ.cons pe_str (PJ.cons (pe_fmt (pv 3)) (PJ.cons pe_str (PJ.cons (pe_fmt (pv 4)) (PJ.cons pe_str (PJ.cons (pe_fmt (pv 5)) (PJ.cons pe_str (PJ.cons (pe_fmt (pv 6)) PJ.nil)))))))))))) pa_nil)))))
  (pss_one (ps_ret (pe_join pe_str (pv 1)))))), ?_⟩
    refine ⟨Nat.zero_le _, ?_⟩
    intro l hl
    generalize gH1 : L2.upd _ l _ = H1
    obtain ⟨s1, e1⟩ := newS hl gH1
    clear gH1
    obtain ⟨dx, cd, st, hp, _⟩ := id B
    refine ⟨_, rfl, bk, dx, _, rfl, s1 _ _ hp, bk, os, rfl, B.mono s1, fun t as ht ho => ?_⟩
    have hl30 := g.len
    have la := PySem.Paired.length ho
    refine ⟨t, rfl, ⟨_, ht⟩, for_it (walk_tup (xs := as.map V.ref)) (fun i σ H' => (∀ b u, H1 b = some u → b ≠ l → H' b = some u) ∧ H' l = some (.lst (((os.take i).map fun o => nLine (rowW o)).map V.str)) ∧ ∃ v2 v3 v4 v5 v6, σ = [some (.ref bk), some (.ref l), v2, v3, v4, v5, v6]) ⟨fun b u e _ => e, e1, _, _, _, _, _, rfl⟩ (fun i σ H' _ p => ?_) ?_ ?_⟩
    · rcases ht with (h | ⟨u, h⟩) | h
      · exact .inl (.inl (p.1 _ _ h (fun w => by rw [w, e1] at h; cases h)))
      · exact .inl (.inr ⟨u, p.1 _ _ h (fun w => by rw [w, e1] at h; cases h)⟩)
      · exact .inr h
    · rintro i y σ H2 H2' hi ⟨k2, e2, v2, v3, v4, v5, v6, rfl⟩ ⟨rfl, ey⟩
      rw [List.length_map] at hi
      obtain ⟨a, ea⟩ : ∃ a, as[i]? = some a := ⟨as[i], List.getElem?_eq_getElem hi⟩
      rw [List.getElem?_map, ea] at ey
      cases ey
      obtain ⟨o, eo, oa⟩ := Paired.get ho ea
      have oa2 : OrdsAt K H2' [a] [o] := OrdsAt.keepR (as := [a]) (os := [o]) (.cons oa .nil) fun b u e y => k2 _ _ e fun w => by
        rw [w, e1] at e
        cases e
        cases y
      have ok := g.ok o (List.mem_of_getElem? eo)
      have la1 := addr_len46 ok.as
      have la2 := addr_len46 ok.at_
      have f0 := ok.f0
      have fl := ok.fl
      have lm := ok.lm
      have w1 := ok.w1
      have w30 := ok.w30
      cases oa2 with
      | cons oa2 _ =>
      refine ⟨a, _, rfl, oa2, rfl, _, _, rfl, _, _, rfl, _, _, rfl, _, _, rfl, _, _, rfl, rfl, ?_⟩
      have lg : ∀ x : Int, 0 ≤ x → x ≤ 1000000000000000000 → x.natAbs.log2 < 1920 ∧ (Str.ofString (toString x)).length ≤ 19 := fun x h0 h1 => by
        obtain ⟨n, rfl⟩ := Int.eq_ofNat_of_zero_le h0
        refine ⟨?_, ?_⟩
        · rw [Int.natAbs_natCast]
          have := (Nat.log2_le_self n)
          have h2 : n < 2 ^ 60 := by omega
          by_cases c : n = 0
          · subst c; decide
          · have := (Nat.log2_lt (n := n) (k := 60) c).mpr h2
            omega
        · have : (TL.numL n).length ≤ 19 := TL.numL_len (by decide) (by omega)
          rw [TL.len_tl, TL.tl_num]
          exact this
      obtain ⟨g1, z1⟩ := lg o.first f0 (by omega)
      obtain ⟨g2, z2⟩ := lg o.last (by omega) lm
      obtain ⟨g3, z3⟩ := lg o.way (by omega) (by omega)
      have q0 : Str.empty.length = 0 := rfl
      have q1 : ("order" : Str).length = 5 := by decide +kernel
      have q2 : (" " : Str).length = 1 := by decide +kernel
      have sl := sizeLine_eq
      refine ⟨_, rfl, .inl ⟨rfl, _, SqL.of e2⟩, .inl ⟨_, rfl, by omega, _, rfl, by simp only [Str.length_append]; omega, ?_⟩⟩
      refine ⟨_, rfl, by simp only [Str.length_append]; omega, _, rfl, .inl ⟨_, rfl, by omega, _, rfl, by simp only [Str.length_append]; omega, ?_⟩⟩
      refine ⟨_, rfl, by simp only [Str.length_append]; omega, _, rfl, .inl ⟨_, rfl, by omega, _, rfl, by simp only [Str.length_append]; omega, ?_⟩⟩
      refine ⟨_, rfl, by simp only [Str.length_append]; omega, _, rfl, .inr ⟨_, rfl, g1, _, rfl, by simp only [Str.length_append]; omega, ?_⟩⟩
      refine ⟨_, rfl, by simp only [Str.length_append]; omega, _, rfl, .inr ⟨_, rfl, g2, _, rfl, by simp only [Str.length_append]; omega, ?_⟩⟩
      refine ⟨_, rfl, by simp only [Str.length_append]; omega, _, rfl, .inr ⟨_, rfl, g3, _, rfl, by simp only [Str.length_append]; omega, ?_⟩⟩
      rw [← row_line]
      refine ⟨l, _, _, rfl, rfl, e2, by rw [List.length_map, List.length_map, List.length_take]; omega, ?_⟩
      refine ⟨fun b u e nb => by rw [upd_ne nb]; exact k2 b u e nb, ?_, _, _, _, _, _, rfl⟩
      rw [upd_same, List.take_add_one, eo, List.map_append, List.map_append]
      rfl
    · rintro σ H2 ⟨k2, e2, v2, v3, v4, v5, v6, rfl⟩
      rw [List.length_map, la, List.take_length] at e2
      refine ⟨⟨_, rfl⟩, _, rfl, "\n", l, os.map fun o => nLine (rowW o), rfl, rfl, .inl (SqL.of e2), ?_, ?_⟩
      · have q2 : ("\n" : Str).length = 1 := by decide +kernel
        have := sum_le46 (l := os.map fun o => nLine (rowW o)) (k := 168) fun x hx => by
          obtain ⟨o, hm, rfl⟩ := List.mem_map.mp hx
          exact line_len (rows_ok g) (List.mem_map.mpr ⟨o, hm, rfl⟩)
        rw [q2]
        rw [List.length_map] at this ⊢
        omega
      · have := k H2 fun b u e => k2 _ _ (s1 _ _ e) (ne_of_none e hl)
        unfold nText at this
        rw [List.map_map] at this
        exact this
end

end MF
set_option Elab.async false
set_option linter.all false
set_option maxRecDepth 100000
set_option maxHeartbeats 2000000
set_option pp.maxSteps 600
namespace MF
open PySem PySem.Spec PyProof.Rows L2 StX
section
variable {P : Program} {w : World} {K : PySem.W.Frag} {mg : Str → Option Value} {base : Heap} {C_Book C_Letter C_Decoder C_MailError C_InvalidOrder C_UnknownOrder C_InvalidAddress C_InvalidDay C_InvalidNumber C_NotationError C_InvalidCount C_DecodeError : Addr}
theorem FnR.calm {k : Nat} {f : Addr} {sp sp' : Sp} (F : FnR P w K mg base (L2.CX P w) k f sp) (h : ∀ vs H Q E, sp' vs H Q E → sp vs H Q fun _ _ _ => False) : FnR P w K mg base CX0 k f sp' := fun A outer s H us vs Q E hr e0 r hs => codeAny_mono (F A outer s H us vs Q (fun _ _ _ => False) hr e0 r (h _ _ _ _ hs)) fun r s' h => by
  unfold CR at h ⊢
  match r, h with
  | .ok (.ret u), h => exact h
  | .ok .next, h => exact h
  | .ok .brk, h => exact h
  | .ok .cont, h => exact h
  | .error e, h =>
    obtain ⟨a, B, H', cls, d, _, _, _, _, _, _, _, z⟩ := h
    exact z.elim
theorem GFn.calm {k : Nat} {x : Str} {sp sp' : Sp} (G : GFn P w K mg base (L2.CX P w) k x sp) (h : ∀ vs H Q E, sp' vs H Q E → sp vs H Q fun _ _ _ => False) : GFn P w K mg base CX0 k x sp' := let ⟨f, a, b⟩ := G.ex; ⟨f, FnR.calm a h, b⟩
def spParseG (K : PySem.W.Frag) (CB : Addr) : Sp := fun vs H Q _ => ∃ os, vs = [.str (nText ((os : List Ordr).map rowW))] ∧ Good os ∧ ∀ H' p, Same H H' → H p = none → BookAt K CB H' p os → Q (.ref p) H'
theorem ok_parseG (T : Top K mg C_Book C_Letter C_Decoder C_MailError C_InvalidOrder C_UnknownOrder C_InvalidAddress C_InvalidDay C_InvalidNumber C_NotationError C_InvalidCount C_DecodeError) : GFn P w K mg base CX0 6 "parse_book" (spParseG K C_Book) :=
  (okX_parse T).calm fun vs H Q E h => by
    obtain ⟨os, rfl, g, k⟩ := h
    refine ⟨_, rfl, ?_⟩
    by_cases c : os = []
    · subst c
      exact .inl ⟨rfl, k⟩
    · obtain ⟨r1, r2, r3⟩ := rows_back g
      refine .inr ⟨os.map rowW, rows_ok g, (fun z => c (List.map_eq_nil_iff.mp z)), rfl, text_ne c, fun k j e => ?_, fun _ n e => ?_, fun _ _ H' p s f B => k H' p s f (by rw [r2] at B; exact B)⟩
      · rw [r1] at e; cases e
      · rw [r2, r3] at e; cases e
def spDecodeG (K : PySem.W.Frag) (CB : Addr) : Sp := fun vs H Q _ => ∃ os, vs = [.byt (byteArr (encG os))] ∧ Good os ∧ ∀ H' p, Same H H' → H p = none → BookAt K CB H' p os → Q (.ref p) H'
theorem ok_decodeG (T : Top K mg C_Book C_Letter C_Decoder C_MailError C_InvalidOrder C_UnknownOrder C_InvalidAddress C_InvalidDay C_InvalidNumber C_NotationError C_InvalidCount C_DecodeError) : GFn P w K mg base CX0 6 "decode_book" (spDecodeG K C_Book) :=
  (okX_decode T).calm fun vs H Q E h => by
    obtain ⟨os, rfl, g, k⟩ := h
    refine ⟨_, rfl, encG_in g, by have := encG_len g; omega, ?_⟩
    rw [dec_enc g]
    exact fun H' b s f _ B => k H' b s f B
structure Halves (os qs : List Ordr) : Prop where
  one : ∀ o ∈ os, o.src.length = 1 ∧ o.tgt.length = 1
  two : ∀ o ∈ qs, o.src.length = 2 ∧ o.tgt.length = 2
theorem for_none {x : Str} {d : Int} : ∀ {os : List Ordr}, (∀ o ∈ os, o.src ≠ x) → ordFor os x d = none
  | [], _ => rfl
  | o :: os, h => by
    show (if holds o x d = true then some 0 else (ordFor os x d).map (· + 1)) = none
    have : holds o x d = false := by
      unfold holds
      rw [decide_eq_false (h o List.mem_cons_self), Bool.false_and]
    rw [this, for_none fun p hp => h p (List.mem_cons_of_mem _ hp)]
    rfl
theorem sum_for1 {x : Str} {d : Int} {qs : List Ordr} (h : ∀ o ∈ qs, o.src ≠ x) : ∀ os : List Ordr, ordFor (os ++ qs) x d = ordFor os x d
  | [] => for_none h
  | o :: os => by
    show (if holds o x d = true then some 0 else (ordFor (os ++ qs) x d).map (· + 1)) = (if holds o x d = true then some 0 else (ordFor os x d).map (· + 1))
    rw [sum_for1 h os]
theorem sum_for2 {x : Str} {d : Int} {qs : List Ordr} : ∀ {os : List Ordr}, (∀ o ∈ os, o.src ≠ x) → ordFor (os ++ qs) x d = (ordFor qs x d).map fun i => os.length + i
  | [], _ => by
    show ordFor qs x d = _
    cases ordFor qs x d with
    | none => rfl
    | some i => show some i = some (0 + i); rw [Nat.zero_add]
  | o :: os, h => by
    show (if holds o x d = true then some 0 else (ordFor (os ++ qs) x d).map (· + 1)) = _
    have : holds o x d = false := by
      unfold holds
      rw [decide_eq_false (h o List.mem_cons_self), Bool.false_and]
    rw [this, sum_for2 fun p hp => h p (List.mem_cons_of_mem _ hp)]
    cases ordFor qs x d with
    | none => rfl
    | some i => show some (os.length + i + 1) = some (os.length + 1 + i); congr 1; omega
theorem Halves.src1 {os qs : List Ordr} (h : Halves os qs) {x : Str} (hx : x.length = 1) : ∀ o ∈ qs, o.src ≠ x := fun o ho e => by
  have := (h.two o ho).1
  rw [e, hx] at this
  cases this
theorem Halves.src2 {os qs : List Ordr} (h : Halves os qs) {x : Str} (hx : x.length = 2) : ∀ o ∈ os, o.src ≠ x := fun o ho e => by
  have := (h.one o ho).1
  rw [e, hx] at this
  cases this
theorem for_lt {x : Str} {d : Int} {i : Nat} : ∀ {os : List Ordr}, ordFor os x d = some i → i < os.length
  | [], h => by cases h
  | o :: os, h => by
    replace h : (if holds o x d = true then some 0 else (ordFor os x d).map (· + 1)) = some i := h
    split at h
    · cases h; show 0 < os.length + 1; omega
    · cases e : ordFor os x d with
      | none => rw [e] at h; cases h
      | some j => rw [e] at h; cases h; have := for_lt e; show j + 1 < os.length + 1; omega
theorem Halves.nxt1 {os qs : List Ordr} (h : Halves os qs) {s : Pt} (hx : s.1.length = 1) : nxt (os ++ qs) s = nxt os s := by
  unfold nxt
  rw [sum_for1 (h.src1 hx) os]
  cases e : ordFor os s.1 s.2 with
  | none => rfl
  | some i =>
    show ((os ++ qs)[i]?.map _) = (os[i]?.map _)
    rw [List.getElem?_append_left (for_lt e)]
theorem Halves.nxt2 {os qs : List Ordr} (h : Halves os qs) {s : Pt} (hx : s.1.length = 2) : nxt (os ++ qs) s = nxt qs s := by
  unfold nxt
  rw [sum_for2 (h.src2 hx)]
  cases e : ordFor qs s.1 s.2 with
  | none => rfl
  | some i =>
    show ((os ++ qs)[os.length + i]?.map _) = (qs[i]?.map _)
    rw [List.getElem?_append_right (by omega), Nat.add_sub_cancel_left]
theorem nxt_to {os : List Ordr} {s t : Pt} (h : nxt os s = some t) : ∃ o ∈ os, t.1 = o.tgt := by
  unfold nxt at h
  cases e : ordFor os s.1 s.2 with
  | none => rw [e] at h; cases h
  | some i =>
    rw [e] at h
    replace h : (os[i]?.map fun o => (o.tgt, s.2 + o.way)) = some t := h
    cases e2 : os[i]? with
    | none => rw [e2] at h; cases h
    | some o => rw [e2] at h; cases h; exact ⟨o, List.mem_of_getElem? e2, rfl⟩
theorem Halves.go1 {os qs : List Ordr} (h : Halves os qs) {s t : Pt} {n : Nat} (g : Go os s n t) : s.1.length = 1 → Go (os ++ qs) s n t ∧ t.1.length = 1 := by
  induction g with
  | refl => exact fun e => ⟨.refl _, e⟩
  | step e _ ih =>
    intro hx
    obtain ⟨o, ho, eo⟩ := nxt_to e
    obtain ⟨a, b⟩ := ih (by rw [eo]; exact (h.one o ho).2)
    exact ⟨.step (by rw [h.nxt1 hx, e]) a, b⟩
theorem Halves.go2 {os qs : List Ordr} (h : Halves os qs) {s t : Pt} {n : Nat} (g : Go qs s n t) : s.1.length = 2 → Go (os ++ qs) s n t ∧ t.1.length = 2 := by
  induction g with
  | refl => exact fun e => ⟨.refl _, e⟩
  | step e _ ih =>
    intro hx
    obtain ⟨o, ho, eo⟩ := nxt_to e
    obtain ⟨a, b⟩ := ih (by rw [eo]; exact (h.two o ho).2)
    exact ⟨.step (by rw [h.nxt2 hx, e]) a, b⟩
theorem Halves.ends1 {os qs : List Ordr} (h : Halves os qs) {s t : Pt} {n : Nat} (hx : s.1.length = 1) (e : Ends os s n t) : Ends (os ++ qs) s n t :=
  let ⟨a, b⟩ := h.go1 e.1 hx
  ⟨a, by rw [h.nxt1 b]; exact e.2⟩
theorem Halves.ends2 {os qs : List Ordr} (h : Halves os qs) {s t : Pt} {n : Nat} (hx : s.1.length = 2) (e : Ends qs s n t) : Ends (os ++ qs) s n t :=
  let ⟨a, b⟩ := h.go2 e.1 hx
  ⟨a, by rw [h.nxt2 b]; exact e.2⟩
theorem Halves.good {os qs : List Ordr} (h : Halves os qs) (g : Good os) (g' : Good qs) (hl : os.length + qs.length ≤ 30) : Good (os ++ qs) :=
  ⟨by rw [List.length_append]; exact hl, fun o ho => (List.mem_append.mp ho).elim (g.ok o) (g'.ok o), List.pairwise_append.mpr ⟨g.apart, g'.apart, fun o ho p hp => by
    unfold overB
    have : o.src ≠ p.src := fun e => by
      have h1 := (h.one o ho).1
      rw [e, (h.two p hp).1] at h1
      cases h1
    rw [decide_eq_false this, Bool.false_and]⟩⟩
def laO (o : Ordr) : Ordr := ⟨"q" ++ o.src, "q" ++ o.tgt, o.first, o.last, o.way⟩
theorem laN : ∀ i, i < 6 → ("q" ++ nmS i).length = 2 ∧ isAddrB (.str ("q" ++ nmS i)) = true := by decide +kernel
theorem laE : ∀ i, i < 6 → ∀ j, j < 6 → decide ("q" ++ nmS i = "q" ++ nmS j) = decide (nmS i = nmS j) := by decide +kernel
def Abc (os : List Ordr) : Prop := ∀ o ∈ os, ∃ i j, i < 6 ∧ j < 6 ∧ o.src = nmS i ∧ o.tgt = nmS j
theorem la_good {os : List Ordr} (g : Good os) (n : Abc os) : Good (os.map laO) := by
  refine ⟨by rw [List.length_map]; exact g.len, fun o ho => ?_, List.pairwise_map.mpr (g.apart.imp_of_mem fun {o p} ho hp h => ?_)⟩
  · obtain ⟨p, hp, rfl⟩ := List.mem_map.mp ho
    obtain ⟨i, j, hi, hj, e1, e2⟩ := n p hp
    have ok := g.ok p hp
    refine ⟨?_, ?_, fun e => ok.ne ?_, ok.f0, ok.fl, ok.lm, ok.w1, ok.w30⟩
    · show isAddrB (.str ("q" ++ p.src)) = true
      rw [e1]; exact (laN i hi).2
    · show isAddrB (.str ("q" ++ p.tgt)) = true
      rw [e2]; exact (laN j hj).2
    · have e' : "q" ++ p.src = "q" ++ p.tgt := e
      rw [e1, e2] at e'
      rw [e1, e2]
      have := laE i hi j hj
      rw [decide_eq_true e'] at this
      exact of_decide_eq_true this.symm
  · obtain ⟨i, _, hi, _, e1, _⟩ := n o ho
    obtain ⟨j, _, hj, _, e2, _⟩ := n p hp
    rw [← h]
    unfold overB
    show (decide ("q" ++ o.src = "q" ++ p.src) && _) = _
    rw [e1, e2, laE i hi j hj]
    rfl
theorem la_halves {os qs : List Ordr} (n : Abc os) (n' : Abc qs) : Halves os (qs.map laO) :=
  ⟨fun o ho => by
    obtain ⟨i, j, _, _, e1, e2⟩ := n o ho
    rw [e1, e2]
    exact ⟨rfl, rfl⟩, fun o ho => by
    obtain ⟨p, hp, rfl⟩ := List.mem_map.mp ho
    obtain ⟨i, j, hi, hj, e1, e2⟩ := n' p hp
    show ("q" ++ p.src).length = 2 ∧ ("q" ++ p.tgt).length = 2
    rw [e1, e2]
    exact ⟨(laN i hi).1, (laN j hj).1⟩⟩
theorem join_cons {y x z : Str} {l : List Str} : Txt.join y (x :: z :: l) = x ++ y ++ Txt.join y (z :: l) := by
  rw [TL.join_eq, TL.join_eq]
  rfl
theorem app3 (a b c : Str) : a ++ b ++ c = a ++ (b ++ c) := by
  show Str.mk ((a.cps ++ b.cps) ++ c.cps) = Str.mk (a.cps ++ (b.cps ++ c.cps))
  rw [Array.append_assoc]
theorem join_two (y : Str) : ∀ {l m : List Str}, l ≠ [] → m ≠ [] → Txt.join y (l ++ m) = Txt.join y [Txt.join y l, Txt.join y m]
  | [], _, h, _ => absurd rfl h
  | [x], [], _, h => absurd rfl h
  | [x], z :: m, _, _ => by
    show Txt.join y (x :: z :: m) = Txt.join y [x, Txt.join y (z :: m)]
    rw [join_cons, join_cons]
    rfl
  | x :: x2 :: l, m, _, h => by
    show Txt.join y (x :: x2 :: (l ++ m)) = Txt.join y [Txt.join y (x :: x2 :: l), Txt.join y m]
    rw [join_cons, join_cons, join_cons, show x2 :: (l ++ m) = (x2 :: l) ++ m from rfl, join_two y (by simp) h, join_cons, app3, app3, app3, app3, app3]
def rowsT (os qs : List Ordr) : List Str := (if os = [] then [] else [nText (os.map rowW)]) ++ (if qs = [] then [] else [nText (qs.map rowW)])
theorem text_two (os qs : List Ordr) : nText ((os ++ qs).map rowW) = Txt.join "\n" (rowsT os qs) := by
  unfold rowsT
  by_cases c : os = []
  · subst c
    rw [if_pos rfl]
    by_cases c2 : qs = []
    · subst c2; rfl
    · rw [if_neg c2]; rfl
  · rw [if_neg c]
    by_cases c2 : qs = []
    · subst c2
      rw [if_pos rfl, List.append_nil, List.append_nil]
      rfl
    · rw [if_neg c2]
      unfold nText
      rw [List.map_append, List.map_append]
      exact join_two "\n" (by simpa using c) (by simpa using c2)
end

end MF
set_option Elab.async false
set_option linter.all false
set_option maxRecDepth 100000
set_option maxHeartbeats 2000000
set_option pp.maxSteps 600
namespace MF
open PySem PySem.Spec PyProof.Rows L2 StX
section
variable {P : Program} {w : World} {K : PySem.W.Frag} {mg : Str → Option Value} {base : Heap} {C_Book C_Letter C_Decoder C_MailError C_InvalidOrder C_UnknownOrder C_InvalidAddress C_InvalidDay C_InvalidNumber C_NotationError C_InvalidCount C_DecodeError : Addr}
def spLetter (K : PySem.W.Frag) : Sp := fun vs H Q _ => ∃ rw sc ns many, vs = [.ref rw, .int many] ∧ RowAt K H rw sc ns ∧ 0 < many ∧ many < 1000000000000000000 ∧
  ∀ H' t i d, KeepR rw H H' → H t = none → RowAt K H' rw sc ns → i < 6 → 0 ≤ d → d < many → H' t = some (.tup [.str (nmS i), .int d]) → Q (.ref t) H'
theorem ok_letter (T : Top K mg C_Book C_Letter C_Decoder C_MailError C_InvalidOrder C_UnknownOrder C_InvalidAddress C_InvalidDay C_InvalidNumber C_NotationError C_InvalidCount C_DecodeError) : GFn P w K mg base CX0 2 "_law_letter" (spLetter K) := by
  have G__law_taken : GFn P w K mg base CX0 1 "_law_taken" (spTaken K) := ok_taken T
  refine T.d__law_letter.fn fun f fd F => F.ok sc__law_letter (fun vs H Q E h => ?_) (fun cdv A outer s H vs Q E hr h => ?_)
  · obtain ⟨rw, sc, ns, many, rfl, _⟩ := h
    rfl
  · obtain ⟨rw', sc, ns, many, rfl, R, p0, p1, k⟩ := h
    refine ⟨_, (pss_one (ps_ret (pe_tup (pa_cons (pe_ix ix_str pe_str (pe_g G__law_taken (hr.mono (by decide)) (pa_cons (pv 0) (pa_cons pe_int pa_nil))) (fun _ _ => rfl)) (pa_cons (pe_g G__law_taken (hr.mono (by decide)) (pa_cons (pv 0) (pa_cons (pv 1) pa_nil))) pa_nil))))), ?_⟩
    refine ⟨_, rfl, rw', sc, ns, 6, rfl, R, by decide, by decide, fun v H1 v0 v1 R1 k1 => ?_⟩
    refine ⟨_, _, _, rfl, rfl, abc_len, abc_ix v0 v1, ?_⟩
    refine ⟨_, rfl, _, rfl, rw', sc, ns, many, rfl, R1, p0, (by omega), fun d H2 d0 d1 R2 k2 => ?_⟩
    refine ⟨(by show 2 ≤ sizeLine; decide), fun t ht => ?_⟩
    have kk : KeepR rw' H H2 := KeepR.trans k1 k2
    exact k _ t v.toNat d (kk.trans (KeepR.of (Same.new ht))) (kk.free R2 ht) (R2.keep (Same.new ht)) (by omega) d0 d1 upd_same
end

end MF
set_option Elab.async false
set_option linter.all false
set_option maxRecDepth 100000
set_option maxHeartbeats 2000000
set_option pp.maxSteps 600
namespace MF
open PySem PySem.Spec PyProof.Rows L2 StX
section
variable {P : Program} {w : World} {K : PySem.W.Frag} {mg : Str → Option Value} {base : Heap} {C_Book C_Letter C_Decoder C_MailError C_InvalidOrder C_UnknownOrder C_InvalidAddress C_InvalidDay C_InvalidNumber C_NotationError C_InvalidCount C_DecodeError : Addr}
def spOrderAt (K : PySem.W.Frag) (C : Addr) : Sp := fun vs H Q _ => ∃ p os z d, vs = [.ref p, .str z, .int d] ∧ BookAt K C H p os ∧ isAddrB (.str z) = true ∧ 0 ≤ d ∧ d ≤ 1000000000000000000 ∧ ∀ H', Same H H' → Q (optI (ordFor os z d)) H'
theorem ok_order_at (T : Top K mg C_Book C_Letter C_Decoder C_MailError C_InvalidOrder C_UnknownOrder C_InvalidAddress C_InvalidDay C_InvalidNumber C_NotationError C_InvalidCount C_DecodeError) : MFn P w K mg base CX0 3 C_Book "order_at" (spOrderAt K C_Book) := by
  have G_check_letter : GFn P w K mg base CX0 2 "check_letter" spCheckOk := ok_check_letter T
  have M_Book_order_for : MFn P w K mg base CX0 1 C_Book "order_for" (spOrderFor K C_Book) := ok_order_for T
  refine T.d_Book_order_at.fn fun f fd F => F.ok sc_Book_order_at (fun vs H Q E h => ?_) (fun cdv A outer s H vs Q E hr h => ?_)
  · obtain ⟨p, os, z, d, rfl, _⟩ := h
    rfl
  · obtain ⟨p, os, z, d, rfl, B, az, d0, d1, k⟩ := h
    refine ⟨_, (pss_cons (ps_expr (pe_g G_check_letter (hr.mono (by decide)) (pa_cons (pv 1) (pa_cons (pv 2) pa_nil))))
  (pss_one (ps_ret (pe_m M_Book_order_for T.cl_Book (hr.mono (by decide)) (pv 0) (pa_cons (pv 1) (pa_cons (pv 2) pa_nil)))))), ?_⟩
    refine ⟨_, rfl, _, rfl, z, d, rfl, az, d0, d1, fun H1 s1 => ?_⟩
    obtain ⟨dx, tl, as, b1, b2, b3⟩ := id (B.mono s1)
    exact ⟨_, rfl, p, dx, _, rfl, b1, rfl, _, rfl, _, rfl, p, os, z, d, rfl, B.mono s1, fun H2 s2 => k _ (s1.trans s2)⟩
end

end MF
set_option Elab.async false
set_option linter.all false
set_option maxRecDepth 100000
set_option maxHeartbeats 2000000
set_option pp.maxSteps 600
namespace MF
open PySem PySem.Spec PyProof.Rows L2 StX
section
theorem strOk_addr {z : Str} (h : isAddrB (.str z) = true) : PyData.strOk z = true := by
  simp only [isAddrB, Bool.and_eq_true, decide_eq_true_eq, List.all_eq_true] at h
  unfold PyData.strOk
  rw [← Array.all_toList, List.all_eq_true]
  intro c hc
  have hl : ∀ c ∈ letters.cps.toList, c < 1114112 := by decide
  exact decide_eq_true (hl c (by have := h.2 c hc; simpa using this))
theorem shaped_pt {z : Str} {d : Int} (h : isAddrB (.str z) = true) : SeqAt.shaped (.tuple [.str z, .int d]) = true := by
  have : (PyData.tuple [.str z, .int d]).canLay0 = true := by
    simp only [PyData.canLay0, PyData.canLayAll0, strOk_addr h, Bool.and_true]
  unfold SeqAt.shaped
  rw [this]
  rfl
theorem eqv_pt (A B : Pt) : PyData.eqv (.tuple [.str A.1, .int A.2]) (.tuple [.str B.1, .int B.2]) = decide (A = B) := by
  obtain ⟨a, b⟩ := A
  obtain ⟨c, d⟩ := B
  simp only [PyData.eqv, PyData.eqvAll, Bool.and_true]
  rw [Bool.eq_iff_iff]
  simp
end

end MF
set_option Elab.async false
set_option linter.all false
set_option maxRecDepth 100000
set_option maxHeartbeats 2000000
set_option pp.maxSteps 600
namespace MF
open PySem PySem.Spec PyProof.Rows L2 StX
section
variable {P : Program} {w : World} {K : PySem.W.Frag} {mg : Str → Option Value} {base : Heap} {C_Book C_Letter C_Decoder C_MailError C_InvalidOrder C_UnknownOrder C_InvalidAddress C_InvalidDay C_InvalidNumber C_NotationError C_InvalidCount C_DecodeError : Addr}
theorem op_inDK {X : Cx} {K : PySem.W.Frag} (hu : X.A.units + 65 < cLine) (h : X.K = K := by rfl) : OpR X (compareOp .In) (rInD K) := h ▸ op_inD hu
theorem op_notInDK {X : Cx} {K : PySem.W.Frag} (hu : X.A.units + 65 < cLine) (h : X.K = K := by rfl) : OpR X (compareOp .NotIn) (rNotInD K) := h ▸ op_notInD hu
def OptPt (H : Hp) (v : V) : Option Pt → Prop
  | none => v = .non
  | some C => ∃ p, v = .ref p ∧ H p = some (.tup [.str C.1, .int C.2])
def ptD (C : Pt) : PyData := .tuple [.str C.1, .int C.2]
def optD : Option Pt → PyData
  | none => .none
  | some C => ptD C
theorem OptPt.keep {H H' : Hp} {v : V} : ∀ {r : Option Pt}, OptPt H v r → (∀ b u, H b = some u → tupl u = true → H' b = some u) → OptPt H' v r
  | none, h, _ => h
  | some _, ⟨p, e, h⟩, k => ⟨p, e, k _ _ h rfl⟩
theorem OptPt.mono {H H' : Hp} {v : V} {r : Option Pt} (h : OptPt H v r) (s : Same H H') : OptPt H' v r := h.keep fun b u e _ => s b u e
theorem dp_pt {H : Hp} {p : Addr} {C : Pt} (h : H p = some (.tup [.str C.1, .int C.2])) : Dp K H (.ref p) (ptD C) := .tup (.inl (.inl h)) (.cons (.str _) (.cons (.int _) .nil))
theorem OptPt.dp {H : Hp} {v : V} : ∀ {r : Option Pt}, OptPt H v r → Dp K H v (optD r)
  | none, h => by rw [show v = .non from h]; exact .non
  | some _, ⟨p, e, h⟩ => by rw [e]; exact dp_pt h
theorem optD_shaped : ∀ {r : Option Pt}, (∀ C, r = some C → isAddrB (.str C.1) = true) → SeqAt.shaped (optD r) = true
  | none, _ => by decide
  | some C, h => shaped_pt (h C rfl)
theorem optD_lay : ∀ {r : Option Pt}, (∀ C, r = some C → isAddrB (.str C.1) = true) → (optD r).canLay0 = true
  | none, _ => by decide
  | some C, h => by
    show (PyData.tuple [.str C.1, .int C.2]).canLay0 = true
    simp only [PyData.canLay0, PyData.canLayAll0, strOk_addr (h C rfl), Bool.and_true]
theorem Go.addr {os : List Ordr} (g : Good os) {s t : Pt} {n : Nat} (h : Go os s n t) (hs : isAddrB (.str s.1) = true) : isAddrB (.str t.1) = true := by
  induction h with
  | refl => exact hs
  | step e _ ih =>
    obtain ⟨i, o, _, eo, _, rfl⟩ := nxt_some e
    exact ih (g.ok o (List.mem_of_getElem? eo)).at_
theorem On.addr {os : List Ordr} (g : Good os) {s t : Pt} (h : On os s t) (hs : isAddrB (.str s.1) = true) : isAddrB (.str t.1) = true := let ⟨_, z⟩ := h; z.addr g hs
end

end MF
set_option Elab.async false
set_option linter.all false
set_option maxRecDepth 100000
set_option maxHeartbeats 2000000
set_option pp.maxSteps 600
namespace MF
open PySem PySem.Spec PyProof.Rows L2 StX
section
variable {P : Program} {w : World} {K : PySem.W.Frag} {mg : Str → Option Value} {base : Heap} {C_Book C_Letter C_Decoder C_MailError C_InvalidOrder C_UnknownOrder C_InvalidAddress C_InvalidDay C_InvalidNumber C_NotationError C_InvalidCount C_DecodeError : Addr}
def spAreL (K : PySem.W.Frag) (CB : Addr) : Sp := fun vs H Q _ => ∃ rw sc ns one two both os qs, vs = [.ref rw, .ref one, .ref two, .ref both] ∧ RowAt K H rw sc ns ∧ BookAt K CB H one os ∧ BookAt K CB H two qs ∧ BookAt K CB H both (os ++ qs) ∧ one ≠ rw ∧ two ≠ rw ∧ both ≠ rw ∧ Good os ∧ Good qs ∧ Good (os ++ qs) ∧ Halves os qs ∧
  ∀ H', KeepR rw H H' → RowAt K H' rw sc ns → Q (.bl true) H'
structure T3 (K : PySem.W.Frag) (C : Addr) (rw sc : Addr) (ns : List Int) (one two both : Addr) (os qs : List Ordr) (H0 H : Hp) : Prop where
  kr : KeepR rw H0 H
  row : RowAt K H rw sc ns
  b1 : BookAt K C H one os
  b2 : BookAt K C H two qs
  b3 : BookAt K C H both (os ++ qs)
theorem T3.same {C rw sc : Addr} {ns : List Int} {one two both : Addr} {os qs : List Ordr} {H0 H H' : Hp} (S : T3 K C rw sc ns one two both os qs H0 H) (s : Same H H') : T3 K C rw sc ns one two both os qs H0 H' := ⟨S.kr.trans (KeepR.of s), S.row.keep s, S.b1.mono s, S.b2.mono s, S.b3.mono s⟩
theorem T3.keep {C rw sc : Addr} {ns : List Int} {one two both : Addr} {os qs : List Ordr} {H0 H H' : Hp} (S : T3 K C rw sc ns one two both os qs H0 H) (n1 : one ≠ rw) (n2 : two ≠ rw) (n3 : both ≠ rw) (k : KeepR rw H H') (r : RowAt K H' rw sc ns) : T3 K C rw sc ns one two both os qs H0 H' := ⟨S.kr.trans k, r, S.b1.keepR n1 S.row k, S.b2.keepR n2 S.row k, S.b3.keepR n3 S.row k⟩
theorem ok_are_letters (T : Top K mg C_Book C_Letter C_Decoder C_MailError C_InvalidOrder C_UnknownOrder C_InvalidAddress C_InvalidDay C_InvalidNumber C_NotationError C_InvalidCount C_DecodeError) : GFn P w K mg base CX0 8 "_law_are_letters" (spAreL K C_Book) := by
  have G__law_letter : GFn P w K mg base CX0 2 "_law_letter" (spLetter K) := ok_letter T
  have G_end : GFn P w K mg base CX0 6 "end" (spEnd K C_Book) := ok_end T
  have G_times_sent : GFn P w K mg base CX0 6 "times_sent" (spTimes K C_Book) := ok_times_sent T
  have M_Book_order_at : MFn P w K mg base CX0 3 C_Book "order_at" (spOrderAt K C_Book) := ok_order_at T
  obtain ⟨f1, LF_Book, LM_Book⟩ := (ok_book_len (P := P) (w := w) (base := base) T).ex
  refine T.d__law_are_letters.fn fun f fd F => F.ok sc__law_are_letters (fun vs H Q E h => ?_) (fun cdv A outer s H vs Q E hr h => ?_)
  · obtain ⟨rw, sc, ns, one, two, both, os, qs, rfl, _⟩ := h
    rfl
  · obtain ⟨rw, sc, ns, one, two, both, os, qs, rfl, R, B1, B2, B3, n1, n2, n3, g1, g2, g3, hv, kk⟩ := h
    refine ⟨_, (pss_cons (ps_for PassesOwn.never rfl (pi_range1 (by rfl) T.b_range (pa_cons pe_int pa_nil)) (pg_name (i := 4) sc__law_are_letters.nd rfl (Or.inl rfl))
  (C8.pss_cut (ps_asg (pe_g G__law_letter (hr.mono (by decide)) (pa_cons (pv 0) (pa_cons pe_int pa_nil))) (pg_tup rfl (pgs_cons (pg_name (i := 5) sc__law_are_letters.nd rfl (Or.inl rfl)) (pgs_cons (pg_name (i := 6) sc__law_are_letters.nd rfl (Or.inl rfl)) pgs_nil))))
  (C8.pss_cut (ps_if (PW.pt (pw_or (pt_cmpR (op_neD hr.units) (pe_g G_end (hr.mono (by decide)) (pa_cons (pv 3) (pa_cons (pv 5) (pa_cons (pv 6) pa_nil)))) (pe_g G_end (hr.mono (by decide)) (pa_cons (pv 1) (pa_cons (pv 5) (pa_cons (pv 6) pa_nil)))) (nomark _)) (pw_or1 (pt_cmpR op_ne (pe_g G_times_sent (hr.mono (by decide)) (pa_cons (pv 3) (pa_cons (pv 5) (pa_cons (pv 6) pa_nil)))) (pe_g G_times_sent (hr.mono (by decide)) (pa_cons (pv 1) (pa_cons (pv 5) (pa_cons (pv 6) pa_nil)))) (nomark _)))))
  (pss_one (ps_ret pe_bl))
  pss_nil)
  (C8.pss_cut (ps_if (pt_cmpR (op_neD hr.units) (pe_g G_end (hr.mono (by decide)) (pa_cons (pv 3) (pa_cons (pe_op op_add_str pe_str (pv 5)) (pa_cons (pv 6) pa_nil)))) (pe_g G_end (hr.mono (by decide)) (pa_cons (pv 2) (pa_cons (pe_op op_add_str pe_str (pv 5)) (pa_cons (pv 6) pa_nil)))) (nomark _))
  (pss_one (ps_ret pe_bl))
  pss_nil)
  (C8.pss_cut (ps_set (i := 7) sc__law_are_letters.nd rfl (Or.inl rfl) (pe_m M_Book_order_at T.cl_Book (hr.mono (by decide)) (pv 2) (pa_cons (pe_op op_add_str pe_str (pv 5)) (pa_cons (pv 6) pa_nil))))
  (pss_one (ps_if (pt_cmpR op_ne (pe_m M_Book_order_at T.cl_Book (hr.mono (by decide)) (pv 3) (pa_cons (pe_op op_add_str pe_str (pv 5)) (pa_cons (pv 6) pa_nil))) (pe_ifExp (pt_cmpR op_isN (pv 7) pe_non (nomark _)) pe_non (pe_op op_add (pe_callB (cr_lenO LM_Book LF_Book (hr.mono (by decide)) pass0) (by rfl) T.b_len (by decide +kernel) (pa_cons (pv 1) pa_nil)) (pv 7))) (nomark _))
  (pss_one (ps_ret pe_bl))
  pss_nil)))))))
  (pss_one (ps_ret pe_bl))), ?_⟩
    have S0 : T3 K C_Book rw sc ns one two both os qs H H := ⟨fun _ _ e _ => e, R, B1, B2, B3⟩
    let st (a b c d : Option V) : L2.St := [some (.ref rw), some (.ref one), some (.ref two), some (.ref both), a, b, c, d]
    refine ⟨3, rfl, (by decide), (by decide), for_it walk_range (fun i σ H' => T3 K C_Book rw sc ns one two both os qs H H' ∧ ∃ v4 v5 v6 v7, σ = st v4 v5 v6 v7) ⟨S0, _, _, _, _, rfl⟩ (fun _ _ _ _ _ => trivial) ?_ (fun σ' H' z => kk _ z.1.kr z.1.row)⟩
    clear S0
    rintro i y σ H1 H1' hi ⟨S1, v4, v5, v6, v7, rfl⟩ ⟨rfl, rfl⟩
    refine ⟨fun σ' H' => T3 K C_Book rw sc ns one two both os qs H H' ∧ ∃ x : Nat, ∃ d, x < 6 ∧ 0 ≤ d ∧ d < 60 ∧ σ' = st (some (.int (0 + i))) (some (.str (nmS x))) (some (.int d)) v7, ?_, ?_⟩
    · refine ⟨_, rfl, rw, sc, ns, 60, rfl, S1.row, by decide, by decide, fun H2 t x d k2 f2 R2 x6 d0 d1 e2 => ?_⟩
      refine ⟨t, _, rfl, .inl (.inl e2), rfl, _, _, rfl, _, _, rfl, rfl, ?_⟩
      exact ⟨S1.keep n1 n2 n3 k2 R2, x, d, x6, d0, d1, rfl⟩
    clear S1
    rintro σ H1 ⟨S1, x, d, x6, d0, d1, rfl⟩
    have ax := nmS_addr x6
    have l1 : (nmS x).length = 1 := rfl
    obtain ⟨l2, aq⟩ := laN x x6
    have lq : ("q" : Str).length + (nmS x).length ≤ sizeLine := by rw [l1]; decide
    generalize hX : nmS x = X at ax l1 l2 aq lq
    refine ⟨fun σ' H' => T3 K C_Book rw sc ns one two both os qs H H' ∧ σ' = st (some (.int (0 + i))) (some (.str X)) (some (.int d)) v7, ?_, ?_⟩
    · obtain ⟨N, t, en⟩ := ends_ex g1.fine (X, d)
      have en' := hv.ends1 l1 en
      have at_ : isAddrB (.str t.1) = true := en.1.addr g1 ax
      refine ⟨_, rfl, _, rfl, _, rfl, both, _, X, d, t, N, rfl, S1.b3, g3, ax, d0, by omega, en', fun H2 r2 s2 f2 e2 => ?_⟩
      refine ⟨_, rfl, _, rfl, _, rfl, one, _, X, d, t, N, rfl, S1.b1.mono s2, g1, ax, d0, by omega, en, fun H3 r3 s3 f3 e3 => ?_⟩
      refine ⟨.tuple [.str t.1, .int t.2], .tuple [.str t.1, .int t.2], .tup (.inl (.inl (s3 _ _ e2))) (.cons (.str _) (.cons (.int _) .nil)), .tup (.inl (.inl e3)) (.cons (.str _) (.cons (.int _) .nil)), shaped_pt at_, shaped_pt at_, ?_⟩
      rw [eqv_pt t t]
      refine ⟨_, rfl, iteND rfl ?_⟩
      refine ⟨_, rfl, _, rfl, _, rfl, both, _, X, d, t, N, rfl, S1.b3.mono (s2.trans s3), g3, ax, d0, by omega, en', fun H4 s4 => ?_⟩
      refine ⟨_, rfl, _, rfl, _, rfl, one, _, X, d, t, N, rfl, S1.b1.mono ((s2.trans s3).trans s4), g1, ax, d0, by omega, en, fun H5 s5 => ?_⟩
      exact ⟨rfl, _, rfl, iteND rfl ⟨S1.same (((s2.trans s3).trans s4).trans s5), rfl⟩⟩
    clear S1
    rintro σ H1 ⟨S1, rfl⟩
    refine ⟨fun σ' H' => T3 K C_Book rw sc ns one two both os qs H H' ∧ σ' = st (some (.int (0 + i))) (some (.str X)) (some (.int d)) v7, ?_, ?_⟩
    · obtain ⟨N, t, en⟩ := ends_ex g2.fine ("q" ++ X, d)
      have en' := hv.ends2 l2 en
      have at_ : isAddrB (.str t.1) = true := en.1.addr g2 aq
      refine ⟨_, rfl, _, rfl, _, _, rfl, rfl, lq, _, rfl, both, _, _, d, t, N, rfl, S1.b3, g3, aq, d0, by omega, en', fun H2 r2 s2 f2 e2 => ?_⟩
      refine ⟨_, rfl, _, rfl, _, _, rfl, rfl, lq, _, rfl, two, _, _, d, t, N, rfl, S1.b2.mono s2, g2, aq, d0, by omega, en, fun H3 r3 s3 f3 e3 => ?_⟩
      refine ⟨.tuple [.str t.1, .int t.2], .tuple [.str t.1, .int t.2], .tup (.inl (.inl (s3 _ _ e2))) (.cons (.str _) (.cons (.int _) .nil)), .tup (.inl (.inl e3)) (.cons (.str _) (.cons (.int _) .nil)), shaped_pt at_, shaped_pt at_, ?_⟩
      rw [eqv_pt t t]
      exact ⟨_, rfl, iteND rfl ⟨S1.same (s2.trans s3), rfl⟩⟩
    clear S1
    rintro σ H1 ⟨S1, rfl⟩
    refine ⟨fun σ' H' => T3 K C_Book rw sc ns one two both os qs H H' ∧ σ' = st (some (.int (0 + i))) (some (.str X)) (some (.int d)) (some (optI (ordFor qs ("q" ++ X) d))), ?_, ?_⟩
    · obtain ⟨dx, tl, as, b1, b2, b3⟩ := id S1.b2
      refine ⟨_, rfl, two, dx, _, rfl, b1, rfl, _, rfl, _, _, rfl, rfl, lq, _, rfl, two, qs, _, d, rfl, S1.b2, aq, d0, by omega, fun H2 s2 => ?_⟩
      exact ⟨S1.same s2, rfl⟩
    clear S1
    rintro σ H1 ⟨S1, rfl⟩
    obtain ⟨dx, tl, as, b1, b2, b3⟩ := id S1.b3
    refine ⟨_, rfl, both, dx, _, rfl, b1, rfl, _, rfl, _, _, rfl, rfl, lq, _, rfl, both, _, _, d, rfl, S1.b3, aq, d0, by omega, fun H2 s2 => ?_⟩
    have S2 := S1.same s2
    rw [sum_for2 (hv.src2 l2)]
    cases ordFor qs ("q" ++ X) d with
    | none =>
      refine ⟨_, rfl, rfl, _, rfl, iteT ?_⟩
      exact ⟨rfl, _, rfl, iteND rfl ⟨S2, _, _, _, _, rfl⟩⟩
    | some j =>
      refine ⟨_, rfl, rfl, _, rfl, iteDN (fun z => by cases z) ?_⟩
      obtain ⟨dy, tl2, as2, c1, c2, c3⟩ := id S2.b1
      refine ⟨_, rfl, one, dy, _, rfl, c1, one, os, rfl, S2.b1, os.length, rfl, ?_⟩
      have g30 := g1.len
      refine ⟨by omega, _, rfl, _, _, rfl, rfl, rfl, _, rfl, iteND ?_ ⟨S2, _, _, _, _, rfl⟩⟩
      show V.int ((os.length + j : Nat) : Int) = V.int ((os.length : Int) + (j : Int))
      rw [Int.natCast_add]
end

end MF
set_option Elab.async false
set_option linter.all false
set_option maxRecDepth 100000
set_option maxHeartbeats 2000000
set_option pp.maxSteps 600
namespace MF
open PySem PySem.Spec PyProof.Rows L2 StX
section
variable {P : Program} {w : World} {K : PySem.W.Frag} {mg : Str → Option Value} {base : Heap} {C_Book C_Letter C_Decoder C_MailError C_InvalidOrder C_UnknownOrder C_InvalidAddress C_InvalidDay C_InvalidNumber C_NotationError C_InvalidCount C_DecodeError : Addr}
def farB : Int := 100000000000000070
structure FarSo (i : Nat) (os : List Ordr) (kvs : List (Key × V)) : Prop where
  len : os.length = i
  klen : kvs.length ≤ i
  ok : ∀ o ∈ os, o.Ok
  apart : os.Pairwise fun o p => overB o p = false
  vals : ∀ s v, valV kvs (.inr s : Key) = some v → ∃ z : Int, v = .int z ∧ 0 ≤ z ∧ z ≤ i * farB
  free : ∀ o ∈ os, ∃ z : Int, valV kvs (.inr o.src : Key) = some (.int z) ∧ o.last < z
theorem FarSo.nil : FarSo 0 [] [] := ⟨rfl, Nat.le_refl _, (fun _ z => by cases z), .nil, (fun _ _ z => by cases z), (fun _ z => by cases z)⟩
theorem FarSo.get {i : Nat} {os : List Ordr} {kvs : List (Key × V)} (D : FarSo i os kvs) (s : Str) : ∃ z : Int, (valV kvs (.inr s : Key)).getD (.int 0) = .int z ∧ 0 ≤ z ∧ z ≤ i * farB := by
  cases q : valV kvs (.inr s : Key) with
  | none => exact ⟨0, rfl, Int.le_refl _, Int.mul_nonneg (Int.natCast_nonneg _) (by decide)⟩
  | some v =>
    obtain ⟨z', e1, e2, e3⟩ := D.vals _ _ q
    exact ⟨z', by rw [e1]; rfl, e2, e3⟩
theorem FarSo.snoc {i : Nat} {os : List Ordr} {kvs : List (Key × V)} (hi : i < 7) (D : FarSo i os kvs) {o : Ordr} (ho : o.Ok) {f l z : Int} (hz : (valV kvs (.inr o.src : Key)).getD (.int 0) = .int z)
    (f0 : z ≤ f) (fl : f ≤ l) (lB : l + 1 ≤ z + farB) : FarSo (i + 1) (os ++ [⟨o.src, o.tgt, f, l, o.way⟩]) (putK kvs (.inr o.src) (.int (l + 1))) := by
  obtain ⟨z', hz', z0, z1⟩ := D.get o.src
  rw [hz] at hz'
  cases hz'
  have mem : ∀ {q}, q ∈ os ++ [(⟨o.src, o.tgt, f, l, o.way⟩ : Ordr)] → q ∈ os ∨ q = ⟨o.src, o.tgt, f, l, o.way⟩ := fun {q} h => by
    rcases List.mem_append.mp h with h | h
    · exact .inl h
    · exact .inr (List.mem_singleton.mp h)
  have eB : ((i + 1 : Nat) : Int) * farB = i * farB + farB := by
    push_cast
    rw [Int.add_mul, Int.one_mul]
  have hB : (i : Int) * farB ≤ 6 * farB := Int.mul_le_mul_of_nonneg_right (by omega) (by decide)
  have eb : farB = 100000000000000070 := rfl
  refine ⟨by rw [List.length_append, D.len]; rfl, ?_, ?_, ?_, ?_, ?_⟩
  · have := length_putK kvs (.inr o.src) (.int (l + 1))
    have := D.klen
    omega
  · intro q h
    rcases mem h with h | rfl
    · exact D.ok q h
    · exact ⟨ho.as, ho.at_, ho.ne, by show 0 ≤ f; omega, fl, by show l ≤ _; omega, ho.w1, ho.w30⟩
  · refine List.pairwise_append.mpr ⟨D.apart, by simp, fun q hq p hp => ?_⟩
    rw [List.mem_singleton.mp hp]
    by_cases c : q.src = o.src
    · obtain ⟨z', e1, e2⟩ := D.free q hq
      rw [c] at e1
      rw [e1] at hz
      cases hz
      have : ¬ f ≤ q.last := by omega
      show (_ && (_ && decide (f ≤ q.last))) = false
      rw [decide_eq_false this, Bool.and_false, Bool.and_false]
    · show (decide (q.src = o.src) && _) = false
      rw [decide_eq_false c, Bool.false_and]
  · intro s v h
    rw [valV_put] at h
    rw [eB]
    by_cases ea : (Sum.inr s : Key) = Sum.inr o.src
    · rw [if_pos ea] at h
      cases h
      exact ⟨l + 1, rfl, by omega, by omega⟩
    · rw [if_neg ea] at h
      obtain ⟨z', e1, e2, e3⟩ := D.vals s v h
      exact ⟨z', e1, e2, by omega⟩
  · intro q h
    rw [valV_put]
    rcases mem h with h | rfl
    · by_cases ea : (Sum.inr q.src : Key) = Sum.inr o.src
      · rw [if_pos ea]
        refine ⟨l + 1, rfl, ?_⟩
        obtain ⟨z', e1, e2⟩ := D.free q h
        rw [ea] at e1
        rw [e1] at hz
        cases hz
        omega
      · rw [if_neg ea]
        exact D.free q h
    · rw [if_pos rfl]
      exact ⟨l + 1, rfl, by show l < l + 1; omega⟩
theorem FarSo.last {i : Nat} {os : List Ordr} {kvs : List (Key × V)} (D : FarSo i os kvs) (hi : i ≤ 7) : ∀ o ∈ os, o.last < 800000000000000000 := fun o h => by
  obtain ⟨z, e1, e2⟩ := D.free o h
  obtain ⟨z', e3, e4, e5⟩ := D.vals _ _ e1
  cases e3
  have hB : (i : Int) * farB ≤ 7 * farB := Int.mul_le_mul_of_nonneg_right (by omega) (by decide)
  have eb : farB = 100000000000000070 := rfl
  omega
structure FSt (K : PySem.W.Frag) (H0 H : Hp) (rw sc : Addr) (ns : List Int) (lf df : Addr) (as : List Addr) (os : List Ordr) (kvs : List (Key × V)) (i : Nat) : Prop where
  kr : KeepR rw H0 H
  row : RowAt K H rw sc ns
  hl : H lf = some (.lst (as.map V.ref))
  hd : H df = some (.dK kvs)
  ords : OrdsAt K H as os
  D : FarSo i os kvs
  nl : H0 lf = none
  nd : H0 df = none
  lr : lf ≠ rw
  dr : df ≠ rw
theorem FSt.taken {H0 H H' : Hp} {rw sc lf df : Addr} {ns : List Int} {as : List Addr} {os : List Ordr} {kvs : List (Key × V)} {i : Nat} (S : FSt K H0 H rw sc ns lf df as os kvs i) (R : RowAt K H' rw sc ns) (k : KeepR rw H H') : FSt K H0 H' rw sc ns lf df as os kvs i :=
  ⟨S.kr.trans k, R, k _ _ S.hl S.lr, k _ _ S.hd S.dr, S.ords.keepR (k.tup S.row), S.D, S.nl, S.nd, S.lr, S.dr⟩
theorem FSt.same {H0 H H' : Hp} {rw sc lf df : Addr} {ns : List Int} {as : List Addr} {os : List Ordr} {kvs : List (Key × V)} {i : Nat} (S : FSt K H0 H rw sc ns lf df as os kvs i) (s : Same H H') : FSt K H0 H' rw sc ns lf df as os kvs i := S.taken (S.row.keep s) (KeepR.of s)
theorem pow17 : (10 : Int) ^ (17 : Int).toNat = 100000000000000000 := by decide
theorem pick2 {a b v : Int} (h0 : 0 ≤ v) (h3 : v < 2) : ∃ z, atI [V.int a, .int b] v = some (.int z) ∧ (z = a ∨ z = b) := by
  have : v = 0 ∨ v = 1 := by omega
  rcases this with rfl | rfl
  · exact ⟨a, rfl, .inl rfl⟩
  · exact ⟨b, rfl, .inr rfl⟩
def spFarN (K : PySem.W.Frag) : Sp := fun vs H Q _ => ∃ rw sc ns l as os, vs = [.ref rw, .ref l] ∧ RowAt K H rw sc ns ∧ l ≠ rw ∧ H l = some (.lst (as.map V.ref)) ∧ OrdsAt K H as os ∧ (∀ o ∈ os, o.Ok) ∧ os.length ≤ 7 ∧
  ∀ H' l' as' os', KeepR rw H H' → H l' = none → RowAt K H' rw sc ns → H' l' = some (.lst (as'.map V.ref)) → OrdsAt K H' as' os' → Good os' → os'.length = os.length → (∀ o ∈ os', o.last < 800000000000000000) → (∀ q ∈ os', ∃ p ∈ os, q.src = p.src ∧ q.tgt = p.tgt) → Q (.ref l') H'
theorem ok_farN (T : Top K mg C_Book C_Letter C_Decoder C_MailError C_InvalidOrder C_UnknownOrder C_InvalidAddress C_InvalidDay C_InvalidNumber C_NotationError C_InvalidCount C_DecodeError) : GFn P w K mg base CX0 3 "_law_far" (spFarN K) := by
  have G__law_taken : GFn P w K mg base CX0 1 "_law_taken" (spTaken K) := ok_taken T
  have G__law_great : GFn P w K mg base CX0 2 "_law_great" (spGreat K) := ok_great T
  refine T.d__law_far.fn fun f fd F => F.ok sc__law_far (fun vs H Q E h => ?_) (fun cdv A outer s H vs Q E hr h => ?_)
  · obtain ⟨rw, sc, ns, l, as, os, rfl, _⟩ := h
    rfl
  · obtain ⟨rw, sc, ns, l, as0, os0, rfl, R, nl, el, O0, ok0, l7, k⟩ := h
    have hu := hu_of hr
    have la0 := PySem.Paired.length O0
    refine ⟨_, (pss_cons (ps_par (i := 2) (j := 3) (by rfl) sc__law_far.nd rfl rfl (by decide) rfl rfl (pa_cons (pe_lst pa_nil) (pa_cons pe_dnewK pa_nil)) (by rfl))
  (pss_cons (ps_for PassesOwn.never rfl (pi_list (pv 1)) (pg_tup rfl (pgs_cons (pg_name (i := 4) sc__law_far.nd rfl (Or.inl rfl)) (pgs_cons (pg_name (i := 5) sc__law_far.nd rfl (Or.inl rfl)) (pgs_cons (pg_name (i := 6) sc__law_far.nd rfl (Or.inl rfl)) (pgs_cons (pg_name (i := 7) sc__law_far.nd rfl (Or.inl rfl)) (pgs_cons (pg_name (i := 8) sc__law_far.nd rfl (Or.inl rfl)) pgs_nil))))))
  (C8.pss_cut (ps_set (i := 9) sc__law_far.nd rfl (Or.inl rfl) (pe_op op_add (pe_dget2 hu (pv 3) (pv 4) pe_int ⟨rfl, rfl, rfl, rfl⟩) (pe_g G__law_taken (hr.mono (by decide)) (pa_cons (pv 0) (pa_cons pe_int pa_nil)))))
  (C8.pss_cut (ps_set (i := 10) sc__law_far.nd rfl (Or.inl rfl) (pe_op op_add (pv 9) (pe_ix ix_list (pe_lst (pa_cons (pe_g G__law_taken (hr.mono (by decide)) (pa_cons (pv 0) (pa_cons pe_int pa_nil))) (pa_cons (pe_g G__law_great (hr.mono (by decide)) (pa_cons (pv 0) (pa_cons (pe_op op_pow pe_int pe_int) pa_nil))) pa_nil))) (pe_g G__law_taken (hr.mono (by decide)) (pa_cons (pv 0) (pa_cons pe_int pa_nil))) (fun _ _ => rfl))))
  (pss_cons (ps_expr (pe_bm PySem.F.plainAttrs_list PySem.F.slot_list_append PySem.F.type_list_append mt_append (pv 2) (pa_cons (pe_tup (pa_cons (pv 4) (pa_cons (pv 5) (pa_cons (pv 9) (pa_cons (pv 10) (pa_cons (pv 8) pa_nil)))))) pa_nil)))
  (pss_one (ps_dput hu (pv 3) (pv 4) (pe_op op_add (pv 10) pe_int) rfl))))))
  (pss_one (ps_ret (pv 2))))), ?_⟩
    refine ⟨(by show 0 ≤ sizeLine; decide), fun lf hlf => ?_⟩
    intro df hdf
    have hdf0 : H df = none := (Same.new hlf).free hdf
    have ne : lf ≠ df := ne_of_none (o := .lst []) upd_same hdf
    obtain ⟨xs, hrw⟩ := R.ex
    have lr : lf ≠ rw := (ne_of_none hrw hlf).symm
    have dr : df ≠ rw := (ne_of_none hrw hdf0).symm
    have s2 : Same H (upd (upd H lf (.lst [])) df (.dK [])) := MF.Same.upd (Same.new hlf) hdf
    have S0 : FSt K H (upd (upd H lf (.lst [])) df (.dK [])) rw sc ns lf df [] [] [] 0 := ⟨KeepR.of s2, R.keep s2, by rw [upd_ne ne, upd_same]; rfl, upd_same, .nil, .nil, hlf, hdf0, lr, dr⟩
    let st (a b c d e f g : Option V) : L2.St := [some (.ref rw), some (.ref l), some (.ref lf), some (.ref df), a, b, c, d, e, f, g]
    refine ⟨_, _, rfl, _, rfl, l, rfl, ⟨_, SqL.of (s2 _ _ el)⟩, for_list (xs := as0.map V.ref) (fun i σ H' => ∃ as os kvs, FSt K H H' rw sc ns lf df as os kvs i ∧ (∀ q ∈ os, ∃ p ∈ os0, q.src = p.src ∧ q.tgt = p.tgt) ∧ ∃ v4 v5 v6 v7 v8 v9 v10, σ = st v4 v5 v6 v7 v8 v9 v10)
      ⟨[], [], [], S0, (fun _ z => by cases z), _, _, _, _, _, _, _, rfl⟩ (fun i σ H' _ ⟨as, os, kvs, S, _⟩ => SqL.of (S.kr _ _ el nl)) ?_ ?_⟩
    · rintro i y σ H2 hy ⟨as, os, kvs, S2, nm, v4, v5, v6, v7, v8, v9, v10, rfl⟩
      obtain ⟨a, ea, eya⟩ : ∃ p, as0[i]? = some p ∧ V.ref p = y := by
        rw [List.getElem?_map] at hy
        cases q : as0[i]? with
        | none => rw [q] at hy; cases hy
        | some p => rw [q] at hy; exact ⟨p, rfl, Option.some.inj hy⟩
      subst eya
      obtain ⟨o, eo, oa⟩ := Paired.get O0 ea
      have hi : i < 7 := by
        have := (List.getElem?_eq_some_iff.mp eo).1
        omega
      have oo := ok0 o (List.mem_of_getElem? eo)
      have oa2 : OrdAt K H2 a o := by
        have : OrdsAt K H2 [a] [o] := OrdsAt.keepR (K := K) (H := H) (.cons oa .nil) fun b u e z => S2.kr b u e fun w => by rw [w, hrw] at e; cases e; cases z
        cases this with
        | cons h _ => exact h
      refine ⟨a, o.vals, rfl, oa2, rfl, _, _, rfl, _, _, rfl, _, _, rfl, _, _, rfl, _, _, rfl, rfl, ?_⟩
      obtain ⟨z, hz, z0, z1⟩ := S2.D.get o.src
      refine ⟨fun σ' H' => FSt K H H' rw sc ns lf df as os kvs i ∧ ∃ b, z ≤ b ∧ b < z + 30 ∧ σ' = st (some (.str o.src)) (some (.str o.tgt)) (some (.int o.first)) (some (.int o.last)) (some (.int o.way)) (some (.int b)) v10, ?_, ?_⟩
      · refine ⟨_, rfl, df, rfl, .inl ⟨kvs, .inl S2.hd⟩, _, rfl, _, DGet.k (k := Sum.inr o.src) S2.hd, _, rfl, rw, sc, ns, 30, rfl, S2.row, by decide, by decide, fun d H3 d0 d1 R3 k3 => ?_⟩
        exact ⟨z, d, hz, rfl, S2.taken R3 k3, z + d, by omega, by omega, rfl⟩
      clear S2 oa2
      rintro σ H2 ⟨S2, b, b0, b1, rfl⟩
      refine ⟨fun σ' H' => FSt K H H' rw sc ns lf df as os kvs i ∧ ∃ e, b ≤ e ∧ e < b + 100000000000000000 ∧ σ' = st (some (.str o.src)) (some (.str o.tgt)) (some (.int o.first)) (some (.int o.last)) (some (.int o.way)) (some (.int b)) (some (.int e)), ?_, ?_⟩
      · refine ⟨_, rfl, _, rfl, rw, sc, ns, 40, rfl, S2.row, by decide, by decide, fun c H3 c0 c1 R3 k3 => ?_⟩
        refine ⟨_, rfl, _, _, rfl, rfl, ⟨by decide, by decide, by decide⟩, rw, sc, ns, _, rfl, R3, by decide, fun d H4 d0 d1 R4 k4 => ?_⟩
        rw [pow17] at d1
        refine ⟨(by show 2 ≤ sizeLine; decide), fun p hp => ?_⟩
        have S4 := (S2.taken R3 k3).taken R4 k4
        have S5 := S4.same (Same.new (o := .lst [.int c, .int d]) hp)
        have pr : p ≠ rw := by
          obtain ⟨xs, q⟩ := S4.row.ex
          exact (ne_of_none q hp).symm
        refine ⟨_, rfl, rw, sc, ns, 2, rfl, S5.row, by decide, by decide, fun v H6 v0 v1 R6 k6 => ?_⟩
        obtain ⟨y, ey, hy⟩ := pick2 (a := c) (b := d) v0 v1
        refine ⟨p, _, _, _, rfl, rfl, SqL.of (k6 _ _ upd_same pr), ey, _, _, rfl, rfl, S5.taken R6 k6, b + y, by omega, by omega, rfl⟩
      clear S2
      rintro σ H2 ⟨S2, e, e0, e1, rfl⟩
      refine ⟨_, rfl, .inl ⟨rfl, _, SqL.of S2.hl⟩, _, rfl, _, rfl, _, rfl, _, rfl, _, rfl, (by show 5 ≤ sizeLine; decide), fun q hq => ?_⟩
      have nlq : lf ≠ q := ne_of_none S2.hl hq
      have ndq : df ≠ q := ne_of_none S2.hd hq
      have nld : lf ≠ df := ne_of S2.hl S2.hd (by intro z; cases z)
      have hal : as.length ≤ 20 := by
        have := PySem.Paired.length S2.ords
        have := S2.D.len
        omega
      refine ⟨lf, _, _, rfl, rfl, (by rw [upd_ne nlq]; exact S2.hl), (by rw [List.length_map, sizeLine_eq]; omega), ?_⟩
      refine ⟨_, rfl, _, _, rfl, rfl, _, rfl, _, rfl, df, _, rfl, DPut.k (k := Sum.inr o.src) (by rw [upd_ne nld.symm, upd_ne ndq]; exact S2.hd) (small1000 (by have := S2.D.klen; omega)), ?_⟩
      have hqr : rw ≠ q := by
        obtain ⟨xs, z⟩ := S2.row.ex
        exact ne_of_none z hq
      have kr9 : KeepR rw H (upd (upd (upd H2 q (.tup [.str o.src, .str o.tgt, .int b, .int e, .int o.way])) lf (.lst (as.map V.ref ++ [.ref q]))) df (.dK (putK kvs (.inr o.src) (.int (e + 1))))) := fun c u e nc => by
        rw [upd_ne (ne_of_none e S2.nd), upd_ne (ne_of_none e S2.nl), upd_ne (ne_of_none (S2.kr c u e nc) hq)]
        exact S2.kr c u e nc
      refine ⟨as ++ [q], os ++ [⟨o.src, o.tgt, b, e, o.way⟩], putK kvs (.inr o.src) (.int (e + 1)), ⟨kr9, ?_, ?_, upd_same, ?_, S2.D.snoc hi oo hz b0 e0 (by unfold farB; omega), S2.nl, S2.nd, S2.lr, S2.dr⟩, ?_, _, _, _, _, _, _, _, rfl⟩
      · exact R.via kr9 S2.row fun u e => by
          rw [upd_ne S2.dr.symm, upd_ne S2.lr.symm, upd_ne hqr]
          exact e
      · rw [upd_ne nld, upd_same, List.map_append]
        rfl
      · refine Paired.append (S2.ords.keepR fun c u e z => ?_) (.cons (.inl (.inl ?_)) .nil)
        · rw [upd_ne (fun x => by rw [x, S2.hd] at e; cases e; cases z), upd_ne (fun x => by rw [x, S2.hl] at e; cases e; cases z), upd_ne (ne_of_none e hq)]
          exact e
        · rw [upd_ne ndq.symm, upd_ne nlq.symm, upd_same]
          rfl
      · intro q hq
        rcases List.mem_append.mp hq with hq | hq
        · exact nm q hq
        · rw [List.mem_singleton.mp hq]
          exact ⟨o, List.mem_of_getElem? eo, rfl, rfl⟩
    · rintro σ H2 ⟨as, os, kvs, S2, nm, v4, v5, v6, v7, v8, v9, v10, rfl⟩
      have ll := S2.D.len
      rw [List.length_map] at ll
      refine ⟨_, rfl, k _ lf as os S2.kr hlf S2.row S2.hl S2.ords ⟨by omega, S2.D.ok, S2.D.apart⟩ (by omega) (S2.D.last (by rw [List.length_map]; omega)) nm⟩
def spFar (K : PySem.W.Frag) : Sp := fun vs H Q _ => ∃ rw sc ns l as os, vs = [.ref rw, .ref l] ∧ RowAt K H rw sc ns ∧ l ≠ rw ∧ H l = some (.lst (as.map V.ref)) ∧ OrdsAt K H as os ∧ (∀ o ∈ os, o.Ok) ∧ os.length ≤ 7 ∧
  ∀ H' l' as' os', KeepR rw H H' → H l' = none → RowAt K H' rw sc ns → H' l' = some (.lst (as'.map V.ref)) → OrdsAt K H' as' os' → Good os' → os'.length = os.length → (∀ o ∈ os', o.last < 800000000000000000) → Q (.ref l') H'
theorem ok_far (T : Top K mg C_Book C_Letter C_Decoder C_MailError C_InvalidOrder C_UnknownOrder C_InvalidAddress C_InvalidDay C_InvalidNumber C_NotationError C_InvalidCount C_DecodeError) : GFn P w K mg base CX0 3 "_law_far" (spFar K) :=
  (ok_farN T).imp fun vs H Q E h => by
    obtain ⟨rw, sc, ns, l, as, os, h1, h2, h3, h4, h5, h6, h7, k⟩ := h
    exact ⟨rw, sc, ns, l, as, os, h1, h2, h3, h4, h5, h6, h7, fun H' l' as' os' a b c d e f g i _ => k H' l' as' os' a b c d e f g i⟩
end

end MF
set_option Elab.async false
set_option linter.all false
set_option maxRecDepth 100000
set_option maxHeartbeats 2000000
set_option pp.maxSteps 600
namespace MF
open PySem PySem.Spec PyProof.Rows L2 StX
section
variable {P : Program} {w : World} {K : PySem.W.Frag} {mg : Str → Option Value} {base : Heap} {C_Book C_Letter C_Decoder C_MailError C_InvalidOrder C_UnknownOrder C_InvalidAddress C_InvalidDay C_InvalidNumber C_NotationError C_InvalidCount C_DecodeError : Addr}
def spWithout0 (K : PySem.W.Frag) (CB : Addr) : Sp := fun vs H Q _ => ∃ bk os o t, ∃ i : Nat, vs = [.ref bk, .ref t] ∧ BookAt K CB H bk os ∧ Good os ∧ os[i]? = some o ∧ H t = some (.tup [.int (i : Nat)]) ∧
  ∀ H' p, Same H H' → H p = none → BookAt K CB H' p (os.eraseIdx i) → Q (.ref p) H'
theorem Good.erase {os : List Ordr} (g : Good os) (i : Nat) : Good (os.eraseIdx i) :=
  ⟨Nat.le_trans (List.Sublist.length_le (List.eraseIdx_sublist _ _)) g.len, fun o ho => g.ok o ((List.eraseIdx_sublist _ _).subset ho), g.apart.sublist (List.eraseIdx_sublist _ _)⟩
theorem pairedErase {α β : Type} {r : α → β → Prop} : ∀ {as : List α} {bs : List β} (n : Nat), PySem.Paired r as bs → PySem.Paired r (as.eraseIdx n) (bs.eraseIdx n)
  | _, _, _, .nil => .nil
  | _, _, 0, .cons h t => t
  | _, _, n + 1, .cons h t => .cons h (pairedErase n t)
theorem erase_step {α : Type} (l : List α) (i j : Nat) (a : α) (h : l[j]? = some a) : (l.take (j + 1)).eraseIdx i = (l.take j).eraseIdx i ++ (if j = i then [] else [a]) := by
  have hl : j < l.length := (List.getElem?_eq_some_iff.mp h).1
  have lt : (l.take j).length = j := by rw [List.length_take]; omega
  rw [List.take_add_one, h]
  show (l.take j ++ [a]).eraseIdx i = _
  by_cases c1 : i < j
  · rw [List.eraseIdx_append_of_lt_length (by rw [lt]; exact c1), if_neg (by omega)]
  · rw [List.eraseIdx_append_of_length_le (by rw [lt]; omega), lt, List.eraseIdx_of_length_le (l := l.take j) (by rw [lt]; omega)]
    by_cases c2 : j = i
    · subst c2
      rw [if_pos rfl, Nat.sub_self]
      rfl
    · rw [if_neg c2, List.eraseIdx_of_length_le (by simp; omega)]
theorem ok_without (T : Top K mg C_Book C_Letter C_Decoder C_MailError C_InvalidOrder C_UnknownOrder C_InvalidAddress C_InvalidDay C_InvalidNumber C_NotationError C_InvalidCount C_DecodeError) : MFn P w K mg base CX0 6 C_Book "without" (fun vs H Q E => ∃ v rest, vs = v :: rest ∧ rest.length ≤ sizeLine ∧ ∀ p, H p = Option.none → spWithout0 K C_Book [v, V.ref p] (upd H p (.tup rest)) Q E) := by
  have M_Book_check_order : MFn P w K mg base CX0 2 C_Book "check_order" (spCheckOrd K C_Book) := ok_check_order T
  have G_book_of : GFn P w K mg base CX0 5 "book_of" (spBookOf K C_Book) := ok_book_of T
  refine T.d_Book_without.fn0 sc_Book_without fun f cdv A outer s H vs Q E hr h => ?_
  obtain ⟨bk, os, o, t, i, rfl, hb, g, eo, et, k⟩ := h
  refine ⟨_, (pss_cons (ps_for PassesOwn.never rfl (pi_tup (pv 1)) (pg_name (i := 2) sc_Book_without.nd rfl (Or.inl rfl))
  (pss_one (ps_expr (pe_m M_Book_check_order T.cl_Book (hr.mono (by decide)) (pv 0) (pa_cons (pv 2) pa_nil)))))
  (pss_one (ps_ret (pe_g G_book_of (hr.mono (by decide)) (pa_cons (pe_lc (own := [("index", 2), ("order", 3)]) (g := (gTup K 2 (gCons (gName 2) (gCons (gName 3) gNil)))) (by rfl) sc_Book_without.nd (pi_enumT (by rfl) T.b_enumerate (pa_cons (pe_fld (pv 0) rfl) pa_nil)) (blkOk_by (own := [("index", 2), ("order", 3)]) (N := ["self", "indexes", "index", "order"]) (sc := defScope s_Book_without) (by decide +kernel)) (fun _ _ _ _ _ => (pg_tup rfl (pgs_cons (pg_name (i := 2) sc_Book_without.nd rfl (Or.inl rfl)) (pgs_cons (pg_name (i := 3) sc_Book_without.nd rfl (Or.inl rfl)) pgs_nil)))) (fun _ _ _ _ _ => (pts_one (pt_cmpR (op_notIn_seqK (K := K)) (pv 2) (pv 1) rfl))) (fun _ _ _ _ _ => (pv 3))) pa_nil))))), ?_⟩
  obtain ⟨dx, tl, as, b1, b2, b3⟩ := id hb
  have hl : as.length = os.length := PySem.Paired.length b3
  have hi : i < os.length := (List.getElem?_eq_some_iff.mp eo).1
  refine ⟨_, rfl, t, rfl, ⟨_, .inl (.inl et)⟩, for_it (walk_tup (xs := [V.int (i : Nat)])) (fun j σ H' => H' = H ∧ ∃ v2 v3, σ = [some (.ref bk), some (.ref t), v2, v3]) ⟨rfl, _, _, rfl⟩ (fun j σ H' _ ⟨e, _⟩ => by rw [e]; exact .inl (.inl et)) ?_ ?_⟩
  · rintro j y σ H1 H2 hj ⟨rfl, v2, v3, rfl⟩ ⟨rfl, ey⟩
    have j0 : j = 0 := by simp at hj; omega
    subst j0
    cases ey
    refine ⟨_, rfl, bk, dx, _, rfl, b1, rfl, _, rfl, bk, os, i, rfl, hb, hi, ?_⟩
    exact ⟨rfl, _, _, rfl⟩
  · rintro σ H1 ⟨rfl, v2, v3, rfl⟩
    refine ⟨_, rfl, bk, C_Book, dx, _, _, rfl, b1, T.cl_Book, T.n_Book_listed, rfl, tl, _, rfl, b2, fun D hD => ?_⟩
    have sD : Same H1 (upd H1 D (.lst [])) := Same.new hD
    refine lc_it walk_enumT (fun j H' => Same H1 H' ∧ H' D = some (.lst (((as.take j).eraseIdx i).map V.ref))) ⟨sD, by rw [upd_same]; simp⟩ (fun j H' _ ⟨s1, _⟩ => MF.Same.tup s1 b2) ?_ ?_
    · rintro j y H2 H3 hj ⟨s2, e2⟩ ⟨p, z1, z2, rfl, hp, rfl, ez1, ez2⟩
      cases ez1
      rw [List.length_map] at hj
      obtain ⟨a, ea⟩ : ∃ a, as[j]? = some a := ⟨as[j], by simp [hj]⟩
      replace ez2 : (as.map V.ref)[j]? = some z2 := ez2
      rw [List.getElem?_map, ea] at ez2
      cases ez2
      have s3 := Same.new (o := .tup [.int (j : Nat), .ref a]) hp
      have s13 := s2.trans s3
      have e3 := s3 _ _ e2
      refine ⟨p, _, rfl, .inl (.inl upd_same), rfl, _, _, rfl, _, _, rfl, rfl, rfl, ?_⟩
      have hv : inV (V.int (j : Nat)) [V.int (i : Nat)] = decide (j = i) := by
        show ((i : Int) == (j : Int) || false) = decide (j = i)
        rw [Bool.or_false, Bool.eq_iff_iff, beq_iff_eq, decide_eq_true_eq]
        omega
      refine ⟨_, rfl, _, rfl, t, _, rfl, .inr (.inl (.inl (s13 _ _ et))), rfl, rfl, _, rfl, ?_⟩
      show if (!inV (V.int (j : Nat)) [V.int (i : Nat)]) = true then _ else _
      rw [hv]
      by_cases c : j = i
      · refine iteND c ⟨s13, ?_⟩
        rw [e3, erase_step as i j a ea, if_pos c, List.append_nil]
      · refine iteNDN c ⟨_, rfl, _, e3, ?_, fun b u e => ?_, ?_⟩
        · rw [List.length_map]
          have := List.Sublist.length_le (List.eraseIdx_sublist (as.take j) i)
          have l2 := List.length_take_le j as
          have := g.len
          rw [sizeLine_eq]
          omega
        · rw [upd_ne (ne_of_none e hD)]
          exact s13 b u e
        · rw [upd_same, erase_step as i j a ea, if_neg c, List.map_append]
          rfl
    · rintro H2 ⟨s2, e2⟩
      rw [List.length_map, List.take_length] at e2
      refine ⟨D, as.eraseIdx i, os.eraseIdx i, rfl, .inr (SqL.of e2), pairedErase i (b3.mono s2), g.erase i, fun H3 p s3 f3 B3 => ?_⟩
      exact k _ p (s2.trans s3) (s2.free f3) B3
def spWithout (K : PySem.W.Frag) (CB : Addr) : Sp := fun vs H Q _ => ∃ bk os o, ∃ i : Nat, vs = [.ref bk, .int (i : Nat)] ∧ BookAt K CB H bk os ∧ Good os ∧ os[i]? = some o ∧
  ∀ H' p, Same H H' → H p = none → BookAt K CB H' p (os.eraseIdx i) → Q (.ref p) H'
theorem ok_without1 (T : Top K mg C_Book C_Letter C_Decoder C_MailError C_InvalidOrder C_UnknownOrder C_InvalidAddress C_InvalidDay C_InvalidNumber C_NotationError C_InvalidCount C_DecodeError) : MFn P w K mg base CX0 6 C_Book "without" (spWithout K C_Book) :=
  (ok_without T).imp fun vs H Q E h => by
    obtain ⟨bk, os, o, i, rfl, hb, g, eo, k⟩ := h
    refine ⟨_, _, rfl, (by show 1 ≤ sizeLine; decide), fun p hp => ?_⟩
    have s1 := Same.new (o := .tup [.int (i : Nat)]) hp
    exact ⟨bk, os, o, p, i, rfl, hb.mono s1, g, eo, upd_same, fun H' q s' f' B => k _ q (s1.trans s') (s1.free f') B⟩
end

end MF
set_option Elab.async false
set_option linter.all false
set_option maxRecDepth 100000
set_option maxHeartbeats 2000000
set_option pp.maxSteps 600
namespace MF
open PySem PySem.Spec PyProof.Rows L2 StX
section
variable {P : Program} {w : World} {K : PySem.W.Frag} {mg : Str → Option Value} {base : Heap} {C_Book C_Letter C_Decoder C_MailError C_InvalidOrder C_UnknownOrder C_InvalidAddress C_InvalidDay C_InvalidNumber C_NotationError C_InvalidCount C_DecodeError : Addr}
theorem dp_strs {H : Hp} : ∀ ys : List Str, DpAll K H (ys.map V.str) (ys.map PyData.str)
  | [] => .nil
  | y :: ys => .cons (.str y) (dp_strs ys)
theorem eqv_strs : ∀ a b : List Str, PyData.eqvAll (a.map PyData.str) (b.map PyData.str) = decide (a = b)
  | [], [] => by simp [PyData.eqvAll]
  | [], b :: bs => by simp [PyData.eqvAll]
  | a :: as, [] => by simp [PyData.eqvAll]
  | a :: as, b :: bs => by
    rw [List.map_cons, List.map_cons, PyData.eqvAll, eqv_strs as bs]
    by_cases c : a = b
    · subst c
      simp [PyData.eqv]
    · simp [PyData.eqv, c]
theorem lay_strs {ys : List Str} (h : ∀ y ∈ ys, isAddrB (.str y) = true) : PyData.canLayAll0 (ys.map PyData.str) = true := by
  induction ys with
  | nil => simp [PyData.canLayAll0]
  | cons y ys ih =>
    rw [List.map_cons]
    simp only [PyData.canLayAll0, PyData.canLay0, ih fun z hz => h z (by simp [hz]), strOk_addr (h y (by simp)), Bool.and_self]
theorem depth_strs : ∀ ys : List Str, PyData.depthAll (ys.map PyData.str) ≤ 1
  | [] => by simp [PyData.depthAll]
  | y :: ys => by
    have := depth_strs ys
    rw [List.map_cons]
    simp only [PyData.depthAll, PyData.depth]
    omega
theorem shaped_strs {ys : List Str} (h : ∀ y ∈ ys, isAddrB (.str y) = true) : SeqAt.shaped (.list (ys.map PyData.str)) = true := by
  show ((PyData.list (ys.map PyData.str)).canLay0 && decide ((PyData.list (ys.map PyData.str)).depth ≤ 64)) = true
  rw [Bool.and_eq_true]
  refine ⟨?_, decide_eq_true ?_⟩
  · simp only [PyData.canLay0]
    exact lay_strs h
  · have := depth_strs ys
    simp only [PyData.depth]
    omega
end

end MF
set_option Elab.async false
set_option linter.all false
set_option maxRecDepth 100000
set_option maxHeartbeats 2000000
set_option pp.maxSteps 600
namespace MF
open PySem PySem.Spec PyProof.Rows L2 StX
section
variable {P : Program} {w : World} {K : PySem.W.Frag} {mg : Str → Option Value} {base : Heap} {C_Book C_Letter C_Decoder C_MailError C_InvalidOrder C_UnknownOrder C_InvalidAddress C_InvalidDay C_InvalidNumber C_NotationError C_InvalidCount C_DecodeError : Addr}
theorem sl_listK {X : Cx} {K : PySem.W.Frag} (h : X.K = K := by rfl) : SlR X (rSlL K) := h ▸ sl_list
structure DK (n : Nat) (d : PyData) : Prop where
  lay : d.canLay0 = true
  dep : d.depth ≤ n
  sm : smallD d = true
theorem dk_lay : ∀ {ds : List PyData}, (∀ d ∈ ds, d.canLay0 = true) → PyData.canLayAll0 ds = true
  | [], _ => by simp [PyData.canLayAll0]
  | d :: ds, h => by simp only [PyData.canLayAll0, h d List.mem_cons_self, dk_lay fun e he => h e (List.mem_cons_of_mem _ he), Bool.and_self]
theorem dk_dep {n : Nat} : ∀ {ds : List PyData}, (∀ d ∈ ds, d.depth ≤ n) → PyData.depthAll ds ≤ n
  | [], _ => by simp [PyData.depthAll]
  | d :: ds, h => by
    rw [PyData.depthAll]
    exact Nat.max_le.mpr ⟨h d List.mem_cons_self, dk_dep fun e he => h e (List.mem_cons_of_mem _ he)⟩
theorem dk_small : ∀ {ds : List PyData}, (∀ d ∈ ds, smallD d = true) → smallAll ds = true
  | [], _ => rfl
  | d :: ds, h => by simp only [smallAll, h d List.mem_cons_self, dk_small fun e he => h e (List.mem_cons_of_mem _ he), Bool.and_self]
theorem DK.list {n : Nat} {ds : List PyData} (h : ∀ d ∈ ds, DK n d) (hl : ds.length ≤ 1000000) : DK (n + 1) (.list ds) :=
  ⟨by simp only [PyData.canLay0]; exact dk_lay fun d hd => (h d hd).lay, by simp only [PyData.depth]; have := dk_dep fun d hd => (h d hd).dep; omega, by simp only [smallD, Bool.and_eq_true]; exact ⟨decide_eq_true hl, dk_small fun d hd => (h d hd).sm⟩⟩
theorem DK.tuple {n : Nat} {ds : List PyData} (h : ∀ d ∈ ds, DK n d) (hl : ds.length ≤ 1000000) : DK (n + 1) (.tuple ds) :=
  ⟨by simp only [PyData.canLay0]; exact dk_lay fun d hd => (h d hd).lay, by simp only [PyData.depth]; have := dk_dep fun d hd => (h d hd).dep; omega, by simp only [smallD, Bool.and_eq_true]; exact ⟨decide_eq_true hl, dk_small fun d hd => (h d hd).sm⟩⟩
theorem DK.int (n : Nat) (i : Int) : DK n (.int i) := ⟨by simp only [PyData.canLay0], by simp only [PyData.depth]; omega, rfl⟩
theorem DK.bl (n : Nat) (b : Bool) : DK n (.bool b) := ⟨by simp only [PyData.canLay0], by simp only [PyData.depth]; omega, rfl⟩
theorem DK.non (n : Nat) : DK n .none := ⟨by simp only [PyData.canLay0], by simp only [PyData.depth]; omega, rfl⟩
theorem DK.strk (n : Nat) {z : Str} (h : PyData.strOk z = true) : DK n (.str z) := ⟨by simp only [PyData.canLay0, h], by simp only [PyData.depth]; omega, rfl⟩
theorem DK.str (n : Nat) {z : Str} (h : isAddrB (.str z) = true) : DK n (.str z) := DK.strk n (strOk_addr h)
theorem DK.le {n m : Nat} {d : PyData} (h : DK n d) (hm : n ≤ m) : DK m d := ⟨h.lay, Nat.le_trans h.dep hm, h.sm⟩
theorem DK.cons {n : Nat} {d : PyData} {ds : List PyData} (h : DK n d) (t : ∀ e ∈ ds, DK n e) : ∀ e ∈ d :: ds, DK n e := fun e he => by
  rcases List.mem_cons.mp he with rfl | he
  · exact h
  · exact t e he
theorem DK.nil {n : Nat} : ∀ e ∈ ([] : List PyData), DK n e := fun e he => by cases he
theorem DK.map {α : Type} {n : Nat} {f : α → PyData} {l : List α} (h : ∀ x ∈ l, DK n (f x)) : ∀ d ∈ l.map f, DK n d := fun d hd => by
  obtain ⟨x, hx, rfl⟩ := List.mem_map.mp hd
  exact h x hx
theorem DK.rep {n k : Nat} {d : PyData} (h : DK n d) : ∀ e ∈ List.replicate k d, DK n e := fun e he => by
  rw [(List.mem_replicate.mp he).2]
  exact h
theorem DK.shaped {n : Nat} {d : PyData} (h : DK n d) (hn : n ≤ 64) : SeqAt.shaped d = true := by
  unfold SeqAt.shaped
  rw [h.lay, Bool.true_and]
  exact decide_eq_true (Nat.le_trans h.dep hn)
theorem dkMap {H : Hp} {α : Type} {f : α → V} {g : α → PyData} (h : ∀ x, Dp K H (f x) (g x)) : ∀ l : List α, DpAll K H (l.map f) (l.map g)
  | [] => .nil
  | x :: l => .cons (h x) (dkMap h l)
theorem dkMem {H : Hp} {f : V → PyData} : ∀ l : List V, (∀ x ∈ l, Dp K H x (f x)) → DpAll K H l (l.map f)
  | [], _ => .nil
  | x :: l, h => .cons (h x List.mem_cons_self) (dkMem l fun y hy => h y (List.mem_cons_of_mem _ hy))
theorem dkPair {H : Hp} {α β : Type} {R : α → β → Prop} {f : α → V} {g : β → PyData} (h : ∀ a b, R a b → Dp K H (f a) (g b)) : ∀ {as : List α} {bs : List β}, Paired R as bs → DpAll K H (as.map f) (bs.map g)
  | _, _, .nil => .nil
  | _, _, .cons a t => .cons (h _ _ a) (dkPair h t)
theorem dkRep {H : Hp} {v : V} {d : PyData} (h : Dp K H v d) : ∀ n, DpAll K H (List.replicate n v) (List.replicate n d)
  | 0 => .nil
  | n + 1 => .cons h (dkRep h n)
theorem eqvMap {α : Type} [DecidableEq α] {f : α → PyData} (h : ∀ a b, PyData.eqv (f a) (f b) = decide (a = b)) : ∀ l l' : List α, PyData.eqvAll (l.map f) (l'.map f) = decide (l = l')
  | [], [] => by simp [PyData.eqvAll]
  | [], b :: bs => by simp [PyData.eqvAll]
  | a :: as, [] => by simp [PyData.eqvAll]
  | a :: as, b :: bs => by
    rw [List.map_cons, List.map_cons, PyData.eqvAll, eqvMap h as bs, h]
    by_cases c : a = b
    · subst c
      simp
    · simp [c]
def ordDK (o : Ordr) : PyData := .tuple [.str o.src, .str o.tgt, .int o.first, .int o.last, .int o.way]
theorem DK.ord {o : Ordr} (h : o.Ok) : DK 1 (ordDK o) := .tuple (.cons (.str 0 h.as) (.cons (.str 0 h.at_) (.cons (.int 0 _) (.cons (.int 0 _) (.cons (.int 0 _) .nil))))) (by show 5 ≤ _; decide)
theorem dkOrds {H : Hp} {as : List Addr} {os : List Ordr} (h : OrdsAt K H as os) : DpAll K H (as.map V.ref) (os.map ordDK) :=
  dkPair (R := OrdAt K H) (fun a o oa => .tup oa (.cons (.str _) (.cons (.str _) (.cons (.int _) (.cons (.int _) (.cons (.int _) .nil)))))) h
theorem eqvOrd (o p : Ordr) : PyData.eqv (ordDK o) (ordDK p) = decide (o = p) := by
  obtain ⟨a, b, c, d, e⟩ := o
  obtain ⟨a', b', c', d', e'⟩ := p
  unfold ordDK
  simp only [PyData.eqv, PyData.eqvAll, Bool.and_true]
  rw [Bool.eq_iff_iff]
  simp
theorem eqvOrds (l l' : List Ordr) : PyData.eqvAll (l.map ordDK) (l'.map ordDK) = decide (l = l') := eqvMap eqvOrd l l'
theorem eqvInt (i j : Int) : PyData.eqv (.int i) (.int j) = decide (i = j) := rfl
end

end MF
set_option Elab.async false
set_option linter.all false
set_option maxRecDepth 100000
set_option maxHeartbeats 2000000
set_option pp.maxSteps 600
namespace MF
open PySem PySem.Spec PyProof.Rows L2 StX
section
variable {P : Program} {w : World} {K : PySem.W.Frag} {mg : Str → Option Value} {base : Heap} {C_Book C_Letter C_Decoder C_MailError C_InvalidOrder C_UnknownOrder C_InvalidAddress C_InvalidDay C_InvalidNumber C_NotationError C_InvalidCount C_DecodeError : Addr}
theorem tyBook {C : Addr} (c : Cls K C) (o : OwnC K C) {H : Hp} {a : Addr} {os : List Ordr} (B : BookAt K C H a os) : TyX K H (.ref a) (.ref C) := by
  obtain ⟨dx, t, as, h1, _, _⟩ := B
  exact .base (.ins h1 c o.ca o.cn o.ct o.mo)
theorem tyTup {H : Hp} {a : Addr} {xs : List V} (h : SqT K H a xs) : ∃ t, TyX K H (.ref a) t ∧ t = .type "tuple" := by
  rcases h with (z | ⟨u, z⟩) | z
  · exact ⟨_, .base (.tup z), rfl⟩
  · exact ⟨_, .fTuple z, rfl⟩
  · obtain ⟨o, its, n, e, c, _⟩ := z
    exact ⟨_, .kTuple e c, rfl⟩
def spBookEq (K : PySem.W.Frag) (C : Addr) : Sp := fun vs H Q _ => ∃ a os y, vs = [.ref a, y] ∧ BookAt K C H a os ∧ Good os ∧
  ((∃ b ps, y = .ref b ∧ BookAt K C H b ps ∧ Good ps ∧ Q (.bl (decide (os = ps))) H) ∨ (∃ t xs, y = .ref t ∧ SqT K H t xs ∧ Q (.bl false) H))
theorem ok_book_eq (T : Top K mg C_Book C_Letter C_Decoder C_MailError C_InvalidOrder C_UnknownOrder C_InvalidAddress C_InvalidDay C_InvalidNumber C_NotationError C_InvalidCount C_DecodeError) : MFn P w K mg base CX0 1 C_Book "__eq__" (spBookEq K C_Book) := by
  refine T.d_BookX_eqX.fn fun f fd F => F.ok sc_BookX_eqX (fun vs H Q E h => ?_) (fun cdv A outer s H vs Q E hr h => ?_)
  · obtain ⟨a, os, y, rfl, _⟩ := h
    rfl
  · obtain ⟨a, os, y, rfl, B, g, h⟩ := h
    refine ⟨_, (pss_one (ps_ret (pe_and (pe_callB call_isi (by rfl) T.b_isinstance (by decide +kernel) (pa_cons (pv 1) (pa_cons (pe_glob (v := V.ref C_Book) rfl T.g_Book rfl) pa_nil))) (pe_one (pe_cmpR (op_eqD hr.units) (pe_fld (pv 0) rfl) (pe_fld (pv 1) rfl) (nomark _)))))), ?_⟩
    obtain ⟨dx, t, as, h1, h2, h3⟩ := id B
    rcases h with ⟨b, ps, rfl, B2, g2, k⟩ | ⟨u, xs, rfl, hu, k⟩
    · obtain ⟨dy, t2, bs, c1, c2, c3⟩ := id B2
      refine ⟨_, rfl, _, _, _, _, _, rfl, .own C_Book, tyBook T.cl_Book T.ow_Book B2, T.ow_Book.is, true, rfl, ?_⟩
      refine iteT ⟨_, rfl, a, C_Book, dx, _, _, rfl, h1, T.cl_Book, T.n_Book_listed, rfl, _, rfl, b, C_Book, dy, _, _, rfl, c1, T.cl_Book, T.n_Book_listed, rfl, ?_⟩
      have d1 : DK 2 (.tuple (os.map ordDK)) := .tuple (DK.map fun o ho => .ord (g.ok o ho)) (by rw [List.length_map]; have := g.len; omega)
      have d2 : DK 2 (.tuple (ps.map ordDK)) := .tuple (DK.map fun o ho => .ord (g2.ok o ho)) (by rw [List.length_map]; have := g2.len; omega)
      refine ⟨.tuple (os.map ordDK), .tuple (ps.map ordDK), .tup h2 (dkOrds h3), .tup c2 (dkOrds c3), d1.shaped (by decide), d2.shaped (by decide), ?_⟩
      rw [show PyData.eqv (.tuple (os.map ordDK)) (.tuple (ps.map ordDK)) = decide (os = ps) from eqvOrds os ps]
      exact k
    · obtain ⟨ty, hty, rfl⟩ := tyTup hu
      exact ⟨_, rfl, _, _, _, _, _, rfl, .own C_Book, hty, T.ow_Book.no, false, rfl, iteF k⟩
end

end MF
set_option Elab.async false
set_option linter.all false
set_option maxRecDepth 100000
set_option maxHeartbeats 2000000
set_option pp.maxSteps 600
namespace MF
open PySem PySem.Spec PyProof.Rows L2 StX
section
variable {P : Program} {w : World} {K : PySem.W.Frag} {mg : Str → Option Value} {base : Heap} {C_Book C_Letter C_Decoder C_MailError C_InvalidOrder C_UnknownOrder C_InvalidAddress C_InvalidDay C_InvalidNumber C_NotationError C_InvalidCount C_DecodeError : Addr}
def mvO (n : Int) (o : Ordr) : Ordr := ⟨o.src, o.tgt, o.first + n, o.last + n, o.way⟩
theorem mv_good {os : List Ordr} {n : Int} (g : Good os) (h0 : ∀ o ∈ os, 0 ≤ o.first + n) (h1 : ∀ o ∈ os, o.last + n ≤ 1000000000000000000) : Good (os.map (mvO n)) := by
  refine ⟨by rw [List.length_map]; exact g.len, fun o ho => ?_, ?_⟩
  · obtain ⟨p, hp, rfl⟩ := List.mem_map.mp ho
    have ok := g.ok p hp
    exact ⟨ok.as, ok.at_, ok.ne, h0 p hp, by show p.first + n ≤ p.last + n; have := ok.fl; omega, h1 p hp, ok.w1, ok.w30⟩
  · refine List.pairwise_map.mpr (g.apart.imp fun {o p} h => ?_)
    rw [← h]
    unfold overB mvO
    simp only
    congr 1
    congr 1
    · rw [Bool.eq_iff_iff, decide_eq_true_eq, decide_eq_true_eq]; omega
    · rw [Bool.eq_iff_iff, decide_eq_true_eq, decide_eq_true_eq]; omega
theorem mv_holds (n : Int) (o : Ordr) (x : Str) (d : Int) : holds (mvO n o) x (d + n) = holds o x d := by
  unfold holds mvO
  simp only
  congr 1
  congr 1
  · rw [Bool.eq_iff_iff, decide_eq_true_eq, decide_eq_true_eq]; omega
  · rw [Bool.eq_iff_iff, decide_eq_true_eq, decide_eq_true_eq]; omega
theorem mv_ordFor (n : Int) (x : Str) (d : Int) : ∀ os : List Ordr, ordFor (os.map (mvO n)) x (d + n) = ordFor os x d
  | [] => rfl
  | o :: os => by
    show (if holds (mvO n o) x (d + n) = true then some 0 else (ordFor (os.map (mvO n)) x (d + n)).map (· + 1)) = (if holds o x d = true then some 0 else (ordFor os x d).map (· + 1))
    rw [mv_holds, mv_ordFor n x d os]
theorem mv_nxt (n : Int) (os : List Ordr) (s : Pt) : nxt (os.map (mvO n)) (s.1, s.2 + n) = (nxt os s).map fun t => (t.1, t.2 + n) := by
  unfold nxt
  simp only
  rw [mv_ordFor]
  cases ordFor os s.1 s.2 with
  | none => rfl
  | some i =>
    show ((os.map (mvO n))[i]?.map fun o => (o.tgt, s.2 + n + o.way)) = (os[i]?.map fun o => (o.tgt, s.2 + o.way)).map fun t => (t.1, t.2 + n)
    rw [List.getElem?_map]
    generalize os[i]? = q
    cases q with
    | none => rfl
    | some o =>
      show some (o.tgt, s.2 + n + o.way) = some (o.tgt, s.2 + o.way + n)
      congr 2
      omega
theorem mv_go {n : Int} {os : List Ordr} {s t : Pt} {k : Nat} (g : Go os s k t) : Go (os.map (mvO n)) (s.1, s.2 + n) k (t.1, t.2 + n) := by
  induction g with
  | refl => exact .refl _
  | step e _ ih => exact .step (by rw [mv_nxt, e]; rfl) ih
theorem mv_ends {n : Int} {os : List Ordr} {s t : Pt} {k : Nat} (e : Ends os s k t) : Ends (os.map (mvO n)) (s.1, s.2 + n) k (t.1, t.2 + n) := ⟨mv_go e.1, by rw [mv_nxt, e.2]; rfl⟩
def spMoved (K : PySem.W.Frag) : Sp := fun vs H Q _ => ∃ t as os n, vs = [.ref t, .int n] ∧ SqT K H t (as.map V.ref) ∧ OrdsAt K H as os ∧ os.length ≤ 30 ∧ 0 - 1000000000000000000 ≤ n ∧ n ≤ 1000000000000000000 ∧
  ∀ H' l bs, Same H H' → H' l = some (.lst (bs.map V.ref)) → OrdsAt K H' bs (os.map (mvO n)) → Q (.ref l) H'
theorem ok_moved (T : Top K mg C_Book C_Letter C_Decoder C_MailError C_InvalidOrder C_UnknownOrder C_InvalidAddress C_InvalidDay C_InvalidNumber C_NotationError C_InvalidCount C_DecodeError) : GFn P w K mg base CX0 2 "moved" (spMoved K) := by
  have G_is_integer : GFn P w K mg base CX0 1 "is_integer" spIsInteger := ok_is_integer T
  refine T.d_moved.fn fun f fd F => F.ok sc_moved (fun vs H Q E h => ?_) (fun cdv A outer s H vs Q E hr h => ?_)
  · obtain ⟨t, as, os, n, rfl, _⟩ := h
    rfl
  · obtain ⟨t, as, os, n, rfl, ht, O, l30, n0, n1, k⟩ := h
    refine ⟨_, (pss_cons (ps_if (pt_not (pt_val (pe_g G_is_integer (hr.mono (by decide)) (pa_cons (pv 1) (pa_cons (pe_op op_sub pe_int (pe_gint T.c_MAX_DAY)) (pa_cons (pe_gint T.c_MAX_DAY) pa_nil))))))
  (pss_one ps_never)
  pss_nil)
  (pss_one (ps_ret (pe_lc (own := [("source", 2), ("target", 3), ("first", 4), ("last", 5), ("way", 6)]) (g := (gTup K 5 (gCons (gName 2) (gCons (gName 3) (gCons (gName 4) (gCons (gName 5) (gCons (gName 6) gNil))))))) (by rfl) sc_moved.nd (pi_tup (pv 0)) (blkOk_by (own := [("source", 2), ("target", 3), ("first", 4), ("last", 5), ("way", 6)]) (N := ["orders", "days", "source", "target", "first", "last", "way"]) (sc := defScope s_moved) (by decide +kernel)) (fun _ _ _ _ _ => (pg_tup rfl (pgs_cons (pg_name (i := 2) sc_moved.nd rfl (Or.inl rfl)) (pgs_cons (pg_name (i := 3) sc_moved.nd rfl (Or.inl rfl)) (pgs_cons (pg_name (i := 4) sc_moved.nd rfl (Or.inl rfl)) (pgs_cons (pg_name (i := 5) sc_moved.nd rfl (Or.inl rfl)) (pgs_cons (pg_name (i := 6) sc_moved.nd rfl (Or.inl rfl)) pgs_nil))))))) (fun _ _ _ _ _ => pts_nil) (fun _ _ _ _ _ => (pe_tup (pa_cons (pv 2) (pa_cons (pv 3) (pa_cons (pe_op op_add (pv 4) (pv 1)) (pa_cons (pe_op op_add (pv 5) (pv 1)) (pa_cons (pv 6) pa_nil))))))))))), ?_⟩
    have hin : isIntB (.int n) (0 - 1000000000000000000) 1000000000000000000 = true := by
      show (decide (0 - 1000000000000000000 ≤ n) && decide (n ≤ 1000000000000000000)) = true
      rw [decide_eq_true n0, decide_eq_true n1]
      rfl
    refine ⟨_, rfl, _, _, rfl, rfl, ?_⟩
    refine ⟨.int n, 0 - 1000000000000000000, 1000000000000000000, rfl, rfl, ?_⟩
    refine ⟨_, rfl, ?_⟩
    rw [hin]
    refine iteF ?_
    have la := PySem.Paired.length O
    refine ⟨_, rfl, t, rfl, ⟨_, ht⟩, fun D hD => ?_⟩
    refine lc_it (walk_tup (xs := as.map V.ref)) (fun i H' => Same H H' ∧ ∃ bs, H' D = some (.lst (bs.map V.ref)) ∧ OrdsAt K H' bs ((os.take i).map (mvO n))) ⟨Same.new hD, [], upd_same, .nil⟩ (fun i H' _ ⟨s1, _⟩ => MF.Same.tup s1 ht) ?_ ?_
    · rintro i y H2 H3 hi ⟨s2, bs, e2, O2⟩ ⟨rfl, ey⟩
      rw [List.length_map] at hi
      obtain ⟨a, ea⟩ : ∃ a, as[i]? = some a := ⟨as[i], by simp [hi]⟩
      rw [List.getElem?_map, ea] at ey
      cases ey
      obtain ⟨o, eo, oa⟩ := Paired.get O ea
      refine ⟨a, o.vals, rfl, oa.mono s2, rfl, _, _, rfl, _, _, rfl, _, _, rfl, _, _, rfl, _, _, rfl, rfl, wipe5, ?_⟩
      refine ⟨_, rfl, _, rfl, _, rfl, _, rfl, _, _, rfl, rfl, _, rfl, _, rfl, _, _, rfl, rfl, _, rfl, (by show 5 ≤ sizeLine; decide), fun q hq => ?_⟩
      have nDq : D ≠ q := ne_of_none e2 hq
      have lb := PySem.Paired.length O2
      have hup : ∀ b' u, H3 b' = some u → b' ≠ D → (upd (upd H3 q (.tup [.str o.src, .str o.tgt, .int (o.first + n), .int (o.last + n), .int o.way])) D (.lst (bs.map V.ref ++ [.ref q]))) b' = some u := fun b' u e nb => by
        rw [upd_ne nb, upd_ne (ne_of_none e hq)]
        exact e
      refine ⟨_, by rw [upd_ne nDq]; exact e2, ?_, fun b' u e => hup b' u (s2 b' u e) (ne_of_none e hD), bs ++ [q], by rw [upd_same, List.map_append]; rfl, ?_⟩
      · rw [List.length_map, lb, List.length_map, List.length_take, sizeLine_eq]
        omega
      · rw [List.take_add_one, eo, List.map_append]
        refine Paired.append (OrdsAt.keepR O2 fun b' u e z => hup b' u e fun w => ?_) (.cons (.inl (.inl ?_)) .nil)
        · rw [w, e2] at e
          cases e
          cases z
        · rw [upd_ne nDq.symm, upd_same]
          rfl
    · rintro H2 ⟨s2, bs, e2, O2⟩
      rw [List.length_map, la, List.take_length] at O2
      exact k _ D bs s2 e2 O2
def spShift (K : PySem.W.Frag) (C : Addr) : Sp := fun vs H Q _ => ∃ p os n, vs = [.ref p, .int n] ∧ BookAt K C H p os ∧ os.length ≤ 30 ∧ 0 - 1000000000000000000 ≤ n ∧ n ≤ 1000000000000000000 ∧ Good (os.map (mvO n)) ∧
  ∀ H' q, Same H H' → H q = none → BookAt K C H' q (os.map (mvO n)) → Q (.ref q) H'
theorem ok_shift (T : Top K mg C_Book C_Letter C_Decoder C_MailError C_InvalidOrder C_UnknownOrder C_InvalidAddress C_InvalidDay C_InvalidNumber C_NotationError C_InvalidCount C_DecodeError) : MFn P w K mg base CX0 6 C_Book "__rshift__" (spShift K C_Book) := by
  have G_moved : GFn P w K mg base CX0 2 "moved" (spMoved K) := ok_moved T
  have G_book_of : GFn P w K mg base CX0 5 "book_of" (spBookOf K C_Book) := ok_book_of T
  refine T.d_BookX_rshiftX.fn fun f fd F => F.ok sc_BookX_rshiftX (fun vs H Q E h => ?_) (fun cdv A outer s H vs Q E hr h => ?_)
  · obtain ⟨p, os, n, rfl, _⟩ := h
    rfl
  · obtain ⟨p, os, n, rfl, B, g, n0, n1, hm, k⟩ := h
    refine ⟨_, (pss_one (ps_ret (pe_g G_book_of (hr.mono (by decide)) (pa_cons (pe_g G_moved (hr.mono (by decide)) (pa_cons (pe_fld (pv 0) rfl) (pa_cons (pv 1) pa_nil))) pa_nil)))), ?_⟩
    obtain ⟨dx, tl, as, b1, b2, b3⟩ := id B
    refine ⟨_, rfl, p, C_Book, dx, _, _, rfl, b1, T.cl_Book, T.n_Book_listed, rfl, _, rfl, tl, as, os, n, rfl, b2, b3, g, n0, n1, fun H1 l bs s1 e1 O1 => ?_⟩
    exact ⟨l, bs, os.map (mvO n), rfl, .inr (SqL.of e1), O1, hm, fun H2 q s2 f2 B2 => k _ q (s1.trans s2) (s1.free f2) B2⟩
end

end MF
set_option Elab.async false
set_option linter.all false
set_option maxRecDepth 100000
set_option maxHeartbeats 2000000
set_option pp.maxSteps 600
namespace MF
open PySem PySem.Spec PyProof.Rows L2 StX
section
variable {P : Program} {w : World} {K : PySem.W.Frag} {mg : Str → Option Value} {base : Heap} {C_Book C_Letter C_Decoder C_MailError C_InvalidOrder C_UnknownOrder C_InvalidAddress C_InvalidDay C_InvalidNumber C_NotationError C_InvalidCount C_DecodeError : Addr}
theorem rowsT_len {os qs : List Ordr} (g : Good os) (g' : Good qs) : ((rowsT os qs).map fun x => x.length).sum + (rowsT os qs).length * ("\n" : Str).length ≤ 16777216 := by
  have h1 := text_len (rows_ok g)
  have h2 := text_len (rows_ok g')
  have h3 : ("\n" : Str).length = 1 := rfl
  unfold rowsT
  split <;> split <;> simp only [List.nil_append, List.append_nil, List.singleton_append, List.map_cons, List.map_nil, List.sum_cons, List.sum_nil, List.length_cons, List.length_nil, h3] <;> omega
theorem ok_law (T : Top K mg C_Book C_Letter C_Decoder C_MailError C_InvalidOrder C_UnknownOrder C_InvalidAddress C_InvalidDay C_InvalidNumber C_NotationError C_InvalidCount C_DecodeError) (sf : PySem.W.selfFirst K C_Book = true) {f : Addr} {fd : FuncData} (F : Fun K "law" "law" s_law f fd) : FnOk P w K mg base CX0 13 f fd ["_law_script"] (spLaw K) := by
  have G__law_taken : GFn P w K mg base CX0 1 "_law_taken" (spTaken K) := ok_taken T
  have G__law_book : GFn P w K mg base CX0 7 "_law_book" (spLawBook K C_Book) := ok_law_book T sf
  have G__law_orders : GFn P w K mg base CX0 2 "_law_orders" (spOrders K) := ok_orders T
  have G__law_far : GFn P w K mg base CX0 3 "_law_far" (spFarN K) := ok_farN T
  have G__law_are_letters : GFn P w K mg base CX0 8 "_law_are_letters" (spAreL K C_Book) := ok_are_letters T
  have G_parse_book : GFn P w K mg base CX0 6 "parse_book" (spParseG K C_Book) := ok_parseG T
  have G_decode_book : GFn P w K mg base CX0 6 "decode_book" (spDecodeG K C_Book) := ok_decodeG T
  have G_format_book : GFn P w K mg base CX0 4 "format_book" (spFormat K C_Book) := ok_format T
  have G_encode_book : GFn P w K mg base CX0 3 "encode_book" (spEncode K C_Book) := ok_encode T
  have G_pack_bytes : GFn P w K mg base CX0 2 "pack_bytes" (spPack K) := ok_pack T
  have G_unpack_bytes : GFn P w K mg base CX0 1 "unpack_bytes" spUnpack := ok_unpack T
  have PR_Book_orders : PFn P w K mg base CX0 1 C_Book "orders" (spOrdersP K C_Book) := ok_ordersP T
  have M_Book_without : MFn P w K mg base CX0 6 C_Book "without" (spWithout K C_Book) := ok_without1 T
  obtain ⟨f1, LF_Book, LM_Book⟩ := (ok_book_len (P := P) (w := w) (base := base) T).ex
  obtain ⟨f2, AF_Book, AM_Book⟩ := (ok_Book_add (P := P) (w := w) (base := base) T).ex
  obtain ⟨f3, EF_Book, EM_Book⟩ := (ok_book_eq (P := P) (w := w) (base := base) T).ex
  obtain ⟨f4, SF_Book, SM_Book⟩ := (ok_shift (P := P) (w := w) (base := base) T).ex
  refine F.ok sc_law (fun vs H Q E h => ?_) (fun cdv A outer s H vs Q E hr h => ?_)
  · obtain ⟨a, ns, rfl, _⟩ := h
    rfl
  · obtain ⟨a, ns, rfl, hS, hlen, k⟩ := h
    refine ⟨_, (pss_cons (ps_set (i := 1) sc_law.nd rfl (Or.inl rfl) (pe_lst (pa_cons (pv 0) (pa_cons pe_int (pa_cons pe_int (pa_cons pe_int pa_nil))))))
  (pss_cons (ps_for PassesOwn.never rfl (pi_range1 (by rfl) T.b_range (pa_cons pe_int pa_nil)) (pg_name (i := 2) sc_law.nd rfl (Or.inl rfl))
  (C8.pss_cut (ps_set (i := 3) sc_law.nd rfl (Or.inl rfl) (pe_g G__law_orders (hr.mono (by decide)) (pa_cons (pv 1) (pa_cons pe_int (pa_cons pe_int pa_nil)))))
  (C8.pss_cut (ps_if (pt_cmpR op_eq (pe_g G__law_taken (hr.mono (by decide)) (pa_cons (pv 1) (pa_cons pe_int pa_nil))) pe_int (nomark _))
  (pss_one (ps_set (i := 3) sc_law.nd rfl (Or.inl rfl) (pe_g G__law_far (hr.mono (by decide)) (pa_cons (pv 1) (pa_cons (pv 3) pa_nil)))))
  pss_nil)
  (C8.pss_cut (ps_set (i := 4) sc_law.nd rfl (Or.inl rfl) (pe_lst pa_nil))
  (C8.pss_cut (ps_for PassesOwn.never rfl (pi_list (pe_g G__law_orders (hr.mono (by decide)) (pa_cons (pv 1) (pa_cons pe_int (pa_cons pe_int pa_nil))))) (pg_tup rfl (pgs_cons (pg_name (i := 5) sc_law.nd rfl (Or.inl rfl)) (pgs_cons (pg_name (i := 6) sc_law.nd rfl (Or.inl rfl)) (pgs_cons (pg_name (i := 7) sc_law.nd rfl (Or.inl rfl)) (pgs_cons (pg_name (i := 8) sc_law.nd rfl (Or.inl rfl)) (pgs_cons (pg_name (i := 9) sc_law.nd rfl (Or.inl rfl)) pgs_nil))))))
  (pss_one (ps_expr (pe_bm PySem.F.plainAttrs_list PySem.F.slot_list_append PySem.F.type_list_append mt_append (pv 4) (pa_cons (pe_tup (pa_cons (pe_op op_add_str pe_str (pv 5)) (pa_cons (pe_op op_add_str pe_str (pv 6)) (pa_cons (pv 7) (pa_cons (pv 8) (pa_cons (pv 9) pa_nil)))))) pa_nil)))))
  (C8.pss_cut (ps_par (i := 10) (j := 11) (by rfl) sc_law.nd rfl rfl (by decide) rfl rfl (pa_cons (pe_g G__law_book (hr.mono (by decide)) (pa_cons (pv 3) pa_nil)) (pa_cons (pe_g G__law_book (hr.mono (by decide)) (pa_cons (pv 4) pa_nil)) pa_nil)) (by rfl))
  (C8.pss_cut (ps_par (i := 12) (j := 13) (by rfl) sc_law.nd rfl rfl (by decide) rfl rfl (pa_cons (pe_op (op_ownR sf AM_Book AF_Book (hr.mono (by decide)) pass0) (pv 10) (pv 11)) (pa_cons (pe_op (op_ownR sf AM_Book AF_Book (hr.mono (by decide)) pass0) (pv 10) (pv 11)) pa_nil)) (by rfl))
  (C8.pss_cut (ps_for PassesOwn.never rfl (pi_range1 (by rfl) T.b_range (pa_cons (pe_callB (cr_lenO LM_Book LF_Book (hr.mono (by decide)) pass0) (by rfl) T.b_len (by decide +kernel) (pa_cons (pv 11) pa_nil)) pa_nil)) (pg_name (i := 14) sc_law.nd rfl (Or.inl rfl))
  (pss_one (ps_set (i := 13) sc_law.nd rfl (Or.inl rfl) (pe_m M_Book_without T.cl_Book (hr.mono (by decide)) (pv 13) (pa_cons (pe_callB (cr_lenO LM_Book LF_Book (hr.mono (by decide)) pass0) (by rfl) T.b_len (by decide +kernel) (pa_cons (pv 10) pa_nil)) pa_nil)))))
  (C8.pss_cut (ps_if (PW.pt (pw_or (pt_cmpR (op_neD hr.units) (pe_pr PR_Book_orders T.cl_Book (hr.mono (by decide)) (pv 12)) (pe_callTy call_tuple_of (by rfl) T.b_tuple (by decide +kernel) (pa_cons (pe_op op_cat (pv 3) (pv 4)) pa_nil)) (nomark _)) (pw_or (pt_not (pt_cmpR (op_eqO EM_Book EF_Book (hr.mono (by decide)) pass0) (pv 13) (pv 10) (nomark _))) (pw_or1 (pt_not (pt_cmpR (op_eqO EM_Book EF_Book (hr.mono (by decide)) pass0) (pe_op (op_ownI sf SM_Book T.n_Book___rrshift__ SF_Book (hr.mono (by decide)) pass0) (pv 12) pe_int) (pe_op (op_ownR sf AM_Book AF_Book (hr.mono (by decide)) pass0) (pe_op (op_ownI sf SM_Book T.n_Book___rrshift__ SF_Book (hr.mono (by decide)) pass0) (pv 10) pe_int) (pe_op (op_ownI sf SM_Book T.n_Book___rrshift__ SF_Book (hr.mono (by decide)) pass0) (pv 11) pe_int)) (nomark _)))))))
  (pss_one (ps_ret pe_bl))
  pss_nil)
  (C8.pss_cut (ps_if (PW.pt (pw_or (pt_not (pt_cmpR (op_eqO EM_Book EF_Book (hr.mono (by decide)) pass0) (pe_g G_parse_book (hr.mono (by decide)) (pa_cons (pe_g G_format_book (hr.mono (by decide)) (pa_cons (pv 12) pa_nil)) pa_nil)) (pv 12) (nomark _))) (pw_or1 (pt_not (pt_cmpR (op_eqO EM_Book EF_Book (hr.mono (by decide)) pass0) (pe_g G_decode_book (hr.mono (by decide)) (pa_cons (pe_g G_encode_book (hr.mono (by decide)) (pa_cons (pv 12) pa_nil)) pa_nil)) (pv 12) (nomark _))))))
  (pss_one (ps_ret pe_bl))
  pss_nil)
  (C8.pss_cut (ps_setLc (i := 15) (own := [("_law_book_here", 18)]) (g := (gName 18)) (by rfl) sc_law.nd rfl rfl (sw_true rfl rfl rfl (by decide +kernel)) (pi_tup (pe_tup (pa_cons (pv 10) (pa_cons (pv 11) pa_nil)))) (blkOk_by (own := [("_law_book_here", 18)]) (N := ["_law_script", "_law_row", "_law_turn", "_law_first", "_law_later", "_law_source", "_law_target", "_law_begin", "_law_last", "_law_way", "_law_one", "_law_two", "_law_both", "_law_back", "_law_k", "_law_rows", "_law_values", "_law_sizes", "_law_book_here"]) (sc := defScope s_law) (by decide +kernel)) (fun _ _ _ _ _ => (pg_name (i := 18) sc_law.nd rfl (Or.inl rfl))) (fun _ _ _ _ _ => (pts_one (pt_cmpR op_gt (pe_callB (cr_lenO LM_Book LF_Book (hr.mono (by decide)) pass0) (by rfl) T.b_len (by decide +kernel) (pa_cons (pv 18) pa_nil)) pe_int (nomark _)))) (fun _ _ _ _ _ => (pe_g G_format_book (hr.mono (by decide)) (pa_cons (pv 18) pa_nil))))
  (C8.pss_cut (ps_if (pt_cmpR op_ne (pe_g G_format_book (hr.mono (by decide)) (pa_cons (pv 12) pa_nil)) (pe_join pe_str (pv 15)) (nomark _))
  (pss_one (ps_ret pe_bl))
  pss_nil)
  (C8.pss_cut (ps_set (i := 16) sc_law.nd rfl (Or.inl rfl) (pe_g G_unpack_bytes (hr.mono (by decide)) (pa_cons (pe_g G_encode_book (hr.mono (by decide)) (pa_cons (pv 12) pa_nil)) pa_nil)))
  (C8.pss_cut (ps_setLc (i := 17) (own := [("_law_book_here", 18)]) (g := (gName 18)) (by rfl) sc_law.nd rfl rfl (sw_true rfl rfl rfl (by decide +kernel)) (pi_tup (pe_tup (pa_cons (pv 10) (pa_cons (pv 11) pa_nil)))) (blkOk_by (own := [("_law_book_here", 18)]) (N := ["_law_script", "_law_row", "_law_turn", "_law_first", "_law_later", "_law_source", "_law_target", "_law_begin", "_law_last", "_law_way", "_law_one", "_law_two", "_law_both", "_law_back", "_law_k", "_law_rows", "_law_values", "_law_sizes", "_law_book_here"]) (sc := defScope s_law) (by decide +kernel)) (fun _ _ _ _ _ => (pg_name (i := 18) sc_law.nd rfl (Or.inl rfl))) (fun _ _ _ _ _ => pts_nil) (fun _ _ _ _ _ => (pe_callB (call_len_seqK (K := K)) (by rfl) T.b_len (by decide +kernel) (pa_cons (pe_g G_unpack_bytes (hr.mono (by decide)) (pa_cons (pe_g G_encode_book (hr.mono (by decide)) (pa_cons (pv 18) pa_nil)) pa_nil)) pa_nil))))
  (C8.pss_cut (ps_if (PW.pt (pw_or (pt_cmpR op_ne (pe_g G_pack_bytes (hr.mono (by decide)) (pa_cons (pv 16) pa_nil)) (pe_g G_encode_book (hr.mono (by decide)) (pa_cons (pv 12) pa_nil)) (nomark _)) (pw_or1 (pt_cmpR op_ne (pe_callB call_len_seq (by rfl) T.b_len (by decide +kernel) (pa_cons (pv 16) pa_nil)) (pe_op op_sub (pe_op op_add (pe_ix ix_list (pv 17) pe_int (fun _ _ => rfl)) (pe_ix ix_list (pv 17) pe_int (fun _ _ => rfl))) pe_int) (nomark _)))))
  (pss_one (ps_ret pe_bl))
  pss_nil)
  (pss_one (ps_if (pt_not (pt_val (pe_g G__law_are_letters (hr.mono (by decide)) (pa_cons (pv 1) (pa_cons (pv 10) (pa_cons (pv 11) (pa_cons (pv 12) pa_nil)))))))
  (pss_one (ps_ret pe_bl))
  pss_nil)))))))))))))))))
  (pss_one (ps_ret pe_bl)))), ?_⟩
    refine ⟨_, rfl, (by show 4 ≤ sizeLine; decide), fun rw hrw => ?_⟩
    have R0 := row_new hS hrw
    have s0 : Same H (upd H rw (.lst [.ref a, .int 0, .int 0, .int 0])) := Same.new hrw
    generalize upd H rw _ = H1 at R0 s0
    let tl (v2 v3 v4 v5 v6 v7 v8 v9 v10 v11 v12 v13 v14 v15 v16 v17 v18 : Option V) : L2.St := [some (.ref a), some (.ref rw), v2, v3, v4, v5, v6, v7, v8, v9, v10, v11, v12, v13, v14, v15, v16, v17, v18]
    refine ⟨2, rfl, (by decide), (by decide), for_it walk_range (fun i σ H' => Same H H' ∧ RowAt K H' rw a ns ∧ ∃ v2 v3 v4 v5 v6 v7 v8 v9 v10 v11 v12 v13 v14 v15 v16 v17 v18, σ = tl v2 v3 v4 v5 v6 v7 v8 v9 v10 v11 v12 v13 v14 v15 v16 v17 v18) ⟨s0, R0, _, _, _, _, _, _, _, _, _, _, _, _, _, _, _, _, _, rfl⟩ (fun _ _ _ _ _ => trivial) ?_ (fun σ' H' z => k _)⟩
    clear s0 R0
    rintro i y σ H2 H3 hi ⟨s2, R2, w2, w3, w4, w5, w6, w7, w8, w9, w10, w11, w12, w13, w14, w15, w16, w17, w18, rfl⟩ ⟨rfl, rfl⟩
    let FS (H' : Hp) (l : Addr) (as : List Addr) (os : List Ordr) : Prop := PS K H H' rw a ns l as os ∧ Good os ∧ Abc os ∧ os.length ≤ 7 ∧ ∀ o ∈ os, o.last ≤ 900000000000000000
    have drawn : ∀ {os : List Ordr}, DrawnOs 7 20 os → Good os ∧ Abc os ∧ os.length ≤ 7 ∧ ∀ o ∈ os, o.last ≤ 900000000000000000 := fun {os} D => ⟨D.good, D.names, D.len, fun o ho => by
      have := D.lasts o ho
      have e : (7 : Nat) * (27 + (20 : Nat) : Int) = 329 := by decide
      omega⟩
    have PSu : ∀ {ll l : Addr} {as : List Addr} {os : List Ordr} {H' H'' : Hp}, H ll = none → PS K H H' rw a ns l as os → ll ≠ rw → ll ≠ l → (∃ bs, H' ll = some (.lst bs)) → (∀ b u, H' b = some u → b ≠ ll → H'' b = some u) → PS K H H'' rw a ns l as os := fun {ll l as os H' H''} h0 S nr nl ⟨bs, e⟩ up => by
      have s : Same H H'' := fun b u e => up _ _ (S.s0 b u e) (ne_of_none e h0)
      exact ⟨s, S.row.other hS hrw s (fun u e => up _ _ e nr.symm), up _ _ S.el nl.symm, S.ords.keepR (fun b u e2 z => up _ _ e2 fun w => by (rw [w, e] at e2; cases e2; cases z)), S.nl⟩
    refine ⟨fun σ' H' => ∃ l as os, FS H' l as os ∧ ∃ v2 v4 v5 v6 v7 v8 v9 v10 v11 v12 v13 v14 v15 v16 v17 v18, σ' = tl v2 (some (.ref l)) v4 v5 v6 v7 v8 v9 v10 v11 v12 v13 v14 v15 v16 v17 v18, ?_, ?_⟩
    · refine ⟨_, rfl, rw, a, ns, 7, 20, rfl, R2, by decide, by decide, by decide, fun H4 l as os k4 f4 R4 e4 o4 D4 => ?_⟩
      exact ⟨l, as, os, ⟨⟨fun b u e => k4 b u (s2 b u e) (ne_of_none e hrw), R4, e4, o4, R2.fresh f4⟩, drawn D4⟩, _, _, _, _, _, _, _, _, _, _, _, _, _, _, _, _, rfl⟩
    clear s2 R2
    rintro σ H2 ⟨l, as, os, ⟨S2, d2⟩, w2, w4, w5, w6, w7, w8, w9, w10, w11, w12, w13, w14, w15, w16, w17, w18, rfl⟩
    refine ⟨fun σ' H' => ∃ l as os, FS H' l as os ∧ ∃ v2 v4 v5 v6 v7 v8 v9 v10 v11 v12 v13 v14 v15 v16 v17 v18, σ' = tl v2 (some (.ref l)) v4 v5 v6 v7 v8 v9 v10 v11 v12 v13 v14 v15 v16 v17 v18, ?_, ?_⟩
    · refine ⟨_, rfl, rw, a, ns, 2, rfl, S2.row, by decide, by decide, fun v H4 v0 v1 R4 k4 => ⟨rfl, _, rfl, ?_⟩⟩
      have S4 := S2.keepR hrw R4 k4
      by_cases c : V.int v = V.int 0
      · refine iteD c ?_
        refine ⟨_, rfl, _, rfl, rw, a, ns, l, as, os, rfl, S4.row, S4.nl, S4.el, S4.ords, d2.1.ok, d2.2.2.1, fun H5 l5 as5 os5 k5 f5 R5 e5 o5 g5 n5 z5 m5 => ?_⟩
        refine ⟨l5, as5, os5, ⟨⟨fun b u e => k5 b u (S4.s0 b u e) (ne_of_none e hrw), R5, e5, o5, S4.row.fresh f5⟩, g5, fun q hq => ?_, by rw [n5]; exact d2.2.2.1, fun o ho => by have := z5 o ho; omega⟩, _, _, _, _, _, _, _, _, _, _, _, _, _, _, _, _, rfl⟩
        obtain ⟨p, hp, ea, eb⟩ := m5 q hq
        obtain ⟨i1, j1, h1, h2, h3, h4⟩ := d2.2.1 p hp
        exact ⟨i1, j1, h1, h2, ea.trans h3, eb.trans h4⟩
      · exact iteDN c ⟨l, as, os, ⟨S4, d2⟩, _, _, _, _, _, _, _, _, _, _, _, _, _, _, _, _, rfl⟩
    clear S2 d2 l as os
    rintro σ H2 ⟨l, as, os, ⟨S2, g1, abc1, l7, lst1⟩, w2, w4, w5, w6, w7, w8, w9, w10, w11, w12, w13, w14, w15, w16, w17, w18, rfl⟩
    have la := PySem.Paired.length S2.ords
    refine ⟨fun σ' H' => ∃ ll, H ll = none ∧ PS K H H' rw a ns l as os ∧ H' ll = some (.lst []) ∧ ll ≠ rw ∧ ll ≠ l ∧ ∃ v2 v5 v6 v7 v8 v9 v10 v11 v12 v13 v14 v15 v16 v17 v18, σ' = tl v2 (some (.ref l)) (some (.ref ll)) v5 v6 v7 v8 v9 v10 v11 v12 v13 v14 v15 v16 v17 v18, ?_, ?_⟩
    · refine ⟨Nat.zero_le _, ?_⟩
      intro ll hll
      generalize gH4 : L2.upd _ ll _ = H4
      obtain ⟨s4, e4⟩ := newS hll gH4
      clear gH4
      exact ⟨ll, S2.s0.free hll, S2.same s4, e4, S2.row.fresh hll, (ne_of_none S2.el hll).symm, _, _, _, _, _, _, _, _, _, _, _, _, _, _, _, rfl⟩
    clear S2
    rintro σ H2 ⟨ll, fll, S2, ell, nlr, nll, w2, w5, w6, w7, w8, w9, w10, w11, w12, w13, w14, w15, w16, w17, w18, rfl⟩
    refine ⟨fun σ' H' => ∃ bs os2, PS K H H' rw a ns l as os ∧ DrawnOs 7 20 os2 ∧ H' ll = some (.lst (bs.map V.ref)) ∧ OrdsAt K H' bs (os2.map laO) ∧ ∃ v2 v5 v6 v7 v8 v9 v10 v11 v12 v13 v14 v15 v16 v17 v18, σ' = tl v2 (some (.ref l)) (some (.ref ll)) v5 v6 v7 v8 v9 v10 v11 v12 v13 v14 v15 v16 v17 v18, ?_, ?_⟩
    · refine ⟨_, rfl, rw, a, ns, 7, 20, rfl, S2.row, by decide, by decide, by decide, fun H4 l2 as2 os2 k4 f4 R4 e4 o4 D4 => ?_⟩
      have S4 := S2.keepR hrw R4 k4
      have n2 := ne_of_none ell f4
      have ell4 := k4 _ _ ell nlr
      have la2 := PySem.Paired.length o4
      refine ⟨l2, rfl, ⟨_, SqL.of e4⟩, for_it (walk_list (xs := as2.map V.ref)) (fun j σ' H' => PS K H H' rw a ns l as os ∧ H' l2 = some (.lst (as2.map V.ref)) ∧ OrdsAt K H' as2 os2 ∧ (∃ bs, H' ll = some (.lst (bs.map V.ref)) ∧ OrdsAt K H' bs ((os2.take j).map laO)) ∧ ∃ v2 v5 v6 v7 v8 v9 v10 v11 v12 v13 v14 v15 v16 v17 v18, σ' = tl v2 (some (.ref l)) (some (.ref ll)) v5 v6 v7 v8 v9 v10 v11 v12 v13 v14 v15 v16 v17 v18) ⟨S4, e4, o4, ⟨[], ell4, .nil⟩, _, _, _, _, _, _, _, _, _, _, _, _, _, _, _, rfl⟩ (fun j σ' H' _ z => SqL.of z.2.1) ?_ ?_⟩
      · rintro j y σ' H5 H6 hj ⟨S5, e5, o5, ⟨bs, eb, ob⟩, w2, w5, w6, w7, w8, w9, w10, w11, w12, w13, w14, w15, w16, w17, w18, rfl⟩ ⟨rfl, ey⟩
        rw [List.length_map] at hj
        obtain ⟨p, ep⟩ : ∃ p, as2[j]? = some p := ⟨as2[j], by simp [hj]⟩
        rw [List.getElem?_map, ep] at ey
        cases ey
        obtain ⟨o, eo, oa⟩ := Paired.get o5 ep
        refine ⟨p, o.vals, rfl, oa, rfl, _, _, rfl, _, _, rfl, _, _, rfl, _, _, rfl, _, _, rfl, rfl, ?_⟩
        obtain ⟨i1, j1, hi1, hj1, es, et⟩ := D4.names o (List.mem_of_getElem? eo)
        have q1 : ("q" : Str).length + o.src.length ≤ sizeLine := by rw [es]; show 1 + 1 ≤ sizeLine; decide
        have q2 : ("q" : Str).length + o.tgt.length ≤ sizeLine := by rw [et]; show 1 + 1 ≤ sizeLine; decide
        refine ⟨_, rfl, .inl ⟨rfl, _, SqL.of eb⟩, _, rfl, _, _, rfl, rfl, q1, _, rfl, _, _, rfl, rfl, q2, _, rfl, _, rfl, _, rfl, (by show 5 ≤ sizeLine; decide), ?_⟩
        intro q hq
        generalize gH7 : L2.upd _ q _ = H7
        obtain ⟨s7, e7⟩ := newS hq gH7
        clear gH7
        have lbb := PySem.Paired.length ob
        rw [List.length_map, List.length_take] at lbb
        have b7 := D4.len
        refine ⟨ll, _, _, rfl, rfl, s7 _ _ eb, (by rw [List.length_map, sizeLine_eq]; omega), ?_⟩
        have S7 := S5.same s7
        have nlq : q ≠ ll := (ne_of_none eb hq).symm
        have eb7 := s7 _ _ eb
        generalize gH8 : L2.upd _ ll _ = H8
        obtain ⟨u8, e8⟩ := updS gH8
        clear gH8
        have kt : ∀ b u, H7 b = some u → tupl u = true → H8 b = some u := fun b u e z => u8 _ _ e fun w => by rw [w, eb7] at e; cases e; cases z
        refine ⟨PSu fll S7 nlr nll ⟨_, eb7⟩ u8, u8 _ _ (s7 _ _ e5) n2.symm, (o5.mono s7).keepR kt, ⟨bs ++ [q], by rw [e8, List.map_append]; rfl, ?_⟩, _, _, _, _, _, _, _, _, _, _, _, _, _, _, _, rfl⟩
        rw [List.take_add_one, eo, List.map_append]
        exact Paired.append ((ob.mono s7).keepR kt) (.cons (.inl (.inl (u8 _ _ e7 nlq))) .nil)
      · rintro σ' H5 ⟨S5, e5, o5, ⟨bs, eb, ob⟩, w2, w5, w6, w7, w8, w9, w10, w11, w12, w13, w14, w15, w16, w17, w18, rfl⟩
        rw [List.length_map, la2, List.take_length] at ob
        exact ⟨bs, os2, S5, D4, eb, ob, _, _, _, _, _, _, _, _, _, _, _, _, _, _, _, rfl⟩
    clear S2 ell
    rintro σ H2 ⟨bs, os2, S2, D2, ell, ob, w2, w5, w6, w7, w8, w9, w10, w11, w12, w13, w14, w15, w16, w17, w18, rfl⟩
    have hv : Halves os (os2.map laO) := la_halves abc1 D2.names
    have g2 : Good (os2.map laO) := la_good D2.good D2.names
    have l72 : (os2.map laO).length ≤ 7 := by rw [List.length_map]; exact D2.len
    have lst2 : ∀ o ∈ os2.map laO, o.last ≤ 900000000000000000 := fun o ho => by
      obtain ⟨p, hp, rfl⟩ := List.mem_map.mp ho
      exact (drawn D2).2.2.2 p hp
    have g3 : Good (os ++ os2.map laO) := hv.good g1 g2 (by omega)
    clear D2
    generalize os2.map laO = qs at hv g2 l72 lst2 g3 ob
    have lb := PySem.Paired.length ob
    refine ⟨fun σ' H' => ∃ one two, PS K H H' rw a ns l as os ∧ H' ll = some (.lst (bs.map V.ref)) ∧ OrdsAt K H' bs qs ∧ BookAt K C_Book H' one os ∧ BookAt K C_Book H' two qs ∧ one ≠ rw ∧ two ≠ rw ∧ ∃ v2 v5 v6 v7 v8 v9 v12 v13 v14 v15 v16 v17 v18, σ' = tl v2 (some (.ref l)) (some (.ref ll)) v5 v6 v7 v8 v9 (some (.ref one)) (some (.ref two)) v12 v13 v14 v15 v16 v17 v18, ?_, ?_⟩
    · refine ⟨_, rfl, l, as, os, rfl, SqL.of S2.el, S2.ords, g1, fun H4 one s4 f4 B4 => ?_⟩
      have S4 := S2.same s4
      refine ⟨_, rfl, ll, bs, qs, rfl, SqL.of (s4 _ _ ell), ob.mono s4, g2, fun H5 two s5 f5 B5 => ?_⟩
      have n1 := S2.row.fresh f4
      have n2 := S4.row.fresh f5
      exact ⟨_, _, rfl, one, two, S4.same s5, s5 _ _ (s4 _ _ ell), (ob.mono s4).mono s5, B4.mono s5, B5, n1, n2, _, _, _, _, _, _, _, _, _, _, _, _, _, rfl⟩
    clear S2 ell ob
    rintro σ H2 ⟨one, two, S2, ell, ob, B1, B2, n1, n2, w2, w5, w6, w7, w8, w9, w12, w13, w14, w15, w16, w17, w18, rfl⟩
    refine ⟨fun σ' H' => ∃ both back, PS K H H' rw a ns l as os ∧ H' ll = some (.lst (bs.map V.ref)) ∧ OrdsAt K H' bs qs ∧ T3 K C_Book rw a ns one two both os qs H H' ∧ BookAt K C_Book H' back (os ++ qs) ∧ both ≠ rw ∧ back ≠ rw ∧ ∃ v2 v5 v6 v7 v8 v9 v14 v15 v16 v17 v18, σ' = tl v2 (some (.ref l)) (some (.ref ll)) v5 v6 v7 v8 v9 (some (.ref one)) (some (.ref two)) (some (.ref both)) (some (.ref back)) v14 v15 v16 v17 v18, ?_, ?_⟩
    · obtain ⟨dx, t1, as1, b1, b2, b3⟩ := id B1
      obtain ⟨dy, t2, as2, c1, c2, c3⟩ := id B2
      refine ⟨_, rfl, _, rfl, one, two, dx, dy, _, _, rfl, rfl, b1, c1, one, two, os, qs, rfl, B1, B2, g3, fun H4 both s4 f4 B4 => ?_⟩
      refine ⟨_, rfl, _, rfl, one, two, dx, dy, _, _, rfl, rfl, s4 _ _ b1, s4 _ _ c1, one, two, os, qs, rfl, B1.mono s4, B2.mono s4, g3, fun H5 back s5 f5 B5 => ?_⟩
      have s45 := s4.trans s5
      have S5 := S2.same s45
      exact ⟨_, _, rfl, both, back, S5, s45 _ _ ell, ob.mono s45, ⟨KeepR.of S5.s0, S5.row, B1.mono s45, B2.mono s45, B4.mono s5⟩, B5, S2.row.fresh f4, (S2.row.keep s4).fresh f5, _, _, _, _, _, _, _, _, _, _, _, rfl⟩
    clear S2 ell ob B1 B2
    rintro σ H2 ⟨both, back, S2, ell, ob, S3, Bk, n3, n4, w2, w5, w6, w7, w8, w9, w14, w15, w16, w17, w18, rfl⟩
    refine ⟨fun σ' H' => ∃ back, PS K H H' rw a ns l as os ∧ H' ll = some (.lst (bs.map V.ref)) ∧ OrdsAt K H' bs qs ∧ T3 K C_Book rw a ns one two both os qs H H' ∧ BookAt K C_Book H' back os ∧ back ≠ rw ∧ ∃ v2 v5 v6 v7 v8 v9 v14 v15 v16 v17 v18, σ' = tl v2 (some (.ref l)) (some (.ref ll)) v5 v6 v7 v8 v9 (some (.ref one)) (some (.ref two)) (some (.ref both)) (some (.ref back)) v14 v15 v16 v17 v18, ?_, ?_⟩
    · obtain ⟨dy, t2, as2, c1, c2, c3⟩ := id S3.b2
      refine ⟨_, rfl, two, dy, _, rfl, c1, two, qs, rfl, S3.b2, qs.length, rfl, by omega, _, rfl, by omega, by omega, for_it walk_range (fun j σ' H' => ∃ back, PS K H H' rw a ns l as os ∧ H' ll = some (.lst (bs.map V.ref)) ∧ OrdsAt K H' bs qs ∧ T3 K C_Book rw a ns one two both os qs H H' ∧ BookAt K C_Book H' back (os ++ qs.drop j) ∧ back ≠ rw ∧ ∃ v2 v5 v6 v7 v8 v9 v14 v15 v16 v17 v18, σ' = tl v2 (some (.ref l)) (some (.ref ll)) v5 v6 v7 v8 v9 (some (.ref one)) (some (.ref two)) (some (.ref both)) (some (.ref back)) v14 v15 v16 v17 v18) ⟨back, S2, ell, ob, S3, Bk, n4, _, _, _, _, _, _, _, _, _, _, _, rfl⟩ (fun _ _ _ _ _ => trivial) ?_ ?_⟩
      · rintro j y σ' H5 H6 hj ⟨bk, S5, e5, o5, T5, B5, n5, w2, w5, w6, w7, w8, w9, w14, w15, w16, w17, w18, rfl⟩ ⟨rfl, rfl⟩
        have hj' : j < qs.length := by simpa using hj
        obtain ⟨dz, t3, as3, z1, z2, z3⟩ := id B5
        obtain ⟨d1, t4, as4, y1, y2, y3⟩ := id T5.b1
        have ed : qs.drop j = qs[j] :: qs.drop (j + 1) := List.drop_eq_getElem_cons hj'
        have eg : (os ++ qs.drop j)[os.length]? = some qs[j] := by rw [List.getElem?_append_right (Nat.le_refl _), Nat.sub_self, ed]; rfl
        have ee : (os ++ qs.drop j).eraseIdx os.length = os ++ qs.drop (j + 1) := by rw [List.eraseIdx_append_of_length_le (Nat.le_refl _), Nat.sub_self, ed]; rfl
        have gd : Good (os ++ qs.drop j) := ⟨Nat.le_trans (by rw [List.length_append, List.length_append, List.length_drop]; omega) g3.len, fun o ho => g3.ok o ((List.mem_append.mp ho).elim (fun h => List.mem_append_left _ h) fun h => List.mem_append_right _ (List.mem_of_mem_drop h)), g3.apart.sublist ((List.Sublist.refl _).append (List.drop_sublist _ _))⟩
        refine ⟨_, rfl, bk, dz, _, rfl, z1, rfl, _, rfl, one, d1, _, rfl, y1, one, os, rfl, T5.b1, os.length, rfl, by omega, bk, _, _, os.length, rfl, B5, gd, eg, fun H7 b7 s7 f7 B7 => ?_⟩
        rw [ee] at B7
        exact ⟨b7, S5.same s7, s7 _ _ e5, o5.mono s7, T5.same s7, B7, S5.row.fresh f7, _, _, _, _, _, _, _, _, _, _, _, rfl⟩
      · rintro σ' H5 ⟨bk, S5, e5, o5, T5, B5, n5, w2, w5, w6, w7, w8, w9, w14, w15, w16, w17, w18, rfl⟩
        have e0 : os ++ qs.drop ((qs.length : Int).toNat) = os := by rw [Int.toNat_natCast, List.drop_length, List.append_nil]
        replace B5 : BookAt K C_Book H5 bk (os ++ qs.drop ((qs.length : Int).toNat)) := B5
        rw [e0] at B5
        exact ⟨bk, S5, e5, o5, T5, B5, n5, _, _, _, _, _, _, _, _, _, _, _, rfl⟩
    clear S2 ell ob S3 Bk n4 back
    rintro σ H2 ⟨back, S2, ell, ob, S3, Bk, n4, w2, w5, w6, w7, w8, w9, w14, w15, w16, w17, w18, rfl⟩
    refine ⟨fun σ' H' => T3 K C_Book rw a ns one two both os qs H H' ∧ ∃ v2 v3 v4 v5 v6 v7 v8 v9 v13 v14 v15 v16 v17 v18, σ' = tl v2 v3 v4 v5 v6 v7 v8 v9 (some (.ref one)) (some (.ref two)) (some (.ref both)) v13 v14 v15 v16 v17 v18, ?_, ?_⟩
    · obtain ⟨dx, t1, as1, b1, b2, b3⟩ := id S3.b3
      obtain ⟨dy, t2, as2, c1, c2, c3⟩ := id S3.b1
      obtain ⟨dz, t3, as3, z1, z2, z3⟩ := id Bk
      refine ⟨_, rfl, both, dx, _, rfl, b1, both, os ++ qs, rfl, S3.b3, fun t at_ ht ot => ?_⟩
      have l3 := PySem.Paired.length ot
      refine ⟨_, rfl, _, rfl, l, ll, _, _, rfl, rfl, S2.el, ell, (by rw [List.length_map, List.length_map, sizeLine_eq]; omega), ?_⟩
      intro c hc
      generalize gH4 : L2.upd _ c _ = H4
      obtain ⟨s4, e4⟩ := newS hc gH4
      clear gH4
      refine ⟨c, _, rfl, .inl ⟨SqL.of e4, ?_⟩⟩
      intro u hu
      generalize gH5 : L2.upd _ u _ = H5
      obtain ⟨s5, e5⟩ := newS hu gH5
      clear gH5
      have s45 := s4.trans s5
      have dA : DK 2 (.tuple ((os ++ qs).map ordDK)) := .tuple (DK.map fun o ho => .ord (g3.ok o ho)) (by rw [List.length_map]; have := g3.len; omega)
      have eu : H5 u = some (.tup ((as ++ bs).map V.ref)) := by rw [e5, List.map_append]
      refine ⟨.tuple ((os ++ qs).map ordDK), .tuple ((os ++ qs).map ordDK), .tup (MF.Same.tup s45 ht) (dkOrds (ot.mono s45)), .tup (.inl (.inl eu)) (dkOrds ((show OrdsAt K H2 (as ++ bs) (os ++ qs) from Paired.append S2.ords ob).mono s45)), dA.shaped (by decide), dA.shaped (by decide), ?_⟩
      rw [show PyData.eqv (.tuple ((os ++ qs).map ordDK)) (.tuple ((os ++ qs).map ordDK)) = decide (os ++ qs = os ++ qs) from eqvOrds _ _]
      refine ⟨_, rfl, iteND rfl ?_⟩
      refine ⟨_, rfl, _, rfl, back, dz, _, rfl, s45 _ _ z1, .inl ⟨one, dy, _, rfl, s45 _ _ c1⟩, back, os, _, rfl, Bk.mono s45, g1, .inl ⟨one, os, rfl, S3.b1.mono s45, g1, _, rfl, _, rfl, ?_⟩⟩
      refine iteND rfl ?_
      have S5 := S3.same s45
      have gm3 : Good ((os ++ qs).map (mvO 5)) := mv_good g3 (fun o ho => by have := (g3.ok o ho).f0; omega) fun o ho => by
        rcases List.mem_append.mp ho with h | h
        · have := lst1 o h; omega
        · have := lst2 o h; omega
      have gm1 : Good (os.map (mvO 5)) := mv_good g1 (fun o ho => by have := (g1.ok o ho).f0; omega) fun o h => by have := lst1 o h; omega
      have gm2 : Good (qs.map (mvO 5)) := mv_good g2 (fun o ho => by have := (g2.ok o ho).f0; omega) fun o h => by have := lst2 o h; omega
      obtain ⟨dw, t4, as4, y1, y2, y3⟩ := id S5.b2
      refine ⟨_, rfl, both, 5, dx, _, rfl, rfl, s45 _ _ b1, both, os ++ qs, 5, rfl, S5.b3, g3.len, by decide, by decide, gm3, fun H6 mb s6 f6 B6 => ?_⟩
      refine ⟨_, rfl, one, 5, dy, _, rfl, rfl, s6 _ _ (s45 _ _ c1), one, os, 5, rfl, S5.b1.mono s6, g1.len, by decide, by decide, gm1, fun H7 m1 s7 f7 B7 => ?_⟩
      have s67 := s6.trans s7
      refine ⟨_, rfl, two, 5, dw, _, rfl, rfl, s67 _ _ y1, two, qs, 5, rfl, S5.b2.mono s67, g2.len, by decide, by decide, gm2, fun H8 m2 s8 f8 B8 => ?_⟩
      have B7' := B7.mono s8
      obtain ⟨d5, t5, as5, u1, u2, u3⟩ := id B7'
      obtain ⟨d6, t6, as6, r1, r2, r3⟩ := id B8
      refine ⟨m1, m2, d5, d6, _, _, rfl, rfl, u1, r1, m1, m2, os.map (mvO 5), qs.map (mvO 5), rfl, B7', B8, by rw [← List.map_append]; exact gm3, fun H9 m3 s9 f9 B9 => ?_⟩
      have s79 := (s7.trans s8).trans s9
      have B6' := B6.mono s79
      obtain ⟨d7, t7, as7, p1, p2, p3⟩ := id B6'
      obtain ⟨d8, t8, as8, q1, q2, q3⟩ := id B9
      refine ⟨mb, d7, _, rfl, p1, .inl ⟨m3, d8, _, rfl, q1⟩, mb, (os ++ qs).map (mvO 5), _, rfl, B6', gm3, .inl ⟨m3, _, rfl, B9, by rw [← List.map_append]; exact gm3, _, rfl, _, rfl, ?_⟩⟩
      exact iteND List.map_append ⟨S5.same (s6.trans s79), _, _, _, _, _, _, _, _, _, _, _, _, _, _, rfl⟩
    clear S2 ell ob Bk
    rintro σ H2 ⟨S2, w2, w3, w4, w5, w6, w7, w8, w9, w13, w14, w15, w16, w17, w18, rfl⟩
    refine ⟨fun σ' H' => T3 K C_Book rw a ns one two both os qs H H' ∧ ∃ v2 v3 v4 v5 v6 v7 v8 v9 v13 v14 v15 v16 v17 v18, σ' = tl v2 v3 v4 v5 v6 v7 v8 v9 (some (.ref one)) (some (.ref two)) (some (.ref both)) v13 v14 v15 v16 v17 v18, ?_, ?_⟩
    · obtain ⟨dx, t1, as1, b1, b2, b3⟩ := id S2.b3
      refine ⟨_, rfl, both, _, rfl, S2.b3, g3, fun H4 s4 => ⟨os ++ qs, rfl, g3, fun H5 pb s5 f5 B5 => ?_⟩⟩
      obtain ⟨dy, t2, as2, c1, c2, c3⟩ := id B5
      have s45 := s4.trans s5
      have S5 := S2.same s45
      refine ⟨_, rfl, pb, dy, _, rfl, c1, .inl ⟨both, dx, _, rfl, s45 _ _ b1⟩, pb, os ++ qs, _, rfl, B5, g3, .inl ⟨both, os ++ qs, rfl, S5.b3, g3, _, rfl, _, rfl, ?_⟩⟩
      refine iteND rfl ?_
      refine ⟨_, rfl, both, _, rfl, S5.b3, g3, fun H6 s6 => ⟨os ++ qs, rfl, g3, fun H7 pc s7 f7 B7 => ?_⟩⟩
      obtain ⟨dz, t3, as3, z1, z2, z3⟩ := id B7
      have s67 := s6.trans s7
      have S7 := S5.same s67
      refine ⟨_, rfl, pc, dz, _, rfl, z1, .inl ⟨both, dx, _, rfl, s67 _ _ (s45 _ _ b1)⟩, pc, os ++ qs, _, rfl, B7, g3, .inl ⟨both, os ++ qs, rfl, S7.b3, g3, _, rfl, _, rfl, ?_⟩⟩
      exact iteND rfl ⟨S7, _, _, _, _, _, _, _, _, _, _, _, _, _, _, rfl⟩
    clear S2
    rintro σ H2 ⟨S2, w2, w3, w4, w5, w6, w7, w8, w9, w13, w14, w15, w16, w17, w18, rfl⟩
    refine ⟨fun σ' H' => T3 K C_Book rw a ns one two both os qs H H' ∧ ∃ lr, H' lr = some (.lst ((rowsT os qs).map V.str)) ∧ ∃ v2 v3 v4 v5 v6 v7 v8 v9 v13 v14 v16 v17 v18, σ' = tl v2 v3 v4 v5 v6 v7 v8 v9 (some (.ref one)) (some (.ref two)) (some (.ref both)) v13 v14 (some (.ref lr)) v16 v17 v18, ?_, ?_⟩
    · refine ⟨_, rfl, _, rfl, (by show 2 ≤ sizeLine; decide), ?_⟩
      intro t ht
      generalize gH4 : L2.upd _ t _ = H4
      obtain ⟨s4, e4⟩ := newS ht gH4
      clear gH4
      have S4 := S2.same s4
      refine ⟨t, rfl, ⟨_, .inl (.inl e4)⟩, fun D hD => ?_⟩
      refine lc_it (walk_tup (xs := [V.ref one, V.ref two])) (fun j H' => Same H4 H' ∧ ∃ z, H' D = some (.lst ((z : List Str).map V.str)) ∧ ((j = 0 ∧ z = []) ∨ (j = 1 ∧ z = if os = [] then [] else [nText (os.map rowW)]) ∨ (j = 2 ∧ z = rowsT os qs))) ⟨Same.new hD, [], upd_same, .inl ⟨rfl, rfl⟩⟩ (fun j H' _ p => .inl (.inl (p.1 _ _ e4))) ?_ ?_
      · rintro j y H5 H6 hj ⟨s5, z, ez, hz⟩ ⟨rfl, ey⟩
        have S5 := S4.same s5
        have hj2 : j < 2 := hj
        have j01 : j = 0 ∨ j = 1 := by omega
        rcases j01 with rfl | rfl
        · obtain rfl : z = [] := by
            rcases hz with ⟨_, h⟩ | ⟨h, _⟩ | ⟨h, _⟩
            · exact h
            · cases h
            · cases h
          cases ey
          have zl : ([] : List Str).length ≤ 1 := Nat.zero_le _
          obtain ⟨dx, t1, as1, b1, b2, b3⟩ := id S5.b1
          refine ⟨rfl, _, rfl, one, dx, _, rfl, b1, one, os, rfl, S5.b1, os.length, rfl, by omega, _, _, rfl, rfl, _, rfl, ?_⟩
          by_cases c : os = []
          · refine iteDN (by rw [c]; decide) ⟨s5, _, ez, .inr (.inl ⟨rfl, by rw [if_pos c]⟩)⟩
          · have pos : (0 : Int) < (os.length : Nat) := by have := List.length_pos_iff.mpr c; omega
            refine iteD pos ⟨_, rfl, one, os, rfl, S5.b1, g1, fun H7 s7 => ⟨_, s7 _ _ ez, ?_, fun b u e => ?_, _ ++ [nText (os.map rowW)], by rw [upd_same, List.map_append]; rfl, .inr (.inl ⟨rfl, by rw [if_neg c]; rfl⟩)⟩⟩
            · rw [List.length_map, sizeLine_eq]
              omega
            · rw [upd_ne (ne_of_none e hD)]
              exact s7 _ _ (s5 b u e)
        · have ez0 : z = if os = [] then [] else [nText (os.map rowW)] := by
            rcases hz with ⟨h, _⟩ | ⟨_, h⟩ | ⟨h, _⟩
            · cases h
            · exact h
            · cases h
          have zl : z.length ≤ 1 := by rw [ez0]; split <;> simp
          cases ey
          obtain ⟨dx, t1, as1, b1, b2, b3⟩ := id S5.b2
          refine ⟨rfl, _, rfl, two, dx, _, rfl, b1, two, qs, rfl, S5.b2, qs.length, rfl, by omega, _, _, rfl, rfl, _, rfl, ?_⟩
          by_cases c : qs = []
          · refine iteDN (by rw [c]; decide) ⟨s5, _, ez, .inr (.inr ⟨rfl, by unfold rowsT; rw [if_pos c, List.append_nil]; exact ez0⟩)⟩
          · have pos : (0 : Int) < (qs.length : Nat) := by have := List.length_pos_iff.mpr c; omega
            refine iteD pos ⟨_, rfl, two, qs, rfl, S5.b2, g2, fun H7 s7 => ⟨_, s7 _ _ ez, ?_, fun b u e => ?_, _ ++ [nText (qs.map rowW)], by rw [upd_same, List.map_append]; rfl, .inr (.inr ⟨rfl, by unfold rowsT; rw [if_neg c, ez0]⟩)⟩⟩
            · rw [List.length_map, sizeLine_eq]
              omega
            · rw [upd_ne (ne_of_none e hD)]
              exact s7 _ _ (s5 b u e)
      · rintro H5 ⟨s5, z, ez, hz⟩
        obtain rfl : z = rowsT os qs := by
          rcases hz with ⟨h, _⟩ | ⟨h, _⟩ | ⟨_, h⟩
          · cases h
          · cases h
          · exact h
        exact ⟨S4.same s5, D, ez, _, _, _, _, _, _, _, _, _, _, _, _, _, rfl⟩
    clear S2
    rintro σ H2 ⟨S2, lr, er, w2, w3, w4, w5, w6, w7, w8, w9, w13, w14, w16, w17, w18, rfl⟩
    refine ⟨fun σ' H' => T3 K C_Book rw a ns one two both os qs H H' ∧ ∃ v2 v3 v4 v5 v6 v7 v8 v9 v13 v14 v15 v16 v17 v18, σ' = tl v2 v3 v4 v5 v6 v7 v8 v9 (some (.ref one)) (some (.ref two)) (some (.ref both)) v13 v14 v15 v16 v17 v18, ?_, ?_⟩
    · refine ⟨_, rfl, both, _, rfl, S2.b3, g3, fun H4 s4 => ?_⟩
      refine ⟨⟨_, rfl⟩, _, rfl, _, lr, rowsT os qs, rfl, rfl, .inl (SqL.of (s4 _ _ er)), rowsT_len g1 g2, rfl, _, rfl, ?_⟩
      rw [text_two]
      exact iteND rfl ⟨S2.same s4, _, _, _, _, _, _, _, _, _, _, _, _, _, _, rfl⟩
    clear S2 er lr
    rintro σ H2 ⟨S2, w2, w3, w4, w5, w6, w7, w8, w9, w13, w14, w15, w16, w17, w18, rfl⟩
    refine ⟨fun σ' H' => T3 K C_Book rw a ns one two both os qs H H' ∧ ∃ lv, H' lv = some (.lst ((encG (os ++ qs)).map V.int)) ∧ lv ≠ rw ∧ ∃ v2 v3 v4 v5 v6 v7 v8 v9 v13 v14 v15 v17 v18, σ' = tl v2 v3 v4 v5 v6 v7 v8 v9 (some (.ref one)) (some (.ref two)) (some (.ref both)) v13 v14 v15 (some (.ref lv)) v17 v18, ?_, ?_⟩
    · refine ⟨_, rfl, both, _, rfl, S2.b3, g3, fun H4 s4 => ⟨_, rfl, encG_in g3, by have := encG_len g3; omega, fun H5 lv z => ?_⟩⟩
      have s5 := s4.trans z.1
      exact ⟨S2.same s5, lv, z.2.2, (S2.row.keep s4).fresh z.2.1, _, _, _, _, _, _, _, _, _, _, _, _, _, rfl⟩
    clear S2
    rintro σ H2 ⟨S2, lv, ev, nv, w2, w3, w4, w5, w6, w7, w8, w9, w13, w14, w15, w17, w18, rfl⟩
    refine ⟨fun σ' H' => T3 K C_Book rw a ns one two both os qs H H' ∧ H' lv = some (.lst ((encG (os ++ qs)).map V.int)) ∧ ∃ lz, H' lz = some (.lst [.int ((encG os).length : Nat), .int ((encG qs).length : Nat)]) ∧ ∃ v2 v3 v4 v5 v6 v7 v8 v9 v13 v14 v15 v18, σ' = tl v2 v3 v4 v5 v6 v7 v8 v9 (some (.ref one)) (some (.ref two)) (some (.ref both)) v13 v14 v15 (some (.ref lv)) (some (.ref lz)) v18, ?_, ?_⟩
    · refine ⟨_, rfl, _, rfl, (by show 2 ≤ sizeLine; decide), ?_⟩
      intro t ht
      generalize gH4 : L2.upd _ t _ = H4
      obtain ⟨s4, e4⟩ := newS ht gH4
      clear gH4
      have S4 := S2.same s4
      refine ⟨t, rfl, ⟨_, .inl (.inl e4)⟩, fun D hD => ?_⟩
      have gj : ∀ j, j < 2 → ∀ H', T3 K C_Book rw a ns one two both os qs H H' → ∃ b o, [V.ref one, V.ref two][j]? = some (.ref b) ∧ [os, qs][j]? = some o ∧ BookAt K C_Book H' b o ∧ Good o := fun j hj H' S => by
        have : j = 0 ∨ j = 1 := by omega
        rcases this with rfl | rfl
        · exact ⟨one, os, rfl, rfl, S.b1, g1⟩
        · exact ⟨two, qs, rfl, rfl, S.b2, g2⟩
      refine lc_it (walk_tup (xs := [V.ref one, V.ref two])) (fun j H' => Same H4 H' ∧ H' D = some (.lst (([os, qs].take j).map fun o => V.int ((encG o).length : Nat)))) ⟨Same.new hD, upd_same⟩ (fun j H' _ p => .inl (.inl (p.1 _ _ e4))) ?_ ?_
      · rintro j y H5 H6 hj ⟨s5, e5⟩ ⟨rfl, ey⟩
        have S5 := S4.same s5
        obtain ⟨b, o, h1, h2, Bo, go⟩ := gj j hj _ S5
        rw [h1] at ey
        cases ey
        refine ⟨rfl, yesT (iteT ?_)⟩
        refine ⟨_, rfl, b, o, rfl, Bo, go, fun H7 s7 => ⟨encG o, rfl, encG_in go, by have := encG_len go; omega, fun H8 lz z => ⟨lz, _, rfl, .inl (SqL.of z.2.2), ?_⟩⟩⟩
        have s78 := s7.trans z.1
        refine ⟨_, s78 _ _ e5, ?_, fun b u e => ?_, ?_⟩
        · rw [List.length_map]
          exact Nat.lt_of_le_of_lt (List.length_take_le' j [os, qs]) (by show 2 < sizeLine; decide)
        · rw [upd_ne (ne_of_none e hD)]
          exact s78 _ _ (s5 b u e)
        · rw [upd_same, List.take_add_one, h2, List.map_append, List.length_map]
          rfl
      · rintro H5 ⟨s5, e5⟩
        exact ⟨S4.same s5, (s4.trans s5) _ _ ev, D, e5, _, _, _, _, _, _, _, _, _, _, _, _, rfl⟩
    clear S2 ev
    rintro σ H2 ⟨S2, ev, lz, ez, w2, w3, w4, w5, w6, w7, w8, w9, w13, w14, w15, w18, rfl⟩
    refine ⟨fun σ' H' => T3 K C_Book rw a ns one two both os qs H H' ∧ ∃ v2 v3 v4 v5 v6 v7 v8 v9 v13 v14 v15 v16 v17 v18, σ' = tl v2 v3 v4 v5 v6 v7 v8 v9 (some (.ref one)) (some (.ref two)) (some (.ref both)) v13 v14 v15 v16 v17 v18, ?_, ?_⟩
    · refine ⟨_, rfl, lv, _, rfl, ev, encG_in g3, by have := encG_len g3; omega, fun H4 s4 => ?_⟩
      refine ⟨_, rfl, both, _, rfl, S2.b3.mono s4, g3, fun H5 s5 => ?_⟩
      refine ⟨rfl, _, rfl, iteND rfl ?_⟩
      have s45 := s4.trans s5
      refine ⟨_, rfl, lv, _, rfl, .inl (SqL.of (s45 _ _ ev)), _, rfl, lz, _, _, _, rfl, rfl, SqL.of (s45 _ _ ez), rfl, _, rfl, lz, _, _, _, rfl, rfl, SqL.of (s45 _ _ ez), rfl, _, _, rfl, rfl, _, _, rfl, rfl, rfl, _, rfl, iteND ?_ ⟨S2.same s45, _, _, _, _, _, _, _, _, _, _, _, _, _, _, rfl⟩⟩
      rw [List.length_map]
      have := encG_sum (as := os) (bs := qs)
      congr 1
      omega
    clear S2 ev ez
    rintro σ H2 ⟨S2, w2, w3, w4, w5, w6, w7, w8, w9, w13, w14, w15, w16, w17, w18, rfl⟩
    refine ⟨_, rfl, _, rfl, _, rfl, _, rfl, rw, a, ns, one, two, both, os, qs, rfl, S2.row, S2.b1, S2.b2, S2.b3, n1, n2, n3, g1, g2, g3, hv, fun H4 k4 R4 => ?_⟩
    exact ⟨_, rfl, iteF ⟨fun b u e => (S2.kr.trans k4) b u e (ne_of_none e hrw), R4, _, _, _, _, _, _, _, _, _, _, _, _, _, _, _, _, _, rfl⟩⟩
end

end MF
set_option Elab.async false
set_option linter.all false
set_option maxRecDepth 100000
set_option maxHeartbeats 2000000
set_option pp.maxSteps 600
namespace MF
open PySem PySem.Spec PyProof.Rows L2 StX
theorem all_mk {l : PySem.W.OpenLaw} {w : World} {K : PySem.W.Frag} {h : Heap} {mg : Str → Option Value} {fa C_Book C_Letter C_Decoder C_MailError C_InvalidOrder C_UnknownOrder C_InvalidAddress C_InvalidDay C_InvalidNumber C_NotationError C_InvalidCount C_DecodeError f_q0 f_q1 f_q2 f_q3 f_q4 f_q5 f_q6 p_q6 f_q7 f_q8 f_q9 f_q10 f_q11 f_q12 f_q13 f_q14 f_q15 f_q16 f_q17 f_q18 f_q19 f_q20 f_q21 f_q22 f_q23 f_q24 f_q25 f_q26 f_q27 f_q28 f_q29 f_q30 f_q31 f_q32 f_q33 f_q34 f_q35 f_q36 f_q37 f_q38 f_q39 f_q40 f_q41 f_q42 f_q43 f_q44 f_q45 f_q46 f_q47 f_q48 f_q49 f_q50 f_q51 f_q52 f_q53 f_q54 : Addr} (X : K.In h) (G : h.Ns mainGlobals mg) (hfa : mg "law" = some (.ref fa))
    {odq0 anq0 odq1 anq1 odq2 anq2 odq3 anq3 odq4 anq4 odq5 anq5 odq6 anq6 odq7 anq7 odq8 anq8 odq9 anq9 odq10 anq10 odq11 anq11 odq12 anq12 odq13 anq13 odq14 anq14 odq15 anq15 odq16 anq16 odq17 anq17 odq18 anq18 odq19 anq19 odq20 anq20 odq21 anq21 odq22 anq22 odq23 anq23 odq24 anq24 odq25 anq25 odq26 anq26 odq27 anq27 odq28 anq28 odq29 anq29 odq30 anq30 odq31 anq31 odq32 anq32 odq33 anq33 odq34 anq34 odq35 anq35 odq36 anq36 odq37 anq37 odq38 anq38 odq39 anq39 odq40 anq40 odq41 anq41 odq42 anq42 odq43 anq43 odq44 anq44 odq45 anq45 odq46 anq46 odq47 anq47 odq48 anq48 odq49 anq49 odq50 anq50 odq51 anq51 odq52 anq52 odq53 anq53 odq54 anq54 : Option Addr} {slq0 slq1 slq2 slq3 slq4 slq5 slq6 slq7 slq8 slq9 slq10 slq11 slq12 slq13 slq14 slq15 slq16 slq17 slq18 slq19 slq20 slq21 slq22 slq23 slq24 slq25 slq26 slq27 slq28 slq29 slq30 slq31 slq32 slq33 slq34 slq35 slq36 slq37 slq38 slq39 slq40 slq41 slq42 slq43 slq44 slq45 slq46 slq47 slq48 slq49 slq50 slq51 slq52 slq53 slq54 : Array (Option Value)} {ocq0 kVq0 dcq0 pmq0 cdq0 ctq0 ocq1 kVq1 dcq1 pmq1 cdq1 ctq1 ocq2 kVq2 dcq2 pmq2 cdq2 ctq2 ocq3 kVq3 dcq3 pmq3 cdq3 ctq3 ocq4 kVq4 dcq4 pmq4 cdq4 ctq4 ocq5 kVq5 dcq5 pmq5 cdq5 ctq5 ocq6 kVq6 dcq6 pmq6 cdq6 ctq6 ocq7 kVq7 dcq7 pmq7 cdq7 ctq7 ocq8 kVq8 dcq8 pmq8 cdq8 ctq8 ocq9 kVq9 dcq9 pmq9 cdq9 ctq9 ocq10 kVq10 dcq10 pmq10 cdq10 ctq10 ocq11 kVq11 dcq11 pmq11 cdq11 ctq11 ocq12 kVq12 dcq12 pmq12 cdq12 ctq12 ocq13 kVq13 dcq13 pmq13 cdq13 ctq13 ocq14 kVq14 dcq14 pmq14 cdq14 ctq14 ocq15 kVq15 dcq15 pmq15 cdq15 ctq15 ocq16 kVq16 dcq16 pmq16 cdq16 ctq16 ocq17 kVq17 dcq17 pmq17 cdq17 ctq17 ocq18 kVq18 dcq18 pmq18 cdq18 ctq18 ocq19 kVq19 dcq19 pmq19 cdq19 ctq19 ocq20 kVq20 dcq20 pmq20 cdq20 ctq20 ocq21 kVq21 dcq21 pmq21 cdq21 ctq21 ocq22 kVq22 dcq22 pmq22 cdq22 ctq22 ocq23 kVq23 dcq23 pmq23 cdq23 ctq23 ocq24 kVq24 dcq24 pmq24 cdq24 ctq24 ocq25 kVq25 dcq25 pmq25 cdq25 ctq25 ocq26 kVq26 dcq26 pmq26 cdq26 ctq26 ocq27 kVq27 dcq27 pmq27 cdq27 ctq27 ocq28 kVq28 dcq28 pmq28 cdq28 ctq28 ocq29 kVq29 dcq29 pmq29 cdq29 ctq29 ocq30 kVq30 dcq30 pmq30 cdq30 ctq30 ocq31 kVq31 dcq31 pmq31 cdq31 ctq31 ocq32 kVq32 dcq32 pmq32 cdq32 ctq32 ocq33 kVq33 dcq33 pmq33 cdq33 ctq33 ocq34 kVq34 dcq34 pmq34 cdq34 ctq34 ocq35 kVq35 dcq35 pmq35 cdq35 ctq35 ocq36 kVq36 dcq36 pmq36 cdq36 ctq36 ocq37 kVq37 dcq37 pmq37 cdq37 ctq37 ocq38 kVq38 dcq38 pmq38 cdq38 ctq38 ocq39 kVq39 dcq39 pmq39 cdq39 ctq39 ocq40 kVq40 dcq40 pmq40 cdq40 ctq40 ocq41 kVq41 dcq41 pmq41 cdq41 ctq41 ocq42 kVq42 dcq42 pmq42 cdq42 ctq42 ocq43 kVq43 dcq43 pmq43 cdq43 ctq43 ocq44 kVq44 dcq44 pmq44 cdq44 ctq44 ocq45 kVq45 dcq45 pmq45 cdq45 ctq45 ocq46 kVq46 dcq46 pmq46 cdq46 ctq46 ocq47 kVq47 dcq47 pmq47 cdq47 ctq47 ocq48 kVq48 dcq48 pmq48 cdq48 ctq48 ocq49 kVq49 dcq49 pmq49 cdq49 ctq49 ocq50 kVq50 dcq50 pmq50 cdq50 ctq50 ocq51 kVq51 dcq51 pmq51 cdq51 ctq51 ocq52 kVq52 dcq52 pmq52 cdq52 ctq52 ocq53 kVq53 dcq53 pmq53 cdq53 ctq53 ocq54 kVq54 dcq54 pmq54 cdq54 ctq54 mcB : Value} {tg_0 tg_1 tg_2 tg_3 tg_4 tg_5 tg_6 tg_7 tg_8 tg_9 tg_10 tg_11 tg_12 : Tok} {rs_q6 : List Value}
    (aC_Book : PySem.W.nsIn K mainGlobals "Book" = some (some (.ref C_Book)))
    (aC_Letter : PySem.W.nsIn K mainGlobals "Letter" = some (some (.ref C_Letter)))
    (aC_Decoder : PySem.W.nsIn K mainGlobals "Decoder" = some (some (.ref C_Decoder)))
    (ge_MailError : PySem.W.nsIn K mainGlobals "MailError" = some (some (.ref C_MailError)))
    (ge_InvalidOrder : PySem.W.nsIn K mainGlobals "InvalidOrder" = some (some (.ref C_InvalidOrder)))
    (ge_UnknownOrder : PySem.W.nsIn K mainGlobals "UnknownOrder" = some (some (.ref C_UnknownOrder)))
    (ge_InvalidAddress : PySem.W.nsIn K mainGlobals "InvalidAddress" = some (some (.ref C_InvalidAddress)))
    (ge_InvalidDay : PySem.W.nsIn K mainGlobals "InvalidDay" = some (some (.ref C_InvalidDay)))
    (ge_InvalidNumber : PySem.W.nsIn K mainGlobals "InvalidNumber" = some (some (.ref C_InvalidNumber)))
    (ge_NotationError : PySem.W.nsIn K mainGlobals "NotationError" = some (some (.ref C_NotationError)))
    (ge_InvalidCount : PySem.W.nsIn K mainGlobals "InvalidCount" = some (some (.ref C_InvalidCount)))
    (ge_DecodeError : PySem.W.nsIn K mainGlobals "DecodeError" = some (some (.ref C_DecodeError)))
    (ob_InvalidOrder : oexB K C_InvalidOrder = true)
    (sa_InvalidOrder : PySem.W.findIn K (.ref C_InvalidOrder) "__setattr__" = some (some (.builtin "object.__setattr__")))
    (xs_InvalidOrder : PySem.W.subIn K (.ref C_InvalidOrder) (.type "BaseException") = some true)
    (xt_InvalidOrder : PySem.W.typeIn K (.ref C_InvalidOrder) = some (.type "type"))
    (xk_InvalidOrder : PySem.W.keepIn K (.ref C_InvalidOrder) = true)
    (ob_NotationError : oexB K C_NotationError = true)
    (sa_NotationError : PySem.W.findIn K (.ref C_NotationError) "__setattr__" = some (some (.builtin "object.__setattr__")))
    (xs_NotationError : PySem.W.subIn K (.ref C_NotationError) (.type "BaseException") = some true)
    (xt_NotationError : PySem.W.typeIn K (.ref C_NotationError) = some (.type "type"))
    (xk_NotationError : PySem.W.keepIn K (.ref C_NotationError) = true)
    (ob_DecodeError : oexB K C_DecodeError = true)
    (sa_DecodeError : PySem.W.findIn K (.ref C_DecodeError) "__setattr__" = some (some (.builtin "object.__setattr__")))
    (xs_DecodeError : PySem.W.subIn K (.ref C_DecodeError) (.type "BaseException") = some true)
    (xt_DecodeError : PySem.W.typeIn K (.ref C_DecodeError) = some (.type "type"))
    (xk_DecodeError : PySem.W.keepIn K (.ref C_DecodeError) = true)
    (aq0 : PySem.W.nsIn K mainGlobals "is_integer" = some (some (.ref f_q0)))
    (lq0 : K.lookup f_q0 = some ⟨ocq0, odq0, .func (PySem.W.fnOf "is_integer" "is_integer" (defArgs s_is_integer) (defBody s_is_integer) (defScope s_is_integer) .none kVq0 dcq0 pmq0 anq0 cdq0 ctq0), slq0⟩)
    (cq0 : PySem.W.codeIn K cdq0 "is_integer" = true)
    (kq0 : PySem.W.keepIn K (.ref f_q0) = true)
    (aq1 : PySem.W.nsIn K mainGlobals "is_address" = some (some (.ref f_q1)))
    (lq1 : K.lookup f_q1 = some ⟨ocq1, odq1, .func (PySem.W.fnOf "is_address" "is_address" (defArgs s_is_address) (defBody s_is_address) (defScope s_is_address) .none kVq1 dcq1 pmq1 anq1 cdq1 ctq1), slq1⟩)
    (cq1 : PySem.W.codeIn K cdq1 "is_address" = true)
    (kq1 : PySem.W.keepIn K (.ref f_q1) = true)
    (aq2 : PySem.W.nsIn K mainGlobals "check_letter" = some (some (.ref f_q2)))
    (lq2 : K.lookup f_q2 = some ⟨ocq2, odq2, .func (PySem.W.fnOf "check_letter" "check_letter" (defArgs s_check_letter) (defBody s_check_letter) (defScope s_check_letter) .none kVq2 dcq2 pmq2 anq2 cdq2 ctq2), slq2⟩)
    (cq2 : PySem.W.codeIn K cdq2 "check_letter" = true)
    (kq2 : PySem.W.keepIn K (.ref f_q2) = true)
    (aq3 : PySem.W.nsIn K mainGlobals "is_order" = some (some (.ref f_q3)))
    (lq3 : K.lookup f_q3 = some ⟨ocq3, odq3, .func (PySem.W.fnOf "is_order" "is_order" (defArgs s_is_order) (defBody s_is_order) (defScope s_is_order) .none kVq3 dcq3 pmq3 anq3 cdq3 ctq3), slq3⟩)
    (cq3 : PySem.W.codeIn K cdq3 "is_order" = true)
    (kq3 : PySem.W.keepIn K (.ref f_q3) = true)
    (aq4 : PySem.W.nsIn K mainGlobals "do_overlap" = some (some (.ref f_q4)))
    (lq4 : K.lookup f_q4 = some ⟨ocq4, odq4, .func (PySem.W.fnOf "do_overlap" "do_overlap" (defArgs s_do_overlap) (defBody s_do_overlap) (defScope s_do_overlap) .none kVq4 dcq4 pmq4 anq4 cdq4 ctq4), slq4⟩)
    (cq4 : PySem.W.codeIn K cdq4 "do_overlap" = true)
    (kq4 : PySem.W.keepIn K (.ref f_q4) = true)
    (aq5 : PySem.W.findIn K (.ref C_Book) "__init__" = some (some (.ref f_q5)))
    (iq5 : PySem.W.isFn K (.ref f_q5) = true)
    (lq5 : K.lookup f_q5 = some ⟨ocq5, odq5, .func (PySem.W.fnOf "__init__" "Book.__init__" (defArgs s_BookX_initX) (defBody s_BookX_initX) (defScope s_BookX_initX) .none kVq5 dcq5 pmq5 anq5 cdq5 ctq5), slq5⟩)
    (cq5 : PySem.W.codeIn K cdq5 "Book.__init__" = true)
    (kq5 : PySem.W.keepIn K (.ref f_q5) = true)
    (aq6 : PySem.W.findIn K (.ref C_Book) "orders" = some (some (.ref p_q6)))
    (pgq6 : PySem.W.specialIn K (.ref p_q6) "__get__" = some (some (.builtin "property.__get__")))
    (ptq6 : PySem.W.takesIn K (.ref p_q6) = some true)
    (prq6 : PySem.W.recIn K p_q6 "property" = some (.ref f_q6 :: rs_q6))
    (lq6 : K.lookup f_q6 = some ⟨ocq6, odq6, .func (PySem.W.fnOf "orders" "Book.orders" (defArgs s_Book_orders) (defBody s_Book_orders) (defScope s_Book_orders) .none kVq6 dcq6 pmq6 anq6 cdq6 ctq6), slq6⟩)
    (cq6 : PySem.W.codeIn K cdq6 "Book.orders" = true)
    (kq6 : PySem.W.keepIn K (.ref f_q6) = true)
    (aq7 : PySem.W.findIn K (.ref C_Book) "__len__" = some (some (.ref f_q7)))
    (iq7 : PySem.W.isFn K (.ref f_q7) = true)
    (lq7 : K.lookup f_q7 = some ⟨ocq7, odq7, .func (PySem.W.fnOf "__len__" "Book.__len__" (defArgs s_BookX_lenX) (defBody s_BookX_lenX) (defScope s_BookX_lenX) .none kVq7 dcq7 pmq7 anq7 cdq7 ctq7), slq7⟩)
    (cq7 : PySem.W.codeIn K cdq7 "Book.__len__" = true)
    (kq7 : PySem.W.keepIn K (.ref f_q7) = true)
    (aq8 : PySem.W.findIn K (.ref C_Book) "__eq__" = some (some (.ref f_q8)))
    (iq8 : PySem.W.isFn K (.ref f_q8) = true)
    (lq8 : K.lookup f_q8 = some ⟨ocq8, odq8, .func (PySem.W.fnOf "__eq__" "Book.__eq__" (defArgs s_BookX_eqX) (defBody s_BookX_eqX) (defScope s_BookX_eqX) .none kVq8 dcq8 pmq8 anq8 cdq8 ctq8), slq8⟩)
    (cq8 : PySem.W.codeIn K cdq8 "Book.__eq__" = true)
    (kq8 : PySem.W.keepIn K (.ref f_q8) = true)
    (aq9 : PySem.W.findIn K (.ref C_Book) "__add__" = some (some (.ref f_q9)))
    (iq9 : PySem.W.isFn K (.ref f_q9) = true)
    (lq9 : K.lookup f_q9 = some ⟨ocq9, odq9, .func (PySem.W.fnOf "__add__" "Book.__add__" (defArgs s_BookX_addX) (defBody s_BookX_addX) (defScope s_BookX_addX) .none kVq9 dcq9 pmq9 anq9 cdq9 ctq9), slq9⟩)
    (cq9 : PySem.W.codeIn K cdq9 "Book.__add__" = true)
    (kq9 : PySem.W.keepIn K (.ref f_q9) = true)
    (aq10 : PySem.W.findIn K (.ref C_Book) "__rshift__" = some (some (.ref f_q10)))
    (iq10 : PySem.W.isFn K (.ref f_q10) = true)
    (lq10 : K.lookup f_q10 = some ⟨ocq10, odq10, .func (PySem.W.fnOf "__rshift__" "Book.__rshift__" (defArgs s_BookX_rshiftX) (defBody s_BookX_rshiftX) (defScope s_BookX_rshiftX) .none kVq10 dcq10 pmq10 anq10 cdq10 ctq10), slq10⟩)
    (cq10 : PySem.W.codeIn K cdq10 "Book.__rshift__" = true)
    (kq10 : PySem.W.keepIn K (.ref f_q10) = true)
    (aq11 : PySem.W.findIn K (.ref C_Book) "check_order" = some (some (.ref f_q11)))
    (iq11 : PySem.W.isFn K (.ref f_q11) = true)
    (lq11 : K.lookup f_q11 = some ⟨ocq11, odq11, .func (PySem.W.fnOf "check_order" "Book.check_order" (defArgs s_Book_check_order) (defBody s_Book_check_order) (defScope s_Book_check_order) .none kVq11 dcq11 pmq11 anq11 cdq11 ctq11), slq11⟩)
    (cq11 : PySem.W.codeIn K cdq11 "Book.check_order" = true)
    (kq11 : PySem.W.keepIn K (.ref f_q11) = true)
    (aq12 : PySem.W.findIn K (.ref C_Book) "without" = some (some (.ref f_q12)))
    (iq12 : PySem.W.isFn K (.ref f_q12) = true)
    (lq12 : K.lookup f_q12 = some ⟨ocq12, odq12, .func (PySem.W.fnOf "without" "Book.without" (defArgs s_Book_without) (defBody s_Book_without) (defScope s_Book_without) .none kVq12 dcq12 pmq12 anq12 cdq12 ctq12), slq12⟩)
    (cq12 : PySem.W.codeIn K cdq12 "Book.without" = true)
    (kq12 : PySem.W.keepIn K (.ref f_q12) = true)
    (aq13 : PySem.W.findIn K (.ref C_Book) "order_for" = some (some (.ref f_q13)))
    (iq13 : PySem.W.isFn K (.ref f_q13) = true)
    (lq13 : K.lookup f_q13 = some ⟨ocq13, odq13, .func (PySem.W.fnOf "order_for" "Book.order_for" (defArgs s_Book_order_for) (defBody s_Book_order_for) (defScope s_Book_order_for) .none kVq13 dcq13 pmq13 anq13 cdq13 ctq13), slq13⟩)
    (cq13 : PySem.W.codeIn K cdq13 "Book.order_for" = true)
    (kq13 : PySem.W.keepIn K (.ref f_q13) = true)
    (aq14 : PySem.W.findIn K (.ref C_Book) "order_at" = some (some (.ref f_q14)))
    (iq14 : PySem.W.isFn K (.ref f_q14) = true)
    (lq14 : K.lookup f_q14 = some ⟨ocq14, odq14, .func (PySem.W.fnOf "order_at" "Book.order_at" (defArgs s_Book_order_at) (defBody s_Book_order_at) (defScope s_Book_order_at) .none kVq14 dcq14 pmq14 anq14 cdq14 ctq14), slq14⟩)
    (cq14 : PySem.W.codeIn K cdq14 "Book.order_at" = true)
    (kq14 : PySem.W.keepIn K (.ref f_q14) = true)
    (aq15 : PySem.W.findIn K (.ref C_Book) "next_change" = some (some (.ref f_q15)))
    (iq15 : PySem.W.isFn K (.ref f_q15) = true)
    (lq15 : K.lookup f_q15 = some ⟨ocq15, odq15, .func (PySem.W.fnOf "next_change" "Book.next_change" (defArgs s_Book_next_change) (defBody s_Book_next_change) (defScope s_Book_next_change) .none kVq15 dcq15 pmq15 anq15 cdq15 ctq15), slq15⟩)
    (cq15 : PySem.W.codeIn K cdq15 "Book.next_change" = true)
    (kq15 : PySem.W.keepIn K (.ref f_q15) = true)
    (aq16 : PySem.W.nsIn K mainGlobals "book_of" = some (some (.ref f_q16)))
    (lq16 : K.lookup f_q16 = some ⟨ocq16, odq16, .func (PySem.W.fnOf "book_of" "book_of" (defArgs s_book_of) (defBody s_book_of) (defScope s_book_of) .none kVq16 dcq16 pmq16 anq16 cdq16 ctq16), slq16⟩)
    (cq16 : PySem.W.codeIn K cdq16 "book_of" = true)
    (kq16 : PySem.W.keepIn K (.ref f_q16) = true)
    (aq17 : PySem.W.nsIn K mainGlobals "moved" = some (some (.ref f_q17)))
    (lq17 : K.lookup f_q17 = some ⟨ocq17, odq17, .func (PySem.W.fnOf "moved" "moved" (defArgs s_moved) (defBody s_moved) (defScope s_moved) .none kVq17 dcq17 pmq17 anq17 cdq17 ctq17), slq17⟩)
    (cq17 : PySem.W.codeIn K cdq17 "moved" = true)
    (kq17 : PySem.W.keepIn K (.ref f_q17) = true)
    (aq18 : PySem.W.findIn K (.ref C_InvalidOrder) "__init__" = some (some (.ref f_q18)))
    (iq18 : PySem.W.typeIn K (.ref f_q18) = some (.type "function"))
    (lq18 : K.lookup f_q18 = some ⟨ocq18, odq18, .func (PySem.W.fnOf "__init__" "InvalidOrder.__init__" (defArgs s_InvalidOrderX_initX) (defBody s_InvalidOrderX_initX) (defScope s_InvalidOrderX_initX) .none kVq18 dcq18 pmq18 anq18 cdq18 ctq18), slq18⟩)
    (cq18 : PySem.W.codeIn K cdq18 "InvalidOrder.__init__" = true)
    (kq18 : PySem.W.keepIn K (.ref f_q18) = true)
    (aq19 : PySem.W.findIn K (.ref C_NotationError) "__init__" = some (some (.ref f_q19)))
    (iq19 : PySem.W.typeIn K (.ref f_q19) = some (.type "function"))
    (lq19 : K.lookup f_q19 = some ⟨ocq19, odq19, .func (PySem.W.fnOf "__init__" "NotationError.__init__" (defArgs s_NotationErrorX_initX) (defBody s_NotationErrorX_initX) (defScope s_NotationErrorX_initX) .none kVq19 dcq19 pmq19 anq19 cdq19 ctq19), slq19⟩)
    (cq19 : PySem.W.codeIn K cdq19 "NotationError.__init__" = true)
    (kq19 : PySem.W.keepIn K (.ref f_q19) = true)
    (aq20 : PySem.W.findIn K (.ref C_DecodeError) "__init__" = some (some (.ref f_q20)))
    (iq20 : PySem.W.typeIn K (.ref f_q20) = some (.type "function"))
    (lq20 : K.lookup f_q20 = some ⟨ocq20, odq20, .func (PySem.W.fnOf "__init__" "DecodeError.__init__" (defArgs s_DecodeErrorX_initX) (defBody s_DecodeErrorX_initX) (defScope s_DecodeErrorX_initX) .none kVq20 dcq20 pmq20 anq20 cdq20 ctq20), slq20⟩)
    (cq20 : PySem.W.codeIn K cdq20 "DecodeError.__init__" = true)
    (kq20 : PySem.W.keepIn K (.ref f_q20) = true)
    (aq21 : PySem.W.findIn K (.ref C_Letter) "__init__" = some (some (.ref f_q21)))
    (iq21 : PySem.W.isFn K (.ref f_q21) = true)
    (lq21 : K.lookup f_q21 = some ⟨ocq21, odq21, .func (PySem.W.fnOf "__init__" "Letter.__init__" (defArgs s_LetterX_initX) (defBody s_LetterX_initX) (defScope s_LetterX_initX) .none kVq21 dcq21 pmq21 anq21 cdq21 ctq21), slq21⟩)
    (cq21 : PySem.W.codeIn K cdq21 "Letter.__init__" = true)
    (kq21 : PySem.W.keepIn K (.ref f_q21) = true)
    (aq22 : PySem.W.findIn K (.ref C_Letter) "order_now" = some (some (.ref f_q22)))
    (iq22 : PySem.W.isFn K (.ref f_q22) = true)
    (lq22 : K.lookup f_q22 = some ⟨ocq22, odq22, .func (PySem.W.fnOf "order_now" "Letter.order_now" (defArgs s_Letter_order_now) (defBody s_Letter_order_now) (defScope s_Letter_order_now) .none kVq22 dcq22 pmq22 anq22 cdq22 ctq22), slq22⟩)
    (cq22 : PySem.W.codeIn K cdq22 "Letter.order_now" = true)
    (kq22 : PySem.W.keepIn K (.ref f_q22) = true)
    (aq23 : PySem.W.findIn K (.ref C_Letter) "step" = some (some (.ref f_q23)))
    (iq23 : PySem.W.isFn K (.ref f_q23) = true)
    (lq23 : K.lookup f_q23 = some ⟨ocq23, odq23, .func (PySem.W.fnOf "step" "Letter.step" (defArgs s_Letter_step) (defBody s_Letter_step) (defScope s_Letter_step) .none kVq23 dcq23 pmq23 anq23 cdq23 ctq23), slq23⟩)
    (cq23 : PySem.W.codeIn K cdq23 "Letter.step" = true)
    (kq23 : PySem.W.keepIn K (.ref f_q23) = true)
    (aq24 : PySem.W.findIn K (.ref C_Letter) "skip" = some (some (.ref f_q24)))
    (iq24 : PySem.W.isFn K (.ref f_q24) = true)
    (lq24 : K.lookup f_q24 = some ⟨ocq24, odq24, .func (PySem.W.fnOf "skip" "Letter.skip" (defArgs s_Letter_skip) (defBody s_Letter_skip) (defScope s_Letter_skip) .none kVq24 dcq24 pmq24 anq24 cdq24 ctq24), slq24⟩)
    (cq24 : PySem.W.codeIn K cdq24 "Letter.skip" = true)
    (kq24 : PySem.W.keepIn K (.ref f_q24) = true)
    (aq25 : PySem.W.findIn K (.ref C_Letter) "finish" = some (some (.ref f_q25)))
    (iq25 : PySem.W.isFn K (.ref f_q25) = true)
    (lq25 : K.lookup f_q25 = some ⟨ocq25, odq25, .func (PySem.W.fnOf "finish" "Letter.finish" (defArgs s_Letter_finish) (defBody s_Letter_finish) (defScope s_Letter_finish) .none kVq25 dcq25 pmq25 anq25 cdq25 ctq25), slq25⟩)
    (cq25 : PySem.W.codeIn K cdq25 "Letter.finish" = true)
    (kq25 : PySem.W.keepIn K (.ref f_q25) = true)
    (aq26 : PySem.W.nsIn K mainGlobals "end_of" = some (some (.ref f_q26)))
    (lq26 : K.lookup f_q26 = some ⟨ocq26, odq26, .func (PySem.W.fnOf "end_of" "end_of" (defArgs s_end_of) (defBody s_end_of) (defScope s_end_of) .none kVq26 dcq26 pmq26 anq26 cdq26 ctq26), slq26⟩)
    (cq26 : PySem.W.codeIn K cdq26 "end_of" = true)
    (kq26 : PySem.W.keepIn K (.ref f_q26) = true)
    (aq27 : PySem.W.nsIn K mainGlobals "end" = some (some (.ref f_q27)))
    (lq27 : K.lookup f_q27 = some ⟨ocq27, odq27, .func (PySem.W.fnOf "end" "end" (defArgs s_end) (defBody s_end) (defScope s_end) .none kVq27 dcq27 pmq27 anq27 cdq27 ctq27), slq27⟩)
    (cq27 : PySem.W.codeIn K cdq27 "end" = true)
    (kq27 : PySem.W.keepIn K (.ref f_q27) = true)
    (aq28 : PySem.W.nsIn K mainGlobals "times_sent" = some (some (.ref f_q28)))
    (lq28 : K.lookup f_q28 = some ⟨ocq28, odq28, .func (PySem.W.fnOf "times_sent" "times_sent" (defArgs s_times_sent) (defBody s_times_sent) (defScope s_times_sent) .none kVq28 dcq28 pmq28 anq28 cdq28 ctq28), slq28⟩)
    (cq28 : PySem.W.codeIn K cdq28 "times_sent" = true)
    (kq28 : PySem.W.keepIn K (.ref f_q28) = true)
    (aq29 : PySem.W.nsIn K mainGlobals "is_number" = some (some (.ref f_q29)))
    (lq29 : K.lookup f_q29 = some ⟨ocq29, odq29, .func (PySem.W.fnOf "is_number" "is_number" (defArgs s_is_number) (defBody s_is_number) (defScope s_is_number) .none kVq29 dcq29 pmq29 anq29 cdq29 ctq29), slq29⟩)
    (cq29 : PySem.W.codeIn K cdq29 "is_number" = true)
    (kq29 : PySem.W.keepIn K (.ref f_q29) = true)
    (aq30 : PySem.W.nsIn K mainGlobals "format_book" = some (some (.ref f_q30)))
    (lq30 : K.lookup f_q30 = some ⟨ocq30, odq30, .func (PySem.W.fnOf "format_book" "format_book" (defArgs s_format_book) (defBody s_format_book) (defScope s_format_book) .none kVq30 dcq30 pmq30 anq30 cdq30 ctq30), slq30⟩)
    (cq30 : PySem.W.codeIn K cdq30 "format_book" = true)
    (kq30 : PySem.W.keepIn K (.ref f_q30) = true)
    (aq31 : PySem.W.nsIn K mainGlobals "is_good" = some (some (.ref f_q31)))
    (lq31 : K.lookup f_q31 = some ⟨ocq31, odq31, .func (PySem.W.fnOf "is_good" "is_good" (defArgs s_is_good) (defBody s_is_good) (defScope s_is_good) .none kVq31 dcq31 pmq31 anq31 cdq31 ctq31), slq31⟩)
    (cq31 : PySem.W.codeIn K cdq31 "is_good" = true)
    (kq31 : PySem.W.keepIn K (.ref f_q31) = true)
    (aq32 : PySem.W.nsIn K mainGlobals "order_of" = some (some (.ref f_q32)))
    (lq32 : K.lookup f_q32 = some ⟨ocq32, odq32, .func (PySem.W.fnOf "order_of" "order_of" (defArgs s_order_of) (defBody s_order_of) (defScope s_order_of) .none kVq32 dcq32 pmq32 anq32 cdq32 ctq32), slq32⟩)
    (cq32 : PySem.W.codeIn K cdq32 "order_of" = true)
    (kq32 : PySem.W.keepIn K (.ref f_q32) = true)
    (aq33 : PySem.W.nsIn K mainGlobals "parse_book" = some (some (.ref f_q33)))
    (lq33 : K.lookup f_q33 = some ⟨ocq33, odq33, .func (PySem.W.fnOf "parse_book" "parse_book" (defArgs s_parse_book) (defBody s_parse_book) (defScope s_parse_book) .none kVq33 dcq33 pmq33 anq33 cdq33 ctq33), slq33⟩)
    (cq33 : PySem.W.codeIn K cdq33 "parse_book" = true)
    (kq33 : PySem.W.keepIn K (.ref f_q33) = true)
    (aq34 : PySem.W.nsIn K mainGlobals "pack_bytes" = some (some (.ref f_q34)))
    (lq34 : K.lookup f_q34 = some ⟨ocq34, odq34, .func (PySem.W.fnOf "pack_bytes" "pack_bytes" (defArgs s_pack_bytes) (defBody s_pack_bytes) (defScope s_pack_bytes) .none kVq34 dcq34 pmq34 anq34 cdq34 ctq34), slq34⟩)
    (cq34 : PySem.W.codeIn K cdq34 "pack_bytes" = true)
    (kq34 : PySem.W.keepIn K (.ref f_q34) = true)
    (aq35 : PySem.W.nsIn K mainGlobals "unpack_bytes" = some (some (.ref f_q35)))
    (lq35 : K.lookup f_q35 = some ⟨ocq35, odq35, .func (PySem.W.fnOf "unpack_bytes" "unpack_bytes" (defArgs s_unpack_bytes) (defBody s_unpack_bytes) (defScope s_unpack_bytes) .none kVq35 dcq35 pmq35 anq35 cdq35 ctq35), slq35⟩)
    (cq35 : PySem.W.codeIn K cdq35 "unpack_bytes" = true)
    (kq35 : PySem.W.keepIn K (.ref f_q35) = true)
    (aq36 : PySem.W.nsIn K mainGlobals "checksum_of" = some (some (.ref f_q36)))
    (lq36 : K.lookup f_q36 = some ⟨ocq36, odq36, .func (PySem.W.fnOf "checksum_of" "checksum_of" (defArgs s_checksum_of) (defBody s_checksum_of) (defScope s_checksum_of) .none kVq36 dcq36 pmq36 anq36 cdq36 ctq36), slq36⟩)
    (cq36 : PySem.W.codeIn K cdq36 "checksum_of" = true)
    (kq36 : PySem.W.keepIn K (.ref f_q36) = true)
    (aq37 : PySem.W.nsIn K mainGlobals "number_values" = some (some (.ref f_q37)))
    (lq37 : K.lookup f_q37 = some ⟨ocq37, odq37, .func (PySem.W.fnOf "number_values" "number_values" (defArgs s_number_values) (defBody s_number_values) (defScope s_number_values) .none kVq37 dcq37 pmq37 anq37 cdq37 ctq37), slq37⟩)
    (cq37 : PySem.W.codeIn K cdq37 "number_values" = true)
    (kq37 : PySem.W.keepIn K (.ref f_q37) = true)
    (aq38 : PySem.W.nsIn K mainGlobals "address_values" = some (some (.ref f_q38)))
    (lq38 : K.lookup f_q38 = some ⟨ocq38, odq38, .func (PySem.W.fnOf "address_values" "address_values" (defArgs s_address_values) (defBody s_address_values) (defScope s_address_values) .none kVq38 dcq38 pmq38 anq38 cdq38 ctq38), slq38⟩)
    (cq38 : PySem.W.codeIn K cdq38 "address_values" = true)
    (kq38 : PySem.W.keepIn K (.ref f_q38) = true)
    (aq39 : PySem.W.nsIn K mainGlobals "encode_book" = some (some (.ref f_q39)))
    (lq39 : K.lookup f_q39 = some ⟨ocq39, odq39, .func (PySem.W.fnOf "encode_book" "encode_book" (defArgs s_encode_book) (defBody s_encode_book) (defScope s_encode_book) .none kVq39 dcq39 pmq39 anq39 cdq39 ctq39), slq39⟩)
    (cq39 : PySem.W.codeIn K cdq39 "encode_book" = true)
    (kq39 : PySem.W.keepIn K (.ref f_q39) = true)
    (aq40 : PySem.W.findIn K (.ref C_Decoder) "__init__" = some (some (.ref f_q40)))
    (iq40 : PySem.W.isFn K (.ref f_q40) = true)
    (lq40 : K.lookup f_q40 = some ⟨ocq40, odq40, .func (PySem.W.fnOf "__init__" "Decoder.__init__" (defArgs s_DecoderX_initX) (defBody s_DecoderX_initX) (defScope s_DecoderX_initX) .none kVq40 dcq40 pmq40 anq40 cdq40 ctq40), slq40⟩)
    (cq40 : PySem.W.codeIn K cdq40 "Decoder.__init__" = true)
    (kq40 : PySem.W.keepIn K (.ref f_q40) = true)
    (aq41 : PySem.W.findIn K (.ref C_Decoder) "take_byte" = some (some (.ref f_q41)))
    (iq41 : PySem.W.isFn K (.ref f_q41) = true)
    (lq41 : K.lookup f_q41 = some ⟨ocq41, odq41, .func (PySem.W.fnOf "take_byte" "Decoder.take_byte" (defArgs s_Decoder_take_byte) (defBody s_Decoder_take_byte) (defScope s_Decoder_take_byte) .none kVq41 dcq41 pmq41 anq41 cdq41 ctq41), slq41⟩)
    (cq41 : PySem.W.codeIn K cdq41 "Decoder.take_byte" = true)
    (kq41 : PySem.W.keepIn K (.ref f_q41) = true)
    (aq42 : PySem.W.findIn K (.ref C_Decoder) "take_address" = some (some (.ref f_q42)))
    (iq42 : PySem.W.isFn K (.ref f_q42) = true)
    (lq42 : K.lookup f_q42 = some ⟨ocq42, odq42, .func (PySem.W.fnOf "take_address" "Decoder.take_address" (defArgs s_Decoder_take_address) (defBody s_Decoder_take_address) (defScope s_Decoder_take_address) .none kVq42 dcq42 pmq42 anq42 cdq42 ctq42), slq42⟩)
    (cq42 : PySem.W.codeIn K cdq42 "Decoder.take_address" = true)
    (kq42 : PySem.W.keepIn K (.ref f_q42) = true)
    (aq43 : PySem.W.findIn K (.ref C_Decoder) "take_number" = some (some (.ref f_q43)))
    (iq43 : PySem.W.isFn K (.ref f_q43) = true)
    (lq43 : K.lookup f_q43 = some ⟨ocq43, odq43, .func (PySem.W.fnOf "take_number" "Decoder.take_number" (defArgs s_Decoder_take_number) (defBody s_Decoder_take_number) (defScope s_Decoder_take_number) .none kVq43 dcq43 pmq43 anq43 cdq43 ctq43), slq43⟩)
    (cq43 : PySem.W.codeIn K cdq43 "Decoder.take_number" = true)
    (kq43 : PySem.W.keepIn K (.ref f_q43) = true)
    (aq44 : PySem.W.findIn K (.ref C_Decoder) "take_order" = some (some (.ref f_q44)))
    (iq44 : PySem.W.isFn K (.ref f_q44) = true)
    (lq44 : K.lookup f_q44 = some ⟨ocq44, odq44, .func (PySem.W.fnOf "take_order" "Decoder.take_order" (defArgs s_Decoder_take_order) (defBody s_Decoder_take_order) (defScope s_Decoder_take_order) .none kVq44 dcq44 pmq44 anq44 cdq44 ctq44), slq44⟩)
    (cq44 : PySem.W.codeIn K cdq44 "Decoder.take_order" = true)
    (kq44 : PySem.W.keepIn K (.ref f_q44) = true)
    (aq45 : PySem.W.findIn K (.ref C_Decoder) "finish" = some (some (.ref f_q45)))
    (iq45 : PySem.W.isFn K (.ref f_q45) = true)
    (lq45 : K.lookup f_q45 = some ⟨ocq45, odq45, .func (PySem.W.fnOf "finish" "Decoder.finish" (defArgs s_Decoder_finish) (defBody s_Decoder_finish) (defScope s_Decoder_finish) .none kVq45 dcq45 pmq45 anq45 cdq45 ctq45), slq45⟩)
    (cq45 : PySem.W.codeIn K cdq45 "Decoder.finish" = true)
    (kq45 : PySem.W.keepIn K (.ref f_q45) = true)
    (aq46 : PySem.W.nsIn K mainGlobals "decode_book" = some (some (.ref f_q46)))
    (lq46 : K.lookup f_q46 = some ⟨ocq46, odq46, .func (PySem.W.fnOf "decode_book" "decode_book" (defArgs s_decode_book) (defBody s_decode_book) (defScope s_decode_book) .none kVq46 dcq46 pmq46 anq46 cdq46 ctq46), slq46⟩)
    (cq46 : PySem.W.codeIn K cdq46 "decode_book" = true)
    (kq46 : PySem.W.keepIn K (.ref f_q46) = true)
    (aq47 : PySem.W.nsIn K mainGlobals "_law_taken" = some (some (.ref f_q47)))
    (lq47 : K.lookup f_q47 = some ⟨ocq47, odq47, .func (PySem.W.fnOf "_law_taken" "_law_taken" (defArgs s__law_taken) (defBody s__law_taken) (defScope s__law_taken) .none kVq47 dcq47 pmq47 anq47 cdq47 ctq47), slq47⟩)
    (cq47 : PySem.W.codeIn K cdq47 "_law_taken" = true)
    (kq47 : PySem.W.keepIn K (.ref f_q47) = true)
    (aq48 : PySem.W.nsIn K mainGlobals "_law_great" = some (some (.ref f_q48)))
    (lq48 : K.lookup f_q48 = some ⟨ocq48, odq48, .func (PySem.W.fnOf "_law_great" "_law_great" (defArgs s__law_great) (defBody s__law_great) (defScope s__law_great) .none kVq48 dcq48 pmq48 anq48 cdq48 ctq48), slq48⟩)
    (cq48 : PySem.W.codeIn K cdq48 "_law_great" = true)
    (kq48 : PySem.W.keepIn K (.ref f_q48) = true)
    (aq49 : PySem.W.nsIn K mainGlobals "_law_orders" = some (some (.ref f_q49)))
    (lq49 : K.lookup f_q49 = some ⟨ocq49, odq49, .func (PySem.W.fnOf "_law_orders" "_law_orders" (defArgs s__law_orders) (defBody s__law_orders) (defScope s__law_orders) .none kVq49 dcq49 pmq49 anq49 cdq49 ctq49), slq49⟩)
    (cq49 : PySem.W.codeIn K cdq49 "_law_orders" = true)
    (kq49 : PySem.W.keepIn K (.ref f_q49) = true)
    (aq50 : PySem.W.nsIn K mainGlobals "_law_book" = some (some (.ref f_q50)))
    (lq50 : K.lookup f_q50 = some ⟨ocq50, odq50, .func (PySem.W.fnOf "_law_book" "_law_book" (defArgs s__law_book) (defBody s__law_book) (defScope s__law_book) .none kVq50 dcq50 pmq50 anq50 cdq50 ctq50), slq50⟩)
    (cq50 : PySem.W.codeIn K cdq50 "_law_book" = true)
    (kq50 : PySem.W.keepIn K (.ref f_q50) = true)
    (aq51 : PySem.W.nsIn K mainGlobals "_law_far" = some (some (.ref f_q51)))
    (lq51 : K.lookup f_q51 = some ⟨ocq51, odq51, .func (PySem.W.fnOf "_law_far" "_law_far" (defArgs s__law_far) (defBody s__law_far) (defScope s__law_far) .none kVq51 dcq51 pmq51 anq51 cdq51 ctq51), slq51⟩)
    (cq51 : PySem.W.codeIn K cdq51 "_law_far" = true)
    (kq51 : PySem.W.keepIn K (.ref f_q51) = true)
    (aq52 : PySem.W.nsIn K mainGlobals "_law_letter" = some (some (.ref f_q52)))
    (lq52 : K.lookup f_q52 = some ⟨ocq52, odq52, .func (PySem.W.fnOf "_law_letter" "_law_letter" (defArgs s__law_letter) (defBody s__law_letter) (defScope s__law_letter) .none kVq52 dcq52 pmq52 anq52 cdq52 ctq52), slq52⟩)
    (cq52 : PySem.W.codeIn K cdq52 "_law_letter" = true)
    (kq52 : PySem.W.keepIn K (.ref f_q52) = true)
    (aq53 : PySem.W.nsIn K mainGlobals "_law_are_letters" = some (some (.ref f_q53)))
    (lq53 : K.lookup f_q53 = some ⟨ocq53, odq53, .func (PySem.W.fnOf "_law_are_letters" "_law_are_letters" (defArgs s__law_are_letters) (defBody s__law_are_letters) (defScope s__law_are_letters) .none kVq53 dcq53 pmq53 anq53 cdq53 ctq53), slq53⟩)
    (cq53 : PySem.W.codeIn K cdq53 "_law_are_letters" = true)
    (kq53 : PySem.W.keepIn K (.ref f_q53) = true)
    (aq54 : PySem.W.nsIn K mainGlobals "law" = some (some (.ref f_q54)))
    (lq54 : K.lookup f_q54 = some ⟨ocq54, odq54, .func (PySem.W.fnOf "law" "law" (defArgs s_law) (defBody s_law) (defScope s_law) .none kVq54 dcq54 pmq54 anq54 cdq54 ctq54), slq54⟩)
    (cq54 : PySem.W.codeIn K cdq54 "law" = true)
    (kq54 : PySem.W.keepIn K (.ref f_q54) = true)
    (pg_Book : PySem.W.plainGet K C_Book Str.empty = true)
    (hd_Book : PySem.W.hasDictIn K C_Book = true)
    (po_Book : PySem.W.plainOver K C_Book = true)
    (sa_Book : PySem.W.findIn K (.ref C_Book) "__setattr__" = some (some (.builtin "object.__setattr__")))
    (mk_Book : PySem.W.makesIn K C_Book = true)
    (kc_Book : PySem.W.keepIn K (.ref C_Book) = true)
    (pg_Letter : PySem.W.plainGet K C_Letter Str.empty = true)
    (hd_Letter : PySem.W.hasDictIn K C_Letter = true)
    (po_Letter : PySem.W.plainOver K C_Letter = true)
    (sa_Letter : PySem.W.findIn K (.ref C_Letter) "__setattr__" = some (some (.builtin "object.__setattr__")))
    (mk_Letter : PySem.W.makesIn K C_Letter = true)
    (kc_Letter : PySem.W.keepIn K (.ref C_Letter) = true)
    (pg_Decoder : PySem.W.plainGet K C_Decoder Str.empty = true)
    (hd_Decoder : PySem.W.hasDictIn K C_Decoder = true)
    (po_Decoder : PySem.W.plainOver K C_Decoder = true)
    (sa_Decoder : PySem.W.findIn K (.ref C_Decoder) "__setattr__" = some (some (.builtin "object.__setattr__")))
    (mk_Decoder : PySem.W.makesIn K C_Decoder = true)
    (kc_Decoder : PySem.W.keepIn K (.ref C_Decoder) = true)
    (n_Book_listed : PySem.W.findIn K (.ref C_Book) "listed" = some none)
    (n_Book___rrshift__ : PySem.W.findIn K (.ref C_Book) "__rrshift__" = some none)
    (n_Letter_book : PySem.W.findIn K (.ref C_Letter) "book" = some none)
    (n_Letter_address : PySem.W.findIn K (.ref C_Letter) "address" = some none)
    (n_Letter_day : PySem.W.findIn K (.ref C_Letter) "day" = some none)
    (n_Letter_count : PySem.W.findIn K (.ref C_Letter) "count" = some none)
    (n_Letter_known : PySem.W.findIn K (.ref C_Letter) "known" = some none)
    (n_Letter_is_endless : PySem.W.findIn K (.ref C_Letter) "is_endless" = some none)
    (n_Letter_change : PySem.W.findIn K (.ref C_Letter) "change" = some none)
    (n_Decoder_data : PySem.W.findIn K (.ref C_Decoder) "data" = some none)
    (n_Decoder_offset : PySem.W.findIn K (.ref C_Decoder) "offset" = some none)
    (c_LETTERS : PySem.W.nsIn K mainGlobals "LETTERS" = some (some (.str "abcdefghijklmnopqrstuvwxyz" tg_0)))
    (c_MAX_LETTERS : PySem.W.nsIn K mainGlobals "MAX_LETTERS" = some (some (.int 8 tg_1)))
    (c_MAX_ORDERS_books : PySem.W.nsIn K mainGlobals "MAX_ORDERS_books" = some (some (.int 30 tg_2)))
    (c_MAX_DAY : PySem.W.nsIn K mainGlobals "MAX_DAY" = some (some (.int 1000000000000000000 tg_3)))
    (c_MAX_WAY : PySem.W.nsIn K mainGlobals "MAX_WAY" = some (some (.int 30 tg_4)))
    (c_WORD : PySem.W.nsIn K mainGlobals "WORD" = some (some (.str "order" tg_5)))
    (c_DIGITS : PySem.W.nsIn K mainGlobals "DIGITS" = some (some (.str "0123456789" tg_6)))
    (c_MAX_DIGITS : PySem.W.nsIn K mainGlobals "MAX_DIGITS" = some (some (.int 19 tg_7)))
    (c_WORDS : PySem.W.nsIn K mainGlobals "WORDS" = some (some (.int 6 tg_8)))
    (c_FIRST_BYTE : PySem.W.nsIn K mainGlobals "FIRST_BYTE" = some (some (.int 77 tg_9)))
    (c_BYTE : PySem.W.nsIn K mainGlobals "BYTE" = some (some (.int 256 tg_10)))
    (c_GROUP : PySem.W.nsIn K mainGlobals "GROUP" = some (some (.int 128 tg_11)))
    (c_CHECKSUM_MODULUS : PySem.W.nsIn K mainGlobals "CHECKSUM_MODULUS" = some (some (.int 241 tg_12)))
    (taB : PySem.W.typeIn K (.ref C_MailError) = some mcB)
    (raB : PySem.W.readsIn K C_MailError mcB = true)
    (rbB : PySem.W.specialIn K (.ref C_MailError) "__getattribute__" = some (some (.builtin "type.__getattribute__")))
    (fcB : PySem.W.findCls K (.ref C_MailError) mcB "__init__" = some (.val (.builtin "ValueError.__init__")))
    (eg_InvalidOrder : PySem.W.findIn K (.ref C_InvalidOrder) "__getattribute__" = some (some (.builtin "BaseException.__getattribute__")))
    (ek_InvalidOrder : PySem.W.findIn K (.ref C_InvalidOrder) "__getattr__" = some none)
    (es_InvalidOrder : PySem.W.subIn K (.ref C_InvalidOrder) (.type "BaseException") = some true)
    (ed_InvalidOrder : PySem.W.hasDictIn K C_InvalidOrder = true)
    (ea_InvalidOrder : PySem.W.findIn K (.ref C_InvalidOrder) "__class__" = some (some (.builtin "object.__class__")))
    (en_InvalidOrder : PySem.W.specialIn K (.builtin "object.__class__") "__get__" = some (some (.builtin "getset_descriptor.__get__")))
    (et_InvalidOrder : PySem.W.takesIn K (.builtin "object.__class__") = some true)
    (em_InvalidOrder : PySem.W.mroIn K C_InvalidOrder (.type "object") = some true)
    (ex_InvalidOrder : PySem.W.exmOne K (.ref C_InvalidOrder) (.ref C_MailError) = some true)
    (ev_InvalidOrder : PySem.W.kitOne K (.ref C_InvalidOrder) (.type "ValueError") = some true)
    (kt_InvalidOrder_InvalidOrder : PySem.W.kitOne K (.ref C_InvalidOrder) (.ref C_InvalidOrder) = some true)
    (kt_InvalidOrder_UnknownOrder : PySem.W.kitOne K (.ref C_InvalidOrder) (.ref C_UnknownOrder) = some false)
    (kt_InvalidOrder_InvalidAddress : PySem.W.kitOne K (.ref C_InvalidOrder) (.ref C_InvalidAddress) = some false)
    (kt_InvalidOrder_InvalidDay : PySem.W.kitOne K (.ref C_InvalidOrder) (.ref C_InvalidDay) = some false)
    (kt_InvalidOrder_InvalidNumber : PySem.W.kitOne K (.ref C_InvalidOrder) (.ref C_InvalidNumber) = some false)
    (kt_InvalidOrder_NotationError : PySem.W.kitOne K (.ref C_InvalidOrder) (.ref C_NotationError) = some false)
    (kt_InvalidOrder_InvalidCount : PySem.W.kitOne K (.ref C_InvalidOrder) (.ref C_InvalidCount) = some false)
    (kt_InvalidOrder_DecodeError : PySem.W.kitOne K (.ref C_InvalidOrder) (.ref C_DecodeError) = some false)
    (eg_NotationError : PySem.W.findIn K (.ref C_NotationError) "__getattribute__" = some (some (.builtin "BaseException.__getattribute__")))
    (ek_NotationError : PySem.W.findIn K (.ref C_NotationError) "__getattr__" = some none)
    (es_NotationError : PySem.W.subIn K (.ref C_NotationError) (.type "BaseException") = some true)
    (ed_NotationError : PySem.W.hasDictIn K C_NotationError = true)
    (ea_NotationError : PySem.W.findIn K (.ref C_NotationError) "__class__" = some (some (.builtin "object.__class__")))
    (en_NotationError : PySem.W.specialIn K (.builtin "object.__class__") "__get__" = some (some (.builtin "getset_descriptor.__get__")))
    (et_NotationError : PySem.W.takesIn K (.builtin "object.__class__") = some true)
    (em_NotationError : PySem.W.mroIn K C_NotationError (.type "object") = some true)
    (ex_NotationError : PySem.W.exmOne K (.ref C_NotationError) (.ref C_MailError) = some true)
    (ev_NotationError : PySem.W.kitOne K (.ref C_NotationError) (.type "ValueError") = some true)
    (kt_NotationError_InvalidOrder : PySem.W.kitOne K (.ref C_NotationError) (.ref C_InvalidOrder) = some false)
    (kt_NotationError_UnknownOrder : PySem.W.kitOne K (.ref C_NotationError) (.ref C_UnknownOrder) = some false)
    (kt_NotationError_InvalidAddress : PySem.W.kitOne K (.ref C_NotationError) (.ref C_InvalidAddress) = some false)
    (kt_NotationError_InvalidDay : PySem.W.kitOne K (.ref C_NotationError) (.ref C_InvalidDay) = some false)
    (kt_NotationError_InvalidNumber : PySem.W.kitOne K (.ref C_NotationError) (.ref C_InvalidNumber) = some false)
    (kt_NotationError_NotationError : PySem.W.kitOne K (.ref C_NotationError) (.ref C_NotationError) = some true)
    (kt_NotationError_InvalidCount : PySem.W.kitOne K (.ref C_NotationError) (.ref C_InvalidCount) = some false)
    (kt_NotationError_DecodeError : PySem.W.kitOne K (.ref C_NotationError) (.ref C_DecodeError) = some false)
    (eg_DecodeError : PySem.W.findIn K (.ref C_DecodeError) "__getattribute__" = some (some (.builtin "BaseException.__getattribute__")))
    (ek_DecodeError : PySem.W.findIn K (.ref C_DecodeError) "__getattr__" = some none)
    (es_DecodeError : PySem.W.subIn K (.ref C_DecodeError) (.type "BaseException") = some true)
    (ed_DecodeError : PySem.W.hasDictIn K C_DecodeError = true)
    (ea_DecodeError : PySem.W.findIn K (.ref C_DecodeError) "__class__" = some (some (.builtin "object.__class__")))
    (en_DecodeError : PySem.W.specialIn K (.builtin "object.__class__") "__get__" = some (some (.builtin "getset_descriptor.__get__")))
    (et_DecodeError : PySem.W.takesIn K (.builtin "object.__class__") = some true)
    (em_DecodeError : PySem.W.mroIn K C_DecodeError (.type "object") = some true)
    (ex_DecodeError : PySem.W.exmOne K (.ref C_DecodeError) (.ref C_MailError) = some true)
    (ev_DecodeError : PySem.W.kitOne K (.ref C_DecodeError) (.type "ValueError") = some true)
    (kt_DecodeError_InvalidOrder : PySem.W.kitOne K (.ref C_DecodeError) (.ref C_InvalidOrder) = some false)
    (kt_DecodeError_UnknownOrder : PySem.W.kitOne K (.ref C_DecodeError) (.ref C_UnknownOrder) = some false)
    (kt_DecodeError_InvalidAddress : PySem.W.kitOne K (.ref C_DecodeError) (.ref C_InvalidAddress) = some false)
    (kt_DecodeError_InvalidDay : PySem.W.kitOne K (.ref C_DecodeError) (.ref C_InvalidDay) = some false)
    (kt_DecodeError_InvalidNumber : PySem.W.kitOne K (.ref C_DecodeError) (.ref C_InvalidNumber) = some false)
    (kt_DecodeError_NotationError : PySem.W.kitOne K (.ref C_DecodeError) (.ref C_NotationError) = some false)
    (kt_DecodeError_InvalidCount : PySem.W.kitOne K (.ref C_DecodeError) (.ref C_InvalidCount) = some false)
    (kt_DecodeError_DecodeError : PySem.W.kitOne K (.ref C_DecodeError) (.ref C_DecodeError) = some true)
    (na_InvalidOrder : PySem.W.findIn K (.ref C_InvalidOrder) "index" = some none)
    (na_NotationError_row : PySem.W.findIn K (.ref C_NotationError) "row" = some none)
    (na_NotationError_word : PySem.W.findIn K (.ref C_NotationError) "word" = some none)
    (na_DecodeError_offset : PySem.W.findIn K (.ref C_DecodeError) "offset" = some none)
    (oc_Book : PySem.W.findIn K (.ref C_Book) "__class__" = some (some (.builtin "object.__class__")))
    (on_Book : PySem.W.specialIn K (.builtin "object.__class__") "__get__" = some (some (.builtin "getset_descriptor.__get__")))
    (ot_Book : PySem.W.takesIn K (.builtin "object.__class__") = some true)
    (om_Book : PySem.W.mroIn K C_Book (.type "object") = some true)
    (oe_Book : PySem.W.findIn K (.ref C_Book) "__ne__" = some (some (.builtin "object.__ne__")))
    (ki_Book : PySem.W.kitOne K (.ref C_Book) (.ref C_Book) = some true)
    (ku_Book : PySem.W.kitOne K (.type "tuple") (.ref C_Book) = some false)
    (b_isinstance : PySem.W.nsIn K mainGlobals "isinstance" = some none)
    (b_int : PySem.W.nsIn K mainGlobals "int" = some none)
    (b_bool : PySem.W.nsIn K mainGlobals "bool" = some none)
    (b_str : PySem.W.nsIn K mainGlobals "str" = some none)
    (b_tuple : PySem.W.nsIn K mainGlobals "tuple" = some none)
    (b_list : PySem.W.nsIn K mainGlobals "list" = some none)
    (b_len : PySem.W.nsIn K mainGlobals "len" = some none)
    (b_all : PySem.W.nsIn K mainGlobals "all" = some none)
    (b_any : PySem.W.nsIn K mainGlobals "any" = some none)
    (b_enumerate : PySem.W.nsIn K mainGlobals "enumerate" = some none)
    (b_range : PySem.W.nsIn K mainGlobals "range" = some none)
    (b_min : PySem.W.nsIn K mainGlobals "min" = some none)
    (b_max : PySem.W.nsIn K mainGlobals "max" = some none)
    (b_bytes : PySem.W.nsIn K mainGlobals "bytes" = some none)
    (b_ValueError : PySem.W.nsIn K mainGlobals "ValueError" = some none)
    (sf : PySem.W.selfFirst K C_Book = true) :
    ∃ fd : FuncData, (∀ (s : Shared) (v : Value), BindsTo s fd ⟨[v], []⟩ [("_law_script", v)]) ∧ ∀ base : Heap, K.In base → base.Ns mainGlobals mg → FnOk l.prog w K mg base CX0 13 fa fd ["_law_script"] (spLaw K) := by
  have e := hfa.symm.trans (PySem.W.mg_of X G aq54)
  cases e
  have Fq0 := fun_mk (st := s_is_integer) lq0 cq0 kq0
  have bq0 := Fq0.binds (ps := ["value", "low", "high"]) fun _ _ _ _ _ _ us hl => match us, hl with | [_, _, _], _ => rfl
  have Fq1 := fun_mk (st := s_is_address) lq1 cq1 kq1
  have bq1 := Fq1.binds (ps := ["value"]) fun _ _ _ _ _ _ us hl => match us, hl with | [_], _ => rfl
  have Fq2 := fun_mk (st := s_check_letter) lq2 cq2 kq2
  have bq2 := Fq2.binds (ps := ["address", "day"]) fun _ _ _ _ _ _ us hl => match us, hl with | [_, _], _ => rfl
  have Fq3 := fun_mk (st := s_is_order) lq3 cq3 kq3
  have bq3 := Fq3.binds (ps := ["value"]) fun _ _ _ _ _ _ us hl => match us, hl with | [_], _ => rfl
  have Fq4 := fun_mk (st := s_do_overlap) lq4 cq4 kq4
  have bq4 := Fq4.binds (ps := ["one", "other"]) fun _ _ _ _ _ _ us hl => match us, hl with | [_, _], _ => rfl
  have Fq5 := fun_mk (st := s_BookX_initX) lq5 cq5 kq5
  have Fq6 := fun_mk (st := s_Book_orders) lq6 cq6 kq6
  have bq6 := Fq6.binds (ps := ["self"]) fun _ _ _ _ _ _ us hl => match us, hl with | [_], _ => rfl
  have Fq7 := fun_mk (st := s_BookX_lenX) lq7 cq7 kq7
  have bq7 := Fq7.binds (ps := ["self"]) fun _ _ _ _ _ _ us hl => match us, hl with | [_], _ => rfl
  have Fq8 := fun_mk (st := s_BookX_eqX) lq8 cq8 kq8
  have bq8 := Fq8.binds (ps := ["self", "other"]) fun _ _ _ _ _ _ us hl => match us, hl with | [_, _], _ => rfl
  have Fq9 := fun_mk (st := s_BookX_addX) lq9 cq9 kq9
  have bq9 := Fq9.binds (ps := ["self", "other"]) fun _ _ _ _ _ _ us hl => match us, hl with | [_, _], _ => rfl
  have Fq10 := fun_mk (st := s_BookX_rshiftX) lq10 cq10 kq10
  have bq10 := Fq10.binds (ps := ["self", "days"]) fun _ _ _ _ _ _ us hl => match us, hl with | [_, _], _ => rfl
  have Fq11 := fun_mk (st := s_Book_check_order) lq11 cq11 kq11
  have bq11 := Fq11.binds (ps := ["self", "index"]) fun _ _ _ _ _ _ us hl => match us, hl with | [_, _], _ => rfl
  have Fq12 := fun_mk (st := s_Book_without) lq12 cq12 kq12
  have Fq13 := fun_mk (st := s_Book_order_for) lq13 cq13 kq13
  have bq13 := Fq13.binds (ps := ["self", "address", "day"]) fun _ _ _ _ _ _ us hl => match us, hl with | [_, _, _], _ => rfl
  have Fq14 := fun_mk (st := s_Book_order_at) lq14 cq14 kq14
  have bq14 := Fq14.binds (ps := ["self", "address", "day"]) fun _ _ _ _ _ _ us hl => match us, hl with | [_, _, _], _ => rfl
  have Fq15 := fun_mk (st := s_Book_next_change) lq15 cq15 kq15
  have bq15 := Fq15.binds (ps := ["self", "day"]) fun _ _ _ _ _ _ us hl => match us, hl with | [_, _], _ => rfl
  have Fq16 := fun_mk (st := s_book_of) lq16 cq16 kq16
  have bq16 := Fq16.binds (ps := ["orders"]) fun _ _ _ _ _ _ us hl => match us, hl with | [_], _ => rfl
  have Fq17 := fun_mk (st := s_moved) lq17 cq17 kq17
  have bq17 := Fq17.binds (ps := ["orders", "days"]) fun _ _ _ _ _ _ us hl => match us, hl with | [_, _], _ => rfl
  have Fq18 := fun_mk (st := s_InvalidOrderX_initX) lq18 cq18 kq18
  have bq18 := Fq18.binds (ps := ["self", "index"]) fun _ _ _ _ _ _ us hl => match us, hl with | [_, _], _ => rfl
  have Fq19 := fun_mk (st := s_NotationErrorX_initX) lq19 cq19 kq19
  have bq19 := Fq19.binds (ps := ["self", "row", "word"]) fun _ _ _ _ _ _ us hl => match us, hl with | [_, _, _], _ => rfl
  have Fq20 := fun_mk (st := s_DecodeErrorX_initX) lq20 cq20 kq20
  have bq20 := Fq20.binds (ps := ["self", "offset"]) fun _ _ _ _ _ _ us hl => match us, hl with | [_, _], _ => rfl
  have Fq21 := fun_mk (st := s_LetterX_initX) lq21 cq21 kq21
  have bq21 := Fq21.binds (ps := ["self", "book", "address", "day"]) fun _ _ _ _ _ _ us hl => match us, hl with | [_, _, _, _], _ => rfl
  have Fq22 := fun_mk (st := s_Letter_order_now) lq22 cq22 kq22
  have bq22 := Fq22.binds (ps := ["self"]) fun _ _ _ _ _ _ us hl => match us, hl with | [_], _ => rfl
  have Fq23 := fun_mk (st := s_Letter_step) lq23 cq23 kq23
  have bq23 := Fq23.binds (ps := ["self"]) fun _ _ _ _ _ _ us hl => match us, hl with | [_], _ => rfl
  have Fq24 := fun_mk (st := s_Letter_skip) lq24 cq24 kq24
  have bq24 := Fq24.binds (ps := ["self"]) fun _ _ _ _ _ _ us hl => match us, hl with | [_], _ => rfl
  have Fq25 := fun_mk (st := s_Letter_finish) lq25 cq25 kq25
  have bq25 := Fq25.binds (ps := ["self"]) fun _ _ _ _ _ _ us hl => match us, hl with | [_], _ => rfl
  have Fq26 := fun_mk (st := s_end_of) lq26 cq26 kq26
  have bq26 := Fq26.binds (ps := ["book", "address", "day"]) fun _ _ _ _ _ _ us hl => match us, hl with | [_, _, _], _ => rfl
  have Fq27 := fun_mk (st := s_end) lq27 cq27 kq27
  have bq27 := Fq27.binds (ps := ["book", "address", "day"]) fun _ _ _ _ _ _ us hl => match us, hl with | [_, _, _], _ => rfl
  have Fq28 := fun_mk (st := s_times_sent) lq28 cq28 kq28
  have bq28 := Fq28.binds (ps := ["book", "address", "day"]) fun _ _ _ _ _ _ us hl => match us, hl with | [_, _, _], _ => rfl
  have Fq29 := fun_mk (st := s_is_number) lq29 cq29 kq29
  have bq29 := Fq29.binds (ps := ["word"]) fun _ _ _ _ _ _ us hl => match us, hl with | [_], _ => rfl
  have Fq30 := fun_mk (st := s_format_book) lq30 cq30 kq30
  have bq30 := Fq30.binds (ps := ["book"]) fun _ _ _ _ _ _ us hl => match us, hl with | [_], _ => rfl
  have Fq31 := fun_mk (st := s_is_good) lq31 cq31 kq31
  have bq31 := Fq31.binds (ps := ["place", "word"]) fun _ _ _ _ _ _ us hl => match us, hl with | [_, _], _ => rfl
  have Fq32 := fun_mk (st := s_order_of) lq32 cq32 kq32
  have bq32 := Fq32.binds (ps := ["row", "line"]) fun _ _ _ _ _ _ us hl => match us, hl with | [_, _], _ => rfl
  have Fq33 := fun_mk (st := s_parse_book) lq33 cq33 kq33
  have bq33 := Fq33.binds (ps := ["text"]) fun _ _ _ _ _ _ us hl => match us, hl with | [_], _ => rfl
  have Fq34 := fun_mk (st := s_pack_bytes) lq34 cq34 kq34
  have bq34 := Fq34.binds (ps := ["values"]) fun _ _ _ _ _ _ us hl => match us, hl with | [_], _ => rfl
  have Fq35 := fun_mk (st := s_unpack_bytes) lq35 cq35 kq35
  have bq35 := Fq35.binds (ps := ["data"]) fun _ _ _ _ _ _ us hl => match us, hl with | [_], _ => rfl
  have Fq36 := fun_mk (st := s_checksum_of) lq36 cq36 kq36
  have bq36 := Fq36.binds (ps := ["values"]) fun _ _ _ _ _ _ us hl => match us, hl with | [_], _ => rfl
  have Fq37 := fun_mk (st := s_number_values) lq37 cq37 kq37
  have bq37 := Fq37.binds (ps := ["number"]) fun _ _ _ _ _ _ us hl => match us, hl with | [_], _ => rfl
  have Fq38 := fun_mk (st := s_address_values) lq38 cq38 kq38
  have bq38 := Fq38.binds (ps := ["address"]) fun _ _ _ _ _ _ us hl => match us, hl with | [_], _ => rfl
  have Fq39 := fun_mk (st := s_encode_book) lq39 cq39 kq39
  have bq39 := Fq39.binds (ps := ["book"]) fun _ _ _ _ _ _ us hl => match us, hl with | [_], _ => rfl
  have Fq40 := fun_mk (st := s_DecoderX_initX) lq40 cq40 kq40
  have bq40 := Fq40.binds (ps := ["self", "data"]) fun _ _ _ _ _ _ us hl => match us, hl with | [_, _], _ => rfl
  have Fq41 := fun_mk (st := s_Decoder_take_byte) lq41 cq41 kq41
  have bq41 := Fq41.binds (ps := ["self", "low", "high"]) fun _ _ _ _ _ _ us hl => match us, hl with | [_, _, _], _ => rfl
  have Fq42 := fun_mk (st := s_Decoder_take_address) lq42 cq42 kq42
  have bq42 := Fq42.binds (ps := ["self"]) fun _ _ _ _ _ _ us hl => match us, hl with | [_], _ => rfl
  have Fq43 := fun_mk (st := s_Decoder_take_number) lq43 cq43 kq43
  have bq43 := Fq43.binds (ps := ["self", "high"]) fun _ _ _ _ _ _ us hl => match us, hl with | [_, _], _ => rfl
  have Fq44 := fun_mk (st := s_Decoder_take_order) lq44 cq44 kq44
  have bq44 := Fq44.binds (ps := ["self", "orders"]) fun _ _ _ _ _ _ us hl => match us, hl with | [_, _], _ => rfl
  have Fq45 := fun_mk (st := s_Decoder_finish) lq45 cq45 kq45
  have bq45 := Fq45.binds (ps := ["self"]) fun _ _ _ _ _ _ us hl => match us, hl with | [_], _ => rfl
  have Fq46 := fun_mk (st := s_decode_book) lq46 cq46 kq46
  have bq46 := Fq46.binds (ps := ["data"]) fun _ _ _ _ _ _ us hl => match us, hl with | [_], _ => rfl
  have Fq47 := fun_mk (st := s__law_taken) lq47 cq47 kq47
  have bq47 := Fq47.binds (ps := ["_law_row", "_law_many"]) fun _ _ _ _ _ _ us hl => match us, hl with | [_, _], _ => rfl
  have Fq48 := fun_mk (st := s__law_great) lq48 cq48 kq48
  have bq48 := Fq48.binds (ps := ["_law_row", "_law_many"]) fun _ _ _ _ _ _ us hl => match us, hl with | [_, _], _ => rfl
  have Fq49 := fun_mk (st := s__law_orders) lq49 cq49 kq49
  have bq49 := Fq49.binds (ps := ["_law_row", "_law_most", "_law_long"]) fun _ _ _ _ _ _ us hl => match us, hl with | [_, _, _], _ => rfl
  have Fq50 := fun_mk (st := s__law_book) lq50 cq50 kq50
  have bq50 := Fq50.binds (ps := ["_law_orders_here"]) fun _ _ _ _ _ _ us hl => match us, hl with | [_], _ => rfl
  have Fq51 := fun_mk (st := s__law_far) lq51 cq51 kq51
  have bq51 := Fq51.binds (ps := ["_law_row", "_law_orders_here"]) fun _ _ _ _ _ _ us hl => match us, hl with | [_, _], _ => rfl
  have Fq52 := fun_mk (st := s__law_letter) lq52 cq52 kq52
  have bq52 := Fq52.binds (ps := ["_law_row", "_law_most"]) fun _ _ _ _ _ _ us hl => match us, hl with | [_, _], _ => rfl
  have Fq53 := fun_mk (st := s__law_are_letters) lq53 cq53 kq53
  have bq53 := Fq53.binds (ps := ["_law_row", "_law_one", "_law_two", "_law_both"]) fun _ _ _ _ _ _ us hl => match us, hl with | [_, _, _, _], _ => rfl
  have Fq54 := fun_mk (st := s_law) lq54 cq54 kq54
  have bq54 := Fq54.binds (ps := ["_law_script"]) fun _ _ _ _ _ _ us hl => match us, hl with | [_], _ => rfl
  have T : Top K mg C_Book C_Letter C_Decoder C_MailError C_InvalidOrder C_UnknownOrder C_InvalidAddress C_InvalidDay C_InvalidNumber C_NotationError C_InvalidCount C_DecodeError := ⟨⟨_, _, Fq0, PySem.W.mg_of X G aq0, bq0⟩,
    ⟨_, _, Fq1, PySem.W.mg_of X G aq1, bq1⟩,
    ⟨_, _, Fq2, PySem.W.mg_of X G aq2, bq2⟩,
    ⟨_, _, Fq3, PySem.W.mg_of X G aq3, bq3⟩,
    ⟨_, _, Fq4, PySem.W.mg_of X G aq4, bq4⟩,
    ⟨_, _, Fq5, ⟨mk_Book, aq5, iq5, kc_Book⟩, PySem.W.mg_of X G aC_Book, bind_star1 (B := fun xs => bindArgs _ ⟨xs, []⟩) (fun _ => rfl) (fun _ _ _ => rfl)⟩,
    ⟨_, _, _, Fq6, ⟨aq6, pgq6, ptq6, ⟨_, prq6⟩⟩, bq6⟩,
    ⟨_, _, Fq7, ⟨aq7, iq7, kq7⟩, bq7⟩,
    ⟨_, _, Fq8, ⟨aq8, iq8, kq8⟩, bq8⟩,
    ⟨_, _, Fq9, ⟨aq9, iq9, kq9⟩, bq9⟩,
    ⟨_, _, Fq10, ⟨aq10, iq10, kq10⟩, bq10⟩,
    ⟨_, _, Fq11, ⟨aq11, iq11, kq11⟩, bq11⟩,
    ⟨_, _, Fq12, ⟨aq12, iq12, kq12⟩, bind_star1 (B := fun xs => bindArgs _ ⟨xs, []⟩) (fun _ => rfl) (fun _ _ _ => rfl)⟩,
    ⟨_, _, Fq13, ⟨aq13, iq13, kq13⟩, bq13⟩,
    ⟨_, _, Fq14, ⟨aq14, iq14, kq14⟩, bq14⟩,
    ⟨_, _, Fq15, ⟨aq15, iq15, kq15⟩, bq15⟩,
    ⟨_, _, Fq16, PySem.W.mg_of X G aq16, bq16⟩,
    ⟨_, _, Fq17, PySem.W.mg_of X G aq17, bq17⟩,
    ⟨⟨_, _, Fq18, aq18, iq18, bq18⟩, oex_of ob_InvalidOrder sa_InvalidOrder xs_InvalidOrder xt_InvalidOrder xk_InvalidOrder, PySem.W.mg_of X G ge_InvalidOrder⟩,
    ⟨⟨_, _, Fq19, aq19, iq19, bq19⟩, oex_of ob_NotationError sa_NotationError xs_NotationError xt_NotationError xk_NotationError, PySem.W.mg_of X G ge_NotationError⟩,
    ⟨⟨_, _, Fq20, aq20, iq20, bq20⟩, oex_of ob_DecodeError sa_DecodeError xs_DecodeError xt_DecodeError xk_DecodeError, PySem.W.mg_of X G ge_DecodeError⟩,
    ⟨_, _, Fq21, ⟨mk_Letter, aq21, iq21, kc_Letter⟩, PySem.W.mg_of X G aC_Letter, bq21⟩,
    ⟨_, _, Fq22, ⟨aq22, iq22, kq22⟩, bq22⟩,
    ⟨_, _, Fq23, ⟨aq23, iq23, kq23⟩, bq23⟩,
    ⟨_, _, Fq24, ⟨aq24, iq24, kq24⟩, bq24⟩,
    ⟨_, _, Fq25, ⟨aq25, iq25, kq25⟩, bq25⟩,
    ⟨_, _, Fq26, PySem.W.mg_of X G aq26, bq26⟩,
    ⟨_, _, Fq27, PySem.W.mg_of X G aq27, bq27⟩,
    ⟨_, _, Fq28, PySem.W.mg_of X G aq28, bq28⟩,
    ⟨_, _, Fq29, PySem.W.mg_of X G aq29, bq29⟩,
    ⟨_, _, Fq30, PySem.W.mg_of X G aq30, bq30⟩,
    ⟨_, _, Fq31, PySem.W.mg_of X G aq31, bq31⟩,
    ⟨_, _, Fq32, PySem.W.mg_of X G aq32, bq32⟩,
    ⟨_, _, Fq33, PySem.W.mg_of X G aq33, bq33⟩,
    ⟨_, _, Fq34, PySem.W.mg_of X G aq34, bq34⟩,
    ⟨_, _, Fq35, PySem.W.mg_of X G aq35, bq35⟩,
    ⟨_, _, Fq36, PySem.W.mg_of X G aq36, bq36⟩,
    ⟨_, _, Fq37, PySem.W.mg_of X G aq37, bq37⟩,
    ⟨_, _, Fq38, PySem.W.mg_of X G aq38, bq38⟩,
    ⟨_, _, Fq39, PySem.W.mg_of X G aq39, bq39⟩,
    ⟨_, _, Fq40, ⟨mk_Decoder, aq40, iq40, kc_Decoder⟩, PySem.W.mg_of X G aC_Decoder, bq40⟩,
    ⟨_, _, Fq41, ⟨aq41, iq41, kq41⟩, bq41⟩,
    ⟨_, _, Fq42, ⟨aq42, iq42, kq42⟩, bq42⟩,
    ⟨_, _, Fq43, ⟨aq43, iq43, kq43⟩, bq43⟩,
    ⟨_, _, Fq44, ⟨aq44, iq44, kq44⟩, bq44⟩,
    ⟨_, _, Fq45, ⟨aq45, iq45, kq45⟩, bq45⟩,
    ⟨_, _, Fq46, PySem.W.mg_of X G aq46, bq46⟩,
    ⟨_, _, Fq47, PySem.W.mg_of X G aq47, bq47⟩,
    ⟨_, _, Fq48, PySem.W.mg_of X G aq48, bq48⟩,
    ⟨_, _, Fq49, PySem.W.mg_of X G aq49, bq49⟩,
    ⟨_, _, Fq50, PySem.W.mg_of X G aq50, bq50⟩,
    ⟨_, _, Fq51, PySem.W.mg_of X G aq51, bq51⟩,
    ⟨_, _, Fq52, PySem.W.mg_of X G aq52, bq52⟩,
    ⟨_, _, Fq53, PySem.W.mg_of X G aq53, bq53⟩,
    ⟨_, _, Fq54, PySem.W.mg_of X G aq54, bq54⟩,
    ⟨pg_Book, hd_Book, po_Book, sa_Book⟩,
    ⟨pg_Letter, hd_Letter, po_Letter, sa_Letter⟩,
    ⟨pg_Decoder, hd_Decoder, po_Decoder, sa_Decoder⟩,
    n_Book_listed,
    n_Book___rrshift__,
    n_Letter_book,
    n_Letter_address,
    n_Letter_day,
    n_Letter_count,
    n_Letter_known,
    n_Letter_is_endless,
    n_Letter_change,
    n_Decoder_data,
    n_Decoder_offset,
    ⟨_, PySem.W.mg_of X G c_LETTERS⟩,
    ⟨_, PySem.W.mg_of X G c_MAX_LETTERS⟩,
    ⟨_, PySem.W.mg_of X G c_MAX_ORDERS_books⟩,
    ⟨_, PySem.W.mg_of X G c_MAX_DAY⟩,
    ⟨_, PySem.W.mg_of X G c_MAX_WAY⟩,
    ⟨_, PySem.W.mg_of X G c_WORD⟩,
    ⟨_, PySem.W.mg_of X G c_DIGITS⟩,
    ⟨_, PySem.W.mg_of X G c_MAX_DIGITS⟩,
    ⟨_, PySem.W.mg_of X G c_WORDS⟩,
    ⟨_, PySem.W.mg_of X G c_FIRST_BYTE⟩,
    ⟨_, PySem.W.mg_of X G c_BYTE⟩,
    ⟨_, PySem.W.mg_of X G c_GROUP⟩,
    ⟨_, PySem.W.mg_of X G c_CHECKSUM_MODULUS⟩,
    PySem.W.mg_of X G ge_MailError,
    PySem.W.mg_of X G ge_InvalidOrder,
    PySem.W.mg_of X G ge_UnknownOrder,
    PySem.W.mg_of X G ge_InvalidAddress,
    PySem.W.mg_of X G ge_InvalidDay,
    PySem.W.mg_of X G ge_InvalidNumber,
    PySem.W.mg_of X G ge_NotationError,
    PySem.W.mg_of X G ge_InvalidCount,
    PySem.W.mg_of X G ge_DecodeError,
    ⟨⟨_, ⟨raB, rbB⟩, fcB⟩⟩,
    ⟨⟨eg_InvalidOrder, ek_InvalidOrder, es_InvalidOrder, ed_InvalidOrder, ea_InvalidOrder, en_InvalidOrder, et_InvalidOrder, em_InvalidOrder⟩, ex_InvalidOrder, ev_InvalidOrder⟩,
    kt_InvalidOrder_InvalidOrder,
    kt_InvalidOrder_UnknownOrder,
    kt_InvalidOrder_InvalidAddress,
    kt_InvalidOrder_InvalidDay,
    kt_InvalidOrder_InvalidNumber,
    kt_InvalidOrder_NotationError,
    kt_InvalidOrder_InvalidCount,
    kt_InvalidOrder_DecodeError,
    ⟨⟨eg_NotationError, ek_NotationError, es_NotationError, ed_NotationError, ea_NotationError, en_NotationError, et_NotationError, em_NotationError⟩, ex_NotationError, ev_NotationError⟩,
    kt_NotationError_InvalidOrder,
    kt_NotationError_UnknownOrder,
    kt_NotationError_InvalidAddress,
    kt_NotationError_InvalidDay,
    kt_NotationError_InvalidNumber,
    kt_NotationError_NotationError,
    kt_NotationError_InvalidCount,
    kt_NotationError_DecodeError,
    ⟨⟨eg_DecodeError, ek_DecodeError, es_DecodeError, ed_DecodeError, ea_DecodeError, en_DecodeError, et_DecodeError, em_DecodeError⟩, ex_DecodeError, ev_DecodeError⟩,
    kt_DecodeError_InvalidOrder,
    kt_DecodeError_UnknownOrder,
    kt_DecodeError_InvalidAddress,
    kt_DecodeError_InvalidDay,
    kt_DecodeError_InvalidNumber,
    kt_DecodeError_NotationError,
    kt_DecodeError_InvalidCount,
    kt_DecodeError_DecodeError,
    na_InvalidOrder,
    na_NotationError_row,
    na_NotationError_word,
    na_DecodeError_offset,
    ⟨oc_Book, on_Book, ot_Book, om_Book, oe_Book, ki_Book, ku_Book⟩,
    PySem.W.mg_of X G aC_Book,
    PySem.W.mg_none_of X G b_isinstance,
    PySem.W.mg_none_of X G b_int,
    PySem.W.mg_none_of X G b_bool,
    PySem.W.mg_none_of X G b_str,
    PySem.W.mg_none_of X G b_tuple,
    PySem.W.mg_none_of X G b_list,
    PySem.W.mg_none_of X G b_len,
    PySem.W.mg_none_of X G b_all,
    PySem.W.mg_none_of X G b_any,
    PySem.W.mg_none_of X G b_enumerate,
    PySem.W.mg_none_of X G b_range,
    PySem.W.mg_none_of X G b_min,
    PySem.W.mg_none_of X G b_max,
    PySem.W.mg_none_of X G b_bytes,
    PySem.W.mg_none_of X G b_ValueError⟩
  exact ⟨PySem.W.fnOf "law" "law" (defArgs s_law) (defBody s_law) (defScope s_law) .none kVq54 dcq54 pmq54 anq54 cdq54 ctq54, fun s v => .of_eq rfl, fun base _ _ => ok_law T sf Fq54⟩
theorem walk {l : PySem.W.OpenLaw} {q : Program} {loose : List Str} {XP : (Str → Option Value) → Heap → Prop} {YP : World → Heap → Prop} {d : DefRec} {K : Params → PySem.W.Frag} (hn : l.most = some 63) (hdf : d.params.defaults = [])
    (hY : ∀ (w : World) (h : Heap), YP w h → (K w.params).In h)
    (F : ∀ (w : World) (mg : Str → Option Value) (fa : Addr) (h : Heap), (K w.params).In h → h.Ns mainGlobals mg → mg d.name = some (.ref fa) →
      ∃ fd : FuncData, (∀ (s : Shared) (u : Value), BindsTo s fd ⟨[u], []⟩ [("_law_script", u)]) ∧ ∀ base : Heap, (K w.params).In base → base.Ns mainGlobals mg → FnOk l.prog w (K w.params) mg base CX0 13 fa fd ["_law_script"] (spLaw (K w.params))) :
    PySem.W.WalkO q loose XP YP l.row.toRowW d [] (fun f vs => PySem.call f vs) :=
  L2.walk_of (n := 63) (k := 13) (x := "_law_script") (CX := fun _ => CX0) (sp := fun w => spLaw (K w.params)) hn (by decide) hdf ⟨rfl, by decide, by decide⟩ hY F (fun _ _ a ns hl _ hS => ⟨a, ns, rfl, hS, hl, fun _ => rfl⟩) fun _ _ _ _ _ z => z
end MF
open PySem PySem.W PyProof.Rows
set_option maxRecDepth 100000 in
set_option maxHeartbeats 0 in
theorem PySem.Challenge.cw_mailforwards_k17_whole_texts_bytes_and_s_holds : PySem.Challenge.rw_mailforwards_k17_whole_texts_bytes_and_s.Holds := by
  w_on; o_law; k_head; (case hw => w_witness2)
  k_fill
  refine MF.walk (l := PySem.Challenge.rw_mailforwards_k17_whole_texts_bytes_and_s) rfl rfl (fun w h Y => PySem.W.kIn_of Y) ?F
  case F =>
    intro w mg fa h KX G hmg
    refine' MF.all_mk KX G hmg ?aC_Book ?aC_Letter ?aC_Decoder ?ge_MailError ?ge_InvalidOrder ?ge_UnknownOrder ?ge_InvalidAddress ?ge_InvalidDay ?ge_InvalidNumber ?ge_NotationError ?ge_InvalidCount ?ge_DecodeError ?ob_InvalidOrder ?sa_InvalidOrder ?xs_InvalidOrder ?xt_InvalidOrder ?xk_InvalidOrder ?ob_NotationError ?sa_NotationError ?xs_NotationError ?xt_NotationError ?xk_NotationError ?ob_DecodeError ?sa_DecodeError ?xs_DecodeError ?xt_DecodeError ?xk_DecodeError ?aq0 ?lq0 ?cq0 ?kq0 ?aq1 ?lq1 ?cq1 ?kq1 ?aq2 ?lq2 ?cq2 ?kq2 ?aq3 ?lq3 ?cq3 ?kq3 ?aq4 ?lq4 ?cq4 ?kq4 ?aq5 ?iq5 ?lq5 ?cq5 ?kq5 ?aq6 ?pgq6 ?ptq6 ?prq6 ?lq6 ?cq6 ?kq6 ?aq7 ?iq7 ?lq7 ?cq7 ?kq7 ?aq8 ?iq8 ?lq8 ?cq8 ?kq8 ?aq9 ?iq9 ?lq9 ?cq9 ?kq9 ?aq10 ?iq10 ?lq10 ?cq10 ?kq10 ?aq11 ?iq11 ?lq11 ?cq11 ?kq11 ?aq12 ?iq12 ?lq12 ?cq12 ?kq12 ?aq13 ?iq13 ?lq13 ?cq13 ?kq13 ?aq14 ?iq14 ?lq14 ?cq14 ?kq14 ?aq15 ?iq15 ?lq15 ?cq15 ?kq15 ?aq16 ?lq16 ?cq16 ?kq16 ?aq17 ?lq17 ?cq17 ?kq17 ?aq18 ?iq18 ?lq18 ?cq18 ?kq18 ?aq19 ?iq19 ?lq19 ?cq19 ?kq19 ?aq20 ?iq20 ?lq20 ?cq20 ?kq20 ?aq21 ?iq21 ?lq21 ?cq21 ?kq21 ?aq22 ?iq22 ?lq22 ?cq22 ?kq22 ?aq23 ?iq23 ?lq23 ?cq23 ?kq23 ?aq24 ?iq24 ?lq24 ?cq24 ?kq24 ?aq25 ?iq25 ?lq25 ?cq25 ?kq25 ?aq26 ?lq26 ?cq26 ?kq26 ?aq27 ?lq27 ?cq27 ?kq27 ?aq28 ?lq28 ?cq28 ?kq28 ?aq29 ?lq29 ?cq29 ?kq29 ?aq30 ?lq30 ?cq30 ?kq30 ?aq31 ?lq31 ?cq31 ?kq31 ?aq32 ?lq32 ?cq32 ?kq32 ?aq33 ?lq33 ?cq33 ?kq33 ?aq34 ?lq34 ?cq34 ?kq34 ?aq35 ?lq35 ?cq35 ?kq35 ?aq36 ?lq36 ?cq36 ?kq36 ?aq37 ?lq37 ?cq37 ?kq37 ?aq38 ?lq38 ?cq38 ?kq38 ?aq39 ?lq39 ?cq39 ?kq39 ?aq40 ?iq40 ?lq40 ?cq40 ?kq40 ?aq41 ?iq41 ?lq41 ?cq41 ?kq41 ?aq42 ?iq42 ?lq42 ?cq42 ?kq42 ?aq43 ?iq43 ?lq43 ?cq43 ?kq43 ?aq44 ?iq44 ?lq44 ?cq44 ?kq44 ?aq45 ?iq45 ?lq45 ?cq45 ?kq45 ?aq46 ?lq46 ?cq46 ?kq46 ?aq47 ?lq47 ?cq47 ?kq47 ?aq48 ?lq48 ?cq48 ?kq48 ?aq49 ?lq49 ?cq49 ?kq49 ?aq50 ?lq50 ?cq50 ?kq50 ?aq51 ?lq51 ?cq51 ?kq51 ?aq52 ?lq52 ?cq52 ?kq52 ?aq53 ?lq53 ?cq53 ?kq53 ?aq54 ?lq54 ?cq54 ?kq54 ?pg_Book ?hd_Book ?po_Book ?sa_Book ?mk_Book ?kc_Book ?pg_Letter ?hd_Letter ?po_Letter ?sa_Letter ?mk_Letter ?kc_Letter ?pg_Decoder ?hd_Decoder ?po_Decoder ?sa_Decoder ?mk_Decoder ?kc_Decoder ?n_Book_listed ?n_Book___rrshift__ ?n_Letter_book ?n_Letter_address ?n_Letter_day ?n_Letter_count ?n_Letter_known ?n_Letter_is_endless ?n_Letter_change ?n_Decoder_data ?n_Decoder_offset ?c_LETTERS ?c_MAX_LETTERS ?c_MAX_ORDERS_books ?c_MAX_DAY ?c_MAX_WAY ?c_WORD ?c_DIGITS ?c_MAX_DIGITS ?c_WORDS ?c_FIRST_BYTE ?c_BYTE ?c_GROUP ?c_CHECKSUM_MODULUS ?taB ?raB ?rbB ?fcB ?eg_InvalidOrder ?ek_InvalidOrder ?es_InvalidOrder ?ed_InvalidOrder ?ea_InvalidOrder ?en_InvalidOrder ?et_InvalidOrder ?em_InvalidOrder ?ex_InvalidOrder ?ev_InvalidOrder ?kt_InvalidOrder_InvalidOrder ?kt_InvalidOrder_UnknownOrder ?kt_InvalidOrder_InvalidAddress ?kt_InvalidOrder_InvalidDay ?kt_InvalidOrder_InvalidNumber ?kt_InvalidOrder_NotationError ?kt_InvalidOrder_InvalidCount ?kt_InvalidOrder_DecodeError ?eg_NotationError ?ek_NotationError ?es_NotationError ?ed_NotationError ?ea_NotationError ?en_NotationError ?et_NotationError ?em_NotationError ?ex_NotationError ?ev_NotationError ?kt_NotationError_InvalidOrder ?kt_NotationError_UnknownOrder ?kt_NotationError_InvalidAddress ?kt_NotationError_InvalidDay ?kt_NotationError_InvalidNumber ?kt_NotationError_NotationError ?kt_NotationError_InvalidCount ?kt_NotationError_DecodeError ?eg_DecodeError ?ek_DecodeError ?es_DecodeError ?ed_DecodeError ?ea_DecodeError ?en_DecodeError ?et_DecodeError ?em_DecodeError ?ex_DecodeError ?ev_DecodeError ?kt_DecodeError_InvalidOrder ?kt_DecodeError_UnknownOrder ?kt_DecodeError_InvalidAddress ?kt_DecodeError_InvalidDay ?kt_DecodeError_InvalidNumber ?kt_DecodeError_NotationError ?kt_DecodeError_InvalidCount ?kt_DecodeError_DecodeError ?na_InvalidOrder ?na_NotationError_row ?na_NotationError_word ?na_DecodeError_offset ?oc_Book ?on_Book ?ot_Book ?om_Book ?oe_Book ?ki_Book ?ku_Book ?b_isinstance ?b_int ?b_bool ?b_str ?b_tuple ?b_list ?b_len ?b_all ?b_any ?b_enumerate ?b_range ?b_min ?b_max ?b_bytes ?b_ValueError ?sf
    (case aC_Book => k_is)
    (case aC_Letter => k_is)
    (case aC_Decoder => k_is)
    (case ge_MailError => k_is)
    (case ge_InvalidOrder => k_is)
    (case ge_UnknownOrder => k_is)
    (case ge_InvalidAddress => k_is)
    (case ge_InvalidDay => k_is)
    (case ge_InvalidNumber => k_is)
    (case ge_NotationError => k_is)
    (case ge_InvalidCount => k_is)
    (case ge_DecodeError => k_is)
    (case ob_InvalidOrder => first | kernel_rfl | kit_is | rfl)
    (case sa_InvalidOrder => k_is)
    (case xs_InvalidOrder => k_is)
    (case xt_InvalidOrder => k_is)
    (case xk_InvalidOrder => k_is)
    (case ob_NotationError => first | kernel_rfl | kit_is | rfl)
    (case sa_NotationError => k_is)
    (case xs_NotationError => k_is)
    (case xt_NotationError => k_is)
    (case xk_NotationError => k_is)
    (case ob_DecodeError => first | kernel_rfl | kit_is | rfl)
    (case sa_DecodeError => k_is)
    (case xs_DecodeError => k_is)
    (case xt_DecodeError => k_is)
    (case xk_DecodeError => k_is)
    (case aq0 => k_is)
    (case lq0 => k_is)
    (case cq0 => k_is)
    (case kq0 => k_is)
    (case aq1 => k_is)
    (case lq1 => k_is)
    (case cq1 => k_is)
    (case kq1 => k_is)
    (case aq2 => k_is)
    (case lq2 => k_is)
    (case cq2 => k_is)
    (case kq2 => k_is)
    (case aq3 => k_is)
    (case lq3 => k_is)
    (case cq3 => k_is)
    (case kq3 => k_is)
    (case aq4 => k_is)
    (case lq4 => k_is)
    (case cq4 => k_is)
    (case kq4 => k_is)
    (case aq5 => k_is)
    (case iq5 => k_is)
    (case lq5 => k_is)
    (case cq5 => k_is)
    (case kq5 => k_is)
    (case aq6 => k_is)
    (case pgq6 => k_is)
    (case ptq6 => k_is)
    (case prq6 => k_is)
    (case lq6 => k_is)
    (case cq6 => k_is)
    (case kq6 => k_is)
    (case aq7 => k_is)
    (case iq7 => k_is)
    (case lq7 => k_is)
    (case cq7 => k_is)
    (case kq7 => k_is)
    (case aq8 => k_is)
    (case iq8 => k_is)
    (case lq8 => k_is)
    (case cq8 => k_is)
    (case kq8 => k_is)
    (case aq9 => k_is)
    (case iq9 => k_is)
    (case lq9 => k_is)
    (case cq9 => k_is)
    (case kq9 => k_is)
    (case aq10 => k_is)
    (case iq10 => k_is)
    (case lq10 => k_is)
    (case cq10 => k_is)
    (case kq10 => k_is)
    (case aq11 => k_is)
    (case iq11 => k_is)
    (case lq11 => k_is)
    (case cq11 => k_is)
    (case kq11 => k_is)
    (case aq12 => k_is)
    (case iq12 => k_is)
    (case lq12 => k_is)
    (case cq12 => k_is)
    (case kq12 => k_is)
    (case aq13 => k_is)
    (case iq13 => k_is)
    (case lq13 => k_is)
    (case cq13 => k_is)
    (case kq13 => k_is)
    (case aq14 => k_is)
    (case iq14 => k_is)
    (case lq14 => k_is)
    (case cq14 => k_is)
    (case kq14 => k_is)
    (case aq15 => k_is)
    (case iq15 => k_is)
    (case lq15 => k_is)
    (case cq15 => k_is)
    (case kq15 => k_is)
    (case aq16 => k_is)
    (case lq16 => k_is)
    (case cq16 => k_is)
    (case kq16 => k_is)
    (case aq17 => k_is)
    (case lq17 => k_is)
    (case cq17 => k_is)
    (case kq17 => k_is)
    (case aq18 => k_is)
    (case iq18 => k_is)
    (case lq18 => k_is)
    (case cq18 => k_is)
    (case kq18 => k_is)
    (case aq19 => k_is)
    (case iq19 => k_is)
    (case lq19 => k_is)
    (case cq19 => k_is)
    (case kq19 => k_is)
    (case aq20 => k_is)
    (case iq20 => k_is)
    (case lq20 => k_is)
    (case cq20 => k_is)
    (case kq20 => k_is)
    (case aq21 => k_is)
    (case iq21 => k_is)
    (case lq21 => k_is)
    (case cq21 => k_is)
    (case kq21 => k_is)
    (case aq22 => k_is)
    (case iq22 => k_is)
    (case lq22 => k_is)
    (case cq22 => k_is)
    (case kq22 => k_is)
    (case aq23 => k_is)
    (case iq23 => k_is)
    (case lq23 => k_is)
    (case cq23 => k_is)
    (case kq23 => k_is)
    (case aq24 => k_is)
    (case iq24 => k_is)
    (case lq24 => k_is)
    (case cq24 => k_is)
    (case kq24 => k_is)
    (case aq25 => k_is)
    (case iq25 => k_is)
    (case lq25 => k_is)
    (case cq25 => k_is)
    (case kq25 => k_is)
    (case aq26 => k_is)
    (case lq26 => k_is)
    (case cq26 => k_is)
    (case kq26 => k_is)
    (case aq27 => k_is)
    (case lq27 => k_is)
    (case cq27 => k_is)
    (case kq27 => k_is)
    (case aq28 => k_is)
    (case lq28 => k_is)
    (case cq28 => k_is)
    (case kq28 => k_is)
    (case aq29 => k_is)
    (case lq29 => k_is)
    (case cq29 => k_is)
    (case kq29 => k_is)
    (case aq30 => k_is)
    (case lq30 => k_is)
    (case cq30 => k_is)
    (case kq30 => k_is)
    (case aq31 => k_is)
    (case lq31 => k_is)
    (case cq31 => k_is)
    (case kq31 => k_is)
    (case aq32 => k_is)
    (case lq32 => k_is)
    (case cq32 => k_is)
    (case kq32 => k_is)
    (case aq33 => k_is)
    (case lq33 => k_is)
    (case cq33 => k_is)
    (case kq33 => k_is)
    (case aq34 => k_is)
    (case lq34 => k_is)
    (case cq34 => k_is)
    (case kq34 => k_is)
    (case aq35 => k_is)
    (case lq35 => k_is)
    (case cq35 => k_is)
    (case kq35 => k_is)
    (case aq36 => k_is)
    (case lq36 => k_is)
    (case cq36 => k_is)
    (case kq36 => k_is)
    (case aq37 => k_is)
    (case lq37 => k_is)
    (case cq37 => k_is)
    (case kq37 => k_is)
    (case aq38 => k_is)
    (case lq38 => k_is)
    (case cq38 => k_is)
    (case kq38 => k_is)
    (case aq39 => k_is)
    (case lq39 => k_is)
    (case cq39 => k_is)
    (case kq39 => k_is)
    (case aq40 => k_is)
    (case iq40 => k_is)
    (case lq40 => k_is)
    (case cq40 => k_is)
    (case kq40 => k_is)
    (case aq41 => k_is)
    (case iq41 => k_is)
    (case lq41 => k_is)
    (case cq41 => k_is)
    (case kq41 => k_is)
    (case aq42 => k_is)
    (case iq42 => k_is)
    (case lq42 => k_is)
    (case cq42 => k_is)
    (case kq42 => k_is)
    (case aq43 => k_is)
    (case iq43 => k_is)
    (case lq43 => k_is)
    (case cq43 => k_is)
    (case kq43 => k_is)
    (case aq44 => k_is)
    (case iq44 => k_is)
    (case lq44 => k_is)
    (case cq44 => k_is)
    (case kq44 => k_is)
    (case aq45 => k_is)
    (case iq45 => k_is)
    (case lq45 => k_is)
    (case cq45 => k_is)
    (case kq45 => k_is)
    (case aq46 => k_is)
    (case lq46 => k_is)
    (case cq46 => k_is)
    (case kq46 => k_is)
    (case aq47 => k_is)
    (case lq47 => k_is)
    (case cq47 => k_is)
    (case kq47 => k_is)
    (case aq48 => k_is)
    (case lq48 => k_is)
    (case cq48 => k_is)
    (case kq48 => k_is)
    (case aq49 => k_is)
    (case lq49 => k_is)
    (case cq49 => k_is)
    (case kq49 => k_is)
    (case aq50 => k_is)
    (case lq50 => k_is)
    (case cq50 => k_is)
    (case kq50 => k_is)
    (case aq51 => k_is)
    (case lq51 => k_is)
    (case cq51 => k_is)
    (case kq51 => k_is)
    (case aq52 => k_is)
    (case lq52 => k_is)
    (case cq52 => k_is)
    (case kq52 => k_is)
    (case aq53 => k_is)
    (case lq53 => k_is)
    (case cq53 => k_is)
    (case kq53 => k_is)
    (case aq54 => k_is)
    (case lq54 => k_is)
    (case cq54 => k_is)
    (case kq54 => k_is)
    (case pg_Book => k_is)
    (case hd_Book => k_is)
    (case po_Book => k_is)
    (case sa_Book => k_is)
    (case mk_Book => k_is)
    (case kc_Book => k_is)
    (case pg_Letter => k_is)
    (case hd_Letter => k_is)
    (case po_Letter => k_is)
    (case sa_Letter => k_is)
    (case mk_Letter => k_is)
    (case kc_Letter => k_is)
    (case pg_Decoder => k_is)
    (case hd_Decoder => k_is)
    (case po_Decoder => k_is)
    (case sa_Decoder => k_is)
    (case mk_Decoder => k_is)
    (case kc_Decoder => k_is)
    (case n_Book_listed => k_is)
    (case n_Book___rrshift__ => k_is)
    (case n_Letter_book => k_is)
    (case n_Letter_address => k_is)
    (case n_Letter_day => k_is)
    (case n_Letter_count => k_is)
    (case n_Letter_known => k_is)
    (case n_Letter_is_endless => k_is)
    (case n_Letter_change => k_is)
    (case n_Decoder_data => k_is)
    (case n_Decoder_offset => k_is)
    (case c_LETTERS => k_is)
    (case c_MAX_LETTERS => k_is)
    (case c_MAX_ORDERS_books => k_is)
    (case c_MAX_DAY => k_is)
    (case c_MAX_WAY => k_is)
    (case c_WORD => k_is)
    (case c_DIGITS => k_is)
    (case c_MAX_DIGITS => k_is)
    (case c_WORDS => k_is)
    (case c_FIRST_BYTE => k_is)
    (case c_BYTE => k_is)
    (case c_GROUP => k_is)
    (case c_CHECKSUM_MODULUS => k_is)
    (case taB => k_is)
    (case raB => k_is)
    (case rbB => k_is)
    (case fcB => k_is)
    (case eg_InvalidOrder => k_is)
    (case ek_InvalidOrder => k_is)
    (case es_InvalidOrder => k_is)
    (case ed_InvalidOrder => k_is)
    (case ea_InvalidOrder => k_is)
    (case en_InvalidOrder => k_is)
    (case et_InvalidOrder => k_is)
    (case em_InvalidOrder => k_is)
    (case ex_InvalidOrder => first | kernel_rfl | kit_is | rfl)
    (case ev_InvalidOrder => first | kernel_rfl | kit_is | rfl)
    (case kt_InvalidOrder_InvalidOrder => first | kernel_rfl | kit_is | rfl)
    (case kt_InvalidOrder_UnknownOrder => first | kernel_rfl | kit_is | rfl)
    (case kt_InvalidOrder_InvalidAddress => first | kernel_rfl | kit_is | rfl)
    (case kt_InvalidOrder_InvalidDay => first | kernel_rfl | kit_is | rfl)
    (case kt_InvalidOrder_InvalidNumber => first | kernel_rfl | kit_is | rfl)
    (case kt_InvalidOrder_NotationError => first | kernel_rfl | kit_is | rfl)
    (case kt_InvalidOrder_InvalidCount => first | kernel_rfl | kit_is | rfl)
    (case kt_InvalidOrder_DecodeError => first | kernel_rfl | kit_is | rfl)
    (case eg_NotationError => k_is)
    (case ek_NotationError => k_is)
    (case es_NotationError => k_is)
    (case ed_NotationError => k_is)
    (case ea_NotationError => k_is)
    (case en_NotationError => k_is)
    (case et_NotationError => k_is)
    (case em_NotationError => k_is)
    (case ex_NotationError => first | kernel_rfl | kit_is | rfl)
    (case ev_NotationError => first | kernel_rfl | kit_is | rfl)
    (case kt_NotationError_InvalidOrder => first | kernel_rfl | kit_is | rfl)
    (case kt_NotationError_UnknownOrder => first | kernel_rfl | kit_is | rfl)
    (case kt_NotationError_InvalidAddress => first | kernel_rfl | kit_is | rfl)
    (case kt_NotationError_InvalidDay => first | kernel_rfl | kit_is | rfl)
    (case kt_NotationError_InvalidNumber => first | kernel_rfl | kit_is | rfl)
    (case kt_NotationError_NotationError => first | kernel_rfl | kit_is | rfl)
    (case kt_NotationError_InvalidCount => first | kernel_rfl | kit_is | rfl)
    (case kt_NotationError_DecodeError => first | kernel_rfl | kit_is | rfl)
    (case eg_DecodeError => k_is)
    (case ek_DecodeError => k_is)
    (case es_DecodeError => k_is)
    (case ed_DecodeError => k_is)
    (case ea_DecodeError => k_is)
    (case en_DecodeError => k_is)
    (case et_DecodeError => k_is)
    (case em_DecodeError => k_is)
    (case ex_DecodeError => first | kernel_rfl | kit_is | rfl)
    (case ev_DecodeError => first | kernel_rfl | kit_is | rfl)
    (case kt_DecodeError_InvalidOrder => first | kernel_rfl | kit_is | rfl)
    (case kt_DecodeError_UnknownOrder => first | kernel_rfl | kit_is | rfl)
    (case kt_DecodeError_InvalidAddress => first | kernel_rfl | kit_is | rfl)
    (case kt_DecodeError_InvalidDay => first | kernel_rfl | kit_is | rfl)
    (case kt_DecodeError_InvalidNumber => first | kernel_rfl | kit_is | rfl)
    (case kt_DecodeError_NotationError => first | kernel_rfl | kit_is | rfl)
    (case kt_DecodeError_InvalidCount => first | kernel_rfl | kit_is | rfl)
    (case kt_DecodeError_DecodeError => first | kernel_rfl | kit_is | rfl)
    (case na_InvalidOrder => k_is)
    (case na_NotationError_row => k_is)
    (case na_NotationError_word => k_is)
    (case na_DecodeError_offset => k_is)
    (case oc_Book => k_is)
    (case on_Book => k_is)
    (case ot_Book => k_is)
    (case om_Book => k_is)
    (case oe_Book => k_is)
    (case ki_Book => first | kernel_rfl | kit_is | rfl)
    (case ku_Book => first | kernel_rfl | kit_is | rfl)
    (case b_isinstance => k_is)
    (case b_int => k_is)
    (case b_bool => k_is)
    (case b_str => k_is)
    (case b_tuple => k_is)
    (case b_list => k_is)
    (case b_len => k_is)
    (case b_all => k_is)
    (case b_any => k_is)
    (case b_enumerate => k_is)
    (case b_range => k_is)
    (case b_min => k_is)
    (case b_max => k_is)
    (case b_bytes => k_is)
    (case b_ValueError => k_is)
    (case sf => k_is)
